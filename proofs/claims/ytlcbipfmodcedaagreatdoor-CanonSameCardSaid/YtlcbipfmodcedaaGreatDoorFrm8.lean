/- Part 8: Tab, Drz, ReadG, ReadM, GlobB, Cmp7, Lists7, Rise7, Sets1, Sets2, ListS, Over7, Find7, Fits7, Utf1, StrLib. Conditions: as each part says. -/
import Derived.Test.YtlcbipfmodcedaaGreatDoorProg
import Derived.Test.YtlcbipfmodcedaaGreatDoorRows
import Derived.Lib.LaidTab
import Derived.LaidSub
import Derived.Lib.Bytealg
import Derived.Test.YtlcbipfmodcedaaGreatDoorFrm5
import Derived.Test.YtlcbipfmodcedaaGreatDoorFrm7
set_option maxRecDepth 100000
namespace Go.Proofs.YtlcbipfmodcedaaGreatDoor
open Go.Sx
open _root_.Go.Proofs.Tryz
def bt{K:Type}(t n:Nat)(a b:K):K:=match Nat.ble t n with|true=>a|false=>b
theorem Fo{K:Type}{t n:Nat}{a b:K}(h:Nat.ble t n=false):bt t n a b=b:=by unfold bt;rw[h]
def N8(t:TypeId):Sh:=bt t 353 (bt t 176 (bt t 87 (bt t 43 (bt t 21 (bt t 10 (bt t 4 (bt t 1 (bt t 0 .plain .func) (bt t 2 (.int .i64) (bt t 3 (.int .i64) .bool))) (bt t 7 (bt t 5 (.int .u8) (bt t 6 (.int .u8) (.struct [(0,2),(1,3),(2,4),(3,6)]))) (bt t 8 (.struct [(0,2),(1,3),(2,4),(3,6)]) .str))) (bt t 15 (bt t 12 (bt t 11 .str (.int .u64)) (bt t 13 (.struct [(0,9),(1,12)]) (bt t 14 (.struct [(0,9),(1,12)]) (.ptr 342)))) (bt t 18 (bt t 16 (.ptr 345) (bt t 17 (.ptr 353) (.struct [(0,17)]))) (bt t 19 (.struct [(0,17)]) (bt t 20 .iface (.int .i32)))))) (bt t 32 (bt t 26 (bt t 23 (bt t 22 (.slice 67) .func) (bt t 24 (.slice 31) (bt t 25 (.int .i64) .plain))) (bt t 29 (bt t 27 .func (bt t 28 .plain .func)) (bt t 30 .func (bt t 31 (.slice 9) .func)))) (bt t 37 (bt t 34 (bt t 33 (.slice 39) .plain) (bt t 35 .func (bt t 36 .plain .func))) (bt t 40 (bt t 38 (.struct [(0,9),(1,9)]) (bt t 39 (.struct [(0,9),(1,9)]) .func)) (bt t 41 .func (bt t 42 .func .plain)))))) (bt t 65 (bt t 54 (bt t 48 (bt t 45 .func (bt t 46 .func (bt t 47 .func .plain))) (bt t 51 .func (bt t 52 (.slice 5) (bt t 53 .plain .func)))) (bt t 59 (bt t 56 (bt t 55 .plain .func) (bt t 57 (.array 32 5) (bt t 58 .plain .func))) (bt t 62 (bt t 60 .func (bt t 61 .func .plain)) (bt t 63 .func (.struct [(0,3),(1,9),(2,9),(3,9)]))))) (bt t 76 (bt t 70 (bt t 67 (.struct [(0,65),(4,65),(8,65),(12,65)]) (bt t 68 .func (bt t 69 (.ptr 77) .plain))) (bt t 73 (bt t 71 .func (bt t 72 (.slice 3) .func)) (bt t 74 (.map 9 3) (bt t 75 (.slice 72) (.struct [(0,22),(1,31),(2,74),(3,75)]))))) (bt t 81 (bt t 78 (bt t 77 (.struct [(0,22),(1,31),(2,74),(3,75)]) (.map 3 31)) (bt t 79 .func (bt t 80 (.ptr 83) .func))) (bt t 84 (bt t 82 (.struct [(0,22),(1,31),(2,74),(3,75)]) (bt t 83 (.struct [(0,22),(1,31),(2,74),(3,75)]) .func)) (bt t 85 .func (bt t 86 .func (.ptr 3)))))))) (bt t 131 (bt t 109 (bt t 98 (bt t 92 (bt t 89 .func (bt t 90 .func (bt t 91 (.ptr 93) (.struct [(0,80),(1,3),(2,4),(3,4),(4,22),(5,33)])))) (bt t 95 (bt t 93 (.struct [(0,80),(1,3),(2,4),(3,4),(4,22),(5,33)]) .func) .func)) (bt t 103 (bt t 100 (bt t 99 (.ptr 65) (.array 4 99)) (bt t 101 .func (bt t 102 (.ptr 67) .plain))) (bt t 106 (bt t 104 .func (bt t 105 .func (.array 4 65))) (bt t 107 .func (bt t 108 .func (.ptr 160)))))) (bt t 120 (bt t 114 (bt t 111 (bt t 110 .func .plain) .func) (bt t 117 (bt t 115 .func (bt t 116 (.ptr 121) .func)) (bt t 118 (.slice 200) (bt t 119 (.slice 22) (.struct [(0,31),(1,72),(2,118),(3,119),(4,3)]))))) (bt t 125 (bt t 122 (bt t 121 (.struct [(0,31),(1,72),(2,118),(3,119),(4,3)]) (.ptr 125)) (bt t 123 (.map 106 3) (.struct [(0,116),(1,3),(2,123),(3,72),(4,72),(5,3)]))) (bt t 128 (bt t 126 .func (bt t 127 .plain .func)) (bt t 129 .func (bt t 130 .plain .func)))))) (bt t 153 (bt t 142 (bt t 136 (bt t 133 (bt t 132 (.slice 135) .func) (bt t 134 (.struct [(0,3),(1,3),(2,22)]) (bt t 135 (.struct [(0,3),(1,3),(2,22)]) .func))) (bt t 139 .func (bt t 140 .func (bt t 141 .plain .func)))) (bt t 147 (bt t 144 (bt t 143 (.slice 65) .func) .func) .func)) (bt t 164 (bt t 158 (bt t 155 .func (bt t 156 .func (bt t 157 (.int .u32) (.array 8 157)))) (bt t 161 (bt t 159 (.struct [(0,158),(8,52),(9,3)]) (bt t 160 (.struct [(0,158),(8,52),(9,3)]) .func)) (bt t 162 (.int .u64) .func))) (bt t 170 .func (bt t 173 (bt t 171 .func (bt t 172 .func (.map 3 3))) (bt t 174 (.map 3 72) .func))))))) (bt t 264 (bt t 220 (bt t 198 (bt t 187 (bt t 181 (bt t 178 (bt t 177 (.int .u64) .func) .func) (bt t 184 (bt t 182 .func (bt t 183 .func (.ptr 186))) (bt t 185 (.struct [(0,184),(1,52)]) (bt t 186 (.struct [(0,184),(1,52)]) .func)))) (bt t 192 (bt t 189 .iface (bt t 190 .plain .func)) (bt t 195 (bt t 193 .func (bt t 194 (.array 64 157) .func)) (bt t 196 (.array 4 3) (.struct [(0,106),(16,196)]))))) (bt t 209 (bt t 203 (bt t 200 (bt t 199 .func (.slice 198)) .func) (bt t 206 .func (bt t 207 (.int .i64) (bt t 208 .plain .func)))) (bt t 214 .func (bt t 217 (bt t 215 (.array 24 5) (bt t 216 .func .plain)) .func)))) (bt t 242 (bt t 231 (bt t 225 (bt t 222 (bt t 221 .func (.struct [(0,9),(1,9),(2,9),(3,9),(4,31),(5,31),(6,9)])) (bt t 223 (.struct [(0,9),(1,9),(2,9),(3,9),(4,31),(5,31),(6,9)]) (bt t 224 .plain .func))) .func) (bt t 236 (bt t 233 (bt t 232 .func .plain) (bt t 234 .func (bt t 235 (.ptr 5) (.struct [(0,3),(1,3)])))) (bt t 239 (bt t 237 (.struct [(0,3),(1,3)]) (bt t 238 .plain .func)) (bt t 240 .func (bt t 241 (.array 3 9) .func))))) (bt t 253 (bt t 247 .func (bt t 250 (bt t 248 .func (bt t 249 .func (.int .u64))) .func)) (bt t 258 (bt t 255 .func (bt t 256 .func (bt t 257 (.array 20 162) (.array 65 5)))) (bt t 261 .func (bt t 262 .plain (bt t 263 .func (.ptr 267)))))))) (bt t 308 (bt t 286 (bt t 275 (bt t 269 (bt t 266 (bt t 265 .func (.struct [(0,31),(1,223)])) (bt t 267 (.struct [(0,31),(1,223)]) .func)) (bt t 272 (bt t 270 .plain (bt t 271 .func (.slice 25))) .func)) (bt t 280 (bt t 277 (bt t 276 .func .plain) .func) .func)) (bt t 297 (bt t 291 (bt t 288 (bt t 287 .func .plain) (bt t 289 .func (bt t 290 .plain .func))) (bt t 294 (bt t 292 (.ptr 250) .func) (bt t 295 .func (bt t 296 .plain .func)))) (bt t 302 .func (bt t 305 (bt t 303 (.ptr 305) (.struct [(0,3),(1,189)])) .func)))) (bt t 330 (bt t 319 (bt t 313 .func (bt t 316 (bt t 314 .func (bt t 315 (.ptr 318) .func)) (bt t 317 (.struct [(0,31)]) (bt t 318 (.struct [(0,31)]) .func)))) (bt t 324 (bt t 321 (bt t 320 (.ptr 223) .func) (bt t 322 .func (bt t 323 (.array 64 5) .func))) (bt t 327 (bt t 325 (.array 5 21) .func) (bt t 328 (.array 5 3) (bt t 329 .func (.array 28 3)))))) (bt t 341 (bt t 335 (bt t 332 .func (bt t 333 (.array 24 21) (bt t 334 .func (.array 256 5)))) (bt t 338 (bt t 336 (.struct [(0,5),(1,5)]) (bt t 337 (.struct [(0,5),(1,5)]) (.array 16 337))) (bt t 339 .plain (bt t 340 .func (.struct [(0,17),(1,17),(2,17),(3,9)]))))) (bt t 347 (bt t 344 (bt t 342 (.struct [(0,17),(1,17),(2,17),(3,9)]) (bt t 343 (.array 0 16) (.struct [(0,343)]))) (bt t 345 (.struct [(0,343)]) (bt t 346 .func (.int .u8)))) (bt t 350 (bt t 348 (.int .u8) (bt t 349 .func (.int .i32))) (bt t 351 (.int .i32) (.struct [(0,12),(1,12),(2,157),(3,347),(4,5),(5,5),(6,348),(7,349),(8,235),(9,350),(10,351)]))))))))) .other
def ZhX(t:TypeId):Nat:=bt t 353 (bt t 176 (bt t 87 (bt t 43 (bt t 21 (bt t 10 (bt t 4 1 (bt t 7 (bt t 5 1 (bt t 6 1 4)) (bt t 8 4 1))) (bt t 15 (bt t 12 1 (bt t 13 2 (bt t 14 2 1))) 1)) (bt t 32 1 (bt t 37 1 (bt t 40 (bt t 38 2 (bt t 39 2 1)) 1)))) (bt t 65 (bt t 54 1 (bt t 59 (bt t 56 1 (bt t 57 32 1)) (bt t 62 1 (bt t 63 1 4)))) (bt t 76 (bt t 70 (bt t 67 16 1) (bt t 73 1 (bt t 74 1 (bt t 75 1 4)))) (bt t 81 (bt t 78 (bt t 77 4 1) 1) (bt t 84 (bt t 82 4 (bt t 83 4 1)) 1))))) (bt t 131 (bt t 109 (bt t 98 (bt t 92 (bt t 89 1 (bt t 90 1 (bt t 91 1 6))) (bt t 95 (bt t 93 6 1) 1)) (bt t 103 (bt t 100 (bt t 99 1 4) 1) (bt t 106 (bt t 104 1 (bt t 105 1 16)) 1))) (bt t 120 (bt t 114 1 (bt t 117 1 (bt t 118 1 (bt t 119 1 5)))) (bt t 125 (bt t 122 (bt t 121 5 1) (bt t 123 1 6)) 1))) (bt t 153 (bt t 142 (bt t 136 (bt t 133 1 (bt t 134 3 (bt t 135 3 1))) 1) 1) (bt t 164 (bt t 158 (bt t 155 1 (bt t 156 1 (bt t 157 1 8))) (bt t 161 (bt t 159 10 (bt t 160 10 1)) 1)) 1)))) (bt t 264 (bt t 220 (bt t 198 (bt t 187 (bt t 181 1 (bt t 184 1 (bt t 185 2 (bt t 186 2 1)))) (bt t 192 1 (bt t 195 (bt t 193 1 (bt t 194 64 1)) (bt t 196 4 20)))) (bt t 209 1 (bt t 214 1 (bt t 217 (bt t 215 24 1) 1)))) (bt t 242 (bt t 231 (bt t 225 (bt t 222 (bt t 221 1 7) (bt t 223 7 1)) 1) (bt t 236 (bt t 233 1 (bt t 234 1 (bt t 235 1 2))) (bt t 239 (bt t 237 2 1) (bt t 240 1 (bt t 241 3 1))))) (bt t 253 1 (bt t 258 (bt t 255 1 (bt t 256 1 (bt t 257 20 65))) 1)))) (bt t 308 (bt t 286 (bt t 275 (bt t 269 (bt t 266 (bt t 265 1 8) (bt t 267 8 1)) 1) 1) (bt t 297 1 (bt t 302 1 (bt t 305 (bt t 303 1 2) 1)))) (bt t 330 (bt t 319 1 (bt t 324 (bt t 321 1 (bt t 322 1 (bt t 323 64 1))) (bt t 327 (bt t 325 5 1) (bt t 328 5 (bt t 329 1 28))))) (bt t 341 (bt t 335 (bt t 332 1 (bt t 333 24 (bt t 334 1 256))) (bt t 338 (bt t 336 2 (bt t 337 2 32)) (bt t 339 1 (bt t 340 1 4)))) (bt t 347 (bt t 344 (bt t 342 4 0) (bt t 345 0 1)) (bt t 350 1 (bt t 351 1 11)))))))) 0
def N9(t:TypeId):List SV:=bt t 353 (bt t 176 (bt t 87 (bt t 43 (bt t 21 (bt t 10 (bt t 4 (bt t 1 (bt t 0 [] [.val .nilFunc]) (bt t 2 [.int .i64 (0)] (bt t 3 [.int .i64 (0)] [.bool false]))) (bt t 7 (bt t 5 [.int .u8 (0)] (bt t 6 [.int .u8 (0)] [.int .i64 (0), .int .i64 (0), .bool false, .int .u8 (0)])) (bt t 8 [.int .i64 (0), .int .i64 (0), .bool false, .int .u8 (0)] ([.str []])))) (bt t 15 (bt t 12 (bt t 11 [.str []] [.int .u64 (0)]) (bt t 13 [.str [], .int .u64 (0)] (bt t 14 [.str [], .int .u64 (0)] [.val (.pointer none)]))) (bt t 18 [.val (.pointer none)] (bt t 19 [.val (.pointer none)] (bt t 20 [.val .nilIface] [.int .i32 (0)]))))) (bt t 32 (bt t 26 (bt t 23 (bt t 22 [.val (.slice none 0 0)] [.val .nilFunc]) (bt t 24 [.val (.slice none 0 0)] (bt t 25 [.int .i64 (0)] []))) (bt t 29 (bt t 27 [.val .nilFunc] (bt t 28 [] [.val .nilFunc])) (bt t 30 [.val .nilFunc] (bt t 31 [.val (.slice none 0 0)] [.val .nilFunc])))) (bt t 37 (bt t 34 (bt t 33 [.val (.slice none 0 0)] []) (bt t 35 [.val .nilFunc] (bt t 36 [] [.val .nilFunc]))) (bt t 40 (bt t 38 [.str [], .str []] (bt t 39 [.str [], .str []] [.val .nilFunc])) (bt t 41 [.val .nilFunc] (bt t 42 [.val .nilFunc] [])))))) (bt t 65 (bt t 54 (bt t 48 (bt t 45 [.val .nilFunc] (bt t 46 [.val .nilFunc] (bt t 47 [.val .nilFunc] []))) (bt t 51 [.val .nilFunc] (bt t 52 [.val (.slice none 0 0)] (bt t 53 [] [.val .nilFunc])))) (bt t 59 (bt t 56 (bt t 55 [] [.val .nilFunc]) (bt t 57 [.int .u8 (0), .int .u8 (0), .int .u8 (0), .int .u8 (0), .int .u8 (0), .int .u8 (0), .int .u8 (0), .int .u8 (0), .int .u8 (0), .int .u8 (0), .int .u8 (0), .int .u8 (0), .int .u8 (0), .int .u8 (0), .int .u8 (0), .int .u8 (0), .int .u8 (0), .int .u8 (0), .int .u8 (0), .int .u8 (0), .int .u8 (0), .int .u8 (0), .int .u8 (0), .int .u8 (0), .int .u8 (0), .int .u8 (0), .int .u8 (0), .int .u8 (0), .int .u8 (0), .int .u8 (0), .int .u8 (0), .int .u8 (0)] (bt t 58 [] [.val .nilFunc]))) (bt t 62 (bt t 60 [.val .nilFunc] (bt t 61 [.val .nilFunc] [])) (bt t 63 [.val .nilFunc] ([.int .i64 (0), .str [], .str [], .str []]))))) (bt t 76 (bt t 70 (bt t 67 ([.int .i64 (0), .str [], .str [], .str [], .int .i64 (0), .str [], .str [], .str [], .int .i64 (0), .str [], .str [], .str [], .int .i64 (0), .str [], .str [], .str []]) (bt t 68 [.val .nilFunc] (bt t 69 [.val (.pointer none)] []))) (bt t 73 (bt t 71 [.val .nilFunc] (bt t 72 [.val (.slice none 0 0)] [.val .nilFunc])) (bt t 74 [.val (.map none)] (bt t 75 [.val (.slice none 0 0)] [.val (.slice none 0 0), .val (.slice none 0 0), .val (.map none), .val (.slice none 0 0)])))) (bt t 81 (bt t 78 (bt t 77 [.val (.slice none 0 0), .val (.slice none 0 0), .val (.map none), .val (.slice none 0 0)] [.val (.map none)]) (bt t 79 [.val .nilFunc] (bt t 80 [.val (.pointer none)] [.val .nilFunc]))) (bt t 84 (bt t 82 [.val (.slice none 0 0), .val (.slice none 0 0), .val (.map none), .val (.slice none 0 0)] (bt t 83 [.val (.slice none 0 0), .val (.slice none 0 0), .val (.map none), .val (.slice none 0 0)] [.val .nilFunc])) (bt t 85 [.val .nilFunc] (bt t 86 [.val .nilFunc] [.val (.pointer none)]))))))) (bt t 131 (bt t 109 (bt t 98 (bt t 92 (bt t 89 [.val .nilFunc] (bt t 90 [.val .nilFunc] (bt t 91 [.val (.pointer none)] [.val (.pointer none), .int .i64 (0), .bool false, .bool false, .val (.slice none 0 0), .val (.slice none 0 0)]))) (bt t 95 (bt t 93 [.val (.pointer none), .int .i64 (0), .bool false, .bool false, .val (.slice none 0 0), .val (.slice none 0 0)] [.val .nilFunc]) [.val .nilFunc])) (bt t 103 (bt t 100 (bt t 99 [.val (.pointer none)] [.val (.pointer none), .val (.pointer none), .val (.pointer none), .val (.pointer none)]) (bt t 101 [.val .nilFunc] (bt t 102 [.val (.pointer none)] []))) (bt t 106 (bt t 104 [.val .nilFunc] (bt t 105 [.val .nilFunc] [.int .i64 (0), .str [], .str [], .str [], .int .i64 (0), .str [], .str [], .str [], .int .i64 (0), .str [], .str [], .str [], .int .i64 (0), .str [], .str [], .str []])) (bt t 107 [.val .nilFunc] (bt t 108 [.val .nilFunc] [.val (.pointer none)]))))) (bt t 120 (bt t 114 (bt t 111 (bt t 110 [.val .nilFunc] []) [.val .nilFunc]) (bt t 117 (bt t 115 [.val .nilFunc] (bt t 116 [.val (.pointer none)] [.val .nilFunc])) (bt t 118 [.val (.slice none 0 0)] (bt t 119 [.val (.slice none 0 0)] [.val (.slice none 0 0), .val (.slice none 0 0), .val (.slice none 0 0), .val (.slice none 0 0), .int .i64 (0)])))) (bt t 125 (bt t 122 (bt t 121 [.val (.slice none 0 0), .val (.slice none 0 0), .val (.slice none 0 0), .val (.slice none 0 0), .int .i64 (0)] [.val (.pointer none)]) (bt t 123 [.val (.map none)] [.val (.pointer none), .int .i64 (0), .val (.map none), .val (.slice none 0 0), .val (.slice none 0 0), .int .i64 (0)])) (bt t 128 (bt t 126 [.val .nilFunc] (bt t 127 [] [.val .nilFunc])) (bt t 129 [.val .nilFunc] (bt t 130 [] [.val .nilFunc])))))) (bt t 153 (bt t 142 (bt t 136 (bt t 133 (bt t 132 [.val (.slice none 0 0)] [.val .nilFunc]) (bt t 134 [.int .i64 (0), .int .i64 (0), .val (.slice none 0 0)] (bt t 135 [.int .i64 (0), .int .i64 (0), .val (.slice none 0 0)] [.val .nilFunc]))) (bt t 139 [.val .nilFunc] (bt t 140 [.val .nilFunc] (bt t 141 [] [.val .nilFunc])))) (bt t 147 (bt t 144 (bt t 143 [.val (.slice none 0 0)] [.val .nilFunc]) [.val .nilFunc]) [.val .nilFunc])) (bt t 164 (bt t 158 (bt t 155 [.val .nilFunc] (bt t 156 [.val .nilFunc] (bt t 157 [.int .u32 (0)] [.int .u32 (0), .int .u32 (0), .int .u32 (0), .int .u32 (0), .int .u32 (0), .int .u32 (0), .int .u32 (0), .int .u32 (0)]))) (bt t 161 (bt t 159 [.int .u32 (0), .int .u32 (0), .int .u32 (0), .int .u32 (0), .int .u32 (0), .int .u32 (0), .int .u32 (0), .int .u32 (0), .val (.slice none 0 0), .int .i64 (0)] (bt t 160 [.int .u32 (0), .int .u32 (0), .int .u32 (0), .int .u32 (0), .int .u32 (0), .int .u32 (0), .int .u32 (0), .int .u32 (0), .val (.slice none 0 0), .int .i64 (0)] [.val .nilFunc])) (bt t 162 [.int .u64 (0)] [.val .nilFunc]))) (bt t 170 [.val .nilFunc] (bt t 173 (bt t 171 [.val .nilFunc] (bt t 172 [.val .nilFunc] [.val (.map none)])) (bt t 174 [.val (.map none)] [.val .nilFunc]))))))) (bt t 264 (bt t 220 (bt t 198 (bt t 187 (bt t 181 (bt t 178 (bt t 177 [.int .u64 (0)] [.val .nilFunc]) [.val .nilFunc]) (bt t 184 (bt t 182 [.val .nilFunc] (bt t 183 [.val .nilFunc] [.val (.pointer none)])) (bt t 185 [.val (.pointer none), .val (.slice none 0 0)] (bt t 186 [.val (.pointer none), .val (.slice none 0 0)] [.val .nilFunc])))) (bt t 192 (bt t 189 [.val .nilIface] (bt t 190 [] [.val .nilFunc])) (bt t 195 (bt t 193 [.val .nilFunc] (bt t 194 [.int .u32 (0), .int .u32 (0), .int .u32 (0), .int .u32 (0), .int .u32 (0), .int .u32 (0), .int .u32 (0), .int .u32 (0), .int .u32 (0), .int .u32 (0), .int .u32 (0), .int .u32 (0), .int .u32 (0), .int .u32 (0), .int .u32 (0), .int .u32 (0), .int .u32 (0), .int .u32 (0), .int .u32 (0), .int .u32 (0), .int .u32 (0), .int .u32 (0), .int .u32 (0), .int .u32 (0), .int .u32 (0), .int .u32 (0), .int .u32 (0), .int .u32 (0), .int .u32 (0), .int .u32 (0), .int .u32 (0), .int .u32 (0), .int .u32 (0), .int .u32 (0), .int .u32 (0), .int .u32 (0), .int .u32 (0), .int .u32 (0), .int .u32 (0), .int .u32 (0), .int .u32 (0), .int .u32 (0), .int .u32 (0), .int .u32 (0), .int .u32 (0), .int .u32 (0), .int .u32 (0), .int .u32 (0), .int .u32 (0), .int .u32 (0), .int .u32 (0), .int .u32 (0), .int .u32 (0), .int .u32 (0), .int .u32 (0), .int .u32 (0), .int .u32 (0), .int .u32 (0), .int .u32 (0), .int .u32 (0), .int .u32 (0), .int .u32 (0), .int .u32 (0), .int .u32 (0)] [.val .nilFunc])) (bt t 196 [.int .i64 (0), .int .i64 (0), .int .i64 (0), .int .i64 (0)] ([.int .i64 (0), .str [], .str [], .str [], .int .i64 (0), .str [], .str [], .str [], .int .i64 (0), .str [], .str [], .str [], .int .i64 (0), .str [], .str [], .str [], .int .i64 (0), .int .i64 (0), .int .i64 (0), .int .i64 (0)]))))) (bt t 209 (bt t 203 (bt t 200 (bt t 199 [.val .nilFunc] [.val (.slice none 0 0)]) [.val .nilFunc]) (bt t 206 [.val .nilFunc] (bt t 207 [.int .i64 (0)] (bt t 208 [] [.val .nilFunc])))) (bt t 214 [.val .nilFunc] (bt t 217 (bt t 215 [.int .u8 (0), .int .u8 (0), .int .u8 (0), .int .u8 (0), .int .u8 (0), .int .u8 (0), .int .u8 (0), .int .u8 (0), .int .u8 (0), .int .u8 (0), .int .u8 (0), .int .u8 (0), .int .u8 (0), .int .u8 (0), .int .u8 (0), .int .u8 (0), .int .u8 (0), .int .u8 (0), .int .u8 (0), .int .u8 (0), .int .u8 (0), .int .u8 (0), .int .u8 (0), .int .u8 (0)] (bt t 216 [.val .nilFunc] [])) [.val .nilFunc])))) (bt t 242 (bt t 231 (bt t 225 (bt t 222 (bt t 221 [.val .nilFunc] [.str [], .str [], .str [], .str [], .val (.slice none 0 0), .val (.slice none 0 0), .str []]) (bt t 223 [.str [], .str [], .str [], .str [], .val (.slice none 0 0), .val (.slice none 0 0), .str []] (bt t 224 [] [.val .nilFunc]))) [.val .nilFunc]) (bt t 236 (bt t 233 (bt t 232 [.val .nilFunc] []) (bt t 234 [.val .nilFunc] (bt t 235 [.val (.pointer none)] [.int .i64 (0), .int .i64 (0)]))) (bt t 239 (bt t 237 [.int .i64 (0), .int .i64 (0)] (bt t 238 [] [.val .nilFunc])) (bt t 240 [.val .nilFunc] (bt t 241 [.str [], .str [], .str []] [.val .nilFunc]))))) (bt t 253 (bt t 247 [.val .nilFunc] (bt t 250 (bt t 248 [.val .nilFunc] (bt t 249 [.val .nilFunc] [.int .u64 (0)])) [.val .nilFunc])) (bt t 258 (bt t 255 [.val .nilFunc] (bt t 256 [.val .nilFunc] (bt t 257 [.int .u64 (0), .int .u64 (0), .int .u64 (0), .int .u64 (0), .int .u64 (0), .int .u64 (0), .int .u64 (0), .int .u64 (0), .int .u64 (0), .int .u64 (0), .int .u64 (0), .int .u64 (0), .int .u64 (0), .int .u64 (0), .int .u64 (0), .int .u64 (0), .int .u64 (0), .int .u64 (0), .int .u64 (0), .int .u64 (0)] [.int .u8 (0), .int .u8 (0), .int .u8 (0), .int .u8 (0), .int .u8 (0), .int .u8 (0), .int .u8 (0), .int .u8 (0), .int .u8 (0), .int .u8 (0), .int .u8 (0), .int .u8 (0), .int .u8 (0), .int .u8 (0), .int .u8 (0), .int .u8 (0), .int .u8 (0), .int .u8 (0), .int .u8 (0), .int .u8 (0), .int .u8 (0), .int .u8 (0), .int .u8 (0), .int .u8 (0), .int .u8 (0), .int .u8 (0), .int .u8 (0), .int .u8 (0), .int .u8 (0), .int .u8 (0), .int .u8 (0), .int .u8 (0), .int .u8 (0), .int .u8 (0), .int .u8 (0), .int .u8 (0), .int .u8 (0), .int .u8 (0), .int .u8 (0), .int .u8 (0), .int .u8 (0), .int .u8 (0), .int .u8 (0), .int .u8 (0), .int .u8 (0), .int .u8 (0), .int .u8 (0), .int .u8 (0), .int .u8 (0), .int .u8 (0), .int .u8 (0), .int .u8 (0), .int .u8 (0), .int .u8 (0), .int .u8 (0), .int .u8 (0), .int .u8 (0), .int .u8 (0), .int .u8 (0), .int .u8 (0), .int .u8 (0), .int .u8 (0), .int .u8 (0), .int .u8 (0), .int .u8 (0)]))) (bt t 261 [.val .nilFunc] (bt t 262 [] (bt t 263 [.val .nilFunc] [.val (.pointer none)]))))))) (bt t 308 (bt t 286 (bt t 275 (bt t 269 (bt t 266 (bt t 265 [.val .nilFunc] [.val (.slice none 0 0), .str [], .str [], .str [], .str [], .val (.slice none 0 0), .val (.slice none 0 0), .str []]) (bt t 267 [.val (.slice none 0 0), .str [], .str [], .str [], .str [], .val (.slice none 0 0), .val (.slice none 0 0), .str []] [.val .nilFunc])) (bt t 272 (bt t 270 [] (bt t 271 [.val .nilFunc] [.val (.slice none 0 0)])) [.val .nilFunc])) (bt t 280 (bt t 277 (bt t 276 [.val .nilFunc] [.val (.pointer none)]) [.val .nilFunc]) [.val .nilFunc])) (bt t 297 (bt t 291 (bt t 288 (bt t 287 [.val .nilFunc] []) (bt t 289 [.val .nilFunc] (bt t 290 [] [.val .nilFunc]))) (bt t 294 (bt t 292 [.val (.pointer none)] [.val .nilFunc]) (bt t 295 [.val .nilFunc] (bt t 296 [] [.val .nilFunc])))) (bt t 302 [.val .nilFunc] (bt t 305 (bt t 303 [.val (.pointer none)] [.int .i64 (0), .val .nilIface]) [.val .nilFunc])))) (bt t 330 (bt t 319 (bt t 313 [.val .nilFunc] (bt t 316 (bt t 314 [.val .nilFunc] (bt t 315 [.val (.pointer none)] [.val .nilFunc])) (bt t 317 [.val (.slice none 0 0)] (bt t 318 [.val (.slice none 0 0)] [.val .nilFunc])))) (bt t 324 (bt t 321 (bt t 320 [.val (.pointer none)] [.val .nilFunc]) (bt t 322 [.val .nilFunc] (bt t 323 [.int .u8 (0), .int .u8 (0), .int .u8 (0), .int .u8 (0), .int .u8 (0), .int .u8 (0), .int .u8 (0), .int .u8 (0), .int .u8 (0), .int .u8 (0), .int .u8 (0), .int .u8 (0), .int .u8 (0), .int .u8 (0), .int .u8 (0), .int .u8 (0), .int .u8 (0), .int .u8 (0), .int .u8 (0), .int .u8 (0), .int .u8 (0), .int .u8 (0), .int .u8 (0), .int .u8 (0), .int .u8 (0), .int .u8 (0), .int .u8 (0), .int .u8 (0), .int .u8 (0), .int .u8 (0), .int .u8 (0), .int .u8 (0), .int .u8 (0), .int .u8 (0), .int .u8 (0), .int .u8 (0), .int .u8 (0), .int .u8 (0), .int .u8 (0), .int .u8 (0), .int .u8 (0), .int .u8 (0), .int .u8 (0), .int .u8 (0), .int .u8 (0), .int .u8 (0), .int .u8 (0), .int .u8 (0), .int .u8 (0), .int .u8 (0), .int .u8 (0), .int .u8 (0), .int .u8 (0), .int .u8 (0), .int .u8 (0), .int .u8 (0), .int .u8 (0), .int .u8 (0), .int .u8 (0), .int .u8 (0), .int .u8 (0), .int .u8 (0), .int .u8 (0), .int .u8 (0)] [.val .nilFunc]))) (bt t 327 (bt t 325 [.int .i32 (0), .int .i32 (0), .int .i32 (0), .int .i32 (0), .int .i32 (0)] [.val .nilFunc]) (bt t 328 [.int .i64 (0), .int .i64 (0), .int .i64 (0), .int .i64 (0), .int .i64 (0)] (bt t 329 [.val .nilFunc] [.int .i64 (0), .int .i64 (0), .int .i64 (0), .int .i64 (0), .int .i64 (0), .int .i64 (0), .int .i64 (0), .int .i64 (0), .int .i64 (0), .int .i64 (0), .int .i64 (0), .int .i64 (0), .int .i64 (0), .int .i64 (0), .int .i64 (0), .int .i64 (0), .int .i64 (0), .int .i64 (0), .int .i64 (0), .int .i64 (0), .int .i64 (0), .int .i64 (0), .int .i64 (0), .int .i64 (0), .int .i64 (0), .int .i64 (0), .int .i64 (0), .int .i64 (0)]))))) (bt t 341 (bt t 335 (bt t 332 [.val .nilFunc] (bt t 333 [.int .i32 (0), .int .i32 (0), .int .i32 (0), .int .i32 (0), .int .i32 (0), .int .i32 (0), .int .i32 (0), .int .i32 (0), .int .i32 (0), .int .i32 (0), .int .i32 (0), .int .i32 (0), .int .i32 (0), .int .i32 (0), .int .i32 (0), .int .i32 (0), .int .i32 (0), .int .i32 (0), .int .i32 (0), .int .i32 (0), .int .i32 (0), .int .i32 (0), .int .i32 (0), .int .i32 (0)] (bt t 334 [.val .nilFunc] []))) (bt t 338 (bt t 336 [.int .u8 (0), .int .u8 (0)] (bt t 337 [.int .u8 (0), .int .u8 (0)] [.int .u8 (0), .int .u8 (0), .int .u8 (0), .int .u8 (0), .int .u8 (0), .int .u8 (0), .int .u8 (0), .int .u8 (0), .int .u8 (0), .int .u8 (0), .int .u8 (0), .int .u8 (0), .int .u8 (0), .int .u8 (0), .int .u8 (0), .int .u8 (0), .int .u8 (0), .int .u8 (0), .int .u8 (0), .int .u8 (0), .int .u8 (0), .int .u8 (0), .int .u8 (0), .int .u8 (0), .int .u8 (0), .int .u8 (0), .int .u8 (0), .int .u8 (0), .int .u8 (0), .int .u8 (0), .int .u8 (0), .int .u8 (0)])) (bt t 339 [] (bt t 340 [.val .nilFunc] [.val (.pointer none), .val (.pointer none), .val (.pointer none), .str []])))) (bt t 347 (bt t 344 (bt t 342 [.val (.pointer none), .val (.pointer none), .val (.pointer none), .str []] []) (bt t 345 [] (bt t 346 [.val .nilFunc] [.int .u8 (0)]))) (bt t 350 (bt t 348 [.int .u8 (0)] (bt t 349 [.val .nilFunc] [.int .i32 (0)])) (bt t 351 [.int .i32 (0)] [.int .u64 (0), .int .u64 (0), .int .u32 (0), .int .u8 (0), .int .u8 (0), .int .u8 (0), .int .u8 (0), .val .nilFunc, .val (.pointer none), .int .i32 (0), .int .i32 (0)])))))))) []
def ZfP(t:TypeId):Nat:=bt t 353 (bt t 176 (bt t 87 (bt t 43 (bt t 21 (bt t 10 (bt t 4 (bt t 1 (bt t 0 0 8) (bt t 2 8 (bt t 3 8 1))) (bt t 7 (bt t 5 1 (bt t 6 1 24)) (bt t 8 24 16))) (bt t 15 (bt t 12 (bt t 11 16 8) (bt t 13 24 (bt t 14 24 8))) (bt t 18 8 (bt t 19 8 (bt t 20 16 4))))) (bt t 32 (bt t 26 (bt t 23 (bt t 22 24 8) (bt t 24 24 (bt t 25 8 0))) (bt t 29 (bt t 27 8 (bt t 28 0 8)) (bt t 30 8 (bt t 31 24 8)))) (bt t 37 (bt t 34 (bt t 33 24 0) (bt t 35 8 (bt t 36 0 8))) (bt t 40 (bt t 38 32 (bt t 39 32 8)) (bt t 41 8 (bt t 42 8 0)))))) (bt t 65 (bt t 54 (bt t 48 (bt t 45 8 (bt t 46 8 (bt t 47 8 0))) (bt t 51 8 (bt t 52 24 (bt t 53 0 8)))) (bt t 59 (bt t 56 (bt t 55 0 8) (bt t 57 32 (bt t 58 0 8))) (bt t 62 (bt t 60 8 (bt t 61 8 0)) (bt t 63 8 56)))) (bt t 76 (bt t 70 (bt t 67 224 (bt t 68 8 (bt t 69 8 0))) (bt t 73 (bt t 71 8 (bt t 72 24 8)) (bt t 74 8 (bt t 75 24 80)))) (bt t 81 (bt t 78 (bt t 77 80 8) 8) (bt t 84 (bt t 82 80 (bt t 83 80 8)) 8))))) (bt t 131 (bt t 109 (bt t 98 (bt t 92 (bt t 89 8 (bt t 90 8 (bt t 91 8 72))) (bt t 95 (bt t 93 72 8) 8)) (bt t 103 (bt t 100 (bt t 99 8 32) (bt t 101 8 (bt t 102 8 0))) (bt t 106 (bt t 104 8 (bt t 105 8 224)) 8))) (bt t 120 (bt t 114 (bt t 111 (bt t 110 8 0) 8) (bt t 117 8 (bt t 118 24 (bt t 119 24 104)))) (bt t 125 (bt t 122 (bt t 121 104 8) (bt t 123 8 80)) (bt t 128 (bt t 126 8 (bt t 127 0 8)) (bt t 129 8 (bt t 130 0 8)))))) (bt t 153 (bt t 142 (bt t 136 (bt t 133 (bt t 132 24 8) (bt t 134 40 (bt t 135 40 8))) (bt t 139 8 (bt t 140 8 (bt t 141 0 8)))) (bt t 147 (bt t 144 (bt t 143 24 8) 8) 8)) (bt t 164 (bt t 158 (bt t 155 8 (bt t 156 8 (bt t 157 4 32))) (bt t 161 (bt t 159 64 (bt t 160 64 8)) 8)) 8)))) (bt t 264 (bt t 220 (bt t 198 (bt t 187 (bt t 181 8 (bt t 184 8 (bt t 185 32 (bt t 186 32 8)))) (bt t 192 (bt t 189 16 (bt t 190 0 8)) (bt t 195 (bt t 193 8 (bt t 194 256 8)) (bt t 196 32 256)))) (bt t 209 (bt t 203 (bt t 200 (bt t 199 8 24) 8) (bt t 206 8 (bt t 207 8 (bt t 208 0 8)))) (bt t 214 8 (bt t 217 (bt t 215 24 (bt t 216 8 0)) 8)))) (bt t 242 (bt t 231 (bt t 225 (bt t 222 (bt t 221 8 128) (bt t 223 128 (bt t 224 0 8))) 8) (bt t 236 (bt t 233 (bt t 232 8 0) (bt t 234 8 (bt t 235 8 16))) (bt t 239 (bt t 237 16 (bt t 238 0 8)) (bt t 240 8 (bt t 241 48 8))))) (bt t 253 8 (bt t 258 (bt t 255 8 (bt t 256 8 (bt t 257 160 65))) (bt t 261 8 (bt t 262 0 8)))))) (bt t 308 (bt t 286 (bt t 275 (bt t 269 (bt t 266 (bt t 265 8 152) (bt t 267 152 8)) (bt t 272 (bt t 270 0 (bt t 271 8 24)) 8)) 8) (bt t 297 (bt t 291 (bt t 288 (bt t 287 8 0) (bt t 289 8 (bt t 290 0 8))) (bt t 294 8 (bt t 295 8 (bt t 296 0 8)))) (bt t 302 8 (bt t 305 (bt t 303 8 24) 8)))) (bt t 330 (bt t 319 (bt t 313 8 (bt t 316 8 (bt t 317 24 (bt t 318 24 8)))) (bt t 324 (bt t 321 8 (bt t 322 8 (bt t 323 64 8))) (bt t 327 (bt t 325 20 8) (bt t 328 40 (bt t 329 8 224))))) (bt t 341 (bt t 335 (bt t 332 8 (bt t 333 96 (bt t 334 8 256))) (bt t 338 (bt t 336 2 (bt t 337 2 32)) (bt t 339 0 (bt t 340 8 40)))) (bt t 347 (bt t 344 (bt t 342 40 0) (bt t 345 0 (bt t 346 8 1))) (bt t 350 (bt t 348 1 (bt t 349 8 4)) (bt t 351 4 48)))))))) 0
def Na(t:TypeId):Option (List CK):=bt t 353 (bt t 176 (bt t 87 (bt t 43 (bt t 21 none (bt t 32 none (bt t 37 none (bt t 40 (bt t 38 none (bt t 39 (some [.str, .str]) none)) none)))) (bt t 65 (bt t 54 none (bt t 59 (bt t 56 none (bt t 57 (some [.int .u8, .int .u8, .int .u8, .int .u8, .int .u8, .int .u8, .int .u8, .int .u8, .int .u8, .int .u8, .int .u8, .int .u8, .int .u8, .int .u8, .int .u8, .int .u8, .int .u8, .int .u8, .int .u8, .int .u8, .int .u8, .int .u8, .int .u8, .int .u8, .int .u8, .int .u8, .int .u8, .int .u8, .int .u8, .int .u8, .int .u8, .int .u8]) none)) (bt t 62 none (bt t 63 none (bt t 64 none (some [.int .i64, .str, .str, .str])))))) (bt t 76 (bt t 70 (bt t 67 (bt t 66 none (some [.int .i64, .str, .str, .str, .int .i64, .str, .str, .str, .int .i64, .str, .str, .str, .int .i64, .str, .str, .str])) none) none) none))) (bt t 131 (bt t 109 (bt t 98 none (bt t 103 none (bt t 106 (bt t 104 none (bt t 105 none (some [.int .i64, .str, .str, .str, .int .i64, .str, .str, .str, .int .i64, .str, .str, .str, .int .i64, .str, .str, .str]))) none))) none) (bt t 153 none (bt t 164 (bt t 158 (bt t 155 none (bt t 156 none (bt t 157 none (some [.int .u32, .int .u32, .int .u32, .int .u32, .int .u32, .int .u32, .int .u32, .int .u32])))) none) none)))) (bt t 264 (bt t 220 (bt t 198 (bt t 187 none (bt t 192 none (bt t 195 (bt t 193 none (bt t 194 (some [.int .u32, .int .u32, .int .u32, .int .u32, .int .u32, .int .u32, .int .u32, .int .u32, .int .u32, .int .u32, .int .u32, .int .u32, .int .u32, .int .u32, .int .u32, .int .u32, .int .u32, .int .u32, .int .u32, .int .u32, .int .u32, .int .u32, .int .u32, .int .u32, .int .u32, .int .u32, .int .u32, .int .u32, .int .u32, .int .u32, .int .u32, .int .u32, .int .u32, .int .u32, .int .u32, .int .u32, .int .u32, .int .u32, .int .u32, .int .u32, .int .u32, .int .u32, .int .u32, .int .u32, .int .u32, .int .u32, .int .u32, .int .u32, .int .u32, .int .u32, .int .u32, .int .u32, .int .u32, .int .u32, .int .u32, .int .u32, .int .u32, .int .u32, .int .u32, .int .u32, .int .u32, .int .u32, .int .u32, .int .u32]) none)) (bt t 196 (some [.int .i64, .int .i64, .int .i64, .int .i64]) (bt t 197 none (some [.int .i64, .str, .str, .str, .int .i64, .str, .str, .str, .int .i64, .str, .str, .str, .int .i64, .str, .str, .str, .int .i64, .int .i64, .int .i64, .int .i64])))))) (bt t 209 none (bt t 214 none (bt t 217 (bt t 215 (some [.int .u8, .int .u8, .int .u8, .int .u8, .int .u8, .int .u8, .int .u8, .int .u8, .int .u8, .int .u8, .int .u8, .int .u8, .int .u8, .int .u8, .int .u8, .int .u8, .int .u8, .int .u8, .int .u8, .int .u8, .int .u8, .int .u8, .int .u8, .int .u8]) none) none)))) (bt t 242 (bt t 231 none (bt t 236 none (bt t 239 (bt t 237 (some [.int .i64, .int .i64]) none) (bt t 240 none (bt t 241 (some [.str, .str, .str]) none))))) (bt t 253 none (bt t 258 (bt t 255 none (bt t 256 none (bt t 257 (some [.int .u64, .int .u64, .int .u64, .int .u64, .int .u64, .int .u64, .int .u64, .int .u64, .int .u64, .int .u64, .int .u64, .int .u64, .int .u64, .int .u64, .int .u64, .int .u64, .int .u64, .int .u64, .int .u64, .int .u64]) (some [.int .u8, .int .u8, .int .u8, .int .u8, .int .u8, .int .u8, .int .u8, .int .u8, .int .u8, .int .u8, .int .u8, .int .u8, .int .u8, .int .u8, .int .u8, .int .u8, .int .u8, .int .u8, .int .u8, .int .u8, .int .u8, .int .u8, .int .u8, .int .u8, .int .u8, .int .u8, .int .u8, .int .u8, .int .u8, .int .u8, .int .u8, .int .u8, .int .u8, .int .u8, .int .u8, .int .u8, .int .u8, .int .u8, .int .u8, .int .u8, .int .u8, .int .u8, .int .u8, .int .u8, .int .u8, .int .u8, .int .u8, .int .u8, .int .u8, .int .u8, .int .u8, .int .u8, .int .u8, .int .u8, .int .u8, .int .u8, .int .u8, .int .u8, .int .u8, .int .u8, .int .u8, .int .u8, .int .u8, .int .u8, .int .u8])))) none)))) (bt t 308 none (bt t 330 (bt t 319 none (bt t 324 (bt t 321 none (bt t 322 none (bt t 323 (some [.int .u8, .int .u8, .int .u8, .int .u8, .int .u8, .int .u8, .int .u8, .int .u8, .int .u8, .int .u8, .int .u8, .int .u8, .int .u8, .int .u8, .int .u8, .int .u8, .int .u8, .int .u8, .int .u8, .int .u8, .int .u8, .int .u8, .int .u8, .int .u8, .int .u8, .int .u8, .int .u8, .int .u8, .int .u8, .int .u8, .int .u8, .int .u8, .int .u8, .int .u8, .int .u8, .int .u8, .int .u8, .int .u8, .int .u8, .int .u8, .int .u8, .int .u8, .int .u8, .int .u8, .int .u8, .int .u8, .int .u8, .int .u8, .int .u8, .int .u8, .int .u8, .int .u8, .int .u8, .int .u8, .int .u8, .int .u8, .int .u8, .int .u8, .int .u8, .int .u8, .int .u8, .int .u8, .int .u8, .int .u8]) none))) (bt t 327 (bt t 325 (some [.int .i32, .int .i32, .int .i32, .int .i32, .int .i32]) none) (bt t 328 (some [.int .i64, .int .i64, .int .i64, .int .i64, .int .i64]) (bt t 329 none (some [.int .i64, .int .i64, .int .i64, .int .i64, .int .i64, .int .i64, .int .i64, .int .i64, .int .i64, .int .i64, .int .i64, .int .i64, .int .i64, .int .i64, .int .i64, .int .i64, .int .i64, .int .i64, .int .i64, .int .i64, .int .i64, .int .i64, .int .i64, .int .i64, .int .i64, .int .i64, .int .i64, .int .i64])))))) (bt t 341 (bt t 335 (bt t 332 none (bt t 333 (some [.int .i32, .int .i32, .int .i32, .int .i32, .int .i32, .int .i32, .int .i32, .int .i32, .int .i32, .int .i32, .int .i32, .int .i32, .int .i32, .int .i32, .int .i32, .int .i32, .int .i32, .int .i32, .int .i32, .int .i32, .int .i32, .int .i32, .int .i32, .int .i32]) none)) (bt t 338 (bt t 336 none (bt t 337 (some [.int .u8, .int .u8]) (some [.int .u8, .int .u8, .int .u8, .int .u8, .int .u8, .int .u8, .int .u8, .int .u8, .int .u8, .int .u8, .int .u8, .int .u8, .int .u8, .int .u8, .int .u8, .int .u8, .int .u8, .int .u8, .int .u8, .int .u8, .int .u8, .int .u8, .int .u8, .int .u8, .int .u8, .int .u8, .int .u8, .int .u8, .int .u8, .int .u8, .int .u8, .int .u8]))) none)) none))))) none
def Nb(t:TypeId):Option (Bool×List CK):=bt t 353 (bt t 176 (bt t 87 (bt t 43 (bt t 21 (bt t 10 (bt t 4 (bt t 1 none (bt t 2 none (bt t 3 (some (false,[.int .i64])) none))) (bt t 7 none (bt t 8 none (bt t 9 (some (false,[.str])) none)))) none) none) none) (bt t 131 (bt t 109 (bt t 98 none (bt t 103 none (bt t 106 (bt t 104 none (bt t 105 none (some (true,[.int .i64, .str, .str, .str, .int .i64, .str, .str, .str, .int .i64, .str, .str, .str, .int .i64, .str, .str, .str])))) none))) none) none)) none) none
def wB:List Int:=[192,214,216,246,248,767,880,893,895,8191,8204,8205,8304,8591,11264,12271,12289,55295,63744,64975,65008,65533,65536,983039]
def WL:List (List SV):=wB.map fun x=>[.int .i32 x]
def qo:List Int:=[1,10,100,1000,10000,100000,1000000,10000000,100000000,1000000000,10000000000,100000000000,1000000000000,10000000000000,100000000000000,1000000000000000,10000000000000000,100000000000000000,1000000000000000000,10000000000000000000]
def Z3H:List Value:=qo.map fun x=> .int .u64 x
def uf:wU:={sh:=N8,size:=ZhX,zero:=N9,bytes:=ZfP,flat:=Na,key:=Nb,qt:=[(6, .rows 1 WL),(2, .dY Z3H)],kV:=some (186,5)}
theorem Z0:uC prog uf:=by
 refine ZfN 354 (by kernel_rfl) (fun t ht=>?_)
 have h:Nat.ble t 353=false:=by
  cases e:Nat.ble t 353
  rfl
  have:=zU e;omega
 exact⟨by(simp only[uf,N8]<;>first|exact Fo h|rfl),by(simp only[uf,N9]<;>first|exact Fo h|rfl),by(simp only[uf,Na]<;>first|exact Fo h|rfl),by(simp only[uf,Nb]<;>first|exact Fo h|rfl)⟩
theorem mixed:prog.follows .mixedOrders=true:=by kernel_rfl
end Go.Proofs.YtlcbipfmodcedaaGreatDoor
set_option linter.unusedVariables false
namespace Go.Proofs.YtlcbipfmodcedaaGreatDoor
open Go.Sx
theorem Z4{M:Mx}(id:Nat){ops:Array Oper}{fr:Fr}{O:vX}{nx:Nat}{Q:Post}(steps:uu)(h:wD M ops.toList steps fr O nx fun fr O nx=>Q .normal fr O nx)(o4:Ds ops steps=true:=by kernel_rfl)(hT:uC M.P M.C.T:=by exact Z0)(hP:M.P.follows .mixedOrders=true:=by exact mixed):uq M id ops fr O nx Q:=uq.of hT hP steps o4 h
end Go.Proofs.YtlcbipfmodcedaaGreatDoor
set_option linter.unusedSimpArgs false
namespace Go.Sx
open Go
theorem vS.sU{P:Program}{T:wU}{g:FuncId}{args:List SV}{r:SV}{vs:List Value}{w:World}{η0:Env}{S:vX}{k:Nat}(hk:η0.length=k)(sp:vS P T g k args [] S (w6 k r))(eg:∀args w,(callFunc g args).run P w= .ok (.enter g args) w)(hd:vV η0 args vs)
 (hs:∀p∈S,vT η0 w false (.loc p.1) p.2) (he:∀(i:Nat) (e:wZ),η0[i]?=some (some e)->e.g<w.heap.size)
 (hg:∀g h,u5 g T.qt=some h->vT [] w false (.uH g) h/\g<w.heap.size):
 Calls P g ⟨vs⟩ w fun e w'=> ∃v η',e= .returned v/\Den η' r v/\qW w w' fun _=>False:=by
 have hmem:∀{S:vX} {i:Nat} {h:Hp},qv (.loc i) (kr S)=some h->(i,h)∈S:=by
  intro S
  induction S with
  |nil=>intro i h hh;simp[kr,qv]at hh
  |cons p S ih=>
   intro i h hh;obtain⟨j,h'⟩:=p;simp only[kr,zG,qv,bA]at hh;cases hb:Nat.beq i j with
   |true=>
    rw[hb]at hh;have:=Zr hb;subst this;injection hh with hh;subst hh;exact zJ ..
   |false=>
    rw[hb]at hh;exact zK _ (ih hh)
 have jo:∀g h,u5 g T.qt=some h->V2 h=true:=by
  intro g h hh;have:=UR hh;exact zT.1 T.dA _ this
 have H:vR ⟨P,⟨T,0,kr S,none⟩,w,fun _=>False,η0,none⟩ η0 w [] k:=⟨zu,hk,⟨fun i h hi=>by simp[u5]at hi,fun i j h h' n hi=>by simp[u5]at hi⟩,qW.refl _ _,fun b h hb=>by
  cases b with
  |loc i=>
   exact⟨hs _ (hmem hb),fun n f=>⟨(hs _ (hmem hb)).uy f,fun h=>h⟩⟩
  |uH g=>
   obtain⟨h1,h2⟩:=hg g h hb
   exact⟨h1.plain (jo g h hb),fun n f=>⟨(h1.plain (η':=η0) (jo g h hb)).uy f,fun h=>h⟩⟩⟩
 have hF:(fun _=>False:Nat->Prop)=Ym η0 w []:=by
  funext n;simp[Ym,u5]
 rcases sp.out ⟨P,⟨T,0,kr S,none⟩,w,fun _=>False,η0,none⟩ vs rfl rfl hF rfl H hd with⟨g',h1,h2⟩|⟨v,w',h1,_⟩
 .rw[eg]at h1;injection h1 with h1 _;injection h1 with h1 _;subst h1;refine h2.mono fun e w' hee=>?_;obtain⟨v,rfl,r',O',vW,η',⟨rfl,rfl,rfl⟩,_,h4,h5⟩:=hee;exact⟨v,η',rfl,h5,h4.fr⟩
 rw[eg]at h1;cases h1
end Go.Sx
namespace Go.Our
open Go.RowKit Go.ChangeShapes Go.WideShapes Go.ChangeAt Go.Sx
section
variable {H:Type}{enc:TypeId×Value->H}{P:Program}{w:World}
def qN(w:World)(v:Value)(es:Nat)(rs:List (List SV))(en:Option wZ):Prop:=
 (∀x,en=some x->x.g<w.heap.size)/\∀(K:Env) (i:Nat),K[i]?=some en->Den K (.sl (.loc i) 0 es rs.length none) v/\vT K w false (.loc i) (.rows es rs)
theorem Z66{base:Nat}{a:Addr}{n:Nat}{cs:List Value}(h:w.cells? base a n=some cs):cs.length=n/\∀j,j<n->w.cell? (a.add j)=cs[j]?:=⟨(World.cells?_some h).2.1,(World.cells?_some h).2.2⟩
theorem ZbJ{J:Type}{G:J->Prop}{t e:TypeId}{es:Nat}{q:Option Addr}{l0 c0 fuel:Nat}{x:DataW H×List MemPlace}(qT:J->List Value)(dat:J->DataW H)(row:J->List SV)(wF:0<es)
 (hlen:∀a,(qT a).length=es/\(row a).length=es) (hrow:∀(K:Env) (a:J) (j:Nat) (sv:SV),(row a)[j]?=some sv->∃u,(qT a)[j]?=some u/\u.oneCell'=true/\Den K sv u)
 (ht:P.underlying t=some (.slice e)) (hc:P.cellsOf e=es) (el:∀fuel cs (x:DataW H×List MemPlace),DataW.trod enc P w 0 (fun _=>true) true fuel e cs=some x->∃a:J,cs=qT a/\x.1=dat a/\G a)
 (ho:∀a,q=some a->a.spot=none/\∃arr T fz,w.heap[a.block]?=some (.cells arr T fz)) (hf:DataW.trod enc P w 0 (fun _=>true) true fuel t [.slice q l0 c0]=some x):
 ∃(l:List J) (en:Option wZ),qN w (.slice q l0 c0) es (l.map row) en/\((l=[]/\x.1= .nil)\/∃z:List J,x.1= .slice (l.map dat) (z.map dat))/\l.length=l0/\∀a∈l,G a:=by
 rcases DataW.trod_slice ht hf with⟨hcs,hx⟩|⟨a,len,cap,elems,rest,n,_,hcs,hx,hb,hl,hm,aC,hel,hsp,hns⟩
 .injection hcs with hcs _;injection hcs with h1 h2 h3;subst h1 h2 h3 hx;refine⟨[],none,⟨fun x hx=>(by cases hx),fun K i hi=>?_⟩, .inl ⟨rfl,rfl⟩,rfl,fun a h=>by cases h⟩;refine⟨?_,?_⟩;unfold Den;exact .inl ⟨hi,rfl,rfl⟩;unfold vT;exact .inl ⟨hi,rfl⟩
 .injection hcs with hcs _;injection hcs with h1 h2 h3;subst h1 h2 h3 hx;obtain⟨aD,arr,T,fz,hheap⟩:=ho _ rfl;obtain⟨ab,ao,asp⟩:=a;simp only at aD hheap;subst aD
  have each:∀(i:Nat) y,(elems++rest)[i]?=some y->∃x:J,y.1=dat x/\G x/\∀j,j<es->w.cell? ⟨ab,ao+i*es+j,none⟩=(qT x)[j]?:=by
   intro i y hy
   have hb':(w.cells? 0 ((⟨ab,ao,none⟩:Addr).add (i*P.cellsOf e)) (P.cellsOf e)).bind (DataW.trod enc P w 0 (fun _=>true) true n e)=some y:=by
    by_cases hi:i<l0
    rw[hel i hi,<-hy,zn (by omega)]
    .obtain⟨hrl,hr⟩:=hsp rfl;have hlt:=(ze.1 hy).1;simp only[zh]at hlt;have:=hr (i-l0) (by omega);rw[show l0+(i-l0)=i by omega]at this;rw[this,<-hy,zw (by omega),aC]
   obtain⟨cs',K6,hy'⟩:=vM.1 hb';obtain⟨x,rfl,hx1,hx2⟩:=el _ _ _ hy';refine⟨x,hx1,hx2,fun j hj=>?_⟩;rw[hc]at K6;rw[<-(Z66 K6).2 j hj];congr 1;unfold Addr.add;split<;>split<;>simp_all<;>omega
  have list:∀(ys:List (DataW H×List MemPlace)) (k:Nat),(∀i y,ys[i]?=some y->(elems++rest)[k+i]?=some y)->∃xs:List J,ys.map (·.1)=xs.map dat/\xs.length=ys.length/\(∀a∈xs,G a)/\∀(i:Nat) x,xs[i]?=some x->∀j,j<es->w.cell? ⟨ab,ao+(k+i)*es+j,none⟩=(qT x)[j]?:=by
   intro ys
   induction ys with
   |nil=>intro k _;exact⟨[],rfl,rfl,(fun a h=>by cases h),fun i x hx=>by simp at hx⟩
   |cons y ys ih=>
    intro k hk;obtain⟨x,hx1,hg,hx2⟩:=each (k+0) y (hk 0 y rfl);obtain⟨xs,h1,h2,Dx,h3⟩:=ih (k+1) fun i y' hy'=>by rw[show k+1+i=k+(i+1)by omega];exact hk (i+1) y' (by simpa using hy')
    refine⟨x::xs,by simp[h1,hx1],by simp[h2],(fun a ha=>(zL.1 ha).elim (fun e=>e▸hg) (Dx a)),fun i z hz j hj=>?_⟩;cases i with
    |zero=>simp at hz;subst hz;exact hx2 j hj
    |succ i=>simp at hz;rw[show k+(i+1)=k+1+i by omega];exact h3 i z hz j hj
  obtain⟨xs,h1,h2,Dx,h3⟩:=list elems 0 fun i y hy=>by rw[zx,zn (ze.1 hy).1];exact hy
  obtain⟨zs,h4,_,_,_⟩:=list rest elems.length fun i y hy=>by rw[zw (by omega)];simpa using hy
  refine⟨xs,some ⟨ab,ao,c0⟩,⟨fun x hx=>?_,fun K i hi=>⟨?_,?_⟩⟩, .inr ⟨zs,by rw[h1,h4]⟩,by rw[h2,aC],Dx⟩;injection hx with hx;subst hx;exact(zA.1 hheap).1
  .simp only[Den,Env.get];refine .inr ⟨⟨ab,ao,c0⟩,ao,hi,?_,?_,zo _,fun _=>by simp⟩;simp only[Option.getD_none,Nat.sub_zero,zy,h2,aC];simp only[Option.getD_none,zy,h2,aC];omega
  .simp only[vT,Env.get];refine .inr ⟨⟨ab,ao,c0⟩,arr,T,fz,hi,hheap,fun h=>(by cases h),fun k j9 hk=>?_⟩;rw[z6]at hk;obtain⟨x,hx,rfl⟩:=zC.1 hk;refine⟨(hlen x).2,fun j sv hj=>?_⟩;obtain⟨u,hu1,hu2,hu3⟩:=hrow K x j sv hj;have hj2:j<es:=by rw[<-(hlen x).2];exact(ze.1 hj).1
   have:=h3 k x hx j hj2;rw[zx,hu1]at this;unfold World.cell? at this;simp only[hheap]at this;exact⟨u,by simpa using this,hu2,hu3⟩
theorem ZfQ{J:Type}{t e:TypeId}{es:Nat}{v:Value}{d:DataW H}{p:List MemPlace}{r:Reach}{b0:Nat}(qT:J->List Value)(dat:J->DataW H)(row:J->List SV)(wF:0<es)
 (hlen:∀a,(qT a).length=es/\(row a).length=es) (hrow:∀(K:Env) (a:J) (j:Nat) (sv:SV),(row a)[j]?=some sv->∃u,(qT a)[j]?=some u/\u.oneCell'=true/\Den K sv u)
 (ht:P.underlying t=some (.slice e)) (hc:P.cellsOf e=es) (el:∀fuel cs (x:DataW H×List MemPlace),DataW.trod enc P w 0 (fun _=>true) true fuel e cs=some x->∃a:J,cs=qT a/\x=(dat a,[]))
 (ho:Value.okWide P w r b0 t v) (h:DataW.Trod enc P w 0 (fun _=>true) true t v d p):
 ∃(l:List J) (en:Option wZ),qN w v es (l.map row) en/\((l=[]/\d= .nil)\/∃z:List J,d= .slice (l.map dat) (z.map dat)):=by
 obtain⟨fuel,hf⟩:=h;obtain⟨a0,l0,c0,rfl⟩:=okWide_slice ht ho
 obtain⟨l,en,h1,h2,_,_⟩:=ZbJ (G:=fun _=>True) qT dat row wF hlen hrow ht hc (fun fuel cs x hx=>let⟨a,h1,h2⟩:=el fuel cs x hx;⟨a,h1,by rw[h2],trivial⟩) (fun a ha=>by
  subst ha;simp only[Value.okWide,ht,Cell.okWide,Cell.ok]at ho;obtain⟨_,_,_,aD,rw',cl,hsh,_⟩:=ho;refine⟨aD,?_⟩;unfold World.shape? at hsh;split at hsh
  rename_i c e' f' hh;exact⟨_,_,_,hh⟩
  cases hsh) hf
 exact⟨l,en,h1,h2⟩
end
theorem qN.den{J:Type}{W:World}{v:Value}{es:Nat}{l:List J}{row:J->List SV}{en:Option wZ}(h:qN W v es (l.map row) en){K:Env}{i:Nat}(hi:K[i]?=some en):Den K (.sl (.loc i) 0 es l.length none) v:=by
 have:=(h.2 K i hi).1;rwa [zy]at this
theorem qN.sat{W:World}{v:Value}{es:Nat}{rs:List (List SV)}{en:Option wZ}(h:qN W v es rs en){K:Env}{i:Nat}(hi:K[i]?=some en):vT K W false (.loc i) (.rows es rs):=(h.2 K i hi).2
end Go.Our
namespace Go.Proofs.YtlcbipfmodcedaaGreatDoor
open Go.RowKit Go.Our Go.ChangeShapes Go.WideShapes Go.ChangeAt Go.Sx
open _root_.Go.Proofs.Tryz
abbrev Dy(W:World):Prop:=∀g h,u5 g uf.qt=some h->vT [] W false (.uH g) h/\g<W.heap.size
theorem ZbK{g:FuncId}{args:List SV}{vs:List Value}{W:World}{η0:Env}{S:vX}{k:Nat}(hk:η0.length=k)(sp:vS prog uf g k args [] S (w6 k (.bool true)))(eg:∀args w,(callFunc g args).run prog w= .ok (.enter g args) w)(hd:vV η0 args vs)
 (hs:∀p∈S,vT η0 W false (.loc p.1) p.2) (he:∀(i:Nat) (e:wZ),η0[i]?=some (some e)->e.g<W.heap.size) (hg:Dy W):
 Calls prog g ⟨vs⟩ W fun e W'=>e= .returned (.bool true)/\Below W.heap.size W W':=by
 refine(sp.sU hk eg hd hs he hg).mono fun e W' ⟨v,η',he,hv,hf⟩=>?_;simp only[Den]at hv;subst hv;exact⟨he,hf.os,hf.tape,hf.output,hf.size,fun k hk=>hf.block k hk fun h=>h⟩
theorem ZbL{g:FuncId}{args:List SV}{vs:List Value}{W:World}{v:Value}{es:Nat}{rs:List (List SV)}{en:Option wZ}(h:qN W v es rs en)(sp:vS prog uf g 1 args [] [(0, .rows es rs)] (w6 1 (.bool true)))(eg:∀args w,(callFunc g args).run prog w= .ok (.enter g args) w)(hd:vV [en] args vs)(hg:Dy W):
 Calls prog g ⟨vs⟩ W fun e W'=>e= .returned (.bool true)/\Below W.heap.size W W':=by
 refine ZbK (η0:=[en]) rfl sp eg hd (fun p hp=>?_) (fun i e hi=>?_) hg
 .have hp:=zI.1 hp;subst hp;exact h.sat rfl
 .match i,hi with
  |0,hi=>injection hi with hi;exact h.1 e hi
end Go.Proofs.YtlcbipfmodcedaaGreatDoor
namespace Go.Proofs.YtlcbipfmodcedaaGreatDoor
open Go.RowKit Go.Our Go.ChangeShapes Go.WideShapes Go.ChangeAt Go.Sx
open _root_.Go.Proofs.Tryz
section
variable {H:Type}{enc:TypeId×Value->H}{w:World}{base:Nat}{sp:Nat->Bool}{held:Bool}
abbrev ja(s:List UInt8):Value:= .string ⟨s.toArray⟩
abbrev DF(x:Tm):List Value:=[.int .i64 x.k,ja x.t,ja x.y,ja x.l]
abbrev tmV(x:Tm):Value:= .agg ⟨DF x⟩
abbrev Ft(q:Qd):List Value:=[.int .i64 q.s.k,ja q.s.t,ja q.s.y,ja q.s.l, .int .i64 q.p.k,ja q.p.t,ja q.p.y,ja q.p.l, .int .i64 q.o.k,ja q.o.t,ja q.o.y,ja q.o.l, .int .i64 q.g.k,ja q.g.t,ja q.g.y,ja q.g.l]
abbrev qdV(q:Qd):Value:= .agg ⟨Ft q⟩
def pT(x:Tm):DataW H:= .agg [.lit (.int .i64 x.k), .lit (.string x.t), .lit (.string x.y), .lit (.string x.l)]
def pU(q:Qd):DataW H:= .agg [pT q.s,pT q.p,pT q.o,pT q.g]
abbrev pV(x:Tm):Prop:=(Lit.int .i64 x.k).wf=true
abbrev DG(q:Qd):Prop:=pV q.s/\pV q.p/\pV q.o/\pV q.g
theorem ZfR:prog.cellsOf 3=1:=by kernel_rfl
theorem ZfS:prog.cellsOf 9=1:=by kernel_rfl
theorem Ns:prog.cellsOf 65=4:=by kernel_rfl
theorem Nt:prog.cellsOf 67=16:=by kernel_rfl
theorem DH(s:ByteArray):Value.string s=ja s.data.toList:=by cases s;rfl
set_option maxRecDepth 100000 in
theorem Fu{fuel:Nat}{cs:List Value}{x:DataW H×List MemPlace}(h:DataW.trod enc prog w base sp held fuel 65 cs=some x):
 ∃t:Tm,cs=DF t/\x=(pT t,[])/\pV t:=by
 cases fuel with
 |zero=>simp[DataW.trod]at h
 |succ fuel=>
  simp only[DataW.trod,underlying65,Ns]at h;split at h
  .rename_i hl
   match cs,hl with
   | [c0,c1,c2,c3],_=>
     simp only[vK,List.mapM_nil,ZfR,ZfS,yN,vC,List.take_succ_cons,List.take_zero]at h;simp only[zC,Option.bind_eq_bind,vM,Option.pure_def,zi]at h;obtain⟨xs,⟨y0,h0,r1,⟨y1,h1,r2,⟨y2,h2,r3,⟨y3,h3,r4,rfl,rfl⟩,rfl⟩,rfl⟩,rfl⟩,hx⟩:=h;obtain⟨k,hk,rfl,wk⟩:=DataW.trod_int underlying3 h0;obtain⟨s1,hs1,rfl,w1⟩:=DataW.trod_string underlying9 h1;obtain⟨s2,hs2,rfl,w2⟩:=DataW.trod_string underlying9 h2;obtain⟨s3,hs3,rfl,w3⟩:=DataW.trod_string underlying9 h3;injection hk with hk _;injection hs1 with hs1 _;injection hs2 with hs2 _;injection hs3 with hs3 _;subst hk hs1 hs2 hs3;exact⟨⟨k,s1.data.toList,s2.data.toList,s3.data.toList⟩,by rw[DH,DH,DH],by rw[<-hx];rfl,wk⟩
  cases h
set_option maxRecDepth 100000 in
theorem Zi4{fuel:Nat}{cs:List Value}{x:DataW H×List MemPlace}(h:DataW.trod enc prog w base sp held fuel 67 cs=some x):
 ∃q:Qd,cs=Ft q/\x=(pU q,[])/\DG q:=by
 cases fuel with
 |zero=>simp[DataW.trod]at h
 |succ fuel=>
  simp only[DataW.trod,underlying67,Nt]at h;split at h
  .rename_i hl;simp only[vK,List.mapM_nil,Ns]at h;simp only[zC,Option.bind_eq_bind,vM,Option.pure_def,zi]at h;obtain⟨xs,⟨y0,h0,r1,⟨y1,h1,r2,⟨y2,h2,r3,⟨y3,h3,r4,rfl,rfl⟩,rfl⟩,rfl⟩,rfl⟩,hx⟩:=h;obtain⟨s,hs,rfl,ws⟩:=Fu h0;obtain⟨p,hp,rfl,wp⟩:=Fu h1;obtain⟨o,ho,rfl,wo⟩:=Fu h2;obtain⟨g,hg,rfl,wg⟩:=Fu h3;refine⟨⟨s,p,o,g⟩,?_,by rw[<-hx];rfl,ws,wp,wo,wg⟩
   match cs,hl with
   | [c0,c1,c2,c3,c4,c5,c6,c7,c8,c9,c10,c11,c12,c13,c14,c15],_=>
     simp only[yN,vC,List.take_succ_cons,List.take_zero,DF,yA,xm]at hs hp ho hg;obtain⟨rfl,rfl,rfl,rfl⟩:=hs;obtain⟨rfl,rfl,rfl,rfl⟩:=hp;obtain⟨rfl,rfl,rfl,rfl⟩:=ho;obtain⟨rfl,rfl,rfl,rfl⟩:=hg
     rfl
  cases h
theorem Fv{x:Tm}(h:((pT x:DataW H).weights prog 65).all (fun n=>decide (n<=reachBytes))=true):x.t.length<=reachBytes/\x.y.length<=reachBytes/\x.l.length<=reachBytes:=by
 simp only[pT,DataW.weights,underlying65,zG,yP,DataW.weightsEach,List.nil_append,zP,List.cons_append,List.all_cons,List.all_nil,zF,zj,yw]at h;exact h
theorem ZfT{q:Qd}(h:((pU q:DataW H).weights prog 67).all (fun n=>decide (n<=reachBytes))=true):(q.s.t.length<=reachBytes/\q.s.y.length<=reachBytes/\q.s.l.length<=reachBytes)/\(q.p.t.length<=reachBytes/\q.p.y.length<=reachBytes/\q.p.l.length<=reachBytes)/\
 (q.o.t.length<=reachBytes/\q.o.y.length<=reachBytes/\q.o.l.length<=reachBytes)/\(q.g.t.length<=reachBytes/\q.g.y.length<=reachBytes/\q.g.l.length<=reachBytes):=by
 have e:(pU q:DataW H).weights prog 67=(pT q.s:DataW H).weights prog 65++((pT q.p:DataW H).weights prog 65++((pT q.o:DataW H).weights prog 65++((pT q.g:DataW H).weights prog 65++ []))):=by
  simp only[pU,DataW.weights,underlying67,zG,yP,DataW.weightsEach]
 rw[e]at h;simp only[vF,zj]at h;exact⟨Fv h.1,Fv h.2.1,Fv h.2.2.1,Fv h.2.2.2.1⟩
theorem fu.of{x:Tm}(h:x.t.length<=reachBytes/\x.y.length<=reachBytes/\x.l.length<=reachBytes):fu x:=by
 unfold reachBytes at h;exact⟨by omega,by omega,by omega⟩
theorem ZkC{q:Qd}(h:((pU q:DataW H).weights prog 67).all (fun n=>decide (n<=reachBytes))=true):o7 q:=
 have h:=ZfT h
 ⟨fu.of h.1,fu.of h.2.1,fu.of h.2.2.1,fu.of h.2.2.2⟩
end
open _root_.Go.Proofs.Tryz
theorem ZjI{W:World}{l:List (String×DataW Unit)}(hl:(l.filter fun x=>x.2.handleName?.isNone).filter (fun x=>x.1== "tessera/names.basesTable")=[("tessera/names.basesTable",Lib.tabData .i32 wB)])(kz:(l.filter fun x=>x.2.handleName?.isNone).filter (fun x=>x.1== "internal/strconv.uint64pow10")=[("internal/strconv.uint64pow10",Lib.tabData .u64 qo)])(h:laidMetH prog l W):Dy W:=by
 intro g h' hg;simp only[uf]at hg;rw[Z8]at hg;split at hg
 .rename_i eg;subst eg;injection hg with hg;subst hg;have h1:=laidMet.filter (fun x=>x.1== "tessera/names.basesTable") (laidMetH_iff.1 h).1
  rw[hl]at h1
  have hT:Lib.TabIs prog W "tessera/names.basesTable" .i32 wB:=
   Lib.tabIs_of_head (rest:=[]) (g:=6) (by kernel_rfl) (by kernel_rfl) underlying333 underlying21 (by kernel_rfl) (by kernel_rfl) h1
  have hc:∀i,i<24->W.cell? ⟨6,i,none⟩=some (.int .i32 (wB.getD i 0)):=fun i hi=>hT.cell (by kernel_rfl) i hi;have h0:=hc 0 (by omega);unfold World.cell? at h0;split at h0
  case h_2=>cases h0
  rename_i c T fz hh
  have hall:∀i,i<24->c[i]?=some (.int .i32 (wB.getD i 0)):=by
   intro i hi;have:=hc i hi;unfold World.cell? at this;simp only at this hh;rw[hh]at this;simpa using this
  simp only at hh;refine⟨?_,(zA.1 hh).1⟩;simp only[vT];refine .inr ⟨⟨6,0,0⟩,c,T,fz,rfl,hh,fun h=>(by cases h),fun i row hr=>?_⟩;unfold WL at hr;rw[z6]at hr;obtain⟨x,hx,rfl⟩:=zC.1 hr;have hi:i<24:=(ze.1 hx).1;refine⟨rfl,fun j sv hj=>?_⟩;cases j with
  |succ j=>simp at hj
  |zero=>
   simp only[List.getElem?_cons_zero,zi]at hj;subst hj;refine⟨_,by simp only[zx,xL,Nat.add_zero];exact hall i hi,rfl,?_⟩;simp only[Den,List.getD,hx,Option.getD_some]
 .rw[Z8]at hg;split at hg
  case isFalse=>simp[u5]at hg
  rename_i eg;subst eg;injection hg with hg;subst hg;have h1:=laidMet.filter (fun x=>x.1== "internal/strconv.uint64pow10") (laidMetH_iff.1 h).1
  rw[kz]at h1
  have r8:Lib.TabIs prog W "internal/strconv.uint64pow10" .u64 qo:=
   Lib.tabIs_of_head (rest:=[]) (g:=2) (by kernel_rfl) (by kernel_rfl) underlying257 underlying162 (by kernel_rfl) (by kernel_rfl) h1
  have DI:prog.globalNamed "internal/strconv.uint64pow10" =some 2:=by kernel_rfl
  unfold Lib.TabIs World.var? at r8;rw[DI]at r8;simp only[Option.bind_some]at r8;split at r8
  case h_2=>cases r8
  rename_i cs T fz hh;injection r8 with r8;refine⟨?_,(zA.1 hh).1⟩;simp only[vT];exact⟨⟨2,0,0⟩,rfl,rfl,T,fz,by rw[hh,r8];rfl⟩
end Go.Proofs.YtlcbipfmodcedaaGreatDoor
set_option maxRecDepth 20000
set_option maxHeartbeats 8000000
namespace Go.Proofs.YtlcbipfmodcedaaGreatDoor
open Go.Sx Go.Our
open _root_.Go.Proofs.Tryz
def Ms:uu:=(Zs [(0,1),(2,1),(5,1),(7,1),(10,1),(12,1),(15,1),(17,1),(1,2),(3,2),(6,2),(8,2),(11,2),(13,2),(16,2),(18,2),(4,3),(9,3),(14,3),(19,3),(20,3),(21,3),(22,1)])
theorem ZbR(a:Int):vS prog uf 136 0 [.int .i64 a] [] [] (uN (.bool false)):=by
 refine vS.enter Z0 call136 func136 rfl 6 rfl rfl [.tmp 2] rfl ?_;intro w0 F η0 h0;conv=>whnf
 exact u0.value h0 rfl (by simp)
theorem Mt(a b:Int):vS prog uf 104 0 [.int .i64 a, .int .i64 b] [] [] (uN (.int .i64 (uY a b))):=by
 refine vS.enter Z0 call104 func104 rfl 20 rfl rfl [.tmp 4] rfl ?_;intro w0 F η0 h0;conv=>whnf
 repeat'(first|refine CALL.value (ZbR _) rfl rfl ?_|refine AU ?_|refine IW ?_ ?_<;>intro h<;>try omega)<;>conv=>whnf
 all_goals
  refine u0.value h0 rfl (z8 (SV.int _) ?_);unfold uY
  (repeat' split)<;>simp_all<;>omega
theorem Z9n(a b:List UInt8):vS prog uf 216 0 [.str a, .str b] [] [] (uN (.int .i64 (cmpL a b))):=by
 refine vS.says fun K w vs hd=>?_;simp only[vV,Den]at hd;obtain⟨u,us,rfl,rfl,u',us',rfl,rfl,rfl⟩:=hd;refine⟨_,?_,rfl⟩;rw[run_callFunc_extern func216 (by kernel_rfl) (by kernel_rfl) (by kernel_rfl) (e:=Extern.BytealgCompare.compare) (by kernel_rfl),Lib.run_compareString]
 rfl
theorem Z4J(a b:List UInt8):vS prog uf 164 0 [.str a, .str b] [] [] (uN (.int .i64 (cmpL a b))):=by
 refine vS.enter Z0 call164 func164 rfl 8 rfl rfl [.tmp 4] rfl ?_;intro w0 F η0 h0;conv=>whnf
 repeat'(first|refine CALL.value (Z9n _ _) rfl rfl ?_)<;>conv=>whnf
 exact u0.value h0 rfl rfl
theorem C4(a b:List UInt8):vS prog uf 124 0 [.str a, .str b] [] [] (uN (.int .i64 (cmpL a b))):=by
 refine vS.enter Z0 call124 func124 rfl 8 rfl rfl [.tmp 4] rfl ?_;intro w0 F η0 h0;conv=>whnf
 repeat'(first|refine CALL.value (Z4J _ _) rfl rfl ?_)<;>conv=>whnf
 exact u0.value h0 rfl rfl
def Mu(x:Int):List SV:=[.int .i64 x]
theorem C5(xs:List Int)(hn:xs.length<=1152921504606846976):vS prog uf 87 1 [.sl (.loc 0) 0 1 xs.length none] [] [(0, .rows 1 (xs.map Mu))] (w6 1 (.int .i64 (aF xs))):=by
 refine vS.enter Z0 call87 func87 rfl 18 rfl rfl [.tmp 2] rfl ?_;intro w0 F η0 h0;conv=>whnf
 refine vZ.go Z0 [3,6,7] (X:=Nat) (fun i=>i<=xs.length/\aF xs=aF (xs.drop i)) (fun i=>[(8, .int .i64 (i:Int))]) (fun i=>[]) 1 (fun i=>xs.length-i) 0 ⟨by omega,rfl⟩ ?_;conv=>whnf
 refine⟨by exact vU.cA h0,?_⟩;rintro i ⟨hi,ho⟩;conv=>whnf
 repeat'(first|refine GET.at (row:=Mu (xs[i]'(by omega))) (by rw[z6,show 0+(i:Int).toNat=i by omega,z1 (by omega)];rfl) ?_|refine AU ?_|refine IW ?_ ?_<;>intro h<;>try omega)<;>conv=>whnf
 .have hl:i<xs.length:=by omega
  refine u0.ua h0 rfl (z8 (SV.int _) ?_);rw[ho,zm hl];simp only[aF];rw[zf h]
 .have hl:i<xs.length:=by omega
  refine⟨i+1,⟨by omega,?_⟩,by omega,?_⟩;rw[ho,zm hl];simp only[aF];rw[z7 (by simpa using h)]
  .conv=>whnf
   exact vU.cA h0
 .refine u0.ua h0 rfl (z8 (SV.int _) ?_);rw[ho,zN (by omega)];rfl
abbrev FJ(x:Tm):List SV:=[.int .i64 x.k, .str x.t, .str x.y, .str x.l]
theorem Wq(a b:Tm):vS prog uf 88 0 [.agg (FJ a), .agg (FJ b)] [] [] (uN (.int .i64 (YH a b))):=by
 refine vS.enter Z0 call88 func88 rfl 27 rfl rfl [.tmp 4] rfl ?_;intro w0 F η0 h0;conv=>whnf
 repeat'(first|refine Z4 1 Ms ?_|refine wh.mk (fun _ _=>?_)|refine CALL.value (Mt a.k b.k) rfl rfl ?_|refine CALL.value (C4 a.t b.t) rfl rfl ?_|refine CALL.value (C4 a.y b.y) rfl rfl ?_|refine CALL.value (C4 a.l b.l) rfl rfl ?_|refine CALL.looks [2] (C5 [uY a.k b.k,cmpL a.t b.t,cmpL a.y b.y,cmpL a.l b.l] (by simp)) rfl rfl rfl rfl ⟨⟨rfl,rfl,rfl⟩,trivial⟩ ?_)<;>conv=>whnf
 exact u0.value h0 rfl (by rw[<-NQ])
theorem C6(a b:Qd):vS prog uf 47 0 [.agg a.row, .agg b.row] [] [] (uN (.int .i64 (ZP a b))):=by
 refine vS.enter Z0 call47 func47 rfl 27 rfl rfl [.tmp 4] rfl ?_;intro w0 F η0 h0;conv=>whnf
 repeat'(first|refine Z4 1 Ms ?_|refine wh.mk (fun _ _=>?_)|refine CALL.value (Wq a.g b.g) rfl rfl ?_|refine CALL.value (Wq a.s b.s) rfl rfl ?_|refine CALL.value (Wq a.p b.p) rfl rfl ?_|refine CALL.value (Wq a.o b.o) rfl rfl ?_|refine CALL.looks [2] (C5 [YH a.g b.g,YH a.s b.s,YH a.p b.p,YH a.o b.o] (by simp)) rfl rfl rfl rfl ⟨⟨rfl,rfl,rfl⟩,trivial⟩ ?_)<;>conv=>whnf
 exact u0.value h0 rfl (by rw[<-NR])
theorem ZbS(a b:List UInt8):vS prog uf 156 0 [.str a, .str b] [] [] (uN (.int .i64 (cmpL a b))):=by
 have hr:=qA.oC a b;have ha:=qA.anti a b;have h1:=NP a b;have h2:=NP b a;have h3:(a==b)=decide (cmpL a b=0):=by rw[zX];simp[qA.zero]
 refine vS.enter Z0 call156 func156 rfl 13 rfl rfl [.tmp 4] rfl ?_;intro w0 F η0 h0;conv=>whnf
 repeat'(first|refine IW ?_ ?_<;>intro h<;>try omega)<;>conv=>whnf
 all_goals
  refine u0.value h0 rfl (z8 (SV.int _) ?_);simp only[h1,h2,h3,yw,yl]at*;have hz:=qA.zero a b;simp only[<-hz]at*;omega
theorem Xb(a b:Tm):vS prog uf 117 0 [.agg (FJ a), .agg (FJ b)] [] [] (uN (.int .i64 (YH a b))):=by
 refine vS.enter Z0 call117 func117 rfl 36 rfl rfl [.tmp 4] rfl ?_;intro w0 F η0 h0;conv=>whnf
 repeat'(first|refine CALL.value (ZbS _ _) rfl rfl ?_|refine IW ?_ ?_<;>intro h<;>try omega)<;>conv=>whnf
 all_goals
  refine u0.value h0 rfl (z8 (SV.int _) ?_);rw[<-NQ];simp only[aF,uY]
  (repeat' split)<;>simp_all<;>omega
theorem Xc(a b:Qd):vS prog uf 110 0 [.agg a.row, .agg b.row] [] [] (uN (.int .i64 (ZP a b))):=by
 refine vS.enter Z0 call110 func110 rfl 33 rfl rfl [.tmp 4] rfl ?_;intro w0 F η0 h0;conv=>whnf
 repeat'(first|refine CALL.value (Xb a.g b.g) rfl rfl ?_|refine CALL.value (Xb a.s b.s) rfl rfl ?_|refine CALL.value (Xb a.p b.p) rfl rfl ?_|refine CALL.value (Xb a.o b.o) rfl rfl ?_|refine IW ?_ ?_<;>intro h<;>try omega)<;>conv=>whnf
 all_goals
  refine u0.value h0 rfl (z8 (SV.int _) ?_);rw[<-NR];simp only[aF]
  (repeat' split)<;>simp_all
end Go.Proofs.YtlcbipfmodcedaaGreatDoor
namespace Go.Proofs.YtlcbipfmodcedaaGreatDoor
open Go.Sx Go.Our
open _root_.Go.Proofs.Tryz
def Ze1:uu:=(Zs [(0,1),(1,1),(2,1),(4,1),(5,1),(6,1),(3,2),(7,2),(8,1)])
def Ze2:uu:=(Zs [(0,1),(1,1),(2,1),(3,1),(4,1),(5,3),(6,1),(7,1),(8,1),(9,1),(10,1),(11,2),(12,3),(13,1),(14,1),(15,1),(16,1),(17,1),(18,1),(19,1),(20,1),(21,2),(22,3),(23,1),(24,1),(25,1)])
def YV:Qd:=⟨⟨-7,[109,97,114,107],[],[]⟩,ZC,ZC,ZC⟩
theorem Mv:vS prog uf 29 0 [] [] [] (uN (.agg (Z3 YV))):=by
 refine vS.enter Z0 call29 func29 rfl 3 rfl rfl [.cell 0 67] rfl ?_;intro w0 F η0 h0;conv=>whnf
 skip
 exact u0.value h0 rfl rfl
theorem Zif{l c:Int}{b:Nat}(B:Nat)(hb:Nat.ble b B=true)(h0:0<=l)(h1:l<=c)(h2:(B:Int)*c<=281474976710656/\c<=9223372036854775807):0<=l/\l<=c/\c<=9223372036854775807/\(b:Int)*c<=281474976710656:=
 ⟨h0,h1,h2.2,Int.le_trans (v8 (by have:=zU hb;omega) (by omega)) h2.1⟩
abbrev JS(l:List Qd):Prop:=l.length*224<=140737488351232
theorem Z9p(l z:List Qd)(lim:Option Nat)(hl:JS l):vS prog uf 9 1 [.sl (.loc 0) 0 16 l.length lim] [] [(0, .rows 16 ((l++z).map Z3))]
 (fun r O nx=>r= .sl (.loc 1) 0 16 l.length none/\O=[(1, .rows 16 ((l++ [YV,YV]).map Z3))]/\nx=2):=by
 refine vS.enter Z0 call9 func9 rfl 21 rfl rfl [.tmp 2] rfl ?_;intro w0 F η0 h0;conv=>whnf
 repeat'(first|rw[NT]|refine u6.mk (Zif 224 rfl (by omega) (by rw[Z9 (by omega) (by omega)];omega) (by rw[Z9 (by omega) (by omega)];omega)) ?_)<;>conv=>whnf
 refine u6.mk (by rw[Z9 (by omega) (by omega)];exact⟨by simp,by omega,by simp;omega⟩) ?_;conv=>whnf
 repeat'(first|refine CALL.value (Mv) rfl rfl ?_|refine u6.mk (Zn 224 rfl rfl (by simp) (by simp) (by omega)) ?_|refine AU ?_)<;>conv=>whnf
 try(refine u6.mk ⟨by omega,by show _<=((max ((l.length:Int).toNat+2) (_-0):Nat):Int);omega⟩ ?_;conv=>whnf)
 refine u0.aA h0 [3] (.sl (.loc 1) 0 16 l.length none) [(1, .rows 16 ((l++ [YV,YV]).map Z3))] ?_;exact⟨rfl,rfl,rfl⟩
theorem ZbT(l:List Qd)(hl:JS l):vS prog uf 9 1 [.sl (.loc 0) 0 16 l.length none] [] [(0, .rows 16 (l.map Z3))]
 (fun r O nx=>r= .sl (.loc 1) 0 16 l.length none/\O=[(1, .rows 16 ((l++ [YV,YV]).map Z3))]/\nx=2):=by
 have:=Z9p l [] none hl;rwa [zP]at this
theorem W0(A B:List Qd)(i n j m:Nat)(lA lB:Option Nat)(hA:i+n<=A.length)(hB:j+m<=B.length)(hn:A.length<=1152921504606846976)(hm:B.length<=1152921504606846976):vS prog uf 15 2 [.sl (.loc 0) i 16 n lA, .sl (.loc 1) j 16 m lB] [] [(0, .rows 16 (A.map Z3)),(1, .rows 16 (B.map Z3))]
 (w6 2 (.bool (decide ((A.drop i).take n=(B.drop j).take m)))):=by
 refine vS.enter Z0 call15 func15 rfl 26 rfl rfl [.tmp 4] rfl ?_;intro w0 F η0 h0;conv=>whnf
 refine IF.mk (fun h=>?_) (fun h=>?_)
 .have h:n≠m:=by simp at h;omega
  conv=>whnf
  refine u0.ua h0 rfl (z8 SV.bool (y5 fun he=>?_).symm);have:=z8 List.length he;simp at this;omega
 have h:n=m:=by simp at h;omega
 subst h;conv=>whnf
 refine vZ.go Z0 [0,1] (X:=Nat) (fun c=>c<=n/\((A.drop i).take n=(B.drop j).take n<->(A.drop (i+c)).take (n-c)=(B.drop (j+c)).take (n-c))) (fun c=>[(5, .int .i64 (c:Int))]) (fun c=>[]) 2 (fun c=>n-c) 0 ⟨by omega,by simp⟩ ?_;conv=>whnf
 refine⟨by exact vU.cA h0,?_⟩;rintro c ⟨hc,hs⟩;conv=>whnf
 rcases zY c n with ki|ki
 .have ha:i+c<A.length:=by omega
  have hb:j+c<B.length:=by omega
  have hstep:(A.drop (i+c)).take (n-c)=(B.drop (j+c)).take (n-c)<->A[i+c]=B[j+c]/\(A.drop (i+(c+1))).take (n-(c+1))=(B.drop (j+(c+1))).take (n-(c+1)):=by
   rw[zm ha,zm hb,show n-c=(n-(c+1))+1 by omega];simp only[List.take_succ_cons,yA];rw[show i+c+1=i+(c+1)by omega,show j+c+1=j+(c+1)by omega]
  repeat'(first|refine Z4 6 Ze1 ?_|refine GET.at (row:=Z3 (A[i+c]'(by omega))) (by rw[show i+(c:Int).toNat=i+c by omega];exact NS (by omega)) ?_|refine GET.at (row:=Z3 (B[j+c]'(by omega))) (by rw[show j+(c:Int).toNat=j+c by omega];exact NS (by omega)) ?_|refine AU ?_|refine IW ?_ ?_<;>intro h<;>try omega)<;>conv=>whnf
  .have hne:A[i+c]≠B[j+c]:=fun he=>by rw[he]at h;simp at h
   exact u0.ua h0 rfl (z8 SV.bool (y5 fun he=>hne (hstep.1 (hs.1 he)).1).symm)
  .have heq:A[i+c]=B[j+c]:=Qd.ext' (by simp only[Z3,Qd.row,yA,SV.int.injEq,SV.str.injEq,xI,xm];exact h);refine⟨c+1,⟨by omega,hs.trans (hstep.trans ⟨fun x=>x.2,fun x=>⟨heq,x⟩⟩)⟩,by omega,?_⟩;conv=>whnf
   exact vU.cA h0
 .repeat'(first|refine IW ?_ ?_<;>intro h<;>try omega)<;>conv=>whnf
  refine u0.ua h0 rfl (z8 SV.bool (yq (hs.2 ?_)).symm);rw[show n-c=0 by omega];rfl
theorem ZbU(l z:List Qd)(lim:Option Nat)(hl:JS l)(hz:(l++z).length<=1152921504606846976):vS prog uf 12 2 [.sl (.loc 1) 0 16 l.length none, .sl (.loc 0) 0 16 l.length lim] [(1, .rows 16 ((l++ [YV,YV]).map Z3))] [(0, .rows 16 ((l++z).map Z3))]
 (fun r O nx=>r= .bool true/\O=[(1, .rows 16 ((l++ [YV,YV]).map Z3))]/\nx=2):=by
 have hA:(l++ [YV,YV]).length<=1152921504606846976:=by simp;omega
 refine vS.enter Z0 call12 func12 rfl 36 rfl rfl [.tmp 4] rfl ?_;intro w0 F η0 h0;conv=>whnf
 have hw:(IntKind.i64.wrap ((l.length:Int)+2)).toNat=l.length+2:=by rw[Z9 (by omega) (by omega)];omega
 have hw1:(IntKind.i64.wrap ((l.length:Int)+1)).toNat=l.length+1:=by rw[Z9 (by omega) (by omega)];omega
 refine u6.mk ⟨by rw[Z9 (by omega) (by omega)];omega,by rw[Z9 (by omega) (by omega)];show _<=((max l.length (((l++ [YV,YV]).map Z3).length-0):Nat):Int);simp⟩ ?_;rw[hw];conv=>whnf
 repeat'(first|refine Z4 2 Ze2 ?_|refine wh.mk (fun _ _=>?_)|refine AD ?_|refine u6.mk ⟨by omega,by show _<=((l.length+2:Nat):Int);omega⟩ ?_)<;>conv=>whnf
 refine CALL.aA [1,0] (W0 (l++ [YV,YV]) (l++z) 0 l.length 0 l.length none lim (by simp) (by simp) hA hz) ?_;rintro r O' vW ⟨rfl,rfl,rfl⟩;rw[yq (by simp)];conv=>whnf
 repeat'(first|refine wh.mk (fun _ _=>?_)|refine CALL.value (Mv) rfl rfl ?_|refine GET.at (row:=Z3 YV) (by rw[z6];simp[hw1]) ?_|refine AU ?_|refine IW ?_ ?_<;>intro h<;>try omega)<;>conv=>whnf
 all_goals first
  |(exfalso;simp_all;done)
  |(refine u0.here h0 (rc:= .bool true) (Oc:=[(1, .rows 16 ((l++ [YV,YV]).map Z3))]) (z8 SV.bool (by simp)) rfl (by first|rfl|(simp only[Zl,Zh,Z2 _ (Zo _),zB,zF]<;>rfl)) ⟨rfl,trivial⟩ ⟨rfl,rfl,rfl⟩)
  |trace_state
theorem Ze3(l:List Qd)(hl:JS l):vS prog uf 12 2 [.sl (.loc 1) 0 16 l.length none, .sl (.loc 0) 0 16 l.length none] [(1, .rows 16 ((l++ [YV,YV]).map Z3))] [(0, .rows 16 (l.map Z3))]
 (fun r O nx=>r= .bool true/\O=[(1, .rows 16 ((l++ [YV,YV]).map Z3))]/\nx=2):=by
 have:=ZbU l [] none hl (by simp;omega);rwa [zP]at this
theorem Ji{l z:List Qd}{i:Nat}(h:i<l.length):((l++z).map Z3)[i]?=some (Z3 l[i]):=by
 rw[z6,zn h,z1 h];rfl
end Go.Proofs.YtlcbipfmodcedaaGreatDoor
namespace Go.Proofs.YtlcbipfmodcedaaGreatDoor
open Go.Sx Go.Our Go.Sort Go.Shelf
open _root_.Go.Proofs.Tryz
abbrev ZkN(l:List Tm):Prop:=l.length*224<=140737488351232
theorem rB{K:Type}(f:K->List SV){C l:List K}{j:Nat}(h1:C.length<=j)(h2:j<l.length):((C++l.drop C.length).map f)[j]?=some (f l[j]):=by
 rw[z6,zw h1,y6,show C.length+(j-C.length)=j by omega,z1 h2];rfl
theorem FN{K:Type}(f:K->List SV){C l:List K}(x:K)(h:C.length<l.length):((C++l.drop C.length).map f).set C.length (f x)=((C++ [x])++l.drop (C++ [x]).length).map f:=by
 rw[NU,vn _ _ (zo _),vI,zm h,List.set_cons_zero];simp
theorem MC{K:Type}(f:K->List SV){C l:List K}(z:K)(h:C.length<=l.length):((C++l.drop C.length).map f).take C.length++List.replicate (l.length-C.length) (f z)++((C++l.drop C.length).map f).drop (C.length+(l.length-C.length))=(C++List.replicate (l.length-C.length) z).map f:=by
 have h1:((C++l.drop C.length).map f).length=l.length:=by simp;omega
 rw[List.drop_of_length_le (l:=(C++l.drop C.length).map f) (by omega),zP,yz,yz,x5,xl (by simp),zg (by simp)]
theorem iT{rs:List (List SV)}{i j:Nat}{row:List SV}(h:rs[i]?=some row)(e:j=i):rs[j]?=some row:=e▸h
theorem Z9r(l z:List Qd)(lim:Option Nat)(hl:l.length*224<=140741783322624):vS prog uf 74 1 [.sl (.loc 0) 0 16 l.length lim] [] [(0, .rows 16 ((l++z).map Z3))]
 (fun r O nx=>r= .sl (.loc 1) 0 16 l.length none/\O=[(1, .rows 16 (l.map Z3))]/\nx=2):=by
 refine vS.enter Z0 call74 func74 rfl 8 rfl rfl [.tmp 2] rfl ?_;intro w0 F η0 h0;conv=>whnf
 repeat'(first|rw[NT]|refine u6.mk (Zn 224 rfl rfl (by simp) (by simp) (by omega)) ?_|((with_reducible refine rS.mk (fun h=>?_) ?_)<;>try omega))<;>conv=>whnf
 .have:l=[]:=zM.1 h;subst this;refine u0.nil 16 ?_;exact u0.rows h0 1 16 0 rfl rfl rfl rfl ⟨rfl,rfl,rfl⟩
 .rw[zx];exact u0.rows h0 2 16 l.length rfl rfl rfl (Zo _) ⟨rfl,rfl,rfl⟩
def Ze7:Go.Shelf.Ren:=⟨fun|6=>75|15=>114|14=>113|28=>150|29=>151|20=>142|21=>143|22=>144|23=>145|24=>146|25=>147|26=>148|27=>149|46=>195|47=>196|48=>197|49=>198|50=>199|57=>247|n=>n,fun|22=>22|24=>67|25=>105|3=>3|39=>177|0=>0|53=>157|55=>162|4=>4|46=>208|45=>207|50=>103|5=>5|9=>9|66=>250|70=>87|76=>292|77=>130|n=>n,fun|n=>n⟩
theorem MD:Go.Proofs.SlLaysF0.n6 prog Ze7 where
 mixed:=by kernel_rfl
 f6:=⟨f75.name,by decide,func75.trans (z8 some (by kernel_rfl))⟩
 f14:=⟨f113.name,by decide,func113.trans (z8 some (by kernel_rfl))⟩
 f15:=func114.trans (z8 some (by kernel_rfl))
 f20:=⟨f142.name,by decide,func142.trans (z8 some (by kernel_rfl))⟩
 f21:=⟨f143.name,by decide,func143.trans (z8 some (by kernel_rfl))⟩
 f22:=⟨f144.name,by decide,func144.trans (z8 some (by kernel_rfl))⟩
 f23:=⟨f145.name,by decide,func145.trans (z8 some (by kernel_rfl))⟩
 f24:=⟨f146.name,by decide,func146.trans (z8 some (by kernel_rfl))⟩
 f25:=⟨f147.name,by decide,func147.trans (z8 some (by kernel_rfl))⟩
 f26:=⟨f148.name,by decide,func148.trans (z8 some (by kernel_rfl))⟩
 f27:=⟨f149.name,by decide,func149.trans (z8 some (by kernel_rfl))⟩
 f28:=func150.trans (z8 some (by kernel_rfl))
 f29:=func151.trans (z8 some (by kernel_rfl))
 f46:=⟨f195.name,by decide,func195.trans (z8 some (by kernel_rfl))⟩
 f47:=func196.trans (z8 some (by kernel_rfl))
 f48:=func197.trans (z8 some (by kernel_rfl))
 f49:=⟨f198.name,by decide,func198.trans (z8 some (by kernel_rfl))⟩
 f50:=⟨f199.name,by decide,func199.trans (z8 some (by kernel_rfl))⟩
 f57:=⟨f247.name,by decide,func247.trans (z8 some (by kernel_rfl))⟩
 t0:=underlying0
 a0:=isAgg0
 z0:=sizeOf0
 v0:=zeroValue0
 t3:=underlying3
 a3:=isAgg3
 z3:=sizeOf3
 v3:=zeroValue3
 t4:=underlying4
 a4:=isAgg4
 z4:=sizeOf4
 v4:=zeroValue4
 t5:=underlying5
 a5:=isAgg5
 z5:=sizeOf5
 v5:=zeroValue5
 t9:=underlying9
 a9:=isAgg9
 z9:=sizeOf9
 v9:=zeroValue9
 t22:=underlying22
 a22:=isAgg22
 z22:=sizeOf22
 v22:=zeroValue22
 t25:=underlying105
 a25:=isAgg105
 z25:=sizeOf105
 v25:=zeroValue105
 t39:=underlying177
 a39:=isAgg177
 z39:=sizeOf177
 v39:=zeroValue177
 t45:=underlying207
 a45:=isAgg207
 z45:=sizeOf207
 v45:=zeroValue207
 t46:=underlying208
 a46:=isAgg208
 z46:=sizeOf208
 v46:=zeroValue208
 t50:=underlying103
 a50:=isAgg103
 z50:=sizeOf103
 v50:=zeroValue103
 t53:=underlying157
 a53:=isAgg157
 z53:=sizeOf157
 v53:=zeroValue157
 t55:=underlying162
 a55:=isAgg162
 z55:=sizeOf162
 v55:=zeroValue162
 t66:=underlying250
 a66:=isAgg250
 z66:=sizeOf250
 v66:=zeroValue250
 t70:=underlying87
 a70:=isAgg87
 z70:=sizeOf87
 v70:=zeroValue87
 t76:=underlying292
 a76:=isAgg292
 z76:=sizeOf292
 v76:=zeroValue292
 t77:=underlying130
 a77:=isAgg130
 z77:=sizeOf130
 v77:=zeroValue130
abbrev fF(s:List UInt8):Value:= .string ⟨s.toArray⟩
def KD(q:Qd):List Value:=[.int .i64 q.s.k,fF q.s.t,fF q.s.y,fF q.s.l, .int .i64 q.p.k,fF q.p.t,fF q.p.y,fF q.p.l, .int .i64 q.o.k,fF q.o.t,fF q.o.y,fF q.o.l, .int .i64 q.g.k,fF q.g.t,fF q.g.y,fF q.g.l]
instance :Inhabited Tm:=⟨ZC⟩
instance :Inhabited Qd:=⟨Kl⟩
theorem FO{K:Type}(c:K->K->Int)(x y:K):ltOf c x y=decide (c x y<0):=rfl
theorem ZjN{K:Type}{c:K->K->Int}(h:qJ c):SWO (ltOf c) where
 irrefl x:=by rw[FO,h.self];rfl
 trans x y z h1 h2:=by rw[FO]at*;simp only[yx]at*;exact h.lt_trans h1 (by omega)
 ntrans x y z h1 h2:=by
  rw[FO]at*;simp only[yl]at*;intro hc;have:=h.anti x y;have:=h.anti y z;have:=h.anti x z;have:=h.trans z y x (by omega) (by omega);omega
theorem ZjO{K:Type}{c:K->K->Int}(h:qJ c)(x y:K)(h1:ltOf c x y=false)(h2:ltOf c y x=false):x=y:=by
 rw[FO]at*;simp only[yl]at*;have:=h.anti x y;exact(h.zero x y).1 (by omega)
theorem Zg6{J:Env}:∀{vs us:List Value} {cs:List SV},vV J cs vs->vV J cs us->nV cs=true->vs=us:=fun h h' hd=>cH.of hd _ _ _ h h'
theorem ME(l:List Qd)(hl:l.length*224<=140741783322624):vS prog uf 75 1 [.sl (.loc 0) 0 16 l.length none, .fn (.func 47) [] []] [(0, .rows 16 (l.map Z3))] []
 (fun r O nx=>r= .uz []/\O=[(0, .rows 16 ((l.mergeSort (q9 ZP)).map Z3))]/\nx=1):=by
 have hrow:∀(J:Env) (q:Qd),vV J (Z3 q) (KD q)/\∀u∈KD q,u.oneCell'=true:=fun J q=>by
  refine⟨by simp only[Z3,KD,vV,Den];exact⟨_,_,rfl,rfl,_,_,rfl,rfl,_,_,rfl,rfl,_,_,rfl,rfl,_,_,rfl,rfl,_,_,rfl,rfl,_,_,rfl,rfl,_,_,rfl,rfl,_,_,rfl,rfl,_,_,rfl,rfl,_,_,rfl,rfl,_,_,rfl,rfl,_,_,rfl,rfl,_,_,rfl,rfl,_,_,rfl,rfl,_,_,rfl,rfl,rfl⟩,fun u hu=>?_⟩;simp only[KD,zL,xq,or_false]at hu;rcases hu with rfl|rfl|rfl|rfl|rfl|rfl|rfl|rfl|rfl|rfl|rfl|rfl|rfl|rfl|rfl|rfl<;>rfl
 exact Z6k (enc:=KD) (k:=16) (row:=Z3) (cf:=ZP) Z0 MD MD (fun w=>by kernel_rfl) (fun w=>by kernel_rfl) (fun q=>⟨rfl,rfl⟩) (by omega) (ZjN kH) (ZjO kH) rfl (fun x y=>C6 x y) call47 call75 hrow (fun J x vs h=>Zg6 h (hrow J x).1 rfl) l (by omega)
end Go.Proofs.YtlcbipfmodcedaaGreatDoor
namespace Go.Proofs.YtlcbipfmodcedaaGreatDoor
open Go.Sx Go.Our
def ZjP{K:Type}(f:K->List SV)(es k:Nat)(z:K)(n:Nat)(l:List K):SV->vX->Nat->Prop:=fun r O nx=> ∃j,j+l.length<=n/\r= .sl (.loc k) 0 es l.length (some l.length)/\O=[(k, .rows es ((l++List.replicate j z).map f))]/\nx=k+1
end Go.Proofs.YtlcbipfmodcedaaGreatDoor
namespace Go.Proofs.YtlcbipfmodcedaaGreatDoor
open Go.Sx Go.Our Go.Sort Go.Shelf
open _root_.Go.Proofs.Tryz
def MF:uu:=(Zs [(0,1),(1,1),(2,1),(4,1),(5,1),(6,1),(7,1),(3,2),(8,2),(9,1)])
theorem ZbY(l:List (List UInt8))(n:Nat)(hn:n<=l.length)(hl:l.length*16<=140741783322624):vS prog uf 90 1 [.sl (.loc 0) 0 1 n none] [(0, .rows 1 (l.map Ze))] []
 (fun r O nx=>r= .sl (.loc 0) 0 1 n (some n)/\O=[(0, .rows 1 (l.map Ze))]/\nx=1):=by
 refine vS.enter Z0 call90 func90 rfl 9 rfl rfl [.tmp 2] rfl ?_;intro w0 F η0 h0;conv=>whnf
 repeat'(first|refine u6.mk ⟨by omega,by omega,by omega⟩ ?_)<;>conv=>whnf
 refine u0.here h0 (rc:= .sl (.loc 0) 0 1 n (some n)) (Oc:=[(0, .rows 1 (l.map Ze))]) (by simp) rfl (by first|rfl|(simp only[Zl,Zh,Z2 _ (Zq _),zB,zF]<;>rfl)) ⟨rfl,trivial⟩ ⟨rfl,rfl,rfl⟩
theorem Z6o(l:List (List UInt8))(hl:l.length*16<=140741783322624):vS prog uf 91 1 [.sl (.loc 0) 0 1 l.length none] [(0, .rows 1 (l.map Ze))] []
 (fun r O nx=>r= .sl (.loc 0) 0 1 (Z5 l).length none/\O=[(0, .rows 1 ((Z5 l++List.replicate (l.length-(Z5 l).length) ([]:List UInt8)).map Ze))]/\nx=1):=by
 have fin:∀{m:Nat},m=(Z5 l).length->Z5 l=l->(SV.sl (.loc 0) 0 1 l.length none=SV.sl (.loc 0) 0 1 (Z5 l).length none)/\l.map Ze=(Z5 l++List.replicate (l.length-(Z5 l).length) ([]:List UInt8)).map Ze:=fun hm he=>by
  rw[he];simp
 refine vS.enter Z0 call91 func91 rfl 61 rfl rfl [.tmp 2] rfl ?_;intro w0 F η0 h0;conv=>whnf
 refine IF.mk (fun h=>?_) (fun h=>?_)
 .have h:l.length<2:=by simp at h;omega
  obtain⟨f1,f2⟩:=fin rfl (DN h);conv=>whnf
  rw[f1,f2];refine u0.here h0 (rc:= .sl (.loc 0) 0 1 (Z5 l).length none) (Oc:=[(0, .rows 1 ((Z5 l++List.replicate (l.length-(Z5 l).length) ([]:List UInt8)).map Ze))]) rfl rfl (by first|rfl|(simp only[Zl,Zh,Z2 _ (Zq _),zB,zF]<;>rfl)) ⟨rfl,trivial⟩ ⟨rfl,rfl,rfl⟩
 have h2:2<=l.length:=by simp at h;omega
 clear h;conv=>whnf
 refine vZ.go Z0 [0] (X:=Nat) (fun k=>1<=k/\k<=l.length/\Z5 (l.take k)=l.take k) (fun k=>[(3, .int .i64 (k:Int))]) (fun k=>[(0, .rows 1 (l.map Ze))]) 1 (fun k=>l.length-k) 1 ⟨by omega,by omega,NZ⟩ ?_;conv=>whnf
 refine⟨by exact vU.cA h0,?_⟩;rintro k ⟨o9,av,hk⟩;conv=>whnf
 rcases zY k l.length with hlt|hge
 .have hs:=Jy o9 hlt;have hk':(IntKind.i64.wrap ((k:Int)-1)).toNat=k-1:=by rw[Z9 (by omega) (by omega)];omega
  repeat'(first|refine Z4 6 MF ?_|refine GET.at (row:=Ze (l[k]'(by omega))) (Vc (by omega) (by omega)) ?_|refine GET.at (row:=Ze (l[k-1]'(by omega))) (Vc (by omega) (by omega)) ?_|refine AU ?_|refine IW ?_ ?_<;>intro h<;>try omega)<;>conv=>whnf
  .have heq:l[k]=l[k-1]:=id (h);rw[zf heq,hk]at hs;have hs0:(Z5 (l.take (k+1))).length=k:=by rw[hs];simp;omega
   clear h heq;refine vZ.go Z0 [0,4] (X:=Nat) (fun i=>k+1<=i/\i<=l.length/\(Z5 (l.take i)).length+1<=i/\k<=(Z5 (l.take i)).length) (fun i=>[(3, .int .i64 ((Z5 (l.take i)).length:Int)),(5, .int .i64 ((i-k:Nat):Int))]) (fun i=>[(0, .rows 1 ((Z5 (l.take i)++l.drop (Z5 (l.take i)).length).map Ze))]) 1 (fun i=>l.length-i) (k+1) ⟨by omega,by omega,by omega,by omega⟩ ?_;conv=>whnf
   refine⟨by(refine vU.wE h0 rfl rfl rfl (by first|rfl|(simp only[Zl,Zh,Z2 _ (Zq _),zB,zF]<;>rfl)) ?_ ?_<;>(repeat'(first|(with_reducible rfl)|(exact YA rfl (by first|(simp;done)|omega|(simp;omega)))|(exact z8 (SV.int _) (by first|omega|(simp(disch:=omega) only[wI,Z9,Zp]<;>omega)|(simp;done)|(simp<;>omega)))|(exact z8 (Hp.rows _) (by(rw[hs,zq,x7 av,yW])))|((conv=>whnf);refine⟨?_,?_⟩)|exact trivial|rfl))),?_⟩;rintro i ⟨hi1,hi2,Cf,hi4⟩;obtain⟨C,hC⟩:∃C,C=Z5 (l.take i):=⟨_,rfl⟩;have hsi:=fun h=>Jy (l:=l) (i:=i) (by omega) h;rw[<-hC]at Cf hi4 hsi;dsimp only;rw[<-hC];conv=>whnf
   rcases zY i l.length with hil|hil
   .have hsi:=hsi hil;have hwr:IntKind.i64.wrap (((i-k:Nat):Int)-1)=((i-1-k:Nat):Int):=by rw[Z9 (by omega) (by omega)];omega
    have hg1:((C++l.drop C.length).map Ze)[i]?=some (Ze l[i]):=rB Ze (by omega) hil;have hg2:((C++l.drop C.length).map Ze)[i-1]?=some (Ze (l[i-1]'(by omega))):=rB Ze (by omega) (by omega);have hg3:((C++l.drop C.length).map Ze)[C.length]?=some (Ze (l[C.length]'(by omega))):=rB Ze (zo _) (by omega);repeat'(first|refine Z4 11 MF ?_|refine GET.at (row:=Ze (l[i]'(by omega))) (iT hg1 (by omega)) ?_|refine GET.at (row:=Ze (l[i-1]'(by omega))) (iT hg2 (by rw[hwr];omega)) ?_|refine GET.at (row:=Ze (l[C.length]'(by omega))) (iT hg3 (by omega)) ?_|refine AU ?_|refine IW ?_ ?_<;>intro h<;>try omega)<;>conv=>whnf
    .have hne:¬l[i]=l[i-1]'(by omega):=fun he=>by rw[he]at h;simp at h
     rw[z7 hne]at hsi;refine⟨i+1,⟨by omega,by omega,by rw[hsi,zh];simp;omega,by rw[hsi,zh];simp;omega⟩,by omega,?_⟩;rw[hsi];conv=>whnf
     (refine vU.wE h0 rfl rfl rfl (by first|rfl|(simp only[Zl,Zh,Z2 _ (Zq _),zB,zF]<;>rfl)) ?_ ?_<;>(repeat'(first|(with_reducible rfl)|(exact YA rfl (by first|(simp;done)|omega|(simp;omega)))|(exact z8 (SV.int _) (by first|omega|(simp(disch:=omega) only[wI,Z9,Zp]<;>omega)|(simp;done)|(simp<;>omega)))|(exact z8 (Hp.rows _) (by(first|(simp only[zx,Int.toNat_natCast];exact FN Ze _ (by omega))|rfl)))|((conv=>whnf);refine⟨?_,?_⟩)|exact trivial|rfl)))
    .have heq:l[i]=l[i-1]'(by omega):=id (h);rw[zf heq]at hsi;refine⟨i+1,⟨by omega,by omega,by rw[hsi];omega,by rw[hsi];omega⟩,by omega,?_⟩;rw[hsi];conv=>whnf
     exact vU.cA h0
   .have nZ:C=Z5 l:=by rw[hC,zg hil]
    have kg:C.length<=l.length:=by omega
    repeat'(first|refine u6.mk (by simp only[zy,zh,zD];omega) ?_|refine u6.mk ⟨by omega,Kc (by omega)⟩ ?_|refine AU ?_|refine IW ?_ ?_<;>intro h<;>try omega)<;>conv=>whnf
    rw[<-nZ];refine u0.here h0 (rc:= .sl (.loc 0) 0 1 C.length none) (Oc:=[(0, .rows 1 ((C++List.replicate (l.length-C.length) ([]:List UInt8)).map Ze))]) (by simp) rfl (by first|rfl|(simp only[Zl,Zh,Z2 _ (Zq _),zB,zF]<;>rfl)) ⟨?_,trivial⟩ ⟨rfl,rfl,rfl⟩;refine z8 (Hp.rows 1) ?_;simp only[zx,Int.toNat_natCast];exact MC Ze ([]:List UInt8) kg
  .have hne:¬l[k]=l[k-1]:=fun he=>by rw[he]at h;simp at h
   rw[z7 hne,hk]at hs;refine⟨k+1,⟨by omega,by omega,by rw[hs,zH hlt]⟩,by omega,?_⟩;conv=>whnf
   exact vU.cA h0
 .have hkn:k=l.length:=by omega
  rw[hkn,zg (zo _)]at hk;obtain⟨f1,f2⟩:=fin rfl hk;repeat'(first|refine IW ?_ ?_<;>intro h<;>try omega)<;>conv=>whnf
  rw[f1,f2];refine u0.here h0 (rc:= .sl (.loc 0) 0 1 (Z5 l).length none) (Oc:=[(0, .rows 1 ((Z5 l++List.replicate (l.length-(Z5 l).length) ([]:List UInt8)).map Ze))]) rfl rfl (by first|rfl|(simp only[Zl,Zh,Z2 _ (Zq _),zB,zF]<;>rfl)) ⟨rfl,trivial⟩ ⟨rfl,rfl,rfl⟩
def ZbZ:Go.Shelf.Ren:=⟨fun|190=>89|125=>114|258=>125|128=>150|129=>151|302=>165|303=>166|304=>167|305=>168|306=>169|307=>170|308=>171|309=>172|310=>173|333=>217|329=>196|330=>197|334=>218|335=>219|336=>220|344=>268|n=>n,fun|31=>31|9=>9|3=>3|46=>177|0=>0|51=>157|53=>162|4=>4|183=>208|182=>207|131=>103|5=>5|218=>250|222=>87|228=>292|229=>130|n=>n,fun|n=>n⟩
theorem ZjQ:Go.Proofs.Lays.n190 prog ZbZ where
 mixed:=by kernel_rfl
 f125:=func114.trans (z8 some (by kernel_rfl))
 f128:=func150.trans (z8 some (by kernel_rfl))
 f129:=func151.trans (z8 some (by kernel_rfl))
 f190:=func89.trans (z8 some (by kernel_rfl))
 f258:=func125.trans (z8 some (by kernel_rfl))
 f302:=func165.trans (z8 some (by kernel_rfl))
 f303:=func166.trans (z8 some (by kernel_rfl))
 f304:=func167.trans (z8 some (by kernel_rfl))
 f305:=func168.trans (z8 some (by kernel_rfl))
 f306:=func169.trans (z8 some (by kernel_rfl))
 f307:=func170.trans (z8 some (by kernel_rfl))
 f308:=func171.trans (z8 some (by kernel_rfl))
 f309:=func172.trans (z8 some (by kernel_rfl))
 f310:=func173.trans (z8 some (by kernel_rfl))
 f329:=func196.trans (z8 some (by kernel_rfl))
 f330:=func197.trans (z8 some (by kernel_rfl))
 f333:=func217.trans (z8 some (by kernel_rfl))
 f334:=func218.trans (z8 some (by kernel_rfl))
 f335:=func219.trans (z8 some (by kernel_rfl))
 f336:=func220.trans (z8 some (by kernel_rfl))
 f344:=func268.trans (z8 some (by kernel_rfl))
 t0:=underlying0
 a0:=isAgg0
 z0:=sizeOf0
 v0:=zeroValue0
 t3:=underlying3
 a3:=isAgg3
 z3:=sizeOf3
 v3:=zeroValue3
 t4:=underlying4
 a4:=isAgg4
 z4:=sizeOf4
 v4:=zeroValue4
 t5:=underlying5
 a5:=isAgg5
 z5:=sizeOf5
 v5:=zeroValue5
 t9:=underlying9
 a9:=isAgg9
 z9:=sizeOf9
 v9:=zeroValue9
 t31:=underlying31
 a31:=isAgg31
 z31:=sizeOf31
 v31:=zeroValue31
 t46:=underlying177
 a46:=isAgg177
 z46:=sizeOf177
 v46:=zeroValue177
 t51:=underlying157
 a51:=isAgg157
 z51:=sizeOf157
 v51:=zeroValue157
 t53:=underlying162
 a53:=isAgg162
 z53:=sizeOf162
 v53:=zeroValue162
 t131:=underlying103
 a131:=isAgg103
 z131:=sizeOf103
 v131:=zeroValue103
 t182:=underlying207
 a182:=isAgg207
 z182:=sizeOf207
 v182:=zeroValue207
 t183:=underlying208
 a183:=isAgg208
 z183:=sizeOf208
 v183:=zeroValue208
 t218:=underlying250
 a218:=isAgg250
 z218:=sizeOf250
 v218:=zeroValue250
 t222:=underlying87
 a222:=isAgg87
 z222:=sizeOf87
 v222:=zeroValue87
 t228:=underlying292
 a228:=isAgg292
 z228:=sizeOf292
 v228:=zeroValue292
 t229:=underlying130
 a229:=isAgg130
 z229:=sizeOf130
 v229:=zeroValue130
theorem Zc0(l:List (List UInt8))(hl:l.length*16<=140737488351232):vS prog uf 89 1 [.sl (.loc 0) 0 1 l.length none] [(0, .rows 1 (l.map Ze))] []
 (fun r O nx=>r= .uz []/\O=[(0, .rows 1 ((l.mergeSort (q9 cmpL)).map Ze))]/\nx=1):=
 Z84 ZjQ call89 l (by omega)
end Go.Proofs.YtlcbipfmodcedaaGreatDoor
namespace Go.Proofs.YtlcbipfmodcedaaGreatDoor
open Go.Sx Go.Our
open _root_.Go.Proofs.Tryz
theorem Zg8{ys xs:List (List SV)}{r n m l b:Nat}(B:Nat)(hb:Nat.ble b B=true)(hB:Nat.ble 1 B=true)(h0:l=r+n)(hm:0<m)(h1:ys.length=n)(h2:xs.length=m)(h3:min (2*(n+m)) ((n+m)+(n+m)/4+192)*B<=281474976710656):
 l=r+n/\0<m/\ys.length=n/\xs.length=m/\n+m<=9223372036854775807/\min (2*(n+m)) ((n+m)+(n+m)/4+192)*b<=281474976710656:=by
 have h4:=Zn (xs:=xs) (n:=n) (k:=n) B hb hB h2 (zo _) h3;exact⟨h0,hm,h1,h2,h4.2.2.1,h4.2.2.2⟩
def KE:Qd:=⟨ZC,ZC,⟨-9,[],[],[]⟩,ZC⟩
def KF:Qd:=⟨ZC,⟨-8,[],[],[]⟩,ZC,ZC⟩
theorem Zig{C L:List Qd}{k:Nat}{row:List SV}(h:C.length<L.length)(hk:k=C.length)(hr:row=Z3 KE):((C++L.drop C.length).map Z3).set k row=((C++ [KE])++L.drop (C++ [KE]).length).map Z3:=by
 subst hk hr;exact FN Z3 KE h
theorem Zc2(L:List Qd)(n:Nat)(hn:n<=L.length)(lim:Option Nat)(hl:n*224<=140737488351232)(hL:L.length<=1152921504606846976)(hlim:lim=none\/lim=some n):vS prog uf 17 1 [.sl (.loc 0) 0 16 n lim] [(0, .rows 16 (L.map Z3))] [] (w6 1 (.uz [])):=by
 rcases hlim with rfl|rfl
 all_goals
  refine vS.enter Z0 call17 func17 rfl 24 rfl rfl [] rfl ?_;intro w0 F η0 h0;conv=>whnf
  refine vZ.go Z0 [0] (X:=List Qd) (fun C=>C.length<=n) (fun C=>[(2, .int .i64 (C.length:Int))]) (fun C=>[(0, .rows 16 ((C++L.drop C.length).map Z3))]) 1 (fun C=>n-C.length) [] (by simp) ?_;conv=>whnf
  refine⟨by exact vU.cA h0,?_⟩;intro C hC;conv=>whnf
  rcases zY C.length n with hlt|hge
  .have hg:((C++L.drop C.length).map Z3)[0+(C.length:Int).toNat]?=some (Z3 (L[C.length]'(by omega))):=by
    rw[zx,Int.toNat_natCast];exact rB Z3 (zo _) (by omega)
   repeat'(first|refine GET.at (row:=Z3 (L[C.length]'(by omega))) hg ?_|refine AU ?_|refine IW ?_ ?_<;>intro h<;>try omega)<;>conv=>whnf
   refine⟨C++ [KE],by simp;omega,by simp;omega,?_⟩;rw[Zig (by omega) (by omega) (by rfl)];conv=>whnf
   exact vU.cA h0
  .have hce:C.length=n:=by omega
   have hCr:C.map Z3=((C++L.drop C.length).map Z3).take n:=by rw[<-hce,yz,xl (by simp),zg (by simp)]
   repeat'(first|refine AU ?_|refine IW ?_ ?_<;>intro h<;>try omega)<;>conv=>whnf
   refine vZ.once Z0 ?_;conv=>whnf
   repeat'(first|refine u6.mk (Zn 224 rfl rfl rfl (by simp;omega) (by omega)) ?_|refine u6.mk (Zg8 224 rfl rfl (by omega) (by omega) (by simp;omega) rfl (by omega)) ?_|refine AU ?_|refine IW ?_ ?_<;>intro h<;>try omega)<;>conv=>whnf
   refine vZ.go Z0 [] (X:=List Qd×Nat) (fun x=>1<=x.2/\x.2<=9/\x.1.length<=n+x.2) (fun x=>[(3, .int .i64 (x.2:Int)),(0, .sl (.loc 1) 0 16 x.1.length none)]) (fun x=>[(1, .rows 16 (x.1.map Z3))]) 2 (fun x=>9-x.2) (C++ [KF],1) ⟨by simp,by simp,by simp;omega⟩ ?_;conv=>whnf
   refine⟨by(refine vU.uw h0 [2] rfl rfl rfl (by first|rfl|(simp only[Zl,Zh,Z2 _ (Zo _),zB,zF]<;>rfl)) ?_ ?_<;>(repeat'(first|(with_reducible rfl)|(exact Zk (Zo _) (Zd _ (Zo _)))|(exact Zk (Zo _) (by(show _=(C++ [KF]).map Z3;rw[yz (l₁:=C) (l₂:=[KF])];refine congr (z8 _ hCr.symm) rfl)))|(exact YA rfl (by first|(simp;done)|omega|(simp;omega)))|(exact z8 (SV.int _) (by first|omega|(simp(disch:=omega) only[wI,Z9,Zp]<;>omega)|(simp;done)|(simp<;>omega)))|((conv=>whnf);refine⟨?_,?_⟩)|exact trivial|(simp only[ur,uS];done)|rfl))),?_⟩;rintro⟨D,k⟩ ⟨o9,hk9,hD⟩;dsimp only at o9 hk9 hD⊢;conv=>whnf
   rcases zY k 9 with hk|hk
   .repeat'(first|refine u6.mk (Zn 224 rfl rfl rfl (by simp) (by omega)) ?_|refine AU ?_|refine IW ?_ ?_<;>intro h<;>try omega)<;>conv=>whnf
    refine⟨(D++ [KF],k+1),⟨by dsimp only;omega,by dsimp only;omega,by dsimp only;rw[zh];simp;omega⟩,by dsimp only;omega,?_⟩;dsimp only;conv=>whnf
    (refine vU.uw h0 [3] rfl rfl rfl (by first|rfl|(simp only[Zl,Zh,Z2 _ (Zo _),zB,zF]<;>rfl)) ?_ ?_<;>(repeat'(first|(with_reducible rfl)|(exact Zk (Zo _) (Zd _ (Zo _)))|(exact Zk (Zo _) (by(simp[zg,YG,Z3,KF,ZC];try rfl)))|(exact YA rfl (by first|(simp;done)|omega|(simp;omega)))|(exact z8 (SV.int _) (by first|omega|(simp(disch:=omega) only[wI,Z9,Zp]<;>omega)|(simp;done)|(simp<;>omega)))|((conv=>whnf);refine⟨?_,?_⟩)|exact trivial|(simp only[ur,uS];done)|rfl)))
   .repeat'(first|refine AU ?_|refine IW ?_ ?_<;>intro h<;>try omega)<;>conv=>whnf
    exact u0.ua h0 rfl rfl
theorem Cj{l z:List Qd}{i:Nat}{k:Nat}(h:i<l.length)(e:k=i):((l++z).map Z3)[k]?=some (Z3 l[i]):=by subst e;exact Ji h
open _root_.Go.Proofs.Tryz
def Zg9:uu:=(Zs [(0,1),(1,1),(2,1),(3,1),(4,1),(5,1),(6,1),(7,1),(8,1),(9,1),(10,1),(11,1),(12,1),(13,0)])
theorem Zeb(q:Qd):vS prog uf 44 1 [.ptr (.loc 0) 0 0 0] [] [(0, .box (Z3 q))] (w6 1 (.arr 1 [[.ptr (.loc 0) 0 0 0],[.ptr (.loc 0) 0 0 4],[.ptr (.loc 0) 0 0 8],[.ptr (.loc 0) 0 0 12]])):=by
 refine vS.enter Z0 call44 func44 rfl 16 rfl rfl [.cell 2 100] rfl ?_;intro w0 F η0 h0;conv=>whnf
 repeat'(first|refine Z4 1 Zg9 ?_|refine AU ?_)<;>conv=>whnf
 exact u0.here h0 (rc:= .arr 1 [[.ptr (.loc 0) 0 0 0],[.ptr (.loc 0) 0 0 4],[.ptr (.loc 0) 0 0 8],[.ptr (.loc 0) 0 0 12]]) (Oc:=[]) rfl rfl rfl trivial ⟨rfl,rfl,rfl⟩
open _root_.Go.Proofs.Tryz
theorem Zem(c:Int)(hc:0<=c/\c<256):vS prog uf 255 0 [.int .u8 c] [] [] (uN (.uz [.int .i64 (nW c).1, .int .i32 (nW c).2])):=by
 refine vS.enter Z0 call255 func255 rfl 30 rfl rfl [.tmp 2, .tmp 3] rfl ?_;intro w0 F η0 h0;conv=>whnf
 repeat'(first|refine IW ?_ ?_<;>intro h<;>try omega)<;>conv=>whnf
 all_goals (refine u0.value h0 rfl ?_;unfold nW;(first|(simp(disch:=omega) only[↓zf,↓z7,ite_self,Z9,Zp,Int.reduceAdd,Int.reduceSub,Int.reduceMul,Int.reduceNeg,Nn,Np,Kg];done)|(simp(disch:=omega) only[↓zf,↓z7,ite_self,Z9,Zp,Int.reduceAdd,Int.reduceSub,Int.reduceMul,Int.reduceNeg,Nn,Np,Kg];with_reducible rfl)))
theorem Z9B(r:Int):vS prog uf 257 0 [.int .i32 r] [] [] (uN (.bool (Ul r))):=by
 refine vS.enter Z0 call257 func257 rfl 17 rfl rfl [.tmp 2] rfl ?_;intro w0 F η0 h0;conv=>whnf
 skip
 refine u0.value h0 rfl (z8 SV.bool ?_);rw[zX,YT];simp only[x8,yw,xw,xC,zj,yU];omega
theorem Zcc(n:Int)(hn:0<=n/\n<5):vS prog uf 256 0 [.int .i64 n] [] [] (uN (.int .i32 (Ke n))):=by
 have hn:n=0\/n=1\/n=2\/n=3\/n=4:=by omega
 rcases hn with rfl|rfl|rfl|rfl|rfl
 all_goals
  refine vS.enter Z0 call256 func256 rfl 6 rfl rfl [.tmp 2] rfl ?_;intro w0 F η0 h0;conv=>whnf
  repeat'(first|refine AU ?_)<;>conv=>whnf
  exact u0.value h0 rfl rfl
theorem Zim{c:Int}{n r:Int}(hc:0<=c/\c<256)(h:nW c=(n,r)):vS prog uf 255 0 [.int .u8 c] [] [] (uN (.uz [.int .i64 n, .int .i32 r])):=by
 have:=Zem c hc;rw[h]at this;exact this
theorem CG(s:List UInt8)(i:Int)(hs:Sm s):vS prog uf 208 0 [.str s, .int .i64 i] [] [] (uN (.uz [.int .i32 (Zc s i).1, .int .i64 (Zc s i).2])):=by
 refine vS.enter Z0 call208 func208 rfl 65 rfl rfl [.tmp 4, .tmp 5] rfl ?_;intro w0 F η0 h0;conv=>whnf
 repeat'(first|refine AU ?_|refine IW ?_ ?_<;>intro h<;>try omega)<;>conv=>whnf
 .refine u0.value h0 rfl ?_;unfold Zc;rw[zf h]
 .have e0:=ZJ s i;have e1:=ZJ s (i+1);have e2:=ZJ s (i+2);have e3:=ZJ s (i+3);have hl:=Z9e (Z1 s i);rcases hl with⟨hb,hl⟩|⟨hb,hl⟩|⟨hb,hl⟩|⟨hb,hl⟩|⟨hb,hl⟩
  all_goals
   refine CALL.value (Zim e0 hl) rfl rfl ?_;conv=>whnf
   repeat'(first|refine CALL.value (Zcc _ (by omega)) rfl rfl ?_|refine vZ.once Z0 ?_|refine CALL.value (Z9B _) rfl rfl ?_|refine AU ?_|refine IW ?_ ?_<;>intro h<;>try omega)<;>conv=>whnf
  all_goals
   refine u0.value h0 rfl ?_;unfold Zc eL r2 r3 r4;try simp(disch:=omega) only[Nr,ZjG,Zi0,Zi1,Zi2,Zi3,YT,Nl]at*
   (simp(disch:=omega) only[↓zf,↓z7,ite_self,Z9,Zp,Int.reduceAdd,Int.reduceSub,Int.reduceMul,Int.reduceNeg,Nr])
theorem Lc(s:List UInt8)(hs:Sm s):vS prog uf 160 0 [.str s] [] [] (uN (.int .i64 (eM s 0))):=by
 refine vS.enter Z0 call160 func160 rfl 22 rfl rfl [.tmp 2] rfl ?_;intro w0 F η0 h0;conv=>whnf
 refine vZ.go Z0 [0] (X:=Nat) (fun i=>i<=s.length/\eM s i=eM s 0) (fun i=>[(3, .int .i64 (i:Int))]) (fun _=>[]) 0 (fun i=>s.length-i) 0 ⟨by omega,rfl⟩ ?_;conv=>whnf
 refine⟨by exact vU.cA h0,?_⟩;rintro i ⟨hi,hc⟩;conv=>whnf
 have hn:=YY s i;repeat'(first|refine CALL.value (CG s _ hs) rfl rfl ?_|refine IW ?_ ?_<;>intro h<;>try omega)<;>conv=>whnf
 .have hz:(Zc s i).2=0:=h;refine u0.value h0 rfl ?_;rw[<-hc,Fq (by omega) hz]
 .rename_i h1;refine⟨i+(Zc s i).2.toNat,⟨by omega,?_⟩,by omega,?_⟩;rw[<-hc,<-Fs (by omega) h]
  .conv=>whnf
   exact vU.cA h0
 .refine u0.value h0 rfl ?_;rw[<-hc,DE (by omega)]
open _root_.Go.Proofs.Tryz
theorem WG(s:List UInt8)(c:Int):vS prog uf 315 0 [.str s, .int .u8 c] [] [] (uN (.int .i64 (Lib.indexByte s c.toNat.toUInt8))):=by
 refine vS.says fun K w vs hd=>?_;simp only[vV,Den]at hd;obtain⟨u,us,rfl,rfl,u',us',rfl,rfl,rfl⟩:=hd;refine⟨_,?_,rfl⟩;rw[run_callFunc_extern func315 (by kernel_rfl) (by kernel_rfl) (by kernel_rfl) (e:=Extern.BytealgIndexByte.indexByte) (by kernel_rfl),Lib.run_indexByteString]
 rfl
theorem UD(s:List UInt8)(c:Int):vS prog uf 301 0 [.str s, .int .u8 c] [] [] (uN (.int .i64 (Lib.indexByte s c.toNat.toUInt8))):=by
 refine vS.enter Z0 call301 func301 rfl 8 rfl rfl [.tmp 4] rfl ?_;intro w0 F η0 h0;conv=>whnf
 repeat'(first|refine CALL.value (WG _ _) rfl rfl ?_)<;>conv=>whnf
 exact u0.value h0 rfl rfl
theorem WR(s:List UInt8)(c:Int):vS prog uf 269 0 [.str s, .int .u8 c] [] [] (uN (.int .i64 (Lib.indexByte s c.toNat.toUInt8))):=by
 refine vS.enter Z0 call269 func269 rfl 8 rfl rfl [.tmp 4] rfl ?_;intro w0 F η0 h0;conv=>whnf
 repeat'(first|refine CALL.value (UD _ _) rfl rfl ?_)<;>conv=>whnf
 exact u0.value h0 rfl rfl
theorem Z4M(r:Int):vS prog uf 308 0 [.int .i32 r] [] [] (uN (.bool (Ul r))):=by
 refine vS.enter Z0 call308 func308 rfl 17 rfl rfl [.tmp 2] rfl ?_;intro w0 F η0 h0;conv=>whnf
 repeat'(first|refine IW ?_ ?_<;>intro h<;>try omega)<;>conv=>whnf
 all_goals
  refine u0.value h0 rfl (z8 SV.bool ?_);rw[zX,YT];simp;try omega
theorem Z8l(g:Nat)(p:Int->Bool)(hp:∀r:Int,Yp r->vS prog uf g 0 [.int .i32 r] [] [] (uN (.bool (p r))))(s:List UInt8)(hs:Sm s):vS prog uf 250 0 [.str s, .fn (.func g) [] [], .bool true] [] [] (uN (.int .i64 (gm p s 0))):=by
 refine vS.enter Z0 call250 func250 rfl 21 rfl rfl [.tmp 6] rfl ?_;intro w0 F η0 h0;conv=>whnf
 refine vZ.go Z0 [1,2,10] (X:=Nat) (fun i=>i<=s.length/\gm p s i=gm p s 0) (fun i=>[]) (fun i=>[(0, .wu s i)]) 1 (fun i=>s.length-i) 0 ⟨by omega,rfl⟩ ?_;conv=>whnf
 refine⟨by exact vU.cA h0,?_⟩;rintro i ⟨hi,hc⟩;conv=>whnf
 refine⟨fun h=>?_,fun h=>?_⟩
 .have h:i<s.length:=by simpa using h
  have hf:=Co s i h;have hd:=FU s i;conv=>whnf
  repeat'(first|refine CALL.value (hp _ (Z9u s i)) rfl rfl ?_|refine AU ?_|refine IW ?_ ?_<;>intro h<;>try omega)<;>conv=>whnf
  .refine u0.value h0 rfl ?_;rw[<-hc,MT (by omega) (by simpa using h)]
  .refine⟨i+(qp s i).2,⟨by omega,?_⟩,by omega,?_⟩;rw[<-hc,<-Cq (by omega) (by simpa using h)]
   .conv=>whnf
    exact vU.cA h0
 .have h:s.length<=i:=by simpa using h
  conv=>whnf
  repeat'(first|refine AU ?_)<;>conv=>whnf
  refine u0.value h0 rfl ?_;rw[<-hc,MS h]
theorem Z4N(g:Nat)(p:Int->Bool)(hp:∀r:Int,Yp r->vS prog uf g 0 [.int .i32 r] [] [] (uN (.bool (p r))))(s:List UInt8)(hs:Sm s):vS prog uf 204 0 [.str s, .fn (.func g) [] []] [] [] (uN (.int .i64 (gm p s 0))):=by
 refine vS.enter Z0 call204 func204 rfl 8 rfl rfl [.tmp 4] rfl ?_;intro w0 F η0 h0;conv=>whnf
 repeat'(first|refine CALL.value (Z8l g p hp s hs) rfl rfl ?_)<;>conv=>whnf
 exact u0.value h0 rfl rfl
end Go.Proofs.YtlcbipfmodcedaaGreatDoor
