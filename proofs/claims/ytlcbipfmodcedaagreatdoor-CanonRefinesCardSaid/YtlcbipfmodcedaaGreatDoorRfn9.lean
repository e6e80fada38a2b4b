/- Part 9: Tab, Cmp7, Lists7, Rise7, Sets1, Sets2, ListS, Over7, Find7, Fits7, Utf1, Utf04. Conditions: as each part says. -/
import Derived.Test.YtlcbipfmodcedaaGreatDoorProg
import Derived.Test.YtlcbipfmodcedaaGreatDoorRfn6
import Derived.Test.YtlcbipfmodcedaaGreatDoorRfn8
set_option maxRecDepth 100000
namespace Go.Proofs.YtlcbipfmodcedaaGreatDoor
open Go.Sx
open Tryz
def bt{α:Type}(t n:Nat)(a b:α):α:=match Nat.ble t n with|true=>a|false=>b
theorem Zer{α:Type}{t n:Nat}{a b:α}(h:Nat.ble t n=false):bt t n a b=b:=by unfold bt;rw[h]
def ZhA(t:TypeId):Sh:=bt t 353 (bt t 176 (bt t 87 (bt t 43 (bt t 21 (bt t 10 (bt t 4 (bt t 1 (bt t 0 .plain .func) (bt t 2 (.int .i64) (bt t 3 (.int .i64) .bool))) (bt t 7 (bt t 5 (.int .u8) (bt t 6 (.int .u8) (.struct [(0,2),(1,3),(2,4),(3,6)]))) (bt t 8 (.struct [(0,2),(1,3),(2,4),(3,6)]) .str))) (bt t 15 (bt t 12 (bt t 11 .str (.int .u64)) (bt t 13 (.struct [(0,9),(1,12)]) (bt t 14 (.struct [(0,9),(1,12)]) (.ptr 342)))) (bt t 18 (bt t 16 (.ptr 345) (bt t 17 (.ptr 353) (.struct [(0,17)]))) (bt t 19 (.struct [(0,17)]) (bt t 20 .iface (.int .i32)))))) (bt t 32 (bt t 26 (bt t 23 (bt t 22 (.slice 67) .func) (bt t 24 (.slice 31) (bt t 25 (.int .i64) .plain))) (bt t 29 (bt t 27 .func (bt t 28 .plain .func)) (bt t 30 .func (bt t 31 (.slice 9) .func)))) (bt t 37 (bt t 34 (bt t 33 (.slice 39) .plain) (bt t 35 .func (bt t 36 .plain .func))) (bt t 40 (bt t 38 (.struct [(0,9),(1,9)]) (bt t 39 (.struct [(0,9),(1,9)]) .func)) (bt t 41 .func (bt t 42 .func .plain)))))) (bt t 65 (bt t 54 (bt t 48 (bt t 45 .func (bt t 46 .func (bt t 47 .func .plain))) (bt t 51 .func (bt t 52 (.slice 5) (bt t 53 .plain .func)))) (bt t 59 (bt t 56 (bt t 55 .plain .func) (bt t 57 (.array 32 5) (bt t 58 .plain .func))) (bt t 62 (bt t 60 .func (bt t 61 .func .plain)) (bt t 63 .func (.struct [(0,3),(1,9),(2,9),(3,9)]))))) (bt t 76 (bt t 70 (bt t 67 (.struct [(0,65),(4,65),(8,65),(12,65)]) (bt t 68 .func (bt t 69 (.ptr 77) .plain))) (bt t 73 (bt t 71 .func (bt t 72 (.slice 3) .func)) (bt t 74 (.map 9 3) (bt t 75 (.slice 72) (.struct [(0,22),(1,31),(2,74),(3,75)]))))) (bt t 81 (bt t 78 (bt t 77 (.struct [(0,22),(1,31),(2,74),(3,75)]) (.map 3 31)) (bt t 79 .func (bt t 80 (.ptr 83) .func))) (bt t 84 (bt t 82 (.struct [(0,22),(1,31),(2,74),(3,75)]) (bt t 83 (.struct [(0,22),(1,31),(2,74),(3,75)]) .func)) (bt t 85 .func (bt t 86 .func (.ptr 3)))))))) (bt t 131 (bt t 109 (bt t 98 (bt t 92 (bt t 89 .func (bt t 90 .func (bt t 91 (.ptr 93) (.struct [(0,80),(1,3),(2,4),(3,4),(4,22),(5,33)])))) (bt t 95 (bt t 93 (.struct [(0,80),(1,3),(2,4),(3,4),(4,22),(5,33)]) .func) .func)) (bt t 103 (bt t 100 (bt t 99 (.ptr 65) (.array 4 99)) (bt t 101 .func (bt t 102 (.ptr 67) .plain))) (bt t 106 (bt t 104 .func (bt t 105 .func (.array 4 65))) (bt t 107 .func (bt t 108 .func (.ptr 160)))))) (bt t 120 (bt t 114 (bt t 111 (bt t 110 .func .plain) .func) (bt t 117 (bt t 115 .func (bt t 116 (.ptr 121) .func)) (bt t 118 (.slice 200) (bt t 119 (.slice 22) (.struct [(0,31),(1,72),(2,118),(3,119),(4,3)]))))) (bt t 125 (bt t 122 (bt t 121 (.struct [(0,31),(1,72),(2,118),(3,119),(4,3)]) (.ptr 125)) (bt t 123 (.map 106 3) (.struct [(0,116),(1,3),(2,123),(3,72),(4,72),(5,3)]))) (bt t 128 (bt t 126 .func (bt t 127 .plain .func)) (bt t 129 .func (bt t 130 .plain .func)))))) (bt t 153 (bt t 142 (bt t 136 (bt t 133 (bt t 132 (.slice 135) .func) (bt t 134 (.struct [(0,3),(1,3),(2,22)]) (bt t 135 (.struct [(0,3),(1,3),(2,22)]) .func))) (bt t 139 .func (bt t 140 .func (bt t 141 .plain .func)))) (bt t 147 (bt t 144 (bt t 143 (.slice 65) .func) .func) .func)) (bt t 164 (bt t 158 (bt t 155 .func (bt t 156 .func (bt t 157 (.int .u32) (.array 8 157)))) (bt t 161 (bt t 159 (.struct [(0,158),(8,52),(9,3)]) (bt t 160 (.struct [(0,158),(8,52),(9,3)]) .func)) (bt t 162 (.int .u64) .func))) (bt t 170 .func (bt t 173 (bt t 171 .func (bt t 172 .func (.map 3 3))) (bt t 174 (.map 3 72) .func))))))) (bt t 264 (bt t 220 (bt t 198 (bt t 187 (bt t 181 (bt t 178 (bt t 177 (.int .u64) .func) .func) (bt t 184 (bt t 182 .func (bt t 183 .func (.ptr 186))) (bt t 185 (.struct [(0,184),(1,52)]) (bt t 186 (.struct [(0,184),(1,52)]) .func)))) (bt t 192 (bt t 189 .iface (bt t 190 .plain .func)) (bt t 195 (bt t 193 .func (bt t 194 (.array 64 157) .func)) (bt t 196 (.array 4 3) (.struct [(0,106),(16,196)]))))) (bt t 209 (bt t 203 (bt t 200 (bt t 199 .func (.slice 198)) .func) (bt t 206 .func (bt t 207 (.int .i64) (bt t 208 .plain .func)))) (bt t 214 .func (bt t 217 (bt t 215 (.array 24 5) (bt t 216 .func .plain)) .func)))) (bt t 242 (bt t 231 (bt t 225 (bt t 222 (bt t 221 .func (.struct [(0,9),(1,9),(2,9),(3,9),(4,31),(5,31),(6,9)])) (bt t 223 (.struct [(0,9),(1,9),(2,9),(3,9),(4,31),(5,31),(6,9)]) (bt t 224 .plain .func))) .func) (bt t 236 (bt t 233 (bt t 232 .func .plain) (bt t 234 .func (bt t 235 (.ptr 5) (.struct [(0,3),(1,3)])))) (bt t 239 (bt t 237 (.struct [(0,3),(1,3)]) (bt t 238 .plain .func)) (bt t 240 .func (bt t 241 (.array 3 9) .func))))) (bt t 253 (bt t 247 .func (bt t 250 (bt t 248 .func (bt t 249 .func (.int .u64))) .func)) (bt t 258 (bt t 255 .func (bt t 256 .func (bt t 257 (.array 20 162) (.array 65 5)))) (bt t 261 .func (bt t 262 .plain (bt t 263 .func (.ptr 267)))))))) (bt t 308 (bt t 286 (bt t 275 (bt t 269 (bt t 266 (bt t 265 .func (.struct [(0,31),(1,223)])) (bt t 267 (.struct [(0,31),(1,223)]) .func)) (bt t 272 (bt t 270 .plain (bt t 271 .func (.slice 25))) .func)) (bt t 280 (bt t 277 (bt t 276 .func .plain) .func) .func)) (bt t 297 (bt t 291 (bt t 288 (bt t 287 .func .plain) (bt t 289 .func (bt t 290 .plain .func))) (bt t 294 (bt t 292 (.ptr 250) .func) (bt t 295 .func (bt t 296 .plain .func)))) (bt t 302 .func (bt t 305 (bt t 303 (.ptr 305) (.struct [(0,3),(1,189)])) .func)))) (bt t 330 (bt t 319 (bt t 313 .func (bt t 316 (bt t 314 .func (bt t 315 (.ptr 318) .func)) (bt t 317 (.struct [(0,31)]) (bt t 318 (.struct [(0,31)]) .func)))) (bt t 324 (bt t 321 (bt t 320 (.ptr 223) .func) (bt t 322 .func (bt t 323 (.array 64 5) .func))) (bt t 327 (bt t 325 (.array 5 21) .func) (bt t 328 (.array 5 3) (bt t 329 .func (.array 28 3)))))) (bt t 341 (bt t 335 (bt t 332 .func (bt t 333 (.array 24 21) (bt t 334 .func (.array 256 5)))) (bt t 338 (bt t 336 (.struct [(0,5),(1,5)]) (bt t 337 (.struct [(0,5),(1,5)]) (.array 16 337))) (bt t 339 .plain (bt t 340 .func (.struct [(0,17),(1,17),(2,17),(3,9)]))))) (bt t 347 (bt t 344 (bt t 342 (.struct [(0,17),(1,17),(2,17),(3,9)]) (bt t 343 (.array 0 16) (.struct [(0,343)]))) (bt t 345 (.struct [(0,343)]) (bt t 346 .func (.int .u8)))) (bt t 350 (bt t 348 (.int .u8) (bt t 349 .func (.int .i32))) (bt t 351 (.int .i32) (.struct [(0,12),(1,12),(2,157),(3,347),(4,5),(5,5),(6,348),(7,349),(8,235),(9,350),(10,351)]))))))))) .other
def Zgf(t:TypeId):Nat:=bt t 353 (bt t 176 (bt t 87 (bt t 43 (bt t 21 (bt t 10 (bt t 4 1 (bt t 7 (bt t 5 1 (bt t 6 1 4)) (bt t 8 4 1))) (bt t 15 (bt t 12 1 (bt t 13 2 (bt t 14 2 1))) 1)) (bt t 32 1 (bt t 37 1 (bt t 40 (bt t 38 2 (bt t 39 2 1)) 1)))) (bt t 65 (bt t 54 1 (bt t 59 (bt t 56 1 (bt t 57 32 1)) (bt t 62 1 (bt t 63 1 4)))) (bt t 76 (bt t 70 (bt t 67 16 1) (bt t 73 1 (bt t 74 1 (bt t 75 1 4)))) (bt t 81 (bt t 78 (bt t 77 4 1) 1) (bt t 84 (bt t 82 4 (bt t 83 4 1)) 1))))) (bt t 131 (bt t 109 (bt t 98 (bt t 92 (bt t 89 1 (bt t 90 1 (bt t 91 1 6))) (bt t 95 (bt t 93 6 1) 1)) (bt t 103 (bt t 100 (bt t 99 1 4) 1) (bt t 106 (bt t 104 1 (bt t 105 1 16)) 1))) (bt t 120 (bt t 114 1 (bt t 117 1 (bt t 118 1 (bt t 119 1 5)))) (bt t 125 (bt t 122 (bt t 121 5 1) (bt t 123 1 6)) 1))) (bt t 153 (bt t 142 (bt t 136 (bt t 133 1 (bt t 134 3 (bt t 135 3 1))) 1) 1) (bt t 164 (bt t 158 (bt t 155 1 (bt t 156 1 (bt t 157 1 8))) (bt t 161 (bt t 159 10 (bt t 160 10 1)) 1)) 1)))) (bt t 264 (bt t 220 (bt t 198 (bt t 187 (bt t 181 1 (bt t 184 1 (bt t 185 2 (bt t 186 2 1)))) (bt t 192 1 (bt t 195 (bt t 193 1 (bt t 194 64 1)) (bt t 196 4 20)))) (bt t 209 1 (bt t 214 1 (bt t 217 (bt t 215 24 1) 1)))) (bt t 242 (bt t 231 (bt t 225 (bt t 222 (bt t 221 1 7) (bt t 223 7 1)) 1) (bt t 236 (bt t 233 1 (bt t 234 1 (bt t 235 1 2))) (bt t 239 (bt t 237 2 1) (bt t 240 1 (bt t 241 3 1))))) (bt t 253 1 (bt t 258 (bt t 255 1 (bt t 256 1 (bt t 257 20 65))) 1)))) (bt t 308 (bt t 286 (bt t 275 (bt t 269 (bt t 266 (bt t 265 1 8) (bt t 267 8 1)) 1) 1) (bt t 297 1 (bt t 302 1 (bt t 305 (bt t 303 1 2) 1)))) (bt t 330 (bt t 319 1 (bt t 324 (bt t 321 1 (bt t 322 1 (bt t 323 64 1))) (bt t 327 (bt t 325 5 1) (bt t 328 5 (bt t 329 1 28))))) (bt t 341 (bt t 335 (bt t 332 1 (bt t 333 24 (bt t 334 1 256))) (bt t 338 (bt t 336 2 (bt t 337 2 32)) (bt t 339 1 (bt t 340 1 4)))) (bt t 347 (bt t 344 (bt t 342 4 0) (bt t 345 0 1)) (bt t 350 1 (bt t 351 1 11)))))))) 0
def Zcr(t:TypeId):List SV:=bt t 353 (bt t 176 (bt t 87 (bt t 43 (bt t 21 (bt t 10 (bt t 4 (bt t 1 (bt t 0 [] [.val .nilFunc]) (bt t 2 [.int .i64 (0)] (bt t 3 [.int .i64 (0)] [.bool false]))) (bt t 7 (bt t 5 [.int .u8 (0)] (bt t 6 [.int .u8 (0)] [.int .i64 (0), .int .i64 (0), .bool false, .int .u8 (0)])) (bt t 8 [.int .i64 (0), .int .i64 (0), .bool false, .int .u8 (0)] ([.str []])))) (bt t 15 (bt t 12 (bt t 11 [.str []] [.int .u64 (0)]) (bt t 13 [.str [], .int .u64 (0)] (bt t 14 [.str [], .int .u64 (0)] [.val (.pointer none)]))) (bt t 18 [.val (.pointer none)] (bt t 19 [.val (.pointer none)] (bt t 20 [.val .nilIface] [.int .i32 (0)]))))) (bt t 32 (bt t 26 (bt t 23 (bt t 22 [.val (.slice none 0 0)] [.val .nilFunc]) (bt t 24 [.val (.slice none 0 0)] (bt t 25 [.int .i64 (0)] []))) (bt t 29 (bt t 27 [.val .nilFunc] (bt t 28 [] [.val .nilFunc])) (bt t 30 [.val .nilFunc] (bt t 31 [.val (.slice none 0 0)] [.val .nilFunc])))) (bt t 37 (bt t 34 (bt t 33 [.val (.slice none 0 0)] []) (bt t 35 [.val .nilFunc] (bt t 36 [] [.val .nilFunc]))) (bt t 40 (bt t 38 [.str [], .str []] (bt t 39 [.str [], .str []] [.val .nilFunc])) (bt t 41 [.val .nilFunc] (bt t 42 [.val .nilFunc] [])))))) (bt t 65 (bt t 54 (bt t 48 (bt t 45 [.val .nilFunc] (bt t 46 [.val .nilFunc] (bt t 47 [.val .nilFunc] []))) (bt t 51 [.val .nilFunc] (bt t 52 [.val (.slice none 0 0)] (bt t 53 [] [.val .nilFunc])))) (bt t 59 (bt t 56 (bt t 55 [] [.val .nilFunc]) (bt t 57 [.int .u8 (0), .int .u8 (0), .int .u8 (0), .int .u8 (0), .int .u8 (0), .int .u8 (0), .int .u8 (0), .int .u8 (0), .int .u8 (0), .int .u8 (0), .int .u8 (0), .int .u8 (0), .int .u8 (0), .int .u8 (0), .int .u8 (0), .int .u8 (0), .int .u8 (0), .int .u8 (0), .int .u8 (0), .int .u8 (0), .int .u8 (0), .int .u8 (0), .int .u8 (0), .int .u8 (0), .int .u8 (0), .int .u8 (0), .int .u8 (0), .int .u8 (0), .int .u8 (0), .int .u8 (0), .int .u8 (0), .int .u8 (0)] (bt t 58 [] [.val .nilFunc]))) (bt t 62 (bt t 60 [.val .nilFunc] (bt t 61 [.val .nilFunc] [])) (bt t 63 [.val .nilFunc] ([.int .i64 (0), .str [], .str [], .str []]))))) (bt t 76 (bt t 70 (bt t 67 ([.int .i64 (0), .str [], .str [], .str [], .int .i64 (0), .str [], .str [], .str [], .int .i64 (0), .str [], .str [], .str [], .int .i64 (0), .str [], .str [], .str []]) (bt t 68 [.val .nilFunc] (bt t 69 [.val (.pointer none)] []))) (bt t 73 (bt t 71 [.val .nilFunc] (bt t 72 [.val (.slice none 0 0)] [.val .nilFunc])) (bt t 74 [.val (.map none)] (bt t 75 [.val (.slice none 0 0)] [.val (.slice none 0 0), .val (.slice none 0 0), .val (.map none), .val (.slice none 0 0)])))) (bt t 81 (bt t 78 (bt t 77 [.val (.slice none 0 0), .val (.slice none 0 0), .val (.map none), .val (.slice none 0 0)] [.val (.map none)]) (bt t 79 [.val .nilFunc] (bt t 80 [.val (.pointer none)] [.val .nilFunc]))) (bt t 84 (bt t 82 [.val (.slice none 0 0), .val (.slice none 0 0), .val (.map none), .val (.slice none 0 0)] (bt t 83 [.val (.slice none 0 0), .val (.slice none 0 0), .val (.map none), .val (.slice none 0 0)] [.val .nilFunc])) (bt t 85 [.val .nilFunc] (bt t 86 [.val .nilFunc] [.val (.pointer none)]))))))) (bt t 131 (bt t 109 (bt t 98 (bt t 92 (bt t 89 [.val .nilFunc] (bt t 90 [.val .nilFunc] (bt t 91 [.val (.pointer none)] [.val (.pointer none), .int .i64 (0), .bool false, .bool false, .val (.slice none 0 0), .val (.slice none 0 0)]))) (bt t 95 (bt t 93 [.val (.pointer none), .int .i64 (0), .bool false, .bool false, .val (.slice none 0 0), .val (.slice none 0 0)] [.val .nilFunc]) [.val .nilFunc])) (bt t 103 (bt t 100 (bt t 99 [.val (.pointer none)] [.val (.pointer none), .val (.pointer none), .val (.pointer none), .val (.pointer none)]) (bt t 101 [.val .nilFunc] (bt t 102 [.val (.pointer none)] []))) (bt t 106 (bt t 104 [.val .nilFunc] (bt t 105 [.val .nilFunc] [.int .i64 (0), .str [], .str [], .str [], .int .i64 (0), .str [], .str [], .str [], .int .i64 (0), .str [], .str [], .str [], .int .i64 (0), .str [], .str [], .str []])) (bt t 107 [.val .nilFunc] (bt t 108 [.val .nilFunc] [.val (.pointer none)]))))) (bt t 120 (bt t 114 (bt t 111 (bt t 110 [.val .nilFunc] []) [.val .nilFunc]) (bt t 117 (bt t 115 [.val .nilFunc] (bt t 116 [.val (.pointer none)] [.val .nilFunc])) (bt t 118 [.val (.slice none 0 0)] (bt t 119 [.val (.slice none 0 0)] [.val (.slice none 0 0), .val (.slice none 0 0), .val (.slice none 0 0), .val (.slice none 0 0), .int .i64 (0)])))) (bt t 125 (bt t 122 (bt t 121 [.val (.slice none 0 0), .val (.slice none 0 0), .val (.slice none 0 0), .val (.slice none 0 0), .int .i64 (0)] [.val (.pointer none)]) (bt t 123 [.val (.map none)] [.val (.pointer none), .int .i64 (0), .val (.map none), .val (.slice none 0 0), .val (.slice none 0 0), .int .i64 (0)])) (bt t 128 (bt t 126 [.val .nilFunc] (bt t 127 [] [.val .nilFunc])) (bt t 129 [.val .nilFunc] (bt t 130 [] [.val .nilFunc])))))) (bt t 153 (bt t 142 (bt t 136 (bt t 133 (bt t 132 [.val (.slice none 0 0)] [.val .nilFunc]) (bt t 134 [.int .i64 (0), .int .i64 (0), .val (.slice none 0 0)] (bt t 135 [.int .i64 (0), .int .i64 (0), .val (.slice none 0 0)] [.val .nilFunc]))) (bt t 139 [.val .nilFunc] (bt t 140 [.val .nilFunc] (bt t 141 [] [.val .nilFunc])))) (bt t 147 (bt t 144 (bt t 143 [.val (.slice none 0 0)] [.val .nilFunc]) [.val .nilFunc]) [.val .nilFunc])) (bt t 164 (bt t 158 (bt t 155 [.val .nilFunc] (bt t 156 [.val .nilFunc] (bt t 157 [.int .u32 (0)] [.int .u32 (0), .int .u32 (0), .int .u32 (0), .int .u32 (0), .int .u32 (0), .int .u32 (0), .int .u32 (0), .int .u32 (0)]))) (bt t 161 (bt t 159 [.int .u32 (0), .int .u32 (0), .int .u32 (0), .int .u32 (0), .int .u32 (0), .int .u32 (0), .int .u32 (0), .int .u32 (0), .val (.slice none 0 0), .int .i64 (0)] (bt t 160 [.int .u32 (0), .int .u32 (0), .int .u32 (0), .int .u32 (0), .int .u32 (0), .int .u32 (0), .int .u32 (0), .int .u32 (0), .val (.slice none 0 0), .int .i64 (0)] [.val .nilFunc])) (bt t 162 [.int .u64 (0)] [.val .nilFunc]))) (bt t 170 [.val .nilFunc] (bt t 173 (bt t 171 [.val .nilFunc] (bt t 172 [.val .nilFunc] [.val (.map none)])) (bt t 174 [.val (.map none)] [.val .nilFunc]))))))) (bt t 264 (bt t 220 (bt t 198 (bt t 187 (bt t 181 (bt t 178 (bt t 177 [.int .u64 (0)] [.val .nilFunc]) [.val .nilFunc]) (bt t 184 (bt t 182 [.val .nilFunc] (bt t 183 [.val .nilFunc] [.val (.pointer none)])) (bt t 185 [.val (.pointer none), .val (.slice none 0 0)] (bt t 186 [.val (.pointer none), .val (.slice none 0 0)] [.val .nilFunc])))) (bt t 192 (bt t 189 [.val .nilIface] (bt t 190 [] [.val .nilFunc])) (bt t 195 (bt t 193 [.val .nilFunc] (bt t 194 [.int .u32 (0), .int .u32 (0), .int .u32 (0), .int .u32 (0), .int .u32 (0), .int .u32 (0), .int .u32 (0), .int .u32 (0), .int .u32 (0), .int .u32 (0), .int .u32 (0), .int .u32 (0), .int .u32 (0), .int .u32 (0), .int .u32 (0), .int .u32 (0), .int .u32 (0), .int .u32 (0), .int .u32 (0), .int .u32 (0), .int .u32 (0), .int .u32 (0), .int .u32 (0), .int .u32 (0), .int .u32 (0), .int .u32 (0), .int .u32 (0), .int .u32 (0), .int .u32 (0), .int .u32 (0), .int .u32 (0), .int .u32 (0), .int .u32 (0), .int .u32 (0), .int .u32 (0), .int .u32 (0), .int .u32 (0), .int .u32 (0), .int .u32 (0), .int .u32 (0), .int .u32 (0), .int .u32 (0), .int .u32 (0), .int .u32 (0), .int .u32 (0), .int .u32 (0), .int .u32 (0), .int .u32 (0), .int .u32 (0), .int .u32 (0), .int .u32 (0), .int .u32 (0), .int .u32 (0), .int .u32 (0), .int .u32 (0), .int .u32 (0), .int .u32 (0), .int .u32 (0), .int .u32 (0), .int .u32 (0), .int .u32 (0), .int .u32 (0), .int .u32 (0), .int .u32 (0)] [.val .nilFunc])) (bt t 196 [.int .i64 (0), .int .i64 (0), .int .i64 (0), .int .i64 (0)] ([.int .i64 (0), .str [], .str [], .str [], .int .i64 (0), .str [], .str [], .str [], .int .i64 (0), .str [], .str [], .str [], .int .i64 (0), .str [], .str [], .str [], .int .i64 (0), .int .i64 (0), .int .i64 (0), .int .i64 (0)]))))) (bt t 209 (bt t 203 (bt t 200 (bt t 199 [.val .nilFunc] [.val (.slice none 0 0)]) [.val .nilFunc]) (bt t 206 [.val .nilFunc] (bt t 207 [.int .i64 (0)] (bt t 208 [] [.val .nilFunc])))) (bt t 214 [.val .nilFunc] (bt t 217 (bt t 215 [.int .u8 (0), .int .u8 (0), .int .u8 (0), .int .u8 (0), .int .u8 (0), .int .u8 (0), .int .u8 (0), .int .u8 (0), .int .u8 (0), .int .u8 (0), .int .u8 (0), .int .u8 (0), .int .u8 (0), .int .u8 (0), .int .u8 (0), .int .u8 (0), .int .u8 (0), .int .u8 (0), .int .u8 (0), .int .u8 (0), .int .u8 (0), .int .u8 (0), .int .u8 (0), .int .u8 (0)] (bt t 216 [.val .nilFunc] [])) [.val .nilFunc])))) (bt t 242 (bt t 231 (bt t 225 (bt t 222 (bt t 221 [.val .nilFunc] [.str [], .str [], .str [], .str [], .val (.slice none 0 0), .val (.slice none 0 0), .str []]) (bt t 223 [.str [], .str [], .str [], .str [], .val (.slice none 0 0), .val (.slice none 0 0), .str []] (bt t 224 [] [.val .nilFunc]))) [.val .nilFunc]) (bt t 236 (bt t 233 (bt t 232 [.val .nilFunc] []) (bt t 234 [.val .nilFunc] (bt t 235 [.val (.pointer none)] [.int .i64 (0), .int .i64 (0)]))) (bt t 239 (bt t 237 [.int .i64 (0), .int .i64 (0)] (bt t 238 [] [.val .nilFunc])) (bt t 240 [.val .nilFunc] (bt t 241 [.str [], .str [], .str []] [.val .nilFunc]))))) (bt t 253 (bt t 247 [.val .nilFunc] (bt t 250 (bt t 248 [.val .nilFunc] (bt t 249 [.val .nilFunc] [.int .u64 (0)])) [.val .nilFunc])) (bt t 258 (bt t 255 [.val .nilFunc] (bt t 256 [.val .nilFunc] (bt t 257 [.int .u64 (0), .int .u64 (0), .int .u64 (0), .int .u64 (0), .int .u64 (0), .int .u64 (0), .int .u64 (0), .int .u64 (0), .int .u64 (0), .int .u64 (0), .int .u64 (0), .int .u64 (0), .int .u64 (0), .int .u64 (0), .int .u64 (0), .int .u64 (0), .int .u64 (0), .int .u64 (0), .int .u64 (0), .int .u64 (0)] [.int .u8 (0), .int .u8 (0), .int .u8 (0), .int .u8 (0), .int .u8 (0), .int .u8 (0), .int .u8 (0), .int .u8 (0), .int .u8 (0), .int .u8 (0), .int .u8 (0), .int .u8 (0), .int .u8 (0), .int .u8 (0), .int .u8 (0), .int .u8 (0), .int .u8 (0), .int .u8 (0), .int .u8 (0), .int .u8 (0), .int .u8 (0), .int .u8 (0), .int .u8 (0), .int .u8 (0), .int .u8 (0), .int .u8 (0), .int .u8 (0), .int .u8 (0), .int .u8 (0), .int .u8 (0), .int .u8 (0), .int .u8 (0), .int .u8 (0), .int .u8 (0), .int .u8 (0), .int .u8 (0), .int .u8 (0), .int .u8 (0), .int .u8 (0), .int .u8 (0), .int .u8 (0), .int .u8 (0), .int .u8 (0), .int .u8 (0), .int .u8 (0), .int .u8 (0), .int .u8 (0), .int .u8 (0), .int .u8 (0), .int .u8 (0), .int .u8 (0), .int .u8 (0), .int .u8 (0), .int .u8 (0), .int .u8 (0), .int .u8 (0), .int .u8 (0), .int .u8 (0), .int .u8 (0), .int .u8 (0), .int .u8 (0), .int .u8 (0), .int .u8 (0), .int .u8 (0), .int .u8 (0)]))) (bt t 261 [.val .nilFunc] (bt t 262 [] (bt t 263 [.val .nilFunc] [.val (.pointer none)]))))))) (bt t 308 (bt t 286 (bt t 275 (bt t 269 (bt t 266 (bt t 265 [.val .nilFunc] [.val (.slice none 0 0), .str [], .str [], .str [], .str [], .val (.slice none 0 0), .val (.slice none 0 0), .str []]) (bt t 267 [.val (.slice none 0 0), .str [], .str [], .str [], .str [], .val (.slice none 0 0), .val (.slice none 0 0), .str []] [.val .nilFunc])) (bt t 272 (bt t 270 [] (bt t 271 [.val .nilFunc] [.val (.slice none 0 0)])) [.val .nilFunc])) (bt t 280 (bt t 277 (bt t 276 [.val .nilFunc] [.val (.pointer none)]) [.val .nilFunc]) [.val .nilFunc])) (bt t 297 (bt t 291 (bt t 288 (bt t 287 [.val .nilFunc] []) (bt t 289 [.val .nilFunc] (bt t 290 [] [.val .nilFunc]))) (bt t 294 (bt t 292 [.val (.pointer none)] [.val .nilFunc]) (bt t 295 [.val .nilFunc] (bt t 296 [] [.val .nilFunc])))) (bt t 302 [.val .nilFunc] (bt t 305 (bt t 303 [.val (.pointer none)] [.int .i64 (0), .val .nilIface]) [.val .nilFunc])))) (bt t 330 (bt t 319 (bt t 313 [.val .nilFunc] (bt t 316 (bt t 314 [.val .nilFunc] (bt t 315 [.val (.pointer none)] [.val .nilFunc])) (bt t 317 [.val (.slice none 0 0)] (bt t 318 [.val (.slice none 0 0)] [.val .nilFunc])))) (bt t 324 (bt t 321 (bt t 320 [.val (.pointer none)] [.val .nilFunc]) (bt t 322 [.val .nilFunc] (bt t 323 [.int .u8 (0), .int .u8 (0), .int .u8 (0), .int .u8 (0), .int .u8 (0), .int .u8 (0), .int .u8 (0), .int .u8 (0), .int .u8 (0), .int .u8 (0), .int .u8 (0), .int .u8 (0), .int .u8 (0), .int .u8 (0), .int .u8 (0), .int .u8 (0), .int .u8 (0), .int .u8 (0), .int .u8 (0), .int .u8 (0), .int .u8 (0), .int .u8 (0), .int .u8 (0), .int .u8 (0), .int .u8 (0), .int .u8 (0), .int .u8 (0), .int .u8 (0), .int .u8 (0), .int .u8 (0), .int .u8 (0), .int .u8 (0), .int .u8 (0), .int .u8 (0), .int .u8 (0), .int .u8 (0), .int .u8 (0), .int .u8 (0), .int .u8 (0), .int .u8 (0), .int .u8 (0), .int .u8 (0), .int .u8 (0), .int .u8 (0), .int .u8 (0), .int .u8 (0), .int .u8 (0), .int .u8 (0), .int .u8 (0), .int .u8 (0), .int .u8 (0), .int .u8 (0), .int .u8 (0), .int .u8 (0), .int .u8 (0), .int .u8 (0), .int .u8 (0), .int .u8 (0), .int .u8 (0), .int .u8 (0), .int .u8 (0), .int .u8 (0), .int .u8 (0), .int .u8 (0)] [.val .nilFunc]))) (bt t 327 (bt t 325 [.int .i32 (0), .int .i32 (0), .int .i32 (0), .int .i32 (0), .int .i32 (0)] [.val .nilFunc]) (bt t 328 [.int .i64 (0), .int .i64 (0), .int .i64 (0), .int .i64 (0), .int .i64 (0)] (bt t 329 [.val .nilFunc] [.int .i64 (0), .int .i64 (0), .int .i64 (0), .int .i64 (0), .int .i64 (0), .int .i64 (0), .int .i64 (0), .int .i64 (0), .int .i64 (0), .int .i64 (0), .int .i64 (0), .int .i64 (0), .int .i64 (0), .int .i64 (0), .int .i64 (0), .int .i64 (0), .int .i64 (0), .int .i64 (0), .int .i64 (0), .int .i64 (0), .int .i64 (0), .int .i64 (0), .int .i64 (0), .int .i64 (0), .int .i64 (0), .int .i64 (0), .int .i64 (0), .int .i64 (0)]))))) (bt t 341 (bt t 335 (bt t 332 [.val .nilFunc] (bt t 333 [.int .i32 (0), .int .i32 (0), .int .i32 (0), .int .i32 (0), .int .i32 (0), .int .i32 (0), .int .i32 (0), .int .i32 (0), .int .i32 (0), .int .i32 (0), .int .i32 (0), .int .i32 (0), .int .i32 (0), .int .i32 (0), .int .i32 (0), .int .i32 (0), .int .i32 (0), .int .i32 (0), .int .i32 (0), .int .i32 (0), .int .i32 (0), .int .i32 (0), .int .i32 (0), .int .i32 (0)] (bt t 334 [.val .nilFunc] []))) (bt t 338 (bt t 336 [.int .u8 (0), .int .u8 (0)] (bt t 337 [.int .u8 (0), .int .u8 (0)] [.int .u8 (0), .int .u8 (0), .int .u8 (0), .int .u8 (0), .int .u8 (0), .int .u8 (0), .int .u8 (0), .int .u8 (0), .int .u8 (0), .int .u8 (0), .int .u8 (0), .int .u8 (0), .int .u8 (0), .int .u8 (0), .int .u8 (0), .int .u8 (0), .int .u8 (0), .int .u8 (0), .int .u8 (0), .int .u8 (0), .int .u8 (0), .int .u8 (0), .int .u8 (0), .int .u8 (0), .int .u8 (0), .int .u8 (0), .int .u8 (0), .int .u8 (0), .int .u8 (0), .int .u8 (0), .int .u8 (0), .int .u8 (0)])) (bt t 339 [] (bt t 340 [.val .nilFunc] [.val (.pointer none), .val (.pointer none), .val (.pointer none), .str []])))) (bt t 347 (bt t 344 (bt t 342 [.val (.pointer none), .val (.pointer none), .val (.pointer none), .str []] []) (bt t 345 [] (bt t 346 [.val .nilFunc] [.int .u8 (0)]))) (bt t 350 (bt t 348 [.int .u8 (0)] (bt t 349 [.val .nilFunc] [.int .i32 (0)])) (bt t 351 [.int .i32 (0)] [.int .u64 (0), .int .u64 (0), .int .u32 (0), .int .u8 (0), .int .u8 (0), .int .u8 (0), .int .u8 (0), .val .nilFunc, .val (.pointer none), .int .i32 (0), .int .i32 (0)])))))))) []
def Zes(t:TypeId):Nat:=bt t 353 (bt t 176 (bt t 87 (bt t 43 (bt t 21 (bt t 10 (bt t 4 (bt t 1 (bt t 0 0 8) (bt t 2 8 (bt t 3 8 1))) (bt t 7 (bt t 5 1 (bt t 6 1 24)) (bt t 8 24 16))) (bt t 15 (bt t 12 (bt t 11 16 8) (bt t 13 24 (bt t 14 24 8))) (bt t 18 8 (bt t 19 8 (bt t 20 16 4))))) (bt t 32 (bt t 26 (bt t 23 (bt t 22 24 8) (bt t 24 24 (bt t 25 8 0))) (bt t 29 (bt t 27 8 (bt t 28 0 8)) (bt t 30 8 (bt t 31 24 8)))) (bt t 37 (bt t 34 (bt t 33 24 0) (bt t 35 8 (bt t 36 0 8))) (bt t 40 (bt t 38 32 (bt t 39 32 8)) (bt t 41 8 (bt t 42 8 0)))))) (bt t 65 (bt t 54 (bt t 48 (bt t 45 8 (bt t 46 8 (bt t 47 8 0))) (bt t 51 8 (bt t 52 24 (bt t 53 0 8)))) (bt t 59 (bt t 56 (bt t 55 0 8) (bt t 57 32 (bt t 58 0 8))) (bt t 62 (bt t 60 8 (bt t 61 8 0)) (bt t 63 8 56)))) (bt t 76 (bt t 70 (bt t 67 224 (bt t 68 8 (bt t 69 8 0))) (bt t 73 (bt t 71 8 (bt t 72 24 8)) (bt t 74 8 (bt t 75 24 80)))) (bt t 81 (bt t 78 (bt t 77 80 8) 8) (bt t 84 (bt t 82 80 (bt t 83 80 8)) 8))))) (bt t 131 (bt t 109 (bt t 98 (bt t 92 (bt t 89 8 (bt t 90 8 (bt t 91 8 72))) (bt t 95 (bt t 93 72 8) 8)) (bt t 103 (bt t 100 (bt t 99 8 32) (bt t 101 8 (bt t 102 8 0))) (bt t 106 (bt t 104 8 (bt t 105 8 224)) 8))) (bt t 120 (bt t 114 (bt t 111 (bt t 110 8 0) 8) (bt t 117 8 (bt t 118 24 (bt t 119 24 104)))) (bt t 125 (bt t 122 (bt t 121 104 8) (bt t 123 8 80)) (bt t 128 (bt t 126 8 (bt t 127 0 8)) (bt t 129 8 (bt t 130 0 8)))))) (bt t 153 (bt t 142 (bt t 136 (bt t 133 (bt t 132 24 8) (bt t 134 40 (bt t 135 40 8))) (bt t 139 8 (bt t 140 8 (bt t 141 0 8)))) (bt t 147 (bt t 144 (bt t 143 24 8) 8) 8)) (bt t 164 (bt t 158 (bt t 155 8 (bt t 156 8 (bt t 157 4 32))) (bt t 161 (bt t 159 64 (bt t 160 64 8)) 8)) 8)))) (bt t 264 (bt t 220 (bt t 198 (bt t 187 (bt t 181 8 (bt t 184 8 (bt t 185 32 (bt t 186 32 8)))) (bt t 192 (bt t 189 16 (bt t 190 0 8)) (bt t 195 (bt t 193 8 (bt t 194 256 8)) (bt t 196 32 256)))) (bt t 209 (bt t 203 (bt t 200 (bt t 199 8 24) 8) (bt t 206 8 (bt t 207 8 (bt t 208 0 8)))) (bt t 214 8 (bt t 217 (bt t 215 24 (bt t 216 8 0)) 8)))) (bt t 242 (bt t 231 (bt t 225 (bt t 222 (bt t 221 8 128) (bt t 223 128 (bt t 224 0 8))) 8) (bt t 236 (bt t 233 (bt t 232 8 0) (bt t 234 8 (bt t 235 8 16))) (bt t 239 (bt t 237 16 (bt t 238 0 8)) (bt t 240 8 (bt t 241 48 8))))) (bt t 253 8 (bt t 258 (bt t 255 8 (bt t 256 8 (bt t 257 160 65))) (bt t 261 8 (bt t 262 0 8)))))) (bt t 308 (bt t 286 (bt t 275 (bt t 269 (bt t 266 (bt t 265 8 152) (bt t 267 152 8)) (bt t 272 (bt t 270 0 (bt t 271 8 24)) 8)) 8) (bt t 297 (bt t 291 (bt t 288 (bt t 287 8 0) (bt t 289 8 (bt t 290 0 8))) (bt t 294 8 (bt t 295 8 (bt t 296 0 8)))) (bt t 302 8 (bt t 305 (bt t 303 8 24) 8)))) (bt t 330 (bt t 319 (bt t 313 8 (bt t 316 8 (bt t 317 24 (bt t 318 24 8)))) (bt t 324 (bt t 321 8 (bt t 322 8 (bt t 323 64 8))) (bt t 327 (bt t 325 20 8) (bt t 328 40 (bt t 329 8 224))))) (bt t 341 (bt t 335 (bt t 332 8 (bt t 333 96 (bt t 334 8 256))) (bt t 338 (bt t 336 2 (bt t 337 2 32)) (bt t 339 0 (bt t 340 8 40)))) (bt t 347 (bt t 344 (bt t 342 40 0) (bt t 345 0 (bt t 346 8 1))) (bt t 350 (bt t 348 1 (bt t 349 8 4)) (bt t 351 4 48)))))))) 0
def Zcs(t:TypeId):Option (List CK):=bt t 353 (bt t 176 (bt t 87 (bt t 43 (bt t 21 none (bt t 32 none (bt t 37 none (bt t 40 (bt t 38 none (bt t 39 (some [.str, .str]) none)) none)))) (bt t 65 (bt t 54 none (bt t 59 (bt t 56 none (bt t 57 (some [.int .u8, .int .u8, .int .u8, .int .u8, .int .u8, .int .u8, .int .u8, .int .u8, .int .u8, .int .u8, .int .u8, .int .u8, .int .u8, .int .u8, .int .u8, .int .u8, .int .u8, .int .u8, .int .u8, .int .u8, .int .u8, .int .u8, .int .u8, .int .u8, .int .u8, .int .u8, .int .u8, .int .u8, .int .u8, .int .u8, .int .u8, .int .u8]) none)) (bt t 62 none (bt t 63 none (bt t 64 none (some [.int .i64, .str, .str, .str])))))) (bt t 76 (bt t 70 (bt t 67 (bt t 66 none (some [.int .i64, .str, .str, .str, .int .i64, .str, .str, .str, .int .i64, .str, .str, .str, .int .i64, .str, .str, .str])) none) none) none))) (bt t 131 (bt t 109 (bt t 98 none (bt t 103 none (bt t 106 (bt t 104 none (bt t 105 none (some [.int .i64, .str, .str, .str, .int .i64, .str, .str, .str, .int .i64, .str, .str, .str, .int .i64, .str, .str, .str]))) none))) none) (bt t 153 none (bt t 164 (bt t 158 (bt t 155 none (bt t 156 none (bt t 157 none (some [.int .u32, .int .u32, .int .u32, .int .u32, .int .u32, .int .u32, .int .u32, .int .u32])))) none) none)))) (bt t 264 (bt t 220 (bt t 198 (bt t 187 none (bt t 192 none (bt t 195 (bt t 193 none (bt t 194 (some [.int .u32, .int .u32, .int .u32, .int .u32, .int .u32, .int .u32, .int .u32, .int .u32, .int .u32, .int .u32, .int .u32, .int .u32, .int .u32, .int .u32, .int .u32, .int .u32, .int .u32, .int .u32, .int .u32, .int .u32, .int .u32, .int .u32, .int .u32, .int .u32, .int .u32, .int .u32, .int .u32, .int .u32, .int .u32, .int .u32, .int .u32, .int .u32, .int .u32, .int .u32, .int .u32, .int .u32, .int .u32, .int .u32, .int .u32, .int .u32, .int .u32, .int .u32, .int .u32, .int .u32, .int .u32, .int .u32, .int .u32, .int .u32, .int .u32, .int .u32, .int .u32, .int .u32, .int .u32, .int .u32, .int .u32, .int .u32, .int .u32, .int .u32, .int .u32, .int .u32, .int .u32, .int .u32, .int .u32, .int .u32]) none)) (bt t 196 (some [.int .i64, .int .i64, .int .i64, .int .i64]) (bt t 197 none (some [.int .i64, .str, .str, .str, .int .i64, .str, .str, .str, .int .i64, .str, .str, .str, .int .i64, .str, .str, .str, .int .i64, .int .i64, .int .i64, .int .i64])))))) (bt t 209 none (bt t 214 none (bt t 217 (bt t 215 (some [.int .u8, .int .u8, .int .u8, .int .u8, .int .u8, .int .u8, .int .u8, .int .u8, .int .u8, .int .u8, .int .u8, .int .u8, .int .u8, .int .u8, .int .u8, .int .u8, .int .u8, .int .u8, .int .u8, .int .u8, .int .u8, .int .u8, .int .u8, .int .u8]) none) none)))) (bt t 242 (bt t 231 none (bt t 236 none (bt t 239 (bt t 237 (some [.int .i64, .int .i64]) none) (bt t 240 none (bt t 241 (some [.str, .str, .str]) none))))) (bt t 253 none (bt t 258 (bt t 255 none (bt t 256 none (bt t 257 (some [.int .u64, .int .u64, .int .u64, .int .u64, .int .u64, .int .u64, .int .u64, .int .u64, .int .u64, .int .u64, .int .u64, .int .u64, .int .u64, .int .u64, .int .u64, .int .u64, .int .u64, .int .u64, .int .u64, .int .u64]) (some [.int .u8, .int .u8, .int .u8, .int .u8, .int .u8, .int .u8, .int .u8, .int .u8, .int .u8, .int .u8, .int .u8, .int .u8, .int .u8, .int .u8, .int .u8, .int .u8, .int .u8, .int .u8, .int .u8, .int .u8, .int .u8, .int .u8, .int .u8, .int .u8, .int .u8, .int .u8, .int .u8, .int .u8, .int .u8, .int .u8, .int .u8, .int .u8, .int .u8, .int .u8, .int .u8, .int .u8, .int .u8, .int .u8, .int .u8, .int .u8, .int .u8, .int .u8, .int .u8, .int .u8, .int .u8, .int .u8, .int .u8, .int .u8, .int .u8, .int .u8, .int .u8, .int .u8, .int .u8, .int .u8, .int .u8, .int .u8, .int .u8, .int .u8, .int .u8, .int .u8, .int .u8, .int .u8, .int .u8, .int .u8, .int .u8])))) none)))) (bt t 308 none (bt t 330 (bt t 319 none (bt t 324 (bt t 321 none (bt t 322 none (bt t 323 (some [.int .u8, .int .u8, .int .u8, .int .u8, .int .u8, .int .u8, .int .u8, .int .u8, .int .u8, .int .u8, .int .u8, .int .u8, .int .u8, .int .u8, .int .u8, .int .u8, .int .u8, .int .u8, .int .u8, .int .u8, .int .u8, .int .u8, .int .u8, .int .u8, .int .u8, .int .u8, .int .u8, .int .u8, .int .u8, .int .u8, .int .u8, .int .u8, .int .u8, .int .u8, .int .u8, .int .u8, .int .u8, .int .u8, .int .u8, .int .u8, .int .u8, .int .u8, .int .u8, .int .u8, .int .u8, .int .u8, .int .u8, .int .u8, .int .u8, .int .u8, .int .u8, .int .u8, .int .u8, .int .u8, .int .u8, .int .u8, .int .u8, .int .u8, .int .u8, .int .u8, .int .u8, .int .u8, .int .u8, .int .u8]) none))) (bt t 327 (bt t 325 (some [.int .i32, .int .i32, .int .i32, .int .i32, .int .i32]) none) (bt t 328 (some [.int .i64, .int .i64, .int .i64, .int .i64, .int .i64]) (bt t 329 none (some [.int .i64, .int .i64, .int .i64, .int .i64, .int .i64, .int .i64, .int .i64, .int .i64, .int .i64, .int .i64, .int .i64, .int .i64, .int .i64, .int .i64, .int .i64, .int .i64, .int .i64, .int .i64, .int .i64, .int .i64, .int .i64, .int .i64, .int .i64, .int .i64, .int .i64, .int .i64, .int .i64, .int .i64])))))) (bt t 341 (bt t 335 (bt t 332 none (bt t 333 (some [.int .i32, .int .i32, .int .i32, .int .i32, .int .i32, .int .i32, .int .i32, .int .i32, .int .i32, .int .i32, .int .i32, .int .i32, .int .i32, .int .i32, .int .i32, .int .i32, .int .i32, .int .i32, .int .i32, .int .i32, .int .i32, .int .i32, .int .i32, .int .i32]) none)) (bt t 338 (bt t 336 none (bt t 337 (some [.int .u8, .int .u8]) (some [.int .u8, .int .u8, .int .u8, .int .u8, .int .u8, .int .u8, .int .u8, .int .u8, .int .u8, .int .u8, .int .u8, .int .u8, .int .u8, .int .u8, .int .u8, .int .u8, .int .u8, .int .u8, .int .u8, .int .u8, .int .u8, .int .u8, .int .u8, .int .u8, .int .u8, .int .u8, .int .u8, .int .u8, .int .u8, .int .u8, .int .u8, .int .u8]))) none)) none))))) none
def ZfC(t:TypeId):Option (Bool×List CK):=bt t 353 (bt t 176 (bt t 87 (bt t 43 (bt t 21 (bt t 10 (bt t 4 (bt t 1 none (bt t 2 none (bt t 3 (some (false,[.int .i64])) none))) (bt t 7 none (bt t 8 none (bt t 9 (some (false,[.str])) none)))) none) none) none) (bt t 131 (bt t 109 (bt t 98 none (bt t 103 none (bt t 106 (bt t 104 none (bt t 105 none (some (true,[.int .i64, .str, .str, .str, .int .i64, .str, .str, .str, .int .i64, .str, .str, .str, .int .i64, .str, .str, .str])))) none))) none) none)) none) none
def basesTableInts:List Int:=[192,214,216,246,248,767,880,893,895,8191,8204,8205,8304,8591,11264,12271,12289,55295,63744,64975,65008,65533,65536,983039]
def WF:List (List SV):=basesTableInts.map fun x=>[.int .i32 x]
def uint64pow10Ints:List Int:=[1,10,100,1000,10000,100000,1000000,10000000,100000000,1000000000,10000000000,100000000000,1000000000000,10000000000000,100000000000000,1000000000000000,10000000000000000,100000000000000000,1000000000000000000,10000000000000000000]
def Z3k:List Value:=uint64pow10Ints.map fun x=> .int .u64 x
def tab:Tab:={sh:=ZhA,size:=Zgf,zero:=Zcr,bytes:=Zes,flat:=Zcs,key:=ZfC,globs:=[(6, .rows 1 WF),(2, .tbl Z3k)],bld:=some (186,5)}
theorem Z0:TabOK prog tab:=by
 refine Zeq 354 (by kernel_rfl) (fun t ht=>?_)
 have h:Nat.ble t 353=false:=by
  cases e:Nat.ble t 353
  ·rfl
  ·have:=Nat.le_of_ble_eq_true e;omega
 exact⟨by(simp only[tab,ZhA]<;>first|exact Zer h|rfl),by(simp only[tab,Zcr]<;>first|exact Zer h|rfl),by(simp only[tab,Zcs]<;>first|exact Zer h|rfl),by(simp only[tab,ZfC]<;>first|exact Zer h|rfl)⟩
theorem mixed:prog.follows .mixedOrders=true:=by kernel_rfl
end Go.Proofs.YtlcbipfmodcedaaGreatDoor
set_option linter.unusedVariables false
set_option linter.unusedSimpArgs false
set_option maxRecDepth 20000
set_option maxHeartbeats 8000000
namespace Go.Proofs.YtlcbipfmodcedaaGreatDoor
open Go.Sx Go.Our
open Tryz
def ZcV:Plan:=(Zu [(0,1),(2,1),(5,1),(7,1),(10,1),(12,1),(15,1),(17,1),(1,2),(3,2),(6,2),(8,2),(11,2),(13,2),(16,2),(18,2),(4,3),(9,3),(14,3),(19,3),(20,3),(21,3),(22,1)])
theorem ZaX(a:Int):Does prog tab 136 0 [.int .i64 a] [] [] (Val (.bool false)):=by
 refine Does.enter Z0 call136 func136 rfl 6 rfl rfl [.tmp 2] rfl ?_;intro w0 F η0 h0;conv=>whnf
 exact FIN.value h0 rfl (by simp)
theorem Z1R(a b:Int):Does prog tab 104 0 [.int .i64 a, .int .i64 b] [] [] (Val (.int .i64 (cmpI a b))):=by
 refine Does.enter Z0 call104 func104 rfl 20 rfl rfl [.tmp 4] rfl ?_;intro w0 F η0 h0;conv=>whnf
 repeat'((first|refine CALL.value (ZaX _) rfl rfl ?_|refine AU ?_|(refine IW ?_ ?_<;>intro h<;>try(exfalso;omega)))<;>conv=>whnf)
 all_goals
  refine FIN.value h0 rfl (congrArg (SV.int _) ?_);unfold cmpI
  (repeat' split)<;>simp_all<;>omega
theorem Z8H(a b:List UInt8):Does prog tab 216 0 [.str a, .str b] [] [] (Val (.int .i64 (cmpL a b))):=by
 refine Does.says fun η w vs hd=>?_;simp only[DenL,Den]at hd;obtain⟨u,us,rfl,rfl,u',us',rfl,rfl,rfl⟩:=hd;refine⟨_,?_,rfl⟩;rw[run_callFunc_extern func216 (by kernel_rfl) (by kernel_rfl) (by kernel_rfl) (e:=Extern.BytealgCompare.compare) (by kernel_rfl),Lib.run_compareString]
 rfl
theorem Z4g(a b:List UInt8):Does prog tab 164 0 [.str a, .str b] [] [] (Val (.int .i64 (cmpL a b))):=by
 refine Does.enter Z0 call164 func164 rfl 8 rfl rfl [.tmp 4] rfl ?_;intro w0 F η0 h0;conv=>whnf
 repeat'((first|refine CALL.value (Z8H _ _) rfl rfl ?_|refine AU ?_|(refine IW ?_ ?_<;>intro h<;>try(exfalso;omega)))<;>conv=>whnf)
 exact FIN.value h0 rfl rfl
theorem Z09(a b:List UInt8):Does prog tab 124 0 [.str a, .str b] [] [] (Val (.int .i64 (cmpL a b))):=by
 refine Does.enter Z0 call124 func124 rfl 8 rfl rfl [.tmp 4] rfl ?_;intro w0 F η0 h0;conv=>whnf
 repeat'((first|refine CALL.value (Z4g _ _) rfl rfl ?_|refine AU ?_|(refine IW ?_ ?_<;>intro h<;>try(exfalso;omega)))<;>conv=>whnf)
 exact FIN.value h0 rfl rfl
def ZcW(x:Int):List SV:=[.int .i64 x]
theorem Z8I(xs:List Int)(hn:xs.length<=1152921504606846976):Does prog tab 87 1 [.sl (.loc 0) 0 1 xs.length none] [] [(0, .rows 1 (xs.map ZcW))] (ValK 1 (.int .i64 (orI xs))):=by
 refine Does.enter Z0 call87 func87 rfl 18 rfl rfl [.tmp 2] rfl ?_;intro w0 F η0 h0;conv=>whnf
 refine LOOP.go Z0 [3,6,7] (X:=Nat) (fun i=>i<=xs.length/\orI xs=orI (xs.drop i)) (fun i=>[(8, .int .i64 (i:Int))]) (fun i=>[]) 1 (fun i=>xs.length-i) 0 ⟨by omega,rfl⟩ ?_;conv=>whnf
 refine⟨by exact GOES.cA h0,?_⟩;rintro i ⟨hi,ho⟩;conv=>whnf
 repeat'((first|(refine GET.at (row:=ZcW (xs[i]'(by omega))) (by rw[List.getElem?_map,show 0+(i:Int).toNat=i by omega,List.getElem?_eq_getElem (by omega)];rfl) ?_;conv=>whnf)|refine AU ?_|(refine IW ?_ ?_<;>intro h<;>try(exfalso;omega)))<;>conv=>whnf)
 ·have hl:i<xs.length:=by omega
  refine FIN.valueK h0 rfl (congrArg (SV.int _) ?_);rw[ho,List.drop_eq_getElem_cons hl];simp only[orI];rw[if_pos h]
 ·have hl:i<xs.length:=by omega
  refine⟨i+1,⟨by omega,?_⟩,by omega,?_⟩
  ·rw[ho,List.drop_eq_getElem_cons hl];simp only[orI];rw[if_neg (by simpa using h)]
  ·conv=>whnf
   exact GOES.cA h0
 ·refine FIN.valueK h0 rfl (congrArg (SV.int _) ?_);rw[ho,List.drop_eq_nil_of_le (by omega)];rfl
abbrev tmR(x:Tm):List SV:=[.int .i64 x.k, .str x.t, .str x.y, .str x.l]
theorem Wm(a b:Tm):Does prog tab 88 0 [.agg (tmR a), .agg (tmR b)] [] [] (Val (.int .i64 (YI a b))):=by
 refine Does.enter Z0 call88 func88 rfl 27 rfl rfl [.tmp 4] rfl ?_;intro w0 F η0 h0;conv=>whnf
 repeat'((first|refine DRAWN.of (id:=1) Z0 mixed ZcV (by kernel_rfl) ?_|refine ADD.mk (fun _ _=>?_)|refine AD ?_|refine FORK.mk ?_ ?_|refine CALL.value (Z1R a.k b.k) rfl rfl ?_|refine CALL.value (Z09 a.t b.t) rfl rfl ?_|refine CALL.value (Z09 a.y b.y) rfl rfl ?_|refine CALL.value (Z09 a.l b.l) rfl rfl ?_|(refine CALL.looks [2] (Z8I [cmpI a.k b.k,cmpL a.t b.t,cmpL a.y b.y,cmpL a.l b.l] (by simp)) rfl rfl rfl rfl ⟨⟨rfl,rfl,rfl⟩,trivial⟩ ?_;conv=>whnf)|refine AU ?_|(refine IW ?_ ?_<;>intro h<;>try(exfalso;omega)))<;>conv=>whnf)
 exact FIN.value h0 rfl (by rw[<-ZfE])
theorem Z19(a b:Qd):Does prog tab 47 0 [.agg a.row, .agg b.row] [] [] (Val (.int .i64 (Xd a b))):=by
 refine Does.enter Z0 call47 func47 rfl 27 rfl rfl [.tmp 4] rfl ?_;intro w0 F η0 h0;conv=>whnf
 repeat'((first|refine DRAWN.of (id:=1) Z0 mixed ZcV (by kernel_rfl) ?_|refine ADD.mk (fun _ _=>?_)|refine AD ?_|refine FORK.mk ?_ ?_|refine CALL.value (Wm a.g b.g) rfl rfl ?_|refine CALL.value (Wm a.s b.s) rfl rfl ?_|refine CALL.value (Wm a.p b.p) rfl rfl ?_|refine CALL.value (Wm a.o b.o) rfl rfl ?_|(refine CALL.looks [2] (Z8I [YI a.g b.g,YI a.s b.s,YI a.p b.p,YI a.o b.o] (by simp)) rfl rfl rfl rfl ⟨⟨rfl,rfl,rfl⟩,trivial⟩ ?_;conv=>whnf)|refine AU ?_|(refine IW ?_ ?_<;>intro h<;>try(exfalso;omega)))<;>conv=>whnf)
 exact FIN.value h0 rfl (by rw[<-ZfF])
theorem ZaY(a b:List UInt8):Does prog tab 156 0 [.str a, .str b] [] [] (Val (.int .i64 (cmpL a b))):=by
 have hr:=triL.rng a b;have ha:=triL.anti a b;have h1:=Z76 a b;have h2:=Z76 b a;have h3:(a==b)=decide (cmpL a b=0):=by rw[Bool.eq_iff_iff];simp[triL.zero]
 refine Does.enter Z0 call156 func156 rfl 13 rfl rfl [.tmp 4] rfl ?_;intro w0 F η0 h0;conv=>whnf
 repeat'((first|refine AU ?_|(refine IW ?_ ?_<;>intro h<;>try(exfalso;omega)))<;>conv=>whnf)
 all_goals
  refine FIN.value h0 rfl (congrArg (SV.int _) ?_);simp only[h1,h2,h3,decide_eq_true_eq,decide_eq_false_iff_not]at*;have hz:=triL.zero a b;simp only[<-hz]at*;omega
theorem Y4(a b:Tm):Does prog tab 117 0 [.agg (tmR a), .agg (tmR b)] [] [] (Val (.int .i64 (YI a b))):=by
 refine Does.enter Z0 call117 func117 rfl 36 rfl rfl [.tmp 4] rfl ?_;intro w0 F η0 h0;conv=>whnf
 repeat'((first|refine CALL.value (ZaY _ _) rfl rfl ?_|refine AU ?_|(refine IW ?_ ?_<;>intro h<;>try(exfalso;omega)))<;>conv=>whnf)
 all_goals
  refine FIN.value h0 rfl (congrArg (SV.int _) ?_);rw[<-ZfE];simp only[orI,cmpI]
  (repeat' split)<;>simp_all<;>omega
theorem Vb(a b:Qd):Does prog tab 110 0 [.agg a.row, .agg b.row] [] [] (Val (.int .i64 (Xd a b))):=by
 refine Does.enter Z0 call110 func110 rfl 33 rfl rfl [.tmp 4] rfl ?_;intro w0 F η0 h0;conv=>whnf
 repeat'((first|refine CALL.value (Y4 a.g b.g) rfl rfl ?_|refine CALL.value (Y4 a.s b.s) rfl rfl ?_|refine CALL.value (Y4 a.p b.p) rfl rfl ?_|refine CALL.value (Y4 a.o b.o) rfl rfl ?_|refine AU ?_|(refine IW ?_ ?_<;>intro h<;>try(exfalso;omega)))<;>conv=>whnf)
 all_goals
  refine FIN.value h0 rfl (congrArg (SV.int _) ?_);rw[<-ZfF];simp only[orI]
  (repeat' split)<;>simp_all
end Go.Proofs.YtlcbipfmodcedaaGreatDoor
namespace Go.Proofs.YtlcbipfmodcedaaGreatDoor
open Go.Sx Go.Our
open Tryz
def ZcX:Plan:=(Zu [(0,1),(1,1),(2,1),(4,1),(5,1),(6,1),(3,2),(7,2),(8,1)])
def Z7j:Plan:=(Zu [(0,1),(1,1),(2,1),(3,1),(4,1),(5,3),(6,1),(7,1),(8,1),(9,1),(10,1),(11,2),(12,3),(13,1),(14,1),(15,1),(16,1),(17,1),(18,1),(19,1),(20,1),(21,2),(22,3),(23,1),(24,1),(25,1)])
def YV:Qd:=⟨⟨-7,[109,97,114,107],[],[]⟩,ZE,ZE,ZE⟩
theorem Z3z:Does prog tab 29 0 [] [] [] (Val (.agg (Zd YV))):=by
 refine Does.enter Z0 call29 func29 rfl 3 rfl rfl [.cell 0 67] rfl ?_;intro w0 F η0 h0;conv=>whnf
 repeat'((first|refine AU ?_|(refine IW ?_ ?_<;>intro h<;>try(exfalso;omega)))<;>conv=>whnf)
 exact FIN.value h0 rfl rfl
theorem Zgv{l c:Int}{b:Nat}(B:Nat)(hb:Nat.ble b B=true)(h0:0<=l)(h1:l<=c)(h2:(B:Int)*c<=281474976710656/\c<=9223372036854775807):0<=l/\l<=c/\c<=9223372036854775807/\(b:Int)*c<=281474976710656:=
 ⟨h0,h1,h2.2,Int.le_trans (Int.mul_le_mul_of_nonneg_right (by have:=Nat.le_of_ble_eq_true hb;omega) (by omega)) h2.1⟩
abbrev UF(l:List Qd):Prop:=l.length*224<=140737488351232
theorem Z8J(l z:List Qd)(lim:Option Nat)(hl:UF l):Does prog tab 9 1 [.sl (.loc 0) 0 16 l.length lim] [] [(0, .rows 16 ((l++z).map Zd))]
 (fun r O nx=>r= .sl (.loc 1) 0 16 l.length none/\O=[(1, .rows 16 ((l++ [YV,YV]).map Zd))]/\nx=2):=by
 refine Does.enter Z0 call9 func9 rfl 21 rfl rfl [.tmp 2] rfl ?_;intro w0 F η0 h0;conv=>whnf
 repeat'((first|refine CALL.value (Z3z) rfl rfl ?_|(rw[ZcG];conv=>whnf)|(refine NEED.mk (Zgv 224 rfl (by omega) (by rw[Z9 (by omega) (by omega)];omega) (by rw[Z9 (by omega) (by omega)];omega)) ?_;conv=>whnf)|refine AU ?_|(refine IW ?_ ?_<;>intro h<;>try(exfalso;omega)))<;>conv=>whnf)
 refine NEED.mk (by rw[Z9 (by omega) (by omega)];exact⟨by simp,by omega,by simp;omega⟩) ?_;conv=>whnf
 repeat'((first|refine CALL.value (Z3z) rfl rfl ?_|(refine NEED.mk (Zj 224 rfl rfl (by simp) (by simp) (by omega)) ?_;conv=>whnf)|refine AU ?_|(refine IW ?_ ?_<;>intro h<;>try(exfalso;omega)))<;>conv=>whnf)
 try(refine NEED.mk ⟨by omega,by show _<=((max ((l.length:Int).toNat+2) (_-0):Nat):Int);omega⟩ ?_;conv=>whnf)
 refine FIN.aA h0 [3] (.sl (.loc 1) 0 16 l.length none) [(1, .rows 16 ((l++ [YV,YV]).map Zd))] ?_;exact⟨rfl,rfl,rfl⟩
theorem ZaZ(l:List Qd)(hl:UF l):Does prog tab 9 1 [.sl (.loc 0) 0 16 l.length none] [] [(0, .rows 16 (l.map Zd))]
 (fun r O nx=>r= .sl (.loc 1) 0 16 l.length none/\O=[(1, .rows 16 ((l++ [YV,YV]).map Zd))]/\nx=2):=by
 have:=Z8J l [] none hl;rwa [List.append_nil]at this
theorem Z3A(A B:List Qd)(i n j m:Nat)(lA lB:Option Nat)(hA:i+n<=A.length)(hB:j+m<=B.length)(hn:A.length<=1152921504606846976)(hm:B.length<=1152921504606846976):Does prog tab 15 2 [.sl (.loc 0) i 16 n lA, .sl (.loc 1) j 16 m lB] [] [(0, .rows 16 (A.map Zd)),(1, .rows 16 (B.map Zd))]
 (ValK 2 (.bool (decide ((A.drop i).take n=(B.drop j).take m)))):=by
 refine Does.enter Z0 call15 func15 rfl 26 rfl rfl [.tmp 4] rfl ?_;intro w0 F η0 h0;conv=>whnf
 refine IF.mk (fun h=>?_) (fun h=>?_)
 ·have h:n≠m:=by simp at h;omega
  conv=>whnf
  refine FIN.valueK h0 rfl (congrArg SV.bool (decide_eq_false fun he=>?_).symm);have:=congrArg List.length he;simp at this;omega
 have h:n=m:=by simp at h;omega
 subst h;conv=>whnf
 refine LOOP.go Z0 [0,1] (X:=Nat) (fun c=>c<=n/\((A.drop i).take n=(B.drop j).take n<->(A.drop (i+c)).take (n-c)=(B.drop (j+c)).take (n-c))) (fun c=>[(5, .int .i64 (c:Int))]) (fun c=>[]) 2 (fun c=>n-c) 0 ⟨by omega,by simp⟩ ?_;conv=>whnf
 refine⟨by exact GOES.cA h0,?_⟩;rintro c ⟨hc,hs⟩;conv=>whnf
 rcases Nat.lt_or_ge c n with hcn|hcn
 ·have ha:i+c<A.length:=by omega
  have hb:j+c<B.length:=by omega
  have hstep:(A.drop (i+c)).take (n-c)=(B.drop (j+c)).take (n-c)<->A[i+c]=B[j+c]/\(A.drop (i+(c+1))).take (n-(c+1))=(B.drop (j+(c+1))).take (n-(c+1)):=by
   rw[List.drop_eq_getElem_cons ha,List.drop_eq_getElem_cons hb,show n-c=(n-(c+1))+1 by omega];simp only[List.take_succ_cons,List.cons.injEq];rw[show i+c+1=i+(c+1)by omega,show j+c+1=j+(c+1)by omega]
  repeat'((first|refine DRAWN.of (id:=6) Z0 mixed ZcX (by kernel_rfl) ?_|refine ADD.mk (fun _ _=>?_)|refine AD ?_|refine FORK.mk ?_ ?_|(refine GET.at (row:=Zd (A[i+c]'(by omega))) (by rw[show i+(c:Int).toNat=i+c by omega];exact Z78 (by omega)) ?_;conv=>whnf)|(refine GET.at (row:=Zd (B[j+c]'(by omega))) (by rw[show j+(c:Int).toNat=j+c by omega];exact Z78 (by omega)) ?_;conv=>whnf)|refine AU ?_|(refine IW ?_ ?_<;>intro h<;>try(exfalso;omega)))<;>conv=>whnf)
  ·have hne:A[i+c]≠B[j+c]:=fun he=>by rw[he]at h;simp at h
   exact FIN.valueK h0 rfl (congrArg SV.bool (decide_eq_false fun he=>hne (hstep.1 (hs.1 he)).1).symm)
  ·have heq:A[i+c]=B[j+c]:=Qd.ext' (by simp only[Zd,Qd.row,List.cons.injEq,SV.int.injEq,SV.str.injEq,true_and,and_true];exact h);refine⟨c+1,⟨by omega,hs.trans (hstep.trans ⟨fun x=>x.2,fun x=>⟨heq,x⟩⟩)⟩,by omega,?_⟩;conv=>whnf
   exact GOES.cA h0
 ·repeat'((first|refine AU ?_|(refine IW ?_ ?_<;>intro h<;>try(exfalso;omega)))<;>conv=>whnf)
  refine FIN.valueK h0 rfl (congrArg SV.bool (decide_eq_true (hs.2 ?_)).symm);rw[show n-c=0 by omega];rfl
theorem Zb0(l z:List Qd)(lim:Option Nat)(hl:UF l)(hz:(l++z).length<=1152921504606846976):Does prog tab 12 2 [.sl (.loc 1) 0 16 l.length none, .sl (.loc 0) 0 16 l.length lim] [(1, .rows 16 ((l++ [YV,YV]).map Zd))] [(0, .rows 16 ((l++z).map Zd))]
 (fun r O nx=>r= .bool true/\O=[(1, .rows 16 ((l++ [YV,YV]).map Zd))]/\nx=2):=by
 have hA:(l++ [YV,YV]).length<=1152921504606846976:=by simp;omega
 refine Does.enter Z0 call12 func12 rfl 36 rfl rfl [.tmp 4] rfl ?_;intro w0 F η0 h0;conv=>whnf
 have hw:(IntKind.i64.wrap ((l.length:Int)+2)).toNat=l.length+2:=by rw[Z9 (by omega) (by omega)];omega
 have hw1:(IntKind.i64.wrap ((l.length:Int)+1)).toNat=l.length+1:=by rw[Z9 (by omega) (by omega)];omega
 refine NEED.mk ⟨by rw[Z9 (by omega) (by omega)];omega,by rw[Z9 (by omega) (by omega)];show _<=((max l.length (((l++ [YV,YV]).map Zd).length-0):Nat):Int);simp⟩ ?_;rw[hw];conv=>whnf
 repeat'((first|refine DRAWN.of (id:=2) Z0 mixed Z7j (by kernel_rfl) ?_|refine ADD.mk (fun _ _=>?_)|refine AD ?_|refine FORK.mk ?_ ?_|(refine NEED.mk ⟨by omega,by show _<=((l.length+2:Nat):Int);omega⟩ ?_;conv=>whnf)|refine AU ?_|(refine IW ?_ ?_<;>intro h<;>try(exfalso;omega)))<;>conv=>whnf)
 refine CALL.aA [1,0] (Z3A (l++ [YV,YV]) (l++z) 0 l.length 0 l.length none lim (by simp) (by simp) hA hz) ?_;rintro r O' nx' ⟨rfl,rfl,rfl⟩;rw[decide_eq_true (by simp)];conv=>whnf
 repeat'((first|refine DRAWN.of (id:=2) Z0 mixed Z7j (by kernel_rfl) ?_|refine ADD.mk (fun _ _=>?_)|refine AD ?_|refine FORK.mk ?_ ?_|refine CALL.value (Z3z) rfl rfl ?_|(refine GET.at (row:=Zd YV) (by rw[List.getElem?_map];simp[hw1]) ?_;conv=>whnf)|refine AU ?_|(refine IW ?_ ?_<;>intro h<;>try(exfalso;omega)))<;>conv=>whnf)
 all_goals first
  |(exfalso;simp_all;done)
  |(refine FIN.here h0 (rc:= .bool true) (Oc:=[(1, .rows 16 ((l++ [YV,YV]).map Zd))]) (congrArg SV.bool (by simp)) rfl (by first|rfl|(simp only[Zl,Zg,Z2 _ (Xb _),Bool.and_self,Bool.and_true]<;>rfl)) ⟨rfl,trivial⟩ ⟨rfl,rfl,rfl⟩)
  |trace_state
theorem ZcY(l:List Qd)(hl:UF l):Does prog tab 12 2 [.sl (.loc 1) 0 16 l.length none, .sl (.loc 0) 0 16 l.length none] [(1, .rows 16 ((l++ [YV,YV]).map Zd))] [(0, .rows 16 (l.map Zd))]
 (fun r O nx=>r= .bool true/\O=[(1, .rows 16 ((l++ [YV,YV]).map Zd))]/\nx=2):=by
 have:=Zb0 l [] none hl (by simp;omega);rwa [List.append_nil]at this
theorem Jm{l z:List Qd}{i:Nat}(h:i<l.length):((l++z).map Zd)[i]?=some (Zd l[i]):=by
 rw[List.getElem?_map,List.getElem?_append_left h,List.getElem?_eq_getElem h];rfl
end Go.Proofs.YtlcbipfmodcedaaGreatDoor
namespace Go.Proofs.YtlcbipfmodcedaaGreatDoor
open Go.Sx Go.Our Go.Sort Go.Shelf
open Tryz
abbrev ZiG(l:List Tm):Prop:=l.length*224<=140737488351232
theorem Z4Z{α:Type}(f:α->List SV){C l:List α}{j:Nat}(h1:C.length<=j)(h2:j<l.length):((C++l.drop C.length).map f)[j]?=some (f l[j]):=by
 rw[List.getElem?_map,List.getElem?_append_right h1,List.getElem?_drop,show C.length+(j-C.length)=j by omega,List.getElem?_eq_getElem h2];rfl
theorem Zd2{α:Type}(f:α->List SV){C l:List α}(x:α)(h:C.length<l.length):((C++l.drop C.length).map f).set C.length (f x)=((C++ [x])++l.drop (C++ [x]).length).map f:=by
 rw[Z9Q,List.set_append_right _ _ (Nat.le_refl _),Nat.sub_self,List.drop_eq_getElem_cons h,List.set_cons_zero];simp
theorem Z7m{α:Type}(f:α->List SV){C l:List α}(z:α)(h:C.length<=l.length):((C++l.drop C.length).map f).take C.length++List.replicate (l.length-C.length) (f z)++((C++l.drop C.length).map f).drop (C.length+(l.length-C.length))=(C++List.replicate (l.length-C.length) z).map f:=by
 have h1:((C++l.drop C.length).map f).length=l.length:=by simp;omega
 rw[List.drop_of_length_le (l:=(C++l.drop C.length).map f) (by omega),List.append_nil,List.map_append,List.map_append,List.map_replicate,List.take_append_of_le_length (by simp),List.take_of_length_le (by simp)]
theorem Zb3{rs:List (List SV)}{i j:Nat}{row:List SV}(h:rs[i]?=some row)(e:j=i):rs[j]?=some row:=e▸h
def Zd3:Go.Shelf.Ren:=⟨fun|6=>75|15=>114|14=>113|28=>150|29=>151|20=>142|21=>143|22=>144|23=>145|24=>146|25=>147|26=>148|27=>149|46=>195|47=>196|48=>197|49=>198|50=>199|57=>247|n=>n,fun|22=>22|24=>67|25=>105|3=>3|39=>177|0=>0|53=>157|55=>162|4=>4|46=>208|45=>207|50=>103|5=>5|9=>9|66=>250|70=>87|76=>292|77=>130|n=>n,fun|n=>n⟩
theorem ZhK:Go.Proofs.SlLaysF0.n6 prog Zd3 where
 mixed:=by kernel_rfl
 f6:=⟨f75.name,by decide,func75.trans (congrArg some (by kernel_rfl))⟩
 f14:=⟨f113.name,by decide,func113.trans (congrArg some (by kernel_rfl))⟩
 f15:=func114.trans (congrArg some (by kernel_rfl))
 f20:=⟨f142.name,by decide,func142.trans (congrArg some (by kernel_rfl))⟩
 f21:=⟨f143.name,by decide,func143.trans (congrArg some (by kernel_rfl))⟩
 f22:=⟨f144.name,by decide,func144.trans (congrArg some (by kernel_rfl))⟩
 f23:=⟨f145.name,by decide,func145.trans (congrArg some (by kernel_rfl))⟩
 f24:=⟨f146.name,by decide,func146.trans (congrArg some (by kernel_rfl))⟩
 f25:=⟨f147.name,by decide,func147.trans (congrArg some (by kernel_rfl))⟩
 f26:=⟨f148.name,by decide,func148.trans (congrArg some (by kernel_rfl))⟩
 f27:=⟨f149.name,by decide,func149.trans (congrArg some (by kernel_rfl))⟩
 f28:=func150.trans (congrArg some (by kernel_rfl))
 f29:=func151.trans (congrArg some (by kernel_rfl))
 f46:=⟨f195.name,by decide,func195.trans (congrArg some (by kernel_rfl))⟩
 f47:=func196.trans (congrArg some (by kernel_rfl))
 f48:=func197.trans (congrArg some (by kernel_rfl))
 f49:=⟨f198.name,by decide,func198.trans (congrArg some (by kernel_rfl))⟩
 f50:=⟨f199.name,by decide,func199.trans (congrArg some (by kernel_rfl))⟩
 f57:=⟨f247.name,by decide,func247.trans (congrArg some (by kernel_rfl))⟩
 t0:=underlying0
 a0:=isAgg0
 z0:=sizeOf0
 v0:=zeroValue0
 t3:=underlying3
 a3:=isAgg3
 z3:=sizeOf3
 v3:=zeroValue3
 t4:=underlying4
 a4:=isAgg4
 z4:=sizeOf4
 v4:=zeroValue4
 t5:=underlying5
 a5:=isAgg5
 z5:=sizeOf5
 v5:=zeroValue5
 t9:=underlying9
 a9:=isAgg9
 z9:=sizeOf9
 v9:=zeroValue9
 t22:=underlying22
 a22:=isAgg22
 z22:=sizeOf22
 v22:=zeroValue22
 t25:=underlying105
 a25:=isAgg105
 z25:=sizeOf105
 v25:=zeroValue105
 t39:=underlying177
 a39:=isAgg177
 z39:=sizeOf177
 v39:=zeroValue177
 t45:=underlying207
 a45:=isAgg207
 z45:=sizeOf207
 v45:=zeroValue207
 t46:=underlying208
 a46:=isAgg208
 z46:=sizeOf208
 v46:=zeroValue208
 t50:=underlying103
 a50:=isAgg103
 z50:=sizeOf103
 v50:=zeroValue103
 t53:=underlying157
 a53:=isAgg157
 z53:=sizeOf157
 v53:=zeroValue157
 t55:=underlying162
 a55:=isAgg162
 z55:=sizeOf162
 v55:=zeroValue162
 t66:=underlying250
 a66:=isAgg250
 z66:=sizeOf250
 v66:=zeroValue250
 t70:=underlying87
 a70:=isAgg87
 z70:=sizeOf87
 v70:=zeroValue87
 t76:=underlying292
 a76:=isAgg292
 z76:=sizeOf292
 v76:=zeroValue292
 t77:=underlying130
 a77:=isAgg130
 z77:=sizeOf130
 v77:=zeroValue130
abbrev strU(s:List UInt8):Value:= .string ⟨s.toArray⟩
def qdE(q:Qd):List Value:=[.int .i64 q.s.k,strU q.s.t,strU q.s.y,strU q.s.l, .int .i64 q.p.k,strU q.p.t,strU q.p.y,strU q.p.l, .int .i64 q.o.k,strU q.o.t,strU q.o.y,strU q.o.l, .int .i64 q.g.k,strU q.g.t,strU q.g.y,strU q.g.l]
instance :Inhabited Tm:=⟨ZE⟩
instance :Inhabited Qd:=⟨Z77⟩
theorem Z5Q{α:Type}(c:α->α->Int)(x y:α):ltOf c x y=decide (c x y<0):=rfl
theorem ZhL{α:Type}{c:α->α->Int}(h:Tri c):SWO (ltOf c) where
 irrefl x:=by rw[Z5Q,h.self];rfl
 trans x y z h1 h2:=by rw[Z5Q]at*;simp only[decide_eq_true_iff]at*;exact h.lt_trans h1 (by omega)
 ntrans x y z h1 h2:=by
  rw[Z5Q]at*;simp only[decide_eq_false_iff_not]at*;intro hc;have:=h.anti x y;have:=h.anti y z;have:=h.anti x z;have:=h.trans z y x (by omega) (by omega);omega
theorem ZhM{α:Type}{c:α->α->Int}(h:Tri c)(x y:α)(h1:ltOf c x y=false)(h2:ltOf c y x=false):x=y:=by
 rw[Z5Q]at*;simp only[decide_eq_false_iff_not]at*;have:=h.anti x y;exact(h.zero x y).1 (by omega)
theorem ZeJ{η:Env}:∀{vs us:List Value} {cs:List SV},DenL η cs vs->DenL η cs us->Z4d cs=true->vs=us:=fun h h' hd=>DetL.of hd _ _ _ h h'
theorem Zb4(l:List Qd)(hl:l.length*224<=140741783322624):Does prog tab 75 1 [.sl (.loc 0) 0 16 l.length none, .fn (.func 47) [] []] [(0, .rows 16 (l.map Zd))] []
 (fun r O nx=>r= .tup []/\O=[(0, .rows 16 ((l.mergeSort (leC Xd)).map Zd))]/\nx=1):=by
 have hrow:∀(η:Env) (q:Qd),DenL η (Zd q) (qdE q)/\∀u∈qdE q,u.oneCell'=true:=fun η q=>by
  refine⟨by simp only[Zd,qdE,DenL,Den];exact⟨_,_,rfl,rfl,_,_,rfl,rfl,_,_,rfl,rfl,_,_,rfl,rfl,_,_,rfl,rfl,_,_,rfl,rfl,_,_,rfl,rfl,_,_,rfl,rfl,_,_,rfl,rfl,_,_,rfl,rfl,_,_,rfl,rfl,_,_,rfl,rfl,_,_,rfl,rfl,_,_,rfl,rfl,_,_,rfl,rfl,_,_,rfl,rfl,rfl⟩,fun u hu=>?_⟩;simp only[qdE,List.mem_cons,List.not_mem_nil,or_false]at hu;rcases hu with rfl|rfl|rfl|rfl|rfl|rfl|rfl|rfl|rfl|rfl|rfl|rfl|rfl|rfl|rfl|rfl<;>rfl
 exact Z5P (enc:=qdE) (k:=16) (row:=Zd) (cf:=Xd) Z0 ZhK ZhK (fun w=>by kernel_rfl) (fun w=>by kernel_rfl) (fun q=>⟨rfl,rfl⟩) (by omega) (ZhL triQ) (ZhM triQ) rfl (fun x y=>Z19 x y) call47 call75 hrow (fun η x vs h=>ZeJ h (hrow η x).1 rfl) l (by omega)
end Go.Proofs.YtlcbipfmodcedaaGreatDoor
namespace Go.Proofs.YtlcbipfmodcedaaGreatDoor
open Go.Sx Go.Our
def ZhN{α:Type}(f:α->List SV)(es k:Nat)(z:α)(n:Nat)(l:List α):SV->Hps->Nat->Prop:=fun r O nx=> ∃j,j+l.length<=n/\r= .sl (.loc k) 0 es l.length (some l.length)/\O=[(k, .rows es ((l++List.replicate j z).map f))]/\nx=k+1
end Go.Proofs.YtlcbipfmodcedaaGreatDoor
namespace Go.Proofs.YtlcbipfmodcedaaGreatDoor
open Go.Sx Go.Our Go.Sort Go.Shelf
open Tryz
def Z2o:Plan:=(Zu [(0,1),(1,1),(2,1),(4,1),(5,1),(6,1),(7,1),(3,2),(8,2),(9,1)])
theorem Zb5(l:List (List UInt8))(n:Nat)(hn:n<=l.length)(hl:l.length*16<=140741783322624):Does prog tab 90 1 [.sl (.loc 0) 0 1 n none] [(0, .rows 1 (l.map Z8))] []
 (fun r O nx=>r= .sl (.loc 0) 0 1 n (some n)/\O=[(0, .rows 1 (l.map Z8))]/\nx=1):=by
 refine Does.enter Z0 call90 func90 rfl 9 rfl rfl [.tmp 2] rfl ?_;intro w0 F η0 h0;conv=>whnf
 repeat'((first|(refine NEED.mk ⟨by omega,by omega,by omega⟩ ?_;conv=>whnf)|refine AU ?_|(refine IW ?_ ?_<;>intro h<;>try(exfalso;omega)))<;>conv=>whnf)
 refine FIN.here h0 (rc:= .sl (.loc 0) 0 1 n (some n)) (Oc:=[(0, .rows 1 (l.map Z8))]) (by simp) rfl (by first|rfl|(simp only[Zl,Zg,Z2 _ (Zm _),Bool.and_self,Bool.and_true]<;>rfl)) ⟨rfl,trivial⟩ ⟨rfl,rfl,rfl⟩
theorem Z5S(l:List (List UInt8))(hl:l.length*16<=140741783322624):Does prog tab 91 1 [.sl (.loc 0) 0 1 l.length none] [(0, .rows 1 (l.map Z8))] []
 (fun r O nx=>r= .sl (.loc 0) 0 1 (Z5 l).length none/\O=[(0, .rows 1 ((Z5 l++List.replicate (l.length-(Z5 l).length) ([]:List UInt8)).map Z8))]/\nx=1):=by
 have fin:∀{m:Nat},m=(Z5 l).length->Z5 l=l->(SV.sl (.loc 0) 0 1 l.length none=SV.sl (.loc 0) 0 1 (Z5 l).length none)/\l.map Z8=(Z5 l++List.replicate (l.length-(Z5 l).length) ([]:List UInt8)).map Z8:=fun hm he=>by
  rw[he];simp
 refine Does.enter Z0 call91 func91 rfl 61 rfl rfl [.tmp 2] rfl ?_;intro w0 F η0 h0;conv=>whnf
 refine IF.mk (fun h=>?_) (fun h=>?_)
 ·have h:l.length<2:=by simp at h;omega
  obtain⟨f1,f2⟩:=fin rfl (Z08 h);conv=>whnf
  rw[f1,f2];refine FIN.here h0 (rc:= .sl (.loc 0) 0 1 (Z5 l).length none) (Oc:=[(0, .rows 1 ((Z5 l++List.replicate (l.length-(Z5 l).length) ([]:List UInt8)).map Z8))]) rfl rfl (by first|rfl|(simp only[Zl,Zg,Z2 _ (Zm _),Bool.and_self,Bool.and_true]<;>rfl)) ⟨rfl,trivial⟩ ⟨rfl,rfl,rfl⟩
 have h2:2<=l.length:=by simp at h;omega
 clear h;conv=>whnf
 refine LOOP.go Z0 [0] (X:=Nat) (fun k=>1<=k/\k<=l.length/\Z5 (l.take k)=l.take k) (fun k=>[(3, .int .i64 (k:Int))]) (fun k=>[(0, .rows 1 (l.map Z8))]) 1 (fun k=>l.length-k) 1 ⟨by omega,by omega,Z3t⟩ ?_;conv=>whnf
 refine⟨by exact GOES.cA h0,?_⟩;rintro k ⟨hk1,hkl,hk⟩;conv=>whnf
 rcases Nat.lt_or_ge k l.length with hlt|hge
 ·have hs:=Jy hk1 hlt;have hk':(IntKind.i64.wrap ((k:Int)-1)).toNat=k-1:=by rw[Z9 (by omega) (by omega)];omega
  repeat'((first|refine DRAWN.of (id:=6) Z0 mixed Z2o (by kernel_rfl) ?_|refine DRAWN.of (id:=11) Z0 mixed Z2o (by kernel_rfl) ?_|refine ADD.mk (fun _ _=>?_)|refine AD ?_|refine FORK.mk ?_ ?_|(refine GET.at (row:=Z8 (l[k]'(by omega))) (Z5G (by omega) (by omega)) ?_;conv=>whnf)|(refine GET.at (row:=Z8 (l[k-1]'(by omega))) (Z5G (by omega) (by omega)) ?_;conv=>whnf)|refine AU ?_|(refine IW ?_ ?_<;>intro h<;>try(exfalso;omega)))<;>conv=>whnf)
  ·have heq:l[k]=l[k-1]:=id (h);rw[if_pos heq,hk]at hs;have hs0:(Z5 (l.take (k+1))).length=k:=by rw[hs];simp;omega
   clear h heq;refine LOOP.go Z0 [0,4] (X:=Nat) (fun i=>k+1<=i/\i<=l.length/\(Z5 (l.take i)).length+1<=i/\k<=(Z5 (l.take i)).length) (fun i=>[(3, .int .i64 ((Z5 (l.take i)).length:Int)),(5, .int .i64 ((i-k:Nat):Int))]) (fun i=>[(0, .rows 1 ((Z5 (l.take i)++l.drop (Z5 (l.take i)).length).map Z8))]) 1 (fun i=>l.length-i) (k+1) ⟨by omega,by omega,by omega,by omega⟩ ?_;conv=>whnf
   refine⟨by(refine GOES.cutting h0 rfl rfl rfl (by first|rfl|(simp only[Zl,Zg,Z2 _ (Zm _),Bool.and_self,Bool.and_true]<;>rfl)) ?_ ?_<;>(repeat'(first|(with_reducible rfl)|(exact X6 rfl (by first|(simp;done)|omega|(simp;omega)))|(exact congrArg (SV.int _) (by first|omega|(simp(disch:=omega) only[lnB,Z9,Zo]<;>omega)|(simp;done)|(simp<;>omega)))|(exact congrArg (Hp.rows _) (by(rw[hs,List.length_take,Nat.min_eq_left hkl,List.take_append_drop])))|((conv=>whnf);refine⟨?_,?_⟩)|exact trivial|rfl))),?_⟩;rintro i ⟨hi1,hi2,hi3,hi4⟩;obtain⟨C,hC⟩:∃C,C=Z5 (l.take i):=⟨_,rfl⟩;have hsi:=fun h=>Jy (l:=l) (i:=i) (by omega) h;rw[<-hC]at hi3 hi4 hsi;dsimp only;rw[<-hC];conv=>whnf
   rcases Nat.lt_or_ge i l.length with hil|hil
   ·have hsi:=hsi hil;have hwr:IntKind.i64.wrap (((i-k:Nat):Int)-1)=((i-1-k:Nat):Int):=by rw[Z9 (by omega) (by omega)];omega
    have hg1:((C++l.drop C.length).map Z8)[i]?=some (Z8 l[i]):=Z4Z Z8 (by omega) hil;have hg2:((C++l.drop C.length).map Z8)[i-1]?=some (Z8 (l[i-1]'(by omega))):=Z4Z Z8 (by omega) (by omega);have hg3:((C++l.drop C.length).map Z8)[C.length]?=some (Z8 (l[C.length]'(by omega))):=Z4Z Z8 (Nat.le_refl _) (by omega);repeat'((first|refine DRAWN.of (id:=6) Z0 mixed Z2o (by kernel_rfl) ?_|refine DRAWN.of (id:=11) Z0 mixed Z2o (by kernel_rfl) ?_|refine ADD.mk (fun _ _=>?_)|refine AD ?_|refine FORK.mk ?_ ?_|(refine GET.at (row:=Z8 (l[i]'(by omega))) (Zb3 hg1 (by omega)) ?_;conv=>whnf)|(refine GET.at (row:=Z8 (l[i-1]'(by omega))) (Zb3 hg2 (by rw[hwr];omega)) ?_;conv=>whnf)|(refine GET.at (row:=Z8 (l[C.length]'(by omega))) (Zb3 hg3 (by omega)) ?_;conv=>whnf)|refine AU ?_|(refine IW ?_ ?_<;>intro h<;>try(exfalso;omega)))<;>conv=>whnf)
    ·have hne:¬l[i]=l[i-1]'(by omega):=fun he=>by rw[he]at h;simp at h
     rw[if_neg hne]at hsi;refine⟨i+1,⟨by omega,by omega,by rw[hsi,List.length_append];simp;omega,by rw[hsi,List.length_append];simp;omega⟩,by omega,?_⟩;rw[hsi];conv=>whnf
     (refine GOES.cutting h0 rfl rfl rfl (by first|rfl|(simp only[Zl,Zg,Z2 _ (Zm _),Bool.and_self,Bool.and_true]<;>rfl)) ?_ ?_<;>(repeat'(first|(with_reducible rfl)|(exact X6 rfl (by first|(simp;done)|omega|(simp;omega)))|(exact congrArg (SV.int _) (by first|omega|(simp(disch:=omega) only[lnB,Z9,Zo]<;>omega)|(simp;done)|(simp<;>omega)))|(exact congrArg (Hp.rows _) (by(first|(simp only[Nat.zero_add,Int.toNat_natCast];exact Zd2 Z8 _ (by omega))|rfl)))|((conv=>whnf);refine⟨?_,?_⟩)|exact trivial|rfl)))
    ·have heq:l[i]=l[i-1]'(by omega):=id (h);rw[if_pos heq]at hsi;refine⟨i+1,⟨by omega,by omega,by rw[hsi];omega,by rw[hsi];omega⟩,by omega,?_⟩;rw[hsi];conv=>whnf
     exact GOES.cA h0
   ·have hCl:C=Z5 l:=by rw[hC,List.take_of_length_le hil]
    have hcl:C.length<=l.length:=by omega
    repeat'((first|(refine NEED.mk (by simp only[List.length_map,List.length_append,List.length_drop];omega) ?_;conv=>whnf)|(refine NEED.mk ⟨by omega,Z0u (by omega)⟩ ?_;conv=>whnf)|refine AU ?_|(refine IW ?_ ?_<;>intro h<;>try(exfalso;omega)))<;>conv=>whnf)
    rw[<-hCl];refine FIN.here h0 (rc:= .sl (.loc 0) 0 1 C.length none) (Oc:=[(0, .rows 1 ((C++List.replicate (l.length-C.length) ([]:List UInt8)).map Z8))]) (by simp) rfl (by first|rfl|(simp only[Zl,Zg,Z2 _ (Zm _),Bool.and_self,Bool.and_true]<;>rfl)) ⟨?_,trivial⟩ ⟨rfl,rfl,rfl⟩;refine congrArg (Hp.rows 1) ?_;simp only[Nat.zero_add,Int.toNat_natCast];exact Z7m Z8 ([]:List UInt8) hcl
  ·have hne:¬l[k]=l[k-1]:=fun he=>by rw[he]at h;simp at h
   rw[if_neg hne,hk]at hs;refine⟨k+1,⟨by omega,by omega,by rw[hs,List.take_succ_eq_append_getElem hlt]⟩,by omega,?_⟩;conv=>whnf
   exact GOES.cA h0
 ·have hkn:k=l.length:=by omega
  rw[hkn,List.take_of_length_le (Nat.le_refl _)]at hk;obtain⟨f1,f2⟩:=fin rfl hk;repeat'((first|refine AU ?_|(refine IW ?_ ?_<;>intro h<;>try(exfalso;omega)))<;>conv=>whnf)
  rw[f1,f2];refine FIN.here h0 (rc:= .sl (.loc 0) 0 1 (Z5 l).length none) (Oc:=[(0, .rows 1 ((Z5 l++List.replicate (l.length-(Z5 l).length) ([]:List UInt8)).map Z8))]) rfl rfl (by first|rfl|(simp only[Zl,Zg,Z2 _ (Zm _),Bool.and_self,Bool.and_true]<;>rfl)) ⟨rfl,trivial⟩ ⟨rfl,rfl,rfl⟩
def Zb6:Go.Shelf.Ren:=⟨fun|190=>89|125=>114|258=>125|128=>150|129=>151|302=>165|303=>166|304=>167|305=>168|306=>169|307=>170|308=>171|309=>172|310=>173|333=>217|329=>196|330=>197|334=>218|335=>219|336=>220|344=>268|n=>n,fun|31=>31|9=>9|3=>3|46=>177|0=>0|51=>157|53=>162|4=>4|183=>208|182=>207|131=>103|5=>5|218=>250|222=>87|228=>292|229=>130|n=>n,fun|n=>n⟩
theorem ZhO:Go.Proofs.Lays.n190 prog Zb6 where
 mixed:=by kernel_rfl
 f125:=func114.trans (congrArg some (by kernel_rfl))
 f128:=func150.trans (congrArg some (by kernel_rfl))
 f129:=func151.trans (congrArg some (by kernel_rfl))
 f190:=func89.trans (congrArg some (by kernel_rfl))
 f258:=func125.trans (congrArg some (by kernel_rfl))
 f302:=func165.trans (congrArg some (by kernel_rfl))
 f303:=func166.trans (congrArg some (by kernel_rfl))
 f304:=func167.trans (congrArg some (by kernel_rfl))
 f305:=func168.trans (congrArg some (by kernel_rfl))
 f306:=func169.trans (congrArg some (by kernel_rfl))
 f307:=func170.trans (congrArg some (by kernel_rfl))
 f308:=func171.trans (congrArg some (by kernel_rfl))
 f309:=func172.trans (congrArg some (by kernel_rfl))
 f310:=func173.trans (congrArg some (by kernel_rfl))
 f329:=func196.trans (congrArg some (by kernel_rfl))
 f330:=func197.trans (congrArg some (by kernel_rfl))
 f333:=func217.trans (congrArg some (by kernel_rfl))
 f334:=func218.trans (congrArg some (by kernel_rfl))
 f335:=func219.trans (congrArg some (by kernel_rfl))
 f336:=func220.trans (congrArg some (by kernel_rfl))
 f344:=func268.trans (congrArg some (by kernel_rfl))
 t0:=underlying0
 a0:=isAgg0
 z0:=sizeOf0
 v0:=zeroValue0
 t3:=underlying3
 a3:=isAgg3
 z3:=sizeOf3
 v3:=zeroValue3
 t4:=underlying4
 a4:=isAgg4
 z4:=sizeOf4
 v4:=zeroValue4
 t5:=underlying5
 a5:=isAgg5
 z5:=sizeOf5
 v5:=zeroValue5
 t9:=underlying9
 a9:=isAgg9
 z9:=sizeOf9
 v9:=zeroValue9
 t31:=underlying31
 a31:=isAgg31
 z31:=sizeOf31
 v31:=zeroValue31
 t46:=underlying177
 a46:=isAgg177
 z46:=sizeOf177
 v46:=zeroValue177
 t51:=underlying157
 a51:=isAgg157
 z51:=sizeOf157
 v51:=zeroValue157
 t53:=underlying162
 a53:=isAgg162
 z53:=sizeOf162
 v53:=zeroValue162
 t131:=underlying103
 a131:=isAgg103
 z131:=sizeOf103
 v131:=zeroValue103
 t182:=underlying207
 a182:=isAgg207
 z182:=sizeOf207
 v182:=zeroValue207
 t183:=underlying208
 a183:=isAgg208
 z183:=sizeOf208
 v183:=zeroValue208
 t218:=underlying250
 a218:=isAgg250
 z218:=sizeOf250
 v218:=zeroValue250
 t222:=underlying87
 a222:=isAgg87
 z222:=sizeOf87
 v222:=zeroValue87
 t228:=underlying292
 a228:=isAgg292
 z228:=sizeOf292
 v228:=zeroValue292
 t229:=underlying130
 a229:=isAgg130
 z229:=sizeOf130
 v229:=zeroValue130
theorem Zb7(l:List (List UInt8))(hl:l.length*16<=140737488351232):Does prog tab 89 1 [.sl (.loc 0) 0 1 l.length none] [(0, .rows 1 (l.map Z8))] []
 (fun r O nx=>r= .tup []/\O=[(0, .rows 1 ((l.mergeSort (leC cmpL)).map Z8))]/\nx=1):=
 Z7o ZhO call89 l (by omega)
end Go.Proofs.YtlcbipfmodcedaaGreatDoor
namespace Go.Proofs.YtlcbipfmodcedaaGreatDoor
open Go.Sx Go.Our
theorem ZfK{l z:List Qd}{i:Nat}{k:Nat}(h:i<l.length)(e:k=i):((l++z).map Zd)[k]?=some (Zd l[i]):=by subst e;exact Jm h
open Tryz
def ZeK:Plan:=(Zu [(0,1),(1,1),(2,1),(3,1),(4,1),(5,1),(6,1),(7,1),(8,1),(9,1),(10,1),(11,1),(12,1),(13,0)])
theorem Zd4(q:Qd):Does prog tab 44 1 [.ptr (.loc 0) 0 0 0] [] [(0, .box (Zd q))] (ValK 1 (.arr 1 [[.ptr (.loc 0) 0 0 0],[.ptr (.loc 0) 0 0 4],[.ptr (.loc 0) 0 0 8],[.ptr (.loc 0) 0 0 12]])):=by
 refine Does.enter Z0 call44 func44 rfl 16 rfl rfl [.cell 2 100] rfl ?_;intro w0 F η0 h0;conv=>whnf
 repeat'((first|refine DRAWN.of (id:=1) Z0 mixed ZeK (by kernel_rfl) ?_|refine ADD.mk (fun _ _=>?_)|refine AD ?_|refine FORK.mk ?_ ?_|refine AU ?_|(refine IW ?_ ?_<;>intro h<;>try(exfalso;omega)))<;>conv=>whnf)
 exact FIN.here h0 (rc:= .arr 1 [[.ptr (.loc 0) 0 0 0],[.ptr (.loc 0) 0 0 4],[.ptr (.loc 0) 0 0 8],[.ptr (.loc 0) 0 0 12]]) (Oc:=[]) rfl rfl rfl trivial ⟨rfl,rfl,rfl⟩
open Tryz
theorem Zdf(c:Int)(hc:0<=c/\c<256):Does prog tab 255 0 [.int .u8 c] [] [] (Val (.tup [.int .i64 (Z4f c).1, .int .i32 (Z4f c).2])):=by
 refine Does.enter Z0 call255 func255 rfl 30 rfl rfl [.tmp 2, .tmp 3] rfl ?_;intro w0 F η0 h0;conv=>whnf
 repeat'((first|refine AU ?_|(refine IW ?_ ?_<;>intro h<;>try(exfalso;omega)))<;>conv=>whnf)
 all_goals (refine FIN.value h0 rfl ?_;unfold Z4f;(first|(simp(disch:=omega) only[↓if_pos,↓if_neg,ite_self,Z9,Zo,Int.reduceAdd,Int.reduceSub,Int.reduceMul,Int.reduceNeg,ZhD,ZhE,and7];done)|(simp(disch:=omega) only[↓if_pos,↓if_neg,ite_self,Z9,Zo,Int.reduceAdd,Int.reduceSub,Int.reduceMul,Int.reduceNeg,ZhD,ZhE,and7];with_reducible rfl)))
theorem Z8V(r:Int):Does prog tab 257 0 [.int .i32 r] [] [] (Val (.bool (Uh r))):=by
 refine Does.enter Z0 call257 func257 rfl 17 rfl rfl [.tmp 2] rfl ?_;intro w0 F η0 h0;conv=>whnf
 repeat'((first|refine AU ?_|(refine IW ?_ ?_<;>intro h<;>try(exfalso;omega)))<;>conv=>whnf)
 refine FIN.value h0 rfl (congrArg SV.bool ?_);rw[Bool.eq_iff_iff,YU];simp only[Bool.cond_eq_ite,decide_eq_true_eq,Bool.if_false_right,Bool.if_true_left,Bool.and_eq_true,Bool.or_eq_true];omega
theorem Zbh(n:Int)(hn:0<=n/\n<5):Does prog tab 256 0 [.int .i64 n] [] [] (Val (.int .i32 (Z6Z n))):=by
 have hn:n=0\/n=1\/n=2\/n=3\/n=4:=by omega
 rcases hn with rfl|rfl|rfl|rfl|rfl
 all_goals
  refine Does.enter Z0 call256 func256 rfl 6 rfl rfl [.tmp 2] rfl ?_;intro w0 F η0 h0;conv=>whnf
  repeat'((first|refine AU ?_|(refine IW ?_ ?_<;>intro h<;>try(exfalso;omega)))<;>conv=>whnf)
  exact FIN.value h0 rfl rfl
theorem ZgB{c:Int}{n r:Int}(hc:0<=c/\c<256)(h:Z4f c=(n,r)):Does prog tab 255 0 [.int .u8 c] [] [] (Val (.tup [.int .i64 n, .int .i32 r])):=by
 have:=Zdf c hc;rw[h]at this;exact this
theorem Z3M(s:List UInt8)(i:Int)(hs:Sm s):Does prog tab 208 0 [.str s, .int .i64 i] [] [] (Val (.tup [.int .i32 (Zb s i).1, .int .i64 (Zb s i).2])):=by
 refine Does.enter Z0 call208 func208 rfl 65 rfl rfl [.tmp 4, .tmp 5] rfl ?_;intro w0 F η0 h0;conv=>whnf
 repeat'((first|refine AU ?_|(refine IW ?_ ?_<;>intro h<;>try(exfalso;omega)))<;>conv=>whnf)
 ·refine FIN.value h0 rfl ?_;unfold Zb;rw[if_pos h]
 ·have e0:=ZG s i;have e1:=ZG s (i+1);have e2:=ZG s (i+2);have e3:=ZG s (i+3);have hl:=Z8x (Z1 s i);rcases hl with⟨hb,hl⟩|⟨hb,hl⟩|⟨hb,hl⟩|⟨hb,hl⟩|⟨hb,hl⟩
  all_goals
   refine CALL.value (ZgB e0 hl) rfl rfl ?_;conv=>whnf
   repeat'((first|refine CALL.value (Zbh _ (by omega)) rfl rfl ?_|(refine LOOP.once Z0 ?_;conv=>whnf)|refine CALL.value (Z8V _) rfl rfl ?_|refine AU ?_|(refine IW ?_ ?_<;>intro h<;>try(exfalso;omega)))<;>conv=>whnf)
  all_goals
   refine FIN.value h0 rfl ?_;unfold Zb decB r2 r3 r4;try simp(disch:=omega) only[or6,ZhF,Zgi,Zgj,Zgk,Zgl,YU,Z0v]at*
   (simp(disch:=omega) only[↓if_pos,↓if_neg,ite_self,Z9,Zo,Int.reduceAdd,Int.reduceSub,Int.reduceMul,Int.reduceNeg,or6])
theorem Z56(s:List UInt8)(hs:Sm s):Does prog tab 160 0 [.str s] [] [] (Val (.int .i64 (chk s 0))):=by
 refine Does.enter Z0 call160 func160 rfl 22 rfl rfl [.tmp 2] rfl ?_;intro w0 F η0 h0;conv=>whnf
 refine LOOP.go Z0 [0] (X:=Nat) (fun i=>i<=s.length/\chk s i=chk s 0) (fun i=>[(3, .int .i64 (i:Int))]) (fun _=>[]) 0 (fun i=>s.length-i) 0 ⟨by omega,rfl⟩ ?_;conv=>whnf
 refine⟨by exact GOES.cA h0,?_⟩;rintro i ⟨hi,hc⟩;conv=>whnf
 have hn:=YX s i;repeat'((first|refine CALL.value (Z3M s _ hs) rfl rfl ?_|refine AU ?_|(refine IW ?_ ?_<;>intro h<;>try(exfalso;omega)))<;>conv=>whnf)
 ·have hz:(Zb s i).2=0:=h;refine FIN.value h0 rfl ?_;rw[<-hc,Z5E (by omega) hz]
 ·rename_i h1;refine⟨i+(Zb s i).2.toNat,⟨by omega,?_⟩,by omega,?_⟩
  ·rw[<-hc,<-Z2h (by omega) h]
  ·conv=>whnf
   exact GOES.cA h0
 ·refine FIN.value h0 rfl ?_;rw[<-hc,Z8w (by omega)]
open Tryz
def Z2t:Plan:=(Zu [(0,1),(1,1),(4,1),(5,1),(6,1),(2,2),(3,1),(7,2),(8,1),(9,1)])
def Z2u:Plan:=(Zu [(0,1),(1,1),(2,1),(3,1),(6,1),(7,2),(4,3),(5,2),(8,1),(9,1)])
theorem XE(r:Int):Does prog tab 302 0 [.int .i64 r] [] [] (Val (.bool (Uh r))):=by
 refine Does.enter Z0 call302 func302 rfl 17 rfl rfl [.tmp 2] rfl ?_;intro w0 F η0 h0;conv=>whnf
 repeat'((first|refine AU ?_|(refine IW ?_ ?_<;>intro h<;>try(exfalso;omega)))<;>conv=>whnf)
 refine FIN.value h0 rfl (congrArg SV.bool ?_);rw[Bool.eq_iff_iff,YU];simp only[Bool.cond_eq_ite,decide_eq_true_eq,Bool.if_false_right,Bool.if_true_left,Bool.and_eq_true,Bool.or_eq_true];omega
theorem J5(r:Int)(hr:0<=r/\r<=1114111):Does prog tab 274 0 [.int .i64 r] [] [] (Z9J 0 (encM r)):=by
 refine Does.enter Z0 call274 func274 rfl 57 rfl rfl [.tmp 2] rfl ?_;intro w0 F η0 h0;conv=>whnf
 repeat'((first|refine AU ?_|(refine IW ?_ ?_<;>intro h<;>try(exfalso;omega)))<;>conv=>whnf)
 all_goals
  refine FIN.rows h0 0 1 _ rfl rfl rfl rfl ?_;unfold encM Go.Our.encI;simp(disch:=omega) only[↓if_pos,↓if_neg,List.map_cons,List.map_nil,ZfL,Z9,Ziw,Zix];refine⟨rfl,?_,rfl⟩;simp(disch:=omega) only[List.map_cons,List.map_nil,<-Z8N]
theorem Z8W(a:UInt8):Does prog tab 272 1 [.sl (.loc 0) 0 1 1 none] [] [(0, .rows 1 ([a].map Sx.bytesRow))] (ValK 1 (.int .i64 (Y9 [a]))):=by
 have ha:=a.toNat_lt;refine Does.enter Z0 call272 func272 rfl 45 rfl rfl [.tmp 2] rfl ?_;intro w0 F η0 h0;conv=>whnf
 repeat'((first|refine DRAWN.of (id:=2) Z0 mixed Z2t (by kernel_rfl) ?_|refine DRAWN.of (id:=8) Z0 mixed Z2u (by kernel_rfl) ?_|refine ADD.mk (fun _ _=>?_)|refine AD ?_|refine FORK.mk ?_ ?_|refine CALL.value (XE _) rfl rfl ?_|(refine LOOP.once Z0 ?_;conv=>whnf)|(refine CALL.bytes (J5 _ (by simp(disch:=omega) only[YU,Z9,Int.sub_zero]at*;omega)) rfl ?_;conv=>whnf)|(refine NEED.mk (Ug (by simp)) ?_;conv=>whnf)|refine AU ?_|(refine IW ?_ ?_<;>intro h<;>try(exfalso;omega)))<;>conv=>whnf)
 all_goals
  refine FIN.valueK h0 rfl (congrArg (SV.int _) ?_);simp(disch:=omega) only[Z9,Int.sub_zero,List.drop_zero,<-List.map_take,Zcy,List.take_length,List.take_succ_cons,List.take_zero,Uh,decide_eq_true_eq,decide_eq_false_iff_not]at*
  simp_all[Y9,rawM,bn]
theorem Z8X(a b:UInt8):Does prog tab 272 1 [.sl (.loc 0) 0 1 2 none] [] [(0, .rows 1 ([a,b].map Sx.bytesRow))] (ValK 1 (.int .i64 (Y9 [a,b]))):=by
 have ha:=a.toNat_lt;have hb:=b.toNat_lt;refine Does.enter Z0 call272 func272 rfl 45 rfl rfl [.tmp 2] rfl ?_;intro w0 F η0 h0;conv=>whnf
 repeat'((first|refine DRAWN.of (id:=2) Z0 mixed Z2t (by kernel_rfl) ?_|refine DRAWN.of (id:=8) Z0 mixed Z2u (by kernel_rfl) ?_|refine ADD.mk (fun _ _=>?_)|refine AD ?_|refine FORK.mk ?_ ?_|refine CALL.value (XE _) rfl rfl ?_|(refine LOOP.once Z0 ?_;conv=>whnf)|(refine CALL.bytes (J5 _ (by simp(disch:=omega) only[YU,Z9,Int.sub_zero]at*;omega)) rfl ?_;conv=>whnf)|(refine NEED.mk (Ug (by simp)) ?_;conv=>whnf)|refine AU ?_|(refine IW ?_ ?_<;>intro h<;>try(exfalso;omega)))<;>conv=>whnf)
 all_goals
  refine FIN.valueK h0 rfl (congrArg (SV.int _) ?_);simp(disch:=omega) only[Z9,Int.sub_zero,List.drop_zero,<-List.map_take,Zcy,List.take_length,List.take_succ_cons,List.take_zero,Uh,decide_eq_true_eq,decide_eq_false_iff_not]at*
  simp_all[Y9,rawM,bn]
theorem Z8Y(a b c:UInt8):Does prog tab 272 1 [.sl (.loc 0) 0 1 3 none] [] [(0, .rows 1 ([a,b,c].map Sx.bytesRow))] (ValK 1 (.int .i64 (Y9 [a,b,c]))):=by
 have ha:=a.toNat_lt;have hb:=b.toNat_lt;have hc:=c.toNat_lt;refine Does.enter Z0 call272 func272 rfl 45 rfl rfl [.tmp 2] rfl ?_;intro w0 F η0 h0;conv=>whnf
 repeat'((first|refine DRAWN.of (id:=2) Z0 mixed Z2t (by kernel_rfl) ?_|refine DRAWN.of (id:=8) Z0 mixed Z2u (by kernel_rfl) ?_|refine ADD.mk (fun _ _=>?_)|refine AD ?_|refine FORK.mk ?_ ?_|refine CALL.value (XE _) rfl rfl ?_|(refine LOOP.once Z0 ?_;conv=>whnf)|(refine CALL.bytes (J5 _ (by simp(disch:=omega) only[YU,Z9,Int.sub_zero]at*;omega)) rfl ?_;conv=>whnf)|(refine NEED.mk (Ug (by simp)) ?_;conv=>whnf)|refine AU ?_|(refine IW ?_ ?_<;>intro h<;>try(exfalso;omega)))<;>conv=>whnf)
 all_goals
  refine FIN.valueK h0 rfl (congrArg (SV.int _) ?_);simp(disch:=omega) only[Z9,Int.sub_zero,List.drop_zero,<-List.map_take,Zcy,List.take_length,List.take_succ_cons,List.take_zero,Uh,decide_eq_true_eq,decide_eq_false_iff_not]at*
  simp_all[Y9,rawM,bn]
theorem Z8Z(a b c d:UInt8):Does prog tab 272 1 [.sl (.loc 0) 0 1 4 none] [] [(0, .rows 1 ([a,b,c,d].map Sx.bytesRow))] (ValK 1 (.int .i64 (Y9 [a,b,c,d]))):=by
 have ha:=a.toNat_lt;have hb:=b.toNat_lt;have hc:=c.toNat_lt;have hd:=d.toNat_lt;refine Does.enter Z0 call272 func272 rfl 45 rfl rfl [.tmp 2] rfl ?_;intro w0 F η0 h0;conv=>whnf
 repeat'((first|refine DRAWN.of (id:=2) Z0 mixed Z2t (by kernel_rfl) ?_|refine DRAWN.of (id:=8) Z0 mixed Z2u (by kernel_rfl) ?_|refine ADD.mk (fun _ _=>?_)|refine AD ?_|refine FORK.mk ?_ ?_|refine CALL.value (XE _) rfl rfl ?_|(refine LOOP.once Z0 ?_;conv=>whnf)|(refine CALL.bytes (J5 _ (by simp(disch:=omega) only[YU,Z9,Int.sub_zero]at*;omega)) rfl ?_;conv=>whnf)|(refine NEED.mk (Ug (by simp)) ?_;conv=>whnf)|refine AU ?_|(refine IW ?_ ?_<;>intro h<;>try(exfalso;omega)))<;>conv=>whnf)
 all_goals
  refine FIN.valueK h0 rfl (congrArg (SV.int _) ?_);simp(disch:=omega) only[Z9,Int.sub_zero,List.drop_zero,<-List.map_take,Zcy,List.take_length,List.take_succ_cons,List.take_zero,Uh,decide_eq_true_eq,decide_eq_false_iff_not]at*
  simp_all[Y9,rawM,bn]
theorem Zbi(l:List UInt8)(hl:1<=l.length/\l.length<=4):Does prog tab 272 1 [.sl (.loc 0) 0 1 l.length none] [] [(0, .rows 1 (l.map Sx.bytesRow))] (ValK 1 (.int .i64 (Y9 l))):=by
 match l,hl with
 | [a],_=>exact Z8W a
 | [a,b],_=>exact Z8X a b
 | [a,b,c],_=>exact Z8Y a b c
 | [a,b,c,d],_=>exact Z8Z a b c d
 | [],h=>simp at h
 |_::_::_::_::_::_,h=>simp at h
theorem WK(s:List UInt8)(i:Int)(hs:Sm s):Does prog tab 225 0 [.str s, .int .i64 i] [] [] (Val (.tup [.int .i64 (Zb s i).1, .int .i64 (Zb s i).2])):=by
 refine Does.enter Z0 call225 func225 rfl 40 rfl rfl [.tmp 4, .tmp 5] rfl ?_;intro w0 F η0 h0;conv=>whnf
 repeat'((first|(refine LOOP.once Z0 ?_;conv=>whnf)|(refine CALL.look1 _ (Zbi _ (by simp(disch:=omega) only[Z9,List.length_take,List.length_drop];omega)) rfl rfl rfl rfl (XO _) rfl ?_;conv=>whnf)|refine AU ?_|(refine IW ?_ ?_<;>intro h<;>try(exfalso;omega)))<;>conv=>whnf)
 all_goals
  refine FIN.value h0 rfl ?_
  first
   |(unfold Zb;rw[if_pos (by assumption)])
   |(rw[Z7u (by omega)];simp(disch:=omega) only[↓if_pos,↓if_neg,Z9,Int.reduceAdd])
theorem W0(s:List UInt8)(hs:Sm s):Does prog tab 224 0 [.str s] [] [] (Val (.int .i64 (chk s 0))):=by
 refine Does.enter Z0 call224 func224 rfl 22 rfl rfl [.tmp 2] rfl ?_;intro w0 F η0 h0;conv=>whnf
 refine LOOP.go Z0 [0] (X:=Nat) (fun i=>i<=s.length/\chk s i=chk s 0) (fun i=>[(3, .int .i64 (i:Int))]) (fun _=>[]) 0 (fun i=>s.length-i) 0 ⟨by omega,rfl⟩ ?_;conv=>whnf
 refine⟨by exact GOES.cA h0,?_⟩;rintro i ⟨hi,hc⟩;conv=>whnf
 have hn:=YX s i;repeat'((first|refine CALL.value (WK s _ hs) rfl rfl ?_|refine AU ?_|(refine IW ?_ ?_<;>intro h<;>try(exfalso;omega)))<;>conv=>whnf)
 ·have hz:(Zb s i).2=0:=h;refine FIN.value h0 rfl ?_;rw[<-hc,Z5E (by omega) hz]
 ·rename_i h1;refine⟨i+(Zb s i).2.toNat,⟨by omega,?_⟩,by omega,?_⟩
  ·rw[<-hc,<-Z2h (by omega) h]
  ·conv=>whnf
   exact GOES.cA h0
 ·refine FIN.value h0 rfl ?_;rw[<-hc,Z8w (by omega)]
end Go.Proofs.YtlcbipfmodcedaaGreatDoor
