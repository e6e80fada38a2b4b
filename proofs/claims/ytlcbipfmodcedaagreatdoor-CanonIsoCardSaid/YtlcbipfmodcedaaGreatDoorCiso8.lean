/- Part 8: Tab, Drz, ReadG, ReadM, GlobB, Cmp7, Lists7, Rise7, Sets1, Sets2, ListS, Over7, Find7, Fits7, Utf1, Utf04, StrLib, Iri, Iri2, Names1, Part1. Conditions: as each part says. -/
import Derived.Test.YtlcbipfmodcedaaGreatDoorProg
import Derived.Test.YtlcbipfmodcedaaGreatDoorRows
import Derived.Lib.LaidTab
import Derived.LaidSub
import Derived.Lib.Bytealg
import Derived.Test.YtlcbipfmodcedaaGreatDoorCiso5
import Derived.Test.YtlcbipfmodcedaaGreatDoorCiso7
set_option maxRecDepth 100000
namespace Go.Proofs.YtlcbipfmodcedaaGreatDoor
open Go.Sx
open _root_.Go.Proofs.Tryz
def bt{K:Type}(t n:Nat)(a b:K):K:=match Nat.ble t n with|true=>a|false=>b
theorem FV{K:Type}{t n:Nat}{a b:K}(h:Nat.ble t n=false):bt t n a b=b:=by unfold bt;rw[h]
def NH(t:TypeId):Sh:=bt t 353 (bt t 176 (bt t 87 (bt t 43 (bt t 21 (bt t 10 (bt t 4 (bt t 1 (bt t 0 .plain .func) (bt t 2 (.int .i64) (bt t 3 (.int .i64) .bool))) (bt t 7 (bt t 5 (.int .u8) (bt t 6 (.int .u8) (.struct [(0,2),(1,3),(2,4),(3,6)]))) (bt t 8 (.struct [(0,2),(1,3),(2,4),(3,6)]) .str))) (bt t 15 (bt t 12 (bt t 11 .str (.int .u64)) (bt t 13 (.struct [(0,9),(1,12)]) (bt t 14 (.struct [(0,9),(1,12)]) (.ptr 342)))) (bt t 18 (bt t 16 (.ptr 345) (bt t 17 (.ptr 353) (.struct [(0,17)]))) (bt t 19 (.struct [(0,17)]) (bt t 20 .iface (.int .i32)))))) (bt t 32 (bt t 26 (bt t 23 (bt t 22 (.slice 67) .func) (bt t 24 (.slice 31) (bt t 25 (.int .i64) .plain))) (bt t 29 (bt t 27 .func (bt t 28 .plain .func)) (bt t 30 .func (bt t 31 (.slice 9) .func)))) (bt t 37 (bt t 34 (bt t 33 (.slice 39) .plain) (bt t 35 .func (bt t 36 .plain .func))) (bt t 40 (bt t 38 (.struct [(0,9),(1,9)]) (bt t 39 (.struct [(0,9),(1,9)]) .func)) (bt t 41 .func (bt t 42 .func .plain)))))) (bt t 65 (bt t 54 (bt t 48 (bt t 45 .func (bt t 46 .func (bt t 47 .func .plain))) (bt t 51 .func (bt t 52 (.slice 5) (bt t 53 .plain .func)))) (bt t 59 (bt t 56 (bt t 55 .plain .func) (bt t 57 (.array 32 5) (bt t 58 .plain .func))) (bt t 62 (bt t 60 .func (bt t 61 .func .plain)) (bt t 63 .func (.struct [(0,3),(1,9),(2,9),(3,9)]))))) (bt t 76 (bt t 70 (bt t 67 (.struct [(0,65),(4,65),(8,65),(12,65)]) (bt t 68 .func (bt t 69 (.ptr 77) .plain))) (bt t 73 (bt t 71 .func (bt t 72 (.slice 3) .func)) (bt t 74 (.map 9 3) (bt t 75 (.slice 72) (.struct [(0,22),(1,31),(2,74),(3,75)]))))) (bt t 81 (bt t 78 (bt t 77 (.struct [(0,22),(1,31),(2,74),(3,75)]) (.map 3 31)) (bt t 79 .func (bt t 80 (.ptr 83) .func))) (bt t 84 (bt t 82 (.struct [(0,22),(1,31),(2,74),(3,75)]) (bt t 83 (.struct [(0,22),(1,31),(2,74),(3,75)]) .func)) (bt t 85 .func (bt t 86 .func (.ptr 3)))))))) (bt t 131 (bt t 109 (bt t 98 (bt t 92 (bt t 89 .func (bt t 90 .func (bt t 91 (.ptr 93) (.struct [(0,80),(1,3),(2,4),(3,4),(4,22),(5,33)])))) (bt t 95 (bt t 93 (.struct [(0,80),(1,3),(2,4),(3,4),(4,22),(5,33)]) .func) .func)) (bt t 103 (bt t 100 (bt t 99 (.ptr 65) (.array 4 99)) (bt t 101 .func (bt t 102 (.ptr 67) .plain))) (bt t 106 (bt t 104 .func (bt t 105 .func (.array 4 65))) (bt t 107 .func (bt t 108 .func (.ptr 160)))))) (bt t 120 (bt t 114 (bt t 111 (bt t 110 .func .plain) .func) (bt t 117 (bt t 115 .func (bt t 116 (.ptr 121) .func)) (bt t 118 (.slice 200) (bt t 119 (.slice 22) (.struct [(0,31),(1,72),(2,118),(3,119),(4,3)]))))) (bt t 125 (bt t 122 (bt t 121 (.struct [(0,31),(1,72),(2,118),(3,119),(4,3)]) (.ptr 125)) (bt t 123 (.map 106 3) (.struct [(0,116),(1,3),(2,123),(3,72),(4,72),(5,3)]))) (bt t 128 (bt t 126 .func (bt t 127 .plain .func)) (bt t 129 .func (bt t 130 .plain .func)))))) (bt t 153 (bt t 142 (bt t 136 (bt t 133 (bt t 132 (.slice 135) .func) (bt t 134 (.struct [(0,3),(1,3),(2,22)]) (bt t 135 (.struct [(0,3),(1,3),(2,22)]) .func))) (bt t 139 .func (bt t 140 .func (bt t 141 .plain .func)))) (bt t 147 (bt t 144 (bt t 143 (.slice 65) .func) .func) .func)) (bt t 164 (bt t 158 (bt t 155 .func (bt t 156 .func (bt t 157 (.int .u32) (.array 8 157)))) (bt t 161 (bt t 159 (.struct [(0,158),(8,52),(9,3)]) (bt t 160 (.struct [(0,158),(8,52),(9,3)]) .func)) (bt t 162 (.int .u64) .func))) (bt t 170 .func (bt t 173 (bt t 171 .func (bt t 172 .func (.map 3 3))) (bt t 174 (.map 3 72) .func))))))) (bt t 264 (bt t 220 (bt t 198 (bt t 187 (bt t 181 (bt t 178 (bt t 177 (.int .u64) .func) .func) (bt t 184 (bt t 182 .func (bt t 183 .func (.ptr 186))) (bt t 185 (.struct [(0,184),(1,52)]) (bt t 186 (.struct [(0,184),(1,52)]) .func)))) (bt t 192 (bt t 189 .iface (bt t 190 .plain .func)) (bt t 195 (bt t 193 .func (bt t 194 (.array 64 157) .func)) (bt t 196 (.array 4 3) (.struct [(0,106),(16,196)]))))) (bt t 209 (bt t 203 (bt t 200 (bt t 199 .func (.slice 198)) .func) (bt t 206 .func (bt t 207 (.int .i64) (bt t 208 .plain .func)))) (bt t 214 .func (bt t 217 (bt t 215 (.array 24 5) (bt t 216 .func .plain)) .func)))) (bt t 242 (bt t 231 (bt t 225 (bt t 222 (bt t 221 .func (.struct [(0,9),(1,9),(2,9),(3,9),(4,31),(5,31),(6,9)])) (bt t 223 (.struct [(0,9),(1,9),(2,9),(3,9),(4,31),(5,31),(6,9)]) (bt t 224 .plain .func))) .func) (bt t 236 (bt t 233 (bt t 232 .func .plain) (bt t 234 .func (bt t 235 (.ptr 5) (.struct [(0,3),(1,3)])))) (bt t 239 (bt t 237 (.struct [(0,3),(1,3)]) (bt t 238 .plain .func)) (bt t 240 .func (bt t 241 (.array 3 9) .func))))) (bt t 253 (bt t 247 .func (bt t 250 (bt t 248 .func (bt t 249 .func (.int .u64))) .func)) (bt t 258 (bt t 255 .func (bt t 256 .func (bt t 257 (.array 20 162) (.array 65 5)))) (bt t 261 .func (bt t 262 .plain (bt t 263 .func (.ptr 267)))))))) (bt t 308 (bt t 286 (bt t 275 (bt t 269 (bt t 266 (bt t 265 .func (.struct [(0,31),(1,223)])) (bt t 267 (.struct [(0,31),(1,223)]) .func)) (bt t 272 (bt t 270 .plain (bt t 271 .func (.slice 25))) .func)) (bt t 280 (bt t 277 (bt t 276 .func .plain) .func) .func)) (bt t 297 (bt t 291 (bt t 288 (bt t 287 .func .plain) (bt t 289 .func (bt t 290 .plain .func))) (bt t 294 (bt t 292 (.ptr 250) .func) (bt t 295 .func (bt t 296 .plain .func)))) (bt t 302 .func (bt t 305 (bt t 303 (.ptr 305) (.struct [(0,3),(1,189)])) .func)))) (bt t 330 (bt t 319 (bt t 313 .func (bt t 316 (bt t 314 .func (bt t 315 (.ptr 318) .func)) (bt t 317 (.struct [(0,31)]) (bt t 318 (.struct [(0,31)]) .func)))) (bt t 324 (bt t 321 (bt t 320 (.ptr 223) .func) (bt t 322 .func (bt t 323 (.array 64 5) .func))) (bt t 327 (bt t 325 (.array 5 21) .func) (bt t 328 (.array 5 3) (bt t 329 .func (.array 28 3)))))) (bt t 341 (bt t 335 (bt t 332 .func (bt t 333 (.array 24 21) (bt t 334 .func (.array 256 5)))) (bt t 338 (bt t 336 (.struct [(0,5),(1,5)]) (bt t 337 (.struct [(0,5),(1,5)]) (.array 16 337))) (bt t 339 .plain (bt t 340 .func (.struct [(0,17),(1,17),(2,17),(3,9)]))))) (bt t 347 (bt t 344 (bt t 342 (.struct [(0,17),(1,17),(2,17),(3,9)]) (bt t 343 (.array 0 16) (.struct [(0,343)]))) (bt t 345 (.struct [(0,343)]) (bt t 346 .func (.int .u8)))) (bt t 350 (bt t 348 (.int .u8) (bt t 349 .func (.int .i32))) (bt t 351 (.int .i32) (.struct [(0,12),(1,12),(2,157),(3,347),(4,5),(5,5),(6,348),(7,349),(8,235),(9,350),(10,351)]))))))))) .other
def Zi4(t:TypeId):Nat:=bt t 353 (bt t 176 (bt t 87 (bt t 43 (bt t 21 (bt t 10 (bt t 4 1 (bt t 7 (bt t 5 1 (bt t 6 1 4)) (bt t 8 4 1))) (bt t 15 (bt t 12 1 (bt t 13 2 (bt t 14 2 1))) 1)) (bt t 32 1 (bt t 37 1 (bt t 40 (bt t 38 2 (bt t 39 2 1)) 1)))) (bt t 65 (bt t 54 1 (bt t 59 (bt t 56 1 (bt t 57 32 1)) (bt t 62 1 (bt t 63 1 4)))) (bt t 76 (bt t 70 (bt t 67 16 1) (bt t 73 1 (bt t 74 1 (bt t 75 1 4)))) (bt t 81 (bt t 78 (bt t 77 4 1) 1) (bt t 84 (bt t 82 4 (bt t 83 4 1)) 1))))) (bt t 131 (bt t 109 (bt t 98 (bt t 92 (bt t 89 1 (bt t 90 1 (bt t 91 1 6))) (bt t 95 (bt t 93 6 1) 1)) (bt t 103 (bt t 100 (bt t 99 1 4) 1) (bt t 106 (bt t 104 1 (bt t 105 1 16)) 1))) (bt t 120 (bt t 114 1 (bt t 117 1 (bt t 118 1 (bt t 119 1 5)))) (bt t 125 (bt t 122 (bt t 121 5 1) (bt t 123 1 6)) 1))) (bt t 153 (bt t 142 (bt t 136 (bt t 133 1 (bt t 134 3 (bt t 135 3 1))) 1) 1) (bt t 164 (bt t 158 (bt t 155 1 (bt t 156 1 (bt t 157 1 8))) (bt t 161 (bt t 159 10 (bt t 160 10 1)) 1)) 1)))) (bt t 264 (bt t 220 (bt t 198 (bt t 187 (bt t 181 1 (bt t 184 1 (bt t 185 2 (bt t 186 2 1)))) (bt t 192 1 (bt t 195 (bt t 193 1 (bt t 194 64 1)) (bt t 196 4 20)))) (bt t 209 1 (bt t 214 1 (bt t 217 (bt t 215 24 1) 1)))) (bt t 242 (bt t 231 (bt t 225 (bt t 222 (bt t 221 1 7) (bt t 223 7 1)) 1) (bt t 236 (bt t 233 1 (bt t 234 1 (bt t 235 1 2))) (bt t 239 (bt t 237 2 1) (bt t 240 1 (bt t 241 3 1))))) (bt t 253 1 (bt t 258 (bt t 255 1 (bt t 256 1 (bt t 257 20 65))) 1)))) (bt t 308 (bt t 286 (bt t 275 (bt t 269 (bt t 266 (bt t 265 1 8) (bt t 267 8 1)) 1) 1) (bt t 297 1 (bt t 302 1 (bt t 305 (bt t 303 1 2) 1)))) (bt t 330 (bt t 319 1 (bt t 324 (bt t 321 1 (bt t 322 1 (bt t 323 64 1))) (bt t 327 (bt t 325 5 1) (bt t 328 5 (bt t 329 1 28))))) (bt t 341 (bt t 335 (bt t 332 1 (bt t 333 24 (bt t 334 1 256))) (bt t 338 (bt t 336 2 (bt t 337 2 32)) (bt t 339 1 (bt t 340 1 4)))) (bt t 347 (bt t 344 (bt t 342 4 0) (bt t 345 0 1)) (bt t 350 1 (bt t 351 1 11)))))))) 0
def NI(t:TypeId):List SV:=bt t 353 (bt t 176 (bt t 87 (bt t 43 (bt t 21 (bt t 10 (bt t 4 (bt t 1 (bt t 0 [] [.val .nilFunc]) (bt t 2 [.int .i64 (0)] (bt t 3 [.int .i64 (0)] [.bool false]))) (bt t 7 (bt t 5 [.int .u8 (0)] (bt t 6 [.int .u8 (0)] [.int .i64 (0), .int .i64 (0), .bool false, .int .u8 (0)])) (bt t 8 [.int .i64 (0), .int .i64 (0), .bool false, .int .u8 (0)] ([.str []])))) (bt t 15 (bt t 12 (bt t 11 [.str []] [.int .u64 (0)]) (bt t 13 [.str [], .int .u64 (0)] (bt t 14 [.str [], .int .u64 (0)] [.val (.pointer none)]))) (bt t 18 [.val (.pointer none)] (bt t 19 [.val (.pointer none)] (bt t 20 [.val .nilIface] [.int .i32 (0)]))))) (bt t 32 (bt t 26 (bt t 23 (bt t 22 [.val (.slice none 0 0)] [.val .nilFunc]) (bt t 24 [.val (.slice none 0 0)] (bt t 25 [.int .i64 (0)] []))) (bt t 29 (bt t 27 [.val .nilFunc] (bt t 28 [] [.val .nilFunc])) (bt t 30 [.val .nilFunc] (bt t 31 [.val (.slice none 0 0)] [.val .nilFunc])))) (bt t 37 (bt t 34 (bt t 33 [.val (.slice none 0 0)] []) (bt t 35 [.val .nilFunc] (bt t 36 [] [.val .nilFunc]))) (bt t 40 (bt t 38 [.str [], .str []] (bt t 39 [.str [], .str []] [.val .nilFunc])) (bt t 41 [.val .nilFunc] (bt t 42 [.val .nilFunc] [])))))) (bt t 65 (bt t 54 (bt t 48 (bt t 45 [.val .nilFunc] (bt t 46 [.val .nilFunc] (bt t 47 [.val .nilFunc] []))) (bt t 51 [.val .nilFunc] (bt t 52 [.val (.slice none 0 0)] (bt t 53 [] [.val .nilFunc])))) (bt t 59 (bt t 56 (bt t 55 [] [.val .nilFunc]) (bt t 57 [.int .u8 (0), .int .u8 (0), .int .u8 (0), .int .u8 (0), .int .u8 (0), .int .u8 (0), .int .u8 (0), .int .u8 (0), .int .u8 (0), .int .u8 (0), .int .u8 (0), .int .u8 (0), .int .u8 (0), .int .u8 (0), .int .u8 (0), .int .u8 (0), .int .u8 (0), .int .u8 (0), .int .u8 (0), .int .u8 (0), .int .u8 (0), .int .u8 (0), .int .u8 (0), .int .u8 (0), .int .u8 (0), .int .u8 (0), .int .u8 (0), .int .u8 (0), .int .u8 (0), .int .u8 (0), .int .u8 (0), .int .u8 (0)] (bt t 58 [] [.val .nilFunc]))) (bt t 62 (bt t 60 [.val .nilFunc] (bt t 61 [.val .nilFunc] [])) (bt t 63 [.val .nilFunc] ([.int .i64 (0), .str [], .str [], .str []]))))) (bt t 76 (bt t 70 (bt t 67 ([.int .i64 (0), .str [], .str [], .str [], .int .i64 (0), .str [], .str [], .str [], .int .i64 (0), .str [], .str [], .str [], .int .i64 (0), .str [], .str [], .str []]) (bt t 68 [.val .nilFunc] (bt t 69 [.val (.pointer none)] []))) (bt t 73 (bt t 71 [.val .nilFunc] (bt t 72 [.val (.slice none 0 0)] [.val .nilFunc])) (bt t 74 [.val (.map none)] (bt t 75 [.val (.slice none 0 0)] [.val (.slice none 0 0), .val (.slice none 0 0), .val (.map none), .val (.slice none 0 0)])))) (bt t 81 (bt t 78 (bt t 77 [.val (.slice none 0 0), .val (.slice none 0 0), .val (.map none), .val (.slice none 0 0)] [.val (.map none)]) (bt t 79 [.val .nilFunc] (bt t 80 [.val (.pointer none)] [.val .nilFunc]))) (bt t 84 (bt t 82 [.val (.slice none 0 0), .val (.slice none 0 0), .val (.map none), .val (.slice none 0 0)] (bt t 83 [.val (.slice none 0 0), .val (.slice none 0 0), .val (.map none), .val (.slice none 0 0)] [.val .nilFunc])) (bt t 85 [.val .nilFunc] (bt t 86 [.val .nilFunc] [.val (.pointer none)]))))))) (bt t 131 (bt t 109 (bt t 98 (bt t 92 (bt t 89 [.val .nilFunc] (bt t 90 [.val .nilFunc] (bt t 91 [.val (.pointer none)] [.val (.pointer none), .int .i64 (0), .bool false, .bool false, .val (.slice none 0 0), .val (.slice none 0 0)]))) (bt t 95 (bt t 93 [.val (.pointer none), .int .i64 (0), .bool false, .bool false, .val (.slice none 0 0), .val (.slice none 0 0)] [.val .nilFunc]) [.val .nilFunc])) (bt t 103 (bt t 100 (bt t 99 [.val (.pointer none)] [.val (.pointer none), .val (.pointer none), .val (.pointer none), .val (.pointer none)]) (bt t 101 [.val .nilFunc] (bt t 102 [.val (.pointer none)] []))) (bt t 106 (bt t 104 [.val .nilFunc] (bt t 105 [.val .nilFunc] [.int .i64 (0), .str [], .str [], .str [], .int .i64 (0), .str [], .str [], .str [], .int .i64 (0), .str [], .str [], .str [], .int .i64 (0), .str [], .str [], .str []])) (bt t 107 [.val .nilFunc] (bt t 108 [.val .nilFunc] [.val (.pointer none)]))))) (bt t 120 (bt t 114 (bt t 111 (bt t 110 [.val .nilFunc] []) [.val .nilFunc]) (bt t 117 (bt t 115 [.val .nilFunc] (bt t 116 [.val (.pointer none)] [.val .nilFunc])) (bt t 118 [.val (.slice none 0 0)] (bt t 119 [.val (.slice none 0 0)] [.val (.slice none 0 0), .val (.slice none 0 0), .val (.slice none 0 0), .val (.slice none 0 0), .int .i64 (0)])))) (bt t 125 (bt t 122 (bt t 121 [.val (.slice none 0 0), .val (.slice none 0 0), .val (.slice none 0 0), .val (.slice none 0 0), .int .i64 (0)] [.val (.pointer none)]) (bt t 123 [.val (.map none)] [.val (.pointer none), .int .i64 (0), .val (.map none), .val (.slice none 0 0), .val (.slice none 0 0), .int .i64 (0)])) (bt t 128 (bt t 126 [.val .nilFunc] (bt t 127 [] [.val .nilFunc])) (bt t 129 [.val .nilFunc] (bt t 130 [] [.val .nilFunc])))))) (bt t 153 (bt t 142 (bt t 136 (bt t 133 (bt t 132 [.val (.slice none 0 0)] [.val .nilFunc]) (bt t 134 [.int .i64 (0), .int .i64 (0), .val (.slice none 0 0)] (bt t 135 [.int .i64 (0), .int .i64 (0), .val (.slice none 0 0)] [.val .nilFunc]))) (bt t 139 [.val .nilFunc] (bt t 140 [.val .nilFunc] (bt t 141 [] [.val .nilFunc])))) (bt t 147 (bt t 144 (bt t 143 [.val (.slice none 0 0)] [.val .nilFunc]) [.val .nilFunc]) [.val .nilFunc])) (bt t 164 (bt t 158 (bt t 155 [.val .nilFunc] (bt t 156 [.val .nilFunc] (bt t 157 [.int .u32 (0)] [.int .u32 (0), .int .u32 (0), .int .u32 (0), .int .u32 (0), .int .u32 (0), .int .u32 (0), .int .u32 (0), .int .u32 (0)]))) (bt t 161 (bt t 159 [.int .u32 (0), .int .u32 (0), .int .u32 (0), .int .u32 (0), .int .u32 (0), .int .u32 (0), .int .u32 (0), .int .u32 (0), .val (.slice none 0 0), .int .i64 (0)] (bt t 160 [.int .u32 (0), .int .u32 (0), .int .u32 (0), .int .u32 (0), .int .u32 (0), .int .u32 (0), .int .u32 (0), .int .u32 (0), .val (.slice none 0 0), .int .i64 (0)] [.val .nilFunc])) (bt t 162 [.int .u64 (0)] [.val .nilFunc]))) (bt t 170 [.val .nilFunc] (bt t 173 (bt t 171 [.val .nilFunc] (bt t 172 [.val .nilFunc] [.val (.map none)])) (bt t 174 [.val (.map none)] [.val .nilFunc]))))))) (bt t 264 (bt t 220 (bt t 198 (bt t 187 (bt t 181 (bt t 178 (bt t 177 [.int .u64 (0)] [.val .nilFunc]) [.val .nilFunc]) (bt t 184 (bt t 182 [.val .nilFunc] (bt t 183 [.val .nilFunc] [.val (.pointer none)])) (bt t 185 [.val (.pointer none), .val (.slice none 0 0)] (bt t 186 [.val (.pointer none), .val (.slice none 0 0)] [.val .nilFunc])))) (bt t 192 (bt t 189 [.val .nilIface] (bt t 190 [] [.val .nilFunc])) (bt t 195 (bt t 193 [.val .nilFunc] (bt t 194 [.int .u32 (0), .int .u32 (0), .int .u32 (0), .int .u32 (0), .int .u32 (0), .int .u32 (0), .int .u32 (0), .int .u32 (0), .int .u32 (0), .int .u32 (0), .int .u32 (0), .int .u32 (0), .int .u32 (0), .int .u32 (0), .int .u32 (0), .int .u32 (0), .int .u32 (0), .int .u32 (0), .int .u32 (0), .int .u32 (0), .int .u32 (0), .int .u32 (0), .int .u32 (0), .int .u32 (0), .int .u32 (0), .int .u32 (0), .int .u32 (0), .int .u32 (0), .int .u32 (0), .int .u32 (0), .int .u32 (0), .int .u32 (0), .int .u32 (0), .int .u32 (0), .int .u32 (0), .int .u32 (0), .int .u32 (0), .int .u32 (0), .int .u32 (0), .int .u32 (0), .int .u32 (0), .int .u32 (0), .int .u32 (0), .int .u32 (0), .int .u32 (0), .int .u32 (0), .int .u32 (0), .int .u32 (0), .int .u32 (0), .int .u32 (0), .int .u32 (0), .int .u32 (0), .int .u32 (0), .int .u32 (0), .int .u32 (0), .int .u32 (0), .int .u32 (0), .int .u32 (0), .int .u32 (0), .int .u32 (0), .int .u32 (0), .int .u32 (0), .int .u32 (0), .int .u32 (0)] [.val .nilFunc])) (bt t 196 [.int .i64 (0), .int .i64 (0), .int .i64 (0), .int .i64 (0)] ([.int .i64 (0), .str [], .str [], .str [], .int .i64 (0), .str [], .str [], .str [], .int .i64 (0), .str [], .str [], .str [], .int .i64 (0), .str [], .str [], .str [], .int .i64 (0), .int .i64 (0), .int .i64 (0), .int .i64 (0)]))))) (bt t 209 (bt t 203 (bt t 200 (bt t 199 [.val .nilFunc] [.val (.slice none 0 0)]) [.val .nilFunc]) (bt t 206 [.val .nilFunc] (bt t 207 [.int .i64 (0)] (bt t 208 [] [.val .nilFunc])))) (bt t 214 [.val .nilFunc] (bt t 217 (bt t 215 [.int .u8 (0), .int .u8 (0), .int .u8 (0), .int .u8 (0), .int .u8 (0), .int .u8 (0), .int .u8 (0), .int .u8 (0), .int .u8 (0), .int .u8 (0), .int .u8 (0), .int .u8 (0), .int .u8 (0), .int .u8 (0), .int .u8 (0), .int .u8 (0), .int .u8 (0), .int .u8 (0), .int .u8 (0), .int .u8 (0), .int .u8 (0), .int .u8 (0), .int .u8 (0), .int .u8 (0)] (bt t 216 [.val .nilFunc] [])) [.val .nilFunc])))) (bt t 242 (bt t 231 (bt t 225 (bt t 222 (bt t 221 [.val .nilFunc] [.str [], .str [], .str [], .str [], .val (.slice none 0 0), .val (.slice none 0 0), .str []]) (bt t 223 [.str [], .str [], .str [], .str [], .val (.slice none 0 0), .val (.slice none 0 0), .str []] (bt t 224 [] [.val .nilFunc]))) [.val .nilFunc]) (bt t 236 (bt t 233 (bt t 232 [.val .nilFunc] []) (bt t 234 [.val .nilFunc] (bt t 235 [.val (.pointer none)] [.int .i64 (0), .int .i64 (0)]))) (bt t 239 (bt t 237 [.int .i64 (0), .int .i64 (0)] (bt t 238 [] [.val .nilFunc])) (bt t 240 [.val .nilFunc] (bt t 241 [.str [], .str [], .str []] [.val .nilFunc]))))) (bt t 253 (bt t 247 [.val .nilFunc] (bt t 250 (bt t 248 [.val .nilFunc] (bt t 249 [.val .nilFunc] [.int .u64 (0)])) [.val .nilFunc])) (bt t 258 (bt t 255 [.val .nilFunc] (bt t 256 [.val .nilFunc] (bt t 257 [.int .u64 (0), .int .u64 (0), .int .u64 (0), .int .u64 (0), .int .u64 (0), .int .u64 (0), .int .u64 (0), .int .u64 (0), .int .u64 (0), .int .u64 (0), .int .u64 (0), .int .u64 (0), .int .u64 (0), .int .u64 (0), .int .u64 (0), .int .u64 (0), .int .u64 (0), .int .u64 (0), .int .u64 (0), .int .u64 (0)] [.int .u8 (0), .int .u8 (0), .int .u8 (0), .int .u8 (0), .int .u8 (0), .int .u8 (0), .int .u8 (0), .int .u8 (0), .int .u8 (0), .int .u8 (0), .int .u8 (0), .int .u8 (0), .int .u8 (0), .int .u8 (0), .int .u8 (0), .int .u8 (0), .int .u8 (0), .int .u8 (0), .int .u8 (0), .int .u8 (0), .int .u8 (0), .int .u8 (0), .int .u8 (0), .int .u8 (0), .int .u8 (0), .int .u8 (0), .int .u8 (0), .int .u8 (0), .int .u8 (0), .int .u8 (0), .int .u8 (0), .int .u8 (0), .int .u8 (0), .int .u8 (0), .int .u8 (0), .int .u8 (0), .int .u8 (0), .int .u8 (0), .int .u8 (0), .int .u8 (0), .int .u8 (0), .int .u8 (0), .int .u8 (0), .int .u8 (0), .int .u8 (0), .int .u8 (0), .int .u8 (0), .int .u8 (0), .int .u8 (0), .int .u8 (0), .int .u8 (0), .int .u8 (0), .int .u8 (0), .int .u8 (0), .int .u8 (0), .int .u8 (0), .int .u8 (0), .int .u8 (0), .int .u8 (0), .int .u8 (0), .int .u8 (0), .int .u8 (0), .int .u8 (0), .int .u8 (0), .int .u8 (0)]))) (bt t 261 [.val .nilFunc] (bt t 262 [] (bt t 263 [.val .nilFunc] [.val (.pointer none)]))))))) (bt t 308 (bt t 286 (bt t 275 (bt t 269 (bt t 266 (bt t 265 [.val .nilFunc] [.val (.slice none 0 0), .str [], .str [], .str [], .str [], .val (.slice none 0 0), .val (.slice none 0 0), .str []]) (bt t 267 [.val (.slice none 0 0), .str [], .str [], .str [], .str [], .val (.slice none 0 0), .val (.slice none 0 0), .str []] [.val .nilFunc])) (bt t 272 (bt t 270 [] (bt t 271 [.val .nilFunc] [.val (.slice none 0 0)])) [.val .nilFunc])) (bt t 280 (bt t 277 (bt t 276 [.val .nilFunc] [.val (.pointer none)]) [.val .nilFunc]) [.val .nilFunc])) (bt t 297 (bt t 291 (bt t 288 (bt t 287 [.val .nilFunc] []) (bt t 289 [.val .nilFunc] (bt t 290 [] [.val .nilFunc]))) (bt t 294 (bt t 292 [.val (.pointer none)] [.val .nilFunc]) (bt t 295 [.val .nilFunc] (bt t 296 [] [.val .nilFunc])))) (bt t 302 [.val .nilFunc] (bt t 305 (bt t 303 [.val (.pointer none)] [.int .i64 (0), .val .nilIface]) [.val .nilFunc])))) (bt t 330 (bt t 319 (bt t 313 [.val .nilFunc] (bt t 316 (bt t 314 [.val .nilFunc] (bt t 315 [.val (.pointer none)] [.val .nilFunc])) (bt t 317 [.val (.slice none 0 0)] (bt t 318 [.val (.slice none 0 0)] [.val .nilFunc])))) (bt t 324 (bt t 321 (bt t 320 [.val (.pointer none)] [.val .nilFunc]) (bt t 322 [.val .nilFunc] (bt t 323 [.int .u8 (0), .int .u8 (0), .int .u8 (0), .int .u8 (0), .int .u8 (0), .int .u8 (0), .int .u8 (0), .int .u8 (0), .int .u8 (0), .int .u8 (0), .int .u8 (0), .int .u8 (0), .int .u8 (0), .int .u8 (0), .int .u8 (0), .int .u8 (0), .int .u8 (0), .int .u8 (0), .int .u8 (0), .int .u8 (0), .int .u8 (0), .int .u8 (0), .int .u8 (0), .int .u8 (0), .int .u8 (0), .int .u8 (0), .int .u8 (0), .int .u8 (0), .int .u8 (0), .int .u8 (0), .int .u8 (0), .int .u8 (0), .int .u8 (0), .int .u8 (0), .int .u8 (0), .int .u8 (0), .int .u8 (0), .int .u8 (0), .int .u8 (0), .int .u8 (0), .int .u8 (0), .int .u8 (0), .int .u8 (0), .int .u8 (0), .int .u8 (0), .int .u8 (0), .int .u8 (0), .int .u8 (0), .int .u8 (0), .int .u8 (0), .int .u8 (0), .int .u8 (0), .int .u8 (0), .int .u8 (0), .int .u8 (0), .int .u8 (0), .int .u8 (0), .int .u8 (0), .int .u8 (0), .int .u8 (0), .int .u8 (0), .int .u8 (0), .int .u8 (0), .int .u8 (0)] [.val .nilFunc]))) (bt t 327 (bt t 325 [.int .i32 (0), .int .i32 (0), .int .i32 (0), .int .i32 (0), .int .i32 (0)] [.val .nilFunc]) (bt t 328 [.int .i64 (0), .int .i64 (0), .int .i64 (0), .int .i64 (0), .int .i64 (0)] (bt t 329 [.val .nilFunc] [.int .i64 (0), .int .i64 (0), .int .i64 (0), .int .i64 (0), .int .i64 (0), .int .i64 (0), .int .i64 (0), .int .i64 (0), .int .i64 (0), .int .i64 (0), .int .i64 (0), .int .i64 (0), .int .i64 (0), .int .i64 (0), .int .i64 (0), .int .i64 (0), .int .i64 (0), .int .i64 (0), .int .i64 (0), .int .i64 (0), .int .i64 (0), .int .i64 (0), .int .i64 (0), .int .i64 (0), .int .i64 (0), .int .i64 (0), .int .i64 (0), .int .i64 (0)]))))) (bt t 341 (bt t 335 (bt t 332 [.val .nilFunc] (bt t 333 [.int .i32 (0), .int .i32 (0), .int .i32 (0), .int .i32 (0), .int .i32 (0), .int .i32 (0), .int .i32 (0), .int .i32 (0), .int .i32 (0), .int .i32 (0), .int .i32 (0), .int .i32 (0), .int .i32 (0), .int .i32 (0), .int .i32 (0), .int .i32 (0), .int .i32 (0), .int .i32 (0), .int .i32 (0), .int .i32 (0), .int .i32 (0), .int .i32 (0), .int .i32 (0), .int .i32 (0)] (bt t 334 [.val .nilFunc] []))) (bt t 338 (bt t 336 [.int .u8 (0), .int .u8 (0)] (bt t 337 [.int .u8 (0), .int .u8 (0)] [.int .u8 (0), .int .u8 (0), .int .u8 (0), .int .u8 (0), .int .u8 (0), .int .u8 (0), .int .u8 (0), .int .u8 (0), .int .u8 (0), .int .u8 (0), .int .u8 (0), .int .u8 (0), .int .u8 (0), .int .u8 (0), .int .u8 (0), .int .u8 (0), .int .u8 (0), .int .u8 (0), .int .u8 (0), .int .u8 (0), .int .u8 (0), .int .u8 (0), .int .u8 (0), .int .u8 (0), .int .u8 (0), .int .u8 (0), .int .u8 (0), .int .u8 (0), .int .u8 (0), .int .u8 (0), .int .u8 (0), .int .u8 (0)])) (bt t 339 [] (bt t 340 [.val .nilFunc] [.val (.pointer none), .val (.pointer none), .val (.pointer none), .str []])))) (bt t 347 (bt t 344 (bt t 342 [.val (.pointer none), .val (.pointer none), .val (.pointer none), .str []] []) (bt t 345 [] (bt t 346 [.val .nilFunc] [.int .u8 (0)]))) (bt t 350 (bt t 348 [.int .u8 (0)] (bt t 349 [.val .nilFunc] [.int .i32 (0)])) (bt t 351 [.int .i32 (0)] [.int .u64 (0), .int .u64 (0), .int .u32 (0), .int .u8 (0), .int .u8 (0), .int .u8 (0), .int .u8 (0), .val .nilFunc, .val (.pointer none), .int .i32 (0), .int .i32 (0)])))))))) []
def ZfB(t:TypeId):Nat:=bt t 353 (bt t 176 (bt t 87 (bt t 43 (bt t 21 (bt t 10 (bt t 4 (bt t 1 (bt t 0 0 8) (bt t 2 8 (bt t 3 8 1))) (bt t 7 (bt t 5 1 (bt t 6 1 24)) (bt t 8 24 16))) (bt t 15 (bt t 12 (bt t 11 16 8) (bt t 13 24 (bt t 14 24 8))) (bt t 18 8 (bt t 19 8 (bt t 20 16 4))))) (bt t 32 (bt t 26 (bt t 23 (bt t 22 24 8) (bt t 24 24 (bt t 25 8 0))) (bt t 29 (bt t 27 8 (bt t 28 0 8)) (bt t 30 8 (bt t 31 24 8)))) (bt t 37 (bt t 34 (bt t 33 24 0) (bt t 35 8 (bt t 36 0 8))) (bt t 40 (bt t 38 32 (bt t 39 32 8)) (bt t 41 8 (bt t 42 8 0)))))) (bt t 65 (bt t 54 (bt t 48 (bt t 45 8 (bt t 46 8 (bt t 47 8 0))) (bt t 51 8 (bt t 52 24 (bt t 53 0 8)))) (bt t 59 (bt t 56 (bt t 55 0 8) (bt t 57 32 (bt t 58 0 8))) (bt t 62 (bt t 60 8 (bt t 61 8 0)) (bt t 63 8 56)))) (bt t 76 (bt t 70 (bt t 67 224 (bt t 68 8 (bt t 69 8 0))) (bt t 73 (bt t 71 8 (bt t 72 24 8)) (bt t 74 8 (bt t 75 24 80)))) (bt t 81 (bt t 78 (bt t 77 80 8) 8) (bt t 84 (bt t 82 80 (bt t 83 80 8)) 8))))) (bt t 131 (bt t 109 (bt t 98 (bt t 92 (bt t 89 8 (bt t 90 8 (bt t 91 8 72))) (bt t 95 (bt t 93 72 8) 8)) (bt t 103 (bt t 100 (bt t 99 8 32) (bt t 101 8 (bt t 102 8 0))) (bt t 106 (bt t 104 8 (bt t 105 8 224)) 8))) (bt t 120 (bt t 114 (bt t 111 (bt t 110 8 0) 8) (bt t 117 8 (bt t 118 24 (bt t 119 24 104)))) (bt t 125 (bt t 122 (bt t 121 104 8) (bt t 123 8 80)) (bt t 128 (bt t 126 8 (bt t 127 0 8)) (bt t 129 8 (bt t 130 0 8)))))) (bt t 153 (bt t 142 (bt t 136 (bt t 133 (bt t 132 24 8) (bt t 134 40 (bt t 135 40 8))) (bt t 139 8 (bt t 140 8 (bt t 141 0 8)))) (bt t 147 (bt t 144 (bt t 143 24 8) 8) 8)) (bt t 164 (bt t 158 (bt t 155 8 (bt t 156 8 (bt t 157 4 32))) (bt t 161 (bt t 159 64 (bt t 160 64 8)) 8)) 8)))) (bt t 264 (bt t 220 (bt t 198 (bt t 187 (bt t 181 8 (bt t 184 8 (bt t 185 32 (bt t 186 32 8)))) (bt t 192 (bt t 189 16 (bt t 190 0 8)) (bt t 195 (bt t 193 8 (bt t 194 256 8)) (bt t 196 32 256)))) (bt t 209 (bt t 203 (bt t 200 (bt t 199 8 24) 8) (bt t 206 8 (bt t 207 8 (bt t 208 0 8)))) (bt t 214 8 (bt t 217 (bt t 215 24 (bt t 216 8 0)) 8)))) (bt t 242 (bt t 231 (bt t 225 (bt t 222 (bt t 221 8 128) (bt t 223 128 (bt t 224 0 8))) 8) (bt t 236 (bt t 233 (bt t 232 8 0) (bt t 234 8 (bt t 235 8 16))) (bt t 239 (bt t 237 16 (bt t 238 0 8)) (bt t 240 8 (bt t 241 48 8))))) (bt t 253 8 (bt t 258 (bt t 255 8 (bt t 256 8 (bt t 257 160 65))) (bt t 261 8 (bt t 262 0 8)))))) (bt t 308 (bt t 286 (bt t 275 (bt t 269 (bt t 266 (bt t 265 8 152) (bt t 267 152 8)) (bt t 272 (bt t 270 0 (bt t 271 8 24)) 8)) 8) (bt t 297 (bt t 291 (bt t 288 (bt t 287 8 0) (bt t 289 8 (bt t 290 0 8))) (bt t 294 8 (bt t 295 8 (bt t 296 0 8)))) (bt t 302 8 (bt t 305 (bt t 303 8 24) 8)))) (bt t 330 (bt t 319 (bt t 313 8 (bt t 316 8 (bt t 317 24 (bt t 318 24 8)))) (bt t 324 (bt t 321 8 (bt t 322 8 (bt t 323 64 8))) (bt t 327 (bt t 325 20 8) (bt t 328 40 (bt t 329 8 224))))) (bt t 341 (bt t 335 (bt t 332 8 (bt t 333 96 (bt t 334 8 256))) (bt t 338 (bt t 336 2 (bt t 337 2 32)) (bt t 339 0 (bt t 340 8 40)))) (bt t 347 (bt t 344 (bt t 342 40 0) (bt t 345 0 (bt t 346 8 1))) (bt t 350 (bt t 348 1 (bt t 349 8 4)) (bt t 351 4 48)))))))) 0
def NJ(t:TypeId):Option (List CK):=bt t 353 (bt t 176 (bt t 87 (bt t 43 (bt t 21 none (bt t 32 none (bt t 37 none (bt t 40 (bt t 38 none (bt t 39 (some [.str, .str]) none)) none)))) (bt t 65 (bt t 54 none (bt t 59 (bt t 56 none (bt t 57 (some [.int .u8, .int .u8, .int .u8, .int .u8, .int .u8, .int .u8, .int .u8, .int .u8, .int .u8, .int .u8, .int .u8, .int .u8, .int .u8, .int .u8, .int .u8, .int .u8, .int .u8, .int .u8, .int .u8, .int .u8, .int .u8, .int .u8, .int .u8, .int .u8, .int .u8, .int .u8, .int .u8, .int .u8, .int .u8, .int .u8, .int .u8, .int .u8]) none)) (bt t 62 none (bt t 63 none (bt t 64 none (some [.int .i64, .str, .str, .str])))))) (bt t 76 (bt t 70 (bt t 67 (bt t 66 none (some [.int .i64, .str, .str, .str, .int .i64, .str, .str, .str, .int .i64, .str, .str, .str, .int .i64, .str, .str, .str])) none) none) none))) (bt t 131 (bt t 109 (bt t 98 none (bt t 103 none (bt t 106 (bt t 104 none (bt t 105 none (some [.int .i64, .str, .str, .str, .int .i64, .str, .str, .str, .int .i64, .str, .str, .str, .int .i64, .str, .str, .str]))) none))) none) (bt t 153 none (bt t 164 (bt t 158 (bt t 155 none (bt t 156 none (bt t 157 none (some [.int .u32, .int .u32, .int .u32, .int .u32, .int .u32, .int .u32, .int .u32, .int .u32])))) none) none)))) (bt t 264 (bt t 220 (bt t 198 (bt t 187 none (bt t 192 none (bt t 195 (bt t 193 none (bt t 194 (some [.int .u32, .int .u32, .int .u32, .int .u32, .int .u32, .int .u32, .int .u32, .int .u32, .int .u32, .int .u32, .int .u32, .int .u32, .int .u32, .int .u32, .int .u32, .int .u32, .int .u32, .int .u32, .int .u32, .int .u32, .int .u32, .int .u32, .int .u32, .int .u32, .int .u32, .int .u32, .int .u32, .int .u32, .int .u32, .int .u32, .int .u32, .int .u32, .int .u32, .int .u32, .int .u32, .int .u32, .int .u32, .int .u32, .int .u32, .int .u32, .int .u32, .int .u32, .int .u32, .int .u32, .int .u32, .int .u32, .int .u32, .int .u32, .int .u32, .int .u32, .int .u32, .int .u32, .int .u32, .int .u32, .int .u32, .int .u32, .int .u32, .int .u32, .int .u32, .int .u32, .int .u32, .int .u32, .int .u32, .int .u32]) none)) (bt t 196 (some [.int .i64, .int .i64, .int .i64, .int .i64]) (bt t 197 none (some [.int .i64, .str, .str, .str, .int .i64, .str, .str, .str, .int .i64, .str, .str, .str, .int .i64, .str, .str, .str, .int .i64, .int .i64, .int .i64, .int .i64])))))) (bt t 209 none (bt t 214 none (bt t 217 (bt t 215 (some [.int .u8, .int .u8, .int .u8, .int .u8, .int .u8, .int .u8, .int .u8, .int .u8, .int .u8, .int .u8, .int .u8, .int .u8, .int .u8, .int .u8, .int .u8, .int .u8, .int .u8, .int .u8, .int .u8, .int .u8, .int .u8, .int .u8, .int .u8, .int .u8]) none) none)))) (bt t 242 (bt t 231 none (bt t 236 none (bt t 239 (bt t 237 (some [.int .i64, .int .i64]) none) (bt t 240 none (bt t 241 (some [.str, .str, .str]) none))))) (bt t 253 none (bt t 258 (bt t 255 none (bt t 256 none (bt t 257 (some [.int .u64, .int .u64, .int .u64, .int .u64, .int .u64, .int .u64, .int .u64, .int .u64, .int .u64, .int .u64, .int .u64, .int .u64, .int .u64, .int .u64, .int .u64, .int .u64, .int .u64, .int .u64, .int .u64, .int .u64]) (some [.int .u8, .int .u8, .int .u8, .int .u8, .int .u8, .int .u8, .int .u8, .int .u8, .int .u8, .int .u8, .int .u8, .int .u8, .int .u8, .int .u8, .int .u8, .int .u8, .int .u8, .int .u8, .int .u8, .int .u8, .int .u8, .int .u8, .int .u8, .int .u8, .int .u8, .int .u8, .int .u8, .int .u8, .int .u8, .int .u8, .int .u8, .int .u8, .int .u8, .int .u8, .int .u8, .int .u8, .int .u8, .int .u8, .int .u8, .int .u8, .int .u8, .int .u8, .int .u8, .int .u8, .int .u8, .int .u8, .int .u8, .int .u8, .int .u8, .int .u8, .int .u8, .int .u8, .int .u8, .int .u8, .int .u8, .int .u8, .int .u8, .int .u8, .int .u8, .int .u8, .int .u8, .int .u8, .int .u8, .int .u8, .int .u8])))) none)))) (bt t 308 none (bt t 330 (bt t 319 none (bt t 324 (bt t 321 none (bt t 322 none (bt t 323 (some [.int .u8, .int .u8, .int .u8, .int .u8, .int .u8, .int .u8, .int .u8, .int .u8, .int .u8, .int .u8, .int .u8, .int .u8, .int .u8, .int .u8, .int .u8, .int .u8, .int .u8, .int .u8, .int .u8, .int .u8, .int .u8, .int .u8, .int .u8, .int .u8, .int .u8, .int .u8, .int .u8, .int .u8, .int .u8, .int .u8, .int .u8, .int .u8, .int .u8, .int .u8, .int .u8, .int .u8, .int .u8, .int .u8, .int .u8, .int .u8, .int .u8, .int .u8, .int .u8, .int .u8, .int .u8, .int .u8, .int .u8, .int .u8, .int .u8, .int .u8, .int .u8, .int .u8, .int .u8, .int .u8, .int .u8, .int .u8, .int .u8, .int .u8, .int .u8, .int .u8, .int .u8, .int .u8, .int .u8, .int .u8]) none))) (bt t 327 (bt t 325 (some [.int .i32, .int .i32, .int .i32, .int .i32, .int .i32]) none) (bt t 328 (some [.int .i64, .int .i64, .int .i64, .int .i64, .int .i64]) (bt t 329 none (some [.int .i64, .int .i64, .int .i64, .int .i64, .int .i64, .int .i64, .int .i64, .int .i64, .int .i64, .int .i64, .int .i64, .int .i64, .int .i64, .int .i64, .int .i64, .int .i64, .int .i64, .int .i64, .int .i64, .int .i64, .int .i64, .int .i64, .int .i64, .int .i64, .int .i64, .int .i64, .int .i64, .int .i64])))))) (bt t 341 (bt t 335 (bt t 332 none (bt t 333 (some [.int .i32, .int .i32, .int .i32, .int .i32, .int .i32, .int .i32, .int .i32, .int .i32, .int .i32, .int .i32, .int .i32, .int .i32, .int .i32, .int .i32, .int .i32, .int .i32, .int .i32, .int .i32, .int .i32, .int .i32, .int .i32, .int .i32, .int .i32, .int .i32]) none)) (bt t 338 (bt t 336 none (bt t 337 (some [.int .u8, .int .u8]) (some [.int .u8, .int .u8, .int .u8, .int .u8, .int .u8, .int .u8, .int .u8, .int .u8, .int .u8, .int .u8, .int .u8, .int .u8, .int .u8, .int .u8, .int .u8, .int .u8, .int .u8, .int .u8, .int .u8, .int .u8, .int .u8, .int .u8, .int .u8, .int .u8, .int .u8, .int .u8, .int .u8, .int .u8, .int .u8, .int .u8, .int .u8, .int .u8]))) none)) none))))) none
def NK(t:TypeId):Option (Bool×List CK):=bt t 353 (bt t 176 (bt t 87 (bt t 43 (bt t 21 (bt t 10 (bt t 4 (bt t 1 none (bt t 2 none (bt t 3 (some (false,[.int .i64])) none))) (bt t 7 none (bt t 8 none (bt t 9 (some (false,[.str])) none)))) none) none) none) (bt t 131 (bt t 109 (bt t 98 none (bt t 103 none (bt t 106 (bt t 104 none (bt t 105 none (some (true,[.int .i64, .str, .str, .str, .int .i64, .str, .str, .str, .int .i64, .str, .str, .str, .int .i64, .str, .str, .str])))) none))) none) none)) none) none
def wM:List Int:=[192,214,216,246,248,767,880,893,895,8191,8204,8205,8304,8591,11264,12271,12289,55295,63744,64975,65008,65533,65536,983039]
def Wl:List (List SV):=wM.map fun x=>[.int .i32 x]
def qN:List Int:=[1,10,100,1000,10000,100000,1000000,10000000,100000000,1000000000,10000000000,100000000000,1000000000000,10000000000000,100000000000000,1000000000000000,10000000000000000,100000000000000000,1000000000000000000,10000000000000000000]
def Z3j:List Value:=qN.map fun x=> .int .u64 x
def uv:qg:={sh:=NH,size:=Zi4,zero:=NI,bytes:=ZfB,flat:=NJ,key:=NK,qS:=[(6, .rows 1 Wl),(2, .cI Z3j)],kH:=some (186,5)}
theorem Z3:ux prog uv:=by
 refine Zfz 354 (by kernel_rfl) (fun t ht=>?_)
 have h:Nat.ble t 353=false:=by
  cases e:Nat.ble t 353
  rfl
  have:=zP e;omega
 exact⟨by(simp only[uv,NH]<;>first|exact FV h|rfl),by(simp only[uv,NI]<;>first|exact FV h|rfl),by(simp only[uv,NJ]<;>first|exact FV h|rfl),by(simp only[uv,NK]<;>first|exact FV h|rfl)⟩
theorem mixed:prog.follows .mixedOrders=true:=by kernel_rfl
end Go.Proofs.YtlcbipfmodcedaaGreatDoor
set_option linter.unusedVariables false
namespace Go.Proofs.YtlcbipfmodcedaaGreatDoor
open Go.Sx
theorem Zs{M:Mx}(id:Nat){ops:Array Oper}{fr:Fr}{O:u0}{nx:Nat}{Q:Post}(steps:uJ)(h:wO M ops.toList steps fr O nx fun fr O nx=>Q .normal fr O nx)(ou:Ca ops steps=true:=by kernel_rfl)(hT:ux M.P M.C.T:=by exact Z3)(hP:M.P.follows .mixedOrders=true:=by exact mixed):uK M id ops fr O nx Q:=uK.of hT hP steps ou h
end Go.Proofs.YtlcbipfmodcedaaGreatDoor
set_option linter.unusedSimpArgs false
namespace Go.Sx
open Go
theorem vW.tq{P:Program}{T:qg}{g:FuncId}{args:List SV}{r:SV}{vs:List Value}{w:World}{η0:Env}{S:u0}{k:Nat}(hk:η0.length=k)(sp:vW P T g k args [] S (qd k r))(eg:∀args w,(callFunc g args).run P w= .ok (.enter g args) w)(hd:vX η0 args vs)
 (hs:∀p∈S,vV η0 w false (.loc p.1) p.2) (he:∀(i:Nat) (e:qJ),η0[i]?=some (some e)->e.g<w.heap.size)
 (hg:∀g h,u6 g T.qS=some h->vV [] w false (.uM g) h/\g<w.heap.size):
 Calls P g ⟨vs⟩ w fun e w'=> ∃v η',e= .returned v/\Den η' r v/\jw w w' fun _=>False:=by
 have hmem:∀{S:u0} {i:Nat} {h:Hp},kI (.loc i) (qT S)=some h->(i,h)∈S:=by
  intro S
  induction S with
  |nil=>intro i h hh;simp[qT,kI]at hh
  |cons p S ih=>
   intro i h hh;obtain⟨j,h'⟩:=p;simp only[qT,zL,kI,aZ]at hh;cases hb:Nat.beq i j with
   |true=>
    rw[hb]at hh;have:=Zq hb;subst this;injection hh with hh;subst hh;exact zF ..
   |false=>
    rw[hb]at hh;exact zG _ (ih hh)
 have jB:∀g h,u6 g T.qS=some h->JU h=true:=by
  intro g h hh;have:=Uk hh;exact zN.1 T.dK _ this
 have H:vU ⟨P,⟨T,0,qT S,none⟩,w,fun _=>False,η0,none⟩ η0 w [] k:=⟨zx,hk,⟨fun i h hi=>by simp[u6]at hi,fun i j h h' n hi=>by simp[u6]at hi⟩,jw.refl _ _,fun b h hb=>by
  cases b with
  |loc i=>
   exact⟨hs _ (hmem hb),fun n f=>⟨(hs _ (hmem hb)).uL f,fun h=>h⟩⟩
  |uM g=>
   obtain⟨h1,h2⟩:=hg g h hb
   exact⟨h1.plain (jB g h hb),fun n f=>⟨(h1.plain (η':=η0) (jB g h hb)).uL f,fun h=>h⟩⟩⟩
 have hF:(fun _=>False:Nat->Prop)=Yz η0 w []:=by
  funext n;simp[Yz,u6]
 rcases sp.out ⟨P,⟨T,0,qT S,none⟩,w,fun _=>False,η0,none⟩ vs rfl rfl hF rfl H hd with⟨g',h1,h2⟩|⟨v,w',h1,_⟩
 .rw[eg]at h1;injection h1 with h1 _;injection h1 with h1 _;subst h1;refine h2.mono fun e w' hee=>?_;obtain⟨v,rfl,r',O',vZ,η',⟨rfl,rfl,rfl⟩,_,h4,h5⟩:=hee;exact⟨v,η',rfl,h5,h4.fr⟩
 rw[eg]at h1;cases h1
end Go.Sx
namespace Go.Our
open Go.RowKit Go.ChangeShapes Go.WideShapes Go.ChangeAt Go.Sx
section
variable {H:Type}{enc:TypeId×Value->H}{P:Program}{w:World}
def qX(w:World)(v:Value)(es:Nat)(rs:List (List SV))(en:Option qJ):Prop:=
 (∀x,en=some x->x.g<w.heap.size)/\∀(K:Env) (i:Nat),K[i]?=some en->Den K (.sl (.loc i) 0 es rs.length none) v/\vV K w false (.loc i) (.rows es rs)
theorem Z5v{base:Nat}{a:Addr}{n:Nat}{cs:List Value}(h:w.cells? base a n=some cs):cs.length=n/\∀j,j<n->w.cell? (a.add j)=cs[j]?:=⟨(World.cells?_some h).2.1,(World.cells?_some h).2.2⟩
theorem ZaY{J:Type}{G:J->Prop}{t e:TypeId}{es:Nat}{q:Option Addr}{l0 c0 fuel:Nat}{x:DataW H×List MemPlace}(kS:J->List Value)(dat:J->DataW H)(row:J->List SV)(wT:0<es)
 (hlen:∀a,(kS a).length=es/\(row a).length=es) (hrow:∀(K:Env) (a:J) (j:Nat) (sv:SV),(row a)[j]?=some sv->∃u,(kS a)[j]?=some u/\u.oneCell'=true/\Den K sv u)
 (ht:P.underlying t=some (.slice e)) (hc:P.cellsOf e=es) (el:∀fuel cs (x:DataW H×List MemPlace),DataW.trod enc P w 0 (fun _=>true) true fuel e cs=some x->∃a:J,cs=kS a/\x.1=dat a/\G a)
 (ho:∀a,q=some a->a.spot=none/\∃arr T fz,w.heap[a.block]?=some (.cells arr T fz)) (hf:DataW.trod enc P w 0 (fun _=>true) true fuel t [.slice q l0 c0]=some x):
 ∃(l:List J) (en:Option qJ),qX w (.slice q l0 c0) es (l.map row) en/\((l=[]/\x.1= .nil)\/∃z:List J,x.1= .slice (l.map dat) (z.map dat))/\l.length=l0/\∀a∈l,G a:=by
 rcases DataW.trod_slice ht hf with⟨hcs,hx⟩|⟨a,len,cap,elems,rest,n,_,hcs,hx,hb,hl,hm,aR,hel,hsp,hns⟩
 .injection hcs with hcs _;injection hcs with h1 h2 h3;subst h1 h2 h3 hx;refine⟨[],none,⟨fun x hx=>(by cases hx),fun K i hi=>?_⟩, .inl ⟨rfl,rfl⟩,rfl,fun a h=>by cases h⟩;refine⟨?_,?_⟩;unfold Den;exact .inl ⟨hi,rfl,rfl⟩;unfold vV;exact .inl ⟨hi,rfl⟩
 .injection hcs with hcs _;injection hcs with h1 h2 h3;subst h1 h2 h3 hx;obtain⟨aS,arr,T,fz,hheap⟩:=ho _ rfl;obtain⟨ab,ao,asp⟩:=a;simp only at aS hheap;subst aS
  have each:∀(i:Nat) y,(elems++rest)[i]?=some y->∃x:J,y.1=dat x/\G x/\∀j,j<es->w.cell? ⟨ab,ao+i*es+j,none⟩=(kS x)[j]?:=by
   intro i y hy
   have hb':(w.cells? 0 ((⟨ab,ao,none⟩:Addr).add (i*P.cellsOf e)) (P.cellsOf e)).bind (DataW.trod enc P w 0 (fun _=>true) true n e)=some y:=by
    by_cases hi:i<l0
    rw[hel i hi,<-hy,zu (by omega)]
    .obtain⟨hrl,hr⟩:=hsp rfl;have hlt:=(zg.1 hy).1;simp only[ze]at hlt;have:=hr (i-l0) (by omega);rw[show l0+(i-l0)=i by omega]at this;rw[this,<-hy,zz (by omega),aR]
   obtain⟨cs',KC,hy'⟩:=vR.1 hb';obtain⟨x,rfl,hx1,hx2⟩:=el _ _ _ hy';refine⟨x,hx1,hx2,fun j hj=>?_⟩;rw[hc]at KC;rw[<-(Z5v KC).2 j hj];congr 1;unfold Addr.add;split<;>split<;>simp_all<;>omega
  have list:∀(ys:List (DataW H×List MemPlace)) (k:Nat),(∀i y,ys[i]?=some y->(elems++rest)[k+i]?=some y)->∃xs:List J,ys.map (·.1)=xs.map dat/\xs.length=ys.length/\(∀a∈xs,G a)/\∀(i:Nat) x,xs[i]?=some x->∀j,j<es->w.cell? ⟨ab,ao+(k+i)*es+j,none⟩=(kS x)[j]?:=by
   intro ys
   induction ys with
   |nil=>intro k _;exact⟨[],rfl,rfl,(fun a h=>by cases h),fun i x hx=>by simp at hx⟩
   |cons y ys ih=>
    intro k hk;obtain⟨x,hx1,hg,hx2⟩:=each (k+0) y (hk 0 y rfl);obtain⟨xs,h1,h2,Cf,h3⟩:=ih (k+1) fun i y' hy'=>by rw[show k+1+i=k+(i+1)by omega];exact hk (i+1) y' (by simpa using hy')
    refine⟨x::xs,by simp[h1,hx1],by simp[h2],(fun a ha=>(zI.1 ha).elim (fun e=>e▸hg) (Cf a)),fun i z hz j hj=>?_⟩;cases i with
    |zero=>simp at hz;subst hz;exact hx2 j hj
    |succ i=>simp at hz;rw[show k+(i+1)=k+1+i by omega];exact h3 i z hz j hj
  obtain⟨xs,h1,h2,Cf,h3⟩:=list elems 0 fun i y hy=>by rw[zw,zu (zg.1 hy).1];exact hy
  obtain⟨zs,h4,_,_,_⟩:=list rest elems.length fun i y hy=>by rw[zz (by omega)];simpa using hy
  refine⟨xs,some ⟨ab,ao,c0⟩,⟨fun x hx=>?_,fun K i hi=>⟨?_,?_⟩⟩, .inr ⟨zs,by rw[h1,h4]⟩,by rw[h2,aR],Cf⟩;injection hx with hx;subst hx;exact(zC.1 hheap).1
  .simp only[Den,Env.get];refine .inr ⟨⟨ab,ao,c0⟩,ao,hi,?_,?_,zn _,fun _=>by simp⟩;simp only[Option.getD_none,Nat.sub_zero,zj,h2,aR];simp only[Option.getD_none,zj,h2,aR];omega
  .simp only[vV,Env.get];refine .inr ⟨⟨ab,ao,c0⟩,arr,T,fz,hi,hheap,fun h=>(by cases h),fun k bh hk=>?_⟩;rw[z7]at hk;obtain⟨x,hx,rfl⟩:=zH.1 hk;refine⟨(hlen x).2,fun j sv hj=>?_⟩;obtain⟨u,hu1,hu2,hu3⟩:=hrow K x j sv hj;have hj2:j<es:=by rw[<-(hlen x).2];exact(zg.1 hj).1
   have:=h3 k x hx j hj2;rw[zw,hu1]at this;unfold World.cell? at this;simp only[hheap]at this;exact⟨u,by simpa using this,hu2,hu3⟩
theorem ZfC{J:Type}{t e:TypeId}{es:Nat}{v:Value}{d:DataW H}{p:List MemPlace}{r:Reach}{b0:Nat}(kS:J->List Value)(dat:J->DataW H)(row:J->List SV)(wT:0<es)
 (hlen:∀a,(kS a).length=es/\(row a).length=es) (hrow:∀(K:Env) (a:J) (j:Nat) (sv:SV),(row a)[j]?=some sv->∃u,(kS a)[j]?=some u/\u.oneCell'=true/\Den K sv u)
 (ht:P.underlying t=some (.slice e)) (hc:P.cellsOf e=es) (el:∀fuel cs (x:DataW H×List MemPlace),DataW.trod enc P w 0 (fun _=>true) true fuel e cs=some x->∃a:J,cs=kS a/\x=(dat a,[]))
 (ho:Value.okWide P w r b0 t v) (h:DataW.Trod enc P w 0 (fun _=>true) true t v d p):
 ∃(l:List J) (en:Option qJ),qX w v es (l.map row) en/\((l=[]/\d= .nil)\/∃z:List J,d= .slice (l.map dat) (z.map dat)):=by
 obtain⟨fuel,hf⟩:=h;obtain⟨a0,l0,c0,rfl⟩:=okWide_slice ht ho
 obtain⟨l,en,h1,h2,_,_⟩:=ZaY (G:=fun _=>True) kS dat row wT hlen hrow ht hc (fun fuel cs x hx=>let⟨a,h1,h2⟩:=el fuel cs x hx;⟨a,h1,by rw[h2],trivial⟩) (fun a ha=>by
  subst ha;simp only[Value.okWide,ht,Cell.okWide,Cell.ok]at ho;obtain⟨_,_,_,aS,rw',cl,hsh,_⟩:=ho;refine⟨aS,?_⟩;unfold World.shape? at hsh;split at hsh
  rename_i c e' f' hh;exact⟨_,_,_,hh⟩
  cases hsh) hf
 exact⟨l,en,h1,h2⟩
end
theorem qX.den{J:Type}{W:World}{v:Value}{es:Nat}{l:List J}{row:J->List SV}{en:Option qJ}(h:qX W v es (l.map row) en){K:Env}{i:Nat}(hi:K[i]?=some en):Den K (.sl (.loc i) 0 es l.length none) v:=by
 have:=(h.2 K i hi).1;rwa [zj]at this
theorem qX.sat{W:World}{v:Value}{es:Nat}{rs:List (List SV)}{en:Option qJ}(h:qX W v es rs en){K:Env}{i:Nat}(hi:K[i]?=some en):vV K W false (.loc i) (.rows es rs):=(h.2 K i hi).2
end Go.Our
namespace Go.Proofs.YtlcbipfmodcedaaGreatDoor
open Go.RowKit Go.Our Go.ChangeShapes Go.WideShapes Go.ChangeAt Go.Sx
open _root_.Go.Proofs.Tryz
abbrev Cg(W:World):Prop:=∀g h,u6 g uv.qS=some h->vV [] W false (.uM g) h/\g<W.heap.size
theorem ZaZ{g:FuncId}{args:List SV}{vs:List Value}{W:World}{η0:Env}{S:u0}{k:Nat}(hk:η0.length=k)(sp:vW prog uv g k args [] S (qd k (.bool true)))(eg:∀args w,(callFunc g args).run prog w= .ok (.enter g args) w)(hd:vX η0 args vs)
 (hs:∀p∈S,vV η0 W false (.loc p.1) p.2) (he:∀(i:Nat) (e:qJ),η0[i]?=some (some e)->e.g<W.heap.size) (hg:Cg W):
 Calls prog g ⟨vs⟩ W fun e W'=>e= .returned (.bool true)/\Below W.heap.size W W':=by
 refine(sp.tq hk eg hd hs he hg).mono fun e W' ⟨v,η',he,hv,hf⟩=>?_;simp only[Den]at hv;subst hv;exact⟨he,hf.os,hf.tape,hf.output,hf.size,fun k hk=>hf.block k hk fun h=>h⟩
theorem Zb0{g:FuncId}{args:List SV}{vs:List Value}{W:World}{v v':Value}{es es':Nat}{rs rs':List (List SV)}{en eP:Option qJ}(h:qX W v es rs en)(h':qX W v' es' rs' eP)(sp:vW prog uv g 2 args [] [(0, .rows es rs),(1, .rows es' rs')] (qd 2 (.bool true)))(eg:∀args w,(callFunc g args).run prog w= .ok (.enter g args) w)(hd:vX [en,eP] args vs)(hg:Cg W):
 Calls prog g ⟨vs⟩ W fun e W'=>e= .returned (.bool true)/\Below W.heap.size W W':=by
 refine ZaZ (η0:=[en,eP]) rfl sp eg hd (fun p hp=>?_) (fun i e hi=>?_) hg
 .rcases zI.1 hp with rfl|hp
  exact h.sat rfl
  .have hp:=zJ.1 hp;subst hp;exact h'.sat rfl
 .match i,hi with
  |0,hi=>injection hi with hi;exact h.1 e hi
  |1,hi=>injection hi with hi;exact h'.1 e hi
end Go.Proofs.YtlcbipfmodcedaaGreatDoor
namespace Go.Proofs.YtlcbipfmodcedaaGreatDoor
open Go.RowKit Go.Our Go.ChangeShapes Go.WideShapes Go.ChangeAt Go.Sx
open _root_.Go.Proofs.Tryz
section
variable {H:Type}{enc:TypeId×Value->H}{w:World}{base:Nat}{sp:Nat->Bool}{held:Bool}
abbrev jM(s:List UInt8):Value:= .string ⟨s.toArray⟩
abbrev Cl(x:Tm):List Value:=[.int .i64 x.k,jM x.t,jM x.y,jM x.l]
abbrev tmV(x:Tm):Value:= .agg ⟨Cl x⟩
abbrev FY(q:Qd):List Value:=[.int .i64 q.s.k,jM q.s.t,jM q.s.y,jM q.s.l, .int .i64 q.p.k,jM q.p.t,jM q.p.y,jM q.p.l, .int .i64 q.o.k,jM q.o.t,jM q.o.y,jM q.o.l, .int .i64 q.g.k,jM q.g.t,jM q.g.y,jM q.g.l]
abbrev qdV(q:Qd):Value:= .agg ⟨FY q⟩
def n9(x:Tm):DataW H:= .agg [.lit (.int .i64 x.k), .lit (.string x.t), .lit (.string x.y), .lit (.string x.l)]
def nh(q:Qd):DataW H:= .agg [n9 q.s,n9 q.p,n9 q.o,n9 q.g]
abbrev nq(x:Tm):Prop:=(Lit.int .i64 x.k).wf=true
abbrev Cm(q:Qd):Prop:=nq q.s/\nq q.p/\nq q.o/\nq q.g
theorem ZfF:prog.cellsOf 3=1:=by kernel_rfl
theorem ZfG:prog.cellsOf 9=1:=by kernel_rfl
theorem M3:prog.cellsOf 65=4:=by kernel_rfl
theorem M4:prog.cellsOf 67=16:=by kernel_rfl
theorem Cn(s:ByteArray):Value.string s=jM s.data.toList:=by cases s;rfl
set_option maxRecDepth 100000 in
theorem FZ{fuel:Nat}{cs:List Value}{x:DataW H×List MemPlace}(h:DataW.trod enc prog w base sp held fuel 65 cs=some x):
 ∃t:Tm,cs=Cl t/\x=(n9 t,[])/\nq t:=by
 cases fuel with
 |zero=>simp[DataW.trod]at h
 |succ fuel=>
  simp only[DataW.trod,underlying65,M3]at h;split at h
  .rename_i hl
   match cs,hl with
   | [c0,c1,c2,c3],_=>
     simp only[vO,List.mapM_nil,ZfF,ZfG,xA,vE,List.take_succ_cons,List.take_zero]at h;simp only[zH,Option.bind_eq_bind,vR,Option.pure_def,zh]at h;obtain⟨xs,⟨y0,h0,r1,⟨y1,h1,r2,⟨y2,h2,r3,⟨y3,h3,r4,rfl,rfl⟩,rfl⟩,rfl⟩,rfl⟩,hx⟩:=h;obtain⟨k,hk,rfl,wk⟩:=DataW.trod_int underlying3 h0;obtain⟨s1,hs1,rfl,w1⟩:=DataW.trod_string underlying9 h1;obtain⟨s2,hs2,rfl,w2⟩:=DataW.trod_string underlying9 h2;obtain⟨s3,hs3,rfl,w3⟩:=DataW.trod_string underlying9 h3;injection hk with hk _;injection hs1 with hs1 _;injection hs2 with hs2 _;injection hs3 with hs3 _;subst hk hs1 hs2 hs3;exact⟨⟨k,s1.data.toList,s2.data.toList,s3.data.toList⟩,by rw[Cn,Cn,Cn],by rw[<-hx];rfl,wk⟩
  cases h
set_option maxRecDepth 100000 in
theorem Zic{fuel:Nat}{cs:List Value}{x:DataW H×List MemPlace}(h:DataW.trod enc prog w base sp held fuel 67 cs=some x):
 ∃q:Qd,cs=FY q/\x=(nh q,[])/\Cm q:=by
 cases fuel with
 |zero=>simp[DataW.trod]at h
 |succ fuel=>
  simp only[DataW.trod,underlying67,M4]at h;split at h
  .rename_i hl;simp only[vO,List.mapM_nil,M3]at h;simp only[zH,Option.bind_eq_bind,vR,Option.pure_def,zh]at h;obtain⟨xs,⟨y0,h0,r1,⟨y1,h1,r2,⟨y2,h2,r3,⟨y3,h3,r4,rfl,rfl⟩,rfl⟩,rfl⟩,rfl⟩,hx⟩:=h;obtain⟨s,hs,rfl,ws⟩:=FZ h0;obtain⟨p,hp,rfl,wp⟩:=FZ h1;obtain⟨o,ho,rfl,wo⟩:=FZ h2;obtain⟨g,hg,rfl,wg⟩:=FZ h3;refine⟨⟨s,p,o,g⟩,?_,by rw[<-hx];rfl,ws,wp,wo,wg⟩
   match cs,hl with
   | [c0,c1,c2,c3,c4,c5,c6,c7,c8,c9,c10,c11,c12,c13,c14,c15],_=>
     simp only[xA,vE,List.take_succ_cons,List.take_zero,Cl,x5,vp]at hs hp ho hg;obtain⟨rfl,rfl,rfl,rfl⟩:=hs;obtain⟨rfl,rfl,rfl,rfl⟩:=hp;obtain⟨rfl,rfl,rfl,rfl⟩:=ho;obtain⟨rfl,rfl,rfl,rfl⟩:=hg
     rfl
  cases h
theorem H6{x:Tm}(h:((n9 x:DataW H).weights prog 65).all (fun n=>decide (n<=reachBytes))=true):x.t.length<=reachBytes/\x.y.length<=reachBytes/\x.l.length<=reachBytes:=by
 simp only[n9,DataW.weights,underlying65,zL,yX,DataW.weightsEach,List.nil_append,zU,List.cons_append,List.all_cons,List.all_nil,y6,zk,yN]at h;exact h
theorem ZfH{q:Qd}(h:((nh q:DataW H).weights prog 67).all (fun n=>decide (n<=reachBytes))=true):(q.s.t.length<=reachBytes/\q.s.y.length<=reachBytes/\q.s.l.length<=reachBytes)/\(q.p.t.length<=reachBytes/\q.p.y.length<=reachBytes/\q.p.l.length<=reachBytes)/\
 (q.o.t.length<=reachBytes/\q.o.y.length<=reachBytes/\q.o.l.length<=reachBytes)/\(q.g.t.length<=reachBytes/\q.g.y.length<=reachBytes/\q.g.l.length<=reachBytes):=by
 have e:(nh q:DataW H).weights prog 67=(n9 q.s:DataW H).weights prog 65++((n9 q.p:DataW H).weights prog 65++((n9 q.o:DataW H).weights prog 65++((n9 q.g:DataW H).weights prog 65++ []))):=by
  simp only[nh,DataW.weights,underlying67,zL,yX,DataW.weightsEach]
 rw[e]at h;simp only[vl,zk]at h;exact⟨H6 h.1,H6 h.2.1,H6 h.2.2.1,H6 h.2.2.2.1⟩
theorem e8.of{x:Tm}(h:x.t.length<=reachBytes/\x.y.length<=reachBytes/\x.l.length<=reachBytes):e8 x:=by
 unfold reachBytes at h;exact⟨by omega,by omega,by omega⟩
theorem Zl2{q:Qd}(h:((nh q:DataW H).weights prog 67).all (fun n=>decide (n<=reachBytes))=true):n5 q:=
 have h:=ZfH h
 ⟨e8.of h.1,e8.of h.2.1,e8.of h.2.2.1,e8.of h.2.2.2⟩
end
open _root_.Go.Proofs.Tryz
theorem ZjU{W:World}{l:List (String×DataW Unit)}(hl:(l.filter fun x=>x.2.handleName?.isNone).filter (fun x=>x.1== "tessera/names.basesTable")=[("tessera/names.basesTable",Lib.tabData .i32 wM)])(kZ:(l.filter fun x=>x.2.handleName?.isNone).filter (fun x=>x.1== "internal/strconv.uint64pow10")=[("internal/strconv.uint64pow10",Lib.tabData .u64 qN)])(h:laidMetH prog l W):Cg W:=by
 intro g h' hg;simp only[uv]at hg;rw[Z6]at hg;split at hg
 .rename_i eg;subst eg;injection hg with hg;subst hg;have h1:=laidMet.filter (fun x=>x.1== "tessera/names.basesTable") (laidMetH_iff.1 h).1
  rw[hl]at h1
  have hT:Lib.TabIs prog W "tessera/names.basesTable" .i32 wM:=
   Lib.tabIs_of_head (rest:=[]) (g:=6) (by kernel_rfl) (by kernel_rfl) underlying333 underlying21 (by kernel_rfl) (by kernel_rfl) h1
  have hc:∀i,i<24->W.cell? ⟨6,i,none⟩=some (.int .i32 (wM.getD i 0)):=fun i hi=>hT.cell (by kernel_rfl) i hi;have h0:=hc 0 (by omega);unfold World.cell? at h0;split at h0
  case h_2=>cases h0
  rename_i c T fz hh
  have hall:∀i,i<24->c[i]?=some (.int .i32 (wM.getD i 0)):=by
   intro i hi;have:=hc i hi;unfold World.cell? at this;simp only at this hh;rw[hh]at this;simpa using this
  simp only at hh;refine⟨?_,(zC.1 hh).1⟩;simp only[vV];refine .inr ⟨⟨6,0,0⟩,c,T,fz,rfl,hh,fun h=>(by cases h),fun i row hr=>?_⟩;unfold Wl at hr;rw[z7]at hr;obtain⟨x,hx,rfl⟩:=zH.1 hr;have hi:i<24:=(zg.1 hx).1;refine⟨rfl,fun j sv hj=>?_⟩;cases j with
  |succ j=>simp at hj
  |zero=>
   simp only[List.getElem?_cons_zero,zh]at hj;subst hj;refine⟨_,by simp only[zw,xI,Nat.add_zero];exact hall i hi,rfl,?_⟩;simp only[Den,List.getD,hx,Option.getD_some]
 .rw[Z6]at hg;split at hg
  case isFalse=>simp[u6]at hg
  rename_i eg;subst eg;injection hg with hg;subst hg;have h1:=laidMet.filter (fun x=>x.1== "internal/strconv.uint64pow10") (laidMetH_iff.1 h).1
  rw[kZ]at h1
  have rD:Lib.TabIs prog W "internal/strconv.uint64pow10" .u64 qN:=
   Lib.tabIs_of_head (rest:=[]) (g:=2) (by kernel_rfl) (by kernel_rfl) underlying257 underlying162 (by kernel_rfl) (by kernel_rfl) h1
  have Qa:prog.globalNamed "internal/strconv.uint64pow10" =some 2:=by kernel_rfl
  unfold Lib.TabIs World.var? at rD;rw[Qa]at rD;simp only[Option.bind_some]at rD;split at rD
  case h_2=>cases rD
  rename_i cs T fz hh;injection rD with rD;refine⟨?_,(zC.1 hh).1⟩;simp only[vV];exact⟨⟨2,0,0⟩,rfl,rfl,T,fz,by rw[hh,rD];rfl⟩
end Go.Proofs.YtlcbipfmodcedaaGreatDoor
set_option maxRecDepth 20000
set_option maxHeartbeats 8000000
namespace Go.Proofs.YtlcbipfmodcedaaGreatDoor
open Go.Sx Go.Our
open _root_.Go.Proofs.Tryz
def ME:uJ:=(ZI [(0,1),(2,1),(5,1),(7,1),(10,1),(12,1),(15,1),(17,1),(1,2),(3,2),(6,2),(8,2),(11,2),(13,2),(16,2),(18,2),(4,3),(9,3),(14,3),(19,3),(20,3),(21,3),(22,1)])
theorem Zb4(a:Int):vW prog uv 136 0 [.int .i64 a] [] [] (wF (.bool false)):=by
 refine vW.enter Z3 call136 func136 rfl 6 rfl rfl [.tmp 2] rfl ?_;intro w0 F η0 h0;conv=>whnf
 exact u9.value h0 rfl (by simp)
theorem MF(a b:Int):vW prog uv 104 0 [.int .i64 a, .int .i64 b] [] [] (wF (.int .i64 (wP a b))):=by
 refine vW.enter Z3 call104 func104 rfl 20 rfl rfl [.tmp 4] rfl ?_;intro w0 F η0 h0;conv=>whnf
 repeat'(first|refine CALL.value (Zb4 _) rfl rfl ?_|refine AU ?_|refine IW ?_ ?_<;>intro h<;>try omega)<;>conv=>whnf
 all_goals
  refine u9.value h0 rfl (zf (SV.int _) ?_);unfold wP
  (repeat' split)<;>simp_all<;>omega
theorem Z8A(a b:List UInt8):vW prog uv 216 0 [.str a, .str b] [] [] (wF (.int .i64 (cmpL a b))):=by
 refine vW.says fun K w vs hd=>?_;simp only[vX,Den]at hd;obtain⟨u,us,rfl,rfl,u',us',rfl,rfl,rfl⟩:=hd;refine⟨_,?_,rfl⟩;rw[run_callFunc_extern func216 (by kernel_rfl) (by kernel_rfl) (by kernel_rfl) (e:=Extern.BytealgCompare.compare) (by kernel_rfl),Lib.run_compareString]
 rfl
theorem Z4c(a b:List UInt8):vW prog uv 164 0 [.str a, .str b] [] [] (wF (.int .i64 (cmpL a b))):=by
 refine vW.enter Z3 call164 func164 rfl 8 rfl rfl [.tmp 4] rfl ?_;intro w0 F η0 h0;conv=>whnf
 repeat'(first|refine CALL.value (Z8A _ _) rfl rfl ?_)<;>conv=>whnf
 exact u9.value h0 rfl rfl
theorem WH(a b:List UInt8):vW prog uv 124 0 [.str a, .str b] [] [] (wF (.int .i64 (cmpL a b))):=by
 refine vW.enter Z3 call124 func124 rfl 8 rfl rfl [.tmp 4] rfl ?_;intro w0 F η0 h0;conv=>whnf
 repeat'(first|refine CALL.value (Z4c _ _) rfl rfl ?_)<;>conv=>whnf
 exact u9.value h0 rfl rfl
def MG(x:Int):List SV:=[.int .i64 x]
theorem Cu(xs:List Int)(hn:xs.length<=1152921504606846976):vW prog uv 87 1 [.sl (.loc 0) 0 1 xs.length none] [] [(0, .rows 1 (xs.map MG))] (qd 1 (.int .i64 (oN xs))):=by
 refine vW.enter Z3 call87 func87 rfl 18 rfl rfl [.tmp 2] rfl ?_;intro w0 F η0 h0;conv=>whnf
 refine ua.go Z3 [3,6,7] (X:=Nat) (fun i=>i<=xs.length/\oN xs=oN (xs.drop i)) (fun i=>[(8, .int .i64 (i:Int))]) (fun i=>[]) 1 (fun i=>xs.length-i) 0 ⟨by omega,rfl⟩ ?_;conv=>whnf
 refine⟨by exact vY.cA h0,?_⟩;rintro i ⟨hi,ho⟩;conv=>whnf
 repeat'(first|refine GET.at (row:=MG (xs[i]'(by omega))) (by rw[z7,show 0+(i:Int).toNat=i by omega,z1 (by omega)];rfl) ?_|refine AU ?_|refine IW ?_ ?_<;>intro h<;>try omega)<;>conv=>whnf
 .have hl:i<xs.length:=by omega
  refine u9.uh h0 rfl (zf (SV.int _) ?_);rw[ho,zQ hl];simp only[oN];rw[z8 h]
 .have hl:i<xs.length:=by omega
  refine⟨i+1,⟨by omega,?_⟩,by omega,?_⟩;rw[ho,zQ hl];simp only[oN];rw[z6 (by simpa using h)]
  .conv=>whnf
   exact vY.cA h0
 .refine u9.uh h0 rfl (zf (SV.int _) ?_);rw[ho,yG (by omega)];rfl
abbrev MH(x:Tm):List SV:=[.int .i64 x.k, .str x.t, .str x.y, .str x.l]
theorem UU(a b:Tm):vW prog uv 88 0 [.agg (MH a), .agg (MH b)] [] [] (wF (.int .i64 (Wc a b))):=by
 refine vW.enter Z3 call88 func88 rfl 27 rfl rfl [.tmp 4] rfl ?_;intro w0 F η0 h0;conv=>whnf
 repeat'(first|refine Zs 1 ME ?_|refine qW.mk (fun _ _=>?_)|refine CALL.value (MF a.k b.k) rfl rfl ?_|refine CALL.value (WH a.t b.t) rfl rfl ?_|refine CALL.value (WH a.y b.y) rfl rfl ?_|refine CALL.value (WH a.l b.l) rfl rfl ?_|refine CALL.looks [2] (Cu [wP a.k b.k,cmpL a.t b.t,cmpL a.y b.y,cmpL a.l b.l] (by simp)) rfl rfl rfl rfl ⟨⟨rfl,rfl,rfl⟩,trivial⟩ ?_)<;>conv=>whnf
 exact u9.value h0 rfl (by rw[<-ZjV])
theorem Cv(a b:Qd):vW prog uv 47 0 [.agg a.row, .agg b.row] [] [] (wF (.int .i64 (ZJ a b))):=by
 refine vW.enter Z3 call47 func47 rfl 27 rfl rfl [.tmp 4] rfl ?_;intro w0 F η0 h0;conv=>whnf
 repeat'(first|refine Zs 1 ME ?_|refine qW.mk (fun _ _=>?_)|refine CALL.value (UU a.g b.g) rfl rfl ?_|refine CALL.value (UU a.s b.s) rfl rfl ?_|refine CALL.value (UU a.p b.p) rfl rfl ?_|refine CALL.value (UU a.o b.o) rfl rfl ?_|refine CALL.looks [2] (Cu [Wc a.g b.g,Wc a.s b.s,Wc a.p b.p,Wc a.o b.o] (by simp)) rfl rfl rfl rfl ⟨⟨rfl,rfl,rfl⟩,trivial⟩ ?_)<;>conv=>whnf
 exact u9.value h0 rfl (by rw[<-ZjW])
end Go.Proofs.YtlcbipfmodcedaaGreatDoor
namespace Go.Proofs.YtlcbipfmodcedaaGreatDoor
open Go.Sx Go.Our
open _root_.Go.Proofs.Tryz
def Zdb:uJ:=(ZI [(0,1),(1,1),(2,1),(4,1),(5,1),(6,1),(3,2),(7,2),(8,1)])
abbrev VU(l:List Qd):Prop:=l.length*224<=140737488351232
theorem Z3s(A B:List Qd)(i n j m:Nat)(lA lB:Option Nat)(hA:i+n<=A.length)(hB:j+m<=B.length)(hn:A.length<=1152921504606846976)(hm:B.length<=1152921504606846976):vW prog uv 15 2 [.sl (.loc 0) i 16 n lA, .sl (.loc 1) j 16 m lB] [] [(0, .rows 16 (A.map Zd)),(1, .rows 16 (B.map Zd))]
 (qd 2 (.bool (decide ((A.drop i).take n=(B.drop j).take m)))):=by
 refine vW.enter Z3 call15 func15 rfl 26 rfl rfl [.tmp 4] rfl ?_;intro w0 F η0 h0;conv=>whnf
 refine IF.mk (fun h=>?_) (fun h=>?_)
 .have h:n≠m:=by simp at h;omega
  conv=>whnf
  refine u9.uh h0 rfl (zf SV.bool (yp fun he=>?_).symm);have:=zf List.length he;simp at this;omega
 have h:n=m:=by simp at h;omega
 subst h;conv=>whnf
 refine ua.go Z3 [0,1] (X:=Nat) (fun c=>c<=n/\((A.drop i).take n=(B.drop j).take n<->(A.drop (i+c)).take (n-c)=(B.drop (j+c)).take (n-c))) (fun c=>[(5, .int .i64 (c:Int))]) (fun c=>[]) 2 (fun c=>n-c) 0 ⟨by omega,by simp⟩ ?_;conv=>whnf
 refine⟨by exact vY.cA h0,?_⟩;rintro c ⟨hc,hs⟩;conv=>whnf
 rcases yD c n with gh|gh
 .have ha:i+c<A.length:=by omega
  have hb:j+c<B.length:=by omega
  have hstep:(A.drop (i+c)).take (n-c)=(B.drop (j+c)).take (n-c)<->A[i+c]=B[j+c]/\(A.drop (i+(c+1))).take (n-(c+1))=(B.drop (j+(c+1))).take (n-(c+1)):=by
   rw[zQ ha,zQ hb,show n-c=(n-(c+1))+1 by omega];simp only[List.take_succ_cons,x5];rw[show i+c+1=i+(c+1)by omega,show j+c+1=j+(c+1)by omega]
  repeat'(first|refine Zs 6 Zdb ?_|refine GET.at (row:=Zd (A[i+c]'(by omega))) (by rw[show i+(c:Int).toNat=i+c by omega];exact Mq (by omega)) ?_|refine GET.at (row:=Zd (B[j+c]'(by omega))) (by rw[show j+(c:Int).toNat=j+c by omega];exact Mq (by omega)) ?_|refine AU ?_|refine IW ?_ ?_<;>intro h<;>try omega)<;>conv=>whnf
  .have hne:A[i+c]≠B[j+c]:=fun he=>by rw[he]at h;simp at h
   exact u9.uh h0 rfl (zf SV.bool (yp fun he=>hne (hstep.1 (hs.1 he)).1).symm)
  .have heq:A[i+c]=B[j+c]:=Qd.ext' (by simp only[Zd,Qd.row,x5,SV.int.injEq,SV.str.injEq,v7,vp];exact h);refine⟨c+1,⟨by omega,hs.trans (hstep.trans ⟨fun x=>x.2,fun x=>⟨heq,x⟩⟩)⟩,by omega,?_⟩;conv=>whnf
   exact vY.cA h0
 .repeat'(first|refine IW ?_ ?_<;>intro h<;>try omega)<;>conv=>whnf
  refine u9.uh h0 rfl (zf SV.bool (yA (hs.2 ?_)).symm);rw[show n-c=0 by omega];rfl
theorem UV{l z:List Qd}{i:Nat}(h:i<l.length):((l++z).map Zd)[i]?=some (Zd l[i]):=by
 rw[z7,zu h,z1 h];rfl
end Go.Proofs.YtlcbipfmodcedaaGreatDoor
namespace Go.Proofs.YtlcbipfmodcedaaGreatDoor
open Go.Sx Go.Our Go.Sort Go.Shelf
open _root_.Go.Proofs.Tryz
def MO:uJ:=(ZI [(0,1),(1,1),(2,1),(4,1),(5,1),(6,1),(7,1),(3,2),(8,2),(9,1)])
abbrev Zlh(l:List Tm):Prop:=l.length*224<=140737488351232
theorem l7{K:Type}(f:K->List SV){C l:List K}{j:Nat}(h1:C.length<=j)(h2:j<l.length):((C++l.drop C.length).map f)[j]?=some (f l[j]):=by
 rw[z7,zz h1,ye,show C.length+(j-C.length)=j by omega,z1 h2];rfl
theorem CD{K:Type}(f:K->List SV){C l:List K}(x:K)(h:C.length<l.length):((C++l.drop C.length).map f).set C.length (f x)=((C++ [x])++l.drop (C++ [x]).length).map f:=by
 rw[Mt,xe _ _ (zn _),v8,zQ h,List.set_cons_zero];simp
theorem CF{K:Type}(f:K->List SV){C l:List K}(z:K)(h:C.length<=l.length):((C++l.drop C.length).map f).take C.length++List.replicate (l.length-C.length) (f z)++((C++l.drop C.length).map f).drop (C.length+(l.length-C.length))=(C++List.replicate (l.length-C.length) z).map f:=by
 have h1:((C++l.drop C.length).map f).length=l.length:=by simp;omega
 rw[List.drop_of_length_le (l:=(C++l.drop C.length).map f) (by omega),zU,yo,yo,x7,vq (by simp),zo (by simp)]
theorem l8{rs:List (List SV)}{i j:Nat}{row:List SV}(h:rs[i]?=some row)(e:j=i):rs[j]?=some row:=e▸h
theorem MP(l z:List Qd)(lim:Option Nat)(hl:l.length*224<=140741783322624):vW prog uv 74 1 [.sl (.loc 0) 0 16 l.length lim] [] [(0, .rows 16 ((l++z).map Zd))]
 (fun r O nx=>r= .sl (.loc 1) 0 16 l.length none/\O=[(1, .rows 16 (l.map Zd))]/\nx=2):=by
 refine vW.enter Z3 call74 func74 rfl 8 rfl rfl [.tmp 2] rfl ?_;intro w0 F η0 h0;conv=>whnf
 repeat'(first|rw[Zd1]|refine ud.mk (Ye 224 rfl rfl (by simp) (by simp) (by omega)) ?_|((with_reducible refine sx.mk (fun h=>?_) ?_)<;>try omega))<;>conv=>whnf
 .have:l=[]:=zO.1 h;subst this;refine u9.nil 16 ?_;exact u9.rows h0 1 16 0 rfl rfl rfl rfl ⟨rfl,rfl,rfl⟩
 .rw[zw];exact u9.rows h0 2 16 l.length rfl rfl rfl (Za _) ⟨rfl,rfl,rfl⟩
theorem Zb7(l:List Qd)(n:Nat)(hn:n<=l.length)(hl:l.length*224<=140741783322624):vW prog uv 119 1 [.sl (.loc 0) 0 16 n none] [(0, .rows 16 (l.map Zd))] []
 (fun r O nx=>r= .sl (.loc 0) 0 16 n (some n)/\O=[(0, .rows 16 (l.map Zd))]/\nx=1):=by
 refine vW.enter Z3 call119 func119 rfl 9 rfl rfl [.tmp 2] rfl ?_;intro w0 F η0 h0;conv=>whnf
 repeat'(first|refine ud.mk ⟨by omega,by omega,by omega⟩ ?_)<;>conv=>whnf
 refine u9.here h0 (rc:= .sl (.loc 0) 0 16 n (some n)) (Oc:=[(0, .rows 16 (l.map Zd))]) (by simp) rfl (by first|rfl|(simp only[Zu,Zp,Zc _ (Za _),zS,y6]<;>rfl)) ⟨rfl,trivial⟩ ⟨rfl,rfl,rfl⟩
theorem Z5F(l:List Qd)(hl:l.length*224<=140741783322624):vW prog uv 120 1 [.sl (.loc 0) 0 16 l.length none] [(0, .rows 16 (l.map Zd))] []
 (fun r O nx=>r= .sl (.loc 0) 0 16 (Z1 l).length none/\O=[(0, .rows 16 ((Z1 l++List.replicate (l.length-(Z1 l).length) Xj).map Zd))]/\nx=1):=by
 have fin:∀{m:Nat},m=(Z1 l).length->Z1 l=l->(SV.sl (.loc 0) 0 16 l.length none=SV.sl (.loc 0) 0 16 (Z1 l).length none)/\l.map Zd=(Z1 l++List.replicate (l.length-(Z1 l).length) Xj).map Zd:=fun hm he=>by
  rw[he];simp
 refine vW.enter Z3 call120 func120 rfl 61 rfl rfl [.tmp 2] rfl ?_;intro w0 F η0 h0;conv=>whnf
 refine IF.mk (fun h=>?_) (fun h=>?_)
 .have h:l.length<2:=by simp at h;omega
  obtain⟨f1,f2⟩:=fin rfl (VQ h);conv=>whnf
  rw[f1,f2];refine u9.here h0 (rc:= .sl (.loc 0) 0 16 (Z1 l).length none) (Oc:=[(0, .rows 16 ((Z1 l++List.replicate (l.length-(Z1 l).length) Xj).map Zd))]) rfl rfl (by first|rfl|(simp only[Zu,Zp,Zc _ (Za _),zS,y6]<;>rfl)) ⟨rfl,trivial⟩ ⟨rfl,rfl,rfl⟩
 have h2:2<=l.length:=by simp at h;omega
 clear h;conv=>whnf
 refine ua.go Z3 [0] (X:=Nat) (fun k=>1<=k/\k<=l.length/\Z1 (l.take k)=l.take k) (fun k=>[(3, .int .i64 (k:Int))]) (fun k=>[(0, .rows 16 (l.map Zd))]) 1 (fun k=>l.length-k) 1 ⟨by omega,by omega,WG⟩ ?_;conv=>whnf
 refine⟨by exact vY.cA h0,?_⟩;rintro k ⟨nD,cL,hk⟩;conv=>whnf
 rcases yD k l.length with hlt|hge
 .have hs:=X4 nD hlt;have hk':(IntKind.i64.wrap ((k:Int)-1)).toNat=k-1:=by rw[Z4 (by omega) (by omega)];omega
  repeat'(first|refine Zs 6 MO ?_|refine GET.at (row:=Zd (l[k]'(by omega))) (YT (by omega) (by omega)) ?_|refine GET.at (row:=Zd (l[k-1]'(by omega))) (YT (by omega) (by omega)) ?_|refine AU ?_|refine IW ?_ ?_<;>intro h<;>try omega)<;>conv=>whnf
  .have heq:l[k]=l[k-1]:=Qd.ext' (by simp only[Zd,Qd.row,x5,SV.int.injEq,SV.str.injEq,v7,vp];exact h);rw[z8 heq,hk]at hs;have hs0:(Z1 (l.take (k+1))).length=k:=by rw[hs];simp;omega
   clear h heq;refine ua.go Z3 [0,4] (X:=Nat) (fun i=>k+1<=i/\i<=l.length/\(Z1 (l.take i)).length+1<=i/\k<=(Z1 (l.take i)).length) (fun i=>[(3, .int .i64 ((Z1 (l.take i)).length:Int)),(5, .int .i64 ((i-k:Nat):Int))]) (fun i=>[(0, .rows 16 ((Z1 (l.take i)++l.drop (Z1 (l.take i)).length).map Zd))]) 1 (fun i=>l.length-i) (k+1) ⟨by omega,by omega,by omega,by omega⟩ ?_;conv=>whnf
   refine⟨by(refine vY.uA h0 rfl rfl rfl (by first|rfl|(simp only[Zu,Zp,Zc _ (Za _),zS,y6]<;>rfl)) ?_ ?_<;>(repeat'(first|(with_reducible rfl)|(exact YZ rfl (by first|(simp;done)|omega|(simp;omega)))|(exact zf (SV.int _) (by first|omega|(simp(disch:=omega) only[uP,Z4,Zb]<;>omega)|(simp;done)|(simp<;>omega)))|(exact zf (Hp.rows _) (by(rw[hs,zA,xN cL,xd])))|((conv=>whnf);refine⟨?_,?_⟩)|exact trivial|rfl))),?_⟩;rintro i ⟨hi1,hi2,rH,hi4⟩;obtain⟨C,hC⟩:∃C,C=Z1 (l.take i):=⟨_,rfl⟩;have hsi:=fun h=>X4 (l:=l) (i:=i) (by omega) h;rw[<-hC]at rH hi4 hsi;dsimp only;rw[<-hC];conv=>whnf
   rcases yD i l.length with hil|hil
   .have hsi:=hsi hil;have hwr:IntKind.i64.wrap (((i-k:Nat):Int)-1)=((i-1-k:Nat):Int):=by rw[Z4 (by omega) (by omega)];omega
    have hg1:((C++l.drop C.length).map Zd)[i]?=some (Zd l[i]):=l7 Zd (by omega) hil;have hg2:((C++l.drop C.length).map Zd)[i-1]?=some (Zd (l[i-1]'(by omega))):=l7 Zd (by omega) (by omega);have hg3:((C++l.drop C.length).map Zd)[C.length]?=some (Zd (l[C.length]'(by omega))):=l7 Zd (zn _) (by omega);repeat'(first|refine Zs 11 MO ?_|refine GET.at (row:=Zd (l[i]'(by omega))) (l8 hg1 (by omega)) ?_|refine GET.at (row:=Zd (l[i-1]'(by omega))) (l8 hg2 (by rw[hwr];omega)) ?_|refine GET.at (row:=Zd (l[C.length]'(by omega))) (l8 hg3 (by omega)) ?_|refine AU ?_|refine IW ?_ ?_<;>intro h<;>try omega)<;>conv=>whnf
    .have hne:¬l[i]=l[i-1]'(by omega):=fun he=>by rw[he]at h;simp at h
     rw[z6 hne]at hsi;refine⟨i+1,⟨by omega,by omega,by rw[hsi,ze];simp;omega,by rw[hsi,ze];simp;omega⟩,by omega,?_⟩;rw[hsi];conv=>whnf
     (refine vY.uA h0 rfl rfl rfl (by first|rfl|(simp only[Zu,Zp,Zc _ (Za _),zS,y6]<;>rfl)) ?_ ?_<;>(repeat'(first|(with_reducible rfl)|(exact YZ rfl (by first|(simp;done)|omega|(simp;omega)))|(exact zf (SV.int _) (by first|omega|(simp(disch:=omega) only[uP,Z4,Zb]<;>omega)|(simp;done)|(simp<;>omega)))|(exact zf (Hp.rows _) (by(first|(simp only[zw,Int.toNat_natCast];exact CD Zd _ (by omega))|rfl)))|((conv=>whnf);refine⟨?_,?_⟩)|exact trivial|rfl)))
    .have heq:l[i]=l[i-1]'(by omega):=Qd.ext' (by simp only[Zd,Qd.row,x5,SV.int.injEq,SV.str.injEq,v7,vp];exact h);rw[z8 heq]at hsi;refine⟨i+1,⟨by omega,by omega,by rw[hsi];omega,by rw[hsi];omega⟩,by omega,?_⟩;rw[hsi];conv=>whnf
     exact vY.cA h0
   .have mA:C=Z1 l:=by rw[hC,zo hil]
    have fL:C.length<=l.length:=by omega
    repeat'(first|refine ud.mk (by simp only[zj,ze,zW];omega) ?_|refine ud.mk ⟨by omega,KG (by omega)⟩ ?_|refine AU ?_|refine IW ?_ ?_<;>intro h<;>try omega)<;>conv=>whnf
    rw[<-mA];refine u9.here h0 (rc:= .sl (.loc 0) 0 16 C.length none) (Oc:=[(0, .rows 16 ((C++List.replicate (l.length-C.length) Xj).map Zd))]) (by simp) rfl (by first|rfl|(simp only[Zu,Zp,Zc _ (Za _),zS,y6]<;>rfl)) ⟨?_,trivial⟩ ⟨rfl,rfl,rfl⟩;refine zf (Hp.rows 16) ?_;simp only[zw,Int.toNat_natCast];exact CF Zd Xj fL
  .have hne:¬l[k]=l[k-1]:=fun he=>by rw[he]at h;simp at h
   rw[z6 hne,hk]at hs;refine⟨k+1,⟨by omega,by omega,by rw[hs,zB hlt]⟩,by omega,?_⟩;conv=>whnf
   exact vY.cA h0
 .have hkn:k=l.length:=by omega
  rw[hkn,zo (zn _)]at hk;obtain⟨f1,f2⟩:=fin rfl hk;repeat'(first|refine IW ?_ ?_<;>intro h<;>try omega)<;>conv=>whnf
  rw[f1,f2];refine u9.here h0 (rc:= .sl (.loc 0) 0 16 (Z1 l).length none) (Oc:=[(0, .rows 16 ((Z1 l++List.replicate (l.length-(Z1 l).length) Xj).map Zd))]) rfl rfl (by first|rfl|(simp only[Zu,Zp,Zc _ (Za _),zS,y6]<;>rfl)) ⟨rfl,trivial⟩ ⟨rfl,rfl,rfl⟩
def Zdf:Go.Shelf.Ren:=⟨fun|6=>75|15=>114|14=>113|28=>150|29=>151|20=>142|21=>143|22=>144|23=>145|24=>146|25=>147|26=>148|27=>149|46=>195|47=>196|48=>197|49=>198|50=>199|57=>247|n=>n,fun|22=>22|24=>67|25=>105|3=>3|39=>177|0=>0|53=>157|55=>162|4=>4|46=>208|45=>207|50=>103|5=>5|9=>9|66=>250|70=>87|76=>292|77=>130|n=>n,fun|n=>n⟩
theorem MQ:Go.Proofs.SlLaysF0.n6 prog Zdf where
 mixed:=by kernel_rfl
 f6:=⟨f75.name,by decide,func75.trans (zf some (by kernel_rfl))⟩
 f14:=⟨f113.name,by decide,func113.trans (zf some (by kernel_rfl))⟩
 f15:=func114.trans (zf some (by kernel_rfl))
 f20:=⟨f142.name,by decide,func142.trans (zf some (by kernel_rfl))⟩
 f21:=⟨f143.name,by decide,func143.trans (zf some (by kernel_rfl))⟩
 f22:=⟨f144.name,by decide,func144.trans (zf some (by kernel_rfl))⟩
 f23:=⟨f145.name,by decide,func145.trans (zf some (by kernel_rfl))⟩
 f24:=⟨f146.name,by decide,func146.trans (zf some (by kernel_rfl))⟩
 f25:=⟨f147.name,by decide,func147.trans (zf some (by kernel_rfl))⟩
 f26:=⟨f148.name,by decide,func148.trans (zf some (by kernel_rfl))⟩
 f27:=⟨f149.name,by decide,func149.trans (zf some (by kernel_rfl))⟩
 f28:=func150.trans (zf some (by kernel_rfl))
 f29:=func151.trans (zf some (by kernel_rfl))
 f46:=⟨f195.name,by decide,func195.trans (zf some (by kernel_rfl))⟩
 f47:=func196.trans (zf some (by kernel_rfl))
 f48:=func197.trans (zf some (by kernel_rfl))
 f49:=⟨f198.name,by decide,func198.trans (zf some (by kernel_rfl))⟩
 f50:=⟨f199.name,by decide,func199.trans (zf some (by kernel_rfl))⟩
 f57:=⟨f247.name,by decide,func247.trans (zf some (by kernel_rfl))⟩
 t0:=underlying0
 a0:=isAgg0
 z0:=sizeOf0
 v0:=zeroValue0
 t3:=underlying3
 a3:=isAgg3
 z3:=sizeOf3
 v3:=zeroValue3
 t4:=underlying4
 a4:=isAgg4
 z4:=sizeOf4
 v4:=zeroValue4
 t5:=underlying5
 a5:=isAgg5
 z5:=sizeOf5
 v5:=zeroValue5
 t9:=underlying9
 a9:=isAgg9
 z9:=sizeOf9
 v9:=zeroValue9
 t22:=underlying22
 a22:=isAgg22
 z22:=sizeOf22
 v22:=zeroValue22
 t25:=underlying105
 a25:=isAgg105
 z25:=sizeOf105
 v25:=zeroValue105
 t39:=underlying177
 a39:=isAgg177
 z39:=sizeOf177
 v39:=zeroValue177
 t45:=underlying207
 a45:=isAgg207
 z45:=sizeOf207
 v45:=zeroValue207
 t46:=underlying208
 a46:=isAgg208
 z46:=sizeOf208
 v46:=zeroValue208
 t50:=underlying103
 a50:=isAgg103
 z50:=sizeOf103
 v50:=zeroValue103
 t53:=underlying157
 a53:=isAgg157
 z53:=sizeOf157
 v53:=zeroValue157
 t55:=underlying162
 a55:=isAgg162
 z55:=sizeOf162
 v55:=zeroValue162
 t66:=underlying250
 a66:=isAgg250
 z66:=sizeOf250
 v66:=zeroValue250
 t70:=underlying87
 a70:=isAgg87
 z70:=sizeOf87
 v70:=zeroValue87
 t76:=underlying292
 a76:=isAgg292
 z76:=sizeOf292
 v76:=zeroValue292
 t77:=underlying130
 a77:=isAgg130
 z77:=sizeOf130
 v77:=zeroValue130
abbrev fI(s:List UInt8):Value:= .string ⟨s.toArray⟩
def G2(q:Qd):List Value:=[.int .i64 q.s.k,fI q.s.t,fI q.s.y,fI q.s.l, .int .i64 q.p.k,fI q.p.t,fI q.p.y,fI q.p.l, .int .i64 q.o.k,fI q.o.t,fI q.o.y,fI q.o.l, .int .i64 q.g.k,fI q.g.t,fI q.g.y,fI q.g.l]
instance :Inhabited Tm:=⟨ZF⟩
instance :Inhabited Qd:=⟨Xj⟩
theorem Hi{K:Type}(c:K->K->Int)(x y:K):ltOf c x y=decide (c x y<0):=rfl
theorem ZjZ{K:Type}{c:K->K->Int}(h:jS c):SWO (ltOf c) where
 irrefl x:=by rw[Hi,h.self];rfl
 trans x y z h1 h2:=by rw[Hi]at*;simp only[yt]at*;exact h.lt_trans h1 (by omega)
 ntrans x y z h1 h2:=by
  rw[Hi]at*;simp only[yL]at*;intro hc;have:=h.anti x y;have:=h.anti y z;have:=h.anti x z;have:=h.trans z y x (by omega) (by omega);omega
theorem Zk0{K:Type}{c:K->K->Int}(h:jS c)(x y:K)(h1:ltOf c x y=false)(h2:ltOf c y x=false):x=y:=by
 rw[Hi]at*;simp only[yL]at*;have:=h.anti x y;exact(h.zero x y).1 (by omega)
theorem ZfM{J:Env}:∀{vs us:List Value} {cs:List SV},vX J cs vs->vX J cs us->mw cs=true->vs=us:=fun h h' hd=>bf.of hd _ _ _ h h'
theorem CG(l:List Qd)(hl:l.length*224<=140741783322624):vW prog uv 75 1 [.sl (.loc 0) 0 16 l.length none, .fn (.func 47) [] []] [(0, .rows 16 (l.map Zd))] []
 (fun r O nx=>r= .uI []/\O=[(0, .rows 16 ((l.mergeSort (wW ZJ)).map Zd))]/\nx=1):=by
 have hrow:∀(J:Env) (q:Qd),vX J (Zd q) (G2 q)/\∀u∈G2 q,u.oneCell'=true:=fun J q=>by
  refine⟨by simp only[Zd,G2,vX,Den];exact⟨_,_,rfl,rfl,_,_,rfl,rfl,_,_,rfl,rfl,_,_,rfl,rfl,_,_,rfl,rfl,_,_,rfl,rfl,_,_,rfl,rfl,_,_,rfl,rfl,_,_,rfl,rfl,_,_,rfl,rfl,_,_,rfl,rfl,_,_,rfl,rfl,_,_,rfl,rfl,_,_,rfl,rfl,_,_,rfl,rfl,_,_,rfl,rfl,rfl⟩,fun u hu=>?_⟩;simp only[G2,zI,xh,or_false]at hu;rcases hu with rfl|rfl|rfl|rfl|rfl|rfl|rfl|rfl|rfl|rfl|rfl|rfl|rfl|rfl|rfl|rfl<;>rfl
 exact Z5D (enc:=G2) (k:=16) (row:=Zd) (cf:=ZJ) Z3 MQ MQ (fun w=>by kernel_rfl) (fun w=>by kernel_rfl) (fun q=>⟨rfl,rfl⟩) (by omega) (ZjZ qO) (Zk0 qO) rfl (fun x y=>Cv x y) call47 call75 hrow (fun J x vs h=>ZfM h (hrow J x).1 rfl) l (by omega)
end Go.Proofs.YtlcbipfmodcedaaGreatDoor
namespace Go.Proofs.YtlcbipfmodcedaaGreatDoor
open Go.Sx Go.Our
open _root_.Go.Proofs.Tryz
def G3{K:Type}(f:K->List SV)(es k:Nat)(z:K)(n:Nat)(l:List K):SV->u0->Nat->Prop:=fun r O nx=> ∃j,j+l.length<=n/\r= .sl (.loc k) 0 es l.length (some l.length)/\O=[(k, .rows es ((l++List.replicate j z).map f))]/\nx=k+1
theorem Z78(l z:List Qd)(lim:Option Nat)(hl:l.length*224<=140741783322624):vW prog uv 84 1 [.sl (.loc 0) 0 16 l.length lim, .fn (.func 47) [] []] [] [(0, .rows 16 ((l++z).map Zd))]
 (G3 Zd 16 1 Xj l.length (wQ ZJ l)):=by
 have hm:(l.mergeSort (wW ZJ)).length=l.length:=yE l;have hc:=VP (l.mergeSort (wW ZJ));have rI:(Z1 (l.mergeSort (wW ZJ))++List.replicate ((l.mergeSort (wW ZJ)).length-(Z1 (l.mergeSort (wW ZJ))).length) Xj).length*224<=140741783322624:=by rw[ze,zT];omega
 refine vW.enter Z3 call84 func84 rfl 14 rfl rfl [.tmp 4] rfl ?_;intro w0 F η0 h0;conv=>whnf
 refine CALL.aA [0] (MP l z lim hl) ?_;rintro r O nx ⟨rfl,rfl,rfl⟩;conv=>whnf
 refine CALL.aA [1] (CG l hl) ?_;rintro r O nx ⟨rfl,rfl,rfl⟩;conv=>whnf
 rw[<-hm];refine CALL.aA [1] (Z5F (l.mergeSort (wW ZJ)) (by omega)) ?_;rintro r O nx ⟨rfl,rfl,rfl⟩;conv=>whnf
 refine CALL.aA [1] (Zb7 (Z1 (l.mergeSort (wW ZJ))++List.replicate ((l.mergeSort (wW ZJ)).length-(Z1 (l.mergeSort (wW ZJ))).length) Xj) (Z1 (l.mergeSort (wW ZJ))).length (by simp) rI) ?_;rintro r O nx ⟨rfl,rfl,rfl⟩;conv=>whnf
 refine u9.aA h0 [1] (.sl (.loc 1) 0 16 (wQ ZJ l).length (some (wQ ZJ l).length)) [(1, .rows 16 ((wQ ZJ l++List.replicate ((l.mergeSort (wW ZJ)).length-(Z1 (l.mergeSort (wW ZJ))).length) Xj).map Zd))] ?_;exact⟨_,by unfold wQ;omega,rfl,rfl,rfl⟩
theorem Z8E(l z:List Qd)(lim:Option Nat)(hl:l.length*224<=140741783322624):vW prog uv 45 1 [.sl (.loc 0) 0 16 l.length lim] [] [(0, .rows 16 ((l++z).map Zd))] (G3 Zd 16 1 Xj l.length (wQ ZJ l)):=by
 refine vW.enter Z3 call45 func45 rfl 5 rfl rfl [.tmp 2] rfl ?_;intro w0 F η0 h0;conv=>whnf
 refine CALL.aA [0] (Z78 l z lim hl) ?_;rintro r O nx ⟨j,hj,rfl,rfl,rfl⟩;conv=>whnf
 refine u9.aA h0 [1] (.sl (.loc 1) 0 16 (wQ ZJ l).length (some (wQ ZJ l).length)) [(1, .rows 16 ((wQ ZJ l++List.replicate j Xj).map Zd))] ?_;exact⟨j,hj,rfl,rfl,rfl⟩
theorem Zb8(l z:List Qd)(lim:Option Nat)(hl:VU l):vW prog uv 45 1 [.sl (.loc 0) 0 16 l.length lim] [] [(0, .rows 16 ((l++z).map Zd))] (G3 Zd 16 1 Xj l.length (wQ ZJ l)):=Z8E l z lim (by unfold VU at hl;omega)
end Go.Proofs.YtlcbipfmodcedaaGreatDoor
namespace Go.Proofs.YtlcbipfmodcedaaGreatDoor
open Go.Sx Go.Our Go.Sort Go.Shelf
open _root_.Go.Proofs.Tryz
def MR:uJ:=(ZI [(0,1),(1,1),(2,1),(4,1),(5,1),(6,1),(7,1),(3,2),(8,2),(9,1)])
theorem Zb9(l:List (List UInt8))(n:Nat)(hn:n<=l.length)(hl:l.length*16<=140741783322624):vW prog uv 90 1 [.sl (.loc 0) 0 1 n none] [(0, .rows 1 (l.map Z9))] []
 (fun r O nx=>r= .sl (.loc 0) 0 1 n (some n)/\O=[(0, .rows 1 (l.map Z9))]/\nx=1):=by
 refine vW.enter Z3 call90 func90 rfl 9 rfl rfl [.tmp 2] rfl ?_;intro w0 F η0 h0;conv=>whnf
 repeat'(first|refine ud.mk ⟨by omega,by omega,by omega⟩ ?_)<;>conv=>whnf
 refine u9.here h0 (rc:= .sl (.loc 0) 0 1 n (some n)) (Oc:=[(0, .rows 1 (l.map Z9))]) (by simp) rfl (by first|rfl|(simp only[Zu,Zp,Zc _ (Zt _),zS,y6]<;>rfl)) ⟨rfl,trivial⟩ ⟨rfl,rfl,rfl⟩
theorem Z5I(l:List (List UInt8))(hl:l.length*16<=140741783322624):vW prog uv 91 1 [.sl (.loc 0) 0 1 l.length none] [(0, .rows 1 (l.map Z9))] []
 (fun r O nx=>r= .sl (.loc 0) 0 1 (Z1 l).length none/\O=[(0, .rows 1 ((Z1 l++List.replicate (l.length-(Z1 l).length) ([]:List UInt8)).map Z9))]/\nx=1):=by
 have fin:∀{m:Nat},m=(Z1 l).length->Z1 l=l->(SV.sl (.loc 0) 0 1 l.length none=SV.sl (.loc 0) 0 1 (Z1 l).length none)/\l.map Z9=(Z1 l++List.replicate (l.length-(Z1 l).length) ([]:List UInt8)).map Z9:=fun hm he=>by
  rw[he];simp
 refine vW.enter Z3 call91 func91 rfl 61 rfl rfl [.tmp 2] rfl ?_;intro w0 F η0 h0;conv=>whnf
 refine IF.mk (fun h=>?_) (fun h=>?_)
 .have h:l.length<2:=by simp at h;omega
  obtain⟨f1,f2⟩:=fin rfl (VQ h);conv=>whnf
  rw[f1,f2];refine u9.here h0 (rc:= .sl (.loc 0) 0 1 (Z1 l).length none) (Oc:=[(0, .rows 1 ((Z1 l++List.replicate (l.length-(Z1 l).length) ([]:List UInt8)).map Z9))]) rfl rfl (by first|rfl|(simp only[Zu,Zp,Zc _ (Zt _),zS,y6]<;>rfl)) ⟨rfl,trivial⟩ ⟨rfl,rfl,rfl⟩
 have h2:2<=l.length:=by simp at h;omega
 clear h;conv=>whnf
 refine ua.go Z3 [0] (X:=Nat) (fun k=>1<=k/\k<=l.length/\Z1 (l.take k)=l.take k) (fun k=>[(3, .int .i64 (k:Int))]) (fun k=>[(0, .rows 1 (l.map Z9))]) 1 (fun k=>l.length-k) 1 ⟨by omega,by omega,WG⟩ ?_;conv=>whnf
 refine⟨by exact vY.cA h0,?_⟩;rintro k ⟨nD,cL,hk⟩;conv=>whnf
 rcases yD k l.length with hlt|hge
 .have hs:=X4 nD hlt;have hk':(IntKind.i64.wrap ((k:Int)-1)).toNat=k-1:=by rw[Z4 (by omega) (by omega)];omega
  repeat'(first|refine Zs 6 MR ?_|refine GET.at (row:=Z9 (l[k]'(by omega))) (YT (by omega) (by omega)) ?_|refine GET.at (row:=Z9 (l[k-1]'(by omega))) (YT (by omega) (by omega)) ?_|refine AU ?_|refine IW ?_ ?_<;>intro h<;>try omega)<;>conv=>whnf
  .have heq:l[k]=l[k-1]:=id (h);rw[z8 heq,hk]at hs;have hs0:(Z1 (l.take (k+1))).length=k:=by rw[hs];simp;omega
   clear h heq;refine ua.go Z3 [0,4] (X:=Nat) (fun i=>k+1<=i/\i<=l.length/\(Z1 (l.take i)).length+1<=i/\k<=(Z1 (l.take i)).length) (fun i=>[(3, .int .i64 ((Z1 (l.take i)).length:Int)),(5, .int .i64 ((i-k:Nat):Int))]) (fun i=>[(0, .rows 1 ((Z1 (l.take i)++l.drop (Z1 (l.take i)).length).map Z9))]) 1 (fun i=>l.length-i) (k+1) ⟨by omega,by omega,by omega,by omega⟩ ?_;conv=>whnf
   refine⟨by(refine vY.uA h0 rfl rfl rfl (by first|rfl|(simp only[Zu,Zp,Zc _ (Zt _),zS,y6]<;>rfl)) ?_ ?_<;>(repeat'(first|(with_reducible rfl)|(exact YZ rfl (by first|(simp;done)|omega|(simp;omega)))|(exact zf (SV.int _) (by first|omega|(simp(disch:=omega) only[uP,Z4,Zb]<;>omega)|(simp;done)|(simp<;>omega)))|(exact zf (Hp.rows _) (by(rw[hs,zA,xN cL,xd])))|((conv=>whnf);refine⟨?_,?_⟩)|exact trivial|rfl))),?_⟩;rintro i ⟨hi1,hi2,rH,hi4⟩;obtain⟨C,hC⟩:∃C,C=Z1 (l.take i):=⟨_,rfl⟩;have hsi:=fun h=>X4 (l:=l) (i:=i) (by omega) h;rw[<-hC]at rH hi4 hsi;dsimp only;rw[<-hC];conv=>whnf
   rcases yD i l.length with hil|hil
   .have hsi:=hsi hil;have hwr:IntKind.i64.wrap (((i-k:Nat):Int)-1)=((i-1-k:Nat):Int):=by rw[Z4 (by omega) (by omega)];omega
    have hg1:((C++l.drop C.length).map Z9)[i]?=some (Z9 l[i]):=l7 Z9 (by omega) hil;have hg2:((C++l.drop C.length).map Z9)[i-1]?=some (Z9 (l[i-1]'(by omega))):=l7 Z9 (by omega) (by omega);have hg3:((C++l.drop C.length).map Z9)[C.length]?=some (Z9 (l[C.length]'(by omega))):=l7 Z9 (zn _) (by omega);repeat'(first|refine Zs 11 MR ?_|refine GET.at (row:=Z9 (l[i]'(by omega))) (l8 hg1 (by omega)) ?_|refine GET.at (row:=Z9 (l[i-1]'(by omega))) (l8 hg2 (by rw[hwr];omega)) ?_|refine GET.at (row:=Z9 (l[C.length]'(by omega))) (l8 hg3 (by omega)) ?_|refine AU ?_|refine IW ?_ ?_<;>intro h<;>try omega)<;>conv=>whnf
    .have hne:¬l[i]=l[i-1]'(by omega):=fun he=>by rw[he]at h;simp at h
     rw[z6 hne]at hsi;refine⟨i+1,⟨by omega,by omega,by rw[hsi,ze];simp;omega,by rw[hsi,ze];simp;omega⟩,by omega,?_⟩;rw[hsi];conv=>whnf
     (refine vY.uA h0 rfl rfl rfl (by first|rfl|(simp only[Zu,Zp,Zc _ (Zt _),zS,y6]<;>rfl)) ?_ ?_<;>(repeat'(first|(with_reducible rfl)|(exact YZ rfl (by first|(simp;done)|omega|(simp;omega)))|(exact zf (SV.int _) (by first|omega|(simp(disch:=omega) only[uP,Z4,Zb]<;>omega)|(simp;done)|(simp<;>omega)))|(exact zf (Hp.rows _) (by(first|(simp only[zw,Int.toNat_natCast];exact CD Z9 _ (by omega))|rfl)))|((conv=>whnf);refine⟨?_,?_⟩)|exact trivial|rfl)))
    .have heq:l[i]=l[i-1]'(by omega):=id (h);rw[z8 heq]at hsi;refine⟨i+1,⟨by omega,by omega,by rw[hsi];omega,by rw[hsi];omega⟩,by omega,?_⟩;rw[hsi];conv=>whnf
     exact vY.cA h0
   .have mA:C=Z1 l:=by rw[hC,zo hil]
    have fL:C.length<=l.length:=by omega
    repeat'(first|refine ud.mk (by simp only[zj,ze,zW];omega) ?_|refine ud.mk ⟨by omega,KG (by omega)⟩ ?_|refine AU ?_|refine IW ?_ ?_<;>intro h<;>try omega)<;>conv=>whnf
    rw[<-mA];refine u9.here h0 (rc:= .sl (.loc 0) 0 1 C.length none) (Oc:=[(0, .rows 1 ((C++List.replicate (l.length-C.length) ([]:List UInt8)).map Z9))]) (by simp) rfl (by first|rfl|(simp only[Zu,Zp,Zc _ (Zt _),zS,y6]<;>rfl)) ⟨?_,trivial⟩ ⟨rfl,rfl,rfl⟩;refine zf (Hp.rows 1) ?_;simp only[zw,Int.toNat_natCast];exact CF Z9 ([]:List UInt8) fL
  .have hne:¬l[k]=l[k-1]:=fun he=>by rw[he]at h;simp at h
   rw[z6 hne,hk]at hs;refine⟨k+1,⟨by omega,by omega,by rw[hs,zB hlt]⟩,by omega,?_⟩;conv=>whnf
   exact vY.cA h0
 .have hkn:k=l.length:=by omega
  rw[hkn,zo (zn _)]at hk;obtain⟨f1,f2⟩:=fin rfl hk;repeat'(first|refine IW ?_ ?_<;>intro h<;>try omega)<;>conv=>whnf
  rw[f1,f2];refine u9.here h0 (rc:= .sl (.loc 0) 0 1 (Z1 l).length none) (Oc:=[(0, .rows 1 ((Z1 l++List.replicate (l.length-(Z1 l).length) ([]:List UInt8)).map Z9))]) rfl rfl (by first|rfl|(simp only[Zu,Zp,Zc _ (Zt _),zS,y6]<;>rfl)) ⟨rfl,trivial⟩ ⟨rfl,rfl,rfl⟩
def Zba:Go.Shelf.Ren:=⟨fun|190=>89|125=>114|258=>125|128=>150|129=>151|302=>165|303=>166|304=>167|305=>168|306=>169|307=>170|308=>171|309=>172|310=>173|333=>217|329=>196|330=>197|334=>218|335=>219|336=>220|344=>268|n=>n,fun|31=>31|9=>9|3=>3|46=>177|0=>0|51=>157|53=>162|4=>4|183=>208|182=>207|131=>103|5=>5|218=>250|222=>87|228=>292|229=>130|n=>n,fun|n=>n⟩
theorem Zk1:Go.Proofs.Lays.n190 prog Zba where
 mixed:=by kernel_rfl
 f125:=func114.trans (zf some (by kernel_rfl))
 f128:=func150.trans (zf some (by kernel_rfl))
 f129:=func151.trans (zf some (by kernel_rfl))
 f190:=func89.trans (zf some (by kernel_rfl))
 f258:=func125.trans (zf some (by kernel_rfl))
 f302:=func165.trans (zf some (by kernel_rfl))
 f303:=func166.trans (zf some (by kernel_rfl))
 f304:=func167.trans (zf some (by kernel_rfl))
 f305:=func168.trans (zf some (by kernel_rfl))
 f306:=func169.trans (zf some (by kernel_rfl))
 f307:=func170.trans (zf some (by kernel_rfl))
 f308:=func171.trans (zf some (by kernel_rfl))
 f309:=func172.trans (zf some (by kernel_rfl))
 f310:=func173.trans (zf some (by kernel_rfl))
 f329:=func196.trans (zf some (by kernel_rfl))
 f330:=func197.trans (zf some (by kernel_rfl))
 f333:=func217.trans (zf some (by kernel_rfl))
 f334:=func218.trans (zf some (by kernel_rfl))
 f335:=func219.trans (zf some (by kernel_rfl))
 f336:=func220.trans (zf some (by kernel_rfl))
 f344:=func268.trans (zf some (by kernel_rfl))
 t0:=underlying0
 a0:=isAgg0
 z0:=sizeOf0
 v0:=zeroValue0
 t3:=underlying3
 a3:=isAgg3
 z3:=sizeOf3
 v3:=zeroValue3
 t4:=underlying4
 a4:=isAgg4
 z4:=sizeOf4
 v4:=zeroValue4
 t5:=underlying5
 a5:=isAgg5
 z5:=sizeOf5
 v5:=zeroValue5
 t9:=underlying9
 a9:=isAgg9
 z9:=sizeOf9
 v9:=zeroValue9
 t31:=underlying31
 a31:=isAgg31
 z31:=sizeOf31
 v31:=zeroValue31
 t46:=underlying177
 a46:=isAgg177
 z46:=sizeOf177
 v46:=zeroValue177
 t51:=underlying157
 a51:=isAgg157
 z51:=sizeOf157
 v51:=zeroValue157
 t53:=underlying162
 a53:=isAgg162
 z53:=sizeOf162
 v53:=zeroValue162
 t131:=underlying103
 a131:=isAgg103
 z131:=sizeOf103
 v131:=zeroValue103
 t182:=underlying207
 a182:=isAgg207
 z182:=sizeOf207
 v182:=zeroValue207
 t183:=underlying208
 a183:=isAgg208
 z183:=sizeOf208
 v183:=zeroValue208
 t218:=underlying250
 a218:=isAgg250
 z218:=sizeOf250
 v218:=zeroValue250
 t222:=underlying87
 a222:=isAgg87
 z222:=sizeOf87
 v222:=zeroValue87
 t228:=underlying292
 a228:=isAgg292
 z228:=sizeOf292
 v228:=zeroValue292
 t229:=underlying130
 a229:=isAgg130
 z229:=sizeOf130
 v229:=zeroValue130
theorem MS(l:List (List UInt8))(hl:l.length*16<=140737488351232):vW prog uv 89 1 [.sl (.loc 0) 0 1 l.length none] [(0, .rows 1 (l.map Z9))] []
 (fun r O nx=>r= .uI []/\O=[(0, .rows 1 ((l.mergeSort (wW cmpL)).map Z9))]/\nx=1):=
 Z7a Zk1 call89 l (by omega)
end Go.Proofs.YtlcbipfmodcedaaGreatDoor
namespace Go.Proofs.YtlcbipfmodcedaaGreatDoor
open Go.Sx Go.Our
theorem MU{l z:List Qd}{i:Nat}{k:Nat}(h:i<l.length)(e:k=i):((l++z).map Zd)[k]?=some (Zd l[i]):=by subst e;exact UV h
open _root_.Go.Proofs.Tryz
def ZfN:uJ:=(ZI [(0,1),(1,1),(2,1),(3,1),(4,1),(5,1),(6,1),(7,1),(8,1),(9,1),(10,1),(11,1),(12,1),(13,0)])
theorem MW(q:Qd):vW prog uv 44 1 [.ptr (.loc 0) 0 0 0] [] [(0, .box (Zd q))] (qd 1 (.arr 1 [[.ptr (.loc 0) 0 0 0],[.ptr (.loc 0) 0 0 4],[.ptr (.loc 0) 0 0 8],[.ptr (.loc 0) 0 0 12]])):=by
 refine vW.enter Z3 call44 func44 rfl 16 rfl rfl [.cell 2 100] rfl ?_;intro w0 F η0 h0;conv=>whnf
 repeat'(first|refine Zs 1 ZfN ?_|refine AU ?_)<;>conv=>whnf
 exact u9.here h0 (rc:= .arr 1 [[.ptr (.loc 0) 0 0 0],[.ptr (.loc 0) 0 0 4],[.ptr (.loc 0) 0 0 8],[.ptr (.loc 0) 0 0 12]]) (Oc:=[]) rfl rfl rfl trivial ⟨rfl,rfl,rfl⟩
open _root_.Go.Proofs.Tryz
theorem Zdu(c:Int)(hc:0<=c/\c<256):vW prog uv 255 0 [.int .u8 c] [] [] (wF (.uI [.int .i64 (mz c).1, .int .i32 (mz c).2])):=by
 refine vW.enter Z3 call255 func255 rfl 30 rfl rfl [.tmp 2, .tmp 3] rfl ?_;intro w0 F η0 h0;conv=>whnf
 repeat'(first|refine IW ?_ ?_<;>intro h<;>try omega)<;>conv=>whnf
 all_goals (refine u9.value h0 rfl ?_;unfold mz;(first|(simp(disch:=omega) only[↓z8,↓z6,ite_self,Z4,Zb,Int.reduceAdd,Int.reduceSub,Int.reduceMul,Int.reduceNeg,NW,NY,KK];done)|(simp(disch:=omega) only[↓z8,↓z6,ite_self,Z4,Zb,Int.reduceAdd,Int.reduceSub,Int.reduceMul,Int.reduceNeg,NW,NY,KK];with_reducible rfl)))
theorem Z8L(r:Int):vW prog uv 257 0 [.int .i32 r] [] [] (wF (.bool (FX r))):=by
 refine vW.enter Z3 call257 func257 rfl 17 rfl rfl [.tmp 2] rfl ?_;intro w0 F η0 h0;conv=>whnf
 skip
 refine u9.value h0 rfl (zf SV.bool ?_);rw[yh,Uo];simp only[vD,yN,Bool.if_false_right,Bool.if_true_left,zk,xD];omega
theorem Zbg(n:Int)(hn:0<=n/\n<5):vW prog uv 256 0 [.int .i64 n] [] [] (wF (.int .i32 (KH n))):=by
 have hn:n=0\/n=1\/n=2\/n=3\/n=4:=by omega
 rcases hn with rfl|rfl|rfl|rfl|rfl
 all_goals
  refine vW.enter Z3 call256 func256 rfl 6 rfl rfl [.tmp 2] rfl ?_;intro w0 F η0 h0;conv=>whnf
  repeat'(first|refine AU ?_)<;>conv=>whnf
  exact u9.value h0 rfl rfl
theorem Zil{c:Int}{n r:Int}(hc:0<=c/\c<256)(h:mz c=(n,r)):vW prog uv 255 0 [.int .u8 c] [] [] (wF (.uI [.int .i64 n, .int .i32 r])):=by
 have:=Zdu c hc;rw[h]at this;exact this
theorem CX(s:List UInt8)(i:Int)(hs:Sm s):vW prog uv 208 0 [.str s, .int .i64 i] [] [] (wF (.uI [.int .i32 (Zf s i).1, .int .i64 (Zf s i).2])):=by
 refine vW.enter Z3 call208 func208 rfl 65 rfl rfl [.tmp 4, .tmp 5] rfl ?_;intro w0 F η0 h0;conv=>whnf
 repeat'(first|refine AU ?_|refine IW ?_ ?_<;>intro h<;>try omega)<;>conv=>whnf
 .refine u9.value h0 rfl ?_;unfold Zf;rw[z8 h]
 .have e0:=Y7 s i;have e1:=Y7 s (i+1);have e2:=Y7 s (i+2);have e3:=Y7 s (i+3);have hl:=Z8r (Zm s i);rcases hl with⟨hb,hl⟩|⟨hb,hl⟩|⟨hb,hl⟩|⟨hb,hl⟩|⟨hb,hl⟩
  all_goals
   refine CALL.value (Zil e0 hl) rfl rfl ?_;conv=>whnf
   repeat'(first|refine CALL.value (Zbg _ (by omega)) rfl rfl ?_|refine ua.once Z3 ?_|refine CALL.value (Z8L _) rfl rfl ?_|refine AU ?_|refine IW ?_ ?_<;>intro h<;>try omega)<;>conv=>whnf
  all_goals
   refine u9.value h0 rfl ?_;unfold Zf gG r2 r3 r4;try simp(disch:=omega) only[M1,ZjS,Zi8,Zi9,Zia,Zib,Uo,NU]at*
   (simp(disch:=omega) only[↓z8,↓z6,ite_self,Z4,Zb,Int.reduceAdd,Int.reduceSub,Int.reduceMul,Int.reduceNeg,M1])
theorem Ld(s:List UInt8)(hs:Sm s):vW prog uv 160 0 [.str s] [] [] (wF (.int .i64 (cM s 0))):=by
 refine vW.enter Z3 call160 func160 rfl 22 rfl rfl [.tmp 2] rfl ?_;intro w0 F η0 h0;conv=>whnf
 refine ua.go Z3 [0] (X:=Nat) (fun i=>i<=s.length/\cM s i=cM s 0) (fun i=>[(3, .int .i64 (i:Int))]) (fun _=>[]) 0 (fun i=>s.length-i) 0 ⟨by omega,rfl⟩ ?_;conv=>whnf
 refine⟨by exact vY.cA h0,?_⟩;rintro i ⟨hi,hc⟩;conv=>whnf
 have hn:=Xa s i;repeat'(first|refine CALL.value (CX s _ hs) rfl rfl ?_|refine IW ?_ ?_<;>intro h<;>try omega)<;>conv=>whnf
 .have hz:(Zf s i).2=0:=h;refine u9.value h0 rfl ?_;rw[<-hc,Cj (by omega) hz]
 .rename_i h1;refine⟨i+(Zf s i).2.toNat,⟨by omega,?_⟩,by omega,?_⟩;rw[<-hc,<-Ck (by omega) h]
  .conv=>whnf
   exact vY.cA h0
 .refine u9.value h0 rfl ?_;rw[<-hc,NV (by omega)]
open _root_.Go.Proofs.Tryz
theorem We(s:List UInt8)(c:Int):vW prog uv 315 0 [.str s, .int .u8 c] [] [] (wF (.int .i64 (Lib.indexByte s c.toNat.toUInt8))):=by
 refine vW.says fun K w vs hd=>?_;simp only[vX,Den]at hd;obtain⟨u,us,rfl,rfl,u',us',rfl,rfl,rfl⟩:=hd;refine⟨_,?_,rfl⟩;rw[run_callFunc_extern func315 (by kernel_rfl) (by kernel_rfl) (by kernel_rfl) (e:=Extern.BytealgIndexByte.indexByte) (by kernel_rfl),Lib.run_indexByteString]
 rfl
theorem Ua(s:List UInt8)(c:Int):vW prog uv 301 0 [.str s, .int .u8 c] [] [] (wF (.int .i64 (Lib.indexByte s c.toNat.toUInt8))):=by
 refine vW.enter Z3 call301 func301 rfl 8 rfl rfl [.tmp 4] rfl ?_;intro w0 F η0 h0;conv=>whnf
 repeat'(first|refine CALL.value (We _ _) rfl rfl ?_)<;>conv=>whnf
 exact u9.value h0 rfl rfl
theorem Wp(s:List UInt8)(c:Int):vW prog uv 269 0 [.str s, .int .u8 c] [] [] (wF (.int .i64 (Lib.indexByte s c.toNat.toUInt8))):=by
 refine vW.enter Z3 call269 func269 rfl 8 rfl rfl [.tmp 4] rfl ?_;intro w0 F η0 h0;conv=>whnf
 repeat'(first|refine CALL.value (Ua _ _) rfl rfl ?_)<;>conv=>whnf
 exact u9.value h0 rfl rfl
theorem Z4f(r:Int):vW prog uv 308 0 [.int .i32 r] [] [] (wF (.bool (FX r))):=by
 refine vW.enter Z3 call308 func308 rfl 17 rfl rfl [.tmp 2] rfl ?_;intro w0 F η0 h0;conv=>whnf
 repeat'(first|refine IW ?_ ?_<;>intro h<;>try omega)<;>conv=>whnf
 all_goals
  refine u9.value h0 rfl (zf SV.bool ?_);rw[yh,Uo];simp;try omega
theorem Z7o(g:Nat)(p:Int->Bool)(hp:∀r:Int,XL r->vW prog uv g 0 [.int .i32 r] [] [] (wF (.bool (p r))))(s:List UInt8)(hs:Sm s):vW prog uv 250 0 [.str s, .fn (.func g) [] [], .bool true] [] [] (wF (.int .i64 (gY p s 0))):=by
 refine vW.enter Z3 call250 func250 rfl 21 rfl rfl [.tmp 6] rfl ?_;intro w0 F η0 h0;conv=>whnf
 refine ua.go Z3 [1,2,10] (X:=Nat) (fun i=>i<=s.length/\gY p s i=gY p s 0) (fun i=>[]) (fun i=>[(0, .wI s i)]) 1 (fun i=>s.length-i) 0 ⟨by omega,rfl⟩ ?_;conv=>whnf
 refine⟨by exact vY.cA h0,?_⟩;rintro i ⟨hi,hc⟩;conv=>whnf
 refine⟨fun h=>?_,fun h=>?_⟩
 .have h:i<s.length:=by simpa using h
  have hf:=CJ s i h;have hd:=Hs s i;conv=>whnf
  repeat'(first|refine CALL.value (hp _ (Z8F s i)) rfl rfl ?_|refine AU ?_|refine IW ?_ ?_<;>intro h<;>try omega)<;>conv=>whnf
  .refine u9.value h0 rfl ?_;rw[<-hc,MY (by omega) (by simpa using h)]
  .refine⟨i+(qQ s i).2,⟨by omega,?_⟩,by omega,?_⟩;rw[<-hc,<-CM (by omega) (by simpa using h)]
   .conv=>whnf
    exact vY.cA h0
 .have h:s.length<=i:=by simpa using h
  conv=>whnf
  repeat'(first|refine AU ?_)<;>conv=>whnf
  refine u9.value h0 rfl ?_;rw[<-hc,MX h]
theorem Z4g(g:Nat)(p:Int->Bool)(hp:∀r:Int,XL r->vW prog uv g 0 [.int .i32 r] [] [] (wF (.bool (p r))))(s:List UInt8)(hs:Sm s):vW prog uv 204 0 [.str s, .fn (.func g) [] []] [] [] (wF (.int .i64 (gY p s 0))):=by
 refine vW.enter Z3 call204 func204 rfl 8 rfl rfl [.tmp 4] rfl ?_;intro w0 F η0 h0;conv=>whnf
 repeat'(first|refine CALL.value (Z7o g p hp s hs) rfl rfl ?_)<;>conv=>whnf
 exact u9.value h0 rfl rfl
open _root_.Go.Proofs.Tryz
def Zim:uJ:=(ZI [(0,1),(1,1),(2,1),(3,1),(4,1),(5,1),(6,1)])
def Zin:uJ:=(ZI [(0,1),(1,1),(2,1),(3,1),(4,1),(5,1),(6,1),(7,3),(8,1)])
def tP(r:Int):Int:=if 0<=r/\r<128 then Lib.indexByte bars (IntKind.u8.wrap r).toNat.toUInt8 else-1
theorem Z4h(r:Int)(hr:XL r):vW prog uv 294 0 [.str bars, .int .i32 r] [] [] (wF (.int .i64 (tP r))):=by
 have hlen:bars.length=9:=rfl;refine vW.enter Z3 call294 func294 rfl 187 rfl rfl [.tmp 4] rfl ?_;intro w0 F η0 h0;conv=>whnf
 repeat'(first|refine CALL.value (Wp _ _) rfl rfl ?_|refine CALL.value (Z4f _) rfl rfl ?_|refine IW ?_ ?_<;>intro h<;>try omega)<;>conv=>whnf
 .refine u9.value h0 rfl ?_;unfold tP;rw[z8 h]
 .subst h;refine ua.go Z3 [175] (X:=Nat) (fun i=>i<=9) (fun i=>[]) (fun i=>[(0, .wI bars i)]) 1 (fun i=>9-i) 0 (by omega) ?_;conv=>whnf
  refine⟨by exact vY.cA h0,?_⟩;intro i hi;conv=>whnf
  refine⟨fun h=>?_,fun h=>?_⟩
  .have h:i<bars.length:=by simpa using h
   have hd:=UW (CQ i);have hb:=Y7 bars i;conv=>whnf
   refine IF.tt ?_;conv=>whnf
   refine IF.no (by rw[show Utf8.decode ⟨bars.toArray⟩ i=_ from hd];have:=CQ i;simp;omega) ?_;conv=>whnf
   refine⟨i+(qQ bars i).2,by rw[hd];show i+1<=9;omega,by rw[hd];show 9-(i+1)<9-i;omega,?_⟩;conv=>whnf
   exact vY.cA h0
  .conv=>whnf
   refine IF.ff ?_;conv=>whnf
   refine u9.value h0 rfl ?_;unfold tP;rw[z6 (by omega)]
 .rw[NU]at h;exact(h hr).elim
 .have hl:=ZfP (r:=r) (by unfold XL at hr;omega);have hh:=Zdm hr (by unfold XL at hr;omega);have he:=Zdl hr;rw[he];have hm:=Zbc (s:=jF r) (i:=((jF r).length:Int)-1) (by omega)
  have hm2:128<=Zm (jF r) (((jF r).length:Int)-1):=by
   obtain⟨c,hc,e⟩:=hm;rw[e];exact hh c hc
  have hm3:=Y7 (jF r) (((jF r).length:Int)-1);have hm4:=CQ (((jF r).length:Int)-1);refine ua.once Z3 ?_;conv=>whnf
  repeat'(first|refine Zs 6 Zim ?_|refine Zs 7 Zin ?_|refine qW.mk (fun _ _=>?_)|refine CALL.value (Wp _ _) rfl rfl ?_|refine AU ?_|refine IW ?_ ?_<;>intro h<;>try omega)<;>conv=>whnf
  .refine u9.value h0 rfl ?_;unfold tP;rw[z6 (by unfold XL at hr;omega)]
  .have:=ZfS (l:=List.drop (((jF r).length:Int)-1+1).toNat bars) (c:=Zm (jF r) (((jF r).length:Int)-1)) (by omega) (fun b hb=>ZfR b (vC hb));rw[this]at h;omega
theorem Z1b(r:Int)(hr:XL r):vW prog uv 251 0 [.str bars, .int .i32 r] [] [] (wF (.bool (decide (0<=tP r)))):=by
 refine vW.enter Z3 call251 func251 rfl 9 rfl rfl [.tmp 4] rfl ?_;intro w0 F η0 h0;conv=>whnf
 repeat'(first|refine CALL.value (Z4h r hr) rfl rfl ?_)<;>conv=>whnf
 exact u9.value h0 rfl rfl
theorem Zio{r:Int}(hr:XL r):(r<=32\/0<=tP r)<->Our.Barred r:=by
 unfold XL at hr;unfold tP;by_cases h:0<=r/\r<128
 .rw[z8 h];have:∀n:Nat,n<128->(((n:Int)<=32\/0<=Lib.indexByte bars (IntKind.u8.wrap (n:Int)).toNat.toUInt8)<->Our.Barred (n:Int)):=by decide+kernel
  have:=this r.toNat (by omega);rwa [show((r.toNat:Nat):Int)=r by omega]at this
 .rw[z6 h];unfold Our.Barred;omega
theorem Z8M(r:Int)(hr:XL r):vW prog uv 205 0 [.int .i32 r] [] [] (wF (.bool (WJ r))):=by
 refine vW.enter Z3 call205 func205 rfl 9 rfl rfl [.tmp 2] rfl ?_;intro w0 F η0 h0;conv=>whnf
 repeat'(first|refine CALL.value (Z1b r hr) rfl rfl ?_|refine AU ?_|refine IW ?_ ?_<;>intro h<;>try omega)<;>conv=>whnf
 all_goals
  refine u9.value h0 rfl (zf SV.bool ?_);rw[yh,Z7e,<-Zio hr];simp;try omega
theorem Z4i(s:List UInt8)(hs:Sm s):vW prog uv 157 0 [.str s] [] [] (wF (.int .i64 (oz s))):=by
 have hp:∀c:Int,128<=c->WJ c=false:=fun c hc=>by rw[Z5K];unfold Our.Barred;omega
 refine vW.enter Z3 call157 func157 rfl 15 rfl rfl [.tmp 2] rfl ?_;intro w0 F η0 h0;conv=>whnf
 repeat'(first|refine CALL.value (Ld s hs) rfl rfl ?_|refine CALL.value (Z4g _ WJ (fun r hr=>Z8M r hr) s hs) rfl rfl ?_|refine IW ?_ ?_<;>intro h<;>try omega)<;>conv=>whnf
 all_goals
  refine u9.value h0 rfl (zf (SV.int _) ?_);unfold oz
 rw[z8 (by omega)];rw[z6 (by omega),z8 (by omega)]
 all_goals
  rename_i h1 h2
  have hc:cM s 0= -1:=by
   have:=ZjP s 0;omega
  have:=Z7f WJ hp s 0 hc;rw[z6 (by omega),z6 (by omega)]
 rw[z8 (this.1 h)];rw[z6 (fun h'=>by have:=this.2 h';omega)]
theorem Z8N(s:List UInt8)(hs:Sm s):vW prog uv 158 0 [.str s] [] [] (wF (.str (s.take (jb s 0).toNat))):=by
 refine vW.enter Z3 call158 func158 rfl 61 rfl rfl [.tmp 2] rfl ?_;intro w0 F η0 h0;conv=>whnf
 refine ua.go Z3 [0,7] (X:=Nat) (fun i=>i<=s.length/\jb s i=jb s 0) (fun i=>[]) (fun i=>[(0, .wI s i)]) 1 (fun i=>s.length-i) 0 ⟨by omega,rfl⟩ ?_;conv=>whnf
 refine⟨by exact vY.cA h0,?_⟩;rintro i ⟨hi,hc⟩;conv=>whnf
 refine⟨fun h=>?_,fun h=>?_⟩
 .have h:i<s.length:=by simpa using h
  have hf:=CJ s i h;have hp:=Hs s i;have hb:=Y7 s i
  have hd:((qQ s i).1:Int)=Zm s i/\(qQ s i).2=1\/128<=Zm s i/\128<=(qQ s i).1:=by
   by_cases ha:Zm s i<128
   left;rw[UW ha];simp;omega
   right;exact⟨by omega,CL (by omega)⟩
  unfold qQ at*;generalize Utf8.decode ⟨s.toArray⟩ i=d at*;obtain⟨r,n⟩:=d;simp only at hf hp hd;conv=>whnf
  repeat'(first|refine AU ?_|refine IW ?_ ?_<;>intro h<;>try omega)<;>conv=>whnf
  all_goals first
   |(have hn:n=1:=by omega
     subst hn;refine⟨i+1,⟨hf,?_⟩,by omega,?_⟩;rw[<-hc,<-L2 (by omega) (by omega) (by unfold JH ai;omega)]
     .conv=>whnf
      exact vY.cA h0)
   |(refine u9.value h0 rfl (zf SV.str ?_);rw[<-hc,CP (by omega) (by omega)])
   |(refine u9.value h0 rfl (zf SV.str ?_);rw[<-hc]
     by_cases Le:Zm s i=58
     rw[CP (by omega) Le];rw[show(i:Int)=0 by omega];rfl
     rw[L3 (by omega) Le (by unfold JH ai;omega)];rfl)
 .have h:s.length<=i:=by simpa using h
  conv=>whnf
  repeat'(first|refine AU ?_)<;>conv=>whnf
  refine u9.value h0 rfl ?_;rw[<-hc,CO h];rfl
theorem Lf(s:List UInt8)(hs:Sm s):vW prog uv 121 0 [.str s] [] [] (wF (.int .i64 (dX s))):=by
 have hr:=ZfQ s 0;refine vW.enter Z3 call121 func121 rfl 12 rfl rfl [.tmp 2] rfl ?_;intro w0 F η0 h0;conv=>whnf
 repeat'(first|refine CALL.value (Z4i s hs) rfl rfl ?_|refine CALL.value (Z8N s hs) rfl rfl ?_|refine IW ?_ ?_<;>intro h<;>try omega)<;>conv=>whnf
 .refine u9.value h0 rfl (zf (SV.int _) ?_);unfold dX;rw[z8 h]
 .rename_i h1;refine u9.value h0 rfl (zf (SV.int _) ?_);unfold dX;rw[z6 (by omega),z8]
  have hz:(s.take (jb s 0).toNat).length=0:=by
   have:s.take (jb s 0).toNat=[]:=h;rw[this];rfl
  rw[zA]at hz;by_cases hl:s.length=0
  rw[CO (by omega)];omega
 .rename_i h1;refine u9.value h0 rfl (zf (SV.int _) ?_);unfold dX;rw[z6 (by omega),z6];intro h2;apply h;rw[h2];rfl
open _root_.Go.Proofs.Tryz
theorem Lg(r:Int):vW prog uv 299 0 [.int .i32 r] [] [] (wF (.bool (decide (JH r)))):=by
 refine vW.enter Z3 call299 func299 rfl 17 rfl rfl [.tmp 2] rfl ?_;intro w0 F η0 h0;conv=>whnf
 skip
 refine u9.value h0 rfl (zf SV.bool ?_);rw[yh];simp only[vD,yN,Bool.if_false_right,Bool.if_true_left,zk,xD]
 rfl
theorem JJ(r:Int):vW prog uv 254 0 [.int .i32 r] [] [] (wF (.bool (decide (rK r)))):=by
 refine vW.enter Z3 call254 func254 rfl 9 rfl rfl [.tmp 2] rfl ?_;intro w0 F η0 h0;conv=>whnf
 skip
 refine u9.value h0 rfl (zf SV.bool ?_);rw[yh];simp only[vD,yN,Bool.if_false_right,Bool.if_true_left,zk,xD]
 rfl
theorem Zbh(r:Int):vW prog uv 295 0 [.int .i32 r] [] [] (wF (.bool (decide (rJ r)))):=by
 refine vW.enter Z3 call295 func295 rfl 25 rfl rfl [.tmp 2] rfl ?_;intro w0 F η0 h0;conv=>whnf
 repeat'(first|refine CALL.value (Lg _) rfl rfl ?_|refine ua.once Z3 ?_|refine AU ?_|refine IW ?_ ?_<;>intro h<;>try omega)<;>conv=>whnf
 all_goals
  refine u9.value h0 rfl (zf SV.bool ?_)
  first
   |exact ve.2 (by unfold JH rJ;omega)
   |exact(yA (by unfold rJ;omega)).symm
   |exact(yp (by unfold rJ;omega)).symm
theorem Lh(r:Int):vW prog uv 253 0 [.int .i32 r] [] [] (wF (.bool (decide (tO r)))):=by
 refine vW.enter Z3 call253 func253 rfl 9 rfl rfl [.tmp 2] rfl ?_;intro w0 F η0 h0;conv=>whnf
 repeat'(first|refine CALL.value (Zbh _) rfl rfl ?_)<;>conv=>whnf
 all_goals
  refine u9.value h0 rfl (zf SV.bool ?_);rw[yh,yt];unfold tO;simp
theorem Z4j(r:Int):vW prog uv 252 0 [.int .i32 r] [] [] (wF (.bool (decide (YK r)))):=by
 refine vW.enter Z3 call252 func252 rfl 33 rfl rfl [.tmp 2] rfl ?_;intro w0 F η0 h0;conv=>whnf
 repeat'(first|refine CALL.value (Lh _) rfl rfl ?_|refine CALL.value (JJ _) rfl rfl ?_|refine AU ?_|refine IW ?_ ?_<;>intro h<;>try omega)<;>conv=>whnf
 all_goals
  refine u9.value h0 rfl (zf SV.bool ?_);rw[yh];unfold YK
  simp_all
  try omega
theorem Z7p(r:Int):vW prog uv 207 0 [.int .i32 r] [] [] (wF (.bool (decide (V2 r)))):=by
 refine vW.enter Z3 call207 func207 rfl 9 rfl rfl [.tmp 2] rfl ?_;intro w0 F η0 h0;conv=>whnf
 repeat'(first|refine CALL.value (Lh _) rfl rfl ?_|refine CALL.value (JJ _) rfl rfl ?_|refine AU ?_|refine IW ?_ ?_<;>intro h<;>try omega)<;>conv=>whnf
 all_goals
  refine u9.value h0 rfl (zf SV.bool ?_);unfold V2
  simp_all
theorem Zdv(g:Nat)(p:Int->Prop)[DecidablePred p](hp:∀r:Int,vW prog uv g 0 [.int .i32 r] [] [] (wF (.bool (decide (p r)))))(s:List UInt8)(i:Int)(hs:Sm s):vW prog uv 206 0 [.str s, .int .i64 i, .fn (.func g) [] []] [] [] (wF (.int .i64 (runM p s i))):=by
 have hn:=Xa s i;refine vW.enter Z3 call206 func206 rfl 55 rfl rfl [.tmp 6] rfl ?_;intro w0 F η0 h0;conv=>whnf
 repeat'(first|refine CALL.value (CX s _ hs) rfl rfl ?_|refine CALL.value (hp _) rfl rfl ?_|refine AU ?_|refine IW ?_ ?_<;>intro h<;>try omega)<;>conv=>whnf
 exact u9.value h0 rfl (zf (SV.int _) (by unfold runM;rw[z8 (.inl h)]));exact u9.value h0 rfl (zf (SV.int _) (by unfold runM;rw[z8 (.inr h)]));rename_i h1
 have hi:0<=i/\i<s.length:=by
  apply xX;intro hh;exact h1 (by unfold Zf;rw[z8 (by omega)])
 refine ua.go Z3 [0,1] (X:=Nat×Nat) (fun x=>x.1<=s.length/\x.2<=x.1/\ku s x.1 x.2=ku s (i.toNat+(Zf s i).2.toNat) (i.toNat+(Zf s i).2.toNat)) (fun x=>[(10, .int .i64 (x.1:Int)),(9, .int .i64 (x.2:Int))]) (fun i=>[]) 0 (fun x=>s.length-x.1) (i.toNat+(Zf s i).2.toNat,i.toNat+(Zf s i).2.toNat) ⟨by omega,by omega,rfl⟩ ?_;conv=>whnf
 refine⟨by exact vY.cA h0,?_⟩;rintro⟨j,e⟩ ⟨hj,he,hc⟩;simp only at hj he hc;have hn':=Xa s j;conv=>whnf
 repeat'(first|refine CALL.value (CX s _ hs) rfl rfl ?_|refine CALL.value (Z4j _) rfl rfl ?_|refine AU ?_|refine IW ?_ ?_<;>intro h<;>try omega)<;>conv=>whnf
 all_goals first
  |(refine u9.value h0 rfl (zf (SV.int _) ?_)
    unfold runM;rw[z6 (by simp[*]),<-hc,CS (by simp[*])]
    simp(disch:=omega) only[Z4])
  |(refine⟨(j+(Zf s j).2.toNat,if(Zf s j).1=46 then e else j+(Zf s j).2.toNat),⟨by simp only;omega,by simp only;split<;>omega,?_⟩,by simp only;omega,?_⟩
    .simp only;rw[<-hc,<-CR (by simp[*])]
    .conv=>whnf
     simp only[*,yH,xm]
     exact vY.cA h0)
theorem Z5R(s:List UInt8)(i:Int)(hs:Sm s):vW prog uv 159 0 [.str s, .int .i64 i] [] [] (wF (.int .i64 (runM V2 s i))):=by
 refine vW.enter Z3 call159 func159 rfl 8 rfl rfl [.tmp 4] rfl ?_;intro w0 F η0 h0;conv=>whnf
 repeat'(first|refine CALL.value (Zdv _ V2 (fun r=>Z7p r) s i hs) rfl rfl ?_)<;>conv=>whnf
 exact u9.value h0 rfl rfl
theorem Z8O(s:List UInt8)(hs:Sm s):vW prog uv 122 0 [.str s] [] [] (wF (.int .i64 (U9 s))):=by
 refine vW.enter Z3 call122 func122 rfl 14 rfl rfl [.tmp 2] rfl ?_;intro w0 F η0 h0;conv=>whnf
 repeat'(first|refine CALL.value (Z5R s _ hs) rfl rfl ?_|refine IW ?_ ?_<;>intro h<;>try omega)<;>conv=>whnf
 exact u9.value h0 rfl (zf (SV.int _) (by unfold U9;rw[z8 (by simpa using h)]));exact u9.value h0 rfl (zf (SV.int _) (by unfold U9;rw[z6 (by simp;exact h)]))
open _root_.Go.Proofs.Tryz
theorem JK(s:List UInt8)(least most:Int)(pure:Bool)(hs:Sm s):vW prog uv 260 0 [.str s, .int .i64 least, .int .i64 most, .bool pure] [] [] (wF (.bool (Y8 s least most pure))):=by
 refine vW.enter Z3 call260 func260 rfl 37 rfl rfl [.tmp 8] rfl ?_;intro w0 F η0 h0;conv=>whnf
 refine ua.go Z3 [0,1,2,3,12] (X:=Nat) (fun i=>i<=s.length/\fJ (Zn pure) s i=fJ (Zn pure) s 0) (fun i=>[]) (fun i=>[(0, .wI s i)]) 1 (fun i=>s.length-i) 0 ⟨by omega,rfl⟩ ?_;conv=>whnf
 refine⟨by exact vY.cA h0,?_⟩;rintro i ⟨hi,hc⟩;conv=>whnf
 refine⟨fun h=>?_,fun h=>?_⟩
 .have h:i<s.length:=by simpa using h
  have hf:=CJ s i h;have hp:=Hs s i
  have hd:((qQ s i).1:Int)=Zm s i/\(qQ s i).2=1\/128<=Zm s i/\128<=(qQ s i).1:=by
   have hb:=Y7 s i;by_cases ha:Zm s i<128
   left;rw[UW ha];simp;omega
   right;exact⟨by omega,CL (by omega)⟩
  unfold qQ at*;generalize Utf8.decode ⟨s.toArray⟩ i=d at*;obtain⟨r,n⟩:=d;simp only at hf hp hd
  have key:fJ (Zn pure) s 0=(Zn pure r&&fJ (Zn pure) s (i+n))\/128<=r/\fJ (Zn pure) s 0=false:=by
   rcases hd with⟨h1,rfl⟩|⟨h1,h2⟩
   left;rw[<-hc,L4 h,h1]
   right;exact⟨h2,by rw[<-hc,L4 h,L5 h1,Bool.false_and]⟩
  conv=>whnf
  repeat'(first|refine CALL.value (Lg _) rfl rfl ?_|refine CALL.value (JJ _) rfl rfl ?_|refine AU ?_|refine IW ?_ ?_<;>intro h<;>try omega)<;>conv=>whnf
  all_goals first
   |(refine u9.value h0 rfl (zf SV.bool ?_)
     have h1:Zn pure r=false:=by unfold Zn Ht Wn;simp[*]
     have h2:fJ (Zn pure) s 0=false:=by rcases key with h|h<;>simp[h,h1]
     unfold Y8;rw[h2];rfl)
   |(have h1:Zn pure r=true:=by unfold Zn Ht Wn;simp[*]
     refine⟨i+n,⟨hf,?_⟩,by omega,?_⟩
     .rcases key with h|h
      rw[h,h1,xF];rw[L5 (by omega)]at h1;cases h1
     .conv=>whnf
      exact vY.cA h0)
 .have h:s.length<=i:=by simpa using h
  conv=>whnf
  repeat'(first|refine AU ?_)<;>conv=>whnf
  all_goals
   refine u9.value h0 rfl (zf SV.bool ?_);unfold Y8;rw[<-hc,ZfU h,yh];simp[vD]
theorem V4(s:List UInt8):vW prog uv 211 0 [.str s] [] [] (wF (.bool (VX s))):=by
 refine vW.enter Z3 call211 func211 rfl 9 rfl rfl [.tmp 2] rfl ?_;intro w0 F η0 h0;conv=>whnf
 skip
 refine u9.value h0 rfl (zf SV.bool ?_);unfold VX;rw[yh];simp[vD]
theorem Li(s:List UInt8)(hs:Sm s):vW prog uv 263 0 [.str s] [] [] (wF (.bool (WK s))):=by
 have b0:=Y7 s 0;have b1:=Y7 s 1;have b2:=Y7 s 2;refine vW.enter Z3 call263 func263 rfl 28 rfl rfl [.tmp 2] rfl ?_;intro w0 F η0 h0;conv=>whnf
 repeat'(first|refine CALL.value (JK _ _ _ _ hs) rfl rfl ?_|refine CALL.value (JJ _) rfl rfl ?_|refine AU ?_|refine IW ?_ ?_<;>intro h<;>try omega)<;>conv=>whnf
 all_goals
  refine u9.value h0 rfl (zf SV.bool ?_);unfold WK Wn;try simp(disch:=omega) only[Zb]at*
  simp_all
  try omega
theorem V5(s:List UInt8)(hs:Sm s):vW prog uv 264 0 [.str s] [] [] (wF (.bool (CU s))):=by
 have b0:=Y7 s 0;have hm:Y8 s 4 4 false=true->s.length=4:=by unfold Y8;simp;omega
 refine vW.enter Z3 call264 func264 rfl 15 rfl rfl [.tmp 2] rfl ?_;intro w0 F η0 h0;conv=>whnf
 repeat'(first|refine CALL.value (JK _ _ _ _ hs) rfl rfl ?_|refine CALL.value (JJ _) rfl rfl ?_|refine ud.mk (by have:=hm (by assumption);omega) ?_|refine AU ?_|refine IW ?_ ?_<;>intro h<;>try omega)<;>conv=>whnf
 all_goals
  refine u9.value h0 rfl (zf SV.bool ?_);unfold CU Wn;try simp(disch:=omega) only[Zb]at*
  simp_all
theorem Xf(s:List UInt8)(hs:Sm s):vW prog uv 162 0 [.str s] [] [] (wF (.str (Zw s))):=by
 refine vW.enter Z3 call162 func162 rfl 29 rfl rfl [.tmp 2] rfl ?_;intro w0 F η0 h0;conv=>whnf
 repeat'(first|refine AU ?_)<;>conv=>whnf
 refine ua.go Z3 [3,8,9] (X:=Nat) (fun i=>i<=s.length) (fun i=>[(10, .int .i64 (i:Int))]) (fun i=>[(0, .rows 1 ((jc s i).map Sx.bytesRow))]) 1 (fun i=>s.length-i) 0 (by omega) ?_;conv=>whnf
 refine⟨by(refine vY.uA h0 rfl rfl rfl (by first|rfl|(simp only[Zu,Zp,Zc _ (UO _),zS,y6]<;>rfl)) ?_ ?_<;>(repeat'(first|(with_reducible rfl)|(exact YZ rfl (by first|(simp;done)|omega|(simp;omega)))|(exact zf (SV.int _) (by first|omega|(simp(disch:=omega) only[uP,Z4,Zb]<;>omega)|(simp;done)|(simp<;>omega)))|(exact zf (Hp.rows _) (by rw[Zds]))|((conv=>whnf);refine⟨?_,?_⟩)|exact trivial|rfl))),?_⟩;intro i hi;have hlen:=ZfV s i;conv=>whnf
 repeat'(first|refine GET.at (row:=Sx.bytesRow (s[i]'(by omega))) (by rw[show 0+(i:Int).toNat=i by omega];exact ZfZ (by omega)) ?_|refine AU ?_|refine IW ?_ ?_<;>intro h<;>try omega)<;>conv=>whnf
 .have hl:i<s.length:=by omega
  refine⟨i+1,by omega,by omega,?_⟩;conv=>whnf
  (refine vY.uA h0 rfl rfl rfl (by first|rfl|(simp only[Zu,Zp,Zc _ (UO _),zS,y6]<;>rfl)) ?_ ?_<;>(repeat'(first|(with_reducible rfl)|(exact YZ rfl (by first|(simp;done)|omega|(simp;omega)))|(exact zf (SV.int _) (by first|omega|(simp(disch:=omega) only[uP,Z4,Zb]<;>omega)|(simp;done)|(simp<;>omega)))|(exact zf (Hp.rows _) (by rw[Zij h,show 0+(i:Int).toNat=i by omega,Zg0 hl]))|((conv=>whnf);refine⟨?_,?_⟩)|exact trivial|rfl)))
 .have hl:i<s.length:=by omega
  refine⟨i+1,by omega,by omega,?_⟩;conv=>whnf
  (refine vY.uA h0 rfl rfl rfl (by first|rfl|(simp only[Zu,Zp,Zc _ (UO _),zS,y6]<;>rfl)) ?_ ?_<;>(repeat'(first|(with_reducible rfl)|(exact YZ rfl (by first|(simp;done)|omega|(simp;omega)))|(exact zf (SV.int _) (by first|omega|(simp(disch:=omega) only[uP,Z4,Zb]<;>omega)|(simp;done)|(simp<;>omega)))|(exact zf (Hp.rows _) (by rw[Zdt hl (Zik (by omega))]))|((conv=>whnf);refine⟨?_,?_⟩)|exact trivial|rfl)))
 .refine ud.mk (ZfE (by omega)) ?_;conv=>whnf
  refine u9.value h0 rfl (zf SV.str ?_);have:=Zi7 (jc s i);rw[hlen]at this;rw[this,ZfW (by omega)]
end Go.Proofs.YtlcbipfmodcedaaGreatDoor
