import Derived.Test.YtlcbipfmodcedaaGreatDoorProg
import Derived.Test.YtlcbipfmodcedaaGreatDoorRows
import Derived.Lib.LaidTab
import Derived.LaidSub
import Derived.Lib.Bytealg
import Derived.WalkKit
import Derived.Lib.FrozenHead
import Derived.Lib.Builder
import Derived.Lib.UnsafeStr
import Derived.Shelf.RegionOpenPlain
import Derived.Test.YtlcbipfmodcedaaGreatDoorTxt3
import Derived.Test.YtlcbipfmodcedaaGreatDoorTxt5
set_option maxRecDepth 100000
namespace Go.Proofs.YtlcbipfmodcedaaGreatDoor
open Go.Sx
open _root_.Go.Proofs.Tryz
def bt{K:Type}(t n:Nat)(a b:K):K:=match Nat.ble t n with|true=>a|false=>b
theorem HY{K:Type}{t n:Nat}{a b:K}(h:Nat.ble t n=false):bt t n a b=b:=by unfold bt;rw[h]
def MT(t:TypeId):Sh:=bt t 353 (bt t 176 (bt t 87 (bt t 43 (bt t 21 (bt t 10 (bt t 4 (bt t 1 (bt t 0 .plain .func) (bt t 2 (.int .i64) (bt t 3 (.int .i64) .bool))) (bt t 7 (bt t 5 (.int .u8) (bt t 6 (.int .u8) (.struct [(0,2),(1,3),(2,4),(3,6)]))) (bt t 8 (.struct [(0,2),(1,3),(2,4),(3,6)]) .str))) (bt t 15 (bt t 12 (bt t 11 .str (.int .u64)) (bt t 13 (.struct [(0,9),(1,12)]) (bt t 14 (.struct [(0,9),(1,12)]) (.ptr 342)))) (bt t 18 (bt t 16 (.ptr 345) (bt t 17 (.ptr 353) (.struct [(0,17)]))) (bt t 19 (.struct [(0,17)]) (bt t 20 .iface (.int .i32)))))) (bt t 32 (bt t 26 (bt t 23 (bt t 22 (.slice 67) .func) (bt t 24 (.slice 31) (bt t 25 (.int .i64) .plain))) (bt t 29 (bt t 27 .func (bt t 28 .plain .func)) (bt t 30 .func (bt t 31 (.slice 9) .func)))) (bt t 37 (bt t 34 (bt t 33 (.slice 39) .plain) (bt t 35 .func (bt t 36 .plain .func))) (bt t 40 (bt t 38 (.struct [(0,9),(1,9)]) (bt t 39 (.struct [(0,9),(1,9)]) .func)) (bt t 41 .func (bt t 42 .func .plain)))))) (bt t 65 (bt t 54 (bt t 48 (bt t 45 .func (bt t 46 .func (bt t 47 .func .plain))) (bt t 51 .func (bt t 52 (.slice 5) (bt t 53 .plain .func)))) (bt t 59 (bt t 56 (bt t 55 .plain .func) (bt t 57 (.array 32 5) (bt t 58 .plain .func))) (bt t 62 (bt t 60 .func (bt t 61 .func .plain)) (bt t 63 .func (.struct [(0,3),(1,9),(2,9),(3,9)]))))) (bt t 76 (bt t 70 (bt t 67 (.struct [(0,65),(4,65),(8,65),(12,65)]) (bt t 68 .func (bt t 69 (.ptr 77) .plain))) (bt t 73 (bt t 71 .func (bt t 72 (.slice 3) .func)) (bt t 74 (.map 9 3) (bt t 75 (.slice 72) (.struct [(0,22),(1,31),(2,74),(3,75)]))))) (bt t 81 (bt t 78 (bt t 77 (.struct [(0,22),(1,31),(2,74),(3,75)]) (.map 3 31)) (bt t 79 .func (bt t 80 (.ptr 83) .func))) (bt t 84 (bt t 82 (.struct [(0,22),(1,31),(2,74),(3,75)]) (bt t 83 (.struct [(0,22),(1,31),(2,74),(3,75)]) .func)) (bt t 85 .func (bt t 86 .func (.ptr 3)))))))) (bt t 131 (bt t 109 (bt t 98 (bt t 92 (bt t 89 .func (bt t 90 .func (bt t 91 (.ptr 93) (.struct [(0,80),(1,3),(2,4),(3,4),(4,22),(5,33)])))) (bt t 95 (bt t 93 (.struct [(0,80),(1,3),(2,4),(3,4),(4,22),(5,33)]) .func) .func)) (bt t 103 (bt t 100 (bt t 99 (.ptr 65) (.array 4 99)) (bt t 101 .func (bt t 102 (.ptr 67) .plain))) (bt t 106 (bt t 104 .func (bt t 105 .func (.array 4 65))) (bt t 107 .func (bt t 108 .func (.ptr 160)))))) (bt t 120 (bt t 114 (bt t 111 (bt t 110 .func .plain) .func) (bt t 117 (bt t 115 .func (bt t 116 (.ptr 121) .func)) (bt t 118 (.slice 200) (bt t 119 (.slice 22) (.struct [(0,31),(1,72),(2,118),(3,119),(4,3)]))))) (bt t 125 (bt t 122 (bt t 121 (.struct [(0,31),(1,72),(2,118),(3,119),(4,3)]) (.ptr 125)) (bt t 123 (.map 106 3) (.struct [(0,116),(1,3),(2,123),(3,72),(4,72),(5,3)]))) (bt t 128 (bt t 126 .func (bt t 127 .plain .func)) (bt t 129 .func (bt t 130 .plain .func)))))) (bt t 153 (bt t 142 (bt t 136 (bt t 133 (bt t 132 (.slice 135) .func) (bt t 134 (.struct [(0,3),(1,3),(2,22)]) (bt t 135 (.struct [(0,3),(1,3),(2,22)]) .func))) (bt t 139 .func (bt t 140 .func (bt t 141 .plain .func)))) (bt t 147 (bt t 144 (bt t 143 (.slice 65) .func) .func) .func)) (bt t 164 (bt t 158 (bt t 155 .func (bt t 156 .func (bt t 157 (.int .u32) (.array 8 157)))) (bt t 161 (bt t 159 (.struct [(0,158),(8,52),(9,3)]) (bt t 160 (.struct [(0,158),(8,52),(9,3)]) .func)) (bt t 162 (.int .u64) .func))) (bt t 170 .func (bt t 173 (bt t 171 .func (bt t 172 .func (.map 3 3))) (bt t 174 (.map 3 72) .func))))))) (bt t 264 (bt t 220 (bt t 198 (bt t 187 (bt t 181 (bt t 178 (bt t 177 (.int .u64) .func) .func) (bt t 184 (bt t 182 .func (bt t 183 .func (.ptr 186))) (bt t 185 (.struct [(0,184),(1,52)]) (bt t 186 (.struct [(0,184),(1,52)]) .func)))) (bt t 192 (bt t 189 .iface (bt t 190 .plain .func)) (bt t 195 (bt t 193 .func (bt t 194 (.array 64 157) .func)) (bt t 196 (.array 4 3) (.struct [(0,106),(16,196)]))))) (bt t 209 (bt t 203 (bt t 200 (bt t 199 .func (.slice 198)) .func) (bt t 206 .func (bt t 207 (.int .i64) (bt t 208 .plain .func)))) (bt t 214 .func (bt t 217 (bt t 215 (.array 24 5) (bt t 216 .func .plain)) .func)))) (bt t 242 (bt t 231 (bt t 225 (bt t 222 (bt t 221 .func (.struct [(0,9),(1,9),(2,9),(3,9),(4,31),(5,31),(6,9)])) (bt t 223 (.struct [(0,9),(1,9),(2,9),(3,9),(4,31),(5,31),(6,9)]) (bt t 224 .plain .func))) .func) (bt t 236 (bt t 233 (bt t 232 .func .plain) (bt t 234 .func (bt t 235 (.ptr 5) (.struct [(0,3),(1,3)])))) (bt t 239 (bt t 237 (.struct [(0,3),(1,3)]) (bt t 238 .plain .func)) (bt t 240 .func (bt t 241 (.array 3 9) .func))))) (bt t 253 (bt t 247 .func (bt t 250 (bt t 248 .func (bt t 249 .func (.int .u64))) .func)) (bt t 258 (bt t 255 .func (bt t 256 .func (bt t 257 (.array 20 162) (.array 65 5)))) (bt t 261 .func (bt t 262 .plain (bt t 263 .func (.ptr 267)))))))) (bt t 308 (bt t 286 (bt t 275 (bt t 269 (bt t 266 (bt t 265 .func (.struct [(0,31),(1,223)])) (bt t 267 (.struct [(0,31),(1,223)]) .func)) (bt t 272 (bt t 270 .plain (bt t 271 .func (.slice 25))) .func)) (bt t 280 (bt t 277 (bt t 276 .func .plain) .func) .func)) (bt t 297 (bt t 291 (bt t 288 (bt t 287 .func .plain) (bt t 289 .func (bt t 290 .plain .func))) (bt t 294 (bt t 292 (.ptr 250) .func) (bt t 295 .func (bt t 296 .plain .func)))) (bt t 302 .func (bt t 305 (bt t 303 (.ptr 305) (.struct [(0,3),(1,189)])) .func)))) (bt t 330 (bt t 319 (bt t 313 .func (bt t 316 (bt t 314 .func (bt t 315 (.ptr 318) .func)) (bt t 317 (.struct [(0,31)]) (bt t 318 (.struct [(0,31)]) .func)))) (bt t 324 (bt t 321 (bt t 320 (.ptr 223) .func) (bt t 322 .func (bt t 323 (.array 64 5) .func))) (bt t 327 (bt t 325 (.array 5 21) .func) (bt t 328 (.array 5 3) (bt t 329 .func (.array 28 3)))))) (bt t 341 (bt t 335 (bt t 332 .func (bt t 333 (.array 24 21) (bt t 334 .func (.array 256 5)))) (bt t 338 (bt t 336 (.struct [(0,5),(1,5)]) (bt t 337 (.struct [(0,5),(1,5)]) (.array 16 337))) (bt t 339 .plain (bt t 340 .func (.struct [(0,17),(1,17),(2,17),(3,9)]))))) (bt t 347 (bt t 344 (bt t 342 (.struct [(0,17),(1,17),(2,17),(3,9)]) (bt t 343 (.array 0 16) (.struct [(0,343)]))) (bt t 345 (.struct [(0,343)]) (bt t 346 .func (.int .u8)))) (bt t 350 (bt t 348 (.int .u8) (bt t 349 .func (.int .i32))) (bt t 351 (.int .i32) (.struct [(0,12),(1,12),(2,157),(3,347),(4,5),(5,5),(6,348),(7,349),(8,235),(9,350),(10,351)]))))))))) .other
def Zjn(t:TypeId):Nat:=bt t 353 (bt t 176 (bt t 87 (bt t 43 (bt t 21 (bt t 10 (bt t 4 1 (bt t 7 (bt t 5 1 (bt t 6 1 4)) (bt t 8 4 1))) (bt t 15 (bt t 12 1 (bt t 13 2 (bt t 14 2 1))) 1)) (bt t 32 1 (bt t 37 1 (bt t 40 (bt t 38 2 (bt t 39 2 1)) 1)))) (bt t 65 (bt t 54 1 (bt t 59 (bt t 56 1 (bt t 57 32 1)) (bt t 62 1 (bt t 63 1 4)))) (bt t 76 (bt t 70 (bt t 67 16 1) (bt t 73 1 (bt t 74 1 (bt t 75 1 4)))) (bt t 81 (bt t 78 (bt t 77 4 1) 1) (bt t 84 (bt t 82 4 (bt t 83 4 1)) 1))))) (bt t 131 (bt t 109 (bt t 98 (bt t 92 (bt t 89 1 (bt t 90 1 (bt t 91 1 6))) (bt t 95 (bt t 93 6 1) 1)) (bt t 103 (bt t 100 (bt t 99 1 4) 1) (bt t 106 (bt t 104 1 (bt t 105 1 16)) 1))) (bt t 120 (bt t 114 1 (bt t 117 1 (bt t 118 1 (bt t 119 1 5)))) (bt t 125 (bt t 122 (bt t 121 5 1) (bt t 123 1 6)) 1))) (bt t 153 (bt t 142 (bt t 136 (bt t 133 1 (bt t 134 3 (bt t 135 3 1))) 1) 1) (bt t 164 (bt t 158 (bt t 155 1 (bt t 156 1 (bt t 157 1 8))) (bt t 161 (bt t 159 10 (bt t 160 10 1)) 1)) 1)))) (bt t 264 (bt t 220 (bt t 198 (bt t 187 (bt t 181 1 (bt t 184 1 (bt t 185 2 (bt t 186 2 1)))) (bt t 192 1 (bt t 195 (bt t 193 1 (bt t 194 64 1)) (bt t 196 4 20)))) (bt t 209 1 (bt t 214 1 (bt t 217 (bt t 215 24 1) 1)))) (bt t 242 (bt t 231 (bt t 225 (bt t 222 (bt t 221 1 7) (bt t 223 7 1)) 1) (bt t 236 (bt t 233 1 (bt t 234 1 (bt t 235 1 2))) (bt t 239 (bt t 237 2 1) (bt t 240 1 (bt t 241 3 1))))) (bt t 253 1 (bt t 258 (bt t 255 1 (bt t 256 1 (bt t 257 20 65))) 1)))) (bt t 308 (bt t 286 (bt t 275 (bt t 269 (bt t 266 (bt t 265 1 8) (bt t 267 8 1)) 1) 1) (bt t 297 1 (bt t 302 1 (bt t 305 (bt t 303 1 2) 1)))) (bt t 330 (bt t 319 1 (bt t 324 (bt t 321 1 (bt t 322 1 (bt t 323 64 1))) (bt t 327 (bt t 325 5 1) (bt t 328 5 (bt t 329 1 28))))) (bt t 341 (bt t 335 (bt t 332 1 (bt t 333 24 (bt t 334 1 256))) (bt t 338 (bt t 336 2 (bt t 337 2 32)) (bt t 339 1 (bt t 340 1 4)))) (bt t 347 (bt t 344 (bt t 342 4 0) (bt t 345 0 1)) (bt t 350 1 (bt t 351 1 11)))))))) 0
def MU(t:TypeId):List SV:=bt t 353 (bt t 176 (bt t 87 (bt t 43 (bt t 21 (bt t 10 (bt t 4 (bt t 1 (bt t 0 [] [.val .nilFunc]) (bt t 2 [.int .i64 (0)] (bt t 3 [.int .i64 (0)] [.bool false]))) (bt t 7 (bt t 5 [.int .u8 (0)] (bt t 6 [.int .u8 (0)] [.int .i64 (0), .int .i64 (0), .bool false, .int .u8 (0)])) (bt t 8 [.int .i64 (0), .int .i64 (0), .bool false, .int .u8 (0)] ([.str []])))) (bt t 15 (bt t 12 (bt t 11 [.str []] [.int .u64 (0)]) (bt t 13 [.str [], .int .u64 (0)] (bt t 14 [.str [], .int .u64 (0)] [.val (.pointer none)]))) (bt t 18 [.val (.pointer none)] (bt t 19 [.val (.pointer none)] (bt t 20 [.val .nilIface] [.int .i32 (0)]))))) (bt t 32 (bt t 26 (bt t 23 (bt t 22 [.val (.slice none 0 0)] [.val .nilFunc]) (bt t 24 [.val (.slice none 0 0)] (bt t 25 [.int .i64 (0)] []))) (bt t 29 (bt t 27 [.val .nilFunc] (bt t 28 [] [.val .nilFunc])) (bt t 30 [.val .nilFunc] (bt t 31 [.val (.slice none 0 0)] [.val .nilFunc])))) (bt t 37 (bt t 34 (bt t 33 [.val (.slice none 0 0)] []) (bt t 35 [.val .nilFunc] (bt t 36 [] [.val .nilFunc]))) (bt t 40 (bt t 38 [.str [], .str []] (bt t 39 [.str [], .str []] [.val .nilFunc])) (bt t 41 [.val .nilFunc] (bt t 42 [.val .nilFunc] [])))))) (bt t 65 (bt t 54 (bt t 48 (bt t 45 [.val .nilFunc] (bt t 46 [.val .nilFunc] (bt t 47 [.val .nilFunc] []))) (bt t 51 [.val .nilFunc] (bt t 52 [.val (.slice none 0 0)] (bt t 53 [] [.val .nilFunc])))) (bt t 59 (bt t 56 (bt t 55 [] [.val .nilFunc]) (bt t 57 [.int .u8 (0), .int .u8 (0), .int .u8 (0), .int .u8 (0), .int .u8 (0), .int .u8 (0), .int .u8 (0), .int .u8 (0), .int .u8 (0), .int .u8 (0), .int .u8 (0), .int .u8 (0), .int .u8 (0), .int .u8 (0), .int .u8 (0), .int .u8 (0), .int .u8 (0), .int .u8 (0), .int .u8 (0), .int .u8 (0), .int .u8 (0), .int .u8 (0), .int .u8 (0), .int .u8 (0), .int .u8 (0), .int .u8 (0), .int .u8 (0), .int .u8 (0), .int .u8 (0), .int .u8 (0), .int .u8 (0), .int .u8 (0)] (bt t 58 [] [.val .nilFunc]))) (bt t 62 (bt t 60 [.val .nilFunc] (bt t 61 [.val .nilFunc] [])) (bt t 63 [.val .nilFunc] ([.int .i64 (0), .str [], .str [], .str []]))))) (bt t 76 (bt t 70 (bt t 67 ([.int .i64 (0), .str [], .str [], .str [], .int .i64 (0), .str [], .str [], .str [], .int .i64 (0), .str [], .str [], .str [], .int .i64 (0), .str [], .str [], .str []]) (bt t 68 [.val .nilFunc] (bt t 69 [.val (.pointer none)] []))) (bt t 73 (bt t 71 [.val .nilFunc] (bt t 72 [.val (.slice none 0 0)] [.val .nilFunc])) (bt t 74 [.val (.map none)] (bt t 75 [.val (.slice none 0 0)] [.val (.slice none 0 0), .val (.slice none 0 0), .val (.map none), .val (.slice none 0 0)])))) (bt t 81 (bt t 78 (bt t 77 [.val (.slice none 0 0), .val (.slice none 0 0), .val (.map none), .val (.slice none 0 0)] [.val (.map none)]) (bt t 79 [.val .nilFunc] (bt t 80 [.val (.pointer none)] [.val .nilFunc]))) (bt t 84 (bt t 82 [.val (.slice none 0 0), .val (.slice none 0 0), .val (.map none), .val (.slice none 0 0)] (bt t 83 [.val (.slice none 0 0), .val (.slice none 0 0), .val (.map none), .val (.slice none 0 0)] [.val .nilFunc])) (bt t 85 [.val .nilFunc] (bt t 86 [.val .nilFunc] [.val (.pointer none)]))))))) (bt t 131 (bt t 109 (bt t 98 (bt t 92 (bt t 89 [.val .nilFunc] (bt t 90 [.val .nilFunc] (bt t 91 [.val (.pointer none)] [.val (.pointer none), .int .i64 (0), .bool false, .bool false, .val (.slice none 0 0), .val (.slice none 0 0)]))) (bt t 95 (bt t 93 [.val (.pointer none), .int .i64 (0), .bool false, .bool false, .val (.slice none 0 0), .val (.slice none 0 0)] [.val .nilFunc]) [.val .nilFunc])) (bt t 103 (bt t 100 (bt t 99 [.val (.pointer none)] [.val (.pointer none), .val (.pointer none), .val (.pointer none), .val (.pointer none)]) (bt t 101 [.val .nilFunc] (bt t 102 [.val (.pointer none)] []))) (bt t 106 (bt t 104 [.val .nilFunc] (bt t 105 [.val .nilFunc] [.int .i64 (0), .str [], .str [], .str [], .int .i64 (0), .str [], .str [], .str [], .int .i64 (0), .str [], .str [], .str [], .int .i64 (0), .str [], .str [], .str []])) (bt t 107 [.val .nilFunc] (bt t 108 [.val .nilFunc] [.val (.pointer none)]))))) (bt t 120 (bt t 114 (bt t 111 (bt t 110 [.val .nilFunc] []) [.val .nilFunc]) (bt t 117 (bt t 115 [.val .nilFunc] (bt t 116 [.val (.pointer none)] [.val .nilFunc])) (bt t 118 [.val (.slice none 0 0)] (bt t 119 [.val (.slice none 0 0)] [.val (.slice none 0 0), .val (.slice none 0 0), .val (.slice none 0 0), .val (.slice none 0 0), .int .i64 (0)])))) (bt t 125 (bt t 122 (bt t 121 [.val (.slice none 0 0), .val (.slice none 0 0), .val (.slice none 0 0), .val (.slice none 0 0), .int .i64 (0)] [.val (.pointer none)]) (bt t 123 [.val (.map none)] [.val (.pointer none), .int .i64 (0), .val (.map none), .val (.slice none 0 0), .val (.slice none 0 0), .int .i64 (0)])) (bt t 128 (bt t 126 [.val .nilFunc] (bt t 127 [] [.val .nilFunc])) (bt t 129 [.val .nilFunc] (bt t 130 [] [.val .nilFunc])))))) (bt t 153 (bt t 142 (bt t 136 (bt t 133 (bt t 132 [.val (.slice none 0 0)] [.val .nilFunc]) (bt t 134 [.int .i64 (0), .int .i64 (0), .val (.slice none 0 0)] (bt t 135 [.int .i64 (0), .int .i64 (0), .val (.slice none 0 0)] [.val .nilFunc]))) (bt t 139 [.val .nilFunc] (bt t 140 [.val .nilFunc] (bt t 141 [] [.val .nilFunc])))) (bt t 147 (bt t 144 (bt t 143 [.val (.slice none 0 0)] [.val .nilFunc]) [.val .nilFunc]) [.val .nilFunc])) (bt t 164 (bt t 158 (bt t 155 [.val .nilFunc] (bt t 156 [.val .nilFunc] (bt t 157 [.int .u32 (0)] [.int .u32 (0), .int .u32 (0), .int .u32 (0), .int .u32 (0), .int .u32 (0), .int .u32 (0), .int .u32 (0), .int .u32 (0)]))) (bt t 161 (bt t 159 [.int .u32 (0), .int .u32 (0), .int .u32 (0), .int .u32 (0), .int .u32 (0), .int .u32 (0), .int .u32 (0), .int .u32 (0), .val (.slice none 0 0), .int .i64 (0)] (bt t 160 [.int .u32 (0), .int .u32 (0), .int .u32 (0), .int .u32 (0), .int .u32 (0), .int .u32 (0), .int .u32 (0), .int .u32 (0), .val (.slice none 0 0), .int .i64 (0)] [.val .nilFunc])) (bt t 162 [.int .u64 (0)] [.val .nilFunc]))) (bt t 170 [.val .nilFunc] (bt t 173 (bt t 171 [.val .nilFunc] (bt t 172 [.val .nilFunc] [.val (.map none)])) (bt t 174 [.val (.map none)] [.val .nilFunc]))))))) (bt t 264 (bt t 220 (bt t 198 (bt t 187 (bt t 181 (bt t 178 (bt t 177 [.int .u64 (0)] [.val .nilFunc]) [.val .nilFunc]) (bt t 184 (bt t 182 [.val .nilFunc] (bt t 183 [.val .nilFunc] [.val (.pointer none)])) (bt t 185 [.val (.pointer none), .val (.slice none 0 0)] (bt t 186 [.val (.pointer none), .val (.slice none 0 0)] [.val .nilFunc])))) (bt t 192 (bt t 189 [.val .nilIface] (bt t 190 [] [.val .nilFunc])) (bt t 195 (bt t 193 [.val .nilFunc] (bt t 194 [.int .u32 (0), .int .u32 (0), .int .u32 (0), .int .u32 (0), .int .u32 (0), .int .u32 (0), .int .u32 (0), .int .u32 (0), .int .u32 (0), .int .u32 (0), .int .u32 (0), .int .u32 (0), .int .u32 (0), .int .u32 (0), .int .u32 (0), .int .u32 (0), .int .u32 (0), .int .u32 (0), .int .u32 (0), .int .u32 (0), .int .u32 (0), .int .u32 (0), .int .u32 (0), .int .u32 (0), .int .u32 (0), .int .u32 (0), .int .u32 (0), .int .u32 (0), .int .u32 (0), .int .u32 (0), .int .u32 (0), .int .u32 (0), .int .u32 (0), .int .u32 (0), .int .u32 (0), .int .u32 (0), .int .u32 (0), .int .u32 (0), .int .u32 (0), .int .u32 (0), .int .u32 (0), .int .u32 (0), .int .u32 (0), .int .u32 (0), .int .u32 (0), .int .u32 (0), .int .u32 (0), .int .u32 (0), .int .u32 (0), .int .u32 (0), .int .u32 (0), .int .u32 (0), .int .u32 (0), .int .u32 (0), .int .u32 (0), .int .u32 (0), .int .u32 (0), .int .u32 (0), .int .u32 (0), .int .u32 (0), .int .u32 (0), .int .u32 (0), .int .u32 (0), .int .u32 (0)] [.val .nilFunc])) (bt t 196 [.int .i64 (0), .int .i64 (0), .int .i64 (0), .int .i64 (0)] ([.int .i64 (0), .str [], .str [], .str [], .int .i64 (0), .str [], .str [], .str [], .int .i64 (0), .str [], .str [], .str [], .int .i64 (0), .str [], .str [], .str [], .int .i64 (0), .int .i64 (0), .int .i64 (0), .int .i64 (0)]))))) (bt t 209 (bt t 203 (bt t 200 (bt t 199 [.val .nilFunc] [.val (.slice none 0 0)]) [.val .nilFunc]) (bt t 206 [.val .nilFunc] (bt t 207 [.int .i64 (0)] (bt t 208 [] [.val .nilFunc])))) (bt t 214 [.val .nilFunc] (bt t 217 (bt t 215 [.int .u8 (0), .int .u8 (0), .int .u8 (0), .int .u8 (0), .int .u8 (0), .int .u8 (0), .int .u8 (0), .int .u8 (0), .int .u8 (0), .int .u8 (0), .int .u8 (0), .int .u8 (0), .int .u8 (0), .int .u8 (0), .int .u8 (0), .int .u8 (0), .int .u8 (0), .int .u8 (0), .int .u8 (0), .int .u8 (0), .int .u8 (0), .int .u8 (0), .int .u8 (0), .int .u8 (0)] (bt t 216 [.val .nilFunc] [])) [.val .nilFunc])))) (bt t 242 (bt t 231 (bt t 225 (bt t 222 (bt t 221 [.val .nilFunc] [.str [], .str [], .str [], .str [], .val (.slice none 0 0), .val (.slice none 0 0), .str []]) (bt t 223 [.str [], .str [], .str [], .str [], .val (.slice none 0 0), .val (.slice none 0 0), .str []] (bt t 224 [] [.val .nilFunc]))) [.val .nilFunc]) (bt t 236 (bt t 233 (bt t 232 [.val .nilFunc] []) (bt t 234 [.val .nilFunc] (bt t 235 [.val (.pointer none)] [.int .i64 (0), .int .i64 (0)]))) (bt t 239 (bt t 237 [.int .i64 (0), .int .i64 (0)] (bt t 238 [] [.val .nilFunc])) (bt t 240 [.val .nilFunc] (bt t 241 [.str [], .str [], .str []] [.val .nilFunc]))))) (bt t 253 (bt t 247 [.val .nilFunc] (bt t 250 (bt t 248 [.val .nilFunc] (bt t 249 [.val .nilFunc] [.int .u64 (0)])) [.val .nilFunc])) (bt t 258 (bt t 255 [.val .nilFunc] (bt t 256 [.val .nilFunc] (bt t 257 [.int .u64 (0), .int .u64 (0), .int .u64 (0), .int .u64 (0), .int .u64 (0), .int .u64 (0), .int .u64 (0), .int .u64 (0), .int .u64 (0), .int .u64 (0), .int .u64 (0), .int .u64 (0), .int .u64 (0), .int .u64 (0), .int .u64 (0), .int .u64 (0), .int .u64 (0), .int .u64 (0), .int .u64 (0), .int .u64 (0)] [.int .u8 (0), .int .u8 (0), .int .u8 (0), .int .u8 (0), .int .u8 (0), .int .u8 (0), .int .u8 (0), .int .u8 (0), .int .u8 (0), .int .u8 (0), .int .u8 (0), .int .u8 (0), .int .u8 (0), .int .u8 (0), .int .u8 (0), .int .u8 (0), .int .u8 (0), .int .u8 (0), .int .u8 (0), .int .u8 (0), .int .u8 (0), .int .u8 (0), .int .u8 (0), .int .u8 (0), .int .u8 (0), .int .u8 (0), .int .u8 (0), .int .u8 (0), .int .u8 (0), .int .u8 (0), .int .u8 (0), .int .u8 (0), .int .u8 (0), .int .u8 (0), .int .u8 (0), .int .u8 (0), .int .u8 (0), .int .u8 (0), .int .u8 (0), .int .u8 (0), .int .u8 (0), .int .u8 (0), .int .u8 (0), .int .u8 (0), .int .u8 (0), .int .u8 (0), .int .u8 (0), .int .u8 (0), .int .u8 (0), .int .u8 (0), .int .u8 (0), .int .u8 (0), .int .u8 (0), .int .u8 (0), .int .u8 (0), .int .u8 (0), .int .u8 (0), .int .u8 (0), .int .u8 (0), .int .u8 (0), .int .u8 (0), .int .u8 (0), .int .u8 (0), .int .u8 (0), .int .u8 (0)]))) (bt t 261 [.val .nilFunc] (bt t 262 [] (bt t 263 [.val .nilFunc] [.val (.pointer none)]))))))) (bt t 308 (bt t 286 (bt t 275 (bt t 269 (bt t 266 (bt t 265 [.val .nilFunc] [.val (.slice none 0 0), .str [], .str [], .str [], .str [], .val (.slice none 0 0), .val (.slice none 0 0), .str []]) (bt t 267 [.val (.slice none 0 0), .str [], .str [], .str [], .str [], .val (.slice none 0 0), .val (.slice none 0 0), .str []] [.val .nilFunc])) (bt t 272 (bt t 270 [] (bt t 271 [.val .nilFunc] [.val (.slice none 0 0)])) [.val .nilFunc])) (bt t 280 (bt t 277 (bt t 276 [.val .nilFunc] [.val (.pointer none)]) [.val .nilFunc]) [.val .nilFunc])) (bt t 297 (bt t 291 (bt t 288 (bt t 287 [.val .nilFunc] []) (bt t 289 [.val .nilFunc] (bt t 290 [] [.val .nilFunc]))) (bt t 294 (bt t 292 [.val (.pointer none)] [.val .nilFunc]) (bt t 295 [.val .nilFunc] (bt t 296 [] [.val .nilFunc])))) (bt t 302 [.val .nilFunc] (bt t 305 (bt t 303 [.val (.pointer none)] [.int .i64 (0), .val .nilIface]) [.val .nilFunc])))) (bt t 330 (bt t 319 (bt t 313 [.val .nilFunc] (bt t 316 (bt t 314 [.val .nilFunc] (bt t 315 [.val (.pointer none)] [.val .nilFunc])) (bt t 317 [.val (.slice none 0 0)] (bt t 318 [.val (.slice none 0 0)] [.val .nilFunc])))) (bt t 324 (bt t 321 (bt t 320 [.val (.pointer none)] [.val .nilFunc]) (bt t 322 [.val .nilFunc] (bt t 323 [.int .u8 (0), .int .u8 (0), .int .u8 (0), .int .u8 (0), .int .u8 (0), .int .u8 (0), .int .u8 (0), .int .u8 (0), .int .u8 (0), .int .u8 (0), .int .u8 (0), .int .u8 (0), .int .u8 (0), .int .u8 (0), .int .u8 (0), .int .u8 (0), .int .u8 (0), .int .u8 (0), .int .u8 (0), .int .u8 (0), .int .u8 (0), .int .u8 (0), .int .u8 (0), .int .u8 (0), .int .u8 (0), .int .u8 (0), .int .u8 (0), .int .u8 (0), .int .u8 (0), .int .u8 (0), .int .u8 (0), .int .u8 (0), .int .u8 (0), .int .u8 (0), .int .u8 (0), .int .u8 (0), .int .u8 (0), .int .u8 (0), .int .u8 (0), .int .u8 (0), .int .u8 (0), .int .u8 (0), .int .u8 (0), .int .u8 (0), .int .u8 (0), .int .u8 (0), .int .u8 (0), .int .u8 (0), .int .u8 (0), .int .u8 (0), .int .u8 (0), .int .u8 (0), .int .u8 (0), .int .u8 (0), .int .u8 (0), .int .u8 (0), .int .u8 (0), .int .u8 (0), .int .u8 (0), .int .u8 (0), .int .u8 (0), .int .u8 (0), .int .u8 (0), .int .u8 (0)] [.val .nilFunc]))) (bt t 327 (bt t 325 [.int .i32 (0), .int .i32 (0), .int .i32 (0), .int .i32 (0), .int .i32 (0)] [.val .nilFunc]) (bt t 328 [.int .i64 (0), .int .i64 (0), .int .i64 (0), .int .i64 (0), .int .i64 (0)] (bt t 329 [.val .nilFunc] [.int .i64 (0), .int .i64 (0), .int .i64 (0), .int .i64 (0), .int .i64 (0), .int .i64 (0), .int .i64 (0), .int .i64 (0), .int .i64 (0), .int .i64 (0), .int .i64 (0), .int .i64 (0), .int .i64 (0), .int .i64 (0), .int .i64 (0), .int .i64 (0), .int .i64 (0), .int .i64 (0), .int .i64 (0), .int .i64 (0), .int .i64 (0), .int .i64 (0), .int .i64 (0), .int .i64 (0), .int .i64 (0), .int .i64 (0), .int .i64 (0), .int .i64 (0)]))))) (bt t 341 (bt t 335 (bt t 332 [.val .nilFunc] (bt t 333 [.int .i32 (0), .int .i32 (0), .int .i32 (0), .int .i32 (0), .int .i32 (0), .int .i32 (0), .int .i32 (0), .int .i32 (0), .int .i32 (0), .int .i32 (0), .int .i32 (0), .int .i32 (0), .int .i32 (0), .int .i32 (0), .int .i32 (0), .int .i32 (0), .int .i32 (0), .int .i32 (0), .int .i32 (0), .int .i32 (0), .int .i32 (0), .int .i32 (0), .int .i32 (0), .int .i32 (0)] (bt t 334 [.val .nilFunc] []))) (bt t 338 (bt t 336 [.int .u8 (0), .int .u8 (0)] (bt t 337 [.int .u8 (0), .int .u8 (0)] [.int .u8 (0), .int .u8 (0), .int .u8 (0), .int .u8 (0), .int .u8 (0), .int .u8 (0), .int .u8 (0), .int .u8 (0), .int .u8 (0), .int .u8 (0), .int .u8 (0), .int .u8 (0), .int .u8 (0), .int .u8 (0), .int .u8 (0), .int .u8 (0), .int .u8 (0), .int .u8 (0), .int .u8 (0), .int .u8 (0), .int .u8 (0), .int .u8 (0), .int .u8 (0), .int .u8 (0), .int .u8 (0), .int .u8 (0), .int .u8 (0), .int .u8 (0), .int .u8 (0), .int .u8 (0), .int .u8 (0), .int .u8 (0)])) (bt t 339 [] (bt t 340 [.val .nilFunc] [.val (.pointer none), .val (.pointer none), .val (.pointer none), .str []])))) (bt t 347 (bt t 344 (bt t 342 [.val (.pointer none), .val (.pointer none), .val (.pointer none), .str []] []) (bt t 345 [] (bt t 346 [.val .nilFunc] [.int .u8 (0)]))) (bt t 350 (bt t 348 [.int .u8 (0)] (bt t 349 [.val .nilFunc] [.int .i32 (0)])) (bt t 351 [.int .i32 (0)] [.int .u64 (0), .int .u64 (0), .int .u32 (0), .int .u8 (0), .int .u8 (0), .int .u8 (0), .int .u8 (0), .val .nilFunc, .val (.pointer none), .int .i32 (0), .int .i32 (0)])))))))) []
def Zh7(t:TypeId):Nat:=bt t 353 (bt t 176 (bt t 87 (bt t 43 (bt t 21 (bt t 10 (bt t 4 (bt t 1 (bt t 0 0 8) (bt t 2 8 (bt t 3 8 1))) (bt t 7 (bt t 5 1 (bt t 6 1 24)) (bt t 8 24 16))) (bt t 15 (bt t 12 (bt t 11 16 8) (bt t 13 24 (bt t 14 24 8))) (bt t 18 8 (bt t 19 8 (bt t 20 16 4))))) (bt t 32 (bt t 26 (bt t 23 (bt t 22 24 8) (bt t 24 24 (bt t 25 8 0))) (bt t 29 (bt t 27 8 (bt t 28 0 8)) (bt t 30 8 (bt t 31 24 8)))) (bt t 37 (bt t 34 (bt t 33 24 0) (bt t 35 8 (bt t 36 0 8))) (bt t 40 (bt t 38 32 (bt t 39 32 8)) (bt t 41 8 (bt t 42 8 0)))))) (bt t 65 (bt t 54 (bt t 48 (bt t 45 8 (bt t 46 8 (bt t 47 8 0))) (bt t 51 8 (bt t 52 24 (bt t 53 0 8)))) (bt t 59 (bt t 56 (bt t 55 0 8) (bt t 57 32 (bt t 58 0 8))) (bt t 62 (bt t 60 8 (bt t 61 8 0)) (bt t 63 8 56)))) (bt t 76 (bt t 70 (bt t 67 224 (bt t 68 8 (bt t 69 8 0))) (bt t 73 (bt t 71 8 (bt t 72 24 8)) (bt t 74 8 (bt t 75 24 80)))) (bt t 81 (bt t 78 (bt t 77 80 8) 8) (bt t 84 (bt t 82 80 (bt t 83 80 8)) 8))))) (bt t 131 (bt t 109 (bt t 98 (bt t 92 (bt t 89 8 (bt t 90 8 (bt t 91 8 72))) (bt t 95 (bt t 93 72 8) 8)) (bt t 103 (bt t 100 (bt t 99 8 32) (bt t 101 8 (bt t 102 8 0))) (bt t 106 (bt t 104 8 (bt t 105 8 224)) 8))) (bt t 120 (bt t 114 (bt t 111 (bt t 110 8 0) 8) (bt t 117 8 (bt t 118 24 (bt t 119 24 104)))) (bt t 125 (bt t 122 (bt t 121 104 8) (bt t 123 8 80)) (bt t 128 (bt t 126 8 (bt t 127 0 8)) (bt t 129 8 (bt t 130 0 8)))))) (bt t 153 (bt t 142 (bt t 136 (bt t 133 (bt t 132 24 8) (bt t 134 40 (bt t 135 40 8))) (bt t 139 8 (bt t 140 8 (bt t 141 0 8)))) (bt t 147 (bt t 144 (bt t 143 24 8) 8) 8)) (bt t 164 (bt t 158 (bt t 155 8 (bt t 156 8 (bt t 157 4 32))) (bt t 161 (bt t 159 64 (bt t 160 64 8)) 8)) 8)))) (bt t 264 (bt t 220 (bt t 198 (bt t 187 (bt t 181 8 (bt t 184 8 (bt t 185 32 (bt t 186 32 8)))) (bt t 192 (bt t 189 16 (bt t 190 0 8)) (bt t 195 (bt t 193 8 (bt t 194 256 8)) (bt t 196 32 256)))) (bt t 209 (bt t 203 (bt t 200 (bt t 199 8 24) 8) (bt t 206 8 (bt t 207 8 (bt t 208 0 8)))) (bt t 214 8 (bt t 217 (bt t 215 24 (bt t 216 8 0)) 8)))) (bt t 242 (bt t 231 (bt t 225 (bt t 222 (bt t 221 8 128) (bt t 223 128 (bt t 224 0 8))) 8) (bt t 236 (bt t 233 (bt t 232 8 0) (bt t 234 8 (bt t 235 8 16))) (bt t 239 (bt t 237 16 (bt t 238 0 8)) (bt t 240 8 (bt t 241 48 8))))) (bt t 253 8 (bt t 258 (bt t 255 8 (bt t 256 8 (bt t 257 160 65))) (bt t 261 8 (bt t 262 0 8)))))) (bt t 308 (bt t 286 (bt t 275 (bt t 269 (bt t 266 (bt t 265 8 152) (bt t 267 152 8)) (bt t 272 (bt t 270 0 (bt t 271 8 24)) 8)) 8) (bt t 297 (bt t 291 (bt t 288 (bt t 287 8 0) (bt t 289 8 (bt t 290 0 8))) (bt t 294 8 (bt t 295 8 (bt t 296 0 8)))) (bt t 302 8 (bt t 305 (bt t 303 8 24) 8)))) (bt t 330 (bt t 319 (bt t 313 8 (bt t 316 8 (bt t 317 24 (bt t 318 24 8)))) (bt t 324 (bt t 321 8 (bt t 322 8 (bt t 323 64 8))) (bt t 327 (bt t 325 20 8) (bt t 328 40 (bt t 329 8 224))))) (bt t 341 (bt t 335 (bt t 332 8 (bt t 333 96 (bt t 334 8 256))) (bt t 338 (bt t 336 2 (bt t 337 2 32)) (bt t 339 0 (bt t 340 8 40)))) (bt t 347 (bt t 344 (bt t 342 40 0) (bt t 345 0 (bt t 346 8 1))) (bt t 350 (bt t 348 1 (bt t 349 8 4)) (bt t 351 4 48)))))))) 0
def MV(t:TypeId):Option (List CK):=bt t 353 (bt t 176 (bt t 87 (bt t 43 (bt t 21 none (bt t 32 none (bt t 37 none (bt t 40 (bt t 38 none (bt t 39 (some [.str, .str]) none)) none)))) (bt t 65 (bt t 54 none (bt t 59 (bt t 56 none (bt t 57 (some [.int .u8, .int .u8, .int .u8, .int .u8, .int .u8, .int .u8, .int .u8, .int .u8, .int .u8, .int .u8, .int .u8, .int .u8, .int .u8, .int .u8, .int .u8, .int .u8, .int .u8, .int .u8, .int .u8, .int .u8, .int .u8, .int .u8, .int .u8, .int .u8, .int .u8, .int .u8, .int .u8, .int .u8, .int .u8, .int .u8, .int .u8, .int .u8]) none)) (bt t 62 none (bt t 63 none (bt t 64 none (some [.int .i64, .str, .str, .str])))))) (bt t 76 (bt t 70 (bt t 67 (bt t 66 none (some [.int .i64, .str, .str, .str, .int .i64, .str, .str, .str, .int .i64, .str, .str, .str, .int .i64, .str, .str, .str])) none) none) none))) (bt t 131 (bt t 109 (bt t 98 none (bt t 103 none (bt t 106 (bt t 104 none (bt t 105 none (some [.int .i64, .str, .str, .str, .int .i64, .str, .str, .str, .int .i64, .str, .str, .str, .int .i64, .str, .str, .str]))) none))) none) (bt t 153 none (bt t 164 (bt t 158 (bt t 155 none (bt t 156 none (bt t 157 none (some [.int .u32, .int .u32, .int .u32, .int .u32, .int .u32, .int .u32, .int .u32, .int .u32])))) none) none)))) (bt t 264 (bt t 220 (bt t 198 (bt t 187 none (bt t 192 none (bt t 195 (bt t 193 none (bt t 194 (some [.int .u32, .int .u32, .int .u32, .int .u32, .int .u32, .int .u32, .int .u32, .int .u32, .int .u32, .int .u32, .int .u32, .int .u32, .int .u32, .int .u32, .int .u32, .int .u32, .int .u32, .int .u32, .int .u32, .int .u32, .int .u32, .int .u32, .int .u32, .int .u32, .int .u32, .int .u32, .int .u32, .int .u32, .int .u32, .int .u32, .int .u32, .int .u32, .int .u32, .int .u32, .int .u32, .int .u32, .int .u32, .int .u32, .int .u32, .int .u32, .int .u32, .int .u32, .int .u32, .int .u32, .int .u32, .int .u32, .int .u32, .int .u32, .int .u32, .int .u32, .int .u32, .int .u32, .int .u32, .int .u32, .int .u32, .int .u32, .int .u32, .int .u32, .int .u32, .int .u32, .int .u32, .int .u32, .int .u32, .int .u32]) none)) (bt t 196 (some [.int .i64, .int .i64, .int .i64, .int .i64]) (bt t 197 none (some [.int .i64, .str, .str, .str, .int .i64, .str, .str, .str, .int .i64, .str, .str, .str, .int .i64, .str, .str, .str, .int .i64, .int .i64, .int .i64, .int .i64])))))) (bt t 209 none (bt t 214 none (bt t 217 (bt t 215 (some [.int .u8, .int .u8, .int .u8, .int .u8, .int .u8, .int .u8, .int .u8, .int .u8, .int .u8, .int .u8, .int .u8, .int .u8, .int .u8, .int .u8, .int .u8, .int .u8, .int .u8, .int .u8, .int .u8, .int .u8, .int .u8, .int .u8, .int .u8, .int .u8]) none) none)))) (bt t 242 (bt t 231 none (bt t 236 none (bt t 239 (bt t 237 (some [.int .i64, .int .i64]) none) (bt t 240 none (bt t 241 (some [.str, .str, .str]) none))))) (bt t 253 none (bt t 258 (bt t 255 none (bt t 256 none (bt t 257 (some [.int .u64, .int .u64, .int .u64, .int .u64, .int .u64, .int .u64, .int .u64, .int .u64, .int .u64, .int .u64, .int .u64, .int .u64, .int .u64, .int .u64, .int .u64, .int .u64, .int .u64, .int .u64, .int .u64, .int .u64]) (some [.int .u8, .int .u8, .int .u8, .int .u8, .int .u8, .int .u8, .int .u8, .int .u8, .int .u8, .int .u8, .int .u8, .int .u8, .int .u8, .int .u8, .int .u8, .int .u8, .int .u8, .int .u8, .int .u8, .int .u8, .int .u8, .int .u8, .int .u8, .int .u8, .int .u8, .int .u8, .int .u8, .int .u8, .int .u8, .int .u8, .int .u8, .int .u8, .int .u8, .int .u8, .int .u8, .int .u8, .int .u8, .int .u8, .int .u8, .int .u8, .int .u8, .int .u8, .int .u8, .int .u8, .int .u8, .int .u8, .int .u8, .int .u8, .int .u8, .int .u8, .int .u8, .int .u8, .int .u8, .int .u8, .int .u8, .int .u8, .int .u8, .int .u8, .int .u8, .int .u8, .int .u8, .int .u8, .int .u8, .int .u8, .int .u8])))) none)))) (bt t 308 none (bt t 330 (bt t 319 none (bt t 324 (bt t 321 none (bt t 322 none (bt t 323 (some [.int .u8, .int .u8, .int .u8, .int .u8, .int .u8, .int .u8, .int .u8, .int .u8, .int .u8, .int .u8, .int .u8, .int .u8, .int .u8, .int .u8, .int .u8, .int .u8, .int .u8, .int .u8, .int .u8, .int .u8, .int .u8, .int .u8, .int .u8, .int .u8, .int .u8, .int .u8, .int .u8, .int .u8, .int .u8, .int .u8, .int .u8, .int .u8, .int .u8, .int .u8, .int .u8, .int .u8, .int .u8, .int .u8, .int .u8, .int .u8, .int .u8, .int .u8, .int .u8, .int .u8, .int .u8, .int .u8, .int .u8, .int .u8, .int .u8, .int .u8, .int .u8, .int .u8, .int .u8, .int .u8, .int .u8, .int .u8, .int .u8, .int .u8, .int .u8, .int .u8, .int .u8, .int .u8, .int .u8, .int .u8]) none))) (bt t 327 (bt t 325 (some [.int .i32, .int .i32, .int .i32, .int .i32, .int .i32]) none) (bt t 328 (some [.int .i64, .int .i64, .int .i64, .int .i64, .int .i64]) (bt t 329 none (some [.int .i64, .int .i64, .int .i64, .int .i64, .int .i64, .int .i64, .int .i64, .int .i64, .int .i64, .int .i64, .int .i64, .int .i64, .int .i64, .int .i64, .int .i64, .int .i64, .int .i64, .int .i64, .int .i64, .int .i64, .int .i64, .int .i64, .int .i64, .int .i64, .int .i64, .int .i64, .int .i64, .int .i64])))))) (bt t 341 (bt t 335 (bt t 332 none (bt t 333 (some [.int .i32, .int .i32, .int .i32, .int .i32, .int .i32, .int .i32, .int .i32, .int .i32, .int .i32, .int .i32, .int .i32, .int .i32, .int .i32, .int .i32, .int .i32, .int .i32, .int .i32, .int .i32, .int .i32, .int .i32, .int .i32, .int .i32, .int .i32, .int .i32]) none)) (bt t 338 (bt t 336 none (bt t 337 (some [.int .u8, .int .u8]) (some [.int .u8, .int .u8, .int .u8, .int .u8, .int .u8, .int .u8, .int .u8, .int .u8, .int .u8, .int .u8, .int .u8, .int .u8, .int .u8, .int .u8, .int .u8, .int .u8, .int .u8, .int .u8, .int .u8, .int .u8, .int .u8, .int .u8, .int .u8, .int .u8, .int .u8, .int .u8, .int .u8, .int .u8, .int .u8, .int .u8, .int .u8, .int .u8]))) none)) none))))) none
def MW(t:TypeId):Option (Bool×List CK):=bt t 353 (bt t 176 (bt t 87 (bt t 43 (bt t 21 (bt t 10 (bt t 4 (bt t 1 none (bt t 2 none (bt t 3 (some (false,[.int .i64])) none))) (bt t 7 none (bt t 8 none (bt t 9 (some (false,[.str])) none)))) none) none) none) (bt t 131 (bt t 109 (bt t 98 none (bt t 103 none (bt t 106 (bt t 104 none (bt t 105 none (some (true,[.int .i64, .str, .str, .str, .int .i64, .str, .str, .str, .int .i64, .str, .str, .str, .int .i64, .str, .str, .str])))) none))) none) none)) none) none
def qS:List Int:=[192,214,216,246,248,767,880,893,895,8191,8204,8205,8304,8591,11264,12271,12289,55295,63744,64975,65008,65533,65536,983039]
def MX:List (List SV):=qS.map fun x=>[.int .i32 x]
def ja:List Int:=[1,10,100,1000,10000,100000,1000000,10000000,100000000,1000000000,10000000000,100000000000,1000000000000,10000000000000,100000000000000,1000000000000000,10000000000000000,100000000000000000,1000000000000000000,10000000000000000000]
def Z4m:List Value:=ja.map fun x=> .int .u64 x
def CY:List Int:=[1779033703,3144134277,1013904242,2773480762,1359893119,2600822924,528734635,1541459225]
def MY:List SV:=[.int .u32 1779033703, .int .u32 3144134277, .int .u32 1013904242, .int .u32 2773480762, .int .u32 1359893119, .int .u32 2600822924, .int .u32 528734635, .int .u32 1541459225]
def gb:List Int:=[1116352408,1899447441,3049323471,3921009573,961987163,1508970993,2453635748,2870763221,3624381080,310598401,607225278,1426881987,1925078388,2162078206,2614888103,3248222580,3835390401,4022224774,264347078,604807628,770255983,1249150122,1555081692,1996064986,2554220882,2821834349,2952996808,3210313671,3336571891,3584528711,113926993,338241895,666307205,773529912,1294757372,1396182291,1695183700,1986661051,2177026350,2456956037,2730485921,2820302411,3259730800,3345764771,3516065817,3600352804,4094571909,275423344,430227734,506948616,659060556,883997877,958139571,1322822218,1537002063,1747873779,1955562222,2024104815,2227730452,2361852424,2428436474,2756734187,3204031479,3329325298]
def Uf:List (List SV):=gb.map fun x=>[.int .u32 x]
def wD:kE:={sh:=MT,size:=Zjn,zero:=MU,bytes:=Zh7,flat:=MV,key:=MW,jc:=[(6, .rows 1 MX),(2, .ak Z4m),(0, .box MY),(1, .rows 1 Uf)],jJ:=some (186,5)}
theorem Z0:qa prog wD:=by
 refine Zh5 354 (by kernel_rfl) (fun t ht=>?_)
 have h:Nat.ble t 353=false:=by
  cases e:Nat.ble t 353
  rfl
  have:=zT e;omega
 exact⟨by(simp only[wD,MT]<;>first|exact HY h|rfl),by(simp only[wD,MU]<;>first|exact HY h|rfl),by(simp only[wD,MV]<;>first|exact HY h|rfl),by(simp only[wD,MW]<;>first|exact HY h|rfl)⟩
theorem mixed:prog.follows .mixedOrders=true:=by kernel_rfl
end Go.Proofs.YtlcbipfmodcedaaGreatDoor
set_option linter.unusedVariables false
namespace Go.Proofs.YtlcbipfmodcedaaGreatDoor
open Go.Sx
theorem Z3{M:Mx}(id:Nat){ops:Array Oper}{fr:Fr}{O:w9}{nx:Nat}{Q:Post}(steps:wP)(h:qU M ops.toList steps fr O nx fun fr O nx=>Q .normal fr O nx)(nq:CT ops steps=true:=by kernel_rfl)(hT:qa M.P M.C.T:=by exact Z0)(hP:M.P.follows .mixedOrders=true:=by exact mixed):wO M id ops fr O nx Q:=wO.of hT hP steps nq h
end Go.Proofs.YtlcbipfmodcedaaGreatDoor
set_option linter.unusedSimpArgs false
namespace Go.Sx
open Go
theorem uX.Q3{P:Program}{T:kE}{g:FuncId}{args:List SV}{r:SV}{vs:List Value}{w:World}{η0:Env}{S:w9}{k:Nat}(hk:η0.length=k)(sp:uX P T g k args [] S (qE k r))(eg:∀args w,(callFunc g args).run P w= .ok (.enter g args) w)(hd:w6 η0 args vs)
 (hs:∀p∈S,uZ η0 w false (.loc p.1) p.2) (he:∀(i:Nat) (e:kM),η0[i]?=some (some e)->e.g<w.heap.size)
 (hg:∀g h,wu g T.jc=some h->uZ [] w false (.qf g) h/\g<w.heap.size):
 Calls P g ⟨vs⟩ w fun e w'=> ∃v η',e= .returned v/\Den η' r v/\jS w w' fun _=>False:=by
 have hmem:∀{S:w9} {i:Nat} {h:Hp},jd (.loc i) (jZ S)=some h->(i,h)∈S:=by
  intro S
  induction S with
  |nil=>intro i h hh;simp[jZ,jd]at hh
  |cons p S ih=>
   intro i h hh;obtain⟨j,h'⟩:=p;simp only[jZ,zI,jd,ow]at hh;cases hb:Nat.beq i j with
   |true=>
    rw[hb]at hh;have:=Zs hb;subst this;injection hh with hh;subst hh;exact y5 ..
   |false=>
    rw[hb]at hh;exact zV _ (ih hh)
 have fh:∀g h,wu g T.jc=some h->V1 h=true:=by
  intro g h hh;have:=W9 hh;exact zR.1 T.bI _ this
 have H:uY ⟨P,⟨T,0,jZ S,none⟩,w,fun _=>False,η0,none⟩ η0 w [] k:=⟨zw,hk,⟨fun i h hi=>by simp[wu]at hi,fun i j h h' n hi=>by simp[wu]at hi⟩,jS.refl _ _,fun b h hb=>by
  cases b with
  |loc i=>
   exact⟨hs _ (hmem hb),fun n f=>⟨(hs _ (hmem hb)).wY f,fun h=>h⟩⟩
  |qf g=>
   obtain⟨h1,h2⟩:=hg g h hb
   exact⟨h1.plain (fh g h hb),fun n f=>⟨(h1.plain (η':=η0) (fh g h hb)).wY f,fun h=>h⟩⟩⟩
 have hF:(fun _=>False:Nat->Prop)=Yt η0 w []:=by
  funext n;simp[Yt,wu]
 rcases sp.out ⟨P,⟨T,0,jZ S,none⟩,w,fun _=>False,η0,none⟩ vs rfl rfl hF rfl H hd with⟨g',h1,h2⟩|⟨v,w',h1,_⟩
 .rw[eg]at h1;injection h1 with h1 _;injection h1 with h1 _;subst h1;refine h2.mono fun e w' hee=>?_;obtain⟨v,rfl,r',O',w8,η',⟨rfl,rfl,rfl⟩,_,h4,h5⟩:=hee;exact⟨v,η',rfl,h5,h4.fr⟩
 rw[eg]at h1;cases h1
end Go.Sx
namespace Go.Our
open Go.RowKit Go.ChangeShapes Go.WideShapes Go.ChangeAt Go.Sx
section
variable {H:Type}{enc:TypeId×Value->H}{P:Program}{w:World}
def jG(w:World)(v:Value)(es:Nat)(rs:List (List SV))(en:Option kM):Prop:=
 (∀x,en=some x->x.g<w.heap.size)/\∀(K:Env) (i:Nat),K[i]?=some en->Den K (.sl (.loc i) 0 es rs.length none) v/\uZ K w false (.loc i) (.rows es rs)
theorem Z6R{base:Nat}{a:Addr}{n:Nat}{cs:List Value}(h:w.cells? base a n=some cs):cs.length=n/\∀j,j<n->w.cell? (a.add j)=cs[j]?:=⟨(World.cells?_some h).2.1,(World.cells?_some h).2.2⟩
theorem ZcP{J:Type}{G:J->Prop}{t e:TypeId}{es:Nat}{q:Option Addr}{l0 c0 fuel:Nat}{x:DataW H×List MemPlace}(jN:J->List Value)(dat:J->DataW H)(row:J->List SV)(qX:0<es)
 (hlen:∀a,(jN a).length=es/\(row a).length=es) (hrow:∀(K:Env) (a:J) (j:Nat) (sv:SV),(row a)[j]?=some sv->∃u,(jN a)[j]?=some u/\u.oneCell'=true/\Den K sv u)
 (ht:P.underlying t=some (.slice e)) (hc:P.cellsOf e=es) (el:∀fuel cs (x:DataW H×List MemPlace),DataW.trod enc P w 0 (fun _=>true) true fuel e cs=some x->∃a:J,cs=jN a/\x.1=dat a/\G a)
 (ho:∀a,q=some a->a.spot=none/\∃arr T fz,w.heap[a.block]?=some (.cells arr T fz)) (hf:DataW.trod enc P w 0 (fun _=>true) true fuel t [.slice q l0 c0]=some x):
 ∃(l:List J) (en:Option kM),jG w (.slice q l0 c0) es (l.map row) en/\((l=[]/\x.1= .nil)\/∃z:List J,x.1= .slice (l.map dat) (z.map dat))/\l.length=l0/\∀a∈l,G a:=by
 rcases DataW.trod_slice ht hf with⟨hcs,hx⟩|⟨a,len,cap,elems,rest,n,_,hcs,hx,hb,hl,hm,pI,hel,hsp,hns⟩
 .injection hcs with hcs _;injection hcs with h1 h2 h3;subst h1 h2 h3 hx;refine⟨[],none,⟨fun x hx=>(by cases hx),fun K i hi=>?_⟩, .inl ⟨rfl,rfl⟩,rfl,fun a h=>by cases h⟩;refine⟨?_,?_⟩;unfold Den;exact .inl ⟨hi,rfl,rfl⟩;unfold uZ;exact .inl ⟨hi,rfl⟩
 .injection hcs with hcs _;injection hcs with h1 h2 h3;subst h1 h2 h3 hx;obtain⟨pJ,arr,T,fz,hheap⟩:=ho _ rfl;obtain⟨ab,ao,asp⟩:=a;simp only at pJ hheap;subst pJ
  have each:∀(i:Nat) y,(elems++rest)[i]?=some y->∃x:J,y.1=dat x/\G x/\∀j,j<es->w.cell? ⟨ab,ao+i*es+j,none⟩=(jN x)[j]?:=by
   intro i y hy
   have hb':(w.cells? 0 ((⟨ab,ao,none⟩:Addr).add (i*P.cellsOf e)) (P.cellsOf e)).bind (DataW.trod enc P w 0 (fun _=>true) true n e)=some y:=by
    by_cases hi:i<l0
    rw[hel i hi,<-hy,zn (by omega)]
    .obtain⟨hrl,hr⟩:=hsp rfl;have hlt:=(zf.1 hy).1;simp only[zg]at hlt;have:=hr (i-l0) (by omega);rw[show l0+(i-l0)=i by omega]at this;rw[this,<-hy,zx (by omega),pI]
   obtain⟨cs',GC,hy'⟩:=vV.1 hb';obtain⟨x,rfl,hx1,hx2⟩:=el _ _ _ hy';refine⟨x,hx1,hx2,fun j hj=>?_⟩;rw[hc]at GC;rw[<-(Z6R GC).2 j hj];congr 1;unfold Addr.add;split<;>split<;>simp_all<;>omega
  have list:∀(ys:List (DataW H×List MemPlace)) (k:Nat),(∀i y,ys[i]?=some y->(elems++rest)[k+i]?=some y)->∃xs:List J,ys.map (·.1)=xs.map dat/\xs.length=ys.length/\(∀a∈xs,G a)/\∀(i:Nat) x,xs[i]?=some x->∀j,j<es->w.cell? ⟨ab,ao+(k+i)*es+j,none⟩=(jN x)[j]?:=by
   intro ys
   induction ys with
   |nil=>intro k _;exact⟨[],rfl,rfl,(fun a h=>by cases h),fun i x hx=>by simp at hx⟩
   |cons y ys ih=>
    intro k hk;obtain⟨x,hx1,hg,hx2⟩:=each (k+0) y (hk 0 y rfl);obtain⟨xs,h1,h2,CZ,h3⟩:=ih (k+1) fun i y' hy'=>by rw[show k+1+i=k+(i+1)by omega];exact hk (i+1) y' (by simpa using hy')
    refine⟨x::xs,by simp[h1,hx1],by simp[h2],(fun a ha=>(zK.1 ha).elim (fun e=>e▸hg) (CZ a)),fun i z hz j hj=>?_⟩;cases i with
    |zero=>simp at hz;subst hz;exact hx2 j hj
    |succ i=>simp at hz;rw[show k+(i+1)=k+1+i by omega];exact h3 i z hz j hj
  obtain⟨xs,h1,h2,CZ,h3⟩:=list elems 0 fun i y hy=>by rw[zy,zn (zf.1 hy).1];exact hy
  obtain⟨zs,h4,_,_,_⟩:=list rest elems.length fun i y hy=>by rw[zx (by omega)];simpa using hy
  refine⟨xs,some ⟨ab,ao,c0⟩,⟨fun x hx=>?_,fun K i hi=>⟨?_,?_⟩⟩, .inr ⟨zs,by rw[h1,h4]⟩,by rw[h2,pI],CZ⟩;injection hx with hx;subst hx;exact(zz.1 hheap).1
  .simp only[Den,Env.get];refine .inr ⟨⟨ab,ao,c0⟩,ao,hi,?_,?_,zo _,fun _=>by simp⟩;simp only[Option.getD_none,Nat.sub_zero,zA,h2,pI];simp only[Option.getD_none,zA,h2,pI];omega
  .simp only[uZ,Env.get];refine .inr ⟨⟨ab,ao,c0⟩,arr,T,fz,hi,hheap,fun h=>(by cases h),fun k fC hk=>?_⟩;rw[z6]at hk;obtain⟨x,hx,rfl⟩:=zB.1 hk;refine⟨(hlen x).2,fun j sv hj=>?_⟩;obtain⟨u,hu1,hu2,hu3⟩:=hrow K x j sv hj;have hj2:j<es:=by rw[<-(hlen x).2];exact(zf.1 hj).1
   have:=h3 k x hx j hj2;rw[zy,hu1]at this;unfold World.cell? at this;simp only[hheap]at this;exact⟨u,by simpa using this,hu2,hu3⟩
theorem Zh8{J:Type}{t e:TypeId}{es:Nat}{v:Value}{d:DataW H}{p:List MemPlace}{r:Reach}{b0:Nat}(jN:J->List Value)(dat:J->DataW H)(row:J->List SV)(qX:0<es)
 (hlen:∀a,(jN a).length=es/\(row a).length=es) (hrow:∀(K:Env) (a:J) (j:Nat) (sv:SV),(row a)[j]?=some sv->∃u,(jN a)[j]?=some u/\u.oneCell'=true/\Den K sv u)
 (ht:P.underlying t=some (.slice e)) (hc:P.cellsOf e=es) (el:∀fuel cs (x:DataW H×List MemPlace),DataW.trod enc P w 0 (fun _=>true) true fuel e cs=some x->∃a:J,cs=jN a/\x=(dat a,[]))
 (ho:Value.okWide P w r b0 t v) (h:DataW.Trod enc P w 0 (fun _=>true) true t v d p):
 ∃(l:List J) (en:Option kM),jG w v es (l.map row) en/\((l=[]/\d= .nil)\/∃z:List J,d= .slice (l.map dat) (z.map dat)):=by
 obtain⟨fuel,hf⟩:=h;obtain⟨a0,l0,c0,rfl⟩:=okWide_slice ht ho
 obtain⟨l,en,h1,h2,_,_⟩:=ZcP (G:=fun _=>True) jN dat row qX hlen hrow ht hc (fun fuel cs x hx=>let⟨a,h1,h2⟩:=el fuel cs x hx;⟨a,h1,by rw[h2],trivial⟩) (fun a ha=>by
  subst ha;simp only[Value.okWide,ht,Cell.okWide,Cell.ok]at ho;obtain⟨_,_,_,pJ,rw',cl,hsh,_⟩:=ho;refine⟨pJ,?_⟩;unfold World.shape? at hsh;split at hsh
  rename_i c e' f' hh;exact⟨_,_,_,hh⟩
  cases hsh) hf
 exact⟨l,en,h1,h2⟩
end
theorem jG.den{J:Type}{W:World}{v:Value}{es:Nat}{l:List J}{row:J->List SV}{en:Option kM}(h:jG W v es (l.map row) en){K:Env}{i:Nat}(hi:K[i]?=some en):Den K (.sl (.loc i) 0 es l.length none) v:=by
 have:=(h.2 K i hi).1;rwa [zA]at this
theorem jG.sat{W:World}{v:Value}{es:Nat}{rs:List (List SV)}{en:Option kM}(h:jG W v es rs en){K:Env}{i:Nat}(hi:K[i]?=some en):uZ K W false (.loc i) (.rows es rs):=(h.2 K i hi).2
end Go.Our
namespace Go.Proofs.YtlcbipfmodcedaaGreatDoor
open Go.RowKit Go.Our Go.ChangeShapes Go.WideShapes Go.ChangeAt Go.Sx
open _root_.Go.Proofs.Tryz
abbrev B0(W:World):Prop:=∀g h,wu g wD.jc=some h->uZ [] W false (.qf g) h/\g<W.heap.size
theorem ZcQ{g:FuncId}{args:List SV}{vs:List Value}{W:World}{η0:Env}{S:w9}{k:Nat}(hk:η0.length=k)(sp:uX prog wD g k args [] S (qE k (.bool true)))(eg:∀args w,(callFunc g args).run prog w= .ok (.enter g args) w)(hd:w6 η0 args vs)
 (hs:∀p∈S,uZ η0 W false (.loc p.1) p.2) (he:∀(i:Nat) (e:kM),η0[i]?=some (some e)->e.g<W.heap.size) (hg:B0 W):
 Calls prog g ⟨vs⟩ W fun e W'=>e= .returned (.bool true)/\Below W.heap.size W W':=by
 refine(sp.Q3 hk eg hd hs he hg).mono fun e W' ⟨v,η',he,hv,hf⟩=>?_;simp only[Den]at hv;subst hv;exact⟨he,hf.os,hf.tape,hf.output,hf.size,fun k hk=>hf.block k hk fun h=>h⟩
theorem ZcR{g:FuncId}{args:List SV}{vs:List Value}{W:World}{v:Value}{es:Nat}{rs:List (List SV)}{en:Option kM}(h:jG W v es rs en)(sp:uX prog wD g 1 args [] [(0, .rows es rs)] (qE 1 (.bool true)))(eg:∀args w,(callFunc g args).run prog w= .ok (.enter g args) w)(hd:w6 [en] args vs)(hg:B0 W):
 Calls prog g ⟨vs⟩ W fun e W'=>e= .returned (.bool true)/\Below W.heap.size W W':=by
 refine ZcQ (η0:=[en]) rfl sp eg hd (fun p hp=>?_) (fun i e hi=>?_) hg
 .have hp:=zL.1 hp;subst hp;exact h.sat rfl
 .match i,hi with
  |0,hi=>injection hi with hi;exact h.1 e hi
end Go.Proofs.YtlcbipfmodcedaaGreatDoor
namespace Go.Proofs.YtlcbipfmodcedaaGreatDoor
open Go.RowKit Go.Our Go.ChangeShapes Go.WideShapes Go.ChangeAt Go.Sx
open _root_.Go.Proofs.Tryz
section
variable {H:Type}{enc:TypeId×Value->H}{w:World}{base:Nat}{sp:Nat->Bool}{held:Bool}
abbrev fE(s:List UInt8):Value:= .string ⟨s.toArray⟩
abbrev Lb(x:Tm):List Value:=[.int .i64 x.k,fE x.t,fE x.y,fE x.l]
abbrev B5(q:Qd):List Value:=[.int .i64 q.s.k,fE q.s.t,fE q.s.y,fE q.s.l, .int .i64 q.p.k,fE q.p.t,fE q.p.y,fE q.p.l, .int .i64 q.o.k,fE q.o.t,fE q.o.y,fE q.o.l, .int .i64 q.g.k,fE q.g.t,fE q.g.y,fE q.g.l]
def mU(x:Tm):DataW H:= .agg [.lit (.int .i64 x.k), .lit (.string x.t), .lit (.string x.y), .lit (.string x.l)]
def pK(q:Qd):DataW H:= .agg [mU q.s,mU q.p,mU q.o,mU q.g]
abbrev mV(x:Tm):Prop:=(Lit.int .i64 x.k).wf=true
abbrev B6(q:Qd):Prop:=mV q.s/\mV q.p/\mV q.o/\mV q.g
theorem Zha:prog.cellsOf 3=1:=by kernel_rfl
theorem Zhb:prog.cellsOf 9=1:=by kernel_rfl
theorem Lc:prog.cellsOf 65=4:=by kernel_rfl
theorem Ld:prog.cellsOf 67=16:=by kernel_rfl
theorem B7(s:ByteArray):Value.string s=fE s.data.toList:=by cases s;rfl
set_option maxRecDepth 100000 in
theorem E3{fuel:Nat}{cs:List Value}{x:DataW H×List MemPlace}(h:DataW.trod enc prog w base sp held fuel 65 cs=some x):
 ∃t:Tm,cs=Lb t/\x=(mU t,[])/\mV t:=by
 cases fuel with
 |zero=>simp[DataW.trod]at h
 |succ fuel=>
  simp only[DataW.trod,underlying65,Lc]at h;split at h
  .rename_i hl
   match cs,hl with
   | [c0,c1,c2,c3],_=>
     simp only[vT,List.mapM_nil,Zha,Zhb,yD,vO,List.take_succ_cons,List.take_zero]at h;simp only[zB,Option.bind_eq_bind,vV,Option.pure_def,zj]at h;obtain⟨xs,⟨y0,h0,r1,⟨y1,h1,r2,⟨y2,h2,r3,⟨y3,h3,r4,rfl,rfl⟩,rfl⟩,rfl⟩,rfl⟩,hx⟩:=h;obtain⟨k,hk,rfl,wk⟩:=DataW.trod_int underlying3 h0;obtain⟨s1,hs1,rfl,w1⟩:=DataW.trod_string underlying9 h1;obtain⟨s2,hs2,rfl,w2⟩:=DataW.trod_string underlying9 h2;obtain⟨s3,hs3,rfl,w3⟩:=DataW.trod_string underlying9 h3;injection hk with hk _;injection hs1 with hs1 _;injection hs2 with hs2 _;injection hs3 with hs3 _;subst hk hs1 hs2 hs3;exact⟨⟨k,s1.data.toList,s2.data.toList,s3.data.toList⟩,by rw[B7,B7,B7],by rw[<-hx];rfl,wk⟩
  cases h
set_option maxRecDepth 100000 in
theorem Zju{fuel:Nat}{cs:List Value}{x:DataW H×List MemPlace}(h:DataW.trod enc prog w base sp held fuel 67 cs=some x):
 ∃q:Qd,cs=B5 q/\x=(pK q,[])/\B6 q:=by
 cases fuel with
 |zero=>simp[DataW.trod]at h
 |succ fuel=>
  simp only[DataW.trod,underlying67,Ld]at h;split at h
  .rename_i hl;simp only[vT,List.mapM_nil,Lc]at h;simp only[zB,Option.bind_eq_bind,vV,Option.pure_def,zj]at h;obtain⟨xs,⟨y0,h0,r1,⟨y1,h1,r2,⟨y2,h2,r3,⟨y3,h3,r4,rfl,rfl⟩,rfl⟩,rfl⟩,rfl⟩,hx⟩:=h;obtain⟨s,hs,rfl,ws⟩:=E3 h0;obtain⟨p,hp,rfl,wp⟩:=E3 h1;obtain⟨o,ho,rfl,wo⟩:=E3 h2;obtain⟨g,hg,rfl,wg⟩:=E3 h3;refine⟨⟨s,p,o,g⟩,?_,by rw[<-hx];rfl,ws,wp,wo,wg⟩
   match cs,hl with
   | [c0,c1,c2,c3,c4,c5,c6,c7,c8,c9,c10,c11,c12,c13,c14,c15],_=>
     simp only[yD,vO,List.take_succ_cons,List.take_zero,Lb,yJ,xo]at hs hp ho hg;obtain⟨rfl,rfl,rfl,rfl⟩:=hs;obtain⟨rfl,rfl,rfl,rfl⟩:=hp;obtain⟨rfl,rfl,rfl,rfl⟩:=ho;obtain⟨rfl,rfl,rfl,rfl⟩:=hg
     rfl
  cases h
theorem E4{x:Tm}(h:((mU x:DataW H).weights prog 65).all (fun n=>decide (n<=reachBytes))=true):x.t.length<=reachBytes/\x.y.length<=reachBytes/\x.l.length<=reachBytes:=by
 simp only[mU,DataW.weights,underlying65,zI,yH,DataW.weightsEach,List.nil_append,zO,List.cons_append,List.all_cons,List.all_nil,zG,zk,yc]at h;exact h
theorem Le{q:Qd}(h:((pK q:DataW H).weights prog 67).all (fun n=>decide (n<=reachBytes))=true):(q.s.t.length<=reachBytes/\q.s.y.length<=reachBytes/\q.s.l.length<=reachBytes)/\(q.p.t.length<=reachBytes/\q.p.y.length<=reachBytes/\q.p.l.length<=reachBytes)/\
 (q.o.t.length<=reachBytes/\q.o.y.length<=reachBytes/\q.o.l.length<=reachBytes)/\(q.g.t.length<=reachBytes/\q.g.y.length<=reachBytes/\q.g.l.length<=reachBytes):=by
 have e:(pK q:DataW H).weights prog 67=(mU q.s:DataW H).weights prog 65++((mU q.p:DataW H).weights prog 65++((mU q.o:DataW H).weights prog 65++((mU q.g:DataW H).weights prog 65++ []))):=by
  simp only[pK,DataW.weights,underlying67,zI,yH,DataW.weightsEach]
 rw[e]at h;simp only[xT,zk]at h;exact⟨E4 h.1,E4 h.2.1,E4 h.2.2.1,E4 h.2.2.2.1⟩
theorem gW.of{x:Tm}(h:x.t.length<=reachBytes/\x.y.length<=reachBytes/\x.l.length<=reachBytes):gW x:=by
 unfold reachBytes at h;exact⟨by omega,by omega,by omega⟩
theorem Zml{q:Qd}(h:((pK q:DataW H).weights prog 67).all (fun n=>decide (n<=reachBytes))=true):bT q:=
 have h:=Le h
 ⟨gW.of h.1,gW.of h.2.1,gW.of h.2.2.1,gW.of h.2.2.2⟩
end
open _root_.Go.Proofs.Tryz
section
variable {H:Type}{enc:TypeId×Value->H}{w:World}
theorem ZeU(K:Env)(q:Qd)(j:Nat)(sv:SV)(h:(Z4 q)[j]?=some sv):∃u,(B5 q)[j]?=some u/\u.oneCell'=true/\Den K sv u:=by
 have hlt:=(zf.1 h).1;have hl:(Z4 q).length=16:=rfl;rw[hl]at hlt
 match j,hlt with
 |0,_|1,_|2,_|3,_|4,_|5,_|6,_|7,_|8,_|9,_|10,_|11,_|12,_|13,_|14,_|15,_=>injection h with h;subst h;exact⟨_,rfl,rfl,by simp only[Den]⟩
set_option maxRecDepth 100000 in
theorem Zhe{v:Value}{d:DataW H}{p:List MemPlace}{r:Reach}{b0:Nat}(ho:Value.okWide prog w r b0 22 v)(h:DataW.Trod enc prog w 0 (fun _=>true) true 22 v d p):
 ∃(l:List Qd) (en:Option kM),jG w v 16 (l.map Z4) en/\((l=[]/\d= .nil)\/∃z:List Qd,d= .slice (l.map pK) (z.map pK)):=
 Zh8 B5 pK Z4 (by omega) (fun a=>⟨rfl,rfl⟩) ZeU underlying22 Ld (fun fuel cs x hx=>let⟨q,h1,h2,_⟩:=Zju hx;⟨q,h1,h2⟩) ho h
theorem LI:prog.bytesOf 67=224:=by kernel_rfl
theorem ZeV{l:List Qd}{d:DataW H}(hd:(l=[]/\d= .nil)\/∃z:List Qd,d= .slice (l.map pK) (z.map pK))(h:(d.weights prog 22).all (fun n=>decide (n<=reachBytes))=true):l.length*224<=140737488351232/\∀q∈l,bT q:=by
 rcases hd with⟨rfl,rfl⟩|⟨z,rfl⟩
 simp
 .simp only[DataW.weights,underlying22,LI,zA,List.all_cons,xT,zk,yc]at h;obtain⟨h1,h2,_⟩:=h;refine⟨by unfold reachBytes at h1;rw[xM]at h1;omega,?_⟩
  have hall:∀(l:List Qd),(DataW.weightsAll prog 67 (l.map (pK (H:=H)))).all (fun n=>decide (n<=reachBytes))=true->∀q∈l,bT q:=by
   intro l
   induction l with
   |nil=>intro _ q hq;cases hq
   |cons a l ih=>
    intro h q hq;simp only[zI,DataW.weightsAll,xT,zk]at h;rcases zK.1 hq with rfl|hq
    exact Zml (H:=H) h.1;exact ih h.2 q hq
  exact hall l h2
end
end Go.Proofs.YtlcbipfmodcedaaGreatDoor
set_option maxRecDepth 20000
set_option maxHeartbeats 8000000
namespace Go.Proofs.YtlcbipfmodcedaaGreatDoor
open Go.Sx Go.Our
open _root_.Go.Proofs.Tryz
theorem ZeW(c:Int)(hc:0<=c/\c<256):uX prog wD 255 0 [.int .u8 c] [] [] (qd (.wM [.int .i64 (rj c).1, .int .i32 (rj c).2])):=by
 refine uX.enter Z0 call255 func255 rfl 30 rfl rfl [.tmp 2, .tmp 3] rfl ?_;intro w0 F η0 h0;conv=>whnf
 repeat'(first|refine IW ?_ ?_<;>intro h<;>try omega)<;>conv=>whnf
 all_goals (refine wh.value h0 rfl ?_;unfold rj;(first|(simp(disch:=omega) only[↓zh,↓z7,ite_self,Z5,Zn,Int.reduceAdd,Int.reduceSub,Int.reduceMul,Int.reduceNeg,E1,L9,GL];done)|(simp(disch:=omega) only[↓zh,↓z7,ite_self,Z5,Zn,Int.reduceAdd,Int.reduceSub,Int.reduceMul,Int.reduceNeg,E1,L9,GL];with_reducible rfl)))
theorem Zaf(r:Int):uX prog wD 257 0 [.int .i32 r] [] [] (qd (.bool (UD r))):=by
 refine uX.enter Z0 call257 func257 rfl 17 rfl rfl [.tmp 2] rfl ?_;intro w0 F η0 h0;conv=>whnf
 skip
 refine wh.value h0 rfl (ze SV.bool ?_);rw[zZ,YT];simp only[xd,yc,xu,xI,zk,yI];omega
theorem ZcV(n:Int)(hn:0<=n/\n<5):uX prog wD 256 0 [.int .i64 n] [] [] (qd (.int .i32 (GJ n))):=by
 have hn:n=0\/n=1\/n=2\/n=3\/n=4:=by omega
 rcases hn with rfl|rfl|rfl|rfl|rfl
 all_goals
  refine uX.enter Z0 call256 func256 rfl 6 rfl rfl [.tmp 2] rfl ?_;intro w0 F η0 h0;conv=>whnf
  repeat'(first|refine AU ?_)<;>conv=>whnf
  exact wh.value h0 rfl rfl
theorem Zjv{c:Int}{n r:Int}(hc:0<=c/\c<256)(h:rj c=(n,r)):uX prog wD 255 0 [.int .u8 c] [] [] (qd (.wM [.int .i64 n, .int .i32 r])):=by
 have:=ZeW c hc;rw[h]at this;exact this
theorem Ba(s:List UInt8)(i:Int)(hs:Sm s):uX prog wD 208 0 [.str s, .int .i64 i] [] [] (qd (.wM [.int .i32 (Z7 s i).1, .int .i64 (Z7 s i).2])):=by
 refine uX.enter Z0 call208 func208 rfl 65 rfl rfl [.tmp 4, .tmp 5] rfl ?_;intro w0 F η0 h0;conv=>whnf
 repeat'(first|refine AU ?_|refine IW ?_ ?_<;>intro h<;>try omega)<;>conv=>whnf
 .refine wh.value h0 rfl ?_;unfold Z7;rw[zh h]
 .have e0:=ZL s i;have e1:=ZL s (i+1);have e2:=ZL s (i+2);have e3:=ZL s (i+3);have hl:=Zaa (Z1 s i);rcases hl with⟨hb,hl⟩|⟨hb,hl⟩|⟨hb,hl⟩|⟨hb,hl⟩|⟨hb,hl⟩
  all_goals
   refine CALL.value (Zjv e0 hl) rfl rfl ?_;conv=>whnf
   repeat'(first|refine CALL.value (ZcV _ (by omega)) rfl rfl ?_|refine wj.once Z0 ?_|refine CALL.value (Zaf _) rfl rfl ?_|refine AU ?_|refine IW ?_ ?_<;>intro h<;>try omega)<;>conv=>whnf
  all_goals
   refine wh.value h0 rfl ?_;unfold Z7 fW r2 r3 r4;try simp(disch:=omega) only[La,Zle,Zjq,Zjr,Zjs,Zjt,YT,L7]at*
   (simp(disch:=omega) only[↓zh,↓z7,ite_self,Z5,Zn,Int.reduceAdd,Int.reduceSub,Int.reduceMul,Int.reduceNeg,La])
theorem Bb(s:List UInt8)(hs:Sm s):uX prog wD 160 0 [.str s] [] [] (qd (.int .i64 (fD s 0))):=by
 refine uX.enter Z0 call160 func160 rfl 22 rfl rfl [.tmp 2] rfl ?_;intro w0 F η0 h0;conv=>whnf
 refine wj.go Z0 [0] (X:=Nat) (fun i=>i<=s.length/\fD s i=fD s 0) (fun i=>[(3, .int .i64 (i:Int))]) (fun _=>[]) 0 (fun i=>s.length-i) 0 ⟨by omega,rfl⟩ ?_;conv=>whnf
 refine⟨by exact w5.cA h0,?_⟩;rintro i ⟨hi,hc⟩;conv=>whnf
 have hn:=Y7 s i;repeat'(first|refine CALL.value (Ba s _ hs) rfl rfl ?_|refine IW ?_ ?_<;>intro h<;>try omega)<;>conv=>whnf
 .have hz:(Z7 s i).2=0:=h;refine wh.value h0 rfl ?_;rw[<-hc,GK (by omega) hz]
 .rename_i h1;refine⟨i+(Z7 s i).2.toNat,⟨by omega,?_⟩,by omega,?_⟩;rw[<-hc,<-WJ (by omega) h]
  .conv=>whnf
   exact w5.cA h0
 .refine wh.value h0 rfl ?_;rw[<-hc,B3 (by omega)]
end Go.Proofs.YtlcbipfmodcedaaGreatDoor
namespace Go.Proofs.YtlcbipfmodcedaaGreatDoor
open Go.Sx Go.Our
open _root_.Go.Proofs.Tryz
def E6:wP:=(Zr [(0,1),(1,1),(4,1),(5,1),(6,1),(2,2),(3,1),(7,2),(8,1),(9,1)])
def E7:wP:=(Zr [(0,1),(1,1),(2,1),(3,1),(6,1),(7,2),(4,3),(5,2),(8,1),(9,1)])
theorem Xy(r:Int):uX prog wD 302 0 [.int .i64 r] [] [] (qd (.bool (UD r))):=by
 refine uX.enter Z0 call302 func302 rfl 17 rfl rfl [.tmp 2] rfl ?_;intro w0 F η0 h0;conv=>whnf
 skip
 refine wh.value h0 rfl (ze SV.bool ?_);rw[zZ,YT];simp only[xd,yc,xu,xI,zk,yI];omega
theorem Xc(r:Int)(hr:0<=r/\r<=1114111):uX prog wD 274 0 [.int .i64 r] [] [] (WI 0 (kz r)):=by
 refine uX.enter Z0 call274 func274 rfl 57 rfl rfl [.tmp 2] rfl ?_;intro w0 F η0 h0;conv=>whnf
 repeat'(first|refine AU ?_|refine IW ?_ ?_<;>intro h<;>try omega)<;>conv=>whnf
 all_goals
  refine wh.rows h0 0 1 _ rfl rfl rfl rfl ?_;unfold kz Go.Our.encI;simp(disch:=omega) only[↓zh,↓z7,zI,yH,Bc,Z5,LJ,LK];refine⟨rfl,?_,rfl⟩;simp(disch:=omega) only[zI,yH,<-LL]
theorem Zag(a:UInt8):uX prog wD 272 1 [.sl (.loc 0) 0 1 1 none] [] [(0, .rows 1 ([a].map Sx.bytesRow))] (qE 1 (.int .i64 (Ye [a]))):=by
 have ha:=a.toNat_lt;refine uX.enter Z0 call272 func272 rfl 45 rfl rfl [.tmp 2] rfl ?_;intro w0 F η0 h0;conv=>whnf
 repeat'(first|refine Z3 2 E6 ?_|refine Z3 8 E7 ?_|refine qJ.mk (fun _ _=>?_)|refine CALL.value (Xy _) rfl rfl ?_|refine wj.once Z0 ?_|refine CALL.bytes (Xc _ (by simp(disch:=omega) only[YT,Z5,ve]at*;omega)) rfl ?_|refine wm.mk (Jq (by simp)) ?_|refine AU ?_|refine IW ?_ ?_<;>intro h<;>try omega)<;>conv=>whnf
 all_goals
  refine wh.wC h0 rfl (ze (SV.int _) ?_);simp(disch:=omega) only[Z5,ve,yD,<-xx,Q7,zX,List.take_succ_cons,List.take_zero,UD,yc,ym]at*
  simp_all[Ye,fF,bn]
theorem Zah(a b:UInt8):uX prog wD 272 1 [.sl (.loc 0) 0 1 2 none] [] [(0, .rows 1 ([a,b].map Sx.bytesRow))] (qE 1 (.int .i64 (Ye [a,b]))):=by
 have ha:=a.toNat_lt;have hb:=b.toNat_lt;refine uX.enter Z0 call272 func272 rfl 45 rfl rfl [.tmp 2] rfl ?_;intro w0 F η0 h0;conv=>whnf
 repeat'(first|refine Z3 2 E6 ?_|refine Z3 8 E7 ?_|refine qJ.mk (fun _ _=>?_)|refine CALL.value (Xy _) rfl rfl ?_|refine wj.once Z0 ?_|refine CALL.bytes (Xc _ (by simp(disch:=omega) only[YT,Z5,ve]at*;omega)) rfl ?_|refine wm.mk (Jq (by simp)) ?_|refine AU ?_|refine IW ?_ ?_<;>intro h<;>try omega)<;>conv=>whnf
 all_goals
  refine wh.wC h0 rfl (ze (SV.int _) ?_);simp(disch:=omega) only[Z5,ve,yD,<-xx,Q7,zX,List.take_succ_cons,List.take_zero,UD,yc,ym]at*
  simp_all[Ye,fF,bn]
theorem Zai(a b c:UInt8):uX prog wD 272 1 [.sl (.loc 0) 0 1 3 none] [] [(0, .rows 1 ([a,b,c].map Sx.bytesRow))] (qE 1 (.int .i64 (Ye [a,b,c]))):=by
 have ha:=a.toNat_lt;have hb:=b.toNat_lt;have hc:=c.toNat_lt;refine uX.enter Z0 call272 func272 rfl 45 rfl rfl [.tmp 2] rfl ?_;intro w0 F η0 h0;conv=>whnf
 repeat'(first|refine Z3 2 E6 ?_|refine Z3 8 E7 ?_|refine qJ.mk (fun _ _=>?_)|refine CALL.value (Xy _) rfl rfl ?_|refine wj.once Z0 ?_|refine CALL.bytes (Xc _ (by simp(disch:=omega) only[YT,Z5,ve]at*;omega)) rfl ?_|refine wm.mk (Jq (by simp)) ?_|refine AU ?_|refine IW ?_ ?_<;>intro h<;>try omega)<;>conv=>whnf
 all_goals
  refine wh.wC h0 rfl (ze (SV.int _) ?_);simp(disch:=omega) only[Z5,ve,yD,<-xx,Q7,zX,List.take_succ_cons,List.take_zero,UD,yc,ym]at*
  simp_all[Ye,fF,bn]
theorem Zaj(a b c d:UInt8):uX prog wD 272 1 [.sl (.loc 0) 0 1 4 none] [] [(0, .rows 1 ([a,b,c,d].map Sx.bytesRow))] (qE 1 (.int .i64 (Ye [a,b,c,d]))):=by
 have ha:=a.toNat_lt;have hb:=b.toNat_lt;have hc:=c.toNat_lt;have hd:=d.toNat_lt;refine uX.enter Z0 call272 func272 rfl 45 rfl rfl [.tmp 2] rfl ?_;intro w0 F η0 h0;conv=>whnf
 repeat'(first|refine Z3 2 E6 ?_|refine Z3 8 E7 ?_|refine qJ.mk (fun _ _=>?_)|refine CALL.value (Xy _) rfl rfl ?_|refine wj.once Z0 ?_|refine CALL.bytes (Xc _ (by simp(disch:=omega) only[YT,Z5,ve]at*;omega)) rfl ?_|refine wm.mk (Jq (by simp)) ?_|refine AU ?_|refine IW ?_ ?_<;>intro h<;>try omega)<;>conv=>whnf
 all_goals
  refine wh.wC h0 rfl (ze (SV.int _) ?_);simp(disch:=omega) only[Z5,ve,yD,<-xx,Q7,zX,List.take_succ_cons,List.take_zero,UD,yc,ym]at*
  simp_all[Ye,fF,bn]
theorem ZcW(l:List UInt8)(hl:1<=l.length/\l.length<=4):uX prog wD 272 1 [.sl (.loc 0) 0 1 l.length none] [] [(0, .rows 1 (l.map Sx.bytesRow))] (qE 1 (.int .i64 (Ye l))):=by
 match l,hl with
 | [a],_=>exact Zag a
 | [a,b],_=>exact Zah a b
 | [a,b,c],_=>exact Zai a b c
 | [a,b,c,d],_=>exact Zaj a b c d
 | [],h=>simp at h
 |_::_::_::_::_::_,h=>simp at h
theorem VZ(s:List UInt8)(i:Int)(hs:Sm s):uX prog wD 225 0 [.str s, .int .i64 i] [] [] (qd (.wM [.int .i64 (Z7 s i).1, .int .i64 (Z7 s i).2])):=by
 refine uX.enter Z0 call225 func225 rfl 40 rfl rfl [.tmp 4, .tmp 5] rfl ?_;intro w0 F η0 h0;conv=>whnf
 repeat'(first|refine wj.once Z0 ?_|refine CALL.jq _ (ZcW _ (by simp(disch:=omega) only[Z5,zu,zF];omega)) rfl rfl rfl rfl (Zf _) rfl ?_|refine AU ?_|refine IW ?_ ?_<;>intro h<;>try omega)<;>conv=>whnf
 all_goals
  refine wh.value h0 rfl ?_
  first
   |(unfold Z7;rw[zh (by assumption)])
   |(rw[Z8y (by omega)];simp(disch:=omega) only[↓zh,↓z7,Z5,Int.reduceAdd])
theorem Vc(s:List UInt8)(hs:Sm s):uX prog wD 224 0 [.str s] [] [] (qd (.int .i64 (fD s 0))):=by
 refine uX.enter Z0 call224 func224 rfl 22 rfl rfl [.tmp 2] rfl ?_;intro w0 F η0 h0;conv=>whnf
 refine wj.go Z0 [0] (X:=Nat) (fun i=>i<=s.length/\fD s i=fD s 0) (fun i=>[(3, .int .i64 (i:Int))]) (fun _=>[]) 0 (fun i=>s.length-i) 0 ⟨by omega,rfl⟩ ?_;conv=>whnf
 refine⟨by exact w5.cA h0,?_⟩;rintro i ⟨hi,hc⟩;conv=>whnf
 have hn:=Y7 s i;repeat'(first|refine CALL.value (VZ s _ hs) rfl rfl ?_|refine IW ?_ ?_<;>intro h<;>try omega)<;>conv=>whnf
 .have hz:(Z7 s i).2=0:=h;refine wh.value h0 rfl ?_;rw[<-hc,GK (by omega) hz]
 .rename_i h1;refine⟨i+(Z7 s i).2.toNat,⟨by omega,?_⟩,by omega,?_⟩;rw[<-hc,<-WJ (by omega) h]
  .conv=>whnf
   exact w5.cA h0
 .refine wh.value h0 rfl ?_;rw[<-hc,B3 (by omega)]
open _root_.Go.Proofs.Tryz
theorem Z05(s:List UInt8)(c:Int):uX prog wD 315 0 [.str s, .int .u8 c] [] [] (qd (.int .i64 (Lib.indexByte s c.toNat.toUInt8))):=by
 refine uX.says fun K w vs hd=>?_;simp only[w6,Den]at hd;obtain⟨u,us,rfl,rfl,u',us',rfl,rfl,rfl⟩:=hd;refine⟨_,?_,rfl⟩;rw[run_callFunc_extern func315 (by kernel_rfl) (by kernel_rfl) (by kernel_rfl) (e:=Extern.BytealgIndexByte.indexByte) (by kernel_rfl),Lib.run_indexByteString]
 rfl
theorem US(s:List UInt8)(c:Int):uX prog wD 301 0 [.str s, .int .u8 c] [] [] (qd (.int .i64 (Lib.indexByte s c.toNat.toUInt8))):=by
 refine uX.enter Z0 call301 func301 rfl 8 rfl rfl [.tmp 4] rfl ?_;intro w0 F η0 h0;conv=>whnf
 repeat'(first|refine CALL.value (Z05 _ _) rfl rfl ?_)<;>conv=>whnf
 exact wh.value h0 rfl rfl
theorem U1(s:List UInt8)(c:Int):uX prog wD 269 0 [.str s, .int .u8 c] [] [] (qd (.int .i64 (Lib.indexByte s c.toNat.toUInt8))):=by
 refine uX.enter Z0 call269 func269 rfl 8 rfl rfl [.tmp 4] rfl ?_;intro w0 F η0 h0;conv=>whnf
 repeat'(first|refine CALL.value (US _ _) rfl rfl ?_)<;>conv=>whnf
 exact wh.value h0 rfl rfl
theorem Z5s(r:Int):uX prog wD 308 0 [.int .i32 r] [] [] (qd (.bool (UD r))):=by
 refine uX.enter Z0 call308 func308 rfl 17 rfl rfl [.tmp 2] rfl ?_;intro w0 F η0 h0;conv=>whnf
 repeat'(first|refine IW ?_ ?_<;>intro h<;>try omega)<;>conv=>whnf
 all_goals
  refine wh.value h0 rfl (ze SV.bool ?_);rw[zZ,YT];simp;try omega
theorem Z8A(g:Nat)(p:Int->Bool)(hp:∀r:Int,Y6 r->uX prog wD g 0 [.int .i32 r] [] [] (qd (.bool (p r))))(s:List UInt8)(hs:Sm s):uX prog wD 250 0 [.str s, .fn (.func g) [] [], .bool true] [] [] (qd (.int .i64 (eY p s 0))):=by
 refine uX.enter Z0 call250 func250 rfl 21 rfl rfl [.tmp 6] rfl ?_;intro w0 F η0 h0;conv=>whnf
 refine wj.go Z0 [1,2,10] (X:=Nat) (fun i=>i<=s.length/\eY p s i=eY p s 0) (fun i=>[]) (fun i=>[(0, .qM s i)]) 1 (fun i=>s.length-i) 0 ⟨by omega,rfl⟩ ?_;conv=>whnf
 refine⟨by exact w5.cA h0,?_⟩;rintro i ⟨hi,hc⟩;conv=>whnf
 refine⟨fun h=>?_,fun h=>?_⟩
 .have h:i<s.length:=by simpa using h
  have hf:=Bf s i h;have hd:=E8 s i;conv=>whnf
  repeat'(first|refine CALL.value (hp _ (Bg s i)) rfl rfl ?_|refine AU ?_|refine IW ?_ ?_<;>intro h<;>try omega)<;>conv=>whnf
  .refine wh.value h0 rfl ?_;rw[<-hc,LS (by omega) (by simpa using h)]
  .refine⟨i+(ki s i).2,⟨by omega,?_⟩,by omega,?_⟩;rw[<-hc,<-Bj (by omega) (by simpa using h)]
   .conv=>whnf
    exact w5.cA h0
 .have h:s.length<=i:=by simpa using h
  conv=>whnf
  repeat'(first|refine AU ?_)<;>conv=>whnf
  refine wh.value h0 rfl ?_;rw[<-hc,LR h]
theorem Z5t(g:Nat)(p:Int->Bool)(hp:∀r:Int,Y6 r->uX prog wD g 0 [.int .i32 r] [] [] (qd (.bool (p r))))(s:List UInt8)(hs:Sm s):uX prog wD 204 0 [.str s, .fn (.func g) [] []] [] [] (qd (.int .i64 (eY p s 0))):=by
 refine uX.enter Z0 call204 func204 rfl 8 rfl rfl [.tmp 4] rfl ?_;intro w0 F η0 h0;conv=>whnf
 repeat'(first|refine CALL.value (Z8A g p hp s hs) rfl rfl ?_)<;>conv=>whnf
 exact wh.value h0 rfl rfl
open _root_.Go.Proofs.Tryz
theorem Z36(c:Int):uX prog wD 280 0 [.int .u8 c] [] [] (qd (.bool (U0 c))):=by
 refine uX.enter Z0 call280 func280 rfl 16 rfl rfl [.tmp 2] rfl ?_;intro w0 F η0 h0;conv=>whnf
 repeat'(first|refine AU ?_|refine IW ?_ ?_<;>intro h<;>try omega)<;>conv=>whnf
 all_goals
  refine wh.value h0 rfl (ze SV.bool ?_);rw[zZ,LQ];unfold Our.Barred;simp;try omega
theorem Z37(c:Int):uX prog wD 281 0 [.int .u8 c] [] [] (qd (.bool (decide (J4 c)))):=by
 refine uX.enter Z0 call281 func281 rfl 17 rfl rfl [.tmp 2] rfl ?_;intro w0 F η0 h0;conv=>whnf
 skip
 refine wh.value h0 rfl (ze SV.bool ?_);rw[zZ];simp only[xd,yc,xu,xI,zk,yI]
 rfl
theorem Z4G(c:Int):uX prog wD 282 0 [.int .u8 c] [] [] (qd (.bool (decide (48<=c/\c<=57)))):=by
 refine uX.enter Z0 call282 func282 rfl 9 rfl rfl [.tmp 2] rfl ?_;intro w0 F η0 h0;conv=>whnf
 skip
 refine wh.value h0 rfl (ze SV.bool ?_);rw[zZ];simp only[xd,yc,xu,xI,zk,yI]
theorem Z0G(s:List UInt8)(hs:Sm s):uX prog wD 240 0 [.str s] [] [] (qd (.int .i64 (dO s))):=by
 refine uX.enter Z0 call240 func240 rfl 20 rfl rfl [.tmp 2] rfl ?_;intro w0 F η0 h0;conv=>whnf
 repeat'(first|refine CALL.value (Vc s hs) rfl rfl ?_|refine IW ?_ ?_<;>intro h<;>try omega)<;>conv=>whnf
 .refine wh.value h0 rfl ?_;unfold dO;rw[zh (by omega)]
 .refine wh.value h0 rfl ?_;unfold dO;rw[z7 (by omega),zh (by omega)]
 refine wj.go Z0 [0] (X:=Nat) (fun i=>i<=s.length/\eZ U0 s i=eZ U0 s 0) (fun i=>[(3, .int .i64 (i:Int))]) (fun i=>[]) 0 (fun i=>s.length-i) 0 ⟨by omega,rfl⟩ ?_;conv=>whnf
 refine⟨by exact w5.cA h0,?_⟩;rintro i ⟨hi,hc⟩;conv=>whnf
 repeat'(first|refine CALL.value (Z36 _) rfl rfl ?_|refine AU ?_|refine IW ?_ ?_<;>intro h<;>try omega)<;>conv=>whnf
 .refine wh.value h0 rfl ?_;unfold dO;rw[z7 (by omega),z7 (by omega),<-hc,GV (by omega),h];rfl
 .refine⟨i+1,⟨by omega,?_⟩,by omega,?_⟩;rw[<-hc,GV (i:=i) (by omega),h,xJ]
  .conv=>whnf
   exact w5.cA h0
 .refine wh.value h0 rfl ?_;unfold dO;rw[z7 (by omega),z7 (by omega),<-hc,Bk (by omega)];rfl
theorem Z38(s:List UInt8)(hs:Sm s):uX prog wD 241 0 [.str s] [] [] (qd (.int .i64 (jC s 0))):=by
 refine uX.enter Z0 call241 func241 rfl 41 rfl rfl [.tmp 2] rfl ?_;intro w0 F η0 h0;conv=>whnf
 refine wj.go Z0 [0] (X:=Nat) (fun i=>i<=s.length/\jC s i=jC s 0) (fun i=>[(3, .int .i64 (i:Int))]) (fun i=>[]) 0 (fun i=>s.length-i) 0 ⟨by omega,rfl⟩ ?_;conv=>whnf
 refine⟨by exact w5.cA h0,?_⟩;rintro i ⟨hi,hc⟩;conv=>whnf
 repeat'(first|refine CALL.value (Z37 _) rfl rfl ?_|refine CALL.value (Z4G _) rfl rfl ?_|refine AU ?_|refine IW ?_ ?_<;>intro h<;>try omega)<;>conv=>whnf
 all_goals first
  |(refine wh.value h0 rfl ?_;rw[<-hc];first|rw[WQ (by omega) (by assumption)]|(rw[Bm (by omega) (by assumption) (by unfold bU;rintro(h|h)<;>first|contradiction|omega)])|rw[E9 (by omega)])
  |(refine⟨i+1,⟨by omega,?_⟩,by omega,?_⟩
    rw[<-hc,<-Bl (by omega) (by assumption) (by first|(left;assumption)|(right;unfold bU;omega))]
    .conv=>whnf
     exact w5.cA h0)
open _root_.Go.Proofs.Tryz
def ZjA:wP:=(Zr [(0,1),(1,1),(2,1),(3,1),(4,1),(5,1),(6,1)])
def ZjB:wP:=(Zr [(0,1),(1,1),(2,1),(3,1),(4,1),(5,1),(6,1),(7,3),(8,1)])
theorem We(s:List UInt8)(hs:Sm s):uX prog wD 192 0 [.str s] [] [] (qd (.int .i64 (fZ s))):=by
 refine uX.enter Z0 call192 func192 rfl 14 rfl rfl [.tmp 2] rfl ?_;intro w0 F η0 h0;conv=>whnf
 repeat'(first|refine CALL.value (Z0G s hs) rfl rfl ?_|refine CALL.value (Z38 s hs) rfl rfl ?_|refine AU ?_|refine IW ?_ ?_<;>intro h<;>try omega)<;>conv=>whnf
 all_goals
  refine wh.value h0 rfl (ze (SV.int _) ?_);unfold fZ
  simp_all
def Qc(r:Int):Int:=if 0<=r/\r<128 then Lib.indexByte bars (IntKind.u8.wrap r).toNat.toUInt8 else-1
theorem Z5u(r:Int)(hr:Y6 r):uX prog wD 294 0 [.str bars, .int .i32 r] [] [] (qd (.int .i64 (Qc r))):=by
 have hlen:bars.length=9:=rfl;refine uX.enter Z0 call294 func294 rfl 187 rfl rfl [.tmp 4] rfl ?_;intro w0 F η0 h0;conv=>whnf
 repeat'(first|refine CALL.value (U1 _ _) rfl rfl ?_|refine CALL.value (Z5s _) rfl rfl ?_|refine IW ?_ ?_<;>intro h<;>try omega)<;>conv=>whnf
 .refine wh.value h0 rfl ?_;unfold Qc;rw[zh h]
 .subst h;refine wj.go Z0 [175] (X:=Nat) (fun i=>i<=9) (fun i=>[]) (fun i=>[(0, .qM bars i)]) 1 (fun i=>9-i) 0 (by omega) ?_;conv=>whnf
  refine⟨by exact w5.cA h0,?_⟩;intro i hi;conv=>whnf
  refine⟨fun h=>?_,fun h=>?_⟩
  .have h:i<bars.length:=by simpa using h
   have hd:=WP (Bn i);have hb:=ZL bars i;conv=>whnf
   refine IF.tt ?_;conv=>whnf
   refine IF.no (by rw[show Utf8.decode ⟨bars.toArray⟩ i=_ from hd];have:=Bn i;simp;omega) ?_;conv=>whnf
   refine⟨i+(ki bars i).2,by rw[hd];show i+1<=9;omega,by rw[hd];show 9-(i+1)<9-i;omega,?_⟩;conv=>whnf
   exact w5.cA h0
  .conv=>whnf
   refine IF.ff ?_;conv=>whnf
   refine wh.value h0 rfl ?_;unfold Qc;rw[z7 (by omega)]
 .rw[L7]at h;exact(h hr).elim
 .have hl:=Zhg (r:=r) (by unfold Y6 at hr;omega);have hh:=Zf1 hr (by unfold Y6 at hr;omega);have he:=Zf0 hr;rw[he];have hm:=ZcX (s:=kz r) (i:=((kz r).length:Int)-1) (by omega)
  have hm2:128<=Z1 (kz r) (((kz r).length:Int)-1):=by
   obtain⟨c,hc,e⟩:=hm;rw[e];exact hh c hc
  have hm3:=ZL (kz r) (((kz r).length:Int)-1);have hm4:=Bn (((kz r).length:Int)-1);refine wj.once Z0 ?_;conv=>whnf
  repeat'(first|refine Z3 6 ZjA ?_|refine Z3 7 ZjB ?_|refine qJ.mk (fun _ _=>?_)|refine CALL.value (U1 _ _) rfl rfl ?_|refine AU ?_|refine IW ?_ ?_<;>intro h<;>try omega)<;>conv=>whnf
  .refine wh.value h0 rfl ?_;unfold Qc;rw[z7 (by unfold Y6 at hr;omega)]
  .have:=Zhj (l:=List.drop (((kz r).length:Int)-1+1).toNat bars) (c:=Z1 (kz r) (((kz r).length:Int)-1)) (by omega) (fun b hb=>Zhi b (vG hb));rw[this]at h;omega
theorem Z1U(r:Int)(hr:Y6 r):uX prog wD 251 0 [.str bars, .int .i32 r] [] [] (qd (.bool (decide (0<=Qc r)))):=by
 refine uX.enter Z0 call251 func251 rfl 9 rfl rfl [.tmp 4] rfl ?_;intro w0 F η0 h0;conv=>whnf
 repeat'(first|refine CALL.value (Z5u r hr) rfl rfl ?_)<;>conv=>whnf
 exact wh.value h0 rfl rfl
theorem ZjC{r:Int}(hr:Y6 r):(r<=32\/0<=Qc r)<->Our.Barred r:=by
 unfold Y6 at hr;unfold Qc;by_cases h:0<=r/\r<128
 .rw[zh h];have:∀n:Nat,n<128->(((n:Int)<=32\/0<=Lib.indexByte bars (IntKind.u8.wrap (n:Int)).toNat.toUInt8)<->Our.Barred (n:Int)):=by decide+kernel
  have:=this r.toNat (by omega);rwa [show((r.toNat:Nat):Int)=r by omega]at this
 .rw[z7 h];unfold Our.Barred;omega
theorem Zal(r:Int)(hr:Y6 r):uX prog wD 205 0 [.int .i32 r] [] [] (qd (.bool (U0 r))):=by
 refine uX.enter Z0 call205 func205 rfl 9 rfl rfl [.tmp 2] rfl ?_;intro w0 F η0 h0;conv=>whnf
 repeat'(first|refine CALL.value (Z1U r hr) rfl rfl ?_|refine AU ?_|refine IW ?_ ?_<;>intro h<;>try omega)<;>conv=>whnf
 all_goals
  refine wh.value h0 rfl (ze SV.bool ?_);rw[zZ,LQ,<-ZjC hr];simp;try omega
theorem Z5v(s:List UInt8)(hs:Sm s):uX prog wD 157 0 [.str s] [] [] (qd (.int .i64 (dO s))):=by
 have hp:∀c:Int,128<=c->U0 c=false:=fun c hc=>by rw[Z6V];unfold Our.Barred;omega
 refine uX.enter Z0 call157 func157 rfl 15 rfl rfl [.tmp 2] rfl ?_;intro w0 F η0 h0;conv=>whnf
 repeat'(first|refine CALL.value (Bb s hs) rfl rfl ?_|refine CALL.value (Z5t _ U0 (fun r hr=>Zal r hr) s hs) rfl rfl ?_|refine IW ?_ ?_<;>intro h<;>try omega)<;>conv=>whnf
 all_goals
  refine wh.value h0 rfl (ze (SV.int _) ?_);unfold dO
 rw[zh (by omega)];rw[z7 (by omega),zh (by omega)]
 all_goals
  rename_i h1 h2
  have hc:fD s 0= -1:=by
   have:=B4 s 0;omega
  have:=Z8z U0 hp s 0 hc;rw[z7 (by omega),z7 (by omega)]
 rw[zh (this.1 h)];rw[z7 (fun h'=>by have:=this.2 h';omega)]
theorem Zam(s:List UInt8)(hs:Sm s):uX prog wD 158 0 [.str s] [] [] (qd (.str (s.take (jC s 0).toNat))):=by
 refine uX.enter Z0 call158 func158 rfl 61 rfl rfl [.tmp 2] rfl ?_;intro w0 F η0 h0;conv=>whnf
 refine wj.go Z0 [0,7] (X:=Nat) (fun i=>i<=s.length/\jC s i=jC s 0) (fun i=>[]) (fun i=>[(0, .qM s i)]) 1 (fun i=>s.length-i) 0 ⟨by omega,rfl⟩ ?_;conv=>whnf
 refine⟨by exact w5.cA h0,?_⟩;rintro i ⟨hi,hc⟩;conv=>whnf
 refine⟨fun h=>?_,fun h=>?_⟩
 .have h:i<s.length:=by simpa using h
  have hf:=Bf s i h;have hp:=E8 s i;have hb:=ZL s i
  have hd:((ki s i).1:Int)=Z1 s i/\(ki s i).2=1\/128<=Z1 s i/\128<=(ki s i).1:=by
   by_cases ha:Z1 s i<128
   left;rw[WP ha];simp;omega
   right;exact⟨by omega,Bh (by omega)⟩
  unfold ki at*;generalize Utf8.decode ⟨s.toArray⟩ i=d at*;obtain⟨r,n⟩:=d;simp only at hf hp hd;conv=>whnf
  repeat'(first|refine AU ?_|refine IW ?_ ?_<;>intro h<;>try omega)<;>conv=>whnf
  all_goals first
   |(have hn:n=1:=by omega
     subst hn;refine⟨i+1,⟨hf,?_⟩,by omega,?_⟩;rw[<-hc,<-Bl (by omega) (by omega) (by unfold J4 bU;omega)]
     .conv=>whnf
      exact w5.cA h0)
   |(refine wh.value h0 rfl (ze SV.str ?_);rw[<-hc,WQ (by omega) (by omega)])
   |(refine wh.value h0 rfl (ze SV.str ?_);rw[<-hc]
     by_cases LV:Z1 s i=58
     rw[WQ (by omega) LV];rw[show(i:Int)=0 by omega];rfl
     rw[Bm (by omega) LV (by unfold J4 bU;omega)];rfl)
 .have h:s.length<=i:=by simpa using h
  conv=>whnf
  repeat'(first|refine AU ?_)<;>conv=>whnf
  refine wh.value h0 rfl ?_;rw[<-hc,E9 h];rfl
theorem LW(s:List UInt8)(hs:Sm s):uX prog wD 121 0 [.str s] [] [] (qd (.int .i64 (fZ s))):=by
 have hr:=Zhh s 0;refine uX.enter Z0 call121 func121 rfl 12 rfl rfl [.tmp 2] rfl ?_;intro w0 F η0 h0;conv=>whnf
 repeat'(first|refine CALL.value (Z5v s hs) rfl rfl ?_|refine CALL.value (Zam s hs) rfl rfl ?_|refine IW ?_ ?_<;>intro h<;>try omega)<;>conv=>whnf
 .refine wh.value h0 rfl (ze (SV.int _) ?_);unfold fZ;rw[zh h]
 .rename_i h1;refine wh.value h0 rfl (ze (SV.int _) ?_);unfold fZ;rw[z7 (by omega),zh]
  have hz:(s.take (jC s 0).toNat).length=0:=by
   have:s.take (jC s 0).toNat=[]:=h;rw[this];rfl
  rw[zu]at hz;by_cases hl:s.length=0
  rw[E9 (by omega)];omega
 .rename_i h1;refine wh.value h0 rfl (ze (SV.int _) ?_);unfold fZ;rw[z7 (by omega),z7];intro h2;apply h;rw[h2];rfl
open _root_.Go.Proofs.Tryz
theorem LY(r:Int):uX prog wD 299 0 [.int .i32 r] [] [] (qd (.bool (decide (J4 r)))):=by
 refine uX.enter Z0 call299 func299 rfl 17 rfl rfl [.tmp 2] rfl ?_;intro w0 F η0 h0;conv=>whnf
 skip
 refine wh.value h0 rfl (ze SV.bool ?_);rw[zZ];simp only[xd,yc,xu,xI,zk,yI]
 rfl
theorem Ve(r:Int):uX prog wD 254 0 [.int .i32 r] [] [] (qd (.bool (decide (Wf r)))):=by
 refine uX.enter Z0 call254 func254 rfl 9 rfl rfl [.tmp 2] rfl ?_;intro w0 F η0 h0;conv=>whnf
 skip
 refine wh.value h0 rfl (ze SV.bool ?_);rw[zZ];simp only[xd,yc,xu,xI,zk,yI]
 rfl
theorem Zd0(r:Int):uX prog wD 295 0 [.int .i32 r] [] [] (qd (.bool (decide (mZ r)))):=by
 refine uX.enter Z0 call295 func295 rfl 25 rfl rfl [.tmp 2] rfl ?_;intro w0 F η0 h0;conv=>whnf
 repeat'(first|refine CALL.value (LY _) rfl rfl ?_|refine wj.once Z0 ?_|refine AU ?_|refine IW ?_ ?_<;>intro h<;>try omega)<;>conv=>whnf
 all_goals
  refine wh.value h0 rfl (ze SV.bool ?_)
  first
   |exact vg.2 (by unfold J4 mZ;omega)
   |exact(yu (by unfold mZ;omega)).symm
   |exact(ye (by unfold mZ;omega)).symm
theorem LZ(r:Int):uX prog wD 253 0 [.int .i32 r] [] [] (qd (.bool (decide (s4 r)))):=by
 refine uX.enter Z0 call253 func253 rfl 9 rfl rfl [.tmp 2] rfl ?_;intro w0 F η0 h0;conv=>whnf
 repeat'(first|refine CALL.value (Zd0 _) rfl rfl ?_)<;>conv=>whnf
 all_goals
  refine wh.value h0 rfl (ze SV.bool ?_);rw[zZ,yy];unfold s4;simp
theorem Z5w(r:Int):uX prog wD 252 0 [.int .i32 r] [] [] (qd (.bool (decide (Yi r)))):=by
 refine uX.enter Z0 call252 func252 rfl 33 rfl rfl [.tmp 2] rfl ?_;intro w0 F η0 h0;conv=>whnf
 repeat'(first|refine CALL.value (LZ _) rfl rfl ?_|refine CALL.value (Ve _) rfl rfl ?_|refine AU ?_|refine IW ?_ ?_<;>intro h<;>try omega)<;>conv=>whnf
 all_goals
  refine wh.value h0 rfl (ze SV.bool ?_);rw[zZ];unfold Yi
  simp_all
  try omega
theorem Z8D(r:Int):uX prog wD 207 0 [.int .i32 r] [] [] (qd (.bool (decide (Vd r)))):=by
 refine uX.enter Z0 call207 func207 rfl 9 rfl rfl [.tmp 2] rfl ?_;intro w0 F η0 h0;conv=>whnf
 repeat'(first|refine CALL.value (LZ _) rfl rfl ?_|refine CALL.value (Ve _) rfl rfl ?_|refine AU ?_|refine IW ?_ ?_<;>intro h<;>try omega)<;>conv=>whnf
 all_goals
  refine wh.value h0 rfl (ze SV.bool ?_);unfold Vd
  simp_all
theorem Zf5(g:Nat)(p:Int->Prop)[DecidablePred p](hp:∀r:Int,uX prog wD g 0 [.int .i32 r] [] [] (qd (.bool (decide (p r)))))(s:List UInt8)(i:Int)(hs:Sm s):uX prog wD 206 0 [.str s, .int .i64 i, .fn (.func g) [] []] [] [] (qd (.int .i64 (runM p s i))):=by
 have hn:=Y7 s i;refine uX.enter Z0 call206 func206 rfl 55 rfl rfl [.tmp 6] rfl ?_;intro w0 F η0 h0;conv=>whnf
 repeat'(first|refine CALL.value (Ba s _ hs) rfl rfl ?_|refine CALL.value (hp _) rfl rfl ?_|refine AU ?_|refine IW ?_ ?_<;>intro h<;>try omega)<;>conv=>whnf
 exact wh.value h0 rfl (ze (SV.int _) (by unfold runM;rw[zh (.inl h)]));exact wh.value h0 rfl (ze (SV.int _) (by unfold runM;rw[zh (.inr h)]));rename_i h1
 have hi:0<=i/\i<s.length:=by
  apply xY;intro hh;exact h1 (by unfold Z7;rw[zh (by omega)])
 refine wj.go Z0 [0,1] (X:=Nat×Nat) (fun x=>x.1<=s.length/\x.2<=x.1/\js s x.1 x.2=js s (i.toNat+(Z7 s i).2.toNat) (i.toNat+(Z7 s i).2.toNat)) (fun x=>[(10, .int .i64 (x.1:Int)),(9, .int .i64 (x.2:Int))]) (fun i=>[]) 0 (fun x=>s.length-x.1) (i.toNat+(Z7 s i).2.toNat,i.toNat+(Z7 s i).2.toNat) ⟨by omega,by omega,rfl⟩ ?_;conv=>whnf
 refine⟨by exact w5.cA h0,?_⟩;rintro⟨j,e⟩ ⟨hj,he,hc⟩;simp only at hj he hc;have hn':=Y7 s j;conv=>whnf
 repeat'(first|refine CALL.value (Ba s _ hs) rfl rfl ?_|refine CALL.value (Z5w _) rfl rfl ?_|refine AU ?_|refine IW ?_ ?_<;>intro h<;>try omega)<;>conv=>whnf
 all_goals first
  |(refine wh.value h0 rfl (ze (SV.int _) ?_)
    unfold runM;rw[z7 (by simp[*]),<-hc,Bp (by simp[*])]
    simp(disch:=omega) only[Z5])
  |(refine⟨(j+(Z7 s j).2.toNat,if(Z7 s j).1=46 then e else j+(Z7 s j).2.toNat),⟨by simp only;omega,by simp only;split<;>omega,?_⟩,by simp only;omega,?_⟩
    .simp only;rw[<-hc,<-Bo (by simp[*])]
    .conv=>whnf
     simp only[*,yR,v8]
     exact w5.cA h0)
theorem Z6Y(s:List UInt8)(i:Int)(hs:Sm s):uX prog wD 159 0 [.str s, .int .i64 i] [] [] (qd (.int .i64 (runM Vd s i))):=by
 refine uX.enter Z0 call159 func159 rfl 8 rfl rfl [.tmp 4] rfl ?_;intro w0 F η0 h0;conv=>whnf
 repeat'(first|refine CALL.value (Zf5 _ Vd (fun r=>Z8D r) s i hs) rfl rfl ?_)<;>conv=>whnf
 exact wh.value h0 rfl rfl
theorem Zan(s:List UInt8)(hs:Sm s):uX prog wD 122 0 [.str s] [] [] (qd (.int .i64 (UT s))):=by
 refine uX.enter Z0 call122 func122 rfl 14 rfl rfl [.tmp 2] rfl ?_;intro w0 F η0 h0;conv=>whnf
 repeat'(first|refine CALL.value (Z6Y s _ hs) rfl rfl ?_|refine IW ?_ ?_<;>intro h<;>try omega)<;>conv=>whnf
 exact wh.value h0 rfl (ze (SV.int _) (by unfold UT;rw[zh (by simpa using h)]));exact wh.value h0 rfl (ze (SV.int _) (by unfold UT;rw[z7 (by simp;exact h)]))
open _root_.Go.Proofs.Tryz
theorem Vg(s:List UInt8)(least most:Int)(pure:Bool)(hs:Sm s):uX prog wD 260 0 [.str s, .int .i64 least, .int .i64 most, .bool pure] [] [] (qd (.bool (ZI s least most pure))):=by
 refine uX.enter Z0 call260 func260 rfl 37 rfl rfl [.tmp 8] rfl ?_;intro w0 F η0 h0;conv=>whnf
 refine wj.go Z0 [0,1,2,3,12] (X:=Nat) (fun i=>i<=s.length/\jb (JU pure) s i=jb (JU pure) s 0) (fun i=>[]) (fun i=>[(0, .qM s i)]) 1 (fun i=>s.length-i) 0 ⟨by omega,rfl⟩ ?_;conv=>whnf
 refine⟨by exact w5.cA h0,?_⟩;rintro i ⟨hi,hc⟩;conv=>whnf
 refine⟨fun h=>?_,fun h=>?_⟩
 .have h:i<s.length:=by simpa using h
  have hf:=Bf s i h;have hp:=E8 s i
  have hd:((ki s i).1:Int)=Z1 s i/\(ki s i).2=1\/128<=Z1 s i/\128<=(ki s i).1:=by
   have hb:=ZL s i;by_cases ha:Z1 s i<128
   left;rw[WP ha];simp;omega
   right;exact⟨by omega,Bh (by omega)⟩
  unfold ki at*;generalize Utf8.decode ⟨s.toArray⟩ i=d at*;obtain⟨r,n⟩:=d;simp only at hf hp hd
  have key:jb (JU pure) s 0=(JU pure r&&jb (JU pure) s (i+n))\/128<=r/\jb (JU pure) s 0=false:=by
   rcases hd with⟨h1,rfl⟩|⟨h1,h2⟩
   left;rw[<-hc,JP h,h1]
   right;exact⟨h2,by rw[<-hc,JP h,R1 h1,Bool.false_and]⟩
  conv=>whnf
  repeat'(first|refine CALL.value (LY _) rfl rfl ?_|refine CALL.value (Ve _) rfl rfl ?_|refine AU ?_|refine IW ?_ ?_<;>intro h<;>try omega)<;>conv=>whnf
  all_goals first
   |(refine wh.value h0 rfl (ze SV.bool ?_)
     have h1:JU pure r=false:=by unfold JU Vf XN;simp[*]
     have h2:jb (JU pure) s 0=false:=by rcases key with h|h<;>simp[h,h1]
     unfold ZI;rw[h2];rfl)
   |(have h1:JU pure r=true:=by unfold JU Vf XN;simp[*]
     refine⟨i+n,⟨hf,?_⟩,by omega,?_⟩
     .rcases key with h|h
      rw[h,h1,vo];rw[R1 (by omega)]at h1;cases h1
     .conv=>whnf
      exact w5.cA h0)
 .have h:s.length<=i:=by simpa using h
  conv=>whnf
  repeat'(first|refine AU ?_)<;>conv=>whnf
  all_goals
   refine wh.value h0 rfl (ze SV.bool ?_);unfold ZI;rw[<-hc,WS h,zZ];simp[xd]
theorem VI(s:List UInt8):uX prog wD 211 0 [.str s] [] [] (qd (.bool (Y1 s))):=by
 refine uX.enter Z0 call211 func211 rfl 9 rfl rfl [.tmp 2] rfl ?_;intro w0 F η0 h0;conv=>whnf
 skip
 refine wh.value h0 rfl (ze SV.bool ?_);unfold Y1;rw[zZ];simp[xd]
theorem R9(s:List UInt8)(hs:Sm s):uX prog wD 263 0 [.str s] [] [] (qd (.bool (Xd s))):=by
 have b0:=ZL s 0;have b1:=ZL s 1;have b2:=ZL s 2;refine uX.enter Z0 call263 func263 rfl 28 rfl rfl [.tmp 2] rfl ?_;intro w0 F η0 h0;conv=>whnf
 repeat'(first|refine CALL.value (Vg _ _ _ _ hs) rfl rfl ?_|refine CALL.value (Ve _) rfl rfl ?_|refine AU ?_|refine IW ?_ ?_<;>intro h<;>try omega)<;>conv=>whnf
 all_goals
  refine wh.value h0 rfl (ze SV.bool ?_);unfold Xd XN;try simp(disch:=omega) only[Zn]at*
  simp_all
  try omega
theorem VJ(s:List UInt8)(hs:Sm s):uX prog wD 264 0 [.str s] [] [] (qd (.bool (Jr s))):=by
 have b0:=ZL s 0;have hm:ZI s 4 4 false=true->s.length=4:=by unfold ZI;simp;omega
 refine uX.enter Z0 call264 func264 rfl 15 rfl rfl [.tmp 2] rfl ?_;intro w0 F η0 h0;conv=>whnf
 repeat'(first|refine CALL.value (Vg _ _ _ _ hs) rfl rfl ?_|refine CALL.value (Ve _) rfl rfl ?_|refine wm.mk (by have:=hm (by assumption);omega) ?_|refine AU ?_|refine IW ?_ ?_<;>intro h<;>try omega)<;>conv=>whnf
 all_goals
  refine wh.value h0 rfl (ze SV.bool ?_);unfold Jr XN;try simp(disch:=omega) only[Zn]at*
  simp_all
theorem Xm(s:List UInt8)(hs:Sm s):uX prog wD 162 0 [.str s] [] [] (qd (.str (Z9 s))):=by
 refine uX.enter Z0 call162 func162 rfl 29 rfl rfl [.tmp 2] rfl ?_;intro w0 F η0 h0;conv=>whnf
 repeat'(first|refine AU ?_)<;>conv=>whnf
 refine wj.go Z0 [3,8,9] (X:=Nat) (fun i=>i<=s.length) (fun i=>[(10, .int .i64 (i:Int))]) (fun i=>[(0, .rows 1 ((jQ s i).map Sx.bytesRow))]) 1 (fun i=>s.length-i) 0 (by omega) ?_;conv=>whnf
 refine⟨by(refine w5.qn h0 rfl rfl rfl (by first|rfl|(simp only[Zj,Zi,Z2 _ (Zf _),zD,zG]<;>rfl)) ?_ ?_<;>(repeat'(first|(with_reducible rfl)|(exact Ya rfl (by first|(simp;done)|omega|(simp;omega)))|(exact ze (SV.int _) (by first|omega|(simp(disch:=omega) only[qL,Z5,Zn]<;>omega)|(simp;done)|(simp<;>omega)))|(exact ze (Hp.rows _) (by rw[R4]))|((conv=>whnf);refine⟨?_,?_⟩)|exact trivial|rfl))),?_⟩;intro i hi;have hlen:=R3 s i;conv=>whnf
 repeat'(first|refine GET.at (row:=Sx.bytesRow (s[i]'(by omega))) (by rw[show 0+(i:Int).toNat=i by omega];exact Bq (by omega)) ?_|refine AU ?_|refine IW ?_ ?_<;>intro h<;>try omega)<;>conv=>whnf
 .have hl:i<s.length:=by omega
  refine⟨i+1,by omega,by omega,?_⟩;conv=>whnf
  (refine w5.qn h0 rfl rfl rfl (by first|rfl|(simp only[Zj,Zi,Z2 _ (Zf _),zD,zG]<;>rfl)) ?_ ?_<;>(repeat'(first|(with_reducible rfl)|(exact Ya rfl (by first|(simp;done)|omega|(simp;omega)))|(exact ze (SV.int _) (by first|omega|(simp(disch:=omega) only[qL,Z5,Zn]<;>omega)|(simp;done)|(simp<;>omega)))|(exact ze (Hp.rows _) (by rw[R8 h,show 0+(i:Int).toNat=i by omega,R7 hl]))|((conv=>whnf);refine⟨?_,?_⟩)|exact trivial|rfl)))
 .have hl:i<s.length:=by omega
  refine⟨i+1,by omega,by omega,?_⟩;conv=>whnf
  (refine w5.qn h0 rfl rfl rfl (by first|rfl|(simp only[Zj,Zi,Z2 _ (Zf _),zD,zG]<;>rfl)) ?_ ?_<;>(repeat'(first|(with_reducible rfl)|(exact Ya rfl (by first|(simp;done)|omega|(simp;omega)))|(exact ze (SV.int _) (by first|omega|(simp(disch:=omega) only[qL,Z5,Zn]<;>omega)|(simp;done)|(simp<;>omega)))|(exact ze (Hp.rows _) (by rw[R6 hl (Br (by omega))]))|((conv=>whnf);refine⟨?_,?_⟩)|exact trivial|rfl)))
 .refine wm.mk (Jq (by omega)) ?_;conv=>whnf
  refine wh.value h0 rfl (ze SV.str ?_);have:=UC (jQ s i);rw[hlen]at this;rw[this,R5 (by omega)]
open _root_.Go.Proofs.Tryz
theorem Z39(s:List UInt8)(c:Int):uX prog wD 313 0 [.str s, .int .u8 c] [] [] (qd (.int .i64 (Lib.countByte s c.toNat.toUInt8:Nat))):=by
 refine uX.says fun K w vs hd=>?_;simp only[w6,Den]at hd;obtain⟨u,us,rfl,rfl,u',us',rfl,rfl,rfl⟩:=hd;refine⟨_,?_,rfl⟩;rw[run_callFunc_extern func313 (by kernel_rfl) (by kernel_rfl) (by kernel_rfl) (e:=Extern.BytealgCount.count) (by kernel_rfl),Lib.run_countString]
 rfl
theorem Zd1(s:List UInt8):uX prog wD 297 0 [.str s, .str [45]] [] [] (qd (.int .i64 (s.count 45:Nat))):=by
 refine uX.enter Z0 call297 func297 rfl 34 rfl rfl [.tmp 4] rfl ?_;intro w0 F η0 h0;conv=>whnf
 repeat'(first|refine CALL.value (Z39 _ _) rfl rfl ?_|refine AU ?_|refine IW ?_ ?_<;>intro h<;>try omega)<;>conv=>whnf
 all_goals first
  |exact wh.value h0 rfl rfl
  |(exfalso;simp at*;done)
theorem Z8I(s:List UInt8):uX prog wD 314 0 [.str s, .str [45]] [] [] (qd (.int .i64 (Lib.indexByte s 45))):=by
 refine uX.enter Z0 call314 func314 rfl 143 rfl rfl [.tmp 4] rfl ?_;intro w0 F η0 h0;conv=>whnf
 repeat'(first|refine CALL.value (US _ _) rfl rfl ?_|refine AU ?_|refine IW ?_ ?_<;>intro h<;>try omega)<;>conv=>whnf
 all_goals first
  |exact wh.value h0 rfl rfl
  |(subst h;exact wh.value h0 rfl rfl)
  |(rcases h with h|h
    exact absurd h (by decide)
    subst h;exact wh.value h0 rfl rfl)
  |exact absurd (by assumption:¬((0+1:Nat):Int)=1) (by decide)
theorem Zd2(s:List UInt8):uX prog wD 298 0 [.str s, .str [45]] [] [] (qd (.int .i64 (Lib.indexByte s 45))):=by
 refine uX.enter Z0 call298 func298 rfl 8 rfl rfl [.tmp 4] rfl ?_;intro w0 F η0 h0;conv=>whnf
 repeat'(first|refine CALL.value (Z8I _) rfl rfl ?_)<;>conv=>whnf
 exact wh.value h0 rfl rfl
theorem Zhm{l c:Int}{b:Nat}(B:Nat)(hb:Nat.ble b B=true)(h0:0<=l)(h1:l<=c)(h2:(B:Int)*c<=281474976710656/\c<=9223372036854775807):0<=l/\l<=c/\c<=9223372036854775807/\(b:Int)*c<=281474976710656:=
 ⟨h0,h1,h2.2,uJ (vr (by have:=zT hb;omega) (by omega)) h2.1⟩
theorem Z70(s:List UInt8)(hs:s.length<=68719476736):uX prog wD 258 0 [.str s, .str [45], .int .i64 0, .int .i64 (-1)] [] [] (rX 1 ((Zw s).map Ze)):=by
 have z4u:=Jl s;have hlen:=Eb s;have hne:=Ea s;refine uX.enter Z0 call258 func258 rfl 66 rfl rfl [.tmp 8] rfl ?_;intro w0 F η0 h0;conv=>whnf
 repeat'(first|refine CALL.value (Zd1 _) rfl rfl ?_|refine IW ?_ ?_<;>intro h<;>try omega)<;>conv=>whnf
 have hn:(if IntKind.i64.wrap ((s.length:Int)+1)<IntKind.i64.wrap (((s.count 45:Nat):Int)+1)then IntKind.i64.wrap ((s.length:Int)+1)else IntKind.i64.wrap (((s.count 45:Nat):Int)+1))=((Zw s).length:Int):=by
  simp(disch:=omega) only[Z5];rw[z7 (by omega)];omega
 rw[hn];refine wm.mk (Zhm 16 rfl (by omega) (by omega) (by omega)) ?_;conv=>whnf
 rw[show List.replicate ((Zw s).length:Int).toNat [SV.str []]=l5 [] (Zw s).length by rw[Int.toNat_natCast];rfl];refine wj.go Z0 [1,2,3,9] (X:=List (List UInt8)×List UInt8) (fun x=>Zw s=x.1++Zw x.2/\x.2.length<=s.length) (fun x=>[(10, .int .i64 (x.1.length:Int)),(0, .str x.2)]) (fun x=>[(0, .rows 1 (l5 x.1 ((Zw s).length-x.1.length)))]) 1 (fun x=>(Zw s).length-x.1.length) ([],s) ⟨rfl,zo _⟩ ?_;conv=>whnf
 refine⟨by(refine w5.qn h0 rfl rfl rfl (by first|rfl|(simp only[Zj,Zi,Z2 _ (Rc _ _),zD,zG]<;>rfl)) ?_ ?_<;>(repeat'(first|(with_reducible rfl)|(exact Ya rfl (by first|(simp;done)|omega|(simp;omega)))|(exact ze (SV.int _) (by first|omega|(simp(disch:=omega) only[qL,Z5,Zn]<;>omega)|(simp;done)|(simp<;>omega)))|(exact ze (Hp.rows _) (by rfl))|((conv=>whnf);refine⟨?_,?_⟩)|exact trivial|rfl))),?_⟩;rintro⟨d,u⟩ ⟨he,hu⟩;dsimp only at he hu⊢;have hd:d.length+(Zw u).length=(Zw s).length:=by rw[he,zg]
 have hun:1<=(Zw u).length:=by have:=Jl u;omega
 have hm:Lib.indexByte u 45= -1/\Zw u=[u]\/∃m:Nat,Lib.indexByte u 45=m/\m<u.length/\Zw u=u.take m::Zw (u.drop (m+1)):=by
  have hge:=Lib.indexByte_ge u 45;by_cases h:Lib.indexByte u 45= -1
  exact .inl ⟨h,Ra h⟩
  .have e:Lib.indexByte u 45=((Lib.indexByte u 45).toNat:Int):=by omega
   have:=Rb e;exact .inr ⟨_,e,this.1,this.2⟩
 conv=>whnf
 rcases hm with⟨hm,hs1⟩|⟨m,hm,hml,hs1⟩
 .have h1:(Zw u).length=1:=by rw[hs1];rfl
  repeat'(first|refine GET.at (row:=Ze []) (Re (by omega) (by omega)) ?_|refine wm.mk (by rw[Z5 (by omega) (by omega)];refine⟨by omega,?_⟩;show _<=((max (((Zw s).length:Int).toNat) (_-0):Nat):Int);omega) ?_|refine AU ?_|refine IW ?_ ?_<;>intro h<;>try omega)<;>conv=>whnf
  rw[Rf (by omega) (by omega)]
  have hw:(IntKind.i64.wrap ((d.length:Int)+1)).toNat=((Zw s).map Ze).length:=by
   rw[Z5 (by omega) (by omega),zA];omega
  rw[hw,show(Zw s).length-d.length-1=0 by omega,show l5 (d++ [u]) 0=(Zw s).map Ze by rw[he,hs1];simp[l5]];exact wh.rows h0 0 1 _ rfl rfl rfl (Yn _) ⟨rfl,rfl,rfl⟩
 .have h1:2<=(Zw u).length:=by rw[hs1];have:=Jl (u.drop (m+1));simp;omega
  repeat'(first|refine CALL.value (Zd2 _) rfl rfl ?_|refine GET.at (row:=Ze []) (Re (by omega) (by omega)) ?_|refine AU ?_|refine IW ?_ ?_<;>intro h<;>try omega)<;>conv=>whnf
  have hw1:(IntKind.i64.wrap (Lib.indexByte u 45+(([45]:List UInt8).length:Int))).toNat=m+1:=by
   rw[hm];simp only[List.length_cons,List.length_nil];rw[Z5 (by omega) (by omega)];omega
  have Bs:(IntKind.i64.wrap (Lib.indexByte u 45+0)).toNat=m:=by
   rw[hm,Z5 (by omega) (by omega)];omega
  rw[hw1,Bs,Rf (by omega) (by omega)];refine⟨(d++ [u.take m],u.drop (m+1)),⟨by rw[he,hs1];simp,by simp;omega⟩,by simp;omega,?_⟩;dsimp only;conv=>whnf
  (refine w5.qn h0 rfl rfl rfl (by first|rfl|(simp only[Zj,Zi,Z2 _ (Rc _ _),zD,zG]<;>rfl)) ?_ ?_<;>(repeat'(first|(with_reducible rfl)|(exact Ya rfl (by first|(simp;done)|omega|(simp;omega)))|(exact ze (SV.int _) (by first|omega|(simp(disch:=omega) only[qL,Z5,Zn]<;>omega)|(simp;done)|(simp<;>omega)))|(exact ze (Hp.rows _) (by congr 1;simp;omega))|((conv=>whnf);refine⟨?_,?_⟩)|exact trivial|rfl)))
theorem Zd3(s:List UInt8)(hs:s.length<=68719476736):uX prog wD 209 0 [.str s, .str [45]] [] [] (rX 1 ((Zw s).map Ze)):=by
 refine uX.enter Z0 call209 func209 rfl 8 rfl rfl [.tmp 4] rfl ?_;intro w0 F η0 h0;conv=>whnf
 refine CALL.Q9 (Z70 s hs) rfl (Yn _) ?_;conv=>whnf
 exact wh.rows h0 0 1 _ rfl rfl rfl (Yn _) ⟨rfl,rfl,rfl⟩
open _root_.Go.Proofs.Tryz
theorem Zd6(s:List UInt8)(hs:Sm s):uX prog wD 259 0 [.str s] [] [] (qd (.bool (ZI s 2 8 true))):=by
 refine uX.enter Z0 call259 func259 rfl 5 rfl rfl [.tmp 2] rfl ?_;intro w0 F η0 h0;conv=>whnf
 repeat'(first|refine CALL.value (Vg _ _ _ _ hs) rfl rfl ?_)<;>conv=>whnf
 exact wh.value h0 rfl rfl
theorem Zd7(s:List UInt8)(hs:Sm s):uX prog wD 261 0 [.str s] [] [] (qd (.bool (ZI s 3 3 true))):=by
 refine uX.enter Z0 call261 func261 rfl 5 rfl rfl [.tmp 2] rfl ?_;intro w0 F η0 h0;conv=>whnf
 repeat'(first|refine CALL.value (Vg _ _ _ _ hs) rfl rfl ?_)<;>conv=>whnf
 exact wh.value h0 rfl rfl
theorem Zd8(s:List UInt8)(hs:Sm s):uX prog wD 262 0 [.str s] [] [] (qd (.bool (ZI s 4 4 true))):=by
 refine uX.enter Z0 call262 func262 rfl 5 rfl rfl [.tmp 2] rfl ?_;intro w0 F η0 h0;conv=>whnf
 repeat'(first|refine CALL.value (Vg _ _ _ _ hs) rfl rfl ?_)<;>conv=>whnf
 exact wh.value h0 rfl rfl
theorem WT(s:List UInt8)(hs:Sm s):uX prog wD 266 0 [.str s] [] [] (qd (.bool (Xp s))):=by
 refine uX.enter Z0 call266 func266 rfl 10 rfl rfl [.tmp 2] rfl ?_;intro w0 F η0 h0;conv=>whnf
 repeat'(first|refine CALL.value (Vg _ _ _ _ hs) rfl rfl ?_|refine CALL.value (VI _) rfl rfl ?_|refine AU ?_|refine IW ?_ ?_<;>intro h<;>try omega)<;>conv=>whnf
 all_goals
  refine wh.value h0 rfl (ze SV.bool ?_);unfold Xp
  simp_all
theorem Bv(s:List UInt8)(least:Int)(hs:Sm s):uX prog wD 267 1 [.str s, .ptr (.loc 0) 0 0 0] [] [(0, .box [.int .i64 least])] (qE 1 (.bool (ZI s least 8 false))):=by
 refine uX.enter Z0 call267 func267 rfl 7 rfl rfl [.tmp 3] rfl ?_;intro w0 F η0 h0;conv=>whnf
 repeat'(first|refine CALL.value (Vg _ _ _ _ hs) rfl rfl ?_)<;>conv=>whnf
 exact wh.wC h0 rfl rfl
def Wg(i m:Nat)(L E S R:List UInt8)(v x:Nat)(P:List UInt8):Hp:= .box [.sl (.loc 1) i 1 m none, .str L, .str E, .str S, .str R, .sl (.loc 2) 0 1 v none, .sl (.loc 3) 0 1 x none, .str P]
def ry(i m:Nat)(L E S R:List UInt8)(v x:Nat)(P:List UInt8):Hp:= .box [.sl (.loc 1) i 1 m none, .str L, .str E, .str S, .str R, .any, .any, .str P]
def JC(i m:Nat)(L E S R:List UInt8)(v x:Nat)(P:List UInt8):Hp:= .box [.sl (.loc 1) i 1 m none, .str L, .str E, .str S, .str R, .sl (.loc 4) 0 1 v none, .sl (.loc 5) 0 1 x none, .str P]
def YD(p:List UInt8->Bool)(ps:List (List UInt8))(i:Nat):Bool:=match ps[i]? with|some s=>p s|none=>false
theorem rz{ps:List (List UInt8)}{i:Nat}{p:List UInt8}(h:ps[i]?=some p):((ps.take (i+1)).map List.length).sum=((ps.take i).map List.length).sum+p.length:=by
 obtain⟨h1,rfl⟩:=zf.1 h;rw[zH h1,yj,uk];simp
abbrev JD(ps:List (List UInt8)):Nat:=(ps.map List.length).sum
theorem YP(ps:List (List UInt8))(i:Nat):((ps.take i).map List.length).sum<=JD ps:=by
 conv=>rhs;unfold JD;rw[<-yM i ps]
 rw[yj,uk];omega
theorem Vh(g:Nat)(p:List UInt8->Bool)(ps:List (List UInt8))(hp:∀s∈ps,uX prog wD g 0 [.str s] [] [] (qd (.bool (p s))))(i m:Nat)(him:i+m=ps.length)(L E S R:List UInt8)(v x:Nat)(P:List UInt8):
 uX prog wD 210 4 [.ptr (.loc 0) 0 0 0, .fn (.func g) [] []] [] [(0,Wg i m L E S R v x P),(1, .rows 1 (ps.map Ze))] (qE 4 (.bool (YD p ps i))):=by
 refine uX.enter Z0 call210 func210 rfl 21 rfl rfl [.tmp 4] rfl ?_;intro w0 F η0 h0;conv=>whnf
 repeat'(first|refine GET.at (row:=Ze (ps[i]'(by omega))) (by rw[z6,show i+(0:Int).toNat=i by simp,z1 (by omega)];rfl) ?_|refine CALL.value (hp _ (zm (by omega))) rfl rfl ?_|refine AU ?_|refine IW ?_ ?_<;>intro h<;>try omega)<;>conv=>whnf
 .refine wh.wC h0 rfl (ze SV.bool ?_);unfold YD;rw[z1 (by omega)];rfl
 .refine wh.wC h0 rfl (ze SV.bool ?_);unfold YD;rw[zS (by omega)]
theorem Z71(least:Int)(ps:List (List UInt8))(hp:∀s∈ps,Sm s)(i m:Nat)(him:i+m=ps.length)(L E S R:List UInt8)(v x:Nat)(P:List UInt8):
 uX prog wD 210 5 [.ptr (.loc 0) 0 0 0, .fn (.func 267) [] [.ptr (.loc 4) 0 0 0]] [] [(0,Wg i m L E S R v x P),(1, .rows 1 (ps.map Ze)),(4, .box [.int .i64 least])] (qE 5 (.bool (YD (fun s=>ZI s least 8 false) ps i))):=by
 refine uX.enter Z0 call210 func210 rfl 21 rfl rfl [.tmp 4] rfl ?_;intro w0 F η0 h0;conv=>whnf
 repeat'(first|refine GET.at (row:=Ze (ps[i]'(by omega))) (by rw[z6,show i+(0:Int).toNat=i by simp,z1 (by omega)];rfl) ?_|refine CALL.looks [4] (Bv (ps[i]'(by omega)) least (hp _ (zm (by omega)))) rfl rfl rfl rfl ⟨⟨rfl,rfl,rfl⟩,trivial⟩ ?_|refine AU ?_|refine IW ?_ ?_<;>intro h<;>try omega)<;>conv=>whnf
 .refine wh.wC h0 rfl (ze SV.bool ?_);unfold YD;rw[z1 (by omega)];rfl
 .refine wh.wC h0 rfl (ze SV.bool ?_);unfold YD;rw[zS (by omega)]
theorem YE(ps:List (List UInt8))(i m:Nat)(him:i+(m+1)=ps.length)(p:List UInt8)(hp:ps[i]?=some p)(L E S R:List UInt8)(v x:Nat)(P:List UInt8):
 uX prog wD 214 4 [.ptr (.loc 0) 0 0 0] [(0,Wg i (m+1) L E S R v x P)] [(1, .rows 1 (ps.map Ze))] (fun r O nx=>r= .str p/\O=[(0,Wg (i+1) m L E S R v x P)]/\nx=4):=by
 refine uX.enter Z0 call214 func214 rfl 19 rfl rfl [.tmp 2] rfl ?_;intro w0 F η0 h0;conv=>whnf
 repeat'(first|refine GET.at (row:=Ze p) (by rw[z6,show i+(0:Int).toNat=i by simp,hp];rfl) ?_|refine AU ?_)<;>conv=>whnf
 exact wh.here h0 (Oc:=[(0,Wg (i+1) m L E S R v x P)]) rfl rfl rfl ⟨rfl,trivial⟩ ⟨rfl,rfl,rfl⟩
theorem Zf7(least:Int)(ps:List (List UInt8))(hb:JD ps+ps.length<=1152921504606846976)(i m:Nat)(him:i+m=ps.length)(L E S R:List UInt8)(v x:Nat)(P:List UInt8):
 uX prog wD 215 4 [.ptr (.loc 0) 0 0 0, .int .i64 least] [(0,Wg i m L E S R v x P)] [(1, .rows 1 (ps.map Ze))]
  (fun r O nx=> ∃(n:Nat) (s:List UInt8),n=ZW (fun s=>ZI s least 8 false) (ps.drop i)/\s.length<=JD ps+ps.length/\r= .wM [.str s, .bool (decide (n≠0))]/\O=[(0,Wg (i+n) (m-n) L E S R v x P)]/\nx=4):=by
 have qW:∀s∈ps,Sm s:=by
  intro s hs;obtain⟨j,hj,rfl⟩:=vP hs;have h1:=rz (z1 hj);have h2:=YP ps (j+1);omega
 refine uX.enter Z0 call215 func215 rfl 18 rfl rfl [.tmp 4, .tmp 5] rfl ?_;intro w0 F η0 h0;conv=>whnf
 refine wj.go Z0 [0,3] (X:=Nat×List UInt8) (fun y=>y.1<=m/\y.2.length<=((ps.take (i+y.1)).map List.length).sum+(i+y.1)/\(y.1=0<->y.2=[])/\ZW (fun s=>ZI s least 8 false) (ps.drop i)=y.1+ZW (fun s=>ZI s least 8 false) (ps.drop (i+y.1))) (fun y=>[(6, .str y.2)]) (fun y=>[(0,Wg (i+y.1) (m-y.1) L E S R v x P),(4, .box [.int .i64 least])]) 5 (fun y=>m-y.1) (0,[]) ⟨by simp,by simp,by simp,by simp⟩ ?_;conv=>whnf
 refine⟨by exact w5.cA h0,?_⟩;rintro⟨n,s⟩ ⟨hn,hl,tE,cH⟩;dsimp only at hn hl tE cH⊢;conv=>whnf
 refine CALL.hA (Z71 least ps qW (i+n) (m-n) (by omega) L E S R v x P) ?_ ?_;rintro r O' w8 ⟨rfl,rfl,rfl⟩;exact⟨rfl,rfl,rfl⟩;rintro r O' ⟨rfl,rfl,_⟩;conv=>whnf
 refine⟨fun h=>?_,fun h=>?_⟩
 .obtain⟨p,hp,oL⟩:∃p,ps[i+n]?=some p/\ZI p least 8 false=true:=by
   unfold YD at h;cases hp:ps[i+n]? with
   |none=>rw[hp]at h;cases h
   |some p=>rw[hp]at h;exact⟨p,rfl,h⟩
  have hlt:=(zf.1 hp).1;have hs1:=rz hp;have hs2:=YP ps (i+n+1);obtain⟨k,hk⟩:∃k,m-n=k+1:=⟨m-n-1,by omega⟩;rw[hk];conv=>whnf
  refine CALL.hA (YE ps (i+n) k (by omega) p hp L E S R v x P) ?_ ?_;rintro r O' w8 ⟨rfl,rfl,rfl⟩;exact⟨rfl,rfl,rfl⟩;rintro r O' ⟨rfl,rfl,_⟩;conv=>whnf
  repeat'(first|refine AU ?_)<;>conv=>whnf
  have hsp:ZW (fun s=>ZI s least 8 false) (ps.drop (i+n))=ZW (fun s=>ZI s least 8 false) (ps.drop (i+(n+1)))+1:=by
   rw[zq hlt]
   have:ps[i+n]=p:=by
    have:=z1 hlt;rw[hp]at this;injection this with this;exact this.symm
   rw[this];simp only[ZW,oL,yR]
   rfl
  refine⟨(n+1,s++([45]++p)),⟨by simp only;omega,?_,by simp,by simp only;omega⟩,by simp only;omega,?_⟩
  .simp only[zg,List.length_cons,List.length_nil];rw[show i+(n+1)=i+n+1 by omega,hs1];omega
  .dsimp only;rw[show i+(n+1)=i+n+1 by omega,show m-(n+1)=k by omega];conv=>whnf
   exact w5.cA h0
 .have hsp:ZW (fun s=>ZI s least 8 false) (ps.drop (i+n))=0:=by
   unfold YD at h;cases hp:ps[i+n]? with
   |none=>rw[zN (by simpa using hp)];rfl
   |some p=>
    rw[hp]at h;have hlt:=(zf.1 hp).1;rw[zq hlt]
    have:ps[i+n]=p:=by
     have:=z1 hlt;rw[hp]at this;injection this with this;exact this.symm
    rw[this];simp only[ZW];simp only at h;simp[h]
  have hs2:=YP ps (i+n);conv=>whnf
  skip
  refine wh.here h0 (rc:= .wM [.str s, .bool (decide (n≠0))]) (Oc:=[(0,Wg (i+n) (m-n) L E S R v x P)]) ?_ rfl rfl ⟨rfl,trivial⟩ ⟨n,s,by omega,by omega,rfl,rfl,rfl⟩;show SV.wM [SV.str s,SV.bool (s !=[])]=SV.wM [SV.str s,SV.bool (decide (n≠0))]
  have:(s !=[])=decide (n≠0):=by rw[zZ];simp[tE]
  rw[this]
theorem Zd9(g:Nat)(p:List UInt8->Bool)(ps:List (List UInt8))(hp:∀s∈ps,uX prog wD g 0 [.str s] [] [] (qd (.bool (p s))))(i m:Nat)(him:i+m=ps.length)(L E S R:List UInt8)(v x:Nat)(P:List UInt8):
 uX prog wD 210 4 [.ptr (.loc 0) 0 0 0, .fn (.func g) [] []] [] [(0,ry i m L E S R v x P),(1, .rows 1 (ps.map Ze))] (qE 4 (.bool (YD p ps i))):=by
 refine uX.enter Z0 call210 func210 rfl 21 rfl rfl [.tmp 4] rfl ?_;intro w0 F η0 h0;conv=>whnf
 repeat'(first|refine GET.at (row:=Ze (ps[i]'(by omega))) (by rw[z6,show i+(0:Int).toNat=i by simp,z1 (by omega)];rfl) ?_|refine CALL.value (hp _ (zm (by omega))) rfl rfl ?_|refine AU ?_|refine IW ?_ ?_<;>intro h<;>try omega)<;>conv=>whnf
 .refine wh.wC h0 rfl (ze SV.bool ?_);unfold YD;rw[z1 (by omega)];rfl
 .refine wh.wC h0 rfl (ze SV.bool ?_);unfold YD;rw[zS (by omega)]
theorem Z5x(least:Int)(ps:List (List UInt8))(hp:∀s∈ps,Sm s)(i m:Nat)(him:i+m=ps.length)(L E S R:List UInt8)(v x:Nat)(P:List UInt8):
 uX prog wD 210 5 [.ptr (.loc 0) 0 0 0, .fn (.func 267) [] [.ptr (.loc 4) 0 0 0]] [] [(0,ry i m L E S R v x P),(1, .rows 1 (ps.map Ze)),(4, .box [.int .i64 least])] (qE 5 (.bool (YD (fun s=>ZI s least 8 false) ps i))):=by
 refine uX.enter Z0 call210 func210 rfl 21 rfl rfl [.tmp 4] rfl ?_;intro w0 F η0 h0;conv=>whnf
 repeat'(first|refine GET.at (row:=Ze (ps[i]'(by omega))) (by rw[z6,show i+(0:Int).toNat=i by simp,z1 (by omega)];rfl) ?_|refine CALL.looks [4] (Bv (ps[i]'(by omega)) least (hp _ (zm (by omega)))) rfl rfl rfl rfl ⟨⟨rfl,rfl,rfl⟩,trivial⟩ ?_|refine AU ?_|refine IW ?_ ?_<;>intro h<;>try omega)<;>conv=>whnf
 .refine wh.wC h0 rfl (ze SV.bool ?_);unfold YD;rw[z1 (by omega)];rfl
 .refine wh.wC h0 rfl (ze SV.bool ?_);unfold YD;rw[zS (by omega)]
theorem Ri(ps:List (List UInt8))(i m:Nat)(him:i+(m+1)=ps.length)(p:List UInt8)(hp:ps[i]?=some p)(L E S R:List UInt8)(v x:Nat)(P:List UInt8):
 uX prog wD 214 4 [.ptr (.loc 0) 0 0 0] [(0,ry i (m+1) L E S R v x P)] [(1, .rows 1 (ps.map Ze))] (fun r O nx=>r= .str p/\O=[(0,ry (i+1) m L E S R v x P)]/\nx=4):=by
 refine uX.enter Z0 call214 func214 rfl 19 rfl rfl [.tmp 2] rfl ?_;intro w0 F η0 h0;conv=>whnf
 repeat'(first|refine GET.at (row:=Ze p) (by rw[z6,show i+(0:Int).toNat=i by simp,hp];rfl) ?_|refine AU ?_)<;>conv=>whnf
 exact wh.here h0 (Oc:=[(0,ry (i+1) m L E S R v x P)]) rfl rfl rfl ⟨rfl,trivial⟩ ⟨rfl,rfl,rfl⟩
theorem Zda(least:Int)(ps:List (List UInt8))(hb:JD ps+ps.length<=1152921504606846976)(i m:Nat)(him:i+m=ps.length)(L E S R:List UInt8)(v x:Nat)(P:List UInt8):
 uX prog wD 215 4 [.ptr (.loc 0) 0 0 0, .int .i64 least] [(0,ry i m L E S R v x P)] [(1, .rows 1 (ps.map Ze))]
  (fun r O nx=> ∃(n:Nat) (s:List UInt8),n=ZW (fun s=>ZI s least 8 false) (ps.drop i)/\s.length<=JD ps+ps.length/\r= .wM [.str s, .bool (decide (n≠0))]/\O=[(0,ry (i+n) (m-n) L E S R v x P)]/\nx=4):=by
 have qW:∀s∈ps,Sm s:=by
  intro s hs;obtain⟨j,hj,rfl⟩:=vP hs;have h1:=rz (z1 hj);have h2:=YP ps (j+1);omega
 refine uX.enter Z0 call215 func215 rfl 18 rfl rfl [.tmp 4, .tmp 5] rfl ?_;intro w0 F η0 h0;conv=>whnf
 refine wj.go Z0 [0,3] (X:=Nat×List UInt8) (fun y=>y.1<=m/\y.2.length<=((ps.take (i+y.1)).map List.length).sum+(i+y.1)/\(y.1=0<->y.2=[])/\ZW (fun s=>ZI s least 8 false) (ps.drop i)=y.1+ZW (fun s=>ZI s least 8 false) (ps.drop (i+y.1))) (fun y=>[(6, .str y.2)]) (fun y=>[(0,ry (i+y.1) (m-y.1) L E S R v x P),(4, .box [.int .i64 least])]) 5 (fun y=>m-y.1) (0,[]) ⟨by simp,by simp,by simp,by simp⟩ ?_;conv=>whnf
 refine⟨by exact w5.cA h0,?_⟩;rintro⟨n,s⟩ ⟨hn,hl,tE,cH⟩;dsimp only at hn hl tE cH⊢;conv=>whnf
 refine CALL.hA (Z5x least ps qW (i+n) (m-n) (by omega) L E S R v x P) ?_ ?_;rintro r O' w8 ⟨rfl,rfl,rfl⟩;exact⟨rfl,rfl,rfl⟩;rintro r O' ⟨rfl,rfl,_⟩;conv=>whnf
 refine⟨fun h=>?_,fun h=>?_⟩
 .obtain⟨p,hp,oL⟩:∃p,ps[i+n]?=some p/\ZI p least 8 false=true:=by
   unfold YD at h;cases hp:ps[i+n]? with
   |none=>rw[hp]at h;cases h
   |some p=>rw[hp]at h;exact⟨p,rfl,h⟩
  have hlt:=(zf.1 hp).1;have hs1:=rz hp;have hs2:=YP ps (i+n+1);obtain⟨k,hk⟩:∃k,m-n=k+1:=⟨m-n-1,by omega⟩;rw[hk];conv=>whnf
  refine CALL.hA (Ri ps (i+n) k (by omega) p hp L E S R v x P) ?_ ?_;rintro r O' w8 ⟨rfl,rfl,rfl⟩;exact⟨rfl,rfl,rfl⟩;rintro r O' ⟨rfl,rfl,_⟩;conv=>whnf
  repeat'(first|refine AU ?_)<;>conv=>whnf
  have hsp:ZW (fun s=>ZI s least 8 false) (ps.drop (i+n))=ZW (fun s=>ZI s least 8 false) (ps.drop (i+(n+1)))+1:=by
   rw[zq hlt]
   have:ps[i+n]=p:=by
    have:=z1 hlt;rw[hp]at this;injection this with this;exact this.symm
   rw[this];simp only[ZW,oL,yR]
   rfl
  refine⟨(n+1,s++([45]++p)),⟨by simp only;omega,?_,by simp,by simp only;omega⟩,by simp only;omega,?_⟩
  .simp only[zg,List.length_cons,List.length_nil];rw[show i+(n+1)=i+n+1 by omega,hs1];omega
  .dsimp only;rw[show i+(n+1)=i+n+1 by omega,show m-(n+1)=k by omega];conv=>whnf
   exact w5.cA h0
 .have hsp:ZW (fun s=>ZI s least 8 false) (ps.drop (i+n))=0:=by
   unfold YD at h;cases hp:ps[i+n]? with
   |none=>rw[zN (by simpa using hp)];rfl
   |some p=>
    rw[hp]at h;have hlt:=(zf.1 hp).1;rw[zq hlt]
    have:ps[i+n]=p:=by
     have:=z1 hlt;rw[hp]at this;injection this with this;exact this.symm
    rw[this];simp only[ZW];simp only at h;simp[h]
  have hs2:=YP ps (i+n);conv=>whnf
  skip
  refine wh.here h0 (rc:= .wM [.str s, .bool (decide (n≠0))]) (Oc:=[(0,ry (i+n) (m-n) L E S R v x P)]) ?_ rfl rfl ⟨rfl,trivial⟩ ⟨n,s,by omega,by omega,rfl,rfl,rfl⟩;show SV.wM [SV.str s,SV.bool (s !=[])]=SV.wM [SV.str s,SV.bool (decide (n≠0))]
  have:(s !=[])=decide (n≠0):=by rw[zZ];simp[tE]
  rw[this]
theorem XO(g:Nat)(p:List UInt8->Bool)(ps:List (List UInt8))(hp:∀s∈ps,uX prog wD g 0 [.str s] [] [] (qd (.bool (p s))))(i m:Nat)(him:i+m=ps.length)(L E S R:List UInt8)(v x:Nat)(P:List UInt8):
 uX prog wD 210 7 [.ptr (.loc 0) 0 0 0, .fn (.func g) [] []] [] [(0,JC i m L E S R v x P),(1, .rows 1 (ps.map Ze))] (qE 7 (.bool (YD p ps i))):=by
 refine uX.enter Z0 call210 func210 rfl 21 rfl rfl [.tmp 4] rfl ?_;intro w0 F η0 h0;conv=>whnf
 repeat'(first|refine GET.at (row:=Ze (ps[i]'(by omega))) (by rw[z6,show i+(0:Int).toNat=i by simp,z1 (by omega)];rfl) ?_|refine CALL.value (hp _ (zm (by omega))) rfl rfl ?_|refine AU ?_|refine IW ?_ ?_<;>intro h<;>try omega)<;>conv=>whnf
 .refine wh.wC h0 rfl (ze SV.bool ?_);unfold YD;rw[z1 (by omega)];rfl
 .refine wh.wC h0 rfl (ze SV.bool ?_);unfold YD;rw[zS (by omega)]
theorem Z5y(least:Int)(ps:List (List UInt8))(hp:∀s∈ps,Sm s)(i m:Nat)(him:i+m=ps.length)(L E S R:List UInt8)(v x:Nat)(P:List UInt8):
 uX prog wD 210 8 [.ptr (.loc 0) 0 0 0, .fn (.func 267) [] [.ptr (.loc 7) 0 0 0]] [] [(0,JC i m L E S R v x P),(1, .rows 1 (ps.map Ze)),(7, .box [.int .i64 least])] (qE 8 (.bool (YD (fun s=>ZI s least 8 false) ps i))):=by
 refine uX.enter Z0 call210 func210 rfl 21 rfl rfl [.tmp 4] rfl ?_;intro w0 F η0 h0;conv=>whnf
 repeat'(first|refine GET.at (row:=Ze (ps[i]'(by omega))) (by rw[z6,show i+(0:Int).toNat=i by simp,z1 (by omega)];rfl) ?_|refine CALL.looks [7] (Bv (ps[i]'(by omega)) least (hp _ (zm (by omega)))) rfl rfl rfl rfl ⟨⟨rfl,rfl,rfl⟩,trivial⟩ ?_|refine AU ?_|refine IW ?_ ?_<;>intro h<;>try omega)<;>conv=>whnf
 .refine wh.wC h0 rfl (ze SV.bool ?_);unfold YD;rw[z1 (by omega)];rfl
 .refine wh.wC h0 rfl (ze SV.bool ?_);unfold YD;rw[zS (by omega)]
theorem Y3(ps:List (List UInt8))(i m:Nat)(him:i+(m+1)=ps.length)(p:List UInt8)(hp:ps[i]?=some p)(L E S R:List UInt8)(v x:Nat)(P:List UInt8):
 uX prog wD 214 7 [.ptr (.loc 0) 0 0 0] [(0,JC i (m+1) L E S R v x P)] [(1, .rows 1 (ps.map Ze))] (fun r O nx=>r= .str p/\O=[(0,JC (i+1) m L E S R v x P)]/\nx=7):=by
 refine uX.enter Z0 call214 func214 rfl 19 rfl rfl [.tmp 2] rfl ?_;intro w0 F η0 h0;conv=>whnf
 repeat'(first|refine GET.at (row:=Ze p) (by rw[z6,show i+(0:Int).toNat=i by simp,hp];rfl) ?_|refine AU ?_)<;>conv=>whnf
 exact wh.here h0 (Oc:=[(0,JC (i+1) m L E S R v x P)]) rfl rfl rfl ⟨rfl,trivial⟩ ⟨rfl,rfl,rfl⟩
theorem WU(least:Int)(ps:List (List UInt8))(hb:JD ps+ps.length<=1152921504606846976)(i m:Nat)(him:i+m=ps.length)(L E S R:List UInt8)(v x:Nat)(P:List UInt8):
 uX prog wD 215 7 [.ptr (.loc 0) 0 0 0, .int .i64 least] [(0,JC i m L E S R v x P)] [(1, .rows 1 (ps.map Ze))]
  (fun r O nx=> ∃(n:Nat) (s:List UInt8),n=ZW (fun s=>ZI s least 8 false) (ps.drop i)/\s.length<=JD ps+ps.length/\r= .wM [.str s, .bool (decide (n≠0))]/\O=[(0,JC (i+n) (m-n) L E S R v x P)]/\nx=7):=by
 have qW:∀s∈ps,Sm s:=by
  intro s hs;obtain⟨j,hj,rfl⟩:=vP hs;have h1:=rz (z1 hj);have h2:=YP ps (j+1);omega
 refine uX.enter Z0 call215 func215 rfl 18 rfl rfl [.tmp 4, .tmp 5] rfl ?_;intro w0 F η0 h0;conv=>whnf
 refine wj.go Z0 [0,3] (X:=Nat×List UInt8) (fun y=>y.1<=m/\y.2.length<=((ps.take (i+y.1)).map List.length).sum+(i+y.1)/\(y.1=0<->y.2=[])/\ZW (fun s=>ZI s least 8 false) (ps.drop i)=y.1+ZW (fun s=>ZI s least 8 false) (ps.drop (i+y.1))) (fun y=>[(6, .str y.2)]) (fun y=>[(0,JC (i+y.1) (m-y.1) L E S R v x P),(7, .box [.int .i64 least])]) 8 (fun y=>m-y.1) (0,[]) ⟨by simp,by simp,by simp,by simp⟩ ?_;conv=>whnf
 refine⟨by exact w5.cA h0,?_⟩;rintro⟨n,s⟩ ⟨hn,hl,tE,cH⟩;dsimp only at hn hl tE cH⊢;conv=>whnf
 refine CALL.hA (Z5y least ps qW (i+n) (m-n) (by omega) L E S R v x P) ?_ ?_;rintro r O' w8 ⟨rfl,rfl,rfl⟩;exact⟨rfl,rfl,rfl⟩;rintro r O' ⟨rfl,rfl,_⟩;conv=>whnf
 refine⟨fun h=>?_,fun h=>?_⟩
 .obtain⟨p,hp,oL⟩:∃p,ps[i+n]?=some p/\ZI p least 8 false=true:=by
   unfold YD at h;cases hp:ps[i+n]? with
   |none=>rw[hp]at h;cases h
   |some p=>rw[hp]at h;exact⟨p,rfl,h⟩
  have hlt:=(zf.1 hp).1;have hs1:=rz hp;have hs2:=YP ps (i+n+1);obtain⟨k,hk⟩:∃k,m-n=k+1:=⟨m-n-1,by omega⟩;rw[hk];conv=>whnf
  refine CALL.hA (Y3 ps (i+n) k (by omega) p hp L E S R v x P) ?_ ?_;rintro r O' w8 ⟨rfl,rfl,rfl⟩;exact⟨rfl,rfl,rfl⟩;rintro r O' ⟨rfl,rfl,_⟩;conv=>whnf
  repeat'(first|refine AU ?_)<;>conv=>whnf
  have hsp:ZW (fun s=>ZI s least 8 false) (ps.drop (i+n))=ZW (fun s=>ZI s least 8 false) (ps.drop (i+(n+1)))+1:=by
   rw[zq hlt]
   have:ps[i+n]=p:=by
    have:=z1 hlt;rw[hp]at this;injection this with this;exact this.symm
   rw[this];simp only[ZW,oL,yR]
   rfl
  refine⟨(n+1,s++([45]++p)),⟨by simp only;omega,?_,by simp,by simp only;omega⟩,by simp only;omega,?_⟩
  .simp only[zg,List.length_cons,List.length_nil];rw[show i+(n+1)=i+n+1 by omega,hs1];omega
  .dsimp only;rw[show i+(n+1)=i+n+1 by omega,show m-(n+1)=k by omega];conv=>whnf
   exact w5.cA h0
 .have hsp:ZW (fun s=>ZI s least 8 false) (ps.drop (i+n))=0:=by
   unfold YD at h;cases hp:ps[i+n]? with
   |none=>rw[zN (by simpa using hp)];rfl
   |some p=>
    rw[hp]at h;have hlt:=(zf.1 hp).1;rw[zq hlt]
    have:ps[i+n]=p:=by
     have:=z1 hlt;rw[hp]at this;injection this with this;exact this.symm
    rw[this];simp only[ZW];simp only at h;simp[h]
  have hs2:=YP ps (i+n);conv=>whnf
  skip
  refine wh.here h0 (rc:= .wM [.str s, .bool (decide (n≠0))]) (Oc:=[(0,JC (i+n) (m-n) L E S R v x P)]) ?_ rfl rfl ⟨rfl,trivial⟩ ⟨n,s,by omega,by omega,rfl,rfl,rfl⟩;show SV.wM [SV.str s,SV.bool (s !=[])]=SV.wM [SV.str s,SV.bool (decide (n≠0))]
  have:(s !=[])=decide (n≠0):=by rw[zZ];simp[tE]
  rw[this]
open _root_.Go.Proofs.Tryz
def Rj:wP:=(.take 0 1 (.take 1 1 (.take 2 1 (.take 3 1 (.take 5 1 (.fork 4 3 6 0 (Zr [(6,0),(7,1),(8,1),(9,1),(10,1),(11,0)]) (Zr [(4,2),(7,1),(8,1),(9,1),(10,1),(11,0)])))))))
theorem Qe{ps:List (List UInt8)}(hb:JD ps+ps.length<=1152921504606846976):∀s∈ps,Sm s:=by
 intro s hs;obtain⟨j,hj,rfl⟩:=vP hs;have h1:=rz (z1 hj);have h2:=YP ps (j+1);omega
theorem ZQ{p:List UInt8->Bool}{ps:List (List UInt8)}{i:Nat}(h:YD p ps i=true):∃s,ps[i]?=some s/\p s=true:=by
 unfold YD at h;cases hp:ps[i]? with
 |none=>rw[hp]at h;cases h
 |some s=>rw[hp]at h;exact⟨s,rfl,h⟩
theorem ZX{ps:List (List UInt8)}{i:Nat}{s:List UInt8}(h:ps[i]?=some s):ps.drop i=s::ps.drop (i+1):=by
 obtain⟨h1,rfl⟩:=zf.1 h;exact zq h1
theorem XF{p:List UInt8->Bool}{ps:List (List UInt8)}{i:Nat}(h:YD p ps i=false):ps.drop i=[]\/∃s,ps[i]?=some s/\ps.drop i=s::ps.drop (i+1)/\p s=false:=by
 unfold YD at h;cases hp:ps[i]? with
 |none=>exact .inl (zN (by simpa using hp))
 |some s=>rw[hp]at h;exact .inr ⟨s,rfl,ZX hp,h⟩
theorem Rk{n:Nat}{ps:List (List UInt8)}{i:Nat}(h:YD (fun s=>ZI s 3 3 true) ps i=false):e7 n (ps.drop i)=ps.drop i:=by
 rcases XF h with h|⟨s,_,h1,h2⟩
 rw[h];cases n<;>rfl
 .rw[h1];cases n with
  |zero=>rfl
  |succ n=>simp only[e7];simp[h2]
theorem Js{s:List UInt8}{a b:Int}{pure:Bool}(h:ZI s a b pure=true):a<=s.length/\(s.length:Int)<=b:=by
 unfold ZI at h;simp at h;omega
theorem Z72(ps:List (List UInt8))(hb:JD ps+ps.length<=1152921504606846976)(i m:Nat)(him:i+m=ps.length)(S R:List UInt8)(v x:Nat)(P:List UInt8):
 uX prog wD 212 4 [.ptr (.loc 0) 0 0 0] [(0,Wg i m [] [] S R v x P)] [(1, .rows 1 (ps.map Ze))]
  (fun r O nx=> ∃(i' m':Nat) (L E:List UInt8),i'+m'=ps.length/\r= .bool (JQ (ps.drop i)).isSome/\(∀l,JQ (ps.drop i)=some l->l=ps.drop i')/\O=[(0,Wg i' m' L E S R v x P)]/\nx=4):=by
 have qW:=Qe hb;refine uX.enter Z0 call212 func212 rfl 50 rfl rfl [.tmp 2] rfl ?_;intro w0 F η0 h0;conv=>whnf
 refine CALL.hA (Vh 259 _ ps (fun s hs=>Zd6 s (qW s hs)) i m him [] [] S R v x P) ?_ ?_;rintro r O' w8 ⟨rfl,rfl,rfl⟩;exact⟨rfl,rfl,rfl⟩;rintro r O' ⟨rfl,rfl,_⟩;conv=>whnf
 refine IF.mk (fun h=>?_) (fun h=>?_)
 .conv=>whnf
  have h:YD (fun s=>ZI s 2 8 true) ps i=false:=by simpa using h
  have hn:JQ (ps.drop i)=none:=by
   rcases XF h with h|⟨s,_,h1,h2⟩
   rw[h];rfl;rw[h1];simp only[JQ];simp[h2]
  exact wh.here h0 (Oc:=[(0,Wg i m [] [] S R v x P)]) rfl rfl rfl ⟨rfl,trivial⟩ ⟨i,m,[],[],him,by rw[hn];rfl,by simp[hn],rfl,rfl⟩
 have h:YD (fun s=>ZI s 2 8 true) ps i=true:=by simpa using h
 obtain⟨p,hp,oL⟩:=ZQ h;have hlt:=(zf.1 hp).1;have hd:=ZX hp;obtain⟨k,rfl⟩:∃k,m=k+1:=⟨m-1,by omega⟩;have hlen:=Js oL;conv=>whnf
 refine CALL.hA (YE ps i k him p hp [] [] S R v x P) ?_ ?_;rintro r O' w8 ⟨rfl,rfl,rfl⟩;exact⟨rfl,rfl,rfl⟩;rintro r O' ⟨rfl,rfl,_⟩;conv=>whnf
 refine IF.mk (fun h=>?_) (fun h=>?_)
 .conv=>whnf
  have h:3<p.length:=by simp at h;omega
  exact wh.here h0 (Oc:=[(0,Wg (i+1) k p [] S R v x P)]) rfl rfl rfl ⟨rfl,trivial⟩ ⟨i+1,k,p,[],by omega,by rw[hd];simp only[JQ];simp[oL,h],by rw[hd];simp only[JQ];simp[oL,h],rfl,rfl⟩
 have h:¬3<p.length:=by simp at h;omega
 have hL:JQ (ps.drop i)=some (e7 3 (ps.drop (i+1))):=by rw[hd];simp only[JQ];rw[zh oL,z7 h]
 conv=>whnf
 refine wj.go Z0 [0] (X:=Nat×List UInt8×Nat) (fun y=>y.1<=3/\y.2.1.length<=4*y.1/\y.2.2+(ps.length-y.2.2)=ps.length/\e7 3 (ps.drop (i+1))=e7 (3-y.1) (ps.drop y.2.2)) (fun y=>[(3, .int .i64 (y.1:Int))]) (fun y=>[(0,Wg y.2.2 (ps.length-y.2.2) p y.2.1 S R v x P)]) 4 (fun y=>3-y.1) (0,[],i+1) ⟨by simp,by simp,by simp only;omega,rfl⟩ ?_;conv=>whnf
 rw[show ps.length-(i+1)=k by omega];refine⟨by exact w5.cA h0,?_⟩;rintro⟨c,E,a⟩ ⟨hc,hE,ha,hx⟩;dsimp only at hc hE ha hx⊢;conv=>whnf
 have fin:YD (fun s=>ZI s 3 3 true) ps a=false\/c=3->e7 3 (ps.drop (i+1))=ps.drop a:=by
  rintro(h|h);rw[hx,Rk h];subst h;rw[hx];rfl
 refine IF.mk (fun h=>?_) (fun h=>?_)
 .have h:c<3:=by simp at h;omega
  conv=>whnf
  repeat'(first|refine AU ?_)<;>conv=>whnf
  refine CALL.hA (Vh 261 _ ps (fun s hs=>Zd7 s (qW s hs)) a (ps.length-a) ha p E S R v x P) ?_ ?_;rintro r O' w8 ⟨rfl,rfl,rfl⟩;exact⟨rfl,rfl,rfl⟩;rintro r O' ⟨rfl,rfl,_⟩;conv=>whnf
  repeat'(first|refine AU ?_|refine IW ?_ ?_<;>intro h<;>try omega)<;>conv=>whnf
  .obtain⟨q,hq,fL⟩:=ZQ (by assumption);have hql:=Js fL;obtain⟨k',hk'⟩:∃k',ps.length-a=k'+1:=⟨ps.length-a-1,by have:=(zf.1 hq).1;omega⟩;rw[hk'];repeat'(first|refine Z3 11 Rj ?_|refine qJ.mk (fun _ _=>?_)|refine j9.mk ?_ ?_)<;>conv=>whnf
   all_goals
    refine CALL.hA (YE ps a k' (by omega) q hq p (E++ [45]) S R v x P) ?_ ?_;rintro r O' w8 ⟨rfl,rfl,rfl⟩;exact⟨rfl,rfl,rfl⟩;rintro r O' ⟨rfl,rfl,_⟩;conv=>whnf
    repeat'(first|refine AU ?_)<;>conv=>whnf
    refine⟨(c+1,(E++ [45])++q,a+1),⟨by simp only;omega,by simp only[zg,List.length_cons,List.length_nil];omega,by simp only;omega,?_⟩,by simp only;omega,?_⟩;rw[hx,ZX hq,show 3-c=(3-(c+1))+1 by omega];simp only[e7];rw[zh fL]
    .dsimp only;rw[show ps.length-(a+1)=k' by omega];conv=>whnf
     exact w5.cA h0
  .obtain⟨q,hq,fL⟩:=ZQ (by assumption);have hql:=Js fL;obtain⟨k',hk'⟩:∃k',ps.length-a=k'+1:=⟨ps.length-a-1,by have:=(zf.1 hq).1;omega⟩;rw[hk'];have hc0:c=0:=by omega
   repeat'(first|refine Z3 11 Rj ?_|refine qJ.mk (fun _ _=>?_)|refine j9.mk ?_ ?_)<;>conv=>whnf
   all_goals
    refine CALL.hA (YE ps a k' (by omega) q hq p (E) S R v x P) ?_ ?_;rintro r O' w8 ⟨rfl,rfl,rfl⟩;exact⟨rfl,rfl,rfl⟩;rintro r O' ⟨rfl,rfl,_⟩;conv=>whnf
    repeat'(first|refine AU ?_)<;>conv=>whnf
    refine⟨(c+1,(E)++q,a+1),⟨by simp only;omega,by simp only[zg,List.length_cons,List.length_nil];omega,by simp only;omega,?_⟩,by simp only;omega,?_⟩;rw[hx,ZX hq,show 3-c=(3-(c+1))+1 by omega];simp only[e7];rw[zh fL]
    .dsimp only;rw[show ps.length-(a+1)=k' by omega];conv=>whnf
     exact w5.cA h0
  exact wh.here h0 (Oc:=[(0,Wg a (ps.length-a) p E S R v x P)]) rfl rfl rfl ⟨rfl,trivial⟩ ⟨a,ps.length-a,p,E,ha,by rw[hL];rfl,by rw[hL];rintro l ⟨⟩;exact fin (.inl (by assumption)),rfl,rfl⟩
 .have h:c=3:=by simp at h;omega
  conv=>whnf
  repeat'(first|refine AU ?_)<;>conv=>whnf
  exact wh.here h0 (Oc:=[(0,Wg a (ps.length-a) p E S R v x P)]) rfl rfl rfl ⟨rfl,trivial⟩ ⟨a,ps.length-a,p,E,ha,by rw[hL];rfl,by rw[hL];rintro l ⟨⟩;exact fin (.inr h),rfl,rfl⟩
theorem Kj{p:List UInt8->Bool}{ps:List (List UInt8)}{i:Nat}(h:YD p ps i=false):Ja p (ps.drop i)=ps.drop i:=by
 rcases XF h with h|⟨s,_,h1,h2⟩
 rw[h];rfl;rw[h1];simp only[Ja];rw[z7 (by simp[h2])]
theorem VK{p:List UInt8->Bool}{ps:List (List UInt8)}{i:Nat}{s:List UInt8}(h:ps[i]?=some s)(hp:p s=true):Ja p (ps.drop i)=ps.drop (i+1):=by
 rw[ZX h];simp only[Ja];rw[zh hp]
theorem Z73(l:List (List UInt8))(s:List UInt8)(hl:l.length<=1152921504606846976):uX prog wD 300 1 [.sl (.loc 0) 0 1 l.length none, .str s] [] [(0, .rows 1 (l.map Ze))]
 (fun r O nx=> ∃n:Int,(0<=n<->s∈l)/\r= .int .i64 n/\O=[]/\nx=1):=by
 refine uX.enter Z0 call300 func300 rfl 19 rfl rfl [.tmp 4] rfl ?_;intro w0 F η0 h0;conv=>whnf
 refine wj.go Z0 [0,1,7] (X:=Nat) (fun i=>i<=l.length/\s∉l.take i) (fun i=>[(8, .int .i64 (i:Int))]) (fun i=>[]) 1 (fun i=>l.length-i) 0 ⟨by omega,by simp⟩ ?_;conv=>whnf
 refine⟨by exact w5.cA h0,?_⟩;rintro i ⟨hi,hc⟩;conv=>whnf
 repeat'(first|refine GET.at (row:=Ze (l[i]'(by omega))) (by rw[z6,show 0+(i:Int).toNat=i by omega,z1 (by omega)];rfl) ?_|refine AU ?_|refine IW ?_ ?_<;>intro h<;>try omega)<;>conv=>whnf
 .have hl:i<l.length:=by omega
  exact wh.val h0 rfl ⟨i,⟨fun _=>by subst h;exact zm hl,fun _=>by omega⟩,rfl,rfl,rfl⟩
 .have hl:i<l.length:=by omega
  refine⟨i+1,⟨by omega,?_⟩,by omega,?_⟩
  .rw[zH hl];simp only[zW,zL];rintro(h1|h1);exact hc h1;exact h h1
  .conv=>whnf
   exact w5.cA h0
 .refine wh.val h0 rfl ⟨-1,⟨fun h=>by omega,fun h1=>?_⟩,rfl,rfl,rfl⟩;rw[zi (by omega)]at hc;exact(hc h1).elim
theorem YF(l:List (List UInt8))(s:List UInt8)(hl:l.length<=1152921504606846976):uX prog wD 265 1 [.sl (.loc 0) 0 1 l.length none, .str s] [] [(0, .rows 1 (l.map Ze))] (qE 1 (.bool (decide (s∈l)))):=by
 refine uX.enter Z0 call265 func265 rfl 9 rfl rfl [.tmp 4] rfl ?_;intro w0 F η0 h0;conv=>whnf
 refine CALL.hA (Z73 l s hl) ?_ ?_;rintro r O' w8 ⟨n,_,rfl,rfl,rfl⟩;exact⟨rfl,rfl,rfl⟩;rintro r O' ⟨n,hn,rfl,rfl,_⟩;conv=>whnf
 exact wh.wC h0 rfl (ze SV.bool (vg.2 hn))
def nT:List Int->Int
 | []=>0
 |a::l=>if a≠0 then a else nT l
def Rl(a:Int):List SV:=[.int .i64 a]
theorem Z74(xs:List Int)(hn:xs.length<=1152921504606846976):uX prog wD 163 1 [.sl (.loc 0) 0 1 xs.length none] [] [(0, .rows 1 (xs.map Rl))] (qE 1 (.int .i64 (nT xs))):=by
 refine uX.enter Z0 call163 func163 rfl 18 rfl rfl [.tmp 2] rfl ?_;intro w0 F η0 h0;conv=>whnf
 refine wj.go Z0 [3,6,7] (X:=Nat) (fun i=>i<=xs.length/\nT xs=nT (xs.drop i)) (fun i=>[(8, .int .i64 (i:Int))]) (fun i=>[]) 1 (fun i=>xs.length-i) 0 ⟨by omega,rfl⟩ ?_;conv=>whnf
 refine⟨by exact w5.cA h0,?_⟩;rintro i ⟨hi,ho⟩;conv=>whnf
 repeat'(first|refine GET.at (row:=Rl (xs[i]'(by omega))) (by rw[z6,show 0+(i:Int).toNat=i by omega,z1 (by omega)];rfl) ?_|refine AU ?_|refine IW ?_ ?_<;>intro h<;>try omega)<;>conv=>whnf
 .have hl:i<xs.length:=by omega
  refine wh.wC h0 rfl (ze (SV.int _) ?_);rw[ho,zq hl];simp only[nT];rw[zh h]
 .have hl:i<xs.length:=by omega
  refine⟨i+1,⟨by omega,?_⟩,by omega,?_⟩;rw[ho,zq hl];simp only[nT];rw[z7 (by simpa using h)]
  .conv=>whnf
   exact w5.cA h0
 .refine wh.wC h0 rfl (ze (SV.int _) ?_);rw[ho,zN (by omega)];rfl
open _root_.Go.Proofs.Tryz
theorem Zfa(ps:List (List UInt8))(hb:JD ps+ps.length<=68719476736)(i m:Nat)(him:i+m=ps.length)(L E:List UInt8)(P:List UInt8):
 uX prog wD 213 4 [.ptr (.loc 0) 0 0 0] [(0,Wg i m L E [] [] 0 0 P),(2, .rows 1 []),(3, .rows 1 [])] [(1, .rows 1 (ps.map Ze))]
  (fun r O nx=> ∃(i' m':Nat) (S R:List UInt8),i'+m'=ps.length/\r= .bool (Xq (ps.drop i)).isSome/\(∀l,Xq (ps.drop i)=some l->l=ps.drop i')/\O=[(0,ry i' m' L E S R 0 0 P)]/\nx=4):=by
 have qW:=Qe (ps:=ps) (by omega);refine uX.enter Z0 call213 func213 rfl 85 rfl rfl [.tmp 2] rfl ?_;intro w0 F η0 h0;conv=>whnf
 refine CALL.hA (Vh 262 _ ps (fun s hs=>Zd8 s (qW s hs)) i m him L E [] [] 0 0 P) ?_ ?_;rintro r O' w8 ⟨rfl,rfl,rfl⟩;exact⟨rfl,rfl,rfl⟩;rintro r O' ⟨rfl,rfl,_⟩;conv=>whnf
 refine IF.mk (fun h1=>?_) (fun h1=>?_)
 .obtain⟨p,hp,oL⟩:=ZQ h1;have hlt:=(zf.1 hp).1;have l6:=VK (p:=fun s=>ZI s 4 4 true) hp oL;obtain⟨k,rfl⟩:∃k,m=k+1:=⟨m-1,by omega⟩;conv=>whnf
  refine CALL.hA (YE ps i k him p hp L E [] [] 0 0 P) ?_ ?_;rintro r O' w8 ⟨rfl,rfl,rfl⟩;exact⟨rfl,rfl,rfl⟩;rintro r O' ⟨rfl,rfl,_⟩;conv=>whnf
  refine CALL.hA (Vh 263 _ ps (fun s hs=>R9 s (qW s hs)) (i+1) k (by omega) L E p [] 0 0 P) ?_ ?_;rintro r O' w8 ⟨rfl,rfl,rfl⟩;exact⟨rfl,rfl,rfl⟩;rintro r O' ⟨rfl,rfl,_⟩;conv=>whnf
  refine IF.mk (fun h1=>?_) (fun h1=>?_)
  .obtain⟨q,hq,fL⟩:=ZQ h1;have hlt:=(zf.1 hq).1;obtain⟨k2,rfl⟩:∃k2,k=k2+1:=⟨k-1,by omega⟩;have he:Ja Xd (Ja (fun s=>ZI s 4 4 true) (ps.drop i))=ps.drop (i+1+1):=by rw[l6,VK hq fL]
   conv=>whnf
   refine CALL.hA (YE ps (i+1) k2 (by omega) q hq L E p [] 0 0 P) ?_ ?_;rintro r O' w8 ⟨rfl,rfl,rfl⟩;exact⟨rfl,rfl,rfl⟩;rintro r O' ⟨rfl,rfl,_⟩;conv=>whnf
   refine wj.nil 3 1 rfl ?_;refine wj.go Z0 [0] (X:=Nat×List (List UInt8)×List (List UInt8)) (fun y=>y.1<=ps.length/\y.2.1.length<=y.1/\y.2.2.length<=y.1/\YO [] (ps.drop (i+1+1))=YO y.2.1 (ps.drop y.1)) (fun y=>[(3, .sl (.loc 6) 0 1 y.2.1.length none)]) (fun y=>[(0,JC y.1 (ps.length-y.1) L E (p) (q) y.2.2.length 0 P),(4, .rows 1 (y.2.2.map Ze)),(5, .rows 1 []),(6, .rows 1 (y.2.1.map Ze))]) 7 (fun y=>ps.length-y.1) (i+1+1,[],[]) ⟨by simp only;omega,by simp,by simp,rfl⟩ ?_;conv=>whnf
   try rw[show ps.length-(i+1+1)=k2 by omega]
   refine⟨by exact w5.kA h0 [2,3,4],?_⟩;rintro⟨a,seen,vs⟩ ⟨ha,hs,hv,hx⟩;dsimp only at ha hs hv hx⊢;conv=>whnf
   refine CALL.hA (XO 264 _ ps (fun s hs=>VJ s (qW s hs)) a (ps.length-a) (by omega) L E (p) (q) vs.length 0 P) ?_ ?_;rintro r O' w8 ⟨rfl,rfl,rfl⟩;exact⟨rfl,rfl,rfl⟩;rintro r O' ⟨rfl,rfl,_⟩;conv=>whnf
   refine IF.mk (fun h=>?_) (fun h=>?_)
   .obtain⟨w,hw,dh⟩:=ZQ h;have hlt:=(zf.1 hw).1;obtain⟨k',hk'⟩:∃k',ps.length-a=k'+1:=⟨ps.length-a-1,by omega⟩;have fh:=qW w (zU hw)
    have eD:YO seen (ps.drop a)=if Z9 w∈seen then none else YO (seen++ [Z9 w]) (ps.drop (a+1)):=by
     rw[ZX hw];simp only[YO];rw[zh dh]
    rw[hk'];conv=>whnf
    refine CALL.hA (Y3 ps a k' (by omega) w hw L E (p) (q) vs.length 0 P) ?_ ?_;rintro r O' w8 ⟨rfl,rfl,rfl⟩;exact⟨rfl,rfl,rfl⟩;rintro r O' ⟨rfl,rfl,_⟩;conv=>whnf
    repeat'(first|refine CALL.value (Xm _ fh) rfl rfl ?_|refine CALL.jq 6 (YF seen (Z9 w) (by omega)) rfl rfl rfl rfl (Yn _) rfl ?_|refine AU ?_|refine IW ?_ ?_<;>intro h<;>try omega)<;>conv=>whnf
    .have hin:Z9 w∈seen:=by simpa using h
     have hn:Xq (ps.drop i)=none:=by unfold Xq;rw[he,hx,eD,zh hin]
     exact wh.loose h0 0 [.sl (.loc 1) (a+1) 1 (k') none, .str L, .str E, .str (p), .str (q), .any, .any, .str P] rfl rfl rfl ⟨.inr ⟨rfl,rfl⟩, .inr ⟨rfl,rfl⟩, .inr ⟨rfl,rfl⟩, .inr ⟨rfl,rfl⟩, .inr ⟨rfl,rfl⟩, .inl rfl, .inl rfl, .inr ⟨rfl,rfl⟩,trivial⟩ ⟨a+1,k',p,q,by omega,by rw[hn];rfl,by simp[hn],rfl,rfl⟩
    .have hin:¬Z9 w∈seen:=by simpa using h
     refine⟨(a+1,seen++ [Z9 w],vs++ [w]),⟨by simp only;omega,by simp;omega,by simp;omega,by simp only;rw[hx,eD,z7 hin]⟩,by simp only;omega,?_⟩;dsimp only;rw[show ps.length-(a+1)=k' by omega,show(vs++ [w]).length=vs.length+1 by simp];conv=>whnf
     exact w5.kA h0 [10,5,8]
   .have kH:YO seen (ps.drop a)=some (ps.drop a,seen):=by
     rcases XF h with h|⟨s,_,h1,h2⟩
     rw[h];rfl;rw[h1];simp only[YO];rw[z7 (by simp[h2])]
    have nv:Xq (ps.drop i)=Y2 seen (ps.drop a):=by unfold Xq;rw[he,hx,kH]
    conv=>whnf
    refine wj.go Z0 [0] (X:=Nat×List (List UInt8)×List (List UInt8)) (fun y=>y.1<=ps.length/\y.2.1.length<=y.1/\y.2.2.length<=y.1/\Xq (ps.drop i)=Y2 y.2.1 (ps.drop y.1)) (fun y=>[(3, .sl (.loc 6) 0 1 y.2.1.length none)]) (fun y=>[(0,JC y.1 (ps.length-y.1) L E (p) (q) vs.length y.2.2.length P),(4, .rows 1 (vs.map Ze)),(5, .rows 1 (y.2.2.map Ze)),(6, .rows 1 (y.2.1.map Ze))]) 7 (fun y=>ps.length-y.1) (a,seen,[]) ⟨by simp only;omega,by simp only;omega,by simp,nv⟩ ?_;conv=>whnf
    refine⟨by exact w5.kA h0 [4,5,6],?_⟩;clear nv kH hx hs hv;rintro⟨a,seen,xs⟩ ⟨ha,hs,hv,hx⟩;dsimp only at ha hs hv hx⊢;conv=>whnf
    refine CALL.hA (XO 266 _ ps (fun s hs=>WT s (qW s hs)) a (ps.length-a) (by omega) L E (p) (q) vs.length xs.length P) ?_ ?_;rintro r O' w8 ⟨rfl,rfl,rfl⟩;exact⟨rfl,rfl,rfl⟩;rintro r O' ⟨rfl,rfl,_⟩;conv=>whnf
    refine IF.mk (fun h=>?_) (fun h=>?_)
    .obtain⟨w,hw,dh⟩:=ZQ h;have hlt:=(zf.1 hw).1;obtain⟨k',hk'⟩:∃k',ps.length-a=k'+1:=⟨ps.length-a-1,by omega⟩;have fh:=qW w (zU hw);rw[hk'];conv=>whnf
     refine CALL.hA (Y3 ps a k' (by omega) w hw L E (p) (q) vs.length xs.length P) ?_ ?_;rintro r O' w8 ⟨rfl,rfl,rfl⟩;exact⟨rfl,rfl,rfl⟩;rintro r O' ⟨rfl,rfl,_⟩;conv=>whnf
     refine CALL.hA (WU 2 ps (by omega) (a+1) k' (by omega) L E (p) (q) vs.length xs.length P) ?_ ?_;rintro r O' w8 ⟨n,s,_,_,rfl,rfl,rfl⟩;exact⟨rfl,rfl,rfl⟩;rintro r O' ⟨n,s,hn,gE,rfl,rfl,_⟩;have e8:n<=(ps.drop (a+1)).length:=by rw[hn];exact U2 _ _
     rw[zF]at e8
     have eD:Y2 seen (ps.drop a)=if n=0\/Z9 w∈seen then none else Y2 (seen++ [Z9 w]) (ps.drop (a+1+n)):=by
      rw[ZX hw,Y2,zh dh,<-hn,yt]
     conv=>whnf
     refine IF.mk (fun h1=>?_) (fun h1=>?_)
     .have oM:n=0:=by simpa using h1
      have hn:Xq (ps.drop i)=none:=by rw[hx,eD,zh (.inl oM)]
      conv=>whnf
      repeat'(first|refine AU ?_)<;>conv=>whnf
      exact wh.loose h0 0 [.sl (.loc 1) (a+1+n) 1 (k'-n) none, .str L, .str E, .str (p), .str (q), .any, .any, .str P] rfl rfl rfl ⟨.inr ⟨rfl,rfl⟩, .inr ⟨rfl,rfl⟩, .inr ⟨rfl,rfl⟩, .inr ⟨rfl,rfl⟩, .inr ⟨rfl,rfl⟩, .inl rfl, .inl rfl, .inr ⟨rfl,rfl⟩,trivial⟩ ⟨a+1+n,k'-n,p,q,by omega,by rw[hn];rfl,by simp[hn],rfl,rfl⟩
     .have oM:n≠0:=by simpa using h1
      conv=>whnf
      repeat'(first|refine CALL.value (Xm _ fh) rfl rfl ?_|refine CALL.jq 6 (YF seen (Z9 w) (by omega)) rfl rfl rfl rfl (Yn _) rfl ?_|refine AU ?_|refine IW ?_ ?_<;>intro h<;>try omega)<;>conv=>whnf
      .have hin:Z9 w∈seen:=by simp_all
       have hn:Xq (ps.drop i)=none:=by rw[hx,eD,zh (.inr hin)]
       exact wh.loose h0 0 [.sl (.loc 1) (a+1+n) 1 (k'-n) none, .str L, .str E, .str (p), .str (q), .any, .any, .str P] rfl rfl rfl ⟨.inr ⟨rfl,rfl⟩, .inr ⟨rfl,rfl⟩, .inr ⟨rfl,rfl⟩, .inr ⟨rfl,rfl⟩, .inr ⟨rfl,rfl⟩, .inl rfl, .inl rfl, .inr ⟨rfl,rfl⟩,trivial⟩ ⟨a+1+n,k'-n,p,q,by omega,by rw[hn];rfl,by simp[hn],rfl,rfl⟩
      .have hin:¬Z9 w∈seen:=by simp_all
       refine⟨(a+1+n,seen++ [Z9 w],xs++ [w++s]),⟨by simp only;omega,by simp;omega,by simp;omega,by simp only;rw[hx,eD,z7 (by simp[oM,hin])]⟩,by simp only;omega,?_⟩;dsimp only;rw[show ps.length-(a+1+n)=k'-n by omega,show(xs++ [w++s]).length=xs.length+1 by simp];conv=>whnf
       exact w5.kA h0 [4,10,8]
    .have kH:Y2 seen (ps.drop a)=some (ps.drop a):=by
      rcases XF h with h|⟨s,_,h1,h2⟩
      rw[h,Y2];rw[h1,Y2,z7 (by simp[h2])]
     conv=>whnf
     exact wh.loose h0 0 [.sl (.loc 1) (a) 1 (ps.length-a) none, .str L, .str E, .str (p), .str (q), .any, .any, .str P] rfl rfl rfl ⟨.inr ⟨rfl,rfl⟩, .inr ⟨rfl,rfl⟩, .inr ⟨rfl,rfl⟩, .inr ⟨rfl,rfl⟩, .inr ⟨rfl,rfl⟩, .inl rfl, .inl rfl, .inr ⟨rfl,rfl⟩,trivial⟩ ⟨a,ps.length-a,p,q,by omega,by rw[hx,kH];rfl,by rw[hx,kH];rintro l ⟨⟩;rfl,rfl,rfl⟩
  .have he:Ja Xd (Ja (fun s=>ZI s 4 4 true) (ps.drop i))=ps.drop (i+1):=by rw[l6,Kj h1]
   conv=>whnf
   refine wj.nil 3 1 rfl ?_;refine wj.go Z0 [0] (X:=Nat×List (List UInt8)×List (List UInt8)) (fun y=>y.1<=ps.length/\y.2.1.length<=y.1/\y.2.2.length<=y.1/\YO [] (ps.drop (i+1))=YO y.2.1 (ps.drop y.1)) (fun y=>[(3, .sl (.loc 6) 0 1 y.2.1.length none)]) (fun y=>[(0,JC y.1 (ps.length-y.1) L E (p) ([]) y.2.2.length 0 P),(4, .rows 1 (y.2.2.map Ze)),(5, .rows 1 []),(6, .rows 1 (y.2.1.map Ze))]) 7 (fun y=>ps.length-y.1) (i+1,[],[]) ⟨by simp only;omega,by simp,by simp,rfl⟩ ?_;conv=>whnf
   try rw[show ps.length-(i+1)=k by omega]
   refine⟨by exact w5.kA h0 [2,3,4],?_⟩;rintro⟨a,seen,vs⟩ ⟨ha,hs,hv,hx⟩;dsimp only at ha hs hv hx⊢;conv=>whnf
   refine CALL.hA (XO 264 _ ps (fun s hs=>VJ s (qW s hs)) a (ps.length-a) (by omega) L E (p) ([]) vs.length 0 P) ?_ ?_;rintro r O' w8 ⟨rfl,rfl,rfl⟩;exact⟨rfl,rfl,rfl⟩;rintro r O' ⟨rfl,rfl,_⟩;conv=>whnf
   refine IF.mk (fun h=>?_) (fun h=>?_)
   .obtain⟨w,hw,dh⟩:=ZQ h;have hlt:=(zf.1 hw).1;obtain⟨k',hk'⟩:∃k',ps.length-a=k'+1:=⟨ps.length-a-1,by omega⟩;have fh:=qW w (zU hw)
    have eD:YO seen (ps.drop a)=if Z9 w∈seen then none else YO (seen++ [Z9 w]) (ps.drop (a+1)):=by
     rw[ZX hw];simp only[YO];rw[zh dh]
    rw[hk'];conv=>whnf
    refine CALL.hA (Y3 ps a k' (by omega) w hw L E (p) ([]) vs.length 0 P) ?_ ?_;rintro r O' w8 ⟨rfl,rfl,rfl⟩;exact⟨rfl,rfl,rfl⟩;rintro r O' ⟨rfl,rfl,_⟩;conv=>whnf
    repeat'(first|refine CALL.value (Xm _ fh) rfl rfl ?_|refine CALL.jq 6 (YF seen (Z9 w) (by omega)) rfl rfl rfl rfl (Yn _) rfl ?_|refine AU ?_|refine IW ?_ ?_<;>intro h<;>try omega)<;>conv=>whnf
    .have hin:Z9 w∈seen:=by simpa using h
     have hn:Xq (ps.drop i)=none:=by unfold Xq;rw[he,hx,eD,zh hin]
     exact wh.loose h0 0 [.sl (.loc 1) (a+1) 1 (k') none, .str L, .str E, .str (p), .str ([]), .any, .any, .str P] rfl rfl rfl ⟨.inr ⟨rfl,rfl⟩, .inr ⟨rfl,rfl⟩, .inr ⟨rfl,rfl⟩, .inr ⟨rfl,rfl⟩, .inr ⟨rfl,rfl⟩, .inl rfl, .inl rfl, .inr ⟨rfl,rfl⟩,trivial⟩ ⟨a+1,k',p,[],by omega,by rw[hn];rfl,by simp[hn],rfl,rfl⟩
    .have hin:¬Z9 w∈seen:=by simpa using h
     refine⟨(a+1,seen++ [Z9 w],vs++ [w]),⟨by simp only;omega,by simp;omega,by simp;omega,by simp only;rw[hx,eD,z7 hin]⟩,by simp only;omega,?_⟩;dsimp only;rw[show ps.length-(a+1)=k' by omega,show(vs++ [w]).length=vs.length+1 by simp];conv=>whnf
     exact w5.kA h0 [10,5,8]
   .have kH:YO seen (ps.drop a)=some (ps.drop a,seen):=by
     rcases XF h with h|⟨s,_,h1,h2⟩
     rw[h];rfl;rw[h1];simp only[YO];rw[z7 (by simp[h2])]
    have nv:Xq (ps.drop i)=Y2 seen (ps.drop a):=by unfold Xq;rw[he,hx,kH]
    conv=>whnf
    refine wj.go Z0 [0] (X:=Nat×List (List UInt8)×List (List UInt8)) (fun y=>y.1<=ps.length/\y.2.1.length<=y.1/\y.2.2.length<=y.1/\Xq (ps.drop i)=Y2 y.2.1 (ps.drop y.1)) (fun y=>[(3, .sl (.loc 6) 0 1 y.2.1.length none)]) (fun y=>[(0,JC y.1 (ps.length-y.1) L E (p) ([]) vs.length y.2.2.length P),(4, .rows 1 (vs.map Ze)),(5, .rows 1 (y.2.2.map Ze)),(6, .rows 1 (y.2.1.map Ze))]) 7 (fun y=>ps.length-y.1) (a,seen,[]) ⟨by simp only;omega,by simp only;omega,by simp,nv⟩ ?_;conv=>whnf
    refine⟨by exact w5.kA h0 [4,5,6],?_⟩;clear nv kH hx hs hv;rintro⟨a,seen,xs⟩ ⟨ha,hs,hv,hx⟩;dsimp only at ha hs hv hx⊢;conv=>whnf
    refine CALL.hA (XO 266 _ ps (fun s hs=>WT s (qW s hs)) a (ps.length-a) (by omega) L E (p) ([]) vs.length xs.length P) ?_ ?_;rintro r O' w8 ⟨rfl,rfl,rfl⟩;exact⟨rfl,rfl,rfl⟩;rintro r O' ⟨rfl,rfl,_⟩;conv=>whnf
    refine IF.mk (fun h=>?_) (fun h=>?_)
    .obtain⟨w,hw,dh⟩:=ZQ h;have hlt:=(zf.1 hw).1;obtain⟨k',hk'⟩:∃k',ps.length-a=k'+1:=⟨ps.length-a-1,by omega⟩;have fh:=qW w (zU hw);rw[hk'];conv=>whnf
     refine CALL.hA (Y3 ps a k' (by omega) w hw L E (p) ([]) vs.length xs.length P) ?_ ?_;rintro r O' w8 ⟨rfl,rfl,rfl⟩;exact⟨rfl,rfl,rfl⟩;rintro r O' ⟨rfl,rfl,_⟩;conv=>whnf
     refine CALL.hA (WU 2 ps (by omega) (a+1) k' (by omega) L E (p) ([]) vs.length xs.length P) ?_ ?_;rintro r O' w8 ⟨n,s,_,_,rfl,rfl,rfl⟩;exact⟨rfl,rfl,rfl⟩;rintro r O' ⟨n,s,hn,gE,rfl,rfl,_⟩;have e8:n<=(ps.drop (a+1)).length:=by rw[hn];exact U2 _ _
     rw[zF]at e8
     have eD:Y2 seen (ps.drop a)=if n=0\/Z9 w∈seen then none else Y2 (seen++ [Z9 w]) (ps.drop (a+1+n)):=by
      rw[ZX hw,Y2,zh dh,<-hn,yt]
     conv=>whnf
     refine IF.mk (fun h1=>?_) (fun h1=>?_)
     .have oM:n=0:=by simpa using h1
      have hn:Xq (ps.drop i)=none:=by rw[hx,eD,zh (.inl oM)]
      conv=>whnf
      repeat'(first|refine AU ?_)<;>conv=>whnf
      exact wh.loose h0 0 [.sl (.loc 1) (a+1+n) 1 (k'-n) none, .str L, .str E, .str (p), .str ([]), .any, .any, .str P] rfl rfl rfl ⟨.inr ⟨rfl,rfl⟩, .inr ⟨rfl,rfl⟩, .inr ⟨rfl,rfl⟩, .inr ⟨rfl,rfl⟩, .inr ⟨rfl,rfl⟩, .inl rfl, .inl rfl, .inr ⟨rfl,rfl⟩,trivial⟩ ⟨a+1+n,k'-n,p,[],by omega,by rw[hn];rfl,by simp[hn],rfl,rfl⟩
     .have oM:n≠0:=by simpa using h1
      conv=>whnf
      repeat'(first|refine CALL.value (Xm _ fh) rfl rfl ?_|refine CALL.jq 6 (YF seen (Z9 w) (by omega)) rfl rfl rfl rfl (Yn _) rfl ?_|refine AU ?_|refine IW ?_ ?_<;>intro h<;>try omega)<;>conv=>whnf
      .have hin:Z9 w∈seen:=by simp_all
       have hn:Xq (ps.drop i)=none:=by rw[hx,eD,zh (.inr hin)]
       exact wh.loose h0 0 [.sl (.loc 1) (a+1+n) 1 (k'-n) none, .str L, .str E, .str (p), .str ([]), .any, .any, .str P] rfl rfl rfl ⟨.inr ⟨rfl,rfl⟩, .inr ⟨rfl,rfl⟩, .inr ⟨rfl,rfl⟩, .inr ⟨rfl,rfl⟩, .inr ⟨rfl,rfl⟩, .inl rfl, .inl rfl, .inr ⟨rfl,rfl⟩,trivial⟩ ⟨a+1+n,k'-n,p,[],by omega,by rw[hn];rfl,by simp[hn],rfl,rfl⟩
      .have hin:¬Z9 w∈seen:=by simp_all
       refine⟨(a+1+n,seen++ [Z9 w],xs++ [w++s]),⟨by simp only;omega,by simp;omega,by simp;omega,by simp only;rw[hx,eD,z7 (by simp[oM,hin])]⟩,by simp only;omega,?_⟩;dsimp only;rw[show ps.length-(a+1+n)=k'-n by omega,show(xs++ [w++s]).length=xs.length+1 by simp];conv=>whnf
       exact w5.kA h0 [4,10,8]
    .have kH:Y2 seen (ps.drop a)=some (ps.drop a):=by
      rcases XF h with h|⟨s,_,h1,h2⟩
      rw[h,Y2];rw[h1,Y2,z7 (by simp[h2])]
     conv=>whnf
     exact wh.loose h0 0 [.sl (.loc 1) (a) 1 (ps.length-a) none, .str L, .str E, .str (p), .str ([]), .any, .any, .str P] rfl rfl rfl ⟨.inr ⟨rfl,rfl⟩, .inr ⟨rfl,rfl⟩, .inr ⟨rfl,rfl⟩, .inr ⟨rfl,rfl⟩, .inr ⟨rfl,rfl⟩, .inl rfl, .inl rfl, .inr ⟨rfl,rfl⟩,trivial⟩ ⟨a,ps.length-a,p,[],by omega,by rw[hx,kH];rfl,by rw[hx,kH];rintro l ⟨⟩;rfl,rfl,rfl⟩
 .have l6:=Kj h1;conv=>whnf
  refine CALL.hA (Vh 263 _ ps (fun s hs=>R9 s (qW s hs)) i m (by omega) L E [] [] 0 0 P) ?_ ?_;rintro r O' w8 ⟨rfl,rfl,rfl⟩;exact⟨rfl,rfl,rfl⟩;rintro r O' ⟨rfl,rfl,_⟩;conv=>whnf
  refine IF.mk (fun h1=>?_) (fun h1=>?_)
  .obtain⟨q,hq,fL⟩:=ZQ h1;have hlt:=(zf.1 hq).1;obtain⟨k2,rfl⟩:∃k2,m=k2+1:=⟨m-1,by omega⟩;have he:Ja Xd (Ja (fun s=>ZI s 4 4 true) (ps.drop i))=ps.drop (i+1):=by rw[l6,VK hq fL]
   conv=>whnf
   refine CALL.hA (YE ps i k2 (by omega) q hq L E [] [] 0 0 P) ?_ ?_;rintro r O' w8 ⟨rfl,rfl,rfl⟩;exact⟨rfl,rfl,rfl⟩;rintro r O' ⟨rfl,rfl,_⟩;conv=>whnf
   refine wj.nil 3 1 rfl ?_;refine wj.go Z0 [0] (X:=Nat×List (List UInt8)×List (List UInt8)) (fun y=>y.1<=ps.length/\y.2.1.length<=y.1/\y.2.2.length<=y.1/\YO [] (ps.drop (i+1))=YO y.2.1 (ps.drop y.1)) (fun y=>[(3, .sl (.loc 6) 0 1 y.2.1.length none)]) (fun y=>[(0,JC y.1 (ps.length-y.1) L E ([]) (q) y.2.2.length 0 P),(4, .rows 1 (y.2.2.map Ze)),(5, .rows 1 []),(6, .rows 1 (y.2.1.map Ze))]) 7 (fun y=>ps.length-y.1) (i+1,[],[]) ⟨by simp only;omega,by simp,by simp,rfl⟩ ?_;conv=>whnf
   try rw[show ps.length-(i+1)=k2 by omega]
   refine⟨by exact w5.kA h0 [2,3,4],?_⟩;rintro⟨a,seen,vs⟩ ⟨ha,hs,hv,hx⟩;dsimp only at ha hs hv hx⊢;conv=>whnf
   refine CALL.hA (XO 264 _ ps (fun s hs=>VJ s (qW s hs)) a (ps.length-a) (by omega) L E ([]) (q) vs.length 0 P) ?_ ?_;rintro r O' w8 ⟨rfl,rfl,rfl⟩;exact⟨rfl,rfl,rfl⟩;rintro r O' ⟨rfl,rfl,_⟩;conv=>whnf
   refine IF.mk (fun h=>?_) (fun h=>?_)
   .obtain⟨w,hw,dh⟩:=ZQ h;have hlt:=(zf.1 hw).1;obtain⟨k',hk'⟩:∃k',ps.length-a=k'+1:=⟨ps.length-a-1,by omega⟩;have fh:=qW w (zU hw)
    have eD:YO seen (ps.drop a)=if Z9 w∈seen then none else YO (seen++ [Z9 w]) (ps.drop (a+1)):=by
     rw[ZX hw];simp only[YO];rw[zh dh]
    rw[hk'];conv=>whnf
    refine CALL.hA (Y3 ps a k' (by omega) w hw L E ([]) (q) vs.length 0 P) ?_ ?_;rintro r O' w8 ⟨rfl,rfl,rfl⟩;exact⟨rfl,rfl,rfl⟩;rintro r O' ⟨rfl,rfl,_⟩;conv=>whnf
    repeat'(first|refine CALL.value (Xm _ fh) rfl rfl ?_|refine CALL.jq 6 (YF seen (Z9 w) (by omega)) rfl rfl rfl rfl (Yn _) rfl ?_|refine AU ?_|refine IW ?_ ?_<;>intro h<;>try omega)<;>conv=>whnf
    .have hin:Z9 w∈seen:=by simpa using h
     have hn:Xq (ps.drop i)=none:=by unfold Xq;rw[he,hx,eD,zh hin]
     exact wh.loose h0 0 [.sl (.loc 1) (a+1) 1 (k') none, .str L, .str E, .str ([]), .str (q), .any, .any, .str P] rfl rfl rfl ⟨.inr ⟨rfl,rfl⟩, .inr ⟨rfl,rfl⟩, .inr ⟨rfl,rfl⟩, .inr ⟨rfl,rfl⟩, .inr ⟨rfl,rfl⟩, .inl rfl, .inl rfl, .inr ⟨rfl,rfl⟩,trivial⟩ ⟨a+1,k',[],q,by omega,by rw[hn];rfl,by simp[hn],rfl,rfl⟩
    .have hin:¬Z9 w∈seen:=by simpa using h
     refine⟨(a+1,seen++ [Z9 w],vs++ [w]),⟨by simp only;omega,by simp;omega,by simp;omega,by simp only;rw[hx,eD,z7 hin]⟩,by simp only;omega,?_⟩;dsimp only;rw[show ps.length-(a+1)=k' by omega,show(vs++ [w]).length=vs.length+1 by simp];conv=>whnf
     exact w5.kA h0 [10,5,8]
   .have kH:YO seen (ps.drop a)=some (ps.drop a,seen):=by
     rcases XF h with h|⟨s,_,h1,h2⟩
     rw[h];rfl;rw[h1];simp only[YO];rw[z7 (by simp[h2])]
    have nv:Xq (ps.drop i)=Y2 seen (ps.drop a):=by unfold Xq;rw[he,hx,kH]
    conv=>whnf
    refine wj.go Z0 [0] (X:=Nat×List (List UInt8)×List (List UInt8)) (fun y=>y.1<=ps.length/\y.2.1.length<=y.1/\y.2.2.length<=y.1/\Xq (ps.drop i)=Y2 y.2.1 (ps.drop y.1)) (fun y=>[(3, .sl (.loc 6) 0 1 y.2.1.length none)]) (fun y=>[(0,JC y.1 (ps.length-y.1) L E ([]) (q) vs.length y.2.2.length P),(4, .rows 1 (vs.map Ze)),(5, .rows 1 (y.2.2.map Ze)),(6, .rows 1 (y.2.1.map Ze))]) 7 (fun y=>ps.length-y.1) (a,seen,[]) ⟨by simp only;omega,by simp only;omega,by simp,nv⟩ ?_;conv=>whnf
    refine⟨by exact w5.kA h0 [4,5,6],?_⟩;clear nv kH hx hs hv;rintro⟨a,seen,xs⟩ ⟨ha,hs,hv,hx⟩;dsimp only at ha hs hv hx⊢;conv=>whnf
    refine CALL.hA (XO 266 _ ps (fun s hs=>WT s (qW s hs)) a (ps.length-a) (by omega) L E ([]) (q) vs.length xs.length P) ?_ ?_;rintro r O' w8 ⟨rfl,rfl,rfl⟩;exact⟨rfl,rfl,rfl⟩;rintro r O' ⟨rfl,rfl,_⟩;conv=>whnf
    refine IF.mk (fun h=>?_) (fun h=>?_)
    .obtain⟨w,hw,dh⟩:=ZQ h;have hlt:=(zf.1 hw).1;obtain⟨k',hk'⟩:∃k',ps.length-a=k'+1:=⟨ps.length-a-1,by omega⟩;have fh:=qW w (zU hw);rw[hk'];conv=>whnf
     refine CALL.hA (Y3 ps a k' (by omega) w hw L E ([]) (q) vs.length xs.length P) ?_ ?_;rintro r O' w8 ⟨rfl,rfl,rfl⟩;exact⟨rfl,rfl,rfl⟩;rintro r O' ⟨rfl,rfl,_⟩;conv=>whnf
     refine CALL.hA (WU 2 ps (by omega) (a+1) k' (by omega) L E ([]) (q) vs.length xs.length P) ?_ ?_;rintro r O' w8 ⟨n,s,_,_,rfl,rfl,rfl⟩;exact⟨rfl,rfl,rfl⟩;rintro r O' ⟨n,s,hn,gE,rfl,rfl,_⟩;have e8:n<=(ps.drop (a+1)).length:=by rw[hn];exact U2 _ _
     rw[zF]at e8
     have eD:Y2 seen (ps.drop a)=if n=0\/Z9 w∈seen then none else Y2 (seen++ [Z9 w]) (ps.drop (a+1+n)):=by
      rw[ZX hw,Y2,zh dh,<-hn,yt]
     conv=>whnf
     refine IF.mk (fun h1=>?_) (fun h1=>?_)
     .have oM:n=0:=by simpa using h1
      have hn:Xq (ps.drop i)=none:=by rw[hx,eD,zh (.inl oM)]
      conv=>whnf
      repeat'(first|refine AU ?_)<;>conv=>whnf
      exact wh.loose h0 0 [.sl (.loc 1) (a+1+n) 1 (k'-n) none, .str L, .str E, .str ([]), .str (q), .any, .any, .str P] rfl rfl rfl ⟨.inr ⟨rfl,rfl⟩, .inr ⟨rfl,rfl⟩, .inr ⟨rfl,rfl⟩, .inr ⟨rfl,rfl⟩, .inr ⟨rfl,rfl⟩, .inl rfl, .inl rfl, .inr ⟨rfl,rfl⟩,trivial⟩ ⟨a+1+n,k'-n,[],q,by omega,by rw[hn];rfl,by simp[hn],rfl,rfl⟩
     .have oM:n≠0:=by simpa using h1
      conv=>whnf
      repeat'(first|refine CALL.value (Xm _ fh) rfl rfl ?_|refine CALL.jq 6 (YF seen (Z9 w) (by omega)) rfl rfl rfl rfl (Yn _) rfl ?_|refine AU ?_|refine IW ?_ ?_<;>intro h<;>try omega)<;>conv=>whnf
      .have hin:Z9 w∈seen:=by simp_all
       have hn:Xq (ps.drop i)=none:=by rw[hx,eD,zh (.inr hin)]
       exact wh.loose h0 0 [.sl (.loc 1) (a+1+n) 1 (k'-n) none, .str L, .str E, .str ([]), .str (q), .any, .any, .str P] rfl rfl rfl ⟨.inr ⟨rfl,rfl⟩, .inr ⟨rfl,rfl⟩, .inr ⟨rfl,rfl⟩, .inr ⟨rfl,rfl⟩, .inr ⟨rfl,rfl⟩, .inl rfl, .inl rfl, .inr ⟨rfl,rfl⟩,trivial⟩ ⟨a+1+n,k'-n,[],q,by omega,by rw[hn];rfl,by simp[hn],rfl,rfl⟩
      .have hin:¬Z9 w∈seen:=by simp_all
       refine⟨(a+1+n,seen++ [Z9 w],xs++ [w++s]),⟨by simp only;omega,by simp;omega,by simp;omega,by simp only;rw[hx,eD,z7 (by simp[oM,hin])]⟩,by simp only;omega,?_⟩;dsimp only;rw[show ps.length-(a+1+n)=k'-n by omega,show(xs++ [w++s]).length=xs.length+1 by simp];conv=>whnf
       exact w5.kA h0 [4,10,8]
    .have kH:Y2 seen (ps.drop a)=some (ps.drop a):=by
      rcases XF h with h|⟨s,_,h1,h2⟩
      rw[h,Y2];rw[h1,Y2,z7 (by simp[h2])]
     conv=>whnf
     exact wh.loose h0 0 [.sl (.loc 1) (a) 1 (ps.length-a) none, .str L, .str E, .str ([]), .str (q), .any, .any, .str P] rfl rfl rfl ⟨.inr ⟨rfl,rfl⟩, .inr ⟨rfl,rfl⟩, .inr ⟨rfl,rfl⟩, .inr ⟨rfl,rfl⟩, .inr ⟨rfl,rfl⟩, .inl rfl, .inl rfl, .inr ⟨rfl,rfl⟩,trivial⟩ ⟨a,ps.length-a,[],q,by omega,by rw[hx,kH];rfl,by rw[hx,kH];rintro l ⟨⟩;rfl,rfl,rfl⟩
  .have he:Ja Xd (Ja (fun s=>ZI s 4 4 true) (ps.drop i))=ps.drop i:=by rw[l6,Kj h1]
   conv=>whnf
   refine wj.nil 3 1 rfl ?_;refine wj.go Z0 [0] (X:=Nat×List (List UInt8)×List (List UInt8)) (fun y=>y.1<=ps.length/\y.2.1.length<=y.1/\y.2.2.length<=y.1/\YO [] (ps.drop (i))=YO y.2.1 (ps.drop y.1)) (fun y=>[(3, .sl (.loc 6) 0 1 y.2.1.length none)]) (fun y=>[(0,JC y.1 (ps.length-y.1) L E ([]) ([]) y.2.2.length 0 P),(4, .rows 1 (y.2.2.map Ze)),(5, .rows 1 []),(6, .rows 1 (y.2.1.map Ze))]) 7 (fun y=>ps.length-y.1) (i,[],[]) ⟨by simp only;omega,by simp,by simp,rfl⟩ ?_;conv=>whnf
   try rw[show ps.length-(i)=m by omega]
   refine⟨by exact w5.kA h0 [2,3,4],?_⟩;rintro⟨a,seen,vs⟩ ⟨ha,hs,hv,hx⟩;dsimp only at ha hs hv hx⊢;conv=>whnf
   refine CALL.hA (XO 264 _ ps (fun s hs=>VJ s (qW s hs)) a (ps.length-a) (by omega) L E ([]) ([]) vs.length 0 P) ?_ ?_;rintro r O' w8 ⟨rfl,rfl,rfl⟩;exact⟨rfl,rfl,rfl⟩;rintro r O' ⟨rfl,rfl,_⟩;conv=>whnf
   refine IF.mk (fun h=>?_) (fun h=>?_)
   .obtain⟨w,hw,dh⟩:=ZQ h;have hlt:=(zf.1 hw).1;obtain⟨k',hk'⟩:∃k',ps.length-a=k'+1:=⟨ps.length-a-1,by omega⟩;have fh:=qW w (zU hw)
    have eD:YO seen (ps.drop a)=if Z9 w∈seen then none else YO (seen++ [Z9 w]) (ps.drop (a+1)):=by
     rw[ZX hw];simp only[YO];rw[zh dh]
    rw[hk'];conv=>whnf
    refine CALL.hA (Y3 ps a k' (by omega) w hw L E ([]) ([]) vs.length 0 P) ?_ ?_;rintro r O' w8 ⟨rfl,rfl,rfl⟩;exact⟨rfl,rfl,rfl⟩;rintro r O' ⟨rfl,rfl,_⟩;conv=>whnf
    repeat'(first|refine CALL.value (Xm _ fh) rfl rfl ?_|refine CALL.jq 6 (YF seen (Z9 w) (by omega)) rfl rfl rfl rfl (Yn _) rfl ?_|refine AU ?_|refine IW ?_ ?_<;>intro h<;>try omega)<;>conv=>whnf
    .have hin:Z9 w∈seen:=by simpa using h
     have hn:Xq (ps.drop i)=none:=by unfold Xq;rw[he,hx,eD,zh hin]
     exact wh.loose h0 0 [.sl (.loc 1) (a+1) 1 (k') none, .str L, .str E, .str ([]), .str ([]), .any, .any, .str P] rfl rfl rfl ⟨.inr ⟨rfl,rfl⟩, .inr ⟨rfl,rfl⟩, .inr ⟨rfl,rfl⟩, .inr ⟨rfl,rfl⟩, .inr ⟨rfl,rfl⟩, .inl rfl, .inl rfl, .inr ⟨rfl,rfl⟩,trivial⟩ ⟨a+1,k',[],[],by omega,by rw[hn];rfl,by simp[hn],rfl,rfl⟩
    .have hin:¬Z9 w∈seen:=by simpa using h
     refine⟨(a+1,seen++ [Z9 w],vs++ [w]),⟨by simp only;omega,by simp;omega,by simp;omega,by simp only;rw[hx,eD,z7 hin]⟩,by simp only;omega,?_⟩;dsimp only;rw[show ps.length-(a+1)=k' by omega,show(vs++ [w]).length=vs.length+1 by simp];conv=>whnf
     exact w5.kA h0 [10,5,8]
   .have kH:YO seen (ps.drop a)=some (ps.drop a,seen):=by
     rcases XF h with h|⟨s,_,h1,h2⟩
     rw[h];rfl;rw[h1];simp only[YO];rw[z7 (by simp[h2])]
    have nv:Xq (ps.drop i)=Y2 seen (ps.drop a):=by unfold Xq;rw[he,hx,kH]
    conv=>whnf
    refine wj.go Z0 [0] (X:=Nat×List (List UInt8)×List (List UInt8)) (fun y=>y.1<=ps.length/\y.2.1.length<=y.1/\y.2.2.length<=y.1/\Xq (ps.drop i)=Y2 y.2.1 (ps.drop y.1)) (fun y=>[(3, .sl (.loc 6) 0 1 y.2.1.length none)]) (fun y=>[(0,JC y.1 (ps.length-y.1) L E ([]) ([]) vs.length y.2.2.length P),(4, .rows 1 (vs.map Ze)),(5, .rows 1 (y.2.2.map Ze)),(6, .rows 1 (y.2.1.map Ze))]) 7 (fun y=>ps.length-y.1) (a,seen,[]) ⟨by simp only;omega,by simp only;omega,by simp,nv⟩ ?_;conv=>whnf
    refine⟨by exact w5.kA h0 [4,5,6],?_⟩;clear nv kH hx hs hv;rintro⟨a,seen,xs⟩ ⟨ha,hs,hv,hx⟩;dsimp only at ha hs hv hx⊢;conv=>whnf
    refine CALL.hA (XO 266 _ ps (fun s hs=>WT s (qW s hs)) a (ps.length-a) (by omega) L E ([]) ([]) vs.length xs.length P) ?_ ?_;rintro r O' w8 ⟨rfl,rfl,rfl⟩;exact⟨rfl,rfl,rfl⟩;rintro r O' ⟨rfl,rfl,_⟩;conv=>whnf
    refine IF.mk (fun h=>?_) (fun h=>?_)
    .obtain⟨w,hw,dh⟩:=ZQ h;have hlt:=(zf.1 hw).1;obtain⟨k',hk'⟩:∃k',ps.length-a=k'+1:=⟨ps.length-a-1,by omega⟩;have fh:=qW w (zU hw);rw[hk'];conv=>whnf
     refine CALL.hA (Y3 ps a k' (by omega) w hw L E ([]) ([]) vs.length xs.length P) ?_ ?_;rintro r O' w8 ⟨rfl,rfl,rfl⟩;exact⟨rfl,rfl,rfl⟩;rintro r O' ⟨rfl,rfl,_⟩;conv=>whnf
     refine CALL.hA (WU 2 ps (by omega) (a+1) k' (by omega) L E ([]) ([]) vs.length xs.length P) ?_ ?_;rintro r O' w8 ⟨n,s,_,_,rfl,rfl,rfl⟩;exact⟨rfl,rfl,rfl⟩;rintro r O' ⟨n,s,hn,gE,rfl,rfl,_⟩;have e8:n<=(ps.drop (a+1)).length:=by rw[hn];exact U2 _ _
     rw[zF]at e8
     have eD:Y2 seen (ps.drop a)=if n=0\/Z9 w∈seen then none else Y2 (seen++ [Z9 w]) (ps.drop (a+1+n)):=by
      rw[ZX hw,Y2,zh dh,<-hn,yt]
     conv=>whnf
     refine IF.mk (fun h1=>?_) (fun h1=>?_)
     .have oM:n=0:=by simpa using h1
      have hn:Xq (ps.drop i)=none:=by rw[hx,eD,zh (.inl oM)]
      conv=>whnf
      repeat'(first|refine AU ?_)<;>conv=>whnf
      exact wh.loose h0 0 [.sl (.loc 1) (a+1+n) 1 (k'-n) none, .str L, .str E, .str ([]), .str ([]), .any, .any, .str P] rfl rfl rfl ⟨.inr ⟨rfl,rfl⟩, .inr ⟨rfl,rfl⟩, .inr ⟨rfl,rfl⟩, .inr ⟨rfl,rfl⟩, .inr ⟨rfl,rfl⟩, .inl rfl, .inl rfl, .inr ⟨rfl,rfl⟩,trivial⟩ ⟨a+1+n,k'-n,[],[],by omega,by rw[hn];rfl,by simp[hn],rfl,rfl⟩
     .have oM:n≠0:=by simpa using h1
      conv=>whnf
      repeat'(first|refine CALL.value (Xm _ fh) rfl rfl ?_|refine CALL.jq 6 (YF seen (Z9 w) (by omega)) rfl rfl rfl rfl (Yn _) rfl ?_|refine AU ?_|refine IW ?_ ?_<;>intro h<;>try omega)<;>conv=>whnf
      .have hin:Z9 w∈seen:=by simp_all
       have hn:Xq (ps.drop i)=none:=by rw[hx,eD,zh (.inr hin)]
       exact wh.loose h0 0 [.sl (.loc 1) (a+1+n) 1 (k'-n) none, .str L, .str E, .str ([]), .str ([]), .any, .any, .str P] rfl rfl rfl ⟨.inr ⟨rfl,rfl⟩, .inr ⟨rfl,rfl⟩, .inr ⟨rfl,rfl⟩, .inr ⟨rfl,rfl⟩, .inr ⟨rfl,rfl⟩, .inl rfl, .inl rfl, .inr ⟨rfl,rfl⟩,trivial⟩ ⟨a+1+n,k'-n,[],[],by omega,by rw[hn];rfl,by simp[hn],rfl,rfl⟩
      .have hin:¬Z9 w∈seen:=by simp_all
       refine⟨(a+1+n,seen++ [Z9 w],xs++ [w++s]),⟨by simp only;omega,by simp;omega,by simp;omega,by simp only;rw[hx,eD,z7 (by simp[oM,hin])]⟩,by simp only;omega,?_⟩;dsimp only;rw[show ps.length-(a+1+n)=k'-n by omega,show(xs++ [w++s]).length=xs.length+1 by simp];conv=>whnf
       exact w5.kA h0 [4,10,8]
    .have kH:Y2 seen (ps.drop a)=some (ps.drop a):=by
      rcases XF h with h|⟨s,_,h1,h2⟩
      rw[h,Y2];rw[h1,Y2,z7 (by simp[h2])]
     conv=>whnf
     exact wh.loose h0 0 [.sl (.loc 1) (a) 1 (ps.length-a) none, .str L, .str E, .str ([]), .str ([]), .any, .any, .str P] rfl rfl rfl ⟨.inr ⟨rfl,rfl⟩, .inr ⟨rfl,rfl⟩, .inr ⟨rfl,rfl⟩, .inr ⟨rfl,rfl⟩, .inr ⟨rfl,rfl⟩, .inl rfl, .inl rfl, .inr ⟨rfl,rfl⟩,trivial⟩ ⟨a,ps.length-a,[],[],by omega,by rw[hx,kH];rfl,by rw[hx,kH];rintro l ⟨⟩;rfl,rfl,rfl⟩
open _root_.Go.Proofs.Tryz
theorem Zfb{p:List UInt8->Bool}{ps:List (List UInt8)}:YD p ps 0=Ki p ps:=by
 unfold YD;cases ps<;>rfl
theorem Zhn(s:List UInt8)(hs:s.length<=34359738368):uX prog wD 161 0 [.str s] [] [] (qd (.wM [.agg (aM 7), .int .i64 (if qB (Zw s)=true then 0 else 61)])):=by
 have GY:=Bt s;have hlen:=Eb s;generalize hps:Zw s=ps at*;have hb:JD ps+ps.length<=68719476736:=by unfold JD;omega
 have qW:=Qe (ps:=ps) (by omega);refine uX.enter Z0 call161 func161 rfl 56 rfl rfl [.cell 2 223, .tmp 3] rfl ?_;intro w0 F η0 h0;conv=>whnf
 refine CALL.Q9 (Zd3 s (by omega)) rfl (Yn _) ?_;rw[hps,zA];conv=>whnf
 refine CALL.qC 2 5 1 rfl rfl ?_;refine CALL.qC 2 6 1 rfl rfl ?_;refine CALL.aA [2,1,3,4] (Vh 211 _ ps (fun s hs=>VI s) 0 ps.length (by omega) [] [] [] [] 0 0 []) ?_;rintro r O' w8 ⟨rfl,rfl,rfl⟩;rw[Zfb];conv=>whnf
 refine IF.mk (fun h1=>?_) (fun h1=>?_)
 .have h1:Ki Y1 ps=false:=by simpa using h1
  conv=>whnf
  repeat'(first|refine AU ?_)<;>conv=>whnf
  refine CALL.aA [2,1,3,4] (Z72 ps (by omega) 0 ps.length (by omega) [] [] 0 0 []) ?_;rintro r O' w8 ⟨i1,m1,L,E,s6,rfl,hL,rfl,rfl⟩;cases h2:JQ (ps.drop 0)with
  |none=>
   have kB:qB ps=false:=by
    have h2:JQ ps=none:=h2;unfold qB;rw[z7 (by simp[h1]),h2]
   rw[Option.isSome_none];conv=>whnf
   repeat'(first|refine AU ?_|refine IW ?_ ?_<;>intro h<;>try omega)<;>conv=>whnf
   refine wh.gx 7 h0 rfl rfl rfl ⟨?_,rfl,rfl⟩;rw[kB];rfl
  |some l1=>
   have ga:=hL l1 h2;subst ga;rw[Option.isSome_some];conv=>whnf
   repeat'(first|refine AU ?_|refine IW ?_ ?_<;>intro h<;>try omega)<;>conv=>whnf
   refine CALL.aA [2,1,3,4] (Zfa ps (by omega) i1 m1 s6 L E []) ?_;rintro r O' w8 ⟨i2,m2,S,R,z4O,rfl,hR,rfl,rfl⟩;cases h3:Xq (ps.drop i1)with
   |none=>
    have kB:qB ps=false:=by
     have h2:JQ ps=_:=h2;unfold qB;rw[z7 (by simp[h1]),h2];simp only[h3]
    rw[Option.isSome_none];conv=>whnf
    repeat'(first|refine AU ?_|refine IW ?_ ?_<;>intro h<;>try omega)<;>conv=>whnf
    refine wh.gx 7 h0 rfl rfl rfl ⟨?_,rfl,rfl⟩;rw[kB];rfl
   |some l2=>
    have nL:=hR l2 h3;subst nL
    have kB:qB ps=U3 (ps.drop i2):=by
     have h2:JQ ps=_:=h2;unfold qB;rw[z7 (by simp[h1]),h2];simp only[h3]
    rw[Option.isSome_some];conv=>whnf
    repeat'(first|refine AU ?_|refine IW ?_ ?_<;>intro h<;>try omega)<;>conv=>whnf
    refine CALL.aA [2,1,3,4] (Zd9 211 _ ps (fun s hs=>VI s) (i2) (m2) (by omega) L E S R 0 0 []) ?_;rintro r O' w8 ⟨rfl,rfl,rfl⟩;conv=>whnf
    refine IF.mk (fun h1=>?_) (fun h1=>?_)
    .obtain⟨w,hw,dh⟩:=ZQ h1;have hlt:=(zf.1 hw).1;have qb:U3 (ps.drop (i2))=decide (ZW (YK 1) (ps.drop (i2+1))≠0/\ZW (YK 1) (ps.drop (i2+1))=(ps.drop (i2+1)).length):=by rw[ZX hw];simp only[U3];rw[zh dh]
     rw[zF]at qb;obtain⟨k',hk'⟩:∃k',m2=k'+1:=⟨m2-1,by omega⟩;have oe:=qW w (zU hw);rw[hk'];conv=>whnf
     refine CALL.aA [2,1,3,4] (Ri ps (i2) k' (by omega) w hw L E S R 0 0 []) ?_;rintro r O' w8 ⟨rfl,rfl,rfl⟩;conv=>whnf
     refine CALL.aA [2,1,3,4] (Zda 1 ps (by omega) (i2+1) k' (by omega) L E S R 0 0 []) ?_;rintro r O' w8 ⟨n,x,hn,hxl,rfl,rfl,rfl⟩;have hn:n=ZW (YK 1) (ps.drop (i2+1)):=hn;have e8:n<=(ps.drop (i2+1)).length:=by rw[hn];exact U2 _ _
     rw[zF]at e8;rw[<-hn]at qb;conv=>whnf
     repeat'(first|refine AU ?_|refine IW ?_ ?_<;>intro h<;>try omega)<;>conv=>whnf
     all_goals
      refine wh.gx 7 h0 rfl rfl rfl ⟨?_,rfl,rfl⟩;rw[kB,qb]
     rw[z7 (by simp_all)];rw[z7 (by simp;omega)];rw[zh (by simp;simp at*;omega)]
    .have qb:U3 (ps.drop (i2))=decide (m2=0):=by
      rcases XF h1 with h2|⟨x,h3,h2,h4⟩
      rw[h2];have:=ze List.length h2;rw[zF,List.length_nil]at this;simp only[U3];symm;exact yu (by omega)
      .have:=(zf.1 h3).1;rw[h2];simp only[U3];rw[z7 (by simp[h4])];symm;exact ye (by omega)
     conv=>whnf
     repeat'(first|refine IW ?_ ?_<;>intro h<;>try omega)<;>conv=>whnf
     all_goals
      refine wh.gx 7 h0 rfl rfl rfl ⟨?_,rfl,rfl⟩;rw[kB,qb]
     rw[z7 (by rw[yy];omega)];rw[zh (by rw[yy];omega)]
 .have h1:Ki Y1 ps=true:=by simpa using h1
  have kB:qB ps=U3 (ps.drop 0):=by unfold qB;rw[zh h1];rfl
  conv=>whnf
  repeat'(first|refine AU ?_)<;>conv=>whnf
  refine CALL.aA [2,1,3,4] (Vh 211 _ ps (fun s hs=>VI s) (0) (ps.length) (by omega) [] [] [] [] 0 0 []) ?_;rintro r O' w8 ⟨rfl,rfl,rfl⟩;conv=>whnf
  refine IF.mk (fun h1=>?_) (fun h1=>?_)
  .obtain⟨w,hw,dh⟩:=ZQ h1;have hlt:=(zf.1 hw).1;have qb:U3 (ps.drop (0))=decide (ZW (YK 1) (ps.drop (0+1))≠0/\ZW (YK 1) (ps.drop (0+1))=(ps.drop (0+1)).length):=by rw[ZX hw];simp only[U3];rw[zh dh]
   rw[zF]at qb;obtain⟨k',hk'⟩:∃k',ps.length=k'+1:=⟨ps.length-1,by omega⟩;have oe:=qW w (zU hw);rw[hk'];conv=>whnf
   refine CALL.aA [2,1,3,4] (YE ps (0) k' (by omega) w hw [] [] [] [] 0 0 []) ?_;rintro r O' w8 ⟨rfl,rfl,rfl⟩;conv=>whnf
   refine CALL.aA [2,1,3,4] (Zf7 1 ps (by omega) (0+1) k' (by omega) [] [] [] [] 0 0 []) ?_;rintro r O' w8 ⟨n,x,hn,hxl,rfl,rfl,rfl⟩;have hn:n=ZW (YK 1) (ps.drop (0+1)):=hn;have e8:n<=(ps.drop (0+1)).length:=by rw[hn];exact U2 _ _
   rw[zF]at e8;rw[<-hn]at qb;conv=>whnf
   repeat'(first|refine AU ?_|refine IW ?_ ?_<;>intro h<;>try omega)<;>conv=>whnf
   all_goals
    refine wh.gx 7 h0 rfl rfl rfl ⟨?_,rfl,rfl⟩;rw[kB,qb]
   rw[z7 (by simp_all)];rw[z7 (by simp;omega)];rw[zh (by simp;simp at*;omega)]
  .have qb:U3 (ps.drop (0))=decide (ps.length=0):=by
    rcases XF h1 with h2|⟨x,h3,h2,h4⟩
    rw[h2];have:=ze List.length h2;rw[zF,List.length_nil]at this;simp only[U3];symm;exact yu (by omega)
    .have:=(zf.1 h3).1;rw[h2];simp only[U3];rw[z7 (by simp[h4])];symm;exact ye (by omega)
   conv=>whnf
   repeat'(first|refine IW ?_ ?_<;>intro h<;>try omega)<;>conv=>whnf
   all_goals
    refine wh.gx 7 h0 rfl rfl rfl ⟨?_,rfl,rfl⟩;rw[kB,qb]
   rw[z7 (by rw[yy];omega)];rw[zh (by rw[yy];omega)]
open _root_.Go.Proofs.Tryz
def Zhp:wP:=(Zr [(0,1),(1,1),(2,1),(3,1),(6,1),(4,2),(7,2),(5,3),(8,1),(9,1)])
theorem Z8L(k:Int)(t y l:List UInt8)(ht:Sm t)(hy:Sm y)(hl:Sm l):uX prog wD 123 0 [.agg [.int .i64 k, .str t, .str y, .str l]] [] [] (qd (.int .i64 (dP t y l))):=by
 refine uX.enter Z0 call123 func123 rfl 55 rfl rfl [.tmp 2] rfl ?_;intro w0 F η0 h0;conv=>whnf
 repeat'(first|refine Z3 12 Zhp ?_|refine qJ.mk (fun _ _=>?_)|refine CALL.value (Bb _ ht) rfl rfl ?_|refine CALL.value (LW _ hy) rfl rfl ?_|refine CALL.value (Zhn _ (by omega)) rfl rfl ?_|refine CALL.value (Xm _ hl) rfl rfl ?_|refine CALL.jq 2 (Z74 [(if qB (Zw l)=true then 0 else 61),61] (by simp)) rfl rfl rfl rfl rfl rfl ?_|refine AU ?_|refine IW ?_ ?_<;>intro h<;>try omega)<;>conv=>whnf
 all_goals
  refine wh.value h0 rfl (ze (SV.int _) ?_);by_cases hy0:y=Yo
  .have aO:(y==Yo)=true:=by simp[hy0]
   unfold Yo at aO;try rw[aO]at h
   by_cases Ec:qB (Zw l)=true<;>by_cases GZ:Z9 l=l<;>by_cases hl0:l=[]<;>simp_all[dP,Yo,nT]<;>omega
  .have aO:(y==Yo)=false:=by simp[hy0]
   unfold Yo at aO;try rw[aO]at h
   by_cases Ec:qB (Zw l)=true<;>by_cases GZ:Z9 l=l<;>by_cases hl0:l=[]<;>simp_all[dP,Yo,nT]<;>omega
theorem Vi(x:Tm)(hx:gW x):uX prog wD 86 0 [.agg [.int .i64 x.k, .str x.t, .str x.y, .str x.l]] [] [] (qd (.int .i64 (wH x))):=by
 obtain⟨ht,hy,hl⟩:=hx;obtain⟨k,t,y,l⟩:=x;dsimp only at ht hy hl⊢;refine uX.enter Z0 call86 func86 rfl 33 rfl rfl [.tmp 2] rfl ?_;intro w0 F η0 h0;conv=>whnf
 repeat'(first|refine CALL.value (Z8L _ _ _ _ ht hy hl) rfl rfl ?_|refine CALL.value (LW _ ht) rfl rfl ?_|refine CALL.value (Zan _ ht) rfl rfl ?_|refine AU ?_|refine IW ?_ ?_<;>intro h<;>try omega)<;>conv=>whnf
 all_goals
  refine wh.value h0 rfl (ze (SV.int _) ?_);unfold wH
  first
   |(simp_all;done)
   |(simp_all<;>omega)
theorem Z8M(x:Tm):uX prog wD 85 0 [.int .i64 0, .agg [.int .i64 x.k, .str x.t, .str x.y, .str x.l]] [] [] (qd (.bool (decide (x.k=1\/x.k=2)))):=by
 refine uX.enter Z0 call85 func85 rfl 49 rfl rfl [.tmp 4] rfl ?_;intro w0 F η0 h0;conv=>whnf
 repeat'(first|refine IW ?_ ?_<;>intro h<;>try omega)<;>conv=>whnf
 all_goals
  refine wh.value h0 rfl (ze SV.bool ?_);by_cases h1:x.k=1<;>by_cases h2:x.k=2<;>simp_all
theorem Z8N(x:Tm):uX prog wD 85 0 [.int .i64 1, .agg [.int .i64 x.k, .str x.t, .str x.y, .str x.l]] [] [] (qd (.bool (decide (x.k=1)))):=by
 refine uX.enter Z0 call85 func85 rfl 49 rfl rfl [.tmp 4] rfl ?_;intro w0 F η0 h0;conv=>whnf
 repeat'(first|refine IW ?_ ?_<;>intro h<;>try omega)<;>conv=>whnf
 all_goals
  refine wh.value h0 rfl (ze SV.bool ?_);by_cases h1:x.k=1<;>simp_all
theorem Z8O(x:Tm):uX prog wD 85 0 [.int .i64 2, .agg [.int .i64 x.k, .str x.t, .str x.y, .str x.l]] [] [] (qd (.bool (decide (x.k=1\/x.k=2\/x.k=3)))):=by
 refine uX.enter Z0 call85 func85 rfl 49 rfl rfl [.tmp 4] rfl ?_;intro w0 F η0 h0;conv=>whnf
 repeat'(first|refine IW ?_ ?_<;>intro h<;>try omega)<;>conv=>whnf
 all_goals
  refine wh.value h0 rfl (ze SV.bool ?_);by_cases h1:x.k=1<;>by_cases h2:x.k=2<;>by_cases h3:x.k=3<;>simp_all
theorem Z8P(x:Tm):uX prog wD 85 0 [.int .i64 3, .agg [.int .i64 x.k, .str x.t, .str x.y, .str x.l]] [] [] (qd (.bool (decide (x.k=1\/x.k=2\/x=YN)))):=by
 obtain⟨k,t,y,l⟩:=x;dsimp only;refine uX.enter Z0 call85 func85 rfl 49 rfl rfl [.tmp 4] rfl ?_;intro w0 F η0 h0;conv=>whnf
 repeat'(first|refine IW ?_ ?_<;>intro h<;>try omega)<;>conv=>whnf
 all_goals
  refine wh.value h0 rfl (ze SV.bool ?_);unfold YN;by_cases h1:k=1<;>by_cases h2:k=2<;>by_cases h3:k=0<;>cases t<;>cases y<;>cases l<;>simp_all
theorem Wh(q:Qd)(hq:bT q):uX prog wD 46 0 [q.sv] [] [] (qd (.int .i64 (Xv q))):=by
 obtain⟨hs,hp,ho,hg⟩:=hq;unfold Qd.sv;refine uX.enter Z0 call46 func46 rfl 36 rfl rfl [.tmp 2] rfl ?_;intro w0 F η0 h0;conv=>whnf
 repeat'(first|refine wj.once Z0 ?_|refine CALL.value (Z8M q.s) rfl rfl ?_|refine CALL.value (Z8N q.p) rfl rfl ?_|refine CALL.value (Z8O q.o) rfl rfl ?_|refine CALL.value (Z8P q.g) rfl rfl ?_|refine CALL.value (Vi q.s hs) rfl rfl ?_|refine CALL.value (Vi q.p hp) rfl rfl ?_|refine CALL.value (Vi q.o ho) rfl rfl ?_|refine CALL.value (Vi q.g hg) rfl rfl ?_|refine AU ?_|refine IW ?_ ?_<;>intro h<;>try omega)<;>conv=>whnf
 all_goals
  refine wh.value h0 rfl (ze (SV.int _) ?_);have hco:= @Zaq q.o;have hz:q.g=YN->q.g.k=0:=fun h=>by rw[h];rfl
  unfold Xv;clear hs hp ho hg;by_cases Bw:q.g=YN
  have:=hz Bw;simp_all
  .by_cases g1:q.g.k=1
   simp_all
   .by_cases g2:q.g.k=2
    simp_all
    simp_all
open _root_.Go.Proofs.Tryz
def RO:wP:=(Zr [(0,1),(2,1),(5,1),(7,1),(10,1),(12,1),(15,1),(17,1),(1,2),(3,2),(6,2),(8,2),(11,2),(13,2),(16,2),(18,2),(4,3),(9,3),(14,3),(19,3),(20,3),(21,3),(22,1)])
theorem Zdi(a:Int):uX prog wD 136 0 [.int .i64 a] [] [] (qd (.bool false)):=by
 refine uX.enter Z0 call136 func136 rfl 6 rfl rfl [.tmp 2] rfl ?_;intro w0 F η0 h0;conv=>whnf
 exact wh.value h0 rfl (by simp)
theorem RQ(a b:Int):uX prog wD 104 0 [.int .i64 a, .int .i64 b] [] [] (qd (.int .i64 (qF a b))):=by
 refine uX.enter Z0 call104 func104 rfl 20 rfl rfl [.tmp 4] rfl ?_;intro w0 F η0 h0;conv=>whnf
 repeat'(first|refine CALL.value (Zdi _) rfl rfl ?_|refine AU ?_|refine IW ?_ ?_<;>intro h<;>try omega)<;>conv=>whnf
 all_goals
  refine wh.value h0 rfl (ze (SV.int _) ?_);unfold qF
  (repeat' split)<;>simp_all<;>omega
theorem Zax(a b:List UInt8):uX prog wD 216 0 [.str a, .str b] [] [] (qd (.int .i64 (cmpL a b))):=by
 refine uX.says fun K w vs hd=>?_;simp only[w6,Den]at hd;obtain⟨u,us,rfl,rfl,u',us',rfl,rfl,rfl⟩:=hd;refine⟨_,?_,rfl⟩;rw[run_callFunc_extern func216 (by kernel_rfl) (by kernel_rfl) (by kernel_rfl) (e:=Extern.BytealgCompare.compare) (by kernel_rfl),Lib.run_compareString]
 rfl
theorem Z5z(a b:List UInt8):uX prog wD 164 0 [.str a, .str b] [] [] (qd (.int .i64 (cmpL a b))):=by
 refine uX.enter Z0 call164 func164 rfl 8 rfl rfl [.tmp 4] rfl ?_;intro w0 F η0 h0;conv=>whnf
 repeat'(first|refine CALL.value (Zax _ _) rfl rfl ?_)<;>conv=>whnf
 exact wh.value h0 rfl rfl
theorem BX(a b:List UInt8):uX prog wD 124 0 [.str a, .str b] [] [] (qd (.int .i64 (cmpL a b))):=by
 refine uX.enter Z0 call124 func124 rfl 8 rfl rfl [.tmp 4] rfl ?_;intro w0 F η0 h0;conv=>whnf
 repeat'(first|refine CALL.value (Z5z _ _) rfl rfl ?_)<;>conv=>whnf
 exact wh.value h0 rfl rfl
def RR(x:Int):List SV:=[.int .i64 x]
theorem BZ(xs:List Int)(hn:xs.length<=1152921504606846976):uX prog wD 87 1 [.sl (.loc 0) 0 1 xs.length none] [] [(0, .rows 1 (xs.map RR))] (qE 1 (.int .i64 (pL xs))):=by
 refine uX.enter Z0 call87 func87 rfl 18 rfl rfl [.tmp 2] rfl ?_;intro w0 F η0 h0;conv=>whnf
 refine wj.go Z0 [3,6,7] (X:=Nat) (fun i=>i<=xs.length/\pL xs=pL (xs.drop i)) (fun i=>[(8, .int .i64 (i:Int))]) (fun i=>[]) 1 (fun i=>xs.length-i) 0 ⟨by omega,rfl⟩ ?_;conv=>whnf
 refine⟨by exact w5.cA h0,?_⟩;rintro i ⟨hi,ho⟩;conv=>whnf
 repeat'(first|refine GET.at (row:=RR (xs[i]'(by omega))) (by rw[z6,show 0+(i:Int).toNat=i by omega,z1 (by omega)];rfl) ?_|refine AU ?_|refine IW ?_ ?_<;>intro h<;>try omega)<;>conv=>whnf
 .have hl:i<xs.length:=by omega
  refine wh.wC h0 rfl (ze (SV.int _) ?_);rw[ho,zq hl];simp only[pL];rw[zh h]
 .have hl:i<xs.length:=by omega
  refine⟨i+1,⟨by omega,?_⟩,by omega,?_⟩;rw[ho,zq hl];simp only[pL];rw[z7 (by simpa using h)]
  .conv=>whnf
   exact w5.cA h0
 .refine wh.wC h0 rfl (ze (SV.int _) ?_);rw[ho,zN (by omega)];rfl
abbrev Ew(x:Tm):List SV:=[.int .i64 x.k, .str x.t, .str x.y, .str x.l]
theorem WX(a b:Tm):uX prog wD 88 0 [.agg (Ew a), .agg (Ew b)] [] [] (qd (.int .i64 (YI a b))):=by
 refine uX.enter Z0 call88 func88 rfl 27 rfl rfl [.tmp 4] rfl ?_;intro w0 F η0 h0;conv=>whnf
 repeat'(first|refine Z3 1 RO ?_|refine qJ.mk (fun _ _=>?_)|refine CALL.value (RQ a.k b.k) rfl rfl ?_|refine CALL.value (BX a.t b.t) rfl rfl ?_|refine CALL.value (BX a.y b.y) rfl rfl ?_|refine CALL.value (BX a.l b.l) rfl rfl ?_|refine CALL.looks [2] (BZ [qF a.k b.k,cmpL a.t b.t,cmpL a.y b.y,cmpL a.l b.l] (by simp)) rfl rfl rfl rfl ⟨⟨rfl,rfl,rfl⟩,trivial⟩ ?_)<;>conv=>whnf
 exact wh.value h0 rfl (by rw[<-LF])
theorem A0(a b:Qd):uX prog wD 47 0 [.agg a.row, .agg b.row] [] [] (qd (.int .i64 (ZM a b))):=by
 refine uX.enter Z0 call47 func47 rfl 27 rfl rfl [.tmp 4] rfl ?_;intro w0 F η0 h0;conv=>whnf
 repeat'(first|refine Z3 1 RO ?_|refine qJ.mk (fun _ _=>?_)|refine CALL.value (WX a.g b.g) rfl rfl ?_|refine CALL.value (WX a.s b.s) rfl rfl ?_|refine CALL.value (WX a.p b.p) rfl rfl ?_|refine CALL.value (WX a.o b.o) rfl rfl ?_|refine CALL.looks [2] (BZ [YI a.g b.g,YI a.s b.s,YI a.p b.p,YI a.o b.o] (by simp)) rfl rfl rfl rfl ⟨⟨rfl,rfl,rfl⟩,trivial⟩ ?_)<;>conv=>whnf
 exact wh.value h0 rfl (by rw[<-LG])
theorem Zdj(a b:List UInt8):uX prog wD 156 0 [.str a, .str b] [] [] (qd (.int .i64 (cmpL a b))):=by
 have hr:=jO.nS a b;have ha:=jO.anti a b;have h1:=LD a b;have h2:=LD b a;have h3:(a==b)=decide (cmpL a b=0):=by rw[zZ];simp[jO.zero]
 refine uX.enter Z0 call156 func156 rfl 13 rfl rfl [.tmp 4] rfl ?_;intro w0 F η0 h0;conv=>whnf
 repeat'(first|refine IW ?_ ?_<;>intro h<;>try omega)<;>conv=>whnf
 all_goals
  refine wh.value h0 rfl (ze (SV.int _) ?_);simp only[h1,h2,h3,yc,ym]at*;have hz:=jO.zero a b;simp only[<-hz]at*;omega
theorem Xe(a b:Tm):uX prog wD 117 0 [.agg (Ew a), .agg (Ew b)] [] [] (qd (.int .i64 (YI a b))):=by
 refine uX.enter Z0 call117 func117 rfl 36 rfl rfl [.tmp 4] rfl ?_;intro w0 F η0 h0;conv=>whnf
 repeat'(first|refine CALL.value (Zdj _ _) rfl rfl ?_|refine IW ?_ ?_<;>intro h<;>try omega)<;>conv=>whnf
 all_goals
  refine wh.value h0 rfl (ze (SV.int _) ?_);rw[<-LF];simp only[pL,qF]
  (repeat' split)<;>simp_all<;>omega
theorem Xf(a b:Qd):uX prog wD 110 0 [.agg a.row, .agg b.row] [] [] (qd (.int .i64 (ZM a b))):=by
 refine uX.enter Z0 call110 func110 rfl 33 rfl rfl [.tmp 4] rfl ?_;intro w0 F η0 h0;conv=>whnf
 repeat'(first|refine CALL.value (Xe a.g b.g) rfl rfl ?_|refine CALL.value (Xe a.s b.s) rfl rfl ?_|refine CALL.value (Xe a.p b.p) rfl rfl ?_|refine CALL.value (Xe a.o b.o) rfl rfl ?_|refine IW ?_ ?_<;>intro h<;>try omega)<;>conv=>whnf
 all_goals
  refine wh.value h0 rfl (ze (SV.int _) ?_);rw[<-LG];simp only[pL]
  (repeat' split)<;>simp_all
abbrev Xs(l:List Qd):Prop:=l.length*224<=140737488351232
end Go.Proofs.YtlcbipfmodcedaaGreatDoor
namespace Go.Proofs.YtlcbipfmodcedaaGreatDoor
open Go.Sx Go.Our Go.Lib
open _root_.Go.Proofs.Tryz
def F6:wP:=(Zr [(0,1),(1,1),(2,1),(3,1),(5,1),(6,1),(7,1),(8,1),(10,1),(11,1),(12,1),(13,1),(15,1),(16,1),(17,1),(18,1),(4,2),(9,2),(14,2),(19,2),(20,1),(21,3),(22,0)])
def F7:wP:=(Zr [(0,1),(1,1),(2,1),(3,1),(7,1),(8,1),(9,1),(13,1),(14,1),(15,1),(4,2),(5,1),(6,1),(10,2),(11,1),(12,1),(16,2),(17,1),(18,1),(19,1),(20,1)])
def F8(t:Tm):Prop:=t.t.length<=140737488351232/\t.y.length<=140737488351232/\t.l.length<=140737488351232
def F9(q:Qd):Prop:=F8 q.s/\F8 q.p/\F8 q.o/\F8 q.g
def wF(q:Qd)(k:Nat):Nat:=(([q.s,q.p,q.o,q.g].take k).map wT).sum
theorem EA{q:Qd}{j:Nat}{t:Tm}(h:[q.s,q.p,q.o,q.g][j]?=some t):wF q (j+1)=wF q j+(20+(t.t.length+t.y.length+t.l.length)):=by
 have hj:=(zf.1 h).1;unfold wF;rw[zH hj,yj,uk,(zf.1 h).2];simp[wT]
theorem RY{q:Qd}(h:F9 q)(j:Nat)(hj:j<=4):wF q j<=4*422212465053716:=by
 have a:∀t,F8 t->wT t<=422212465053716:=fun t ht=>by
  obtain⟨h1,h2,h3⟩:=ht;unfold wT;omega
 obtain⟨h1,h2,h3,h4⟩:=h;have h1:=a _ h1;have h2:=a _ h2;have h3:=a _ h3;have h4:=a _ h4;unfold wF;obtain rfl|rfl|rfl|rfl|rfl:j=0\/j=1\/j=2\/j=3\/j=4:=by omega
 all_goals simp
 all_goals omega
theorem RZ(q:Qd):wF q 4=wQ q:=by
 unfold wF wQ;simp;omega
theorem S0{l:List Qd}{i:Nat}(h:i<l.length):wL (l.take (i+1))=wL (l.take i)+wQ l[i]:=by
 unfold wL;rw[zH h,yj,uk];simp
theorem Zdm(l:List Qd)(hl:Xs l)(hw:∀q∈l,F9 q):uX prog wD 23 1 [.sl (.loc 0) 0 16 l.length none] [] [(0, .rows 16 (l.map Z4))] (fun r O nx=> ∃b,(b=false->wL l<=67108864)/\r= .bool b/\O=[]/\nx=1):=by
 unfold Xs at hl;have hz:wL (l.take 0)=0:=by simp[wL]
 have rA:wL []=0:=rfl;refine uX.enter Z0 call23 func23 rfl 64 rfl rfl [.tmp 2] rfl ?_;intro w0 F η0 h0;conv=>whnf
 skip
 refine wj.jD Z0 [0] [] (X:=Nat) (fun i=>i<=l.length/\(0<i->wL (l.take (i-1))<=67108864)) (fun i=>[(4, .int .i64 (i:Int)),(3, .int .i64 (wL (l.take i):Int))]) (fun i=>[]) 1 (fun i=>l.length-i) 0 ⟨by omega,fun h=>by omega⟩ ?_;conv=>whnf
 refine⟨by exact w5.kA h0 [],?_⟩;rintro i ⟨hi,hb⟩
 have hn:wL (l.take i)<=67108864+4*422212465053716:=by
  cases i with
  |zero=>simp[wL]
  |succ i=>
   have h1:=hb (by omega);have h2:=RY (hw _ (zm (show i<l.length by omega))) 4 (by omega);rw[RZ]at h2;rw[S0 (by omega)];simp at h1;omega
 conv=>whnf
 by_cases hil:i<l.length
 .have hg:∀{m:Nat},m=i->(l.map Z4)[m]?=some (Z4 l[i]):=fun{m} e=>by rw[e,z6,z1 hil];rfl
  have hq:=hw _ (zm hil);have hnext:=S0 hil;generalize l[i]=q at hg hq hnext;have hF:=RY hq;rw[<-RZ]at hnext;repeat'(first|(show wO _ _ _ _ _ _ _;first|refine Z3 5 F6 ?_|refine Z3 9 F7 ?_)|refine qJ.mk (fun _ _=>?_)|refine GET.at (hg (by omega)) ?_|refine AU ?_|refine IW ?_ ?_<;>intro h<;>try omega)<;>conv=>whnf
  .have cQ:wL (l.take i)<=67108864:=by omega
   refine wj.jD Z0 [0,4,5] [] (X:=Nat) (fun k=>k<=4) (fun k=>[(6, .int .i64 (k:Int)),(3, .int .i64 ((wL (l.take i)+wF q k:Nat):Int))]) (fun k=>[(1, .rows 4 [ZD q.s,ZD q.p,ZD q.o,ZD q.g])]) 2 (fun k=>4-k) 0 (by omega) ?_;conv=>whnf
   have hf0:wF q 0=0:=by simp[wF]
   refine⟨by exact w5.kA h0 [1],?_⟩;intro k hk;have Ga:=hF k hk;obtain⟨⟨a1,a2,a3⟩,⟨b1,b2,b3⟩,⟨c1,c2,c3⟩,⟨d1,d2,d3⟩⟩:=hq;obtain rfl|rfl|rfl|rfl|rfl:k=0\/k=1\/k=2\/k=3\/k=4:=by omega
   .have qq:=EA (q:=q) (j:=0) (t:=q.s) rfl;conv=>whnf
    repeat'(first|(show wO _ _ _ _ _ _ _;first|refine Z3 5 F6 ?_|refine Z3 9 F7 ?_)|refine AU ?_|refine IW ?_ ?_<;>intro h<;>try omega)<;>conv=>whnf
    refine⟨1,by omega,by omega,?_⟩;rw[qq];conv=>whnf
    exact w5.kA h0 [1]
   .have qq:=EA (q:=q) (j:=1) (t:=q.p) rfl;conv=>whnf
    repeat'(first|(show wO _ _ _ _ _ _ _;first|refine Z3 5 F6 ?_|refine Z3 9 F7 ?_)|refine AU ?_|refine IW ?_ ?_<;>intro h<;>try omega)<;>conv=>whnf
    refine⟨2,by omega,by omega,?_⟩;rw[qq];conv=>whnf
    exact w5.kA h0 [1]
   .have qq:=EA (q:=q) (j:=2) (t:=q.o) rfl;conv=>whnf
    repeat'(first|(show wO _ _ _ _ _ _ _;first|refine Z3 5 F6 ?_|refine Z3 9 F7 ?_)|refine AU ?_|refine IW ?_ ?_<;>intro h<;>try omega)<;>conv=>whnf
    refine⟨3,by omega,by omega,?_⟩;rw[qq];conv=>whnf
    exact w5.kA h0 [1]
   .have qq:=EA (q:=q) (j:=3) (t:=q.g) rfl;conv=>whnf
    repeat'(first|(show wO _ _ _ _ _ _ _;first|refine Z3 5 F6 ?_|refine Z3 9 F7 ?_)|refine AU ?_|refine IW ?_ ?_<;>intro h<;>try omega)<;>conv=>whnf
    refine⟨4,by omega,by omega,?_⟩;rw[qq];conv=>whnf
    exact w5.kA h0 [1]
   conv=>whnf
   repeat'(first|refine IW ?_ ?_<;>intro h<;>try omega)<;>conv=>whnf
   refine⟨i+1,⟨by omega,fun _=>by simpa using cQ⟩,by omega,?_⟩;rw[hnext];conv=>whnf
   exact w5.kA h0 []
  .refine wh.val h0 rfl ⟨_,fun e=>?_,rfl,rfl,rfl⟩;have:=of_decide_eq_false e;have:=h (by omega);omega
 have hie:i=l.length:=by omega
 subst hie;repeat'(first|refine IW ?_ ?_<;>intro h<;>try omega)<;>conv=>whnf
 refine wh.val h0 rfl ⟨_,fun e=>?_,rfl,rfl,rfl⟩;have:=of_decide_eq_false e;rw[zX]at this;omega
end Go.Proofs.YtlcbipfmodcedaaGreatDoor
namespace Go.Proofs.YtlcbipfmodcedaaGreatDoor
open Go.RowKit Go.Our Go.ChangeShapes Go.WideShapes Go.ChangeAt Go.Sx
open _root_.Go.Proofs.Tryz
theorem S1{W:World}{g n:Nat}{xs:List Int}(hn:0<n)(hc:∀i,i<n->W.cell? ⟨g,i,none⟩=some (.int .u32 (xs.getD i 0))):∃c T fz,W.heap[g]?=some (.cells c T fz)/\∀i,i<n->c[i]?=some (.int .u32 (xs.getD i 0)):=by
 have h0:=hc 0 hn;unfold World.cell? at h0;split at h0
 case h_2=>cases h0
 rename_i c T fz hh;refine⟨c,T,fz,hh,fun i hi=>?_⟩;have:=hc i hi;unfold World.cell? at this;simp only at this hh;rw[hh]at this;simpa using this
set_option maxRecDepth 100000 in
theorem Zhu{W:World}{l:List (String×DataW Unit)}{g:Nat}{hp:Hp}(Qo:(l.filter fun x=>x.2.handleName?.isNone).filter (fun x=>x.1== "tessera/sums.start")=[("tessera/sums.start",Lib.tabData .u32 CY)])(Qp:(l.filter fun x=>x.2.handleName?.isNone).filter (fun x=>x.1== "tessera/sums.rounds")=[("tessera/sums.rounds",Lib.tabData .u32 gb)])(h:laidMetH prog l W)(hg:wu g [(0,Hp.box MY),(1,Hp.rows 1 Uf)]=some hp):uZ [] W false (.qf g) hp/\g<W.heap.size:=by
 have h1:=laidMet.filter (fun x=>x.1== "tessera/sums.start") (laidMetH_iff.1 h).1
 have h2:=laidMet.filter (fun x=>x.1== "tessera/sums.rounds") (laidMetH_iff.1 h).1
 rw[Qo]at h1;rw[Qp]at h2
 have rB:Lib.TabIs prog W "tessera/sums.start" .u32 CY:=
  Lib.tabIs_of_head (rest:=[]) (g:=0) (by kernel_rfl) (by kernel_rfl) underlying158 underlying157 (by kernel_rfl) (by kernel_rfl) h1
 have nA:Lib.TabIs prog W "tessera/sums.rounds" .u32 gb:=
  Lib.tabIs_of_head (rest:=[]) (g:=1) (by kernel_rfl) (by kernel_rfl) underlying194 underlying157 (by kernel_rfl) (by kernel_rfl) h2
 obtain⟨c1,T1,f1,S2,hc1⟩:=S1 (n:=8) (by omega) (fun i hi=>rB.cell (by kernel_rfl) i hi);obtain⟨c2,T2,f2,S3,mq⟩:=S1 (n:=64) (by omega) (fun i hi=>nA.cell (by kernel_rfl) i hi);rw[Za]at hg;split at hg
 .rename_i eg;subst eg;injection hg with hg;subst hg;refine⟨?_,(zz.1 S2).1⟩;simp only[uZ];refine⟨⟨0,0,0⟩,c1,T1,f1,rfl,S2,fun h=>(by cases h),fun j sv hj=>?_⟩;have S4:j<8:=(zf.1 hj).1;refine⟨_,by rw[zy];exact hc1 j S4,rfl,?_⟩
  match j,S4 with
  |0,_|1,_|2,_|3,_|4,_|5,_|6,_|7,_=>injection hj with hj;subst hj;simp only[Den];rfl
 .rw[Za]at hg;split at hg
  case isFalse=>simp[wu]at hg
  rename_i eg;subst eg;injection hg with hg;subst hg;refine⟨?_,(zz.1 S3).1⟩;simp only[uZ];refine .inr ⟨⟨1,0,0⟩,c2,T2,f2,rfl,S3,fun h=>(by cases h),fun i row hr=>?_⟩;unfold Uf at hr;rw[z6]at hr;obtain⟨x,hx,rfl⟩:=zB.1 hr;have hi:i<64:=(zf.1 hx).1;refine⟨rfl,fun j sv hj=>?_⟩;cases j with
  |succ j=>simp at hj
  |zero=>
   simp only[List.getElem?_cons_zero,zj]at hj;subst hj;refine⟨_,by simp only[zy,xC,Nat.add_zero];exact mq i hi,rfl,?_⟩;simp only[Den,List.getD,hx,Option.getD_some]
theorem ZjL{H:Type}{l:List Qd}{d:DataW H}(hd:(l=[]/\d= .nil)\/∃z:List Qd,d= .slice (l.map pK) (z.map pK))(h:(d.weights prog 22).all (fun n=>decide (n<=reachBytes))=true):∀q∈l,F9 q:=by
 rcases hd with⟨rfl,rfl⟩|⟨z,rfl⟩
 simp
 .simp only[DataW.weights,underlying22,LI,zA,List.all_cons,xT,zk,yc]at h;obtain⟨h1,h2,_⟩:=h
  have hall:∀(l:List Qd),(DataW.weightsAll prog 67 (l.map (pK (H:=H)))).all (fun n=>decide (n<=reachBytes))=true->∀q∈l,F9 q:=by
   intro l
   induction l with
   |nil=>intro _ q hq;cases hq
   |cons a l ih=>
    intro h q hq;simp only[zI,DataW.weightsAll,xT,zk]at h;rcases zK.1 hq with rfl|hq
    exact Le (H:=H) h.1;exact ih h.2 q hq
  exact hall l h2
theorem Zlu{W:World}{l:List (String×DataW Unit)}(hl:(l.filter fun x=>x.2.handleName?.isNone).filter (fun x=>x.1== "tessera/names.basesTable")=[("tessera/names.basesTable",Lib.tabData .i32 qS)])(ga:(l.filter fun x=>x.2.handleName?.isNone).filter (fun x=>x.1== "internal/strconv.uint64pow10")=[("internal/strconv.uint64pow10",Lib.tabData .u64 ja)])(Qo:(l.filter fun x=>x.2.handleName?.isNone).filter (fun x=>x.1== "tessera/sums.start")=[("tessera/sums.start",Lib.tabData .u32 CY)])(Qp:(l.filter fun x=>x.2.handleName?.isNone).filter (fun x=>x.1== "tessera/sums.rounds")=[("tessera/sums.rounds",Lib.tabData .u32 gb)])(h:laidMetH prog l W):B0 W:=by
 intro g h' hg;simp only[wD]at hg;rw[Za]at hg;split at hg
 .rename_i eg;subst eg;injection hg with hg;subst hg;have h1:=laidMet.filter (fun x=>x.1== "tessera/names.basesTable") (laidMetH_iff.1 h).1
  rw[hl]at h1
  have hT:Lib.TabIs prog W "tessera/names.basesTable" .i32 qS:=
   Lib.tabIs_of_head (rest:=[]) (g:=6) (by kernel_rfl) (by kernel_rfl) underlying333 underlying21 (by kernel_rfl) (by kernel_rfl) h1
  have hc:∀i,i<24->W.cell? ⟨6,i,none⟩=some (.int .i32 (qS.getD i 0)):=fun i hi=>hT.cell (by kernel_rfl) i hi;have h0:=hc 0 (by omega);unfold World.cell? at h0;split at h0
  case h_2=>cases h0
  rename_i c T fz hh
  have hall:∀i,i<24->c[i]?=some (.int .i32 (qS.getD i 0)):=by
   intro i hi;have:=hc i hi;unfold World.cell? at this;simp only at this hh;rw[hh]at this;simpa using this
  simp only at hh;refine⟨?_,(zz.1 hh).1⟩;simp only[uZ];refine .inr ⟨⟨6,0,0⟩,c,T,fz,rfl,hh,fun h=>(by cases h),fun i row hr=>?_⟩;unfold MX at hr;rw[z6]at hr;obtain⟨x,hx,rfl⟩:=zB.1 hr;have hi:i<24:=(zf.1 hx).1;refine⟨rfl,fun j sv hj=>?_⟩;cases j with
  |succ j=>simp at hj
  |zero=>
   simp only[List.getElem?_cons_zero,zj]at hj;subst hj;refine⟨_,by simp only[zy,xC,Nat.add_zero];exact hall i hi,rfl,?_⟩;simp only[Den,List.getD,hx,Option.getD_some]
 .rw[Za]at hg;split at hg
  rotate_left
  exact Zhu Qo Qp h hg;rename_i eg;subst eg;injection hg with hg;subst hg;have h1:=laidMet.filter (fun x=>x.1== "internal/strconv.uint64pow10") (laidMetH_iff.1 h).1
  rw[ga]at h1
  have rB:Lib.TabIs prog W "internal/strconv.uint64pow10" .u64 ja:=
   Lib.tabIs_of_head (rest:=[]) (g:=2) (by kernel_rfl) (by kernel_rfl) underlying257 underlying162 (by kernel_rfl) (by kernel_rfl) h1
  have A8:prog.globalNamed "internal/strconv.uint64pow10" =some 2:=by kernel_rfl
  unfold Lib.TabIs World.var? at rB;rw[A8]at rB;simp only[Option.bind_some]at rB;split at rB
  case h_2=>cases rB
  rename_i cs T fz hh;injection rB with rB;refine⟨?_,(zz.1 hh).1⟩;simp only[uZ];exact⟨⟨2,0,0⟩,rfl,rfl,T,fz,by rw[hh,rB];rfl⟩
end Go.Proofs.YtlcbipfmodcedaaGreatDoor
set_option maxRecDepth 100000
namespace Go.Proofs.YtlcbipfmodcedaaGreatDoor
open Go.Sx Go.RowKit
open _root_.Go.Proofs.Tryz
abbrev TB:TypeId:=186
abbrev TU:TypeId:=5
theorem ZjM(b:Nat)(w:World)(h0:w.cell? ⟨b,0,none⟩=some (.pointer (some ⟨b,0,none⟩))):
 Calls prog 176 #[.pointer (some ⟨b,0,none⟩)] w fun e w'=>e= .returned (.tuple #[])/\w'=w:=by
 obtain⟨j,hj,_⟩:=zB.1 (show(prog.info? TB).map (·.size)=some 2 by kernel_rfl)
 go_enter func176,ntmps176
 go_wp2
 rw[Lib.run_neq_ptr_same w _ underlying184 hj]
 go_wp2
 go_end0
 exact⟨rfl,rfl⟩
theorem Zhv(b:Nat)(w:World)(h0:w.cell? ⟨b,0,none⟩=some (.pointer none))(hsh:w.shape? b=some (TB,2))(hfz:w.frozen? ⟨b,0,none⟩=false):
 Calls prog 176 #[.pointer (some ⟨b,0,none⟩)] w fun e w'=>e= .returned (.tuple #[])/\w'=w.setCell ⟨b,0,none⟩ (.pointer (some ⟨b,0,none⟩)):=by
 obtain⟨j,hj,hjs⟩:=zB.1 (show(prog.info? TB).map (·.size)=some 2 by kernel_rfl)
 go_enter func176,ntmps176
 go_wp2
 rw[Lib.run_to_unsafe w ⟨b,0,none⟩ underlying184 underlying277 hj (by rw[hjs];decide) hsh (Nat.zero_lt_succ 1)];simp only[Result.andThen];rw[Oper.upon_value]
 go_wp2
 rw[run_callFunc_extern func223 (by kernel_rfl) (by kernel_rfl) (by kernel_rfl) (e:=Extern.AbiNoEscape.same) (by kernel_rfl)];rw[Lib.run_noEscape];simp only[Result.andThen];rw[Oper.upon_value]
 go_wp2
 rw[Lib.run_from_unsafe w ⟨b,0,none⟩ underlying277 underlying184 hj hsh (by kernel_rfl)];simp only[Result.andThen];rw[Oper.upon_value]
 go_wp2
 go_end0
 exact⟨rfl,rfl⟩
structure kT(b:Nat)(w w':World):Prop where
 os:w'.os=w.os
 tape:w'.tape=w.tape
 output:w'.output=w.output
 drawn:w.drawn<=w'.drawn
 size:w.heap.size<=w'.heap.size
 block:∀k,k<w.heap.size->k≠b->¬wZ w b (.jJ TB TU []) k->w'.heap[k]?=w.heap[k]?
 kids:∀k,wZ w' b (.jJ TB TU []) k->wZ w b (.jJ TB TU []) k\/w.heap.size<=k
theorem Zlv(b:Nat)(bs:List Value)(w:World)(h:Lib.IsBuilderF TB TU 0 b bs w):
 Calls prog 176 #[.pointer (some ⟨b,0,none⟩)] w fun e w'=>e= .returned (.tuple #[])/\Lib.BuilderAtF TB TU 0 b (.pointer (some ⟨b,0,none⟩)) bs w'/\(w'=w\/w'=w.setCell ⟨b,0,none⟩ (.pointer (some ⟨b,0,none⟩))):=by
 rcases h with h|h
 .refine(Zhv b w h.cell0 h.shape h.frozen0).mono ?_;rintro e w' ⟨rfl,rfl⟩;exact⟨rfl,h.used _, .inr rfl⟩
 .refine(ZjM b w h.cell0).mono ?_;rintro e w' ⟨rfl,rfl⟩;exact⟨rfl,h, .inl rfl⟩
section
variable {P:Program}
theorem Zdn(w:World)(t u ty e:TypeId)(i:TypeInfo)(ht:P.underlying t=some (.slice e))(hu:P.underlying u=some .string)(hi:P.info? e=some i)(hz:i.zero=some (.int .u8 0))(hsize:i.size=1)(hby:i.bytes=1)
 (v:Value) (n:Nat) (xs:List Value) (hown:w.ownsRowF 0 e 1 v n xs) (s:ByteArray) (h63:n+s.size<=140737488355328):
 ∃v' w',(Builtin.append_ #[t,u] ty #[v, .string s]).run P w= .ok v' w'/\w'.ownsRowF 0 e 1 v' (n+s.size) (xs++Lib.strCells s)/\w.grownBy w' v.ownBlock/\w.drawn<=w'.drawn/\∀k,v'.ownBlock=some k->v.ownBlock=some k\/w.heap.size<=k:=by
 have hm:n+s.size<=maxLen:=by unfold maxLen;omega
 obtain⟨v',w',hr,h1,h2,_⟩:=Lib.run_append_own_stringF (P:=P) w 0 t u ty e i ht hu hi hz hsize hby v n xs hown s hm h63 (xO _);refine⟨v',w',hr,h1,h2,?_⟩;rcases hown.2 with⟨rfl,rfl⟩|⟨g,cap,cur,fz,rfl,S5,hg,hfz,hnc,Ko,hcs,Fa⟩
 .by_cases hs:s.size=0
  .have hf:=Lib.run_firstCells_string (P:=P) w 1 s;rw[hs]at hf
   have:(Builtin.append_ #[t,u] ty #[.slice none 0 0, .string s]).run P w= .ok (.slice none 0 0) w:=by
    simp[Builtin.append_,run_underlying ht,run_underlying hu,sizeOf,typeInfo,hi,hsize,Builtin.lenOf,hs,hf]
   rw[this]at hr;injection hr with hv hr;rw[<-hr,<-hv];exact⟨zo _,fun k hk=> .inl hk⟩
  .rw[run_append_nil_string (P:=P) w t u ty e i (.int .u8 0) ht hu hi hz s (by omega) (by omega) (by rw[hby];omega)]at hr;injection hr with hv hr;rw[<-hr,<-hv];refine⟨xN _,fun k hk=> .inr ?_⟩;simp only[Value.ownBlock,zj]at hk;omega
 .by_cases hroom:n+s.size<=cap
  .rw[Lib.run_append_room_stringF (P:=P) w t u ty e i ht hu hi hsize g n cap cur fz hg (by simpa using hfz) s hroom (by omega)]at hr;injection hr with hv hr;rw[<-hr,<-hv];exact⟨zo _,fun k hk=> .inl hk⟩
  .have hxl:xs.length=n:=by simpa using hown.1
   have holds:∀j u,xs[j]?=some u->w.cell? ((⟨g,0,none⟩:Addr).add j)=some u:=hown.cells (g:=g) rfl;rw[Lib.run_append_grow_string (P:=P) w t u ty e i (.int .u8 0) ht hu hi hz ⟨g,0,none⟩ n cap xs (by rw[hsize];simpa using hxl) holds s (by omega) (by omega) (by rw[hby];exact growslice_fits (by omega) (by omega))]at hr;injection hr with hv hr;rw[<-hr,<-hv];refine⟨xN _,fun k hk=> .inr ?_⟩;simp only[Value.ownBlock,zj]at hk;omega
theorem Z28{ops:Array Oper}{rest:List Oper}{o:Oper}{a:Act}{w:World}{Q:Exit->Act->World->Prop}(hgd:o.guard=none)(sl x:Operand)(t u:TypeId)
 (ho:o.op= .call {callee:= .builtin .append,args:= #[sl,x],argTypes:= #[t,u]})
 (e:TypeId) (i:TypeInfo) (ht:P.underlying t=some (.slice e)) (hu:P.underlying u=some .string) (hi:P.info? e=some i) (hz:i.zero=some (.int .u8 0)) (hsize:i.size=1) (hby:i.bytes=1)
 (v:Value) (n:Nat) (xs:List Value) (hs:a.eval sl=v) (hown:w.ownsRowF 0 e 1 v n xs) (s:ByteArray) (hx:a.eval x= .string s) (h63:n+s.size<=140737488355328)
 (h:∀v' w',w'.ownsRowF 0 e 1 v' (n+s.size) (xs++Lib.strCells s)->w.grownBy w' v.ownBlock->w.drawn<=w'.drawn->(∀k,v'.ownBlock=some k->v.ownBlock=some k\/w.heap.size<=k)->wpList P ops Q rest (a.put o.dst v') w'):wpList P ops Q (o::rest) a w:=by
 refine wpList_plain hgd fun K hK=>?_;obtain⟨v',w',hr,h2,h3,h4,h5⟩:=Zdn (P:=P) w t u o.type e i ht hu hi hz hsize hby v n xs hown s h63;unfold Oper.wp execOp;simp only[ho,resolve,invoke,builtin,Sem.run_bind,Sem.run_pure,Result.andThen_ok,List.map_toArray,zI,yH,hs,hx,hr];exact hK _ _ (h v' w' h2 h3 h4 h5)
end
set_option maxHeartbeats 1000000 in
theorem Zlw(b:Nat)(bs:List Value)(s:ByteArray)(w:World)(h:Lib.IsBuilderF TB TU 0 b bs w)(hlen:bs.length+s.size<=140737488355328):
 Calls prog 127 #[.pointer (some ⟨b,0,none⟩), .string s] w fun e w'=>e= .returned (.tuple #[.int .i64 s.size, .nilIface])/\Lib.BuilderAtF TB TU 0 b (.pointer (some ⟨b,0,none⟩)) (bs++Lib.strCells s) w'/\kT b w w':=by
 obtain⟨i0,hi,hz0,rA,Fb⟩:=info_parts (show(prog.info? TU).map (fun i=>(i.zero,i.size,i.bytes))=some (some (.int .u8 0),1,1)by kernel_rfl)
 go_enter func127,ntmps127
 go_wp2_with (go_at_call 176;refine(Zlv b bs _ h).mono ?_)
 rintro e w1 ⟨rfl,h1,hw1⟩;obtain⟨hB,v,hbk,hown,hne⟩:=h1;have c0:w1.cell? ⟨b,0,none⟩=some (.pointer (some ⟨b,0,none⟩)):=by rw[Lib.cell_of_heap hbk];rfl
 have c1:w1.cell? ⟨b,1,none⟩=some v:=by rw[Lib.cell_of_heap hbk];rfl
 go_wp2_with (at_builtin;refine Z28 rfl _ _ 52 9 rfl TU i0 underlying52 underlying9 hi hz0 rA Fb _ _ _ rfl hown s rfl ?c3 ?_)
 case c3=>exact hlen
 intro v' w2 hown' hgrow eR hnew;have hlt:b<w1.heap.size:=(zz.1 hbk).1
 have cQ:w2.heap[b]?=some (.cells #[.pointer (some ⟨b,0,none⟩),v] TB (0,0)):=by
  rw[hgrow.block b hlt (fun e=>hne e.symm)];exact hbk
 have d0:w2.cell? ⟨b,0,none⟩=some (.pointer (some ⟨b,0,none⟩)):=by rw[Lib.cell_of_heap cQ];rfl
 have d1:w2.cell? ⟨b,1,none⟩=some v:=by rw[Lib.cell_of_heap cQ];rfl
 have f1:w2.frozen? ⟨b,1,none⟩=false:=Lib.frozen_of_heap cQ 1
 obtain⟨ao,n',cap,rfl⟩:∃ao n' cap,v'= .slice ao n' cap:=by
  rcases hown'.2 with⟨hv,_⟩|⟨g,cap,cur,fz,hv,_⟩
  exact⟨_,_,_,hv⟩;exact⟨_,_,_,hv⟩
 have other:∀k,k≠b->w1.heap[k]?=w.heap[k]?:=by
  intro k hk;rcases hw1 with rfl|rfl
  rfl
  exact Below.heap_setCell _ _ _ _ (fun e=>hk (by simp[e]))
 have z6i:w1.heap.size=w.heap.size:=by rcases hw1 with rfl|rfl<;>simp[World.setCell]
 have kg:∀k,v.ownBlock=some k->wZ w b (.jJ TB TU []) k:=by
  intro k hk;simp only[wZ];rcases hw1 with rfl|rfl
  exact⟨_,_,_,v,hbk,rfl,hk⟩
  .simp only[World.setCell,y7,zh,zB]at hbk;obtain⟨o,ho,A9⟩:=hbk;cases o with
   |cells arr T fz=>
    simp only[Obj.cells.injEq]at A9;obtain⟨h1,h2,h3⟩:=A9;refine⟨arr,T,fz,v,ho,?_,hk⟩;have:=ze (fun a=>a[1]?) h1;simpa using this
   |_=>cases A9
 go_wp2
 go_ret2
 refine⟨rfl,?_,?_⟩;exact Lib.BuilderAtF.put (T:=TB) (e:=TU) hB cQ (bs':=bs++Lib.strCells s) (by simpa[Lib.strCells_length]using hown') (by decide)
 .have sx:w1.os=w.os/\w1.tape=w.tape/\w1.output=w.output/\w1.drawn=w.drawn:=by rcases hw1 with rfl|rfl<;>exact⟨rfl,rfl,rfl,rfl⟩
  refine⟨hgrow.os.trans sx.1,hgrow.tape.trans sx.2.1,hgrow.output.trans sx.2.2.1,by have h1:=sx.2.2.2;show w.drawn<=w2.drawn;omega,?_,fun k hk hkb hkk=>?_,fun k hk=>?_⟩
  .have:=hgrow.size;simp only[World.setCell,xX];omega
  .have e1:(w2.setCell ⟨b,1,none⟩ (.slice ao n' cap)).heap[k]?=w2.heap[k]?:=Below.heap_setCell _ _ _ _ (fun e=>hkb (by simp[e]));rw[e1,hgrow.block k (by omega) (fun e=>hkk (kg k e.symm)),other k hkb]
  .have hA:=Lib.BuilderAtF.put (T:=TB) (e:=TU) hB cQ (bs':=bs++Lib.strCells s) (v':= .slice ao n' cap) (by simpa[Lib.strCells_length]using hown') (by decide)
   have e2:(w2.setCell ⟨b,1,none⟩ (.slice ao n' cap)).heap[b]?=some (.cells #[.pointer (some ⟨b,0,none⟩), .slice ao n' cap] TB (0,0)):=by
    simp[World.setCell,y7,cQ]
   simp only[wZ]at hk;obtain⟨arr,T,fz,u,k1,k2,k3⟩:=hk;rw[e2]at k1;injection k1 with k1;injection k1 with k1;subst k1;simp at k2;subst k2;rcases hnew k k3 with h1|h1
   exact .inl (kg k h1);exact .inr (by omega)
theorem S6{f:FuncId}{rest:List SV}{l l':List UInt8}{r:SV}(gP:∀args w,(callFunc f args).run prog w= .ok (.enter f args) w)
 (h:∀(J:Env) (b:Nat) (vs:List Value) (w:World),w6 J rest vs->Lib.IsBuilderF TB TU 0 b (Lib.byteCells l) w->
   Calls prog f ⟨.pointer (some ⟨b,0,none⟩)::vs⟩ w fun e w'=> ∃v,e= .returned v/\Den J r v/\Lib.IsBuilderF TB TU 0 b (Lib.byteCells l') w'/\kT b w w'):
 uX prog wD f 1 (.ptr (.loc 0) 0 0 0::rest) [(0, .jJ TB TU l)] [] fun r' O nx=>r'=r/\O=[(0, .jJ TB TU l')]/\nx=1:=by
 refine⟨fun M vs hP hT hF hS H hd=> .inl ⟨f,by rw[hP];exact gP _ _,?_⟩⟩;obtain⟨wA,tJ⟩:=H.own.1 0 _ rfl;simp only[uZ]at wA;obtain⟨e,he,hb,hB⟩:=wA;simp only[w6]at hd;obtain⟨u,us,rfl,hu,Cn⟩:=hd;simp only[Den]at hu;obtain⟨e',he',rfl⟩:=hu;rw[he]at he';injection he' with he';injection he' with he';subst he'
 rw[hP,hb];refine(h M.η0 e.g us M.w0 Cn hB).mono fun en w'=>?_;rintro⟨v,rfl,hv,hB',hst⟩;refine⟨v,rfl,r,_,1,M.η0,⟨rfl,rfl,rfl⟩,zw,⟨zw,H.len,⟨?_,?_⟩,⟨hst.os,hst.tape,hst.output,hst.drawn,hst.size,?_⟩,H.qN⟩,hv⟩
 .intro i g hi;rw[Za]at hi;split at hi
  .rename_i ei;subst ei;injection hi with hi;subst hi
   refine⟨⟨e,he,hb,hB'⟩,fun k f=>?_⟩;rcases f.of he with rfl|f
   exact tJ _ (wq.own he)
   .rcases hst.kids k f with f|f
    exact tJ k ⟨e,he, .inr f⟩;exact .inr f
  simp[wu]at hi
 .intro i j g g' k hi hj hij;rw[Za]at hi hj;split at hi
  .split at hj
   rename_i e1 e2;exact(hij (e1.trans e2.symm)).elim;simp[wu]at hj
  simp[wu]at hi
 .intro k hk Ga;refine hst.block k hk (fun hkb=>Ga ?_) fun f=>Ga ?_;rw[hF];exact⟨0,_,rfl,hkb▸wq.own he⟩;rw[hF];exact⟨0,_,rfl,e,he, .inr f⟩
theorem UU(l s:List UInt8)(hlen:l.length+s.length<=140737488355328):
 uX prog wD 127 1 [.ptr (.loc 0) 0 0 0, .str s] [(0, .jJ TB TU l)] [] fun r O nx=>r= .wM [.int .i64 s.length, .val .nilIface]/\O=[(0, .jJ TB TU (l++s))]/\nx=1:=by
 refine S6 call127 fun J b vs w hd hB=>?_;simp only[w6,Den]at hd;obtain⟨u,us,rfl,rfl,rfl⟩:=hd;refine(Zlw b _ ⟨s.toArray⟩ w hB (by rw[Lib.byteCells_length];exact hlen)).mono fun e w'=>?_;rintro⟨rfl,h1,h2⟩;refine⟨_,rfl,?_, .inr ?_,h2⟩
 .simp only[Den,w6];exact⟨_,rfl,_,_,rfl,rfl,_,_,rfl,⟨rfl,rfl⟩,rfl⟩
 .have:Lib.byteCells (l++s)=Lib.byteCells l++Lib.strCells ⟨s.toArray⟩:=by simp[Lib.byteCells,Lib.strCells]
  rw[this];exact h1
end Go.Proofs.YtlcbipfmodcedaaGreatDoor
namespace Go.Proofs.YtlcbipfmodcedaaGreatDoor
open Go.Sx Go.RowKit
open _root_.Go.Proofs.Tryz
theorem kT.of{b:Nat}{w w':World}(os:w'.os=w.os)(tape:w'.tape=w.tape)(output:w'.output=w.output)(drawn:w.drawn<=w'.drawn)(size:w.heap.size<=w'.heap.size)(hb:w'.heap[b]?=w.heap[b]?)
 (block:∀k,k<w.heap.size->k≠b->¬wZ w b (.jJ TB TU []) k->w'.heap[k]?=w.heap[k]?):kT b w w':=⟨os,tape,output,drawn,size,block,fun k f=> .inl (f.keep hb)⟩
theorem S7(b:Nat)(w:World):kT b w w.drew:= .of rfl rfl rfl (xN _) (zo _) rfl fun _ _ _ _=>rfl
set_option maxHeartbeats 2000000 in
theorem ZjN(b:Nat)(l:List UInt8)(w:World)(h:Lib.IsBuilderF TB TU 0 b (Lib.byteCells l) w)(h0:l≠ []):
 Calls prog 128 #[.pointer (some ⟨b,0,none⟩)] w fun e w'=>e= .returned (.string ⟨l.toArray⟩)/\Lib.IsBuilderF TB TU 0 b (Lib.byteCells l) w'/\kT b w w':=by
 obtain⟨p,hp,hB,v,hbk,hown,hne⟩:∃p,(p= .pointer none\/p= .pointer (some ⟨b,0,none⟩))/\Lib.BuilderAtF TB TU 0 b p (Lib.byteCells l) w:=by
  rcases h with h|h
  exact⟨_, .inl rfl,h⟩;exact⟨_, .inr rfl,h⟩
 have hl0:l.length≠0:=by simpa using h0
 have hA:Lib.BuilderAtF TB TU 0 b p (Lib.byteCells l) w:=⟨hB,v,hbk,hown,hne⟩;rw[Lib.byteCells_length]at hown;rcases hown.2 with⟨_,hz⟩|⟨g,cap,cur,fz,rfl,S5,hg,hfz,hnc,Ko,hcs,Fa⟩
 exact absurd hz hl0
 have c1:w.drew.cell? ⟨b,1,none⟩=some (.slice (some ⟨g,0,none⟩) l.length cap):=by
  have:w.drew.heap[b]?=some (.cells #[p, .slice (some ⟨g,0,none⟩) l.length cap] TB (0,0)):=hbk;rw[Lib.cell_of_heap this];rfl
 have Aa:(Builtin.unsafeSliceData_ #[52] 235 #[.slice (some ⟨g,0,none⟩) l.length cap]).run prog w.drew= .ok (.pointer (some ⟨g,0,none⟩)) w.drew:=
  Lib.run_unsafeSliceData_row _ _ _ _ _ _ (by omega)
 have Ab:(Builtin.unsafeString_ #[235,3] 9 #[.pointer (some ⟨g,0,none⟩), .int .i64 l.length]).run prog w.drew= .ok (.string ⟨l.toArray⟩) (w.drew.freeze ⟨g,0,none⟩ l.length):=by
  refine Lib.run_unsafeString_row w.drew 235 3 9 TU underlying235 (by kernel_rfl) g cur.size (by have hg':w.drew.heap[g]?=some (.cells cur TU fz):=hg;simp[World.shape?,hg']) l h0 (by omega) (by unfold maxLen at Ko;omega) ?_;intro j x hx;exact hown.cells (g:=g) rfl j (.int .u8 x.toNat) (by simp[Lib.byteCells,hx])
 have hF:=(hA.drew).froze (g:=g) (cap:=cap) (by rw[Lib.byteCells_length];exact c1);rw[Lib.byteCells_length]at hF
 have hkeep:Lib.IsBuilderF TB TU 0 b (Lib.byteCells l) (w.drew.freeze ⟨g,0,none⟩ l.length):=by
  rcases hp with rfl|rfl
  exact .inl hF;exact .inr hF
 have CA:g≠b:=fun e=>hne (by simp[Value.ownBlock,e]);obtain⟨fn,hfr⟩:∃fn,w.drew.freeze ⟨g,0,none⟩ l.length={w.drew with heap:=w.drew.heap.modify g fn}:=⟨_,by unfold World.freeze;rw[z7 hl0]⟩
 have Qq:∀k,k≠g->(w.drew.freeze ⟨g,0,none⟩ l.length).heap[k]?=w.heap[k]?:=by
  intro k hk;rw[hfr];show(w.heap.modify g fn)[k]?=w.heap[k]?
  rw[y7,z7 (yX hk)]
 have hst:kT b w (w.drew.freeze ⟨g,0,none⟩ l.length):=by
  refine .of (by rw[hfr];rfl) (by rw[hfr];rfl) (by rw[hfr];rfl) (by rw[hfr];exact xN _) ?_ (Qq b (yX CA)) fun k hk hkb hkk=>Qq k fun e=>hkk ?_
  .rw[hfr];show w.heap.size<=(w.heap.modify g fn).size
   rw[xX];exact zo _
  .subst e;simp only[wZ];exact⟨_,_,_,_,hbk,rfl,rfl⟩
 clear hA hF hp hne hB hfr Qq;have mixed:prog.follows .mixedOrders=true:=by kernel_rfl
 go_enter func128,ntmps128
 go_wp2
 go_region_o
 all_goals (go_wp2;go_ret;exact⟨rfl,hkeep,hst⟩)
theorem Ac(W:World)(q:Option Addr):(Builtin.unsafeString_ #[235,3] 9 #[.pointer q, .int .i64 0]).run prog W= .ok (.string .empty) W:=Lib.run_unsafeString_none W _ _ _ q
set_option maxHeartbeats 2000000 in
theorem Zlx(b:Nat)(p:Value)(w:World)(hbk:w.heap[b]?=some (.cells #[p, .slice none 0 0] TB (0,0)))(hA:Lib.BuilderAtF TB TU 0 b p [] w):
 Calls prog 128 #[.pointer (some ⟨b,0,none⟩)] w fun e w'=>e= .returned (.string ⟨#[]⟩)/\Lib.BuilderAtF TB TU 0 b p [] w'/\kT b w w':=by
 have Ab:=Ac
 have c1:w.drew.cell? ⟨b,1,none⟩=some (.slice none 0 0):=by
  have:w.drew.heap[b]?=some (.cells #[p, .slice none 0 0] TB (0,0)):=hbk;rw[Lib.cell_of_heap this];rfl
 have Aa:(Builtin.unsafeSliceData_ #[52] 235 #[.slice none 0 0]).run prog w.drew= .ok (.pointer none) w.drew:=rfl;have Fc:=hA.drew;have hst:=S7 b w;have mixed:prog.follows .mixedOrders=true:=by kernel_rfl
 go_enter func128,ntmps128
 go_wp2
 go_region_o
 all_goals (go_wp2;go_ret;exact⟨rfl,Fc,hst⟩)
set_option maxHeartbeats 2000000 in
theorem ZfB(b g:Nat)(p:Value)(cur:Array Value)(w:World)(hbk:w.heap[b]?=some (.cells #[p, .slice (some ⟨g,0,none⟩) 0 0] TB (0,0)))(fz:Nat×Nat)(hg:w.heap[g]?=some (.cells cur TU fz))(hA:Lib.BuilderAtF TB TU 0 b p [] w):
 Calls prog 128 #[.pointer (some ⟨b,0,none⟩)] w fun e w'=>e= .returned (.string ⟨#[]⟩)/\Lib.BuilderAtF TB TU 0 b p [] w'/\kT b w w':=by
 have Ab:=Ac;have hlt:b<w.heap.size:=(zz.1 hbk).1
 have c1:w.drew.cell? ⟨b,1,none⟩=some (.slice (some ⟨g,0,none⟩) 0 0):=by
  have:w.drew.heap[b]?=some (.cells #[p, .slice (some ⟨g,0,none⟩) 0 0] TB (0,0)):=hbk;rw[Lib.cell_of_heap this];rfl
 have Aa:(Builtin.unsafeSliceData_ #[52] 235 #[.slice (some ⟨g,0,none⟩) 0 0]).run prog w.drew= .ok (.pointer (some ⟨w.drew.heap.size,0,none⟩)) (w.drew.alloc (.view ⟨g,0,none⟩ TU)):=
  Lib.run_unsafeSliceData_zero w.drew _ _ TU underlying235 ⟨g,0,none⟩ 0 (TU,cur.size) (by have hg':w.drew.heap[g]?=some (.cells cur TU fz):=hg;simp[World.shape?,hg'])
 have c2:(w.drew.alloc (.view ⟨g,0,none⟩ TU)).cell? ⟨b,1,none⟩=some (.slice (some ⟨g,0,none⟩) 0 0):=by
  have:(w.drew.alloc (.view ⟨g,0,none⟩ TU)).heap[b]?=_:=(Lib.alloc_old w.drew _ b hlt).trans hbk;rw[Lib.cell_of_heap this];rfl
 have c3:(w.alloc (.view ⟨g,0,none⟩ TU)).drew.cell? ⟨b,1,none⟩=some (.slice (some ⟨g,0,none⟩) 0 0):=c2;have c0:w.cell? ⟨b,1,none⟩=some (.slice (some ⟨g,0,none⟩) 0 0):=c1;have Fc:=hA.drew.alloc (.view ⟨g,0,none⟩ TU);have hst:kT b w (w.drew.alloc (.view ⟨g,0,none⟩ TU)):= .of rfl rfl rfl (xN _) (by simp) (Lib.alloc_old w.drew _ b hlt) fun k hk _ _=>Lib.alloc_old w.drew _ k hk;have mixed:prog.follows .mixedOrders=true:=by kernel_rfl
 go_enter func128,ntmps128
 go_wp2
 go_region_o
 all_goals (go_wp2;go_ret;exact⟨rfl,Fc,hst⟩)
set_option maxHeartbeats 2000000 in
theorem ZjO(b g cap:Nat)(p:Value)(w:World)(hc0:cap≠0)(hbk:w.heap[b]?=some (.cells #[p, .slice (some ⟨g,0,none⟩) 0 cap] TB (0,0)))(hA:Lib.BuilderAtF TB TU 0 b p [] w):
 Calls prog 128 #[.pointer (some ⟨b,0,none⟩)] w fun e w'=>e= .returned (.string ⟨#[]⟩)/\Lib.BuilderAtF TB TU 0 b p [] w'/\kT b w w':=by
 have Ab:=Ac
 have c1:w.drew.cell? ⟨b,1,none⟩=some (.slice (some ⟨g,0,none⟩) 0 cap):=by
  have:w.drew.heap[b]?=some (.cells #[p, .slice (some ⟨g,0,none⟩) 0 cap] TB (0,0)):=hbk;rw[Lib.cell_of_heap this];rfl
 have Aa:(Builtin.unsafeSliceData_ #[52] 235 #[.slice (some ⟨g,0,none⟩) 0 cap]).run prog w.drew= .ok (.pointer (some ⟨g,0,none⟩)) w.drew:=
  Lib.run_unsafeSliceData_row _ _ _ _ _ _ hc0
 clear hc0;have Fc:=hA.drew;have hst:=S7 b w;have mixed:prog.follows .mixedOrders=true:=by kernel_rfl
 go_enter func128,ntmps128
 go_wp2
 go_region_o
 all_goals (go_wp2;go_ret;exact⟨rfl,Fc,hst⟩)
theorem Zly(b:Nat)(l:List UInt8)(w:World)(h:Lib.IsBuilderF TB TU 0 b (Lib.byteCells l) w):
 Calls prog 128 #[.pointer (some ⟨b,0,none⟩)] w fun e w'=>e= .returned (.string ⟨l.toArray⟩)/\Lib.IsBuilderF TB TU 0 b (Lib.byteCells l) w'/\kT b w w':=by
 by_cases h0:l=[]
 .subst h0
  have key:∀p,Lib.BuilderAtF TB TU 0 b p [] w->Calls prog 128 #[.pointer (some ⟨b,0,none⟩)] w fun e w'=>e= .returned (.string ⟨#[]⟩)/\Lib.BuilderAtF TB TU 0 b p [] w'/\kT b w w':=by
   intro p hA;have hA0:=hA;obtain⟨hB,v,hbk,hown,hne⟩:=hA;rcases hown.2 with⟨rfl,_⟩|⟨g,cap,cur,fz,rfl,S5,hg,_⟩
   exact Zlx b p w hbk hA0
   .by_cases hc:cap=0
    subst hc;exact ZfB b g p cur w hbk fz hg hA0;exact ZjO b g cap p w hc hbk hA0
  rcases h with h|h
  exact(key _ h).mono fun e w' ⟨h1,h2,h3⟩=>⟨h1, .inl h2,h3⟩;exact(key _ h).mono fun e w' ⟨h1,h2,h3⟩=>⟨h1, .inr h2,h3⟩
 exact ZjN b l w h h0
theorem S9(l:List UInt8):uX prog wD 128 1 [.ptr (.loc 0) 0 0 0] [(0, .jJ TB TU l)] [] fun r O nx=>r= .str l/\O=[(0, .jJ TB TU l)]/\nx=1:=by
 refine S6 call128 fun η b vs w hd hB=>?_;simp only[w6]at hd;subst hd;refine(Zly b l w hB).mono fun e w'=>?_;rintro⟨rfl,h1,h2⟩;exact⟨_,rfl,by simp only[Den],h1,h2⟩
end Go.Proofs.YtlcbipfmodcedaaGreatDoor
set_option maxRecDepth 20000
namespace Go.Proofs.YtlcbipfmodcedaaGreatDoor
open Go.Sx Go.Our
open _root_.Go.Proofs.Tryz
theorem Zdo(r:Int)(hr:0<=r/\r<=1114111):uX prog wD 271 0 [.int .i32 r] [] [] (WI 0 (kz r)):=by
 refine uX.enter Z0 call271 func271 rfl 57 rfl rfl [.tmp 2] rfl ?_;intro w0 F η0 h0;conv=>whnf
 repeat'(first|refine AU ?_|refine IW ?_ ?_<;>intro h<;>try omega)<;>conv=>whnf
 all_goals
  refine wh.rows h0 0 1 _ rfl rfl rfl rfl ?_;unfold kz Go.Our.encI;simp(disch:=omega) only[↓zh,↓z7,zI,yH,BA,Zmq,Zmr,Zlm,Zmm,Zmn,Zmo,Zmp,Bc];refine⟨rfl,?_,rfl⟩;simp(disch:=omega) only[zI,yH,<-LL]
theorem Zlz{l c:Int}{b:Nat}(B:Nat)(hb:Nat.ble b B=true)(h1:0<=l)(h2:l<=c)(h3:c<=9223372036854775807)(h4:B*c<=281474976710656):0<=l/\l<=c/\c<=9223372036854775807/\(b:Int)*c<=281474976710656:=
 ⟨h1,h2,h3,uJ (vr (by have:=zT hb;omega) (by omega)) h4⟩
theorem Zhw(a:Int):0<=kr .u64 a 15/\kr .u64 a 15< ((kN.length:Nat):Int):=by
 unfold kr
 have h1:(BitVec.ofInt IntKind.u64.bits a&&&BitVec.ofInt IntKind.u64.bits 15).toNat<=15:=by
  rw[BitVec.toNat_and];exact Nat.and_le_right
 rw[IntWalk.u64_in _ ⟨by omega,by omega⟩];exact⟨by omega,by show _< (16:Int);omega⟩
def sy(n i:Int):UInt8:=kN.getD (kr .u64 (je .u64 n i) 15).toNat 0
theorem ZjP{r:Int}(hr:(0<=r/\r<128)/\¬r=39)(h:0<=Lib.indexByte [9,8,10,13,12,34,39,92] (IntKind.u8.wrap r).toNat.toUInt8):
 0<=Lib.indexByte [9,8,10,13,12,34,39,92] (IntKind.u8.wrap r).toNat.toUInt8/\Lib.indexByte [9,8,10,13,12,34,39,92] (IntKind.u8.wrap r).toNat.toUInt8<=IntKind.i64.wrap (Lib.indexByte [9,8,10,13,12,34,39,92] (IntKind.u8.wrap r).toNat.toUInt8+1)/\
 IntKind.i64.wrap (Lib.indexByte [9,8,10,13,12,34,39,92] (IntKind.u8.wrap r).toNat.toUInt8+1)<=((eL.length:Nat):Int):=by
 have h1:=(Rq hr.1 hr.2 h).1;have h1:Lib.indexByte [9,8,10,13,12,34,39,92] (IntKind.u8.wrap r).toNat.toUInt8<8:=h1;rw[Z5 (by omega) (by omega)];exact⟨h,by omega,by show _<=(8:Int);omega⟩
theorem Z95(n:Int)(hn:0<=n/\n<256):uX prog wD 270 0 [.int .u64 (IntKind.u64.wrap n), .int .i64 4] [] [] (qd (.str (dQ n))):=by
 rw[show IntKind.u64.wrap n=n from IntWalk.u64_in _ ⟨by omega,by omega⟩];refine uX.enter Z0 call270 func270 rfl 29 rfl rfl [.tmp 4] rfl ?_;intro w0 F η0 h0;conv=>whnf
 repeat'(first|refine wm.mk (Zlz 256 rfl (by omega) (by omega) (by omega) (by omega)) ?_|refine wj.once Z0 ?_|refine wm.mk (Zhw _) ?_|refine AU ?_|refine IW ?_ ?_<;>intro h<;>try omega)<;>conv=>whnf
 refine wm.mk ⟨rfl,[sy n 12,sy n 8,sy n 4,sy n 0],rfl⟩ ?_;conv=>whnf
 exact wh.value h0 rfl (ze SV.str (BB hn))
theorem Z96(r way:Int)(hr:Y6 r):uX prog wD 222 0 [.int .i32 r, .int .i64 way] [] [] (qd (.str (Y8 way r))):=by
 obtain⟨nv,sq,_⟩:=hr;have h4:=Rt r;refine uX.enter Z0 call222 func222 rfl 56 rfl rfl [.tmp 4] rfl ?_;intro w0 F η0 h0;conv=>whnf
 repeat'(first|refine CALL.value (U1 _ _) rfl rfl ?_|refine CALL.value (Z95 _ (by omega)) rfl rfl ?_|refine CALL.bytes (Zdo _ (by omega)) rfl ?_|refine wm.mk (Jq (by simp)) ?_|refine wm.mk (ZjP (by omega) h) ?_|refine AU ?_|refine IW ?_ ?_<;>intro h<;>try omega)<;>conv=>whnf
 .refine wh.value h0 rfl (ze SV.str ?_);unfold Y8;rw[z7 (by assumption),zh (by unfold Our.Barred;omega)];try rfl
 .refine wh.value h0 rfl (ze SV.str ?_);unfold Y8;rw[z7 (by assumption),zh ((Rs (by omega) (by omega)).1 h)];try rfl
 .refine wh.value h0 rfl (ze SV.str ?_)
  have hb:¬Our.Barred r:=fun hb=>by
   have h1:0<=s7 r:=(Rs (by omega) (by omega)).2 hb;have h2:s7 r<0:=h;omega
  rw[UC];unfold Y8;rw[z7 (by assumption),z7 hb]
 .refine wh.value h0 rfl (ze SV.str ?_);rw[UC,Ru (by omega)]
 .have hm:mIdx r<8/\[92]++((eL.drop (mIdx r).toNat).take 1)=Y8 1 r:=Rq (by omega) (by omega) h;have hw:IntKind.i64.wrap (mIdx r+1)=mIdx r+1:=Z5 (by have:0<=mIdx r:=h;omega) (by omega);have hi:0<=mIdx r:=h;refine wh.value h0 rfl (ze SV.str ?_);rw[show way=1 by assumption,<-hm.2,show 1=(IntKind.i64.wrap (mIdx r+1)).toNat-(mIdx r).toNat by omega];try rfl
 .refine wh.value h0 rfl (ze SV.str ?_);rw[show way=1 by assumption,Rr (by omega) (by assumption),zh h];try rfl
 .refine wh.value h0 rfl (ze SV.str ?_);rw[UC,show way=1 by assumption,Rr (by omega) (by assumption),z7 (by omega)]
 .refine wh.value h0 rfl (ze SV.str ?_);rw[UC];by_cases h9:r=39
  subst h9;rw[show way=1 by assumption];rfl;rw[Ru (by omega)]
theorem Sb(s:List UInt8)(way:Int)(hs:s.length<=1099511627776)(hc:fD s 0<0):uX prog wD 175 0 [.str s, .int .i64 way] [] [] (qd (.wM [.str (aP way s), .val .nilIface])):=by
 refine uX.enter Z0 call175 func175 rfl 26 rfl rfl [.tmp 4, .tmp 5] rfl ?_;intro w0 F η0 h0;conv=>whnf
 repeat'(first|refine CALL.value (Bb _ (by omega)) rfl rfl ?_|refine IW ?_ ?_<;>intro h<;>try omega)<;>conv=>whnf
 have hc1:fD s 0= -1:=by have:=B4 s 0;omega
 refine wj.go Z0 [1,7,17] (X:=Nat×List UInt8) (fun x=>x.1<=s.length/\fD s x.1= -1/\x.2++qO way s x.1=qO way s 0/\x.2.length<=6*x.1) (fun _=>[]) (fun x=>[(1, .qM s x.1),(0, .jJ TB TU x.2)]) 2 (fun x=>s.length-x.1) (0,[]) ⟨by simp,hc1,by simp,by simp⟩ ?_;conv=>whnf
 refine⟨by exact w5.cA h0,?_⟩;rintro⟨i,out⟩ ⟨hi,hch,hout,mB⟩;dsimp only at hi hch hout mB;conv=>whnf
 refine⟨fun h=>?_,fun h=>?_⟩
 .have h:i<s.length:=by simpa using h
  have cr:=Ro h hch;have hd:=Bi h cr;have hsc:=Rp h cr;have hn:=Y7 s i;have oe:=Bx way (Z7 s i).1;have hds:Y6 ((ki s i).1:Int):=Bg s i;have hwr:=UU out (Y8 way ((ki s i).1:Int)) (by rw[hd.1];omega);conv=>whnf
  repeat'(first|refine CALL.value (Z96 _ way hds) rfl rfl ?_|refine AU ?_)<;>conv=>whnf
  refine CALL.aA [0] (hwr) ?_;rintro r O' w8 ⟨rfl,rfl,rfl⟩;conv=>whnf
  refine⟨(i+(ki s i).2,out++Y8 way ((ki s i).1:Int)),⟨?_,?_,?_,?_⟩,?_,?_⟩;simp only;omega
  .simp only;rw[show i+(ki s i).2=i+(Z7 s i).2.toNat by omega,<-WJ h cr,hch]
  .simp only;rw[<-hout,Wi h cr,hd.1,show i+(ki s i).2=i+(Z7 s i).2.toNat by omega,zM]
  simp only[zg];rw[hd.1];omega;simp only;omega
  .conv=>whnf
   exact w5.cA h0
 .have h:s.length<=i:=by simpa using h
  conv=>whnf
  repeat'(first|refine AU ?_)<;>conv=>whnf
  rw[Rn h,zO]at hout;refine CALL.aA [0] (S9 out) ?_;rintro r O' w8 ⟨rfl,rfl,rfl⟩;conv=>whnf
  refine wh.value h0 rfl ?_;unfold aP;rw[z7 (by omega),<-hout]
end Go.Proofs.YtlcbipfmodcedaaGreatDoor
namespace Go.Proofs.YtlcbipfmodcedaaGreatDoor
open Go.Sx Go.Our
open _root_.Go.Proofs.Tryz
theorem Sd(s:List UInt8):(bW s).length<=6*s.length+2:=by
 have:=J6 2 s;unfold bW;simp;omega
theorem Se(s:List UInt8)(hs:s.length<=65536)(hc:fD s 0<0):uX prog wD 174 0 [.str s] [] [] (qd (.str (bW s))):=by
 have hl:=J6 2 s;refine uX.enter Z0 call174 func174 rfl 13 rfl rfl [.tmp 2] rfl ?_;intro w0 F η0 h0;conv=>whnf
 repeat'(first|refine CALL.value (Sb s 2 (by omega) hc) rfl rfl ?_|refine AU ?_)<;>conv=>whnf
 exact wh.value h0 rfl rfl
theorem ZfC(x:Tm)(hx:gW x):uX prog wD 126 0 [.agg [.int .i64 x.k, .str x.t, .str x.y, .str x.l]] [] [] (qd (.wM [.str (Vj x), .int .i64 (wH x)])):=by
 have jA:= @BG x;have oN:= @WV x;have tf:= @Ed x.y;have ga:=J6 1 x.t;have nL:=Sd x.y;refine uX.enter Z0 call126 func126 rfl 53 rfl rfl [.tmp 2, .tmp 3] rfl ?_;intro w0 F η0 h0;conv=>whnf
 repeat'(first|refine CALL.value (Vi x hx) rfl rfl ?_|refine CALL.value (Se x.t (by have:=jA (by assumption);omega) ((jA (by assumption)).2.1 (by omega))) rfl rfl ?_|refine CALL.value (Sb x.t 1 (by have:=jA (by assumption);omega) ((jA (by assumption)).2.1 (by omega))) rfl rfl ?_|refine CALL.value (Se x.y (tf ((jA (by assumption)).2.2 (by have:=oN (by assumption);omega)).1).1 (tf ((jA (by assumption)).2.2 (by have:=oN (by assumption);omega)).1).2) rfl rfl ?_|refine wm.mk (by have h3:=tf ((jA (by assumption)).2.2 (by have:=oN (by assumption);omega)).1;simp;omega) ?_|refine AU ?_|refine IW ?_ ?_<;>intro h<;>try omega)<;>conv=>whnf
 all_goals
  refine wh.value h0 rfl ?_;unfold Vj;try simp(disch:=first|assumption|omega) only[↓zh,↓z7]
  try first
   |rfl
   |(have h9:wH x=0:=by assumption
     simp_all[BF])
open _root_.Go.Proofs.Tryz
theorem Sf(n:Int)(hn:0<=n/\n<256):uX prog wD 273 0 [.int .i64 n, .int .i64 4] [] [] (qd (.str (dQ n))):=by
 refine uX.enter Z0 call273 func273 rfl 23 rfl rfl [.tmp 4] rfl ?_;intro w0 F η0 h0;conv=>whnf
 refine wj.go Z0 [1] (X:=Nat×Int×List UInt8) (fun x=>x.1<=4/\(0<=x.2.1/\x.2.1<256)/\l7 (4-x.1) x.2.1++x.2.2=dQ n/\x.2.2.length=x.1) (fun x=>[(0, .int .i64 x.2.1),(5, .str x.2.2),(6, .int .i64 x.1)]) (fun _=>[]) 0 (fun x=>4-x.1) (0,n,[]) ⟨by simp,hn,by simp[Zms],rfl⟩ ?_;conv=>whnf
 refine⟨by exact w5.cA h0,?_⟩;rintro⟨i,r,s⟩ ⟨hi,hr,hs,hl⟩;dsimp only at hi hr hs hl;have h1:r.tmod 16=r%16:=LK hr.1;have h2:r.tdiv 16=r/16:=LJ hr.1;have h3:IntKind.i64.wrap (r%16+1)=r%16+1:=Z5 (by omega) (by omega);conv=>whnf
 repeat'(first|refine wm.mk (by rw[h1,h3];exact⟨by omega,by omega,by show _<=(16:Int);omega⟩) ?_|refine wm.mk (by simp;omega) ?_|refine AU ?_|refine IW ?_ ?_<;>intro h<;>try omega)<;>conv=>whnf
 .have h4:IntKind.i64.wrap (r/16)=r/16:=Z5 (by omega) (by omega);have h5:List.take ((r%16+1).toNat-(r%16).toNat) (List.drop (r%16).toNat [48,49,50,51,52,53,54,55,56,57,65,66,67,68,69,70])=[bV (r%16)]:=Zlo ⟨by omega,by omega⟩;refine⟨(i+1,r/16,[bV (r%16)]++s),⟨by simp only;omega,by simp only;omega,?_,by simp[hl]⟩,by simp only;omega,?_⟩
  .simp only;rw[<-hs,show 4-i=(4-(i+1))+1 by omega,l7,zM]
  .dsimp only;rw[h1,h2,h3,h4,h5];conv=>whnf
   exact w5.cA h0
 .refine wh.value h0 rfl (ze SV.str ?_);rw[<-hs,show 4-i=0 by omega];rfl
theorem Z5A(r way:Int)(hr:Y6 r):uX prog wD 226 0 [.int .i64 r, .int .i64 way] [] [] (qd (.str (Y8 way r))):=by
 obtain⟨nv,sq,_⟩:=hr;have h4:=Rt r;refine uX.enter Z0 call226 func226 rfl 57 rfl rfl [.tmp 4] rfl ?_;intro w0 F η0 h0;conv=>whnf
 repeat'(first|refine wj.once Z0 ?_|refine CALL.value (Sf _ (by omega)) rfl rfl ?_|refine CALL.bytes (Xc _ (by omega)) rfl ?_|refine wm.mk (Jq (by simp)) ?_|refine AU ?_|refine IW ?_ ?_<;>intro h<;>try omega)<;>conv=>whnf
 all_goals try simp only[Zlp,BD]at*
 iterate 7
  .subst h;rw[show way=1 by assumption];exact wh.value h0 rfl (ze SV.str (by decide+kernel))
 all_goals
  repeat'(first|refine CALL.value (Sf _ (by omega)) rfl rfl ?_|refine AU ?_)<;>conv=>whnf
  refine wh.value h0 rfl (ze SV.str ?_);try rw[UC]
  unfold Y8 Our.Barred;simp only[eq_comm (a:=r)]
  first
   |(rw[z7 (by assumption),zh (by simpa only[or_assoc]using h)];rfl)
   |(rw[z7 (by assumption),z7 (by omega)])
   |(simp(disch:=omega) only[↓zh,↓z7];done)
   |(simp(disch:=omega) only[↓zh,↓z7];rfl)
theorem Sg(s:List UInt8)(way:Int)(hs:s.length<=1099511627776)(hc:fD s 0<0):uX prog wD 178 0 [.str s, .int .i64 way] [] [] (qd (.wM [.str (aP way s), .agg [.int .i64 0, .int .i64 0]])):=by
 refine uX.enter Z0 call178 func178 rfl 37 rfl rfl [.tmp 4, .cell 5 237] rfl ?_;intro w0 F η0 h0;conv=>whnf
 repeat'(first|refine CALL.value (Vc _ (by omega)) rfl rfl ?_|refine IW ?_ ?_<;>intro h<;>try omega)<;>conv=>whnf
 have hc1:fD s 0= -1:=by have:=B4 s 0;omega
 refine wj.nil 7 1 rfl ?_;refine wj.go Z0 [0,1,5] (X:=Nat×List UInt8) (fun x=>x.1<=s.length/\fD s x.1= -1/\x.2++qO way s x.1=qO way s 0/\x.2.length<=6*x.1) (fun x=>[(6, .int .i64 (x.1:Int)),(7, .sl (.loc 1) 0 1 x.2.length none)]) (fun x=>[(0, .box [.int .i64 0, .int .i64 0]),(1, .rows 1 (x.2.map Sx.bytesRow))]) 2 (fun x=>s.length-x.1) (0,[]) ⟨by simp,hc1,by simp,by simp⟩ ?_;conv=>whnf
 refine⟨by exact w5.cA h0,?_⟩;rintro⟨i,out⟩ ⟨hi,hch,hout,mB⟩;dsimp only at hi hch hout mB⊢;have hn:=Y7 s i;have oe:=Bx way (Z7 s i).1;conv=>whnf
 refine IF.mk (fun h=>?_) (fun h=>?_)
 .have h:i<s.length:=by simpa using h
  have cr:=Ro h hch;have hsc:=Rp h cr;conv=>whnf
  repeat'(first|refine CALL.value (VZ s _ (by omega)) rfl rfl ?_|refine CALL.value (Z5A _ way hsc) rfl rfl ?_|refine wm.mk (Zm 8 rfl rfl (by simp) (by simp) (by omega)) ?_)<;>conv=>whnf
  refine⟨(i+(Z7 s i).2.toNat,out++Y8 way (Z7 s i).1),⟨?_,?_,?_,?_⟩,?_,?_⟩;simp only;omega
  .simp only;rw[<-WJ h cr,hch]
  .simp only;rw[<-hout,Wi h cr,zM]
  simp only[zg];omega;simp only;omega
  .dsimp only;conv=>whnf
   exact w5.kA h0 [0,2]
 .have h:s.length<=i:=by simp at h;omega
  rw[Rn h,zO]at hout;conv=>whnf
  repeat'(first|refine wm.mk (Jq (by simp)) ?_)<;>conv=>whnf
  refine wh.value h0 rfl ?_;unfold aP;rw[z7 (by omega),<-hout,UC];try rfl
open _root_.Go.Proofs.Tryz
theorem Si(r:Int):uX prog wD 244 0 [.int .i64 r] [] [] (qd (.bool (decide (Wf r)))):=by
 refine uX.enter Z0 call244 func244 rfl 9 rfl rfl [.tmp 2] rfl ?_;intro w0 F η0 h0;conv=>whnf
 skip
 refine wh.value h0 rfl (ze SV.bool ?_);rw[zZ];simp only[xd,yc,xu,xI,zk,yI]
 rfl
def Zhx:List (List SV):=[65,90,97,122,192,214,216,246,248,767,880,893,895,8191,8204,8205,8304,8591,11264,12271,12289,55295,63744,64975,65008,65533,65536,983039].map fun x=>[SV.int .i64 x]
theorem Z97:uX prog wD 304 0 [] [] [] (qd (.arr 1 Zhx)):=by
 refine uX.enter Z0 call304 func304 rfl 2 rfl rfl [.cell 0 330] rfl ?_;intro w0 F η0 h0;conv=>whnf
 repeat'(first|refine AU ?_)<;>conv=>whnf
 exact wh.value h0 rfl rfl
theorem ZaB(r:Int):uX prog wD 283 0 [.int .i64 r] [] [] (qd (.bool (decide (mZ r)))):=by
 refine uX.enter Z0 call283 func283 rfl 23 rfl rfl [.tmp 2] rfl ?_;intro w0 F η0 h0;conv=>whnf
 repeat'(first|refine CALL.value (Z97) rfl rfl ?_|refine wj.once Z0 ?_|refine wm.mk ⟨rfl,rfl,rfl,rfl,rfl⟩ ?_|refine AU ?_|refine IW ?_ ?_<;>intro h<;>try omega)<;>conv=>whnf
 all_goals
  refine wh.value h0 rfl (ze SV.bool ?_)
  first
   |exact(yu (by unfold mZ;omega)).symm
   |exact(ye (by unfold mZ;omega)).symm
theorem Sj(r:Int):uX prog wD 243 0 [.int .i64 r] [] [] (qd (.bool (decide (s4 r)))):=by
 refine uX.enter Z0 call243 func243 rfl 9 rfl rfl [.tmp 2] rfl ?_;intro w0 F η0 h0;conv=>whnf
 repeat'(first|refine CALL.value (ZaB _) rfl rfl ?_)<;>conv=>whnf
 all_goals
  refine wh.value h0 rfl (ze SV.bool ?_);rw[zZ,yy];unfold s4;simp
theorem Z4X(r:Int):uX prog wD 284 0 [.int .i64 r] [] [] (qd (.bool (decide (Yi r)))):=by
 refine uX.enter Z0 call284 func284 rfl 33 rfl rfl [.tmp 2] rfl ?_;intro w0 F η0 h0;conv=>whnf
 repeat'(first|refine CALL.value (Sj _) rfl rfl ?_|refine CALL.value (Si _) rfl rfl ?_|refine AU ?_|refine IW ?_ ?_<;>intro h<;>try omega)<;>conv=>whnf
 all_goals
  refine wh.value h0 rfl (ze SV.bool ?_);rw[zZ];unfold Yi
  simp_all
  try omega
def tK(x:Int):List SV:=[.int .i64 x]
theorem Ad(l:List Int):Zp (l.map tK)=true:=ZH _ (fun _=>rfl) l
instance :PlF tK:=⟨fun _=>rfl⟩
theorem Sk{l:List Int}{i:Nat}(h:i<l.length):YW (l.drop i)=if i+1=l.length then decide (Yi l[i])else(decide (Yi l[i]\/l[i]=46)&&YW (l.drop (i+1))):=by
 rw[zq h];cases hd:l.drop (i+1)with
 |nil=>
  have:=ze List.length hd;simp at this;rw[zh (by omega)];rfl
 |cons q t=>
  have:=ze List.length hd;simp at this;rw[z7 (by omega)];rfl
theorem Z7e(l:List Int)(hl:l.length<=1152921504606846976):uX prog wD 245 1 [.sl (.loc 0) 0 1 l.length none] [] [(0, .rows 1 (l.map tK))] (qE 1 (.bool (YW (l.drop 1)))):=by
 refine uX.enter Z0 call245 func245 rfl 30 rfl rfl [.tmp 2] rfl ?_;intro w0 F η0 h0;conv=>whnf
 refine wj.go Z0 [0] (X:=Nat) (fun i=>1<=i/\YW (l.drop i)=YW (l.drop 1)) (fun i=>[(3, .int .i64 (i:Int))]) (fun i=>[]) 1 (fun i=>l.length-i) 1 ⟨by omega,rfl⟩ ?_;conv=>whnf
 refine⟨by exact w5.cA h0,?_⟩;rintro i ⟨hi,hc⟩;conv=>whnf
 repeat'(first|refine CALL.value (Z4X _) rfl rfl ?_|refine GET.map (by omega) ?_|refine dI.at (row:=tK (l[0+(i:Int).toNat]'(by omega))) (by rw[z6,z1 (by omega)];rfl) ?_|refine AU ?_|refine IW ?_ ?_<;>intro h<;>try omega)<;>conv=>whnf
 .rename_i h1;have h1:i<l.length:=by omega
  have e:l[0+(i:Int).toNat]=l[i]:=by congr 1;omega
  rw[e]at h;refine wh.wC h0 rfl (ze SV.bool ?_);rw[<-hc,Sk h1];split
  simp[h.1]
  .rcases h.2 with h2|h2
   simp[h.1,h2];omega
 .rename_i h1;have h1:i<l.length:=by omega
  have e:l[0+(i:Int).toNat]=l[i]:=by congr 1;omega
  rw[e]at h;refine⟨i+1,⟨by omega,?_⟩,by omega,?_⟩
  .rw[<-hc,Sk h1];by_cases hf:Yi l[i]
   .split
    rename_i h2;rw[zN (by omega)];simp[hf,YW];simp[hf]
   .have:=h hf;rw[z7 (by omega)];simp[this.1]
  .conv=>whnf
   exact w5.cA h0
 .refine wh.wC h0 rfl (ze SV.bool ?_);rw[<-hc,zN (by omega)];rfl
def Ae(o:Option (List Int)):SV->w9->Nat->Prop:=fun r O nx=>match o with
 |some l=>r= .wM [.sl (.loc 0) 0 1 l.length none, .bool true]/\O=[(0, .rows 1 (l.map tK))]/\nx=1
 |none=>r= .wM [.val (.slice none 0 0), .bool false]/\O=[]/\nx=0
theorem Sl(s:List UInt8)(hs:s.length<=68719476736):uX prog wD 242 0 [.str s] [] [] (Ae (wB s 0)):=by
 refine uX.enter Z0 call242 func242 rfl 28 rfl rfl [.tmp 2, .tmp 3] rfl ?_;intro w0 F η0 h0;conv=>whnf
 refine wj.nil 4 1 rfl ?_;refine wj.go Z0 [0] (X:=Nat×List Int) (fun x=>x.1<=s.length/\x.2.length<=x.1/\wB s 0=(wB s x.1).map (x.2++ ·)) (fun x=>[(5, .int .i64 (x.1:Int)),(4, .sl (.loc 0) 0 1 x.2.length none)]) (fun x=>[(0, .rows 1 (x.2.map tK))]) 1 (fun x=>s.length-x.1) (0,[]) ⟨by simp,by simp,by cases wB s 0<;>simp⟩ ?_;conv=>whnf
 refine⟨by exact w5.cA h0,?_⟩;rintro⟨i,l⟩ ⟨hi,hl,hc⟩;simp only at hi hl hc;have hn:=Y7 s i;dsimp only;conv=>whnf
 repeat'(first|refine CALL.value (VZ s _ (by omega)) rfl rfl ?_|refine AU ?_|refine IW ?_ ?_<;>intro h<;>try omega)<;>conv=>whnf
 .rename_i h1;refine wh.val h0 rfl ?_;have:wB s i=none:=by rw[wB,yg (by omega),yK (by simpa using h)]
  rw[hc,this];exact⟨rfl,rfl,rfl⟩
 .rename_i h1;refine⟨(i+(Z7 s i).2.toNat,l++ [(Z7 s i).1]),⟨by simp only;omega,by simp only[zg,List.length_cons,List.length_nil];omega,?_⟩,by simp only;omega,?_⟩
  .rw[hc];conv=>lhs;rw[wB,yg (by omega),yg (by simpa using h)]
   cases wB s (i+(Z7 s i).2.toNat)<;>simp
  .dsimp only;conv=>whnf
   exact w5.kA h0 [2]
 .refine wh.GN h0 0 1 _ rfl rfl rfl (Ad _) rfl ?_;have:wB s i=some []:=by rw[wB,yK (by omega)]
  rw[hc,this];simp[Ae]
theorem ZaC(s:List UInt8)(i:Nat):∀l,wB s i=some l->l.length<=s.length-i:=by
 induction i using wB.induct s with
 |case1 i h h0 ih=>
  intro l hl;have hn:=Y7 s i;rw[wB,yg h,yg h0]at hl;cases hc:wB s (i+(Z7 s i).2.toNat)with
  |none=>rw[hc]at hl;cases hl
  |some t=>
   rw[hc]at hl;simp only[Option.map_some,zj]at hl;subst hl;have:=ih t hc;simp only[List.length_cons];omega
 |case2 i h h0=>intro l hl;rw[wB,yg h,yK h0]at hl;cases hl
 |case3 i h=>intro l hl;rw[wB,yK h]at hl;injection hl with hl;subst hl;simp
theorem Z98(s:List UInt8)(hs:s.length<=68719476736):uX prog wD 193 0 [.str s] [] [] (qd (.int .i64 (GX s))):=by
 refine uX.enter Z0 call193 func193 rfl 36 rfl rfl [.tmp 2] rfl ?_;intro w0 F η0 h0;conv=>whnf
 unfold GX;cases hc:wB s 0 with
 |none=>
  have sp:=(Sl s hs).mono (Q':=qd (.wM [.val (.slice none 0 0), .bool false])) (fun r O nx hq=>by rw[hc]at hq;exact hq);refine CALL.value sp rfl rfl ?_;conv=>whnf
  repeat'(first|refine AU ?_|refine IW ?_ ?_<;>intro h<;>try omega)<;>conv=>whnf
  exact wh.value h0 rfl rfl
 |some l=>
  have sp:=(Sl s hs).mono (Q':=Q8 1 (l.map tK) [.bool true]) (fun r O nx hq=>by rw[hc]at hq;simpa[Q8,Ae]using hq);refine CALL.B8 sp rfl (Ad l) rfl ?_;have hlen:(l.map tK).length=l.length:=by simp
  rw[hlen];conv=>whnf
  cases l with
  |nil=>
   repeat'(first|refine AU ?_|refine IW ?_ ?_<;>intro h<;>try omega)<;>conv=>whnf
   exact wh.value h0 rfl rfl
  |cons r l=>
   have hL:(r::l).length<=1152921504606846976:=by have:=ZaC s 0 _ hc;omega
   repeat'(first|refine GET.at (row:=tK r) rfl ?_|refine CALL.value (Sj _) rfl rfl ?_|refine CALL.value (Si _) rfl rfl ?_|refine CALL.jq _ (Z7e (r::l) hL) rfl rfl rfl rfl (Ad _) rfl ?_|refine AU ?_|refine IW ?_ ?_<;>intro h<;>try omega)<;>conv=>whnf
   all_goals
    refine wh.value h0 rfl (ze (SV.int _) ?_);try simp only[vO,yD]at h
    unfold Vd;simp[*]
