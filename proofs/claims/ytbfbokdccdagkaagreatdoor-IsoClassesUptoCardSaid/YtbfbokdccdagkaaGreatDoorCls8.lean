/- Part 8: Tab, Cmp7, Lists7, Rise7, Sets1, Over7, Lent, Sets2, ListS, Find7, Fits7, Utf1, Utf04, StrLib, Iri, Iri2, Names1, Part1, Split1, Tag1, Tag2, Names2, Part2. Conditions: as each part says. -/
import Derived.Test.YtbfbokdccdagkaaGreatDoorProg
import Derived.Lib.Bytealg
import Derived.Test.YtbfbokdccdagkaaGreatDoorCls5
import Derived.Test.YtbfbokdccdagkaaGreatDoorCls7
set_option maxRecDepth 100000
namespace Go.Proofs.YtbfbokdccdagkaaGreatDoor
open Go.Sx
def bt {α : Type} (t n : Nat) (a b : α) : α := match Nat.ble t n with | true => a | false => b
theorem Z92 {α : Type} {t n : Nat} {a b : α} (h : Nat.ble t n = false) : bt t n a b = b := by unfold bt; rw [h]
def ZbT (t : TypeId) : Sh := bt t 292 (bt t 145 (bt t 72 (bt t 35 (bt t 17 (bt t 8 (bt t 3 (bt t 1 (bt t 0 .plain .func) (.int .i64)) (bt t 5 (bt t 4 .bool (.int .u8)) (bt t 6 (.int .u8) (.struct [(0, 2), (1, 3), (2, 4), (3, 6)])))) (bt t 12 (bt t 10 .str (bt t 11 .str (.int .u64))) (bt t 14 (.struct [(0, 9), (1, 12)]) (bt t 15 (.ptr 282) (bt t 16 (.ptr 285) (.ptr 292)))))) (bt t 26 (bt t 21 (bt t 19 (.struct [(0, 17)]) (bt t 20 .iface (.int .i32))) (bt t 23 (bt t 22 (.slice 67) .func) (bt t 24 (.slice 29) .func))) (bt t 30 (bt t 28 .func (bt t 29 (.slice 9) .func)) (bt t 32 (bt t 31 (.slice 40) (.int .i64)) (bt t 33 .plain (bt t 34 .func .plain)))))) (bt t 53 (bt t 44 (bt t 39 (bt t 37 .func (bt t 38 .func (.struct [(0, 9), (1, 9)]))) (bt t 41 (bt t 40 (.struct [(0, 9), (1, 9)]) .func) .func)) (bt t 48 (bt t 46 (bt t 45 .func .plain) (bt t 47 .func .plain)) (bt t 50 .func (bt t 51 (.slice 3) (bt t 52 .func .plain))))) (bt t 62 (bt t 57 .func (bt t 59 (bt t 58 .func (.array 65 3)) .func)) (bt t 67 (bt t 64 (bt t 63 .func (.struct [(0, 3), (1, 9), (2, 9), (3, 9)])) (bt t 65 (.struct [(0, 3), (1, 9), (2, 9), (3, 9)]) (.struct [(0, 65), (4, 65), (8, 65), (12, 65)]))) (bt t 69 (bt t 68 .func (.ptr 74)) (bt t 70 .func (bt t 71 (.slice 141) (.slice 22)))))))) (bt t 108 (bt t 90 (bt t 81 (bt t 76 (bt t 74 (.struct [(0, 29), (1, 51), (2, 71), (3, 72), (4, 3)]) (bt t 75 (.ptr 80) .func)) (bt t 78 (bt t 77 (.slice 82) (.slice 149)) (bt t 79 (.struct [(0, 77), (1, 78)]) (bt t 80 (.struct [(0, 77), (1, 78)]) (.struct [(0, 3), (1, 9), (2, 3)]))))) (bt t 85 (bt t 83 (bt t 82 (.struct [(0, 3), (1, 9), (2, 3)]) .func) (bt t 84 .func (.map 9 3))) (bt t 87 .func (bt t 88 .func (bt t 89 (.ptr 92) (.map 93 3)))))) (bt t 99 (bt t 94 (bt t 92 (.struct [(0, 69), (1, 3), (2, 90), (3, 51), (4, 51), (5, 3)]) (bt t 93 (.array 4 65) .func)) (bt t 96 (bt t 95 .plain .func) (bt t 97 .func (bt t 98 (.ptr 100) (.struct [(0, 22), (1, 22), (2, 77), (3, 77), (4, 31), (5, 3), (6, 4)]))))) (bt t 103 (bt t 101 (bt t 100 (.struct [(0, 22), (1, 22), (2, 77), (3, 77), (4, 31), (5, 3), (6, 4)]) .func) .func) (bt t 105 (bt t 104 (.int .u64) (.ptr 65)) (bt t 106 (.array 4 105) (bt t 107 .func (.ptr 67))))))) (bt t 126 (bt t 117 (bt t 112 .func (bt t 114 (bt t 113 .func .plain) .func)) (bt t 121 (bt t 119 (bt t 118 .func .plain) (bt t 120 .func (.slice 65))) (bt t 123 (bt t 122 .func .plain) .func))) (bt t 135 (bt t 130 .func (bt t 132 .func (bt t 133 .func (bt t 134 .func (.int .u64))))) (bt t 140 (bt t 137 (bt t 136 .func (.array 4 3)) (bt t 138 (.struct [(0, 93), (16, 137)]) (bt t 139 (.struct [(0, 93), (16, 137)]) .func))) (bt t 142 (bt t 141 (.slice 139) .func) .func)))))) (bt t 218 (bt t 181 (bt t 163 (bt t 154 (bt t 149 (bt t 147 (.struct [(0, 67), (16, 137)]) (bt t 148 .func (.slice 147))) (bt t 151 (bt t 150 (.slice 151) (.slice 187)) .func)) (bt t 158 .func (bt t 160 .func (bt t 161 (.int .i64) (bt t 162 .plain .func))))) (bt t 172 (bt t 167 .func (bt t 169 (bt t 168 .func (.int .u32)) .func)) (bt t 176 (bt t 174 (bt t 173 (.ptr 176) (.slice 5)) (.struct [(0, 173), (1, 174)])) (bt t 178 .iface (bt t 179 .plain (bt t 180 .func (.array 3 9))))))) (bt t 199 (bt t 190 (bt t 185 (bt t 183 .func (.struct [(0, 4), (1, 3), (2, 65)])) (bt t 187 (.array 4 185) (bt t 188 (.slice 4) .func))) (bt t 194 (bt t 192 .func (.struct [(0, 9), (1, 9), (2, 9), (3, 9), (4, 29), (5, 29), (6, 9)])) (bt t 196 (bt t 195 .plain .func) (bt t 197 .func (bt t 198 (.int .u64) .func))))) (bt t 208 (bt t 203 (bt t 201 .func (bt t 202 (.ptr 3) .func)) .func) (bt t 213 (bt t 210 (bt t 209 (.ptr 5) .func) .func) (bt t 215 (bt t 214 .plain .func) (bt t 216 (.ptr 219) (bt t 217 .func (.struct [(0, 29), (1, 194)])))))))) (bt t 255 (bt t 236 (bt t 227 (bt t 222 (bt t 220 (bt t 219 (.struct [(0, 29), (1, 194)]) .func) (bt t 221 .func (.slice 32))) (bt t 224 (bt t 223 (.ptr 198) .func) (bt t 225 .func (bt t 226 .func .plain)))) (bt t 231 (bt t 229 (bt t 228 .func (.array 24 5)) (bt t 230 .func .plain)) (bt t 233 .func (bt t 234 .plain .func)))) (bt t 245 (bt t 240 (bt t 238 (bt t 237 .plain .func) .func) (bt t 242 (bt t 241 .plain .func) .func)) (bt t 250 (bt t 247 .func (bt t 248 .func (bt t 249 (.array 20 104) (.array 65 5)))) (bt t 252 .func (bt t 253 (.ptr 256) (bt t 254 .func (.struct [(0, 29)]))))))) (bt t 273 (bt t 264 (bt t 259 (bt t 257 (bt t 256 (.struct [(0, 29)]) .func) (bt t 258 (.ptr 194) .func)) (bt t 261 .func (bt t 262 (.array 5 21) .func))) (bt t 268 (bt t 266 (bt t 265 .func (.array 28 3)) .func) (bt t 270 (bt t 269 .func (.array 24 21)) (bt t 271 .func (bt t 272 (.array 32 5) (.array 64 5)))))) (bt t 282 (bt t 277 (bt t 275 (bt t 274 (.array 5 3) (.array 256 5)) (.struct [(0, 5), (1, 5)])) (bt t 279 (bt t 278 (.array 16 277) .plain) (bt t 280 .func (.struct [(0, 17), (1, 17), (2, 17), (3, 9)])))) (bt t 287 (bt t 284 (bt t 283 (.array 0 16) (.struct [(0, 283)])) (bt t 285 (.struct [(0, 283)]) (.int .u8))) (bt t 289 (bt t 288 .func (.int .i32)) (bt t 290 (.int .i32) (.struct [(0, 12), (1, 12), (2, 169), (3, 286), (4, 5), (5, 5), (6, 287), (7, 288), (8, 209), (9, 289), (10, 290)]))))))))) .other
def ZaP (t : TypeId) : Nat := bt t 292 (bt t 145 (bt t 72 (bt t 35 (bt t 17 (bt t 8 (bt t 3 1 (bt t 5 1 (bt t 6 1 4))) (bt t 12 1 (bt t 14 2 1))) 1) (bt t 53 (bt t 44 (bt t 39 (bt t 37 1 (bt t 38 1 2)) (bt t 41 (bt t 40 2 1) 1)) 1) (bt t 62 (bt t 57 1 (bt t 59 (bt t 58 1 65) 1)) (bt t 67 (bt t 64 (bt t 63 1 4) (bt t 65 4 16)) 1)))) (bt t 108 (bt t 90 (bt t 81 (bt t 76 (bt t 74 5 1) (bt t 78 1 (bt t 79 2 (bt t 80 2 3)))) (bt t 85 (bt t 83 (bt t 82 3 1) 1) 1)) (bt t 99 (bt t 94 (bt t 92 6 (bt t 93 16 1)) (bt t 96 1 (bt t 97 1 (bt t 98 1 7)))) (bt t 103 (bt t 101 (bt t 100 7 1) 1) (bt t 105 1 (bt t 106 4 1))))) (bt t 126 1 (bt t 135 1 (bt t 140 (bt t 137 (bt t 136 1 4) (bt t 138 20 (bt t 139 20 1))) 1))))) (bt t 218 (bt t 181 (bt t 163 (bt t 154 (bt t 149 (bt t 147 20 1) 1) 1) (bt t 172 1 (bt t 176 (bt t 174 1 2) (bt t 178 1 (bt t 179 1 (bt t 180 1 3)))))) (bt t 199 (bt t 190 (bt t 185 (bt t 183 1 6) (bt t 187 24 1)) (bt t 194 (bt t 192 1 7) 1)) (bt t 208 1 (bt t 213 1 (bt t 215 1 (bt t 216 1 (bt t 217 1 8))))))) (bt t 255 (bt t 236 (bt t 227 (bt t 222 (bt t 220 (bt t 219 8 1) 1) 1) (bt t 231 (bt t 229 (bt t 228 1 24) 1) 1)) (bt t 245 1 (bt t 250 (bt t 247 1 (bt t 248 1 (bt t 249 20 65))) 1))) (bt t 273 (bt t 264 (bt t 259 1 (bt t 261 1 (bt t 262 5 1))) (bt t 268 (bt t 266 (bt t 265 1 28) 1) (bt t 270 (bt t 269 1 24) (bt t 271 1 (bt t 272 32 64))))) (bt t 282 (bt t 277 (bt t 275 (bt t 274 5 256) 2) (bt t 279 (bt t 278 32 1) (bt t 280 1 4))) (bt t 287 (bt t 284 0 (bt t 285 0 1)) (bt t 289 1 (bt t 290 1 11)))))))) 0
def Z7b (t : TypeId) : List SV := bt t 292 (bt t 145 (bt t 72 (bt t 35 (bt t 17 (bt t 8 (bt t 3 (bt t 1 (bt t 0 [] [.val .nilFunc]) [.int .i64 (0)]) (bt t 5 (bt t 4 [.bool false] [.int .u8 (0)]) (bt t 6 [.int .u8 (0)] [.int .i64 (0), .int .i64 (0), .bool false, .int .u8 (0)]))) (bt t 12 (bt t 10 ([.str []]) (bt t 11 [.str []] [.int .u64 (0)])) (bt t 14 ([.str [], .int .u64 (0)]) [.val (.pointer none)]))) (bt t 26 (bt t 21 (bt t 19 [.val (.pointer none)] (bt t 20 [.val .nilIface] [.int .i32 (0)])) (bt t 23 (bt t 22 [.val (.slice none 0 0)] [.val .nilFunc]) (bt t 24 [.val (.slice none 0 0)] [.val .nilFunc]))) (bt t 30 (bt t 28 [.val .nilFunc] (bt t 29 [.val (.slice none 0 0)] [.val .nilFunc])) (bt t 32 (bt t 31 [.val (.slice none 0 0)] [.int .i64 (0)]) (bt t 33 [] (bt t 34 [.val .nilFunc] [])))))) (bt t 53 (bt t 44 (bt t 39 (bt t 37 [.val .nilFunc] (bt t 38 [.val .nilFunc] [.str [], .str []])) (bt t 41 (bt t 40 [.str [], .str []] [.val .nilFunc]) [.val .nilFunc])) (bt t 48 (bt t 46 (bt t 45 [.val .nilFunc] []) (bt t 47 [.val .nilFunc] [])) (bt t 50 [.val .nilFunc] (bt t 51 [.val (.slice none 0 0)] (bt t 52 [.val .nilFunc] []))))) (bt t 62 (bt t 57 [.val .nilFunc] (bt t 59 (bt t 58 [.val .nilFunc] []) [.val .nilFunc])) (bt t 67 (bt t 64 (bt t 63 [.val .nilFunc] [.int .i64 (0), .str [], .str [], .str []]) (bt t 65 [.int .i64 (0), .str [], .str [], .str []] ([.int .i64 (0), .str [], .str [], .str [], .int .i64 (0), .str [], .str [], .str [], .int .i64 (0), .str [], .str [], .str [], .int .i64 (0), .str [], .str [], .str []]))) (bt t 69 (bt t 68 [.val .nilFunc] [.val (.pointer none)]) (bt t 70 [.val .nilFunc] [.val (.slice none 0 0)])))))) (bt t 108 (bt t 90 (bt t 81 (bt t 76 (bt t 74 [.val (.slice none 0 0), .val (.slice none 0 0), .val (.slice none 0 0), .val (.slice none 0 0), .int .i64 (0)] (bt t 75 [.val (.pointer none)] [.val .nilFunc])) (bt t 78 [.val (.slice none 0 0)] (bt t 79 [.val (.slice none 0 0), .val (.slice none 0 0)] (bt t 80 [.val (.slice none 0 0), .val (.slice none 0 0)] [.int .i64 (0), .str [], .int .i64 (0)])))) (bt t 85 (bt t 83 (bt t 82 [.int .i64 (0), .str [], .int .i64 (0)] [.val .nilFunc]) (bt t 84 [.val .nilFunc] [.val (.map none)])) (bt t 87 [.val .nilFunc] (bt t 88 [.val .nilFunc] (bt t 89 [.val (.pointer none)] [.val (.map none)]))))) (bt t 99 (bt t 94 (bt t 92 [.val (.pointer none), .int .i64 (0), .val (.map none), .val (.slice none 0 0), .val (.slice none 0 0), .int .i64 (0)] (bt t 93 [.int .i64 (0), .str [], .str [], .str [], .int .i64 (0), .str [], .str [], .str [], .int .i64 (0), .str [], .str [], .str [], .int .i64 (0), .str [], .str [], .str []] [.val .nilFunc])) (bt t 96 (bt t 95 [] [.val .nilFunc]) (bt t 97 [.val .nilFunc] (bt t 98 [.val (.pointer none)] [.val (.slice none 0 0), .val (.slice none 0 0), .val (.slice none 0 0), .val (.slice none 0 0), .val (.slice none 0 0), .int .i64 (0), .bool false])))) (bt t 103 (bt t 101 (bt t 100 [.val (.slice none 0 0), .val (.slice none 0 0), .val (.slice none 0 0), .val (.slice none 0 0), .val (.slice none 0 0), .int .i64 (0), .bool false] [.val .nilFunc]) [.val .nilFunc]) (bt t 105 (bt t 104 [.int .u64 (0)] [.val (.pointer none)]) (bt t 106 [.val (.pointer none), .val (.pointer none), .val (.pointer none), .val (.pointer none)] (bt t 107 [.val .nilFunc] [.val (.pointer none)])))))) (bt t 126 (bt t 117 (bt t 112 [.val .nilFunc] (bt t 114 (bt t 113 [.val .nilFunc] []) [.val .nilFunc])) (bt t 121 (bt t 119 (bt t 118 [.val .nilFunc] []) (bt t 120 [.val .nilFunc] [.val (.slice none 0 0)])) (bt t 123 (bt t 122 [.val .nilFunc] []) [.val .nilFunc]))) (bt t 135 (bt t 130 [.val .nilFunc] (bt t 132 [.val .nilFunc] (bt t 133 [.val .nilFunc] (bt t 134 [.val .nilFunc] [.int .u64 (0)])))) (bt t 140 (bt t 137 (bt t 136 [.val .nilFunc] [.int .i64 (0), .int .i64 (0), .int .i64 (0), .int .i64 (0)]) (bt t 138 [.int .i64 (0), .str [], .str [], .str [], .int .i64 (0), .str [], .str [], .str [], .int .i64 (0), .str [], .str [], .str [], .int .i64 (0), .str [], .str [], .str [], .int .i64 (0), .int .i64 (0), .int .i64 (0), .int .i64 (0)] (bt t 139 [.int .i64 (0), .str [], .str [], .str [], .int .i64 (0), .str [], .str [], .str [], .int .i64 (0), .str [], .str [], .str [], .int .i64 (0), .str [], .str [], .str [], .int .i64 (0), .int .i64 (0), .int .i64 (0), .int .i64 (0)] [.val .nilFunc]))) (bt t 142 (bt t 141 [.val (.slice none 0 0)] [.val .nilFunc]) [.val .nilFunc])))))) (bt t 218 (bt t 181 (bt t 163 (bt t 154 (bt t 149 (bt t 147 ([.int .i64 (0), .str [], .str [], .str [], .int .i64 (0), .str [], .str [], .str [], .int .i64 (0), .str [], .str [], .str [], .int .i64 (0), .str [], .str [], .str [], .int .i64 (0), .int .i64 (0), .int .i64 (0), .int .i64 (0)]) (bt t 148 [.val .nilFunc] [.val (.slice none 0 0)])) (bt t 151 [.val (.slice none 0 0)] [.val .nilFunc])) (bt t 158 [.val .nilFunc] (bt t 160 [.val .nilFunc] (bt t 161 [.int .i64 (0)] (bt t 162 [] [.val .nilFunc]))))) (bt t 172 (bt t 167 [.val .nilFunc] (bt t 169 (bt t 168 [.val .nilFunc] [.int .u32 (0)]) [.val .nilFunc])) (bt t 176 (bt t 174 (bt t 173 [.val (.pointer none)] [.val (.slice none 0 0)]) [.val (.pointer none), .val (.slice none 0 0)]) (bt t 178 [.val .nilIface] (bt t 179 [] (bt t 180 [.val .nilFunc] [.str [], .str [], .str []])))))) (bt t 199 (bt t 190 (bt t 185 (bt t 183 [.val .nilFunc] ([.bool false, .int .i64 (0), .int .i64 (0), .str [], .str [], .str []])) (bt t 187 ([.bool false, .int .i64 (0), .int .i64 (0), .str [], .str [], .str [], .bool false, .int .i64 (0), .int .i64 (0), .str [], .str [], .str [], .bool false, .int .i64 (0), .int .i64 (0), .str [], .str [], .str [], .bool false, .int .i64 (0), .int .i64 (0), .str [], .str [], .str []]) (bt t 188 [.val (.slice none 0 0)] [.val .nilFunc]))) (bt t 194 (bt t 192 [.val .nilFunc] ([.str [], .str [], .str [], .str [], .val (.slice none 0 0), .val (.slice none 0 0), .str []])) (bt t 196 (bt t 195 [] [.val .nilFunc]) (bt t 197 [.val .nilFunc] (bt t 198 [.int .u64 (0)] [.val .nilFunc]))))) (bt t 208 (bt t 203 (bt t 201 [.val .nilFunc] (bt t 202 [.val (.pointer none)] [.val .nilFunc])) [.val .nilFunc]) (bt t 213 (bt t 210 (bt t 209 [.val (.pointer none)] [.val .nilFunc]) [.val .nilFunc]) (bt t 215 (bt t 214 [] [.val .nilFunc]) (bt t 216 [.val (.pointer none)] (bt t 217 [.val .nilFunc] [.val (.slice none 0 0), .str [], .str [], .str [], .str [], .val (.slice none 0 0), .val (.slice none 0 0), .str []]))))))) (bt t 255 (bt t 236 (bt t 227 (bt t 222 (bt t 220 (bt t 219 [.val (.slice none 0 0), .str [], .str [], .str [], .str [], .val (.slice none 0 0), .val (.slice none 0 0), .str []] [.val .nilFunc]) (bt t 221 [.val .nilFunc] [.val (.slice none 0 0)])) (bt t 224 (bt t 223 [.val (.pointer none)] [.val .nilFunc]) (bt t 225 [.val .nilFunc] (bt t 226 [.val .nilFunc] [.val (.pointer none)])))) (bt t 231 (bt t 229 (bt t 228 [.val .nilFunc] [.int .u8 (0), .int .u8 (0), .int .u8 (0), .int .u8 (0), .int .u8 (0), .int .u8 (0), .int .u8 (0), .int .u8 (0), .int .u8 (0), .int .u8 (0), .int .u8 (0), .int .u8 (0), .int .u8 (0), .int .u8 (0), .int .u8 (0), .int .u8 (0), .int .u8 (0), .int .u8 (0), .int .u8 (0), .int .u8 (0), .int .u8 (0), .int .u8 (0), .int .u8 (0), .int .u8 (0)]) (bt t 230 [.val .nilFunc] [])) (bt t 233 [.val .nilFunc] (bt t 234 [] [.val .nilFunc])))) (bt t 245 (bt t 240 (bt t 238 (bt t 237 [] [.val .nilFunc]) [.val .nilFunc]) (bt t 242 (bt t 241 [] [.val .nilFunc]) [.val .nilFunc])) (bt t 250 (bt t 247 [.val .nilFunc] (bt t 248 [.val .nilFunc] (bt t 249 [.int .u64 (0), .int .u64 (0), .int .u64 (0), .int .u64 (0), .int .u64 (0), .int .u64 (0), .int .u64 (0), .int .u64 (0), .int .u64 (0), .int .u64 (0), .int .u64 (0), .int .u64 (0), .int .u64 (0), .int .u64 (0), .int .u64 (0), .int .u64 (0), .int .u64 (0), .int .u64 (0), .int .u64 (0), .int .u64 (0)] []))) (bt t 252 [.val .nilFunc] (bt t 253 [.val (.pointer none)] (bt t 254 [.val .nilFunc] [.val (.slice none 0 0)])))))) (bt t 273 (bt t 264 (bt t 259 (bt t 257 (bt t 256 [.val (.slice none 0 0)] [.val .nilFunc]) (bt t 258 [.val (.pointer none)] [.val .nilFunc])) (bt t 261 [.val .nilFunc] (bt t 262 [.int .i32 (0), .int .i32 (0), .int .i32 (0), .int .i32 (0), .int .i32 (0)] [.val .nilFunc]))) (bt t 268 (bt t 266 (bt t 265 [.val .nilFunc] [.int .i64 (0), .int .i64 (0), .int .i64 (0), .int .i64 (0), .int .i64 (0), .int .i64 (0), .int .i64 (0), .int .i64 (0), .int .i64 (0), .int .i64 (0), .int .i64 (0), .int .i64 (0), .int .i64 (0), .int .i64 (0), .int .i64 (0), .int .i64 (0), .int .i64 (0), .int .i64 (0), .int .i64 (0), .int .i64 (0), .int .i64 (0), .int .i64 (0), .int .i64 (0), .int .i64 (0), .int .i64 (0), .int .i64 (0), .int .i64 (0), .int .i64 (0)]) [.val .nilFunc]) (bt t 270 (bt t 269 [.val .nilFunc] [.int .i32 (0), .int .i32 (0), .int .i32 (0), .int .i32 (0), .int .i32 (0), .int .i32 (0), .int .i32 (0), .int .i32 (0), .int .i32 (0), .int .i32 (0), .int .i32 (0), .int .i32 (0), .int .i32 (0), .int .i32 (0), .int .i32 (0), .int .i32 (0), .int .i32 (0), .int .i32 (0), .int .i32 (0), .int .i32 (0), .int .i32 (0), .int .i32 (0), .int .i32 (0), .int .i32 (0)]) (bt t 271 [.val .nilFunc] (bt t 272 [.int .u8 (0), .int .u8 (0), .int .u8 (0), .int .u8 (0), .int .u8 (0), .int .u8 (0), .int .u8 (0), .int .u8 (0), .int .u8 (0), .int .u8 (0), .int .u8 (0), .int .u8 (0), .int .u8 (0), .int .u8 (0), .int .u8 (0), .int .u8 (0), .int .u8 (0), .int .u8 (0), .int .u8 (0), .int .u8 (0), .int .u8 (0), .int .u8 (0), .int .u8 (0), .int .u8 (0), .int .u8 (0), .int .u8 (0), .int .u8 (0), .int .u8 (0), .int .u8 (0), .int .u8 (0), .int .u8 (0), .int .u8 (0)] [.int .u8 (0), .int .u8 (0), .int .u8 (0), .int .u8 (0), .int .u8 (0), .int .u8 (0), .int .u8 (0), .int .u8 (0), .int .u8 (0), .int .u8 (0), .int .u8 (0), .int .u8 (0), .int .u8 (0), .int .u8 (0), .int .u8 (0), .int .u8 (0), .int .u8 (0), .int .u8 (0), .int .u8 (0), .int .u8 (0), .int .u8 (0), .int .u8 (0), .int .u8 (0), .int .u8 (0), .int .u8 (0), .int .u8 (0), .int .u8 (0), .int .u8 (0), .int .u8 (0), .int .u8 (0), .int .u8 (0), .int .u8 (0), .int .u8 (0), .int .u8 (0), .int .u8 (0), .int .u8 (0), .int .u8 (0), .int .u8 (0), .int .u8 (0), .int .u8 (0), .int .u8 (0), .int .u8 (0), .int .u8 (0), .int .u8 (0), .int .u8 (0), .int .u8 (0), .int .u8 (0), .int .u8 (0), .int .u8 (0), .int .u8 (0), .int .u8 (0), .int .u8 (0), .int .u8 (0), .int .u8 (0), .int .u8 (0), .int .u8 (0), .int .u8 (0), .int .u8 (0), .int .u8 (0), .int .u8 (0), .int .u8 (0), .int .u8 (0), .int .u8 (0), .int .u8 (0)]))))) (bt t 282 (bt t 277 (bt t 275 (bt t 274 [.int .i64 (0), .int .i64 (0), .int .i64 (0), .int .i64 (0), .int .i64 (0)] []) [.int .u8 (0), .int .u8 (0)]) (bt t 279 (bt t 278 [.int .u8 (0), .int .u8 (0), .int .u8 (0), .int .u8 (0), .int .u8 (0), .int .u8 (0), .int .u8 (0), .int .u8 (0), .int .u8 (0), .int .u8 (0), .int .u8 (0), .int .u8 (0), .int .u8 (0), .int .u8 (0), .int .u8 (0), .int .u8 (0), .int .u8 (0), .int .u8 (0), .int .u8 (0), .int .u8 (0), .int .u8 (0), .int .u8 (0), .int .u8 (0), .int .u8 (0), .int .u8 (0), .int .u8 (0), .int .u8 (0), .int .u8 (0), .int .u8 (0), .int .u8 (0), .int .u8 (0), .int .u8 (0)] []) (bt t 280 [.val .nilFunc] ([.val (.pointer none), .val (.pointer none), .val (.pointer none), .str []])))) (bt t 287 (bt t 284 [] (bt t 285 [] [.int .u8 (0)])) (bt t 289 (bt t 288 [.val .nilFunc] [.int .i32 (0)]) (bt t 290 [.int .i32 (0)] [.int .u64 (0), .int .u64 (0), .int .u32 (0), .int .u8 (0), .int .u8 (0), .int .u8 (0), .int .u8 (0), .val .nilFunc, .val (.pointer none), .int .i32 (0), .int .i32 (0)])))))))) []
def Z93 (t : TypeId) : Nat := bt t 292 (bt t 145 (bt t 72 (bt t 35 (bt t 17 (bt t 8 (bt t 3 (bt t 1 (bt t 0 0 8) 8) (bt t 5 1 (bt t 6 1 24))) (bt t 12 (bt t 10 16 (bt t 11 16 8)) (bt t 14 24 8))) (bt t 26 (bt t 21 (bt t 19 8 (bt t 20 16 4)) (bt t 23 (bt t 22 24 8) (bt t 24 24 8))) (bt t 30 (bt t 28 8 (bt t 29 24 8)) (bt t 32 (bt t 31 24 8) (bt t 33 0 (bt t 34 8 0)))))) (bt t 53 (bt t 44 (bt t 39 (bt t 37 8 (bt t 38 8 32)) (bt t 41 (bt t 40 32 8) 8)) (bt t 48 (bt t 46 (bt t 45 8 0) (bt t 47 8 0)) (bt t 50 8 (bt t 51 24 (bt t 52 8 0))))) (bt t 62 (bt t 57 8 (bt t 59 (bt t 58 8 520) 8)) (bt t 67 (bt t 64 (bt t 63 8 56) (bt t 65 56 224)) (bt t 69 8 (bt t 70 8 24)))))) (bt t 108 (bt t 90 (bt t 81 (bt t 76 (bt t 74 104 8) (bt t 78 24 (bt t 79 48 (bt t 80 48 32)))) (bt t 85 (bt t 83 (bt t 82 32 8) 8) 8)) (bt t 99 (bt t 94 (bt t 92 80 (bt t 93 224 8)) (bt t 96 (bt t 95 0 8) (bt t 97 8 (bt t 98 8 136)))) (bt t 103 (bt t 101 (bt t 100 136 8) 8) (bt t 105 8 (bt t 106 32 8))))) (bt t 126 (bt t 117 (bt t 112 8 (bt t 114 (bt t 113 8 0) 8)) (bt t 121 (bt t 119 (bt t 118 8 0) (bt t 120 8 24)) (bt t 123 (bt t 122 8 0) 8))) (bt t 135 8 (bt t 140 (bt t 137 (bt t 136 8 32) (bt t 138 256 (bt t 139 256 8))) (bt t 142 (bt t 141 24 8) 8)))))) (bt t 218 (bt t 181 (bt t 163 (bt t 154 (bt t 149 (bt t 147 256 (bt t 148 8 24)) (bt t 151 24 8)) (bt t 158 8 (bt t 160 8 (bt t 161 8 (bt t 162 0 8))))) (bt t 172 (bt t 167 8 (bt t 169 (bt t 168 8 4) 8)) (bt t 176 (bt t 174 (bt t 173 8 24) 32) (bt t 178 16 (bt t 179 0 (bt t 180 8 48)))))) (bt t 199 (bt t 190 (bt t 185 (bt t 183 8 72) (bt t 187 288 (bt t 188 24 8))) (bt t 194 (bt t 192 8 128) (bt t 196 (bt t 195 0 8) 8))) (bt t 208 8 (bt t 213 8 (bt t 215 (bt t 214 0 8) (bt t 216 8 (bt t 217 8 152))))))) (bt t 255 (bt t 236 (bt t 227 (bt t 222 (bt t 220 (bt t 219 152 8) (bt t 221 8 24)) 8) (bt t 231 (bt t 229 (bt t 228 8 24) (bt t 230 8 0)) (bt t 233 8 (bt t 234 0 8)))) (bt t 245 (bt t 240 (bt t 238 (bt t 237 0 8) 8) (bt t 242 (bt t 241 0 8) 8)) (bt t 250 (bt t 247 8 (bt t 248 8 (bt t 249 160 65))) (bt t 252 8 (bt t 253 8 (bt t 254 8 24)))))) (bt t 273 (bt t 264 (bt t 259 (bt t 257 (bt t 256 24 8) 8) (bt t 261 8 (bt t 262 20 8))) (bt t 268 (bt t 266 (bt t 265 8 224) 8) (bt t 270 (bt t 269 8 96) (bt t 271 8 (bt t 272 32 64))))) (bt t 282 (bt t 277 (bt t 275 (bt t 274 40 256) 2) (bt t 279 (bt t 278 32 0) (bt t 280 8 40))) (bt t 287 (bt t 284 0 (bt t 285 0 1)) (bt t 289 (bt t 288 8 4) (bt t 290 4 48)))))))) 0
def Z7c (t : TypeId) : Option (List CK) := bt t 292 (bt t 145 (bt t 72 (bt t 35 none (bt t 53 (bt t 44 (bt t 39 none (bt t 41 (bt t 40 (some [.str, .str]) none) none)) none) (bt t 62 none (bt t 67 (bt t 64 none (bt t 65 (some [.int .i64, .str, .str, .str]) (bt t 66 none (some [.int .i64, .str, .str, .str, .int .i64, .str, .str, .str, .int .i64, .str, .str, .str, .int .i64, .str, .str, .str])))) none)))) (bt t 108 (bt t 90 (bt t 81 none (bt t 85 (bt t 83 (bt t 82 (some [.int .i64, .str, .int .i64]) none) none) none)) (bt t 99 (bt t 94 (bt t 92 none (bt t 93 (some [.int .i64, .str, .str, .str, .int .i64, .str, .str, .str, .int .i64, .str, .str, .str, .int .i64, .str, .str, .str]) none)) none) none)) (bt t 126 none (bt t 135 none (bt t 140 (bt t 137 (bt t 136 none (some [.int .i64, .int .i64, .int .i64, .int .i64])) (bt t 138 none (bt t 139 (some [.int .i64, .str, .str, .str, .int .i64, .str, .str, .str, .int .i64, .str, .str, .str, .int .i64, .str, .str, .str, .int .i64, .int .i64, .int .i64, .int .i64]) none))) none))))) (bt t 218 (bt t 181 (bt t 163 (bt t 154 (bt t 149 (bt t 147 (bt t 146 none (some [.int .i64, .str, .str, .str, .int .i64, .str, .str, .str, .int .i64, .str, .str, .str, .int .i64, .str, .str, .str, .int .i64, .int .i64, .int .i64, .int .i64])) none) none) none) (bt t 172 none (bt t 176 none (bt t 178 none (bt t 179 none (bt t 180 none (some [.str, .str, .str]))))))) (bt t 199 (bt t 190 (bt t 185 (bt t 183 none (bt t 184 none (some [.bool, .int .i64, .int .i64, .str, .str, .str]))) (bt t 187 (some [.bool, .int .i64, .int .i64, .str, .str, .str, .bool, .int .i64, .int .i64, .str, .str, .str, .bool, .int .i64, .int .i64, .str, .str, .str, .bool, .int .i64, .int .i64, .str, .str, .str]) none)) none) none)) (bt t 255 (bt t 236 (bt t 227 none (bt t 231 (bt t 229 (bt t 228 none (some [.int .u8, .int .u8, .int .u8, .int .u8, .int .u8, .int .u8, .int .u8, .int .u8, .int .u8, .int .u8, .int .u8, .int .u8, .int .u8, .int .u8, .int .u8, .int .u8, .int .u8, .int .u8, .int .u8, .int .u8, .int .u8, .int .u8, .int .u8, .int .u8])) none) none)) (bt t 245 none (bt t 250 (bt t 247 none (bt t 248 none (bt t 249 (some [.int .u64, .int .u64, .int .u64, .int .u64, .int .u64, .int .u64, .int .u64, .int .u64, .int .u64, .int .u64, .int .u64, .int .u64, .int .u64, .int .u64, .int .u64, .int .u64, .int .u64, .int .u64, .int .u64, .int .u64]) none))) none))) (bt t 273 (bt t 264 (bt t 259 none (bt t 261 none (bt t 262 (some [.int .i32, .int .i32, .int .i32, .int .i32, .int .i32]) none))) (bt t 268 (bt t 266 (bt t 265 none (some [.int .i64, .int .i64, .int .i64, .int .i64, .int .i64, .int .i64, .int .i64, .int .i64, .int .i64, .int .i64, .int .i64, .int .i64, .int .i64, .int .i64, .int .i64, .int .i64, .int .i64, .int .i64, .int .i64, .int .i64, .int .i64, .int .i64, .int .i64, .int .i64, .int .i64, .int .i64, .int .i64, .int .i64])) none) (bt t 270 (bt t 269 none (some [.int .i32, .int .i32, .int .i32, .int .i32, .int .i32, .int .i32, .int .i32, .int .i32, .int .i32, .int .i32, .int .i32, .int .i32, .int .i32, .int .i32, .int .i32, .int .i32, .int .i32, .int .i32, .int .i32, .int .i32, .int .i32, .int .i32, .int .i32, .int .i32])) (bt t 271 none (bt t 272 (some [.int .u8, .int .u8, .int .u8, .int .u8, .int .u8, .int .u8, .int .u8, .int .u8, .int .u8, .int .u8, .int .u8, .int .u8, .int .u8, .int .u8, .int .u8, .int .u8, .int .u8, .int .u8, .int .u8, .int .u8, .int .u8, .int .u8, .int .u8, .int .u8, .int .u8, .int .u8, .int .u8, .int .u8, .int .u8, .int .u8, .int .u8, .int .u8]) (some [.int .u8, .int .u8, .int .u8, .int .u8, .int .u8, .int .u8, .int .u8, .int .u8, .int .u8, .int .u8, .int .u8, .int .u8, .int .u8, .int .u8, .int .u8, .int .u8, .int .u8, .int .u8, .int .u8, .int .u8, .int .u8, .int .u8, .int .u8, .int .u8, .int .u8, .int .u8, .int .u8, .int .u8, .int .u8, .int .u8, .int .u8, .int .u8, .int .u8, .int .u8, .int .u8, .int .u8, .int .u8, .int .u8, .int .u8, .int .u8, .int .u8, .int .u8, .int .u8, .int .u8, .int .u8, .int .u8, .int .u8, .int .u8, .int .u8, .int .u8, .int .u8, .int .u8, .int .u8, .int .u8, .int .u8, .int .u8, .int .u8, .int .u8, .int .u8, .int .u8, .int .u8, .int .u8, .int .u8, .int .u8])))))) (bt t 282 (bt t 277 (bt t 275 (bt t 274 (some [.int .i64, .int .i64, .int .i64, .int .i64, .int .i64]) none) (bt t 276 none (some [.int .u8, .int .u8]))) (bt t 279 (bt t 278 (some [.int .u8, .int .u8, .int .u8, .int .u8, .int .u8, .int .u8, .int .u8, .int .u8, .int .u8, .int .u8, .int .u8, .int .u8, .int .u8, .int .u8, .int .u8, .int .u8, .int .u8, .int .u8, .int .u8, .int .u8, .int .u8, .int .u8, .int .u8, .int .u8, .int .u8, .int .u8, .int .u8, .int .u8, .int .u8, .int .u8, .int .u8, .int .u8]) none) none)) none))))) none
def Zaa (t : TypeId) : Option (Bool × List CK) := bt t 292 (bt t 145 (bt t 72 (bt t 35 (bt t 17 (bt t 8 none (bt t 12 (bt t 10 (bt t 9 (some (false, [.str])) none) none) none)) none) none) (bt t 108 (bt t 90 none (bt t 99 (bt t 94 (bt t 92 none (bt t 93 (some (true, [.int .i64, .str, .str, .str, .int .i64, .str, .str, .str, .int .i64, .str, .str, .str, .int .i64, .str, .str, .str])) none)) none) none)) none)) none) none
def uint64pow10Ints : List Int := [1, 10, 100, 1000, 10000, 100000, 1000000, 10000000, 100000000, 1000000000, 10000000000, 100000000000, 1000000000000, 10000000000000, 100000000000000, 1000000000000000, 10000000000000000, 100000000000000000, 1000000000000000000, 10000000000000000000]
def Z0G : List Value := uint64pow10Ints.map fun x => .int .u64 x
def tab : Tab := { sh := ZbT, size := ZaP, zero := Z7b, bytes := Z93, flat := Z7c, key := Zaa, globs := [(1, .tbl Z0G)], bld := some (176, 5) }
theorem Z2 : TabOK Tryz.prog tab := by
 refine Z91 293 (by kernel_rfl) (fun t ht => ?_)
 have h : Nat.ble t 292 = false := by
   cases e : Nat.ble t 292
   · rfl
   · have := Nat.le_of_ble_eq_true e; omega
 exact ⟨by (simp only [tab, ZbT] <;> first | exact Z92 h | rfl), by (simp only [tab, Z7b] <;> first | exact Z92 h | rfl), by (simp only [tab, Z7c] <;> first | exact Z92 h | rfl), by (simp only [tab, Zaa] <;> first | exact Z92 h | rfl)⟩
theorem mixed : Tryz.prog.follows .mixedOrders = true := by kernel_rfl
end Go.Proofs.YtbfbokdccdagkaaGreatDoor
set_option linter.unusedVariables false
set_option linter.unusedSimpArgs false
set_option maxRecDepth 20000
set_option maxHeartbeats 8000000
namespace Go.Proofs.YtbfbokdccdagkaaGreatDoor
open Go.Sx Go.Our
def Z7t : Plan := (ZB [(0, 1), (2, 1), (5, 1), (7, 1), (10, 1), (12, 1), (15, 1), (17, 1), (1, 2), (3, 2), (6, 2), (8, 2), (11, 2), (13, 2), (16, 2), (18, 2), (4, 3), (9, 3), (14, 3), (19, 3), (20, 3), (21, 3), (22, 1)])
theorem Z5Z (a : Int) : Does Tryz.prog tab 139 0 [.int .i64 a] [] [] (Val (.bool false)) := by
 refine Does.enter Z2 (g := 139) (fn := Tryz.f139) Tryz.call139 Tryz.func139 rfl 6 rfl rfl [.tmp 2] rfl ?_
 intro w0 F η0 h0
 conv => whnf
 exact FIN.value h0 rfl (by simp)
theorem Z3r (a b : Int) : Does Tryz.prog tab 111 0 [.int .i64 a, .int .i64 b] [] [] (Val (.int .i64 (cmpI a b))) := by
 refine Does.enter Z2 (g := 111) (fn := Tryz.f111) Tryz.call111 Tryz.func111 rfl 20 rfl rfl [.tmp 4] rfl ?_
 intro w0 F η0 h0
 conv => whnf
 repeat' ((first | refine CALL.value (Z5Z _) rfl rfl ?_ | refine AU ?_ | (refine IW (fun h => ?_) (fun h => ?_) <;> try (exfalso; omega))) <;> conv => whnf)
 all_goals
   refine FIN.value h0 rfl (congrArg (SV.int _) ?_)
   unfold cmpI
   (repeat' split) <;> simp_all <;> omega
theorem Z4k (a b : List UInt8) : Does Tryz.prog tab 173 0 [.str a, .str b] [] [] (Val (.int .i64 (cmpL a b))) := by
 refine Does.says fun η w vs hd => ?_
 simp only [DenL, Den] at hd
 obtain ⟨u, us, rfl, rfl, u', us', rfl, rfl, rfl⟩ := hd
 refine ⟨_, ?_, rfl⟩
 rw [run_callFunc_extern Tryz.func173 (by kernel_rfl) (by kernel_rfl) (by kernel_rfl) (e := Extern.BytealgCompare.compare) (by kernel_rfl), Lib.run_compareString]
 rfl
theorem Z1d (a b : List UInt8) : Does Tryz.prog tab 140 0 [.str a, .str b] [] [] (Val (.int .i64 (cmpL a b))) := by
 refine Does.enter Z2 (g := 140) (fn := Tryz.f140) Tryz.call140 Tryz.func140 rfl 8 rfl rfl [.tmp 4] rfl ?_
 intro w0 F η0 h0
 conv => whnf
 repeat' ((first | refine CALL.value (Z4k _ _) rfl rfl ?_ | refine AU ?_ | (refine IW (fun h => ?_) (fun h => ?_) <;> try (exfalso; omega))) <;> conv => whnf)
 exact FIN.value h0 rfl rfl
theorem VR (a b : List UInt8) : Does Tryz.prog tab 112 0 [.str a, .str b] [] [] (Val (.int .i64 (cmpL a b))) := by
 refine Does.enter Z2 (g := 112) (fn := Tryz.f112) Tryz.call112 Tryz.func112 rfl 8 rfl rfl [.tmp 4] rfl ?_
 intro w0 F η0 h0
 conv => whnf
 repeat' ((first | refine CALL.value (Z1d _ _) rfl rfl ?_ | refine AU ?_ | (refine IW (fun h => ?_) (fun h => ?_) <;> try (exfalso; omega))) <;> conv => whnf)
 exact FIN.value h0 rfl rfl
def Z7u (x : Int) : List SV := [.int .i64 x]
theorem Z7v (xs : List Int) (hn : xs.length ≤ 1152921504606846976) : Does Tryz.prog tab 87 1 [.sl (.loc 0) 0 1 xs.length none] [] [(0, .rows 1 (xs.map Z7u))] (ValK 1 (.int .i64 (orI xs))) := by
 refine Does.enter Z2 (g := 87) (fn := Tryz.f87) Tryz.call87 Tryz.func87 rfl 18 rfl rfl [.tmp 2] rfl ?_
 intro w0 F η0 h0
 conv => whnf
 refine LOOP.go Z2 [3, 6, 7] (X := Nat) (fun i => i ≤ xs.length ∧ orI xs = orI (xs.drop i)) (fun i => [(8, .int .i64 (i : Int))]) (fun i => []) 1 (fun i => xs.length - i) 0 ⟨by omega, rfl⟩ ?_
 conv => whnf
 refine ⟨by exact GOES.cA h0, ?_⟩
 rintro i ⟨hi, ho⟩
 conv => whnf
 repeat' ((first | (refine GET.at (row := Z7u (xs[i]'(by omega))) (by rw [List.getElem?_map, show 0 + (i : Int).toNat = i by omega, List.getElem?_eq_getElem (by omega)]; rfl) ?_; conv => whnf) | refine AU ?_ | (refine IW (fun h => ?_) (fun h => ?_) <;> try (exfalso; omega))) <;> conv => whnf)
 · have hl : i < xs.length := by omega
   refine FIN.valueK h0 rfl (congrArg (SV.int _) ?_)
   rw [ho, List.drop_eq_getElem_cons hl]; simp only [orI]; rw [if_pos h]
 · have hl : i < xs.length := by omega
   refine ⟨i + 1, ⟨by omega, ?_⟩, by omega, ?_⟩
   · rw [ho, List.drop_eq_getElem_cons hl]; simp only [orI]; rw [if_neg (by simpa using h)]
   · conv => whnf
     exact GOES.cA h0
 · refine FIN.valueK h0 rfl (congrArg (SV.int _) ?_)
   rw [ho, List.drop_eq_nil_of_le (by omega)]; rfl
abbrev tmR (x : Tm) : List SV := [.int .i64 x.k, .str x.t, .str x.y, .str x.l]
theorem Vu (a b : Tm) : Does Tryz.prog tab 88 0 [.agg (tmR a), .agg (tmR b)] [] [] (Val (.int .i64 (Y9 a b))) := by
 refine Does.enter Z2 (g := 88) (fn := Tryz.f88) Tryz.call88 Tryz.func88 rfl 27 rfl rfl [.tmp 4] rfl ?_
 intro w0 F η0 h0
 conv => whnf
 repeat' ((first | refine DRAWN.of (id := 1) Z2 mixed Z7t (by kernel_rfl) ?_ | refine ADD.mk (fun _ _ => ?_) | refine AD ?_ | refine FORK.mk ?_ ?_ | refine CALL.value (Z3r a.k b.k) rfl rfl ?_ | refine CALL.value (VR a.t b.t) rfl rfl ?_ | refine CALL.value (VR a.y b.y) rfl rfl ?_ | refine CALL.value (VR a.l b.l) rfl rfl ?_ | (refine CALL.looks [2] (Z7v [cmpI a.k b.k, cmpL a.t b.t, cmpL a.y b.y, cmpL a.l b.l] (by simp)) rfl rfl rfl rfl ⟨⟨rfl, rfl, rfl⟩, trivial⟩ ?_; conv => whnf) | refine AU ?_ | (refine IW (fun h => ?_) (fun h => ?_) <;> try (exfalso; omega))) <;> conv => whnf)
 exact FIN.value h0 rfl (by rw [← Zad])
theorem Z60 (a b : Qd) : Does Tryz.prog tab 61 0 [.agg a.row, .agg b.row] [] [] (Val (.int .i64 (Zx a b))) := by
 refine Does.enter Z2 (g := 61) (fn := Tryz.f61) Tryz.call61 Tryz.func61 rfl 27 rfl rfl [.tmp 4] rfl ?_
 intro w0 F η0 h0
 conv => whnf
 repeat' ((first | refine DRAWN.of (id := 1) Z2 mixed Z7t (by kernel_rfl) ?_ | refine ADD.mk (fun _ _ => ?_) | refine AD ?_ | refine FORK.mk ?_ ?_ | refine CALL.value (Vu a.g b.g) rfl rfl ?_ | refine CALL.value (Vu a.s b.s) rfl rfl ?_ | refine CALL.value (Vu a.p b.p) rfl rfl ?_ | refine CALL.value (Vu a.o b.o) rfl rfl ?_ | (refine CALL.looks [2] (Z7v [Y9 a.g b.g, Y9 a.s b.s, Y9 a.p b.p, Y9 a.o b.o] (by simp)) rfl rfl rfl rfl ⟨⟨rfl, rfl, rfl⟩, trivial⟩ ?_; conv => whnf) | refine AU ?_ | (refine IW (fun h => ?_) (fun h => ?_) <;> try (exfalso; omega))) <;> conv => whnf)
 exact FIN.value h0 rfl (by rw [← Zae])
theorem Z61 (a b : List UInt8) : Does Tryz.prog tab 131 0 [.str a, .str b] [] [] (Val (.int .i64 (cmpL a b))) := by
 have hr := triL.rng a b
 have ha := triL.anti a b
 have h1 := Z0P a b
 have h2 := Z0P b a
 have h3 : (a == b) = decide (cmpL a b = 0) := by rw [Bool.eq_iff_iff]; simp [triL.zero]
 refine Does.enter Z2 (g := 131) (fn := Tryz.f131) Tryz.call131 Tryz.func131 rfl 13 rfl rfl [.tmp 4] rfl ?_
 intro w0 F η0 h0
 conv => whnf
 repeat' ((first | refine AU ?_ | (refine IW (fun h => ?_) (fun h => ?_) <;> try (exfalso; omega))) <;> conv => whnf)
 all_goals
   refine FIN.value h0 rfl (congrArg (SV.int _) ?_)
   simp only [h1, h2, h3, decide_eq_true_eq, decide_eq_false_iff_not] at *
   have hz := triL.zero a b
   simp only [← hz] at *
   omega
theorem ZQ (a b : Tm) : Does Tryz.prog tab 105 0 [.agg (tmR a), .agg (tmR b)] [] [] (Val (.int .i64 (Y9 a b))) := by
 refine Does.enter Z2 (g := 105) (fn := Tryz.f105) Tryz.call105 Tryz.func105 rfl 36 rfl rfl [.tmp 4] rfl ?_
 intro w0 F η0 h0
 conv => whnf
 repeat' ((first | refine CALL.value (Z61 _ _) rfl rfl ?_ | refine AU ?_ | (refine IW (fun h => ?_) (fun h => ?_) <;> try (exfalso; omega))) <;> conv => whnf)
 all_goals
   refine FIN.value h0 rfl (congrArg (SV.int _) ?_)
   rw [← Zad]
   simp only [orI, cmpI]
   (repeat' split) <;> simp_all <;> omega
theorem VS (a b : Qd) : Does Tryz.prog tab 101 0 [.agg a.row, .agg b.row] [] [] (Val (.int .i64 (Zx a b))) := by
 refine Does.enter Z2 (g := 101) (fn := Tryz.f101) Tryz.call101 Tryz.func101 rfl 33 rfl rfl [.tmp 4] rfl ?_
 intro w0 F η0 h0
 conv => whnf
 repeat' ((first | refine CALL.value (ZQ a.g b.g) rfl rfl ?_ | refine CALL.value (ZQ a.s b.s) rfl rfl ?_ | refine CALL.value (ZQ a.p b.p) rfl rfl ?_ | refine CALL.value (ZQ a.o b.o) rfl rfl ?_ | refine AU ?_ | (refine IW (fun h => ?_) (fun h => ?_) <;> try (exfalso; omega))) <;> conv => whnf)
 all_goals
   refine FIN.value h0 rfl (congrArg (SV.int _) ?_)
   rw [← Zae]
   simp only [orI]
   (repeat' split) <;> simp_all
end Go.Proofs.YtbfbokdccdagkaaGreatDoor
namespace Go.Proofs.YtbfbokdccdagkaaGreatDoor
open Go.Sx Go.Our
theorem ZaU {l c : Int} {b : Nat} (B : Nat) (hb : Nat.ble b B = true) (h0 : 0 ≤ l) (h1 : l ≤ c) (h2 : (B : Int) * c ≤ 281474976710656 ∧ c ≤ 9223372036854775807) : 0 ≤ l ∧ l ≤ c ∧ c ≤ 9223372036854775807 ∧ (b : Int) * c ≤ 281474976710656 :=
 ⟨h0, h1, h2.2, Int.le_trans (Int.mul_le_mul_of_nonneg_right (by have := Nat.le_of_ble_eq_true hb; omega) (by omega)) h2.1⟩
abbrev JI (l : List Qd) : Prop := l.length * 224 ≤ 140737488351232
theorem Z62 {l z : List Qd} {i : Nat} (h : i < l.length) : ((l ++ z).map Zc)[i]? = some (Zc l[i]) := by
 rw [List.getElem?_map, List.getElem?_append_left h, List.getElem?_eq_getElem h]; rfl
end Go.Proofs.YtbfbokdccdagkaaGreatDoor
namespace Go.Proofs.YtbfbokdccdagkaaGreatDoor
open Go.Sx Go.Our Go.Sort Go.Shelf
def Wx : Plan := (ZB [(0, 1), (1, 1), (2, 1), (4, 1), (5, 1), (6, 1), (7, 1), (3, 2), (8, 2), (9, 1)])
abbrev Zd1 (l : List Tm) : Prop := l.length * 224 ≤ 140737488351232
theorem Z1J {α : Type} (f : α → List SV) {C l : List α} {j : Nat} (h1 : C.length ≤ j) (h2 : j < l.length) : ((C ++ l.drop C.length).map f)[j]? = some (f l[j]) := by
 rw [List.getElem?_map, List.getElem?_append_right h1, List.getElem?_drop, show C.length + (j - C.length) = j by omega, List.getElem?_eq_getElem h2]; rfl
theorem Z7A {α : Type} (f : α → List SV) {C l : List α} (x : α) (h : C.length < l.length) : ((C ++ l.drop C.length).map f).set C.length (f x) = ((C ++ [x]) ++ l.drop (C ++ [x]).length).map f := by
 rw [Z2k, List.set_append_right _ _ (Nat.le_refl _), Nat.sub_self, List.drop_eq_getElem_cons h, List.set_cons_zero]
 simp
theorem Z3u {α : Type} (f : α → List SV) {C l : List α} (z : α) (h : C.length ≤ l.length) : ((C ++ l.drop C.length).map f).take C.length ++ List.replicate (l.length - C.length) (f z) ++ ((C ++ l.drop C.length).map f).drop (C.length + (l.length - C.length)) = (C ++ List.replicate (l.length - C.length) z).map f := by
 have h1 : ((C ++ l.drop C.length).map f).length = l.length := by simp; omega
 rw [List.drop_of_length_le (l := (C ++ l.drop C.length).map f) (by omega), List.append_nil, List.map_append, List.map_append, List.map_replicate, List.take_append_of_le_length (by simp), List.take_of_length_le (by simp)]
theorem Z65 {rs : List (List SV)} {i j : Nat} {row : List SV} (h : rs[i]? = some row) (e : j = i) : rs[j]? = some row := e ▸ h
theorem Z4m (l z : List Qd) (lim : Option Nat) (hl : l.length * 224 ≤ 140741783322624) : Does Tryz.prog tab 93 1 [.sl (.loc 0) 0 16 l.length lim] [] [(0, .rows 16 ((l ++ z).map Zc))]
   (fun r O nx => r = .sl (.loc 1) 0 16 l.length none ∧ O = [(1, .rows 16 (l.map Zc))] ∧ nx = 2) := by
 refine Does.enter Z2 (g := 93) (fn := Tryz.f93) Tryz.call93 Tryz.func93 rfl 8 rfl rfl [.tmp 2] rfl ?_
 intro w0 F η0 h0
 conv => whnf
 repeat' ((first | (rw [Z3q]; conv => whnf) | (refine NEED.mk (Zu 224 rfl rfl (by simp) (by simp) (by omega)) ?_; conv => whnf) | refine AU ?_ | ((with_reducible refine UNK.mk (fun h => ?_) ?_) <;> try (exfalso; omega)) | (refine IW (fun h => ?_) (fun h => ?_) <;> try (exfalso; omega))) <;> conv => whnf)
 · have : l = [] := List.length_eq_zero_iff.1 h
   subst this
   refine FIN.nil 16 ?_
   exact FIN.rows h0 1 16 0 rfl rfl rfl rfl ⟨rfl, rfl, rfl⟩
 · rw [Nat.zero_add]
   exact FIN.rows h0 2 16 l.length rfl rfl rfl (Zl _) ⟨rfl, rfl, rfl⟩
theorem Z66 (l : List Qd) (n : Nat) (hn : n ≤ l.length) (hl : l.length * 224 ≤ 140741783322624) : Does Tryz.prog tab 95 1 [.sl (.loc 0) 0 16 n none] [(0, .rows 16 (l.map Zc))] []
   (fun r O nx => r = .sl (.loc 0) 0 16 n (some n) ∧ O = [(0, .rows 16 (l.map Zc))] ∧ nx = 1) := by
 refine Does.enter Z2 (g := 95) (fn := Tryz.f95) Tryz.call95 Tryz.func95 rfl 9 rfl rfl [.tmp 2] rfl ?_
 intro w0 F η0 h0
 conv => whnf
 repeat' ((first | (refine NEED.mk ⟨by omega, by omega, by omega⟩ ?_; conv => whnf) | refine AU ?_ | (refine IW (fun h => ?_) (fun h => ?_) <;> try (exfalso; omega))) <;> conv => whnf)
 refine FIN.here h0 (rc := .sl (.loc 0) 0 16 n (some n)) (Oc := [(0, .rows 16 (l.map Zc))]) (by simp) rfl (by first | rfl | (simp only [Zd, Za, Z0 _ (Zl _), Bool.and_self, Bool.and_true] <;> rfl)) ⟨rfl, trivial⟩ ⟨rfl, rfl, rfl⟩
theorem Z2m (l : List Qd) (hl : l.length * 224 ≤ 140741783322624) : Does Tryz.prog tab 96 1 [.sl (.loc 0) 0 16 l.length none] [(0, .rows 16 (l.map Zc))] []
   (fun r O nx => r = .sl (.loc 0) 0 16 (Z3 l).length none ∧ O = [(0, .rows 16 ((Z3 l ++ List.replicate (l.length - (Z3 l).length) YR).map Zc))] ∧ nx = 1) := by
 have fin : ∀ {m : Nat}, m = (Z3 l).length → Z3 l = l → (SV.sl (.loc 0) 0 16 l.length none = SV.sl (.loc 0) 0 16 (Z3 l).length none) ∧ l.map Zc = (Z3 l ++ List.replicate (l.length - (Z3 l).length) YR).map Zc := fun hm he => by
   rw [he]; simp
 refine Does.enter Z2 (g := 96) (fn := Tryz.f96) Tryz.call96 Tryz.func96 rfl 61 rfl rfl [.tmp 2] rfl ?_
 intro w0 F η0 h0
 conv => whnf
 refine IF.mk (fun h => ?_) (fun h => ?_)
 · have h : l.length < 2 := by simp at h; omega
   obtain ⟨f1, f2⟩ := fin rfl (VU h)
   conv => whnf
   rw [f1, f2]
   refine FIN.here h0 (rc := .sl (.loc 0) 0 16 (Z3 l).length none) (Oc := [(0, .rows 16 ((Z3 l ++ List.replicate (l.length - (Z3 l).length) YR).map Zc))]) rfl rfl (by first | rfl | (simp only [Zd, Za, Z0 _ (Zl _), Bool.and_self, Bool.and_true] <;> rfl)) ⟨rfl, trivial⟩ ⟨rfl, rfl, rfl⟩
 have h2 : 2 ≤ l.length := by simp at h; omega
 clear h
 conv => whnf
 refine LOOP.go Z2 [0] (X := Nat) (fun k => 1 ≤ k ∧ k ≤ l.length ∧ Z3 (l.take k) = l.take k) (fun k => [(3, .int .i64 (k : Int))]) (fun k => [(0, .rows 16 (l.map Zc))]) 1 (fun k => l.length - k) 1 ⟨by omega, by omega, Z0Q⟩ ?_
 conv => whnf
 refine ⟨by (refine GOES.cutting h0 rfl rfl rfl (by first | rfl | (simp only [Zd, Za, Z0 _ (Zl _), Bool.and_self, Bool.and_true] <;> rfl)) ?_ ?_ <;> (repeat' (first | (with_reducible rfl) | (exact ZP rfl (by first | (simp; done) | omega | (simp; omega))) | (exact congrArg (SV.int _) (by first | omega | (simp (disch := omega) only [lnB, Z8, Zg] <;> omega) | (simp; done) | (simp <;> omega))) | (exact congrArg (Hp.rows _) (by rfl)) | ((conv => whnf); refine ⟨?_, ?_⟩) | exact trivial | rfl))), ?_⟩
 rintro k ⟨hk1, hkl, hk⟩
 conv => whnf
 rcases Nat.lt_or_ge k l.length with hlt | hge
 · have hs := Xp hk1 hlt
   have hk' : (IntKind.i64.wrap ((k : Int) - 1)).toNat = k - 1 := by rw [Z8 (by omega) (by omega)]; omega
   repeat' ((first | refine DRAWN.of (id := 6) Z2 mixed Wx (by kernel_rfl) ?_ | refine DRAWN.of (id := 11) Z2 mixed Wx (by kernel_rfl) ?_ | refine ADD.mk (fun _ _ => ?_) | refine AD ?_ | refine FORK.mk ?_ ?_ | (refine GET.at (row := Zc (l[k]'(by omega))) (Zq (by omega) (by omega)) ?_; conv => whnf) | (refine GET.at (row := Zc (l[k - 1]'(by omega))) (Zq (by omega) (by omega)) ?_; conv => whnf) | refine AU ?_ | (refine IW (fun h => ?_) (fun h => ?_) <;> try (exfalso; omega))) <;> conv => whnf)
   · have heq : l[k] = l[k - 1] := Qd.ext' (by simp only [Zc, Qd.row, List.cons.injEq, SV.int.injEq, SV.str.injEq, true_and, and_true]; exact h)
     rw [if_pos heq, hk] at hs
     have hs0 : (Z3 (l.take (k + 1))).length = k := by rw [hs]; simp; omega
     clear h heq
     refine LOOP.go Z2 [0, 4] (X := Nat) (fun i => k + 1 ≤ i ∧ i ≤ l.length ∧ (Z3 (l.take i)).length + 1 ≤ i ∧ k ≤ (Z3 (l.take i)).length) (fun i => [(3, .int .i64 ((Z3 (l.take i)).length : Int)), (5, .int .i64 ((i - k : Nat) : Int))]) (fun i => [(0, .rows 16 ((Z3 (l.take i) ++ l.drop (Z3 (l.take i)).length).map Zc))]) 1 (fun i => l.length - i) (k + 1) ⟨by omega, by omega, by omega, by omega⟩ ?_
     conv => whnf
     refine ⟨by (refine GOES.cutting h0 rfl rfl rfl (by first | rfl | (simp only [Zd, Za, Z0 _ (Zl _), Bool.and_self, Bool.and_true] <;> rfl)) ?_ ?_ <;> (repeat' (first | (with_reducible rfl) | (exact ZP rfl (by first | (simp; done) | omega | (simp; omega))) | (exact congrArg (SV.int _) (by first | omega | (simp (disch := omega) only [lnB, Z8, Zg] <;> omega) | (simp; done) | (simp <;> omega))) | (exact congrArg (Hp.rows _) (by (rw [hs, List.length_take, Nat.min_eq_left hkl, List.take_append_drop]))) | ((conv => whnf); refine ⟨?_, ?_⟩) | exact trivial | rfl))), ?_⟩
     rintro i ⟨hi1, hi2, hi3, hi4⟩
     obtain ⟨C, hC⟩ : ∃ C, C = Z3 (l.take i) := ⟨_, rfl⟩
     have hsi := fun h => Xp (l := l) (i := i) (by omega) h
     rw [← hC] at hi3 hi4 hsi
     dsimp only
     rw [← hC]
     conv => whnf
     rcases Nat.lt_or_ge i l.length with hil | hil
     · have hsi := hsi hil
       have hwr : IntKind.i64.wrap (((i - k : Nat) : Int) - 1) = ((i - 1 - k : Nat) : Int) := by rw [Z8 (by omega) (by omega)]; omega
       have hg1 : ((C ++ l.drop C.length).map Zc)[i]? = some (Zc l[i]) := Z1J Zc (by omega) hil
       have hg2 : ((C ++ l.drop C.length).map Zc)[i - 1]? = some (Zc (l[i - 1]'(by omega))) := Z1J Zc (by omega) (by omega)
       have hg3 : ((C ++ l.drop C.length).map Zc)[C.length]? = some (Zc (l[C.length]'(by omega))) := Z1J Zc (Nat.le_refl _) (by omega)
       repeat' ((first | refine DRAWN.of (id := 6) Z2 mixed Wx (by kernel_rfl) ?_ | refine DRAWN.of (id := 11) Z2 mixed Wx (by kernel_rfl) ?_ | refine ADD.mk (fun _ _ => ?_) | refine AD ?_ | refine FORK.mk ?_ ?_ | (refine GET.at (row := Zc (l[i]'(by omega))) (Z65 hg1 (by omega)) ?_; conv => whnf) | (refine GET.at (row := Zc (l[i - 1]'(by omega))) (Z65 hg2 (by rw [hwr]; omega)) ?_; conv => whnf) | (refine GET.at (row := Zc (l[C.length]'(by omega))) (Z65 hg3 (by omega)) ?_; conv => whnf) | refine AU ?_ | (refine IW (fun h => ?_) (fun h => ?_) <;> try (exfalso; omega))) <;> conv => whnf)
       · have hne : ¬ l[i] = l[i - 1]'(by omega) := fun he => by rw [he] at h; simp at h
         rw [if_neg hne] at hsi
         refine ⟨i + 1, ⟨by omega, by omega, by rw [hsi, List.length_append]; simp; omega, by rw [hsi, List.length_append]; simp; omega⟩, by omega, ?_⟩
         rw [hsi]
         conv => whnf
         (refine GOES.cutting h0 rfl rfl rfl (by first | rfl | (simp only [Zd, Za, Z0 _ (Zl _), Bool.and_self, Bool.and_true] <;> rfl)) ?_ ?_ <;> (repeat' (first | (with_reducible rfl) | (exact ZP rfl (by first | (simp; done) | omega | (simp; omega))) | (exact congrArg (SV.int _) (by first | omega | (simp (disch := omega) only [lnB, Z8, Zg] <;> omega) | (simp; done) | (simp <;> omega))) | (exact congrArg (Hp.rows _) (by (first | (simp only [Nat.zero_add, Int.toNat_natCast]; exact Z7A Zc _ (by omega)) | rfl))) | ((conv => whnf); refine ⟨?_, ?_⟩) | exact trivial | rfl)))
       · have heq : l[i] = l[i - 1]'(by omega) := Qd.ext' (by simp only [Zc, Qd.row, List.cons.injEq, SV.int.injEq, SV.str.injEq, true_and, and_true]; exact h)
         rw [if_pos heq] at hsi
         refine ⟨i + 1, ⟨by omega, by omega, by rw [hsi]; omega, by rw [hsi]; omega⟩, by omega, ?_⟩
         rw [hsi]
         conv => whnf
         (refine GOES.cutting h0 rfl rfl rfl (by first | rfl | (simp only [Zd, Za, Z0 _ (Zl _), Bool.and_self, Bool.and_true] <;> rfl)) ?_ ?_ <;> (repeat' (first | (with_reducible rfl) | (exact ZP rfl (by first | (simp; done) | omega | (simp; omega))) | (exact congrArg (SV.int _) (by first | omega | (simp (disch := omega) only [lnB, Z8, Zg] <;> omega) | (simp; done) | (simp <;> omega))) | (exact congrArg (Hp.rows _) (by rfl)) | ((conv => whnf); refine ⟨?_, ?_⟩) | exact trivial | rfl)))
     · have hCl : C = Z3 l := by rw [hC, List.take_of_length_le hil]
       have hcl : C.length ≤ l.length := by omega
       repeat' ((first | (refine NEED.mk (by simp only [List.length_map, List.length_append, List.length_drop]; omega) ?_; conv => whnf) | (refine NEED.mk ⟨by omega, Wv (by omega)⟩ ?_; conv => whnf) | refine AU ?_ | (refine IW (fun h => ?_) (fun h => ?_) <;> try (exfalso; omega))) <;> conv => whnf)
       rw [← hCl]
       refine FIN.here h0 (rc := .sl (.loc 0) 0 16 C.length none) (Oc := [(0, .rows 16 ((C ++ List.replicate (l.length - C.length) YR).map Zc))]) (by simp) rfl (by first | rfl | (simp only [Zd, Za, Z0 _ (Zl _), Bool.and_self, Bool.and_true] <;> rfl)) ⟨?_, trivial⟩ ⟨rfl, rfl, rfl⟩
       refine congrArg (Hp.rows 16) ?_
       simp only [Nat.zero_add, Int.toNat_natCast]
       exact Z3u Zc YR hcl
   · have hne : ¬ l[k] = l[k - 1] := fun he => by rw [he] at h; simp at h
     rw [if_neg hne, hk] at hs
     refine ⟨k + 1, ⟨by omega, by omega, by rw [hs, List.take_succ_eq_append_getElem hlt]⟩, by omega, ?_⟩
     conv => whnf
     (refine GOES.cutting h0 rfl rfl rfl (by first | rfl | (simp only [Zd, Za, Z0 _ (Zl _), Bool.and_self, Bool.and_true] <;> rfl)) ?_ ?_ <;> (repeat' (first | (with_reducible rfl) | (exact ZP rfl (by first | (simp; done) | omega | (simp; omega))) | (exact congrArg (SV.int _) (by first | omega | (simp (disch := omega) only [lnB, Z8, Zg] <;> omega) | (simp; done) | (simp <;> omega))) | (exact congrArg (Hp.rows _) (by rfl)) | ((conv => whnf); refine ⟨?_, ?_⟩) | exact trivial | rfl)))
 · have hkn : k = l.length := by omega
   rw [hkn, List.take_of_length_le (Nat.le_refl _)] at hk
   obtain ⟨f1, f2⟩ := fin rfl hk
   repeat' ((first | refine AU ?_ | (refine IW (fun h => ?_) (fun h => ?_) <;> try (exfalso; omega))) <;> conv => whnf)
   rw [f1, f2]
   refine FIN.here h0 (rc := .sl (.loc 0) 0 16 (Z3 l).length none) (Oc := [(0, .rows 16 ((Z3 l ++ List.replicate (l.length - (Z3 l).length) YR).map Zc))]) rfl rfl (by first | rfl | (simp only [Zd, Za, Z0 _ (Zl _), Bool.and_self, Bool.and_true] <;> rfl)) ⟨rfl, trivial⟩ ⟨rfl, rfl, rfl⟩
def Z7B : Go.Shelf.Ren := ⟨fun | 6 => 94 | 15 => 90 | 14 => 125 | 28 => 122 | 29 => 123 | 20 => 147 | 21 => 148 | 22 => 149 | 23 => 150 | 24 => 151 | 25 => 152 | 26 => 153 | 27 => 154 | 46 => 175 | 47 => 142 | 48 => 143 | 49 => 176 | 50 => 177 | 57 => 210 | n => n, fun | 22 => 22 | 24 => 67 | 25 => 103 | 3 => 3 | 39 => 135 | 0 => 0 | 53 => 169 | 55 => 104 | 4 => 4 | 46 => 162 | 45 => 161 | 50 => 114 | 5 => 5 | 9 => 9 | 66 => 198 | 70 => 202 | 76 => 223 | 77 => 119 | n => n, fun | n => n⟩
theorem ZbW : Go.Proofs.SlLaysF0.n6 Tryz.prog Z7B where
 mixed := by kernel_rfl
 f6 := ⟨Tryz.f94.name, by decide, Tryz.func94.trans (congrArg some (by kernel_rfl))⟩
 f14 := ⟨Tryz.f125.name, by decide, Tryz.func125.trans (congrArg some (by kernel_rfl))⟩
 f15 := Tryz.func90.trans (congrArg some (by kernel_rfl))
 f20 := ⟨Tryz.f147.name, by decide, Tryz.func147.trans (congrArg some (by kernel_rfl))⟩
 f21 := ⟨Tryz.f148.name, by decide, Tryz.func148.trans (congrArg some (by kernel_rfl))⟩
 f22 := ⟨Tryz.f149.name, by decide, Tryz.func149.trans (congrArg some (by kernel_rfl))⟩
 f23 := ⟨Tryz.f150.name, by decide, Tryz.func150.trans (congrArg some (by kernel_rfl))⟩
 f24 := ⟨Tryz.f151.name, by decide, Tryz.func151.trans (congrArg some (by kernel_rfl))⟩
 f25 := ⟨Tryz.f152.name, by decide, Tryz.func152.trans (congrArg some (by kernel_rfl))⟩
 f26 := ⟨Tryz.f153.name, by decide, Tryz.func153.trans (congrArg some (by kernel_rfl))⟩
 f27 := ⟨Tryz.f154.name, by decide, Tryz.func154.trans (congrArg some (by kernel_rfl))⟩
 f28 := Tryz.func122.trans (congrArg some (by kernel_rfl))
 f29 := Tryz.func123.trans (congrArg some (by kernel_rfl))
 f46 := ⟨Tryz.f175.name, by decide, Tryz.func175.trans (congrArg some (by kernel_rfl))⟩
 f47 := Tryz.func142.trans (congrArg some (by kernel_rfl))
 f48 := Tryz.func143.trans (congrArg some (by kernel_rfl))
 f49 := ⟨Tryz.f176.name, by decide, Tryz.func176.trans (congrArg some (by kernel_rfl))⟩
 f50 := ⟨Tryz.f177.name, by decide, Tryz.func177.trans (congrArg some (by kernel_rfl))⟩
 f57 := ⟨Tryz.f210.name, by decide, Tryz.func210.trans (congrArg some (by kernel_rfl))⟩
 t0 := Tryz.underlying0
 a0 := Tryz.isAgg0
 z0 := Tryz.sizeOf0
 v0 := Tryz.zeroValue0
 t3 := Tryz.underlying3
 a3 := Tryz.isAgg3
 z3 := Tryz.sizeOf3
 v3 := Tryz.zeroValue3
 t4 := Tryz.underlying4
 a4 := Tryz.isAgg4
 z4 := Tryz.sizeOf4
 v4 := Tryz.zeroValue4
 t5 := Tryz.underlying5
 a5 := Tryz.isAgg5
 z5 := Tryz.sizeOf5
 v5 := Tryz.zeroValue5
 t9 := Tryz.underlying9
 a9 := Tryz.isAgg9
 z9 := Tryz.sizeOf9
 v9 := Tryz.zeroValue9
 t22 := Tryz.underlying22
 a22 := Tryz.isAgg22
 z22 := Tryz.sizeOf22
 v22 := Tryz.zeroValue22
 t25 := Tryz.underlying103
 a25 := Tryz.isAgg103
 z25 := Tryz.sizeOf103
 v25 := Tryz.zeroValue103
 t39 := Tryz.underlying135
 a39 := Tryz.isAgg135
 z39 := Tryz.sizeOf135
 v39 := Tryz.zeroValue135
 t45 := Tryz.underlying161
 a45 := Tryz.isAgg161
 z45 := Tryz.sizeOf161
 v45 := Tryz.zeroValue161
 t46 := Tryz.underlying162
 a46 := Tryz.isAgg162
 z46 := Tryz.sizeOf162
 v46 := Tryz.zeroValue162
 t50 := Tryz.underlying114
 a50 := Tryz.isAgg114
 z50 := Tryz.sizeOf114
 v50 := Tryz.zeroValue114
 t53 := Tryz.underlying169
 a53 := Tryz.isAgg169
 z53 := Tryz.sizeOf169
 v53 := Tryz.zeroValue169
 t55 := Tryz.underlying104
 a55 := Tryz.isAgg104
 z55 := Tryz.sizeOf104
 v55 := Tryz.zeroValue104
 t66 := Tryz.underlying198
 a66 := Tryz.isAgg198
 z66 := Tryz.sizeOf198
 v66 := Tryz.zeroValue198
 t70 := Tryz.underlying202
 a70 := Tryz.isAgg202
 z70 := Tryz.sizeOf202
 v70 := Tryz.zeroValue202
 t76 := Tryz.underlying223
 a76 := Tryz.isAgg223
 z76 := Tryz.sizeOf223
 v76 := Tryz.zeroValue223
 t77 := Tryz.underlying119
 a77 := Tryz.isAgg119
 z77 := Tryz.sizeOf119
 v77 := Tryz.zeroValue119
abbrev strU (s : List UInt8) : Value := .string ⟨s.toArray⟩
def qdE (q : Qd) : List Value := [.int .i64 q.s.k, strU q.s.t, strU q.s.y, strU q.s.l, .int .i64 q.p.k, strU q.p.t, strU q.p.y, strU q.p.l, .int .i64 q.o.k, strU q.o.t, strU q.o.y, strU q.o.l, .int .i64 q.g.k, strU q.g.t, strU q.g.y, strU q.g.l]
instance : Inhabited Tm := ⟨ZC⟩
instance : Inhabited Qd := ⟨YR⟩
theorem Z2n {α : Type} (c : α → α → Int) (x y : α) : ltOf c x y = decide (c x y < 0) := rfl
theorem ZbX {α : Type} {c : α → α → Int} (h : Tri c) : SWO (ltOf c) where
 irrefl x := by rw [Z2n, h.self]; rfl
 trans x y z h1 h2 := by rw [Z2n] at *; simp only [decide_eq_true_iff] at *; exact h.lt_trans h1 (by omega)
 ntrans x y z h1 h2 := by
   rw [Z2n] at *
   simp only [decide_eq_false_iff_not] at *
   intro hc
   have := h.anti x y; have := h.anti y z; have := h.anti x z
   have := h.trans z y x (by omega) (by omega)
   omega
theorem ZbY {α : Type} {c : α → α → Int} (h : Tri c) (x y : α) (h1 : ltOf c x y = false) (h2 : ltOf c y x = false) : x = y := by
 rw [Z2n] at *
 simp only [decide_eq_false_iff_not] at *
 have := h.anti x y
 exact (h.zero x y).1 (by omega)
theorem Z9c {η : Env} : ∀ {vs us : List Value} {cs : List SV}, DenL η cs vs → DenL η cs us → Z1b cs = true → vs = us := fun h h' hd => DetL.of hd _ _ _ h h'
theorem Z67 (l : List Qd) (hl : l.length * 224 ≤ 140741783322624) : Does Tryz.prog tab 94 1 [.sl (.loc 0) 0 16 l.length none, .fn (.func 61) [] []] [(0, .rows 16 (l.map Zc))] []
   (fun r O nx => r = .tup [] ∧ O = [(0, .rows 16 ((l.mergeSort (leC Zx)).map Zc))] ∧ nx = 1) := by
 have hrow : ∀ (η : Env) (q : Qd), DenL η (Zc q) (qdE q) ∧ ∀ u ∈ qdE q, u.oneCell' = true := fun η q => by
   refine ⟨by simp only [Zc, qdE, DenL, Den]; exact ⟨_, _, rfl, rfl, _, _, rfl, rfl, _, _, rfl, rfl, _, _, rfl, rfl, _, _, rfl, rfl, _, _, rfl, rfl, _, _, rfl, rfl, _, _, rfl, rfl, _, _, rfl, rfl, _, _, rfl, rfl, _, _, rfl, rfl, _, _, rfl, rfl, _, _, rfl, rfl, _, _, rfl, rfl, _, _, rfl, rfl, _, _, rfl, rfl, rfl⟩, fun u hu => ?_⟩
   simp only [qdE, List.mem_cons, List.not_mem_nil, or_false] at hu
   rcases hu with rfl | rfl | rfl | rfl | rfl | rfl | rfl | rfl | rfl | rfl | rfl | rfl | rfl | rfl | rfl | rfl <;> rfl
 exact Z2l (enc := qdE) (k := 16) (row := Zc) (cf := Zx) Z2 ZbW ZbW (fun w => by kernel_rfl) (fun w => by kernel_rfl) (fun q => ⟨rfl, rfl⟩) (by omega) (ZbX triQ) (ZbY triQ) rfl (fun x y => Z60 x y) Tryz.call61 Tryz.call94 hrow (fun η x vs h => Z9c h (hrow η x).1 rfl) l (by omega)
end Go.Proofs.YtbfbokdccdagkaaGreatDoor
namespace Go.Proofs.YtbfbokdccdagkaaGreatDoor
open Go.Sx Go.Our
def ZaW : Plan := (ZB [(0, 1), (1, 1), (2, 1), (4, 1), (5, 1), (6, 1), (3, 2), (7, 2), (8, 1)])
def Z7D : Plan := (ZB [(0, 1), (1, 1), (2, 3), (3, 1), (4, 1), (5, 1), (6, 1), (7, 1), (8, 2), (9, 3), (10, 1), (11, 1), (12, 1)])
def Un : Qd := ⟨⟨77, [104, 111, 108, 100, 101, 114], [], []⟩, ZC, ZC, ZC⟩
theorem VW : Does Tryz.prog tab 35 0 [] [] [] (Val (.agg (Zc Un))) := by
 refine Does.enter Z2 (g := 35) (fn := Tryz.f35) Tryz.call35 Tryz.func35 rfl 3 rfl rfl [.cell 0 67] rfl ?_
 intro w0 F η0 h0
 conv => whnf
 repeat' ((first | refine AU ?_ | (refine IW (fun h => ?_) (fun h => ?_) <;> try (exfalso; omega))) <;> conv => whnf)
 exact FIN.value h0 rfl rfl
theorem Z7E {l : List Qd} (zr hr : List SV) (h : hr = Zc Un) : ((List.take 0 (List.replicate (l.length + 1) zr) ++ l.map Zc ++ List.drop (0 + l.length) (List.replicate (l.length + 1) zr)).set (0 + ((l.length : Nat) : Int).toNat) hr) = (l ++ [Un]).map Zc := by
 subst h
 rw [show 0 + ((l.length : Nat) : Int).toNat = l.length by omega, List.take_zero, List.nil_append, Nat.zero_add, List.drop_replicate, Nat.add_sub_cancel_left, List.set_append_right _ _ (by simp), List.map_append]
 simp
theorem Z7F (l z : List Qd) (lim : Option Nat) (hl : JI l) : Does Tryz.prog tab 11 1 [.sl (.loc 0) 0 16 l.length lim] [] [(0, .rows 16 ((l ++ z).map Zc))]
   (fun r O nx => r = .sl (.loc 1) 0 16 l.length none ∧ O = [(1, .rows 16 ((l ++ [Un]).map Zc))] ∧ nx = 2) := by
 unfold JI at hl
 have hw : (IntKind.i64.wrap ((l.length : Int) + 1)).toNat = l.length + 1 := by rw [Z8 (by omega) (by omega)]; omega
 refine Does.enter Z2 (g := 11) (fn := Tryz.f11) Tryz.call11 Tryz.func11 rfl 20 rfl rfl [.tmp 2] rfl ?_
 intro w0 F η0 h0
 conv => whnf
 repeat' ((first | refine CALL.value (VW) rfl rfl ?_ | (rw [Z3q]; conv => whnf) | (refine NEED.mk (ZaU 224 rfl (by rw [Z8 (by omega) (by omega)]; omega) (Int.le_refl _) (by rw [Z8 (by omega) (by omega)]; omega)) ?_; rw [hw]; conv => whnf) | (refine NEED.mk ⟨by simp, by simp, by simp⟩ ?_; conv => whnf) | (refine GET.at (row := Zc YR) (by rw [show 0 + ((l.length : Nat) : Int).toNat = l.length by omega, List.take_zero, List.nil_append, List.getElem?_append_right (by simp)]; simp; rfl) ?_; conv => whnf) | refine AU ?_ | (refine IW (fun h => ?_) (fun h => ?_) <;> try (exfalso; omega))) <;> conv => whnf)
 exact FIN.aA h0 [1] (.sl (.loc 1) 0 16 l.length none) [(1, .rows 16 ((l ++ [Un]).map Zc))] ⟨rfl, rfl, rfl⟩ (hO := ⟨Zf (Zl _) (Z7E _ _ rfl), trivial⟩)
theorem Z1f (l z y : List Qd) (lA lB : Option Nat) (hz : (l ++ z).length ≤ 1152921504606846976) : Does Tryz.prog tab 34 2 [.sl (.loc 0) 0 16 l.length lA, .sl (.loc 1) 0 16 l.length lB] [] [(0, .rows 16 ((l ++ z).map Zc)), (1, .rows 16 ((l ++ y).map Zc))] (ValK 2 (.bool true)) := by
 have hz1 : (l ++ z).length = l.length + z.length := List.length_append
 have get : ∀ {z : List Qd} {i k : Nat} (h : i < l.length) (e : k = i), ((l ++ z).map Zc)[k]? = some (Zc l[i]) := fun h e => by subst e; rw [List.getElem?_map, List.getElem?_append_left h, List.getElem?_eq_getElem h]; rfl
 refine Does.enter Z2 (g := 34) (fn := Tryz.f34) Tryz.call34 Tryz.func34 rfl 26 rfl rfl [.tmp 4] rfl ?_
 intro w0 F η0 h0
 conv => whnf
 repeat' ((first | refine AU ?_ | (refine IW (fun h => ?_) (fun h => ?_) <;> try (exfalso; omega))) <;> conv => whnf)
 refine LOOP.gok Z2 [0, 1] [] (X := Nat) (fun i => i ≤ l.length) (fun i => [(5, .int .i64 (i : Int))]) (fun i => []) 2 (fun i => l.length - i) 0 (by omega) ?_
 conv => whnf
 refine ⟨by exact GOES.kA h0 [], ?_⟩
 intro i hi
 conv => whnf
 by_cases hil : i < l.length
 · repeat' ((first | refine DRAWN.of (id := 6) Z2 mixed ZaW (by kernel_rfl) ?_ | refine ADD.mk (fun _ _ => ?_) | refine AD ?_ | refine FORK.mk ?_ ?_ | (refine GET.at (get hil (by omega)) ?_; conv => whnf) | refine AU ?_ | (refine IW (fun h => ?_) (fun h => ?_) <;> try (exfalso; omega))) <;> conv => whnf)
   · simp at h
   refine ⟨i + 1, by omega, by omega, ?_⟩
   conv => whnf
   exact GOES.kA h0 []
 · repeat' ((first | refine AU ?_ | (refine IW (fun h => ?_) (fun h => ?_) <;> try (exfalso; omega))) <;> conv => whnf)
   exact FIN.valueK h0 rfl rfl
theorem Z7G (l z : List Qd) (lim : Option Nat) (hl : JI l) (hz : (l ++ z).length ≤ 1152921504606846976) : Does Tryz.prog tab 15 2 [.sl (.loc 1) 0 16 l.length none, .sl (.loc 0) 0 16 l.length lim] [(1, .rows 16 ((l ++ [Un]).map Zc))] [(0, .rows 16 ((l ++ z).map Zc))]
   (fun r O nx => r = .bool true ∧ O = [(1, .rows 16 ((l ++ [Un]).map Zc))] ∧ nx = 2) := by
 unfold JI at hl
 have hA : (l ++ [Un]).length ≤ 1152921504606846976 := by simp; omega
 have hS := Z1f l [Un] z none lim hA
 refine Does.enter Z2 (g := 15) (fn := Tryz.f15) Tryz.call15 Tryz.func15 rfl 23 rfl rfl [.tmp 4] rfl ?_
 intro w0 F η0 h0
 conv => whnf
 have hw : (IntKind.i64.wrap ((l.length : Int) + 1)).toNat = l.length + 1 := by rw [Z8 (by omega) (by omega)]; omega
 refine NEED.mk ⟨by rw [Z8 (by omega) (by omega)]; omega, by rw [Z8 (by omega) (by omega)]; show _ ≤ ((max l.length (((l ++ [Un]).map Zc).length - 0) : Nat) : Int); simp⟩ ?_
 rw [hw]
 conv => whnf
 repeat' ((first | refine DRAWN.of (id := 2) Z2 mixed Z7D (by kernel_rfl) ?_ | refine ADD.mk (fun _ _ => ?_) | refine AD ?_ | refine FORK.mk ?_ ?_ | refine CALL.value (VW) rfl rfl ?_ | refine AU ?_ | (refine IW (fun h => ?_) (fun h => ?_) <;> try (exfalso; omega))) <;> conv => whnf)
 refine CALL.aA [1, 0] (hS) ?_
 rintro r O nx ⟨rfl, rfl, rfl⟩
 conv => whnf
 repeat' ((first | refine DRAWN.of (id := 2) Z2 mixed Z7D (by kernel_rfl) ?_ | refine ADD.mk (fun _ _ => ?_) | refine AD ?_ | refine FORK.mk ?_ ?_ | refine CALL.value (VW) rfl rfl ?_ | (refine GET.at (row := Zc Un) (by rw [show 0 + ((l.length : Nat) : Int).toNat = l.length by omega, List.getElem?_map, List.getElem?_append_right (Nat.le_refl _)]; simp) ?_; conv => whnf) | refine AU ?_ | (refine IW (fun h => ?_) (fun h => ?_) <;> try (exfalso; omega))) <;> conv => whnf)
 exact FIN.here h0 (rc := .bool true) (Oc := [(1, .rows 16 ((l ++ [Un]).map Zc))]) (congrArg SV.bool (by simp)) rfl (by simp only [Zd, Za, Z0 _ (Zl _), Bool.and_self, Bool.and_true] <;> rfl) ⟨rfl, trivial⟩ ⟨rfl, rfl, rfl⟩
theorem Z6a (L : List Qd) (n : Nat) (hn : n ≤ L.length) (hL : L.length ≤ 1152921504606846976) : Does Tryz.prog tab 16 1 [.sl (.loc 0) 0 16 n none] [(0, .rows 16 (L.map Zc))] [] (ValK 1 (.tup [])) := by
 refine Does.enter Z2 (g := 16) (fn := Tryz.f16) Tryz.call16 Tryz.func16 rfl 14 rfl rfl [] rfl ?_
 intro w0 F η0 h0
 conv => whnf
 refine LOOP.gok Z2 [0] [] (X := Nat × List Qd) (fun x => x.1 ≤ n ∧ x.2.length = L.length) (fun x => [(2, .int .i64 (x.1 : Int))]) (fun x => [(0, .rows 16 (x.2.map Zc))]) 1 (fun x => n - x.1) (0, L) ⟨by simp, rfl⟩ ?_
 conv => whnf
 refine ⟨by exact GOES.kA h0 [], ?_⟩
 rintro ⟨i, C⟩ ⟨hi, hC⟩
 dsimp only at hi hC ⊢
 conv => whnf
 by_cases hil : i < n
 · have g : (C.map Zc)[0 + (i : Int).toNat]? = some (Zc (C[i]'(by omega))) := by rw [List.getElem?_map, show 0 + (i : Int).toNat = i by omega, List.getElem?_eq_getElem (by omega)]; rfl
   repeat' ((first | (refine GET.at g ?_; conv => whnf) | refine AU ?_ | (refine IW (fun h => ?_) (fun h => ?_) <;> try (exfalso; omega))) <;> conv => whnf)
   refine ⟨(i + 1, C.set i ⟨⟨9, [115, 112, 111, 105, 108, 116], [], []⟩, ZC, ZC, ZC⟩), ⟨by dsimp only; omega, by simp [hC]⟩, by dsimp only; omega, ?_⟩
   dsimp only
   conv => whnf
   exact GOES.kA h0 []
 · repeat' ((first | refine AU ?_ | (refine IW (fun h => ?_) (fun h => ?_) <;> try (exfalso; omega))) <;> conv => whnf)
   exact FIN.valueK h0 rfl rfl
def Z5k {α : Type} (f : α → List SV) (es k : Nat) (z : α) (n : Nat) (l : List α) : SV → Hps → Nat → Prop := fun r O nx => ∃ j, j + l.length ≤ n ∧ r = .sl (.loc k) 0 es l.length (some l.length) ∧ O = [(k, .rows es ((l ++ List.replicate j z).map f))] ∧ nx = k + 1
theorem Z3x (l z : List Qd) (lim : Option Nat) (hl : l.length * 224 ≤ 140741783322624) : Does Tryz.prog tab 68 1 [.sl (.loc 0) 0 16 l.length lim, .fn (.func 61) [] []] [] [(0, .rows 16 ((l ++ z).map Zc))]
   (Z5k Zc 16 1 YR l.length (setL Zx l)) := by
 have hm : (l.mergeSort (leC Zx)).length = l.length := List.length_mergeSort l
 have hc := JJ (l.mergeSort (leC Zx))
 have hcc : (Z3 (l.mergeSort (leC Zx)) ++ List.replicate ((l.mergeSort (leC Zx)).length - (Z3 (l.mergeSort (leC Zx))).length) YR).length * 224 ≤ 140741783322624 := by rw [List.length_append, List.length_replicate]; omega
 refine Does.enter Z2 (g := 68) (fn := Tryz.f68) Tryz.call68 Tryz.func68 rfl 14 rfl rfl [.tmp 4] rfl ?_
 intro w0 F η0 h0
 conv => whnf
 refine CALL.aA [0] (Z4m l z lim hl) ?_
 rintro r O nx ⟨rfl, rfl, rfl⟩
 conv => whnf
 refine CALL.aA [1] (Z67 l hl) ?_
 rintro r O nx ⟨rfl, rfl, rfl⟩
 conv => whnf
 rw [← hm]
 refine CALL.aA [1] (Z2m (l.mergeSort (leC Zx)) (by omega)) ?_
 rintro r O nx ⟨rfl, rfl, rfl⟩
 conv => whnf
 refine CALL.aA [1] (Z66 (Z3 (l.mergeSort (leC Zx)) ++ List.replicate ((l.mergeSort (leC Zx)).length - (Z3 (l.mergeSort (leC Zx))).length) YR) (Z3 (l.mergeSort (leC Zx))).length (by simp) hcc) ?_
 rintro r O nx ⟨rfl, rfl, rfl⟩
 conv => whnf
 refine FIN.aA h0 [1] (.sl (.loc 1) 0 16 (setL Zx l).length (some (setL Zx l).length)) [(1, .rows 16 ((setL Zx l ++ List.replicate ((l.mergeSort (leC Zx)).length - (Z3 (l.mergeSort (leC Zx))).length) YR).map Zc))] ?_
 exact ⟨_, by unfold setL; omega, rfl, rfl, rfl⟩
theorem Z4p (l z : List Qd) (lim : Option Nat) (hl : l.length * 224 ≤ 140741783322624) : Does Tryz.prog tab 37 1 [.sl (.loc 0) 0 16 l.length lim] [] [(0, .rows 16 ((l ++ z).map Zc))] (Z5k Zc 16 1 YR l.length (setL Zx l)) := by
 refine Does.enter Z2 (g := 37) (fn := Tryz.f37) Tryz.call37 Tryz.func37 rfl 5 rfl rfl [.tmp 2] rfl ?_
 intro w0 F η0 h0
 conv => whnf
 refine CALL.aA [0] (Z3x l z lim hl) ?_
 rintro r O nx ⟨j, hj, rfl, rfl, rfl⟩
 conv => whnf
 refine FIN.aA h0 [1] (.sl (.loc 1) 0 16 (setL Zx l).length (some (setL Zx l).length)) [(1, .rows 16 ((setL Zx l ++ List.replicate j YR).map Zc))] ?_
 exact ⟨j, hj, rfl, rfl, rfl⟩
theorem Z6b (l z : List Qd) (lim : Option Nat) (hl : JI l) : Does Tryz.prog tab 37 1 [.sl (.loc 0) 0 16 l.length lim] [] [(0, .rows 16 ((l ++ z).map Zc))] (Z5k Zc 16 1 YR l.length (setL Zx l)) := Z4p l z lim (by unfold JI at hl; omega)
end Go.Proofs.YtbfbokdccdagkaaGreatDoor
namespace Go.Proofs.YtbfbokdccdagkaaGreatDoor
open Go.Sx Go.Our Go.Sort Go.Shelf
def WA : Plan := (ZB [(0, 1), (1, 1), (2, 1), (4, 1), (5, 1), (6, 1), (7, 1), (3, 2), (8, 2), (9, 1)])
theorem Z6c (l : List (List UInt8)) (n : Nat) (hn : n ≤ l.length) (hl : l.length * 16 ≤ 140741783322624) : Does Tryz.prog tab 64 1 [.sl (.loc 0) 0 1 n none] [(0, .rows 1 (l.map Z6))] []
   (fun r O nx => r = .sl (.loc 0) 0 1 n (some n) ∧ O = [(0, .rows 1 (l.map Z6))] ∧ nx = 1) := by
 refine Does.enter Z2 (g := 64) (fn := Tryz.f64) Tryz.call64 Tryz.func64 rfl 9 rfl rfl [.tmp 2] rfl ?_
 intro w0 F η0 h0
 conv => whnf
 repeat' ((first | (refine NEED.mk ⟨by omega, by omega, by omega⟩ ?_; conv => whnf) | refine AU ?_ | (refine IW (fun h => ?_) (fun h => ?_) <;> try (exfalso; omega))) <;> conv => whnf)
 refine FIN.here h0 (rc := .sl (.loc 0) 0 1 n (some n)) (Oc := [(0, .rows 1 (l.map Z6))]) (by simp) rfl (by first | rfl | (simp only [Zd, Za, Z0 _ (Ze _), Bool.and_self, Bool.and_true] <;> rfl)) ⟨rfl, trivial⟩ ⟨rfl, rfl, rfl⟩
theorem Z2r (l : List (List UInt8)) (hl : l.length * 16 ≤ 140741783322624) : Does Tryz.prog tab 65 1 [.sl (.loc 0) 0 1 l.length none] [(0, .rows 1 (l.map Z6))] []
   (fun r O nx => r = .sl (.loc 0) 0 1 (Z3 l).length none ∧ O = [(0, .rows 1 ((Z3 l ++ List.replicate (l.length - (Z3 l).length) ([] : List UInt8)).map Z6))] ∧ nx = 1) := by
 have fin : ∀ {m : Nat}, m = (Z3 l).length → Z3 l = l → (SV.sl (.loc 0) 0 1 l.length none = SV.sl (.loc 0) 0 1 (Z3 l).length none) ∧ l.map Z6 = (Z3 l ++ List.replicate (l.length - (Z3 l).length) ([] : List UInt8)).map Z6 := fun hm he => by
   rw [he]; simp
 refine Does.enter Z2 (g := 65) (fn := Tryz.f65) Tryz.call65 Tryz.func65 rfl 61 rfl rfl [.tmp 2] rfl ?_
 intro w0 F η0 h0
 conv => whnf
 refine IF.mk (fun h => ?_) (fun h => ?_)
 · have h : l.length < 2 := by simp at h; omega
   obtain ⟨f1, f2⟩ := fin rfl (VU h)
   conv => whnf
   rw [f1, f2]
   refine FIN.here h0 (rc := .sl (.loc 0) 0 1 (Z3 l).length none) (Oc := [(0, .rows 1 ((Z3 l ++ List.replicate (l.length - (Z3 l).length) ([] : List UInt8)).map Z6))]) rfl rfl (by first | rfl | (simp only [Zd, Za, Z0 _ (Ze _), Bool.and_self, Bool.and_true] <;> rfl)) ⟨rfl, trivial⟩ ⟨rfl, rfl, rfl⟩
 have h2 : 2 ≤ l.length := by simp at h; omega
 clear h
 conv => whnf
 refine LOOP.go Z2 [0] (X := Nat) (fun k => 1 ≤ k ∧ k ≤ l.length ∧ Z3 (l.take k) = l.take k) (fun k => [(3, .int .i64 (k : Int))]) (fun k => [(0, .rows 1 (l.map Z6))]) 1 (fun k => l.length - k) 1 ⟨by omega, by omega, Z0Q⟩ ?_
 conv => whnf
 refine ⟨by (refine GOES.cutting h0 rfl rfl rfl (by first | rfl | (simp only [Zd, Za, Z0 _ (Ze _), Bool.and_self, Bool.and_true] <;> rfl)) ?_ ?_ <;> (repeat' (first | (with_reducible rfl) | (exact ZP rfl (by first | (simp; done) | omega | (simp; omega))) | (exact congrArg (SV.int _) (by first | omega | (simp (disch := omega) only [lnB, Z8, Zg] <;> omega) | (simp; done) | (simp <;> omega))) | (exact congrArg (Hp.rows _) (by rfl)) | ((conv => whnf); refine ⟨?_, ?_⟩) | exact trivial | rfl))), ?_⟩
 rintro k ⟨hk1, hkl, hk⟩
 conv => whnf
 rcases Nat.lt_or_ge k l.length with hlt | hge
 · have hs := Xp hk1 hlt
   have hk' : (IntKind.i64.wrap ((k : Int) - 1)).toNat = k - 1 := by rw [Z8 (by omega) (by omega)]; omega
   repeat' ((first | refine DRAWN.of (id := 6) Z2 mixed WA (by kernel_rfl) ?_ | refine DRAWN.of (id := 11) Z2 mixed WA (by kernel_rfl) ?_ | refine ADD.mk (fun _ _ => ?_) | refine AD ?_ | refine FORK.mk ?_ ?_ | (refine GET.at (row := Z6 (l[k]'(by omega))) (Zq (by omega) (by omega)) ?_; conv => whnf) | (refine GET.at (row := Z6 (l[k - 1]'(by omega))) (Zq (by omega) (by omega)) ?_; conv => whnf) | refine AU ?_ | (refine IW (fun h => ?_) (fun h => ?_) <;> try (exfalso; omega))) <;> conv => whnf)
   · have heq : l[k] = l[k - 1] := id (h)
     rw [if_pos heq, hk] at hs
     have hs0 : (Z3 (l.take (k + 1))).length = k := by rw [hs]; simp; omega
     clear h heq
     refine LOOP.go Z2 [0, 4] (X := Nat) (fun i => k + 1 ≤ i ∧ i ≤ l.length ∧ (Z3 (l.take i)).length + 1 ≤ i ∧ k ≤ (Z3 (l.take i)).length) (fun i => [(3, .int .i64 ((Z3 (l.take i)).length : Int)), (5, .int .i64 ((i - k : Nat) : Int))]) (fun i => [(0, .rows 1 ((Z3 (l.take i) ++ l.drop (Z3 (l.take i)).length).map Z6))]) 1 (fun i => l.length - i) (k + 1) ⟨by omega, by omega, by omega, by omega⟩ ?_
     conv => whnf
     refine ⟨by (refine GOES.cutting h0 rfl rfl rfl (by first | rfl | (simp only [Zd, Za, Z0 _ (Ze _), Bool.and_self, Bool.and_true] <;> rfl)) ?_ ?_ <;> (repeat' (first | (with_reducible rfl) | (exact ZP rfl (by first | (simp; done) | omega | (simp; omega))) | (exact congrArg (SV.int _) (by first | omega | (simp (disch := omega) only [lnB, Z8, Zg] <;> omega) | (simp; done) | (simp <;> omega))) | (exact congrArg (Hp.rows _) (by (rw [hs, List.length_take, Nat.min_eq_left hkl, List.take_append_drop]))) | ((conv => whnf); refine ⟨?_, ?_⟩) | exact trivial | rfl))), ?_⟩
     rintro i ⟨hi1, hi2, hi3, hi4⟩
     obtain ⟨C, hC⟩ : ∃ C, C = Z3 (l.take i) := ⟨_, rfl⟩
     have hsi := fun h => Xp (l := l) (i := i) (by omega) h
     rw [← hC] at hi3 hi4 hsi
     dsimp only
     rw [← hC]
     conv => whnf
     rcases Nat.lt_or_ge i l.length with hil | hil
     · have hsi := hsi hil
       have hwr : IntKind.i64.wrap (((i - k : Nat) : Int) - 1) = ((i - 1 - k : Nat) : Int) := by rw [Z8 (by omega) (by omega)]; omega
       have hg1 : ((C ++ l.drop C.length).map Z6)[i]? = some (Z6 l[i]) := Z1J Z6 (by omega) hil
       have hg2 : ((C ++ l.drop C.length).map Z6)[i - 1]? = some (Z6 (l[i - 1]'(by omega))) := Z1J Z6 (by omega) (by omega)
       have hg3 : ((C ++ l.drop C.length).map Z6)[C.length]? = some (Z6 (l[C.length]'(by omega))) := Z1J Z6 (Nat.le_refl _) (by omega)
       repeat' ((first | refine DRAWN.of (id := 6) Z2 mixed WA (by kernel_rfl) ?_ | refine DRAWN.of (id := 11) Z2 mixed WA (by kernel_rfl) ?_ | refine ADD.mk (fun _ _ => ?_) | refine AD ?_ | refine FORK.mk ?_ ?_ | (refine GET.at (row := Z6 (l[i]'(by omega))) (Z65 hg1 (by omega)) ?_; conv => whnf) | (refine GET.at (row := Z6 (l[i - 1]'(by omega))) (Z65 hg2 (by rw [hwr]; omega)) ?_; conv => whnf) | (refine GET.at (row := Z6 (l[C.length]'(by omega))) (Z65 hg3 (by omega)) ?_; conv => whnf) | refine AU ?_ | (refine IW (fun h => ?_) (fun h => ?_) <;> try (exfalso; omega))) <;> conv => whnf)
       · have hne : ¬ l[i] = l[i - 1]'(by omega) := fun he => by rw [he] at h; simp at h
         rw [if_neg hne] at hsi
         refine ⟨i + 1, ⟨by omega, by omega, by rw [hsi, List.length_append]; simp; omega, by rw [hsi, List.length_append]; simp; omega⟩, by omega, ?_⟩
         rw [hsi]
         conv => whnf
         (refine GOES.cutting h0 rfl rfl rfl (by first | rfl | (simp only [Zd, Za, Z0 _ (Ze _), Bool.and_self, Bool.and_true] <;> rfl)) ?_ ?_ <;> (repeat' (first | (with_reducible rfl) | (exact ZP rfl (by first | (simp; done) | omega | (simp; omega))) | (exact congrArg (SV.int _) (by first | omega | (simp (disch := omega) only [lnB, Z8, Zg] <;> omega) | (simp; done) | (simp <;> omega))) | (exact congrArg (Hp.rows _) (by (first | (simp only [Nat.zero_add, Int.toNat_natCast]; exact Z7A Z6 _ (by omega)) | rfl))) | ((conv => whnf); refine ⟨?_, ?_⟩) | exact trivial | rfl)))
       · have heq : l[i] = l[i - 1]'(by omega) := id (h)
         rw [if_pos heq] at hsi
         refine ⟨i + 1, ⟨by omega, by omega, by rw [hsi]; omega, by rw [hsi]; omega⟩, by omega, ?_⟩
         rw [hsi]
         conv => whnf
         (refine GOES.cutting h0 rfl rfl rfl (by first | rfl | (simp only [Zd, Za, Z0 _ (Ze _), Bool.and_self, Bool.and_true] <;> rfl)) ?_ ?_ <;> (repeat' (first | (with_reducible rfl) | (exact ZP rfl (by first | (simp; done) | omega | (simp; omega))) | (exact congrArg (SV.int _) (by first | omega | (simp (disch := omega) only [lnB, Z8, Zg] <;> omega) | (simp; done) | (simp <;> omega))) | (exact congrArg (Hp.rows _) (by rfl)) | ((conv => whnf); refine ⟨?_, ?_⟩) | exact trivial | rfl)))
     · have hCl : C = Z3 l := by rw [hC, List.take_of_length_le hil]
       have hcl : C.length ≤ l.length := by omega
       repeat' ((first | (refine NEED.mk (by simp only [List.length_map, List.length_append, List.length_drop]; omega) ?_; conv => whnf) | (refine NEED.mk ⟨by omega, Wv (by omega)⟩ ?_; conv => whnf) | refine AU ?_ | (refine IW (fun h => ?_) (fun h => ?_) <;> try (exfalso; omega))) <;> conv => whnf)
       rw [← hCl]
       refine FIN.here h0 (rc := .sl (.loc 0) 0 1 C.length none) (Oc := [(0, .rows 1 ((C ++ List.replicate (l.length - C.length) ([] : List UInt8)).map Z6))]) (by simp) rfl (by first | rfl | (simp only [Zd, Za, Z0 _ (Ze _), Bool.and_self, Bool.and_true] <;> rfl)) ⟨?_, trivial⟩ ⟨rfl, rfl, rfl⟩
       refine congrArg (Hp.rows 1) ?_
       simp only [Nat.zero_add, Int.toNat_natCast]
       exact Z3u Z6 ([] : List UInt8) hcl
   · have hne : ¬ l[k] = l[k - 1] := fun he => by rw [he] at h; simp at h
     rw [if_neg hne, hk] at hs
     refine ⟨k + 1, ⟨by omega, by omega, by rw [hs, List.take_succ_eq_append_getElem hlt]⟩, by omega, ?_⟩
     conv => whnf
     (refine GOES.cutting h0 rfl rfl rfl (by first | rfl | (simp only [Zd, Za, Z0 _ (Ze _), Bool.and_self, Bool.and_true] <;> rfl)) ?_ ?_ <;> (repeat' (first | (with_reducible rfl) | (exact ZP rfl (by first | (simp; done) | omega | (simp; omega))) | (exact congrArg (SV.int _) (by first | omega | (simp (disch := omega) only [lnB, Z8, Zg] <;> omega) | (simp; done) | (simp <;> omega))) | (exact congrArg (Hp.rows _) (by rfl)) | ((conv => whnf); refine ⟨?_, ?_⟩) | exact trivial | rfl)))
 · have hkn : k = l.length := by omega
   rw [hkn, List.take_of_length_le (Nat.le_refl _)] at hk
   obtain ⟨f1, f2⟩ := fin rfl hk
   repeat' ((first | refine AU ?_ | (refine IW (fun h => ?_) (fun h => ?_) <;> try (exfalso; omega))) <;> conv => whnf)
   rw [f1, f2]
   refine FIN.here h0 (rc := .sl (.loc 0) 0 1 (Z3 l).length none) (Oc := [(0, .rows 1 ((Z3 l ++ List.replicate (l.length - (Z3 l).length) ([] : List UInt8)).map Z6))]) rfl rfl (by first | rfl | (simp only [Zd, Za, Z0 _ (Ze _), Bool.and_self, Bool.and_true] <;> rfl)) ⟨rfl, trivial⟩ ⟨rfl, rfl, rfl⟩
def Z6d : Go.Shelf.Ren := ⟨fun | 190 => 63 | 125 => 90 | 258 => 89 | 128 => 122 | 129 => 123 | 302 => 113 | 303 => 114 | 304 => 115 | 305 => 116 | 306 => 117 | 307 => 118 | 308 => 119 | 309 => 120 | 310 => 121 | 333 => 141 | 329 => 142 | 330 => 143 | 334 => 144 | 335 => 145 | 336 => 146 | 344 => 174 | n => n, fun | 31 => 29 | 9 => 9 | 3 => 3 | 46 => 135 | 0 => 0 | 51 => 169 | 53 => 104 | 4 => 4 | 183 => 162 | 182 => 161 | 131 => 114 | 5 => 5 | 218 => 198 | 222 => 202 | 228 => 223 | 229 => 119 | n => n, fun | n => n⟩
theorem Zc0 : Go.Proofs.Lays.n190 Tryz.prog Z6d where
 mixed := by kernel_rfl
 f125 := Tryz.func90.trans (congrArg some (by kernel_rfl))
 f128 := Tryz.func122.trans (congrArg some (by kernel_rfl))
 f129 := Tryz.func123.trans (congrArg some (by kernel_rfl))
 f190 := Tryz.func63.trans (congrArg some (by kernel_rfl))
 f258 := Tryz.func89.trans (congrArg some (by kernel_rfl))
 f302 := Tryz.func113.trans (congrArg some (by kernel_rfl))
 f303 := Tryz.func114.trans (congrArg some (by kernel_rfl))
 f304 := Tryz.func115.trans (congrArg some (by kernel_rfl))
 f305 := Tryz.func116.trans (congrArg some (by kernel_rfl))
 f306 := Tryz.func117.trans (congrArg some (by kernel_rfl))
 f307 := Tryz.func118.trans (congrArg some (by kernel_rfl))
 f308 := Tryz.func119.trans (congrArg some (by kernel_rfl))
 f309 := Tryz.func120.trans (congrArg some (by kernel_rfl))
 f310 := Tryz.func121.trans (congrArg some (by kernel_rfl))
 f329 := Tryz.func142.trans (congrArg some (by kernel_rfl))
 f330 := Tryz.func143.trans (congrArg some (by kernel_rfl))
 f333 := Tryz.func141.trans (congrArg some (by kernel_rfl))
 f334 := Tryz.func144.trans (congrArg some (by kernel_rfl))
 f335 := Tryz.func145.trans (congrArg some (by kernel_rfl))
 f336 := Tryz.func146.trans (congrArg some (by kernel_rfl))
 f344 := Tryz.func174.trans (congrArg some (by kernel_rfl))
 t0 := Tryz.underlying0
 a0 := Tryz.isAgg0
 z0 := Tryz.sizeOf0
 v0 := Tryz.zeroValue0
 t3 := Tryz.underlying3
 a3 := Tryz.isAgg3
 z3 := Tryz.sizeOf3
 v3 := Tryz.zeroValue3
 t4 := Tryz.underlying4
 a4 := Tryz.isAgg4
 z4 := Tryz.sizeOf4
 v4 := Tryz.zeroValue4
 t5 := Tryz.underlying5
 a5 := Tryz.isAgg5
 z5 := Tryz.sizeOf5
 v5 := Tryz.zeroValue5
 t9 := Tryz.underlying9
 a9 := Tryz.isAgg9
 z9 := Tryz.sizeOf9
 v9 := Tryz.zeroValue9
 t31 := Tryz.underlying29
 a31 := Tryz.isAgg29
 z31 := Tryz.sizeOf29
 v31 := Tryz.zeroValue29
 t46 := Tryz.underlying135
 a46 := Tryz.isAgg135
 z46 := Tryz.sizeOf135
 v46 := Tryz.zeroValue135
 t51 := Tryz.underlying169
 a51 := Tryz.isAgg169
 z51 := Tryz.sizeOf169
 v51 := Tryz.zeroValue169
 t53 := Tryz.underlying104
 a53 := Tryz.isAgg104
 z53 := Tryz.sizeOf104
 v53 := Tryz.zeroValue104
 t131 := Tryz.underlying114
 a131 := Tryz.isAgg114
 z131 := Tryz.sizeOf114
 v131 := Tryz.zeroValue114
 t182 := Tryz.underlying161
 a182 := Tryz.isAgg161
 z182 := Tryz.sizeOf161
 v182 := Tryz.zeroValue161
 t183 := Tryz.underlying162
 a183 := Tryz.isAgg162
 z183 := Tryz.sizeOf162
 v183 := Tryz.zeroValue162
 t218 := Tryz.underlying198
 a218 := Tryz.isAgg198
 z218 := Tryz.sizeOf198
 v218 := Tryz.zeroValue198
 t222 := Tryz.underlying202
 a222 := Tryz.isAgg202
 z222 := Tryz.sizeOf202
 v222 := Tryz.zeroValue202
 t228 := Tryz.underlying223
 a228 := Tryz.isAgg223
 z228 := Tryz.sizeOf223
 v228 := Tryz.zeroValue223
 t229 := Tryz.underlying119
 a229 := Tryz.isAgg119
 z229 := Tryz.sizeOf119
 v229 := Tryz.zeroValue119
theorem Z1M (l : List (List UInt8)) (hl : l.length * 16 ≤ 140737488351232) : Does Tryz.prog tab 63 1 [.sl (.loc 0) 0 1 l.length none] [(0, .rows 1 (l.map Z6))] []
   (fun r O nx => r = .tup [] ∧ O = [(0, .rows 1 ((l.mergeSort (leC cmpL)).map Z6))] ∧ nx = 1) :=
 Z3z Zc0 Tryz.call63 l (by omega)
end Go.Proofs.YtbfbokdccdagkaaGreatDoor
namespace Go.Proofs.YtbfbokdccdagkaaGreatDoor
open Go.Sx Go.Our
theorem Zai {l z : List Qd} {i : Nat} {k : Nat} (h : i < l.length) (e : k = i) : ((l ++ z).map Zc)[k]? = some (Zc l[i]) := by subst e; exact Z62 h
def Z9f : Plan := (ZB [(0, 1), (1, 1), (2, 1), (3, 1), (4, 1), (5, 1), (6, 1), (7, 1), (8, 1), (9, 1), (10, 1), (11, 1), (12, 1), (13, 0)])
theorem Z7L (q : Qd) : Does Tryz.prog tab 62 1 [.ptr (.loc 0) 0 0 0] [] [(0, .box (Zc q))] (ValK 1 (.arr 1 [[.ptr (.loc 0) 0 0 0], [.ptr (.loc 0) 0 0 4], [.ptr (.loc 0) 0 0 8], [.ptr (.loc 0) 0 0 12]])) := by
 refine Does.enter Z2 (g := 62) (fn := Tryz.f62) Tryz.call62 Tryz.func62 rfl 16 rfl rfl [.cell 2 106] rfl ?_
 intro w0 F η0 h0
 conv => whnf
 repeat' ((first | refine DRAWN.of (id := 1) Z2 mixed Z9f (by kernel_rfl) ?_ | refine ADD.mk (fun _ _ => ?_) | refine AD ?_ | refine FORK.mk ?_ ?_ | refine AU ?_ | (refine IW (fun h => ?_) (fun h => ?_) <;> try (exfalso; omega))) <;> conv => whnf)
 exact FIN.here h0 (rc := .arr 1 [[.ptr (.loc 0) 0 0 0], [.ptr (.loc 0) 0 0 4], [.ptr (.loc 0) 0 0 8], [.ptr (.loc 0) 0 0 12]]) (Oc := []) rfl rfl rfl trivial ⟨rfl, rfl, rfl⟩
abbrev Zd2 (ps : List (List UInt8)) : Nat := (ps.map List.length).sum
def Zc8 (x : Int) : List SV := [.int .i64 x]
instance : PlF Zc8 := ⟨fun _ => rfl⟩
end Go.Proofs.YtbfbokdccdagkaaGreatDoor
