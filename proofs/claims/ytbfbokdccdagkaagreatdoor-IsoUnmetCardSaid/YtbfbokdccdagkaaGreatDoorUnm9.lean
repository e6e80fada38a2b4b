/- Part 9: Tab, Cmp7, Lists7, Rise7, Sets1, Sets2, ListS, Over7, Find7, Fits7, Utf1, Utf04, StrLib, Iri, Iri2, Names1, Part1, Split1, Tag1, Tag2, Names2, Part2, Tag5. Conditions: as each part says. -/
import Derived.Test.YtbfbokdccdagkaaGreatDoorProg
import Derived.Lib.Bytealg
import Derived.Test.YtbfbokdccdagkaaGreatDoorUnm6
import Derived.Test.YtbfbokdccdagkaaGreatDoorUnm8
set_option maxRecDepth 100000
namespace Go.Proofs.YtbfbokdccdagkaaGreatDoor
open Go.Sx
open Tryz
def bt{α:Type}(t n:Nat)(a b:α):α:=match Nat.ble t n with|true=>a|false=>b
theorem ZcN{α:Type}{t n:Nat}{a b:α}(h:Nat.ble t n=false):bt t n a b=b:=by unfold bt;rw[h]
def Zg8(t:TypeId):Sh:=bt t 292 (bt t 145 (bt t 72 (bt t 35 (bt t 17 (bt t 8 (bt t 3 (bt t 1 (bt t 0 .plain .func) (.int .i64)) (bt t 5 (bt t 4 .bool (.int .u8)) (bt t 6 (.int .u8) (.struct [(0,2),(1,3),(2,4),(3,6)])))) (bt t 12 (bt t 10 .str (bt t 11 .str (.int .u64))) (bt t 14 (.struct [(0,9),(1,12)]) (bt t 15 (.ptr 282) (bt t 16 (.ptr 285) (.ptr 292)))))) (bt t 26 (bt t 21 (bt t 19 (.struct [(0,17)]) (bt t 20 .iface (.int .i32))) (bt t 23 (bt t 22 (.slice 67) .func) (bt t 24 (.slice 29) .func))) (bt t 30 (bt t 28 .func (bt t 29 (.slice 9) .func)) (bt t 32 (bt t 31 (.slice 40) (.int .i64)) (bt t 33 .plain (bt t 34 .func .plain)))))) (bt t 53 (bt t 44 (bt t 39 (bt t 37 .func (bt t 38 .func (.struct [(0,9),(1,9)]))) (bt t 41 (bt t 40 (.struct [(0,9),(1,9)]) .func) .func)) (bt t 48 (bt t 46 (bt t 45 .func .plain) (bt t 47 .func .plain)) (bt t 50 .func (bt t 51 (.slice 3) (bt t 52 .func .plain))))) (bt t 62 (bt t 57 .func (bt t 59 (bt t 58 .func (.array 65 3)) .func)) (bt t 67 (bt t 64 (bt t 63 .func (.struct [(0,3),(1,9),(2,9),(3,9)])) (bt t 65 (.struct [(0,3),(1,9),(2,9),(3,9)]) (.struct [(0,65),(4,65),(8,65),(12,65)]))) (bt t 69 (bt t 68 .func (.ptr 74)) (bt t 70 .func (bt t 71 (.slice 141) (.slice 22)))))))) (bt t 108 (bt t 90 (bt t 81 (bt t 76 (bt t 74 (.struct [(0,29),(1,51),(2,71),(3,72),(4,3)]) (bt t 75 (.ptr 80) .func)) (bt t 78 (bt t 77 (.slice 82) (.slice 149)) (bt t 79 (.struct [(0,77),(1,78)]) (bt t 80 (.struct [(0,77),(1,78)]) (.struct [(0,3),(1,9),(2,3)]))))) (bt t 85 (bt t 83 (bt t 82 (.struct [(0,3),(1,9),(2,3)]) .func) (bt t 84 .func (.map 9 3))) (bt t 87 .func (bt t 88 .func (bt t 89 (.ptr 92) (.map 93 3)))))) (bt t 99 (bt t 94 (bt t 92 (.struct [(0,69),(1,3),(2,90),(3,51),(4,51),(5,3)]) (bt t 93 (.array 4 65) .func)) (bt t 96 (bt t 95 .plain .func) (bt t 97 .func (bt t 98 (.ptr 100) (.struct [(0,22),(1,22),(2,77),(3,77),(4,31),(5,3),(6,4)]))))) (bt t 103 (bt t 101 (bt t 100 (.struct [(0,22),(1,22),(2,77),(3,77),(4,31),(5,3),(6,4)]) .func) .func) (bt t 105 (bt t 104 (.int .u64) (.ptr 65)) (bt t 106 (.array 4 105) (bt t 107 .func (.ptr 67))))))) (bt t 126 (bt t 117 (bt t 112 .func (bt t 114 (bt t 113 .func .plain) .func)) (bt t 121 (bt t 119 (bt t 118 .func .plain) (bt t 120 .func (.slice 65))) (bt t 123 (bt t 122 .func .plain) .func))) (bt t 135 (bt t 130 .func (bt t 132 .func (bt t 133 .func (bt t 134 .func (.int .u64))))) (bt t 140 (bt t 137 (bt t 136 .func (.array 4 3)) (bt t 138 (.struct [(0,93),(16,137)]) (bt t 139 (.struct [(0,93),(16,137)]) .func))) (bt t 142 (bt t 141 (.slice 139) .func) .func)))))) (bt t 218 (bt t 181 (bt t 163 (bt t 154 (bt t 149 (bt t 147 (.struct [(0,67),(16,137)]) (bt t 148 .func (.slice 147))) (bt t 151 (bt t 150 (.slice 151) (.slice 187)) .func)) (bt t 158 .func (bt t 160 .func (bt t 161 (.int .i64) (bt t 162 .plain .func))))) (bt t 172 (bt t 167 .func (bt t 169 (bt t 168 .func (.int .u32)) .func)) (bt t 176 (bt t 174 (bt t 173 (.ptr 176) (.slice 5)) (.struct [(0,173),(1,174)])) (bt t 178 .iface (bt t 179 .plain (bt t 180 .func (.array 3 9))))))) (bt t 199 (bt t 190 (bt t 185 (bt t 183 .func (.struct [(0,4),(1,3),(2,65)])) (bt t 187 (.array 4 185) (bt t 188 (.slice 4) .func))) (bt t 194 (bt t 192 .func (.struct [(0,9),(1,9),(2,9),(3,9),(4,29),(5,29),(6,9)])) (bt t 196 (bt t 195 .plain .func) (bt t 197 .func (bt t 198 (.int .u64) .func))))) (bt t 208 (bt t 203 (bt t 201 .func (bt t 202 (.ptr 3) .func)) .func) (bt t 213 (bt t 210 (bt t 209 (.ptr 5) .func) .func) (bt t 215 (bt t 214 .plain .func) (bt t 216 (.ptr 219) (bt t 217 .func (.struct [(0,29),(1,194)])))))))) (bt t 255 (bt t 236 (bt t 227 (bt t 222 (bt t 220 (bt t 219 (.struct [(0,29),(1,194)]) .func) (bt t 221 .func (.slice 32))) (bt t 224 (bt t 223 (.ptr 198) .func) (bt t 225 .func (bt t 226 .func .plain)))) (bt t 231 (bt t 229 (bt t 228 .func (.array 24 5)) (bt t 230 .func .plain)) (bt t 233 .func (bt t 234 .plain .func)))) (bt t 245 (bt t 240 (bt t 238 (bt t 237 .plain .func) .func) (bt t 242 (bt t 241 .plain .func) .func)) (bt t 250 (bt t 247 .func (bt t 248 .func (bt t 249 (.array 20 104) (.array 65 5)))) (bt t 252 .func (bt t 253 (.ptr 256) (bt t 254 .func (.struct [(0,29)]))))))) (bt t 273 (bt t 264 (bt t 259 (bt t 257 (bt t 256 (.struct [(0,29)]) .func) (bt t 258 (.ptr 194) .func)) (bt t 261 .func (bt t 262 (.array 5 21) .func))) (bt t 268 (bt t 266 (bt t 265 .func (.array 28 3)) .func) (bt t 270 (bt t 269 .func (.array 24 21)) (bt t 271 .func (bt t 272 (.array 32 5) (.array 64 5)))))) (bt t 282 (bt t 277 (bt t 275 (bt t 274 (.array 5 3) (.array 256 5)) (.struct [(0,5),(1,5)])) (bt t 279 (bt t 278 (.array 16 277) .plain) (bt t 280 .func (.struct [(0,17),(1,17),(2,17),(3,9)])))) (bt t 287 (bt t 284 (bt t 283 (.array 0 16) (.struct [(0,283)])) (bt t 285 (.struct [(0,283)]) (.int .u8))) (bt t 289 (bt t 288 .func (.int .i32)) (bt t 290 (.int .i32) (.struct [(0,12),(1,12),(2,169),(3,286),(4,5),(5,5),(6,287),(7,288),(8,209),(9,289),(10,290)]))))))))) .other
def ZeT(t:TypeId):Nat:=bt t 292 (bt t 145 (bt t 72 (bt t 35 (bt t 17 (bt t 8 (bt t 3 1 (bt t 5 1 (bt t 6 1 4))) (bt t 12 1 (bt t 14 2 1))) 1) (bt t 53 (bt t 44 (bt t 39 (bt t 37 1 (bt t 38 1 2)) (bt t 41 (bt t 40 2 1) 1)) 1) (bt t 62 (bt t 57 1 (bt t 59 (bt t 58 1 65) 1)) (bt t 67 (bt t 64 (bt t 63 1 4) (bt t 65 4 16)) 1)))) (bt t 108 (bt t 90 (bt t 81 (bt t 76 (bt t 74 5 1) (bt t 78 1 (bt t 79 2 (bt t 80 2 3)))) (bt t 85 (bt t 83 (bt t 82 3 1) 1) 1)) (bt t 99 (bt t 94 (bt t 92 6 (bt t 93 16 1)) (bt t 96 1 (bt t 97 1 (bt t 98 1 7)))) (bt t 103 (bt t 101 (bt t 100 7 1) 1) (bt t 105 1 (bt t 106 4 1))))) (bt t 126 1 (bt t 135 1 (bt t 140 (bt t 137 (bt t 136 1 4) (bt t 138 20 (bt t 139 20 1))) 1))))) (bt t 218 (bt t 181 (bt t 163 (bt t 154 (bt t 149 (bt t 147 20 1) 1) 1) (bt t 172 1 (bt t 176 (bt t 174 1 2) (bt t 178 1 (bt t 179 1 (bt t 180 1 3)))))) (bt t 199 (bt t 190 (bt t 185 (bt t 183 1 6) (bt t 187 24 1)) (bt t 194 (bt t 192 1 7) 1)) (bt t 208 1 (bt t 213 1 (bt t 215 1 (bt t 216 1 (bt t 217 1 8))))))) (bt t 255 (bt t 236 (bt t 227 (bt t 222 (bt t 220 (bt t 219 8 1) 1) 1) (bt t 231 (bt t 229 (bt t 228 1 24) 1) 1)) (bt t 245 1 (bt t 250 (bt t 247 1 (bt t 248 1 (bt t 249 20 65))) 1))) (bt t 273 (bt t 264 (bt t 259 1 (bt t 261 1 (bt t 262 5 1))) (bt t 268 (bt t 266 (bt t 265 1 28) 1) (bt t 270 (bt t 269 1 24) (bt t 271 1 (bt t 272 32 64))))) (bt t 282 (bt t 277 (bt t 275 (bt t 274 5 256) 2) (bt t 279 (bt t 278 32 1) (bt t 280 1 4))) (bt t 287 (bt t 284 0 (bt t 285 0 1)) (bt t 289 1 (bt t 290 1 11)))))))) 0
def Zaq(t:TypeId):List SV:=bt t 292 (bt t 145 (bt t 72 (bt t 35 (bt t 17 (bt t 8 (bt t 3 (bt t 1 (bt t 0 [] [.val .nilFunc]) [.int .i64 (0)]) (bt t 5 (bt t 4 [.bool false] [.int .u8 (0)]) (bt t 6 [.int .u8 (0)] [.int .i64 (0), .int .i64 (0), .bool false, .int .u8 (0)]))) (bt t 12 (bt t 10 ([.str []]) (bt t 11 [.str []] [.int .u64 (0)])) (bt t 14 ([.str [], .int .u64 (0)]) [.val (.pointer none)]))) (bt t 26 (bt t 21 (bt t 19 [.val (.pointer none)] (bt t 20 [.val .nilIface] [.int .i32 (0)])) (bt t 23 (bt t 22 [.val (.slice none 0 0)] [.val .nilFunc]) (bt t 24 [.val (.slice none 0 0)] [.val .nilFunc]))) (bt t 30 (bt t 28 [.val .nilFunc] (bt t 29 [.val (.slice none 0 0)] [.val .nilFunc])) (bt t 32 (bt t 31 [.val (.slice none 0 0)] [.int .i64 (0)]) (bt t 33 [] (bt t 34 [.val .nilFunc] [])))))) (bt t 53 (bt t 44 (bt t 39 (bt t 37 [.val .nilFunc] (bt t 38 [.val .nilFunc] [.str [], .str []])) (bt t 41 (bt t 40 [.str [], .str []] [.val .nilFunc]) [.val .nilFunc])) (bt t 48 (bt t 46 (bt t 45 [.val .nilFunc] []) (bt t 47 [.val .nilFunc] [])) (bt t 50 [.val .nilFunc] (bt t 51 [.val (.slice none 0 0)] (bt t 52 [.val .nilFunc] []))))) (bt t 62 (bt t 57 [.val .nilFunc] (bt t 59 (bt t 58 [.val .nilFunc] [.int .i64 (0), .int .i64 (0), .int .i64 (0), .int .i64 (0), .int .i64 (0), .int .i64 (0), .int .i64 (0), .int .i64 (0), .int .i64 (0), .int .i64 (0), .int .i64 (0), .int .i64 (0), .int .i64 (0), .int .i64 (0), .int .i64 (0), .int .i64 (0), .int .i64 (0), .int .i64 (0), .int .i64 (0), .int .i64 (0), .int .i64 (0), .int .i64 (0), .int .i64 (0), .int .i64 (0), .int .i64 (0), .int .i64 (0), .int .i64 (0), .int .i64 (0), .int .i64 (0), .int .i64 (0), .int .i64 (0), .int .i64 (0), .int .i64 (0), .int .i64 (0), .int .i64 (0), .int .i64 (0), .int .i64 (0), .int .i64 (0), .int .i64 (0), .int .i64 (0), .int .i64 (0), .int .i64 (0), .int .i64 (0), .int .i64 (0), .int .i64 (0), .int .i64 (0), .int .i64 (0), .int .i64 (0), .int .i64 (0), .int .i64 (0), .int .i64 (0), .int .i64 (0), .int .i64 (0), .int .i64 (0), .int .i64 (0), .int .i64 (0), .int .i64 (0), .int .i64 (0), .int .i64 (0), .int .i64 (0), .int .i64 (0), .int .i64 (0), .int .i64 (0), .int .i64 (0), .int .i64 (0)]) [.val .nilFunc])) (bt t 67 (bt t 64 (bt t 63 [.val .nilFunc] [.int .i64 (0), .str [], .str [], .str []]) (bt t 65 [.int .i64 (0), .str [], .str [], .str []] ([.int .i64 (0), .str [], .str [], .str [], .int .i64 (0), .str [], .str [], .str [], .int .i64 (0), .str [], .str [], .str [], .int .i64 (0), .str [], .str [], .str []]))) (bt t 69 (bt t 68 [.val .nilFunc] [.val (.pointer none)]) (bt t 70 [.val .nilFunc] [.val (.slice none 0 0)])))))) (bt t 108 (bt t 90 (bt t 81 (bt t 76 (bt t 74 [.val (.slice none 0 0), .val (.slice none 0 0), .val (.slice none 0 0), .val (.slice none 0 0), .int .i64 (0)] (bt t 75 [.val (.pointer none)] [.val .nilFunc])) (bt t 78 [.val (.slice none 0 0)] (bt t 79 [.val (.slice none 0 0), .val (.slice none 0 0)] (bt t 80 [.val (.slice none 0 0), .val (.slice none 0 0)] [.int .i64 (0), .str [], .int .i64 (0)])))) (bt t 85 (bt t 83 (bt t 82 [.int .i64 (0), .str [], .int .i64 (0)] [.val .nilFunc]) (bt t 84 [.val .nilFunc] [.val (.map none)])) (bt t 87 [.val .nilFunc] (bt t 88 [.val .nilFunc] (bt t 89 [.val (.pointer none)] [.val (.map none)]))))) (bt t 99 (bt t 94 (bt t 92 [.val (.pointer none), .int .i64 (0), .val (.map none), .val (.slice none 0 0), .val (.slice none 0 0), .int .i64 (0)] (bt t 93 [.int .i64 (0), .str [], .str [], .str [], .int .i64 (0), .str [], .str [], .str [], .int .i64 (0), .str [], .str [], .str [], .int .i64 (0), .str [], .str [], .str []] [.val .nilFunc])) (bt t 96 (bt t 95 [] [.val .nilFunc]) (bt t 97 [.val .nilFunc] (bt t 98 [.val (.pointer none)] [.val (.slice none 0 0), .val (.slice none 0 0), .val (.slice none 0 0), .val (.slice none 0 0), .val (.slice none 0 0), .int .i64 (0), .bool false])))) (bt t 103 (bt t 101 (bt t 100 [.val (.slice none 0 0), .val (.slice none 0 0), .val (.slice none 0 0), .val (.slice none 0 0), .val (.slice none 0 0), .int .i64 (0), .bool false] [.val .nilFunc]) [.val .nilFunc]) (bt t 105 (bt t 104 [.int .u64 (0)] [.val (.pointer none)]) (bt t 106 [.val (.pointer none), .val (.pointer none), .val (.pointer none), .val (.pointer none)] (bt t 107 [.val .nilFunc] [.val (.pointer none)])))))) (bt t 126 (bt t 117 (bt t 112 [.val .nilFunc] (bt t 114 (bt t 113 [.val .nilFunc] []) [.val .nilFunc])) (bt t 121 (bt t 119 (bt t 118 [.val .nilFunc] []) (bt t 120 [.val .nilFunc] [.val (.slice none 0 0)])) (bt t 123 (bt t 122 [.val .nilFunc] []) [.val .nilFunc]))) (bt t 135 (bt t 130 [.val .nilFunc] (bt t 132 [.val .nilFunc] (bt t 133 [.val .nilFunc] (bt t 134 [.val .nilFunc] [.int .u64 (0)])))) (bt t 140 (bt t 137 (bt t 136 [.val .nilFunc] [.int .i64 (0), .int .i64 (0), .int .i64 (0), .int .i64 (0)]) (bt t 138 [.int .i64 (0), .str [], .str [], .str [], .int .i64 (0), .str [], .str [], .str [], .int .i64 (0), .str [], .str [], .str [], .int .i64 (0), .str [], .str [], .str [], .int .i64 (0), .int .i64 (0), .int .i64 (0), .int .i64 (0)] (bt t 139 [.int .i64 (0), .str [], .str [], .str [], .int .i64 (0), .str [], .str [], .str [], .int .i64 (0), .str [], .str [], .str [], .int .i64 (0), .str [], .str [], .str [], .int .i64 (0), .int .i64 (0), .int .i64 (0), .int .i64 (0)] [.val .nilFunc]))) (bt t 142 (bt t 141 [.val (.slice none 0 0)] [.val .nilFunc]) [.val .nilFunc])))))) (bt t 218 (bt t 181 (bt t 163 (bt t 154 (bt t 149 (bt t 147 ([.int .i64 (0), .str [], .str [], .str [], .int .i64 (0), .str [], .str [], .str [], .int .i64 (0), .str [], .str [], .str [], .int .i64 (0), .str [], .str [], .str [], .int .i64 (0), .int .i64 (0), .int .i64 (0), .int .i64 (0)]) (bt t 148 [.val .nilFunc] [.val (.slice none 0 0)])) (bt t 151 [.val (.slice none 0 0)] [.val .nilFunc])) (bt t 158 [.val .nilFunc] (bt t 160 [.val .nilFunc] (bt t 161 [.int .i64 (0)] (bt t 162 [] [.val .nilFunc]))))) (bt t 172 (bt t 167 [.val .nilFunc] (bt t 169 (bt t 168 [.val .nilFunc] [.int .u32 (0)]) [.val .nilFunc])) (bt t 176 (bt t 174 (bt t 173 [.val (.pointer none)] [.val (.slice none 0 0)]) [.val (.pointer none), .val (.slice none 0 0)]) (bt t 178 [.val .nilIface] (bt t 179 [] (bt t 180 [.val .nilFunc] [.str [], .str [], .str []])))))) (bt t 199 (bt t 190 (bt t 185 (bt t 183 [.val .nilFunc] ([.bool false, .int .i64 (0), .int .i64 (0), .str [], .str [], .str []])) (bt t 187 ([.bool false, .int .i64 (0), .int .i64 (0), .str [], .str [], .str [], .bool false, .int .i64 (0), .int .i64 (0), .str [], .str [], .str [], .bool false, .int .i64 (0), .int .i64 (0), .str [], .str [], .str [], .bool false, .int .i64 (0), .int .i64 (0), .str [], .str [], .str []]) (bt t 188 [.val (.slice none 0 0)] [.val .nilFunc]))) (bt t 194 (bt t 192 [.val .nilFunc] ([.str [], .str [], .str [], .str [], .val (.slice none 0 0), .val (.slice none 0 0), .str []])) (bt t 196 (bt t 195 [] [.val .nilFunc]) (bt t 197 [.val .nilFunc] (bt t 198 [.int .u64 (0)] [.val .nilFunc]))))) (bt t 208 (bt t 203 (bt t 201 [.val .nilFunc] (bt t 202 [.val (.pointer none)] [.val .nilFunc])) [.val .nilFunc]) (bt t 213 (bt t 210 (bt t 209 [.val (.pointer none)] [.val .nilFunc]) [.val .nilFunc]) (bt t 215 (bt t 214 [] [.val .nilFunc]) (bt t 216 [.val (.pointer none)] (bt t 217 [.val .nilFunc] [.val (.slice none 0 0), .str [], .str [], .str [], .str [], .val (.slice none 0 0), .val (.slice none 0 0), .str []]))))))) (bt t 255 (bt t 236 (bt t 227 (bt t 222 (bt t 220 (bt t 219 [.val (.slice none 0 0), .str [], .str [], .str [], .str [], .val (.slice none 0 0), .val (.slice none 0 0), .str []] [.val .nilFunc]) (bt t 221 [.val .nilFunc] [.val (.slice none 0 0)])) (bt t 224 (bt t 223 [.val (.pointer none)] [.val .nilFunc]) (bt t 225 [.val .nilFunc] (bt t 226 [.val .nilFunc] [.val (.pointer none)])))) (bt t 231 (bt t 229 (bt t 228 [.val .nilFunc] [.int .u8 (0), .int .u8 (0), .int .u8 (0), .int .u8 (0), .int .u8 (0), .int .u8 (0), .int .u8 (0), .int .u8 (0), .int .u8 (0), .int .u8 (0), .int .u8 (0), .int .u8 (0), .int .u8 (0), .int .u8 (0), .int .u8 (0), .int .u8 (0), .int .u8 (0), .int .u8 (0), .int .u8 (0), .int .u8 (0), .int .u8 (0), .int .u8 (0), .int .u8 (0), .int .u8 (0)]) (bt t 230 [.val .nilFunc] [])) (bt t 233 [.val .nilFunc] (bt t 234 [] [.val .nilFunc])))) (bt t 245 (bt t 240 (bt t 238 (bt t 237 [] [.val .nilFunc]) [.val .nilFunc]) (bt t 242 (bt t 241 [] [.val .nilFunc]) [.val .nilFunc])) (bt t 250 (bt t 247 [.val .nilFunc] (bt t 248 [.val .nilFunc] (bt t 249 [.int .u64 (0), .int .u64 (0), .int .u64 (0), .int .u64 (0), .int .u64 (0), .int .u64 (0), .int .u64 (0), .int .u64 (0), .int .u64 (0), .int .u64 (0), .int .u64 (0), .int .u64 (0), .int .u64 (0), .int .u64 (0), .int .u64 (0), .int .u64 (0), .int .u64 (0), .int .u64 (0), .int .u64 (0), .int .u64 (0)] [.int .u8 (0), .int .u8 (0), .int .u8 (0), .int .u8 (0), .int .u8 (0), .int .u8 (0), .int .u8 (0), .int .u8 (0), .int .u8 (0), .int .u8 (0), .int .u8 (0), .int .u8 (0), .int .u8 (0), .int .u8 (0), .int .u8 (0), .int .u8 (0), .int .u8 (0), .int .u8 (0), .int .u8 (0), .int .u8 (0), .int .u8 (0), .int .u8 (0), .int .u8 (0), .int .u8 (0), .int .u8 (0), .int .u8 (0), .int .u8 (0), .int .u8 (0), .int .u8 (0), .int .u8 (0), .int .u8 (0), .int .u8 (0), .int .u8 (0), .int .u8 (0), .int .u8 (0), .int .u8 (0), .int .u8 (0), .int .u8 (0), .int .u8 (0), .int .u8 (0), .int .u8 (0), .int .u8 (0), .int .u8 (0), .int .u8 (0), .int .u8 (0), .int .u8 (0), .int .u8 (0), .int .u8 (0), .int .u8 (0), .int .u8 (0), .int .u8 (0), .int .u8 (0), .int .u8 (0), .int .u8 (0), .int .u8 (0), .int .u8 (0), .int .u8 (0), .int .u8 (0), .int .u8 (0), .int .u8 (0), .int .u8 (0), .int .u8 (0), .int .u8 (0), .int .u8 (0), .int .u8 (0)]))) (bt t 252 [.val .nilFunc] (bt t 253 [.val (.pointer none)] (bt t 254 [.val .nilFunc] [.val (.slice none 0 0)])))))) (bt t 273 (bt t 264 (bt t 259 (bt t 257 (bt t 256 [.val (.slice none 0 0)] [.val .nilFunc]) (bt t 258 [.val (.pointer none)] [.val .nilFunc])) (bt t 261 [.val .nilFunc] (bt t 262 [.int .i32 (0), .int .i32 (0), .int .i32 (0), .int .i32 (0), .int .i32 (0)] [.val .nilFunc]))) (bt t 268 (bt t 266 (bt t 265 [.val .nilFunc] [.int .i64 (0), .int .i64 (0), .int .i64 (0), .int .i64 (0), .int .i64 (0), .int .i64 (0), .int .i64 (0), .int .i64 (0), .int .i64 (0), .int .i64 (0), .int .i64 (0), .int .i64 (0), .int .i64 (0), .int .i64 (0), .int .i64 (0), .int .i64 (0), .int .i64 (0), .int .i64 (0), .int .i64 (0), .int .i64 (0), .int .i64 (0), .int .i64 (0), .int .i64 (0), .int .i64 (0), .int .i64 (0), .int .i64 (0), .int .i64 (0), .int .i64 (0)]) [.val .nilFunc]) (bt t 270 (bt t 269 [.val .nilFunc] [.int .i32 (0), .int .i32 (0), .int .i32 (0), .int .i32 (0), .int .i32 (0), .int .i32 (0), .int .i32 (0), .int .i32 (0), .int .i32 (0), .int .i32 (0), .int .i32 (0), .int .i32 (0), .int .i32 (0), .int .i32 (0), .int .i32 (0), .int .i32 (0), .int .i32 (0), .int .i32 (0), .int .i32 (0), .int .i32 (0), .int .i32 (0), .int .i32 (0), .int .i32 (0), .int .i32 (0)]) (bt t 271 [.val .nilFunc] (bt t 272 [.int .u8 (0), .int .u8 (0), .int .u8 (0), .int .u8 (0), .int .u8 (0), .int .u8 (0), .int .u8 (0), .int .u8 (0), .int .u8 (0), .int .u8 (0), .int .u8 (0), .int .u8 (0), .int .u8 (0), .int .u8 (0), .int .u8 (0), .int .u8 (0), .int .u8 (0), .int .u8 (0), .int .u8 (0), .int .u8 (0), .int .u8 (0), .int .u8 (0), .int .u8 (0), .int .u8 (0), .int .u8 (0), .int .u8 (0), .int .u8 (0), .int .u8 (0), .int .u8 (0), .int .u8 (0), .int .u8 (0), .int .u8 (0)] [.int .u8 (0), .int .u8 (0), .int .u8 (0), .int .u8 (0), .int .u8 (0), .int .u8 (0), .int .u8 (0), .int .u8 (0), .int .u8 (0), .int .u8 (0), .int .u8 (0), .int .u8 (0), .int .u8 (0), .int .u8 (0), .int .u8 (0), .int .u8 (0), .int .u8 (0), .int .u8 (0), .int .u8 (0), .int .u8 (0), .int .u8 (0), .int .u8 (0), .int .u8 (0), .int .u8 (0), .int .u8 (0), .int .u8 (0), .int .u8 (0), .int .u8 (0), .int .u8 (0), .int .u8 (0), .int .u8 (0), .int .u8 (0), .int .u8 (0), .int .u8 (0), .int .u8 (0), .int .u8 (0), .int .u8 (0), .int .u8 (0), .int .u8 (0), .int .u8 (0), .int .u8 (0), .int .u8 (0), .int .u8 (0), .int .u8 (0), .int .u8 (0), .int .u8 (0), .int .u8 (0), .int .u8 (0), .int .u8 (0), .int .u8 (0), .int .u8 (0), .int .u8 (0), .int .u8 (0), .int .u8 (0), .int .u8 (0), .int .u8 (0), .int .u8 (0), .int .u8 (0), .int .u8 (0), .int .u8 (0), .int .u8 (0), .int .u8 (0), .int .u8 (0), .int .u8 (0)]))))) (bt t 282 (bt t 277 (bt t 275 (bt t 274 [.int .i64 (0), .int .i64 (0), .int .i64 (0), .int .i64 (0), .int .i64 (0)] []) [.int .u8 (0), .int .u8 (0)]) (bt t 279 (bt t 278 [.int .u8 (0), .int .u8 (0), .int .u8 (0), .int .u8 (0), .int .u8 (0), .int .u8 (0), .int .u8 (0), .int .u8 (0), .int .u8 (0), .int .u8 (0), .int .u8 (0), .int .u8 (0), .int .u8 (0), .int .u8 (0), .int .u8 (0), .int .u8 (0), .int .u8 (0), .int .u8 (0), .int .u8 (0), .int .u8 (0), .int .u8 (0), .int .u8 (0), .int .u8 (0), .int .u8 (0), .int .u8 (0), .int .u8 (0), .int .u8 (0), .int .u8 (0), .int .u8 (0), .int .u8 (0), .int .u8 (0), .int .u8 (0)] []) (bt t 280 [.val .nilFunc] ([.val (.pointer none), .val (.pointer none), .val (.pointer none), .str []])))) (bt t 287 (bt t 284 [] (bt t 285 [] [.int .u8 (0)])) (bt t 289 (bt t 288 [.val .nilFunc] [.int .i32 (0)]) (bt t 290 [.int .i32 (0)] [.int .u64 (0), .int .u64 (0), .int .u32 (0), .int .u8 (0), .int .u8 (0), .int .u8 (0), .int .u8 (0), .val .nilFunc, .val (.pointer none), .int .i32 (0), .int .i32 (0)])))))))) []
def ZcO(t:TypeId):Nat:=bt t 292 (bt t 145 (bt t 72 (bt t 35 (bt t 17 (bt t 8 (bt t 3 (bt t 1 (bt t 0 0 8) 8) (bt t 5 1 (bt t 6 1 24))) (bt t 12 (bt t 10 16 (bt t 11 16 8)) (bt t 14 24 8))) (bt t 26 (bt t 21 (bt t 19 8 (bt t 20 16 4)) (bt t 23 (bt t 22 24 8) (bt t 24 24 8))) (bt t 30 (bt t 28 8 (bt t 29 24 8)) (bt t 32 (bt t 31 24 8) (bt t 33 0 (bt t 34 8 0)))))) (bt t 53 (bt t 44 (bt t 39 (bt t 37 8 (bt t 38 8 32)) (bt t 41 (bt t 40 32 8) 8)) (bt t 48 (bt t 46 (bt t 45 8 0) (bt t 47 8 0)) (bt t 50 8 (bt t 51 24 (bt t 52 8 0))))) (bt t 62 (bt t 57 8 (bt t 59 (bt t 58 8 520) 8)) (bt t 67 (bt t 64 (bt t 63 8 56) (bt t 65 56 224)) (bt t 69 8 (bt t 70 8 24)))))) (bt t 108 (bt t 90 (bt t 81 (bt t 76 (bt t 74 104 8) (bt t 78 24 (bt t 79 48 (bt t 80 48 32)))) (bt t 85 (bt t 83 (bt t 82 32 8) 8) 8)) (bt t 99 (bt t 94 (bt t 92 80 (bt t 93 224 8)) (bt t 96 (bt t 95 0 8) (bt t 97 8 (bt t 98 8 136)))) (bt t 103 (bt t 101 (bt t 100 136 8) 8) (bt t 105 8 (bt t 106 32 8))))) (bt t 126 (bt t 117 (bt t 112 8 (bt t 114 (bt t 113 8 0) 8)) (bt t 121 (bt t 119 (bt t 118 8 0) (bt t 120 8 24)) (bt t 123 (bt t 122 8 0) 8))) (bt t 135 8 (bt t 140 (bt t 137 (bt t 136 8 32) (bt t 138 256 (bt t 139 256 8))) (bt t 142 (bt t 141 24 8) 8)))))) (bt t 218 (bt t 181 (bt t 163 (bt t 154 (bt t 149 (bt t 147 256 (bt t 148 8 24)) (bt t 151 24 8)) (bt t 158 8 (bt t 160 8 (bt t 161 8 (bt t 162 0 8))))) (bt t 172 (bt t 167 8 (bt t 169 (bt t 168 8 4) 8)) (bt t 176 (bt t 174 (bt t 173 8 24) 32) (bt t 178 16 (bt t 179 0 (bt t 180 8 48)))))) (bt t 199 (bt t 190 (bt t 185 (bt t 183 8 72) (bt t 187 288 (bt t 188 24 8))) (bt t 194 (bt t 192 8 128) (bt t 196 (bt t 195 0 8) 8))) (bt t 208 8 (bt t 213 8 (bt t 215 (bt t 214 0 8) (bt t 216 8 (bt t 217 8 152))))))) (bt t 255 (bt t 236 (bt t 227 (bt t 222 (bt t 220 (bt t 219 152 8) (bt t 221 8 24)) 8) (bt t 231 (bt t 229 (bt t 228 8 24) (bt t 230 8 0)) (bt t 233 8 (bt t 234 0 8)))) (bt t 245 (bt t 240 (bt t 238 (bt t 237 0 8) 8) (bt t 242 (bt t 241 0 8) 8)) (bt t 250 (bt t 247 8 (bt t 248 8 (bt t 249 160 65))) (bt t 252 8 (bt t 253 8 (bt t 254 8 24)))))) (bt t 273 (bt t 264 (bt t 259 (bt t 257 (bt t 256 24 8) 8) (bt t 261 8 (bt t 262 20 8))) (bt t 268 (bt t 266 (bt t 265 8 224) 8) (bt t 270 (bt t 269 8 96) (bt t 271 8 (bt t 272 32 64))))) (bt t 282 (bt t 277 (bt t 275 (bt t 274 40 256) 2) (bt t 279 (bt t 278 32 0) (bt t 280 8 40))) (bt t 287 (bt t 284 0 (bt t 285 0 1)) (bt t 289 (bt t 288 8 4) (bt t 290 4 48)))))))) 0
def Zar(t:TypeId):Option (List CK):=bt t 292 (bt t 145 (bt t 72 (bt t 35 none (bt t 53 (bt t 44 (bt t 39 none (bt t 41 (bt t 40 (some [.str, .str]) none) none)) none) (bt t 62 (bt t 57 none (bt t 59 (bt t 58 none (some [.int .i64, .int .i64, .int .i64, .int .i64, .int .i64, .int .i64, .int .i64, .int .i64, .int .i64, .int .i64, .int .i64, .int .i64, .int .i64, .int .i64, .int .i64, .int .i64, .int .i64, .int .i64, .int .i64, .int .i64, .int .i64, .int .i64, .int .i64, .int .i64, .int .i64, .int .i64, .int .i64, .int .i64, .int .i64, .int .i64, .int .i64, .int .i64, .int .i64, .int .i64, .int .i64, .int .i64, .int .i64, .int .i64, .int .i64, .int .i64, .int .i64, .int .i64, .int .i64, .int .i64, .int .i64, .int .i64, .int .i64, .int .i64, .int .i64, .int .i64, .int .i64, .int .i64, .int .i64, .int .i64, .int .i64, .int .i64, .int .i64, .int .i64, .int .i64, .int .i64, .int .i64, .int .i64, .int .i64, .int .i64, .int .i64])) none)) (bt t 67 (bt t 64 none (bt t 65 (some [.int .i64, .str, .str, .str]) (bt t 66 none (some [.int .i64, .str, .str, .str, .int .i64, .str, .str, .str, .int .i64, .str, .str, .str, .int .i64, .str, .str, .str])))) none)))) (bt t 108 (bt t 90 (bt t 81 none (bt t 85 (bt t 83 (bt t 82 (some [.int .i64, .str, .int .i64]) none) none) none)) (bt t 99 (bt t 94 (bt t 92 none (bt t 93 (some [.int .i64, .str, .str, .str, .int .i64, .str, .str, .str, .int .i64, .str, .str, .str, .int .i64, .str, .str, .str]) none)) none) none)) (bt t 126 none (bt t 135 none (bt t 140 (bt t 137 (bt t 136 none (some [.int .i64, .int .i64, .int .i64, .int .i64])) (bt t 138 none (bt t 139 (some [.int .i64, .str, .str, .str, .int .i64, .str, .str, .str, .int .i64, .str, .str, .str, .int .i64, .str, .str, .str, .int .i64, .int .i64, .int .i64, .int .i64]) none))) none))))) (bt t 218 (bt t 181 (bt t 163 (bt t 154 (bt t 149 (bt t 147 (bt t 146 none (some [.int .i64, .str, .str, .str, .int .i64, .str, .str, .str, .int .i64, .str, .str, .str, .int .i64, .str, .str, .str, .int .i64, .int .i64, .int .i64, .int .i64])) none) none) none) (bt t 172 none (bt t 176 none (bt t 178 none (bt t 179 none (bt t 180 none (some [.str, .str, .str]))))))) (bt t 199 (bt t 190 (bt t 185 (bt t 183 none (bt t 184 none (some [.bool, .int .i64, .int .i64, .str, .str, .str]))) (bt t 187 (some [.bool, .int .i64, .int .i64, .str, .str, .str, .bool, .int .i64, .int .i64, .str, .str, .str, .bool, .int .i64, .int .i64, .str, .str, .str, .bool, .int .i64, .int .i64, .str, .str, .str]) none)) none) none)) (bt t 255 (bt t 236 (bt t 227 none (bt t 231 (bt t 229 (bt t 228 none (some [.int .u8, .int .u8, .int .u8, .int .u8, .int .u8, .int .u8, .int .u8, .int .u8, .int .u8, .int .u8, .int .u8, .int .u8, .int .u8, .int .u8, .int .u8, .int .u8, .int .u8, .int .u8, .int .u8, .int .u8, .int .u8, .int .u8, .int .u8, .int .u8])) none) none)) (bt t 245 none (bt t 250 (bt t 247 none (bt t 248 none (bt t 249 (some [.int .u64, .int .u64, .int .u64, .int .u64, .int .u64, .int .u64, .int .u64, .int .u64, .int .u64, .int .u64, .int .u64, .int .u64, .int .u64, .int .u64, .int .u64, .int .u64, .int .u64, .int .u64, .int .u64, .int .u64]) (some [.int .u8, .int .u8, .int .u8, .int .u8, .int .u8, .int .u8, .int .u8, .int .u8, .int .u8, .int .u8, .int .u8, .int .u8, .int .u8, .int .u8, .int .u8, .int .u8, .int .u8, .int .u8, .int .u8, .int .u8, .int .u8, .int .u8, .int .u8, .int .u8, .int .u8, .int .u8, .int .u8, .int .u8, .int .u8, .int .u8, .int .u8, .int .u8, .int .u8, .int .u8, .int .u8, .int .u8, .int .u8, .int .u8, .int .u8, .int .u8, .int .u8, .int .u8, .int .u8, .int .u8, .int .u8, .int .u8, .int .u8, .int .u8, .int .u8, .int .u8, .int .u8, .int .u8, .int .u8, .int .u8, .int .u8, .int .u8, .int .u8, .int .u8, .int .u8, .int .u8, .int .u8, .int .u8, .int .u8, .int .u8, .int .u8])))) none))) (bt t 273 (bt t 264 (bt t 259 none (bt t 261 none (bt t 262 (some [.int .i32, .int .i32, .int .i32, .int .i32, .int .i32]) none))) (bt t 268 (bt t 266 (bt t 265 none (some [.int .i64, .int .i64, .int .i64, .int .i64, .int .i64, .int .i64, .int .i64, .int .i64, .int .i64, .int .i64, .int .i64, .int .i64, .int .i64, .int .i64, .int .i64, .int .i64, .int .i64, .int .i64, .int .i64, .int .i64, .int .i64, .int .i64, .int .i64, .int .i64, .int .i64, .int .i64, .int .i64, .int .i64])) none) (bt t 270 (bt t 269 none (some [.int .i32, .int .i32, .int .i32, .int .i32, .int .i32, .int .i32, .int .i32, .int .i32, .int .i32, .int .i32, .int .i32, .int .i32, .int .i32, .int .i32, .int .i32, .int .i32, .int .i32, .int .i32, .int .i32, .int .i32, .int .i32, .int .i32, .int .i32, .int .i32])) (bt t 271 none (bt t 272 (some [.int .u8, .int .u8, .int .u8, .int .u8, .int .u8, .int .u8, .int .u8, .int .u8, .int .u8, .int .u8, .int .u8, .int .u8, .int .u8, .int .u8, .int .u8, .int .u8, .int .u8, .int .u8, .int .u8, .int .u8, .int .u8, .int .u8, .int .u8, .int .u8, .int .u8, .int .u8, .int .u8, .int .u8, .int .u8, .int .u8, .int .u8, .int .u8]) (some [.int .u8, .int .u8, .int .u8, .int .u8, .int .u8, .int .u8, .int .u8, .int .u8, .int .u8, .int .u8, .int .u8, .int .u8, .int .u8, .int .u8, .int .u8, .int .u8, .int .u8, .int .u8, .int .u8, .int .u8, .int .u8, .int .u8, .int .u8, .int .u8, .int .u8, .int .u8, .int .u8, .int .u8, .int .u8, .int .u8, .int .u8, .int .u8, .int .u8, .int .u8, .int .u8, .int .u8, .int .u8, .int .u8, .int .u8, .int .u8, .int .u8, .int .u8, .int .u8, .int .u8, .int .u8, .int .u8, .int .u8, .int .u8, .int .u8, .int .u8, .int .u8, .int .u8, .int .u8, .int .u8, .int .u8, .int .u8, .int .u8, .int .u8, .int .u8, .int .u8, .int .u8, .int .u8, .int .u8, .int .u8])))))) (bt t 282 (bt t 277 (bt t 275 (bt t 274 (some [.int .i64, .int .i64, .int .i64, .int .i64, .int .i64]) none) (bt t 276 none (some [.int .u8, .int .u8]))) (bt t 279 (bt t 278 (some [.int .u8, .int .u8, .int .u8, .int .u8, .int .u8, .int .u8, .int .u8, .int .u8, .int .u8, .int .u8, .int .u8, .int .u8, .int .u8, .int .u8, .int .u8, .int .u8, .int .u8, .int .u8, .int .u8, .int .u8, .int .u8, .int .u8, .int .u8, .int .u8, .int .u8, .int .u8, .int .u8, .int .u8, .int .u8, .int .u8, .int .u8, .int .u8]) none) none)) none))))) none
def Zej(t:TypeId):Option (Bool×List CK):=bt t 292 (bt t 145 (bt t 72 (bt t 35 (bt t 17 (bt t 8 none (bt t 12 (bt t 10 (bt t 9 (some (false,[.str])) none) none) none)) none) none) (bt t 108 (bt t 90 none (bt t 99 (bt t 94 (bt t 92 none (bt t 93 (some (true,[.int .i64, .str, .str, .str, .int .i64, .str, .str, .str, .int .i64, .str, .str, .str, .int .i64, .str, .str, .str])) none)) none) none)) none)) none) none
def basesTableInts:List Int:=[192,214,216,246,248,767,880,893,895,8191,8204,8205,8304,8591,11264,12271,12289,55295,63744,64975,65008,65533,65536,983039]
def UG:List (List SV):=basesTableInts.map fun x=>[.int .i32 x]
def uint64pow10Ints:List Int:=[1,10,100,1000,10000,100000,1000000,10000000,100000000,1000000000,10000000000,100000000000,1000000000000,10000000000000,100000000000000,1000000000000000,10000000000000000,100000000000000000,1000000000000000000,10000000000000000000]
def Z2b:List Value:=uint64pow10Ints.map fun x=> .int .u64 x
def tab:Tab:={sh:=Zg8,size:=ZeT,zero:=Zaq,bytes:=ZcO,flat:=Zar,key:=Zej,globs:=[(2, .rows 1 UG),(1, .tbl Z2b)],bld:=some (176,5)}
theorem Z1:TabOK prog tab:=by
 refine ZcM 293 (by kernel_rfl) (fun t ht=>?_)
 have h:Nat.ble t 292=false:=by
  cases e:Nat.ble t 292
  ·rfl
  ·have:=Nat.le_of_ble_eq_true e;omega
 exact⟨by(simp only[tab,Zg8]<;>first|exact ZcN h|rfl),by(simp only[tab,Zaq]<;>first|exact ZcN h|rfl),by(simp only[tab,Zar]<;>first|exact ZcN h|rfl),by(simp only[tab,Zej]<;>first|exact ZcN h|rfl)⟩
theorem mixed:prog.follows .mixedOrders=true:=by kernel_rfl
end Go.Proofs.YtbfbokdccdagkaaGreatDoor
set_option linter.unusedVariables false
set_option linter.unusedSimpArgs false
set_option maxRecDepth 20000
set_option maxHeartbeats 8000000
namespace Go.Proofs.YtbfbokdccdagkaaGreatDoor
open Go.Sx Go.Our
open Tryz
def ZaP:Plan:=(ZU [(0,1),(2,1),(5,1),(7,1),(10,1),(12,1),(15,1),(17,1),(1,2),(3,2),(6,2),(8,2),(11,2),(13,2),(16,2),(18,2),(4,3),(9,3),(14,3),(19,3),(20,3),(21,3),(22,1)])
theorem Z8Y(a:Int):Does prog tab 139 0 [.int .i64 a] [] [] (Val (.bool false)):=by
 refine Does.enter Z1 call139 func139 rfl 6 rfl rfl [.tmp 2] rfl ?_;intro w0 F η0 h0;conv=>whnf
 exact FIN.value h0 rfl (by simp)
theorem Z5H(a b:Int):Does prog tab 111 0 [.int .i64 a, .int .i64 b] [] [] (Val (.int .i64 (cmpI a b))):=by
 refine Does.enter Z1 call111 func111 rfl 20 rfl rfl [.tmp 4] rfl ?_;intro w0 F η0 h0;conv=>whnf
 repeat'((first|refine CALL.value (Z8Y _) rfl rfl ?_|refine AU ?_|(refine IW ?_ ?_<;>intro h<;>try(exfalso;omega)))<;>conv=>whnf)
 all_goals
  refine FIN.value h0 rfl (congrArg (SV.int _) ?_);unfold cmpI
  (repeat' split)<;>simp_all<;>omega
theorem Z74(a b:List UInt8):Does prog tab 173 0 [.str a, .str b] [] [] (Val (.int .i64 (cmpL a b))):=by
 refine Does.says fun η w vs hd=>?_;simp only[DenL,Den]at hd;obtain⟨u,us,rfl,rfl,u',us',rfl,rfl,rfl⟩:=hd;refine⟨_,?_,rfl⟩;rw[run_callFunc_extern func173 (by kernel_rfl) (by kernel_rfl) (by kernel_rfl) (e:=Extern.BytealgCompare.compare) (by kernel_rfl),Lib.run_compareString]
 rfl
theorem Z2W(a b:List UInt8):Does prog tab 140 0 [.str a, .str b] [] [] (Val (.int .i64 (cmpL a b))):=by
 refine Does.enter Z1 call140 func140 rfl 8 rfl rfl [.tmp 4] rfl ?_;intro w0 F η0 h0;conv=>whnf
 repeat'((first|refine CALL.value (Z74 _ _) rfl rfl ?_|refine AU ?_|(refine IW ?_ ?_<;>intro h<;>try(exfalso;omega)))<;>conv=>whnf)
 exact FIN.value h0 rfl rfl
theorem UY(a b:List UInt8):Does prog tab 112 0 [.str a, .str b] [] [] (Val (.int .i64 (cmpL a b))):=by
 refine Does.enter Z1 call112 func112 rfl 8 rfl rfl [.tmp 4] rfl ?_;intro w0 F η0 h0;conv=>whnf
 repeat'((first|refine CALL.value (Z2W _ _) rfl rfl ?_|refine AU ?_|(refine IW ?_ ?_<;>intro h<;>try(exfalso;omega)))<;>conv=>whnf)
 exact FIN.value h0 rfl rfl
def ZaQ(x:Int):List SV:=[.int .i64 x]
theorem ZaR(xs:List Int)(hn:xs.length<=1152921504606846976):Does prog tab 87 1 [.sl (.loc 0) 0 1 xs.length none] [] [(0, .rows 1 (xs.map ZaQ))] (ValK 1 (.int .i64 (orI xs))):=by
 refine Does.enter Z1 call87 func87 rfl 18 rfl rfl [.tmp 2] rfl ?_;intro w0 F η0 h0;conv=>whnf
 refine LOOP.go Z1 [3,6,7] (X:=Nat) (fun i=>i<=xs.length/\orI xs=orI (xs.drop i)) (fun i=>[(8, .int .i64 (i:Int))]) (fun i=>[]) 1 (fun i=>xs.length-i) 0 ⟨by omega,rfl⟩ ?_;conv=>whnf
 refine⟨by exact GOES.cA h0,?_⟩;rintro i ⟨hi,ho⟩;conv=>whnf
 repeat'((first|(refine GET.at (row:=ZaQ (xs[i]'(by omega))) (by rw[List.getElem?_map,show 0+(i:Int).toNat=i by omega,List.getElem?_eq_getElem (by omega)];rfl) ?_;conv=>whnf)|refine AU ?_|(refine IW ?_ ?_<;>intro h<;>try(exfalso;omega)))<;>conv=>whnf)
 ·have hl:i<xs.length:=by omega
  refine FIN.valueK h0 rfl (congrArg (SV.int _) ?_);rw[ho,List.drop_eq_getElem_cons hl];simp only[orI];rw[if_pos h]
 ·have hl:i<xs.length:=by omega
  refine⟨i+1,⟨by omega,?_⟩,by omega,?_⟩
  ·rw[ho,List.drop_eq_getElem_cons hl];simp only[orI];rw[if_neg (by simpa using h)]
  ·conv=>whnf
   exact GOES.cA h0
 ·refine FIN.valueK h0 rfl (congrArg (SV.int _) ?_);rw[ho,List.drop_eq_nil_of_le (by omega)];rfl
abbrev tmR(x:Tm):List SV:=[.int .i64 x.k, .str x.t, .str x.y, .str x.l]
theorem Ul(a b:Tm):Does prog tab 88 0 [.agg (tmR a), .agg (tmR b)] [] [] (Val (.int .i64 (UA a b))):=by
 refine Does.enter Z1 call88 func88 rfl 27 rfl rfl [.tmp 4] rfl ?_;intro w0 F η0 h0;conv=>whnf
 repeat'((first|refine DRAWN.of (id:=1) Z1 mixed ZaP (by kernel_rfl) ?_|refine ADD.mk (fun _ _=>?_)|refine AD ?_|refine FORK.mk ?_ ?_|refine CALL.value (Z5H a.k b.k) rfl rfl ?_|refine CALL.value (UY a.t b.t) rfl rfl ?_|refine CALL.value (UY a.y b.y) rfl rfl ?_|refine CALL.value (UY a.l b.l) rfl rfl ?_|(refine CALL.looks [2] (ZaR [cmpI a.k b.k,cmpL a.t b.t,cmpL a.y b.y,cmpL a.l b.l] (by simp)) rfl rfl rfl rfl ⟨⟨rfl,rfl,rfl⟩,trivial⟩ ?_;conv=>whnf)|refine AU ?_|(refine IW ?_ ?_<;>intro h<;>try(exfalso;omega)))<;>conv=>whnf)
 exact FIN.value h0 rfl (by rw[<-Zgg])
theorem Z3A(a b:Qd):Does prog tab 61 0 [.agg a.row, .agg b.row] [] [] (Val (.int .i64 (ZH a b))):=by
 refine Does.enter Z1 call61 func61 rfl 27 rfl rfl [.tmp 4] rfl ?_;intro w0 F η0 h0;conv=>whnf
 repeat'((first|refine DRAWN.of (id:=1) Z1 mixed ZaP (by kernel_rfl) ?_|refine ADD.mk (fun _ _=>?_)|refine AD ?_|refine FORK.mk ?_ ?_|refine CALL.value (Ul a.g b.g) rfl rfl ?_|refine CALL.value (Ul a.s b.s) rfl rfl ?_|refine CALL.value (Ul a.p b.p) rfl rfl ?_|refine CALL.value (Ul a.o b.o) rfl rfl ?_|(refine CALL.looks [2] (ZaR [UA a.g b.g,UA a.s b.s,UA a.p b.p,UA a.o b.o] (by simp)) rfl rfl rfl rfl ⟨⟨rfl,rfl,rfl⟩,trivial⟩ ?_;conv=>whnf)|refine AU ?_|(refine IW ?_ ?_<;>intro h<;>try(exfalso;omega)))<;>conv=>whnf)
 exact FIN.value h0 rfl (by rw[<-Zgh])
end Go.Proofs.YtbfbokdccdagkaaGreatDoor
namespace Go.Proofs.YtbfbokdccdagkaaGreatDoor
open Go.Sx Go.Our
abbrev Xf(l:List Qd):Prop:=l.length*224<=140737488351232
theorem Um{l z:List Qd}{i:Nat}(h:i<l.length):((l++z).map Zl)[i]?=some (Zl l[i]):=by
 rw[List.getElem?_map,List.getElem?_append_left h,List.getElem?_eq_getElem h];rfl
end Go.Proofs.YtbfbokdccdagkaaGreatDoor
namespace Go.Proofs.YtbfbokdccdagkaaGreatDoor
open Go.Sx Go.Our Go.Sort Go.Shelf
open Tryz
def Z18:Plan:=(ZU [(0,1),(1,1),(2,1),(4,1),(5,1),(6,1),(7,1),(3,2),(8,2),(9,1)])
abbrev Zhr(l:List Tm):Prop:=l.length*224<=140737488351232
theorem Z3C{α:Type}(f:α->List SV){C l:List α}{j:Nat}(h1:C.length<=j)(h2:j<l.length):((C++l.drop C.length).map f)[j]?=some (f l[j]):=by
 rw[List.getElem?_map,List.getElem?_append_right h1,List.getElem?_drop,show C.length+(j-C.length)=j by omega,List.getElem?_eq_getElem h2];rfl
theorem ZaW{α:Type}(f:α->List SV){C l:List α}(x:α)(h:C.length<l.length):((C++l.drop C.length).map f).set C.length (f x)=((C++ [x])++l.drop (C++ [x]).length).map f:=by
 rw[Z84,List.set_append_right _ _ (Nat.le_refl _),Nat.sub_self,List.drop_eq_getElem_cons h,List.set_cons_zero];simp
theorem Z5J{α:Type}(f:α->List SV){C l:List α}(z:α)(h:C.length<=l.length):((C++l.drop C.length).map f).take C.length++List.replicate (l.length-C.length) (f z)++((C++l.drop C.length).map f).drop (C.length+(l.length-C.length))=(C++List.replicate (l.length-C.length) z).map f:=by
 have h1:((C++l.drop C.length).map f).length=l.length:=by simp;omega
 rw[List.drop_of_length_le (l:=(C++l.drop C.length).map f) (by omega),List.append_nil,List.map_append,List.map_append,List.map_replicate,List.take_append_of_le_length (by simp),List.take_of_length_le (by simp)]
theorem Z91{rs:List (List SV)}{i j:Nat}{row:List SV}(h:rs[i]?=some row)(e:j=i):rs[j]?=some row:=e▸h
theorem Z76(l z:List Qd)(lim:Option Nat)(hl:l.length*224<=140741783322624):Does prog tab 93 1 [.sl (.loc 0) 0 16 l.length lim] [] [(0, .rows 16 ((l++z).map Zl))]
 (fun r O nx=>r= .sl (.loc 1) 0 16 l.length none/\O=[(1, .rows 16 (l.map Zl))]/\nx=2):=by
 refine Does.enter Z1 call93 func93 rfl 8 rfl rfl [.tmp 2] rfl ?_;intro w0 F η0 h0;conv=>whnf
 repeat'((first|(rw[ZaF];conv=>whnf)|(refine NEED.mk (Yc 224 rfl rfl (by simp) (by simp) (by omega)) ?_;conv=>whnf)|refine AU ?_|((with_reducible refine UNK.mk (fun h=>?_) ?_)<;>try(exfalso;omega))|(refine IW ?_ ?_<;>intro h<;>try(exfalso;omega)))<;>conv=>whnf)
 ·have:l=[]:=List.length_eq_zero_iff.1 h;subst this;refine FIN.nil 16 ?_;exact FIN.rows h0 1 16 0 rfl rfl rfl rfl ⟨rfl,rfl,rfl⟩
 ·rw[Nat.zero_add];exact FIN.rows h0 2 16 l.length rfl rfl rfl (Zb _) ⟨rfl,rfl,rfl⟩
theorem Z92(l:List Qd)(n:Nat)(hn:n<=l.length)(hl:l.length*224<=140741783322624):Does prog tab 95 1 [.sl (.loc 0) 0 16 n none] [(0, .rows 16 (l.map Zl))] []
 (fun r O nx=>r= .sl (.loc 0) 0 16 n (some n)/\O=[(0, .rows 16 (l.map Zl))]/\nx=1):=by
 refine Does.enter Z1 call95 func95 rfl 9 rfl rfl [.tmp 2] rfl ?_;intro w0 F η0 h0;conv=>whnf
 repeat'((first|(refine NEED.mk ⟨by omega,by omega,by omega⟩ ?_;conv=>whnf)|refine AU ?_|(refine IW ?_ ?_<;>intro h<;>try(exfalso;omega)))<;>conv=>whnf)
 refine FIN.here h0 (rc:= .sl (.loc 0) 0 16 n (some n)) (Oc:=[(0, .rows 16 (l.map Zl))]) (by simp) rfl (by first|rfl|(simp only[Zv,Zs,Ze _ (Zb _),Bool.and_self,Bool.and_true]<;>rfl)) ⟨rfl,trivial⟩ ⟨rfl,rfl,rfl⟩
theorem Z4o(l:List Qd)(hl:l.length*224<=140741783322624):Does prog tab 96 1 [.sl (.loc 0) 0 16 l.length none] [(0, .rows 16 (l.map Zl))] []
 (fun r O nx=>r= .sl (.loc 0) 0 16 (Z5 l).length none/\O=[(0, .rows 16 ((Z5 l++List.replicate (l.length-(Z5 l).length) Yv).map Zl))]/\nx=1):=by
 have fin:∀{m:Nat},m=(Z5 l).length->Z5 l=l->(SV.sl (.loc 0) 0 16 l.length none=SV.sl (.loc 0) 0 16 (Z5 l).length none)/\l.map Zl=(Z5 l++List.replicate (l.length-(Z5 l).length) Yv).map Zl:=fun hm he=>by
  rw[he];simp
 refine Does.enter Z1 call96 func96 rfl 61 rfl rfl [.tmp 2] rfl ?_;intro w0 F η0 h0;conv=>whnf
 refine IF.mk (fun h=>?_) (fun h=>?_)
 ·have h:l.length<2:=by simp at h;omega
  obtain⟨f1,f2⟩:=fin rfl (UX h);conv=>whnf
  rw[f1,f2];refine FIN.here h0 (rc:= .sl (.loc 0) 0 16 (Z5 l).length none) (Oc:=[(0, .rows 16 ((Z5 l++List.replicate (l.length-(Z5 l).length) Yv).map Zl))]) rfl rfl (by first|rfl|(simp only[Zv,Zs,Ze _ (Zb _),Bool.and_self,Bool.and_true]<;>rfl)) ⟨rfl,trivial⟩ ⟨rfl,rfl,rfl⟩
 have h2:2<=l.length:=by simp at h;omega
 clear h;conv=>whnf
 refine LOOP.go Z1 [0] (X:=Nat) (fun k=>1<=k/\k<=l.length/\Z5 (l.take k)=l.take k) (fun k=>[(3, .int .i64 (k:Int))]) (fun k=>[(0, .rows 16 (l.map Zl))]) 1 (fun k=>l.length-k) 1 ⟨by omega,by omega,Z2j⟩ ?_;conv=>whnf
 refine⟨by exact GOES.cA h0,?_⟩;rintro k ⟨hk1,hkl,hk⟩;conv=>whnf
 rcases Nat.lt_or_ge k l.length with hlt|hge
 ·have hs:=J3 hk1 hlt;have hk':(IntKind.i64.wrap ((k:Int)-1)).toNat=k-1:=by rw[Z6 (by omega) (by omega)];omega
  repeat'((first|refine DRAWN.of (id:=6) Z1 mixed Z18 (by kernel_rfl) ?_|refine DRAWN.of (id:=11) Z1 mixed Z18 (by kernel_rfl) ?_|refine ADD.mk (fun _ _=>?_)|refine AD ?_|refine FORK.mk ?_ ?_|(refine GET.at (row:=Zl (l[k]'(by omega))) (YP (by omega) (by omega)) ?_;conv=>whnf)|(refine GET.at (row:=Zl (l[k-1]'(by omega))) (YP (by omega) (by omega)) ?_;conv=>whnf)|refine AU ?_|(refine IW ?_ ?_<;>intro h<;>try(exfalso;omega)))<;>conv=>whnf)
  ·have heq:l[k]=l[k-1]:=Qd.ext' (by simp only[Zl,Qd.row,List.cons.injEq,SV.int.injEq,SV.str.injEq,true_and,and_true];exact h);rw[if_pos heq,hk]at hs;have hs0:(Z5 (l.take (k+1))).length=k:=by rw[hs];simp;omega
   clear h heq;refine LOOP.go Z1 [0,4] (X:=Nat) (fun i=>k+1<=i/\i<=l.length/\(Z5 (l.take i)).length+1<=i/\k<=(Z5 (l.take i)).length) (fun i=>[(3, .int .i64 ((Z5 (l.take i)).length:Int)),(5, .int .i64 ((i-k:Nat):Int))]) (fun i=>[(0, .rows 16 ((Z5 (l.take i)++l.drop (Z5 (l.take i)).length).map Zl))]) 1 (fun i=>l.length-i) (k+1) ⟨by omega,by omega,by omega,by omega⟩ ?_;conv=>whnf
   refine⟨by(refine GOES.cutting h0 rfl rfl rfl (by first|rfl|(simp only[Zv,Zs,Ze _ (Zb _),Bool.and_self,Bool.and_true]<;>rfl)) ?_ ?_<;>(repeat'(first|(with_reducible rfl)|(exact YY rfl (by first|(simp;done)|omega|(simp;omega)))|(exact congrArg (SV.int _) (by first|omega|(simp(disch:=omega) only[lnB,Z6,Z9]<;>omega)|(simp;done)|(simp<;>omega)))|(exact congrArg (Hp.rows _) (by(rw[hs,List.length_take,Nat.min_eq_left hkl,List.take_append_drop])))|((conv=>whnf);refine⟨?_,?_⟩)|exact trivial|rfl))),?_⟩;rintro i ⟨hi1,hi2,hi3,hi4⟩;obtain⟨C,hC⟩:∃C,C=Z5 (l.take i):=⟨_,rfl⟩;have hsi:=fun h=>J3 (l:=l) (i:=i) (by omega) h;rw[<-hC]at hi3 hi4 hsi;dsimp only;rw[<-hC];conv=>whnf
   rcases Nat.lt_or_ge i l.length with hil|hil
   ·have hsi:=hsi hil;have hwr:IntKind.i64.wrap (((i-k:Nat):Int)-1)=((i-1-k:Nat):Int):=by rw[Z6 (by omega) (by omega)];omega
    have hg1:((C++l.drop C.length).map Zl)[i]?=some (Zl l[i]):=Z3C Zl (by omega) hil;have hg2:((C++l.drop C.length).map Zl)[i-1]?=some (Zl (l[i-1]'(by omega))):=Z3C Zl (by omega) (by omega);have hg3:((C++l.drop C.length).map Zl)[C.length]?=some (Zl (l[C.length]'(by omega))):=Z3C Zl (Nat.le_refl _) (by omega);repeat'((first|refine DRAWN.of (id:=6) Z1 mixed Z18 (by kernel_rfl) ?_|refine DRAWN.of (id:=11) Z1 mixed Z18 (by kernel_rfl) ?_|refine ADD.mk (fun _ _=>?_)|refine AD ?_|refine FORK.mk ?_ ?_|(refine GET.at (row:=Zl (l[i]'(by omega))) (Z91 hg1 (by omega)) ?_;conv=>whnf)|(refine GET.at (row:=Zl (l[i-1]'(by omega))) (Z91 hg2 (by rw[hwr];omega)) ?_;conv=>whnf)|(refine GET.at (row:=Zl (l[C.length]'(by omega))) (Z91 hg3 (by omega)) ?_;conv=>whnf)|refine AU ?_|(refine IW ?_ ?_<;>intro h<;>try(exfalso;omega)))<;>conv=>whnf)
    ·have hne:¬l[i]=l[i-1]'(by omega):=fun he=>by rw[he]at h;simp at h
     rw[if_neg hne]at hsi;refine⟨i+1,⟨by omega,by omega,by rw[hsi,List.length_append];simp;omega,by rw[hsi,List.length_append];simp;omega⟩,by omega,?_⟩;rw[hsi];conv=>whnf
     (refine GOES.cutting h0 rfl rfl rfl (by first|rfl|(simp only[Zv,Zs,Ze _ (Zb _),Bool.and_self,Bool.and_true]<;>rfl)) ?_ ?_<;>(repeat'(first|(with_reducible rfl)|(exact YY rfl (by first|(simp;done)|omega|(simp;omega)))|(exact congrArg (SV.int _) (by first|omega|(simp(disch:=omega) only[lnB,Z6,Z9]<;>omega)|(simp;done)|(simp<;>omega)))|(exact congrArg (Hp.rows _) (by(first|(simp only[Nat.zero_add,Int.toNat_natCast];exact ZaW Zl _ (by omega))|rfl)))|((conv=>whnf);refine⟨?_,?_⟩)|exact trivial|rfl)))
    ·have heq:l[i]=l[i-1]'(by omega):=Qd.ext' (by simp only[Zl,Qd.row,List.cons.injEq,SV.int.injEq,SV.str.injEq,true_and,and_true];exact h);rw[if_pos heq]at hsi;refine⟨i+1,⟨by omega,by omega,by rw[hsi];omega,by rw[hsi];omega⟩,by omega,?_⟩;rw[hsi];conv=>whnf
     exact GOES.cA h0
   ·have hCl:C=Z5 l:=by rw[hC,List.take_of_length_le hil]
    have hcl:C.length<=l.length:=by omega
    repeat'((first|(refine NEED.mk (by simp only[List.length_map,List.length_append,List.length_drop];omega) ?_;conv=>whnf)|(refine NEED.mk ⟨by omega,Z14 (by omega)⟩ ?_;conv=>whnf)|refine AU ?_|(refine IW ?_ ?_<;>intro h<;>try(exfalso;omega)))<;>conv=>whnf)
    rw[<-hCl];refine FIN.here h0 (rc:= .sl (.loc 0) 0 16 C.length none) (Oc:=[(0, .rows 16 ((C++List.replicate (l.length-C.length) Yv).map Zl))]) (by simp) rfl (by first|rfl|(simp only[Zv,Zs,Ze _ (Zb _),Bool.and_self,Bool.and_true]<;>rfl)) ⟨?_,trivial⟩ ⟨rfl,rfl,rfl⟩;refine congrArg (Hp.rows 16) ?_;simp only[Nat.zero_add,Int.toNat_natCast];exact Z5J Zl Yv hcl
  ·have hne:¬l[k]=l[k-1]:=fun he=>by rw[he]at h;simp at h
   rw[if_neg hne,hk]at hs;refine⟨k+1,⟨by omega,by omega,by rw[hs,List.take_succ_eq_append_getElem hlt]⟩,by omega,?_⟩;conv=>whnf
   exact GOES.cA h0
 ·have hkn:k=l.length:=by omega
  rw[hkn,List.take_of_length_le (Nat.le_refl _)]at hk;obtain⟨f1,f2⟩:=fin rfl hk;repeat'((first|refine AU ?_|(refine IW ?_ ?_<;>intro h<;>try(exfalso;omega)))<;>conv=>whnf)
  rw[f1,f2];refine FIN.here h0 (rc:= .sl (.loc 0) 0 16 (Z5 l).length none) (Oc:=[(0, .rows 16 ((Z5 l++List.replicate (l.length-(Z5 l).length) Yv).map Zl))]) rfl rfl (by first|rfl|(simp only[Zv,Zs,Ze _ (Zb _),Bool.and_self,Bool.and_true]<;>rfl)) ⟨rfl,trivial⟩ ⟨rfl,rfl,rfl⟩
def ZaX:Go.Shelf.Ren:=⟨fun|6=>94|15=>90|14=>125|28=>122|29=>123|20=>147|21=>148|22=>149|23=>150|24=>151|25=>152|26=>153|27=>154|46=>175|47=>142|48=>143|49=>176|50=>177|57=>210|n=>n,fun|22=>22|24=>67|25=>103|3=>3|39=>135|0=>0|53=>169|55=>104|4=>4|46=>162|45=>161|50=>114|5=>5|9=>9|66=>198|70=>202|76=>223|77=>119|n=>n,fun|n=>n⟩
theorem Zgk:Go.Proofs.SlLaysF0.n6 prog ZaX where
 mixed:=by kernel_rfl
 f6:=⟨f94.name,by decide,func94.trans (congrArg some (by kernel_rfl))⟩
 f14:=⟨f125.name,by decide,func125.trans (congrArg some (by kernel_rfl))⟩
 f15:=func90.trans (congrArg some (by kernel_rfl))
 f20:=⟨f147.name,by decide,func147.trans (congrArg some (by kernel_rfl))⟩
 f21:=⟨f148.name,by decide,func148.trans (congrArg some (by kernel_rfl))⟩
 f22:=⟨f149.name,by decide,func149.trans (congrArg some (by kernel_rfl))⟩
 f23:=⟨f150.name,by decide,func150.trans (congrArg some (by kernel_rfl))⟩
 f24:=⟨f151.name,by decide,func151.trans (congrArg some (by kernel_rfl))⟩
 f25:=⟨f152.name,by decide,func152.trans (congrArg some (by kernel_rfl))⟩
 f26:=⟨f153.name,by decide,func153.trans (congrArg some (by kernel_rfl))⟩
 f27:=⟨f154.name,by decide,func154.trans (congrArg some (by kernel_rfl))⟩
 f28:=func122.trans (congrArg some (by kernel_rfl))
 f29:=func123.trans (congrArg some (by kernel_rfl))
 f46:=⟨f175.name,by decide,func175.trans (congrArg some (by kernel_rfl))⟩
 f47:=func142.trans (congrArg some (by kernel_rfl))
 f48:=func143.trans (congrArg some (by kernel_rfl))
 f49:=⟨f176.name,by decide,func176.trans (congrArg some (by kernel_rfl))⟩
 f50:=⟨f177.name,by decide,func177.trans (congrArg some (by kernel_rfl))⟩
 f57:=⟨f210.name,by decide,func210.trans (congrArg some (by kernel_rfl))⟩
 t0:=underlying0
 a0:=isAgg0
 z0:=sizeOf0
 v0:=zeroValue0
 t3:=underlying3
 a3:=isAgg3
 z3:=sizeOf3
 v3:=zeroValue3
 t4:=underlying4
 a4:=isAgg4
 z4:=sizeOf4
 v4:=zeroValue4
 t5:=underlying5
 a5:=isAgg5
 z5:=sizeOf5
 v5:=zeroValue5
 t9:=underlying9
 a9:=isAgg9
 z9:=sizeOf9
 v9:=zeroValue9
 t22:=underlying22
 a22:=isAgg22
 z22:=sizeOf22
 v22:=zeroValue22
 t25:=underlying103
 a25:=isAgg103
 z25:=sizeOf103
 v25:=zeroValue103
 t39:=underlying135
 a39:=isAgg135
 z39:=sizeOf135
 v39:=zeroValue135
 t45:=underlying161
 a45:=isAgg161
 z45:=sizeOf161
 v45:=zeroValue161
 t46:=underlying162
 a46:=isAgg162
 z46:=sizeOf162
 v46:=zeroValue162
 t50:=underlying114
 a50:=isAgg114
 z50:=sizeOf114
 v50:=zeroValue114
 t53:=underlying169
 a53:=isAgg169
 z53:=sizeOf169
 v53:=zeroValue169
 t55:=underlying104
 a55:=isAgg104
 z55:=sizeOf104
 v55:=zeroValue104
 t66:=underlying198
 a66:=isAgg198
 z66:=sizeOf198
 v66:=zeroValue198
 t70:=underlying202
 a70:=isAgg202
 z70:=sizeOf202
 v70:=zeroValue202
 t76:=underlying223
 a76:=isAgg223
 z76:=sizeOf223
 v76:=zeroValue223
 t77:=underlying119
 a77:=isAgg119
 z77:=sizeOf119
 v77:=zeroValue119
abbrev strU(s:List UInt8):Value:= .string ⟨s.toArray⟩
def qdE(q:Qd):List Value:=[.int .i64 q.s.k,strU q.s.t,strU q.s.y,strU q.s.l, .int .i64 q.p.k,strU q.p.t,strU q.p.y,strU q.p.l, .int .i64 q.o.k,strU q.o.t,strU q.o.y,strU q.o.l, .int .i64 q.g.k,strU q.g.t,strU q.g.y,strU q.g.l]
instance :Inhabited Tm:=⟨Y6⟩
instance :Inhabited Qd:=⟨Yv⟩
theorem Z4p{α:Type}(c:α->α->Int)(x y:α):ltOf c x y=decide (c x y<0):=rfl
theorem Zgl{α:Type}{c:α->α->Int}(h:Tri c):SWO (ltOf c) where
 irrefl x:=by rw[Z4p,h.self];rfl
 trans x y z h1 h2:=by rw[Z4p]at*;simp only[decide_eq_true_iff]at*;exact h.lt_trans h1 (by omega)
 ntrans x y z h1 h2:=by
  rw[Z4p]at*;simp only[decide_eq_false_iff_not]at*;intro hc;have:=h.anti x y;have:=h.anti y z;have:=h.anti x z;have:=h.trans z y x (by omega) (by omega);omega
theorem Zgm{α:Type}{c:α->α->Int}(h:Tri c)(x y:α)(h1:ltOf c x y=false)(h2:ltOf c y x=false):x=y:=by
 rw[Z4p]at*;simp only[decide_eq_false_iff_not]at*;have:=h.anti x y;exact(h.zero x y).1 (by omega)
theorem Zd1{η:Env}:∀{vs us:List Value} {cs:List SV},DenL η cs vs->DenL η cs us->Z2T cs=true->vs=us:=fun h h' hd=>DetL.of hd _ _ _ h h'
theorem Z93(l:List Qd)(hl:l.length*224<=140741783322624):Does prog tab 94 1 [.sl (.loc 0) 0 16 l.length none, .fn (.func 61) [] []] [(0, .rows 16 (l.map Zl))] []
 (fun r O nx=>r= .tup []/\O=[(0, .rows 16 ((l.mergeSort (leC ZH)).map Zl))]/\nx=1):=by
 have hrow:∀(η:Env) (q:Qd),DenL η (Zl q) (qdE q)/\∀u∈qdE q,u.oneCell'=true:=fun η q=>by
  refine⟨by simp only[Zl,qdE,DenL,Den];exact⟨_,_,rfl,rfl,_,_,rfl,rfl,_,_,rfl,rfl,_,_,rfl,rfl,_,_,rfl,rfl,_,_,rfl,rfl,_,_,rfl,rfl,_,_,rfl,rfl,_,_,rfl,rfl,_,_,rfl,rfl,_,_,rfl,rfl,_,_,rfl,rfl,_,_,rfl,rfl,_,_,rfl,rfl,_,_,rfl,rfl,_,_,rfl,rfl,rfl⟩,fun u hu=>?_⟩;simp only[qdE,List.mem_cons,List.not_mem_nil,or_false]at hu;rcases hu with rfl|rfl|rfl|rfl|rfl|rfl|rfl|rfl|rfl|rfl|rfl|rfl|rfl|rfl|rfl|rfl<;>rfl
 exact Z4n (enc:=qdE) (k:=16) (row:=Zl) (cf:=ZH) Z1 Zgk Zgk (fun w=>by kernel_rfl) (fun w=>by kernel_rfl) (fun q=>⟨rfl,rfl⟩) (by omega) (Zgl triQ) (Zgm triQ) rfl (fun x y=>Z3A x y) call61 call94 hrow (fun η x vs h=>Zd1 h (hrow η x).1 rfl) l (by omega)
end Go.Proofs.YtbfbokdccdagkaaGreatDoor
namespace Go.Proofs.YtbfbokdccdagkaaGreatDoor
open Go.Sx Go.Our
open Tryz
def Z5K{α:Type}(f:α->List SV)(es k:Nat)(z:α)(n:Nat)(l:List α):SV->Hps->Nat->Prop:=fun r O nx=> ∃j,j+l.length<=n/\r= .sl (.loc k) 0 es l.length (some l.length)/\O=[(k, .rows es ((l++List.replicate j z).map f))]/\nx=k+1
theorem Z5L(l z:List Qd)(lim:Option Nat)(hl:l.length*224<=140741783322624):Does prog tab 68 1 [.sl (.loc 0) 0 16 l.length lim, .fn (.func 61) [] []] [] [(0, .rows 16 ((l++z).map Zl))]
 (Z5K Zl 16 1 Yv l.length (setL ZH l)):=by
 have hm:(l.mergeSort (leC ZH)).length=l.length:=List.length_mergeSort l;have hc:=Vv (l.mergeSort (leC ZH));have hcc:(Z5 (l.mergeSort (leC ZH))++List.replicate ((l.mergeSort (leC ZH)).length-(Z5 (l.mergeSort (leC ZH))).length) Yv).length*224<=140741783322624:=by rw[List.length_append,List.length_replicate];omega
 refine Does.enter Z1 call68 func68 rfl 14 rfl rfl [.tmp 4] rfl ?_;intro w0 F η0 h0;conv=>whnf
 refine CALL.aA [0] (Z76 l z lim hl) ?_;rintro r O nx ⟨rfl,rfl,rfl⟩;conv=>whnf
 refine CALL.aA [1] (Z93 l hl) ?_;rintro r O nx ⟨rfl,rfl,rfl⟩;conv=>whnf
 rw[<-hm];refine CALL.aA [1] (Z4o (l.mergeSort (leC ZH)) (by omega)) ?_;rintro r O nx ⟨rfl,rfl,rfl⟩;conv=>whnf
 refine CALL.aA [1] (Z92 (Z5 (l.mergeSort (leC ZH))++List.replicate ((l.mergeSort (leC ZH)).length-(Z5 (l.mergeSort (leC ZH))).length) Yv) (Z5 (l.mergeSort (leC ZH))).length (by simp) hcc) ?_;rintro r O nx ⟨rfl,rfl,rfl⟩;conv=>whnf
 refine FIN.aA h0 [1] (.sl (.loc 1) 0 16 (setL ZH l).length (some (setL ZH l).length)) [(1, .rows 16 ((setL ZH l++List.replicate ((l.mergeSort (leC ZH)).length-(Z5 (l.mergeSort (leC ZH))).length) Yv).map Zl))] ?_;exact⟨_,by unfold setL;omega,rfl,rfl,rfl⟩
theorem Z77(l z:List Qd)(lim:Option Nat)(hl:l.length*224<=140741783322624):Does prog tab 37 1 [.sl (.loc 0) 0 16 l.length lim] [] [(0, .rows 16 ((l++z).map Zl))] (Z5K Zl 16 1 Yv l.length (setL ZH l)):=by
 refine Does.enter Z1 call37 func37 rfl 5 rfl rfl [.tmp 2] rfl ?_;intro w0 F η0 h0;conv=>whnf
 refine CALL.aA [0] (Z5L l z lim hl) ?_;rintro r O nx ⟨j,hj,rfl,rfl,rfl⟩;conv=>whnf
 refine FIN.aA h0 [1] (.sl (.loc 1) 0 16 (setL ZH l).length (some (setL ZH l).length)) [(1, .rows 16 ((setL ZH l++List.replicate j Yv).map Zl))] ?_;exact⟨j,hj,rfl,rfl,rfl⟩
theorem Z3D(l z:List Qd)(lim:Option Nat)(hl:Xf l):Does prog tab 37 1 [.sl (.loc 0) 0 16 l.length lim] [] [(0, .rows 16 ((l++z).map Zl))] (Z5K Zl 16 1 Yv l.length (setL ZH l)):=Z77 l z lim (by unfold Xf at hl;omega)
end Go.Proofs.YtbfbokdccdagkaaGreatDoor
namespace Go.Proofs.YtbfbokdccdagkaaGreatDoor
open Go.Sx Go.Our Go.Sort Go.Shelf
open Tryz
def Z19:Plan:=(ZU [(0,1),(1,1),(2,1),(4,1),(5,1),(6,1),(7,1),(3,2),(8,2),(9,1)])
theorem Z94(l:List (List UInt8))(n:Nat)(hn:n<=l.length)(hl:l.length*16<=140741783322624):Does prog tab 64 1 [.sl (.loc 0) 0 1 n none] [(0, .rows 1 (l.map Z3))] []
 (fun r O nx=>r= .sl (.loc 0) 0 1 n (some n)/\O=[(0, .rows 1 (l.map Z3))]/\nx=1):=by
 refine Does.enter Z1 call64 func64 rfl 9 rfl rfl [.tmp 2] rfl ?_;intro w0 F η0 h0;conv=>whnf
 repeat'((first|(refine NEED.mk ⟨by omega,by omega,by omega⟩ ?_;conv=>whnf)|refine AU ?_|(refine IW ?_ ?_<;>intro h<;>try(exfalso;omega)))<;>conv=>whnf)
 refine FIN.here h0 (rc:= .sl (.loc 0) 0 1 n (some n)) (Oc:=[(0, .rows 1 (l.map Z3))]) (by simp) rfl (by first|rfl|(simp only[Zv,Zs,Ze _ (Zr _),Bool.and_self,Bool.and_true]<;>rfl)) ⟨rfl,trivial⟩ ⟨rfl,rfl,rfl⟩
theorem Z4r(l:List (List UInt8))(hl:l.length*16<=140741783322624):Does prog tab 65 1 [.sl (.loc 0) 0 1 l.length none] [(0, .rows 1 (l.map Z3))] []
 (fun r O nx=>r= .sl (.loc 0) 0 1 (Z5 l).length none/\O=[(0, .rows 1 ((Z5 l++List.replicate (l.length-(Z5 l).length) ([]:List UInt8)).map Z3))]/\nx=1):=by
 have fin:∀{m:Nat},m=(Z5 l).length->Z5 l=l->(SV.sl (.loc 0) 0 1 l.length none=SV.sl (.loc 0) 0 1 (Z5 l).length none)/\l.map Z3=(Z5 l++List.replicate (l.length-(Z5 l).length) ([]:List UInt8)).map Z3:=fun hm he=>by
  rw[he];simp
 refine Does.enter Z1 call65 func65 rfl 61 rfl rfl [.tmp 2] rfl ?_;intro w0 F η0 h0;conv=>whnf
 refine IF.mk (fun h=>?_) (fun h=>?_)
 ·have h:l.length<2:=by simp at h;omega
  obtain⟨f1,f2⟩:=fin rfl (UX h);conv=>whnf
  rw[f1,f2];refine FIN.here h0 (rc:= .sl (.loc 0) 0 1 (Z5 l).length none) (Oc:=[(0, .rows 1 ((Z5 l++List.replicate (l.length-(Z5 l).length) ([]:List UInt8)).map Z3))]) rfl rfl (by first|rfl|(simp only[Zv,Zs,Ze _ (Zr _),Bool.and_self,Bool.and_true]<;>rfl)) ⟨rfl,trivial⟩ ⟨rfl,rfl,rfl⟩
 have h2:2<=l.length:=by simp at h;omega
 clear h;conv=>whnf
 refine LOOP.go Z1 [0] (X:=Nat) (fun k=>1<=k/\k<=l.length/\Z5 (l.take k)=l.take k) (fun k=>[(3, .int .i64 (k:Int))]) (fun k=>[(0, .rows 1 (l.map Z3))]) 1 (fun k=>l.length-k) 1 ⟨by omega,by omega,Z2j⟩ ?_;conv=>whnf
 refine⟨by exact GOES.cA h0,?_⟩;rintro k ⟨hk1,hkl,hk⟩;conv=>whnf
 rcases Nat.lt_or_ge k l.length with hlt|hge
 ·have hs:=J3 hk1 hlt;have hk':(IntKind.i64.wrap ((k:Int)-1)).toNat=k-1:=by rw[Z6 (by omega) (by omega)];omega
  repeat'((first|refine DRAWN.of (id:=6) Z1 mixed Z19 (by kernel_rfl) ?_|refine DRAWN.of (id:=11) Z1 mixed Z19 (by kernel_rfl) ?_|refine ADD.mk (fun _ _=>?_)|refine AD ?_|refine FORK.mk ?_ ?_|(refine GET.at (row:=Z3 (l[k]'(by omega))) (YP (by omega) (by omega)) ?_;conv=>whnf)|(refine GET.at (row:=Z3 (l[k-1]'(by omega))) (YP (by omega) (by omega)) ?_;conv=>whnf)|refine AU ?_|(refine IW ?_ ?_<;>intro h<;>try(exfalso;omega)))<;>conv=>whnf)
  ·have heq:l[k]=l[k-1]:=id (h);rw[if_pos heq,hk]at hs;have hs0:(Z5 (l.take (k+1))).length=k:=by rw[hs];simp;omega
   clear h heq;refine LOOP.go Z1 [0,4] (X:=Nat) (fun i=>k+1<=i/\i<=l.length/\(Z5 (l.take i)).length+1<=i/\k<=(Z5 (l.take i)).length) (fun i=>[(3, .int .i64 ((Z5 (l.take i)).length:Int)),(5, .int .i64 ((i-k:Nat):Int))]) (fun i=>[(0, .rows 1 ((Z5 (l.take i)++l.drop (Z5 (l.take i)).length).map Z3))]) 1 (fun i=>l.length-i) (k+1) ⟨by omega,by omega,by omega,by omega⟩ ?_;conv=>whnf
   refine⟨by(refine GOES.cutting h0 rfl rfl rfl (by first|rfl|(simp only[Zv,Zs,Ze _ (Zr _),Bool.and_self,Bool.and_true]<;>rfl)) ?_ ?_<;>(repeat'(first|(with_reducible rfl)|(exact YY rfl (by first|(simp;done)|omega|(simp;omega)))|(exact congrArg (SV.int _) (by first|omega|(simp(disch:=omega) only[lnB,Z6,Z9]<;>omega)|(simp;done)|(simp<;>omega)))|(exact congrArg (Hp.rows _) (by(rw[hs,List.length_take,Nat.min_eq_left hkl,List.take_append_drop])))|((conv=>whnf);refine⟨?_,?_⟩)|exact trivial|rfl))),?_⟩;rintro i ⟨hi1,hi2,hi3,hi4⟩;obtain⟨C,hC⟩:∃C,C=Z5 (l.take i):=⟨_,rfl⟩;have hsi:=fun h=>J3 (l:=l) (i:=i) (by omega) h;rw[<-hC]at hi3 hi4 hsi;dsimp only;rw[<-hC];conv=>whnf
   rcases Nat.lt_or_ge i l.length with hil|hil
   ·have hsi:=hsi hil;have hwr:IntKind.i64.wrap (((i-k:Nat):Int)-1)=((i-1-k:Nat):Int):=by rw[Z6 (by omega) (by omega)];omega
    have hg1:((C++l.drop C.length).map Z3)[i]?=some (Z3 l[i]):=Z3C Z3 (by omega) hil;have hg2:((C++l.drop C.length).map Z3)[i-1]?=some (Z3 (l[i-1]'(by omega))):=Z3C Z3 (by omega) (by omega);have hg3:((C++l.drop C.length).map Z3)[C.length]?=some (Z3 (l[C.length]'(by omega))):=Z3C Z3 (Nat.le_refl _) (by omega);repeat'((first|refine DRAWN.of (id:=6) Z1 mixed Z19 (by kernel_rfl) ?_|refine DRAWN.of (id:=11) Z1 mixed Z19 (by kernel_rfl) ?_|refine ADD.mk (fun _ _=>?_)|refine AD ?_|refine FORK.mk ?_ ?_|(refine GET.at (row:=Z3 (l[i]'(by omega))) (Z91 hg1 (by omega)) ?_;conv=>whnf)|(refine GET.at (row:=Z3 (l[i-1]'(by omega))) (Z91 hg2 (by rw[hwr];omega)) ?_;conv=>whnf)|(refine GET.at (row:=Z3 (l[C.length]'(by omega))) (Z91 hg3 (by omega)) ?_;conv=>whnf)|refine AU ?_|(refine IW ?_ ?_<;>intro h<;>try(exfalso;omega)))<;>conv=>whnf)
    ·have hne:¬l[i]=l[i-1]'(by omega):=fun he=>by rw[he]at h;simp at h
     rw[if_neg hne]at hsi;refine⟨i+1,⟨by omega,by omega,by rw[hsi,List.length_append];simp;omega,by rw[hsi,List.length_append];simp;omega⟩,by omega,?_⟩;rw[hsi];conv=>whnf
     (refine GOES.cutting h0 rfl rfl rfl (by first|rfl|(simp only[Zv,Zs,Ze _ (Zr _),Bool.and_self,Bool.and_true]<;>rfl)) ?_ ?_<;>(repeat'(first|(with_reducible rfl)|(exact YY rfl (by first|(simp;done)|omega|(simp;omega)))|(exact congrArg (SV.int _) (by first|omega|(simp(disch:=omega) only[lnB,Z6,Z9]<;>omega)|(simp;done)|(simp<;>omega)))|(exact congrArg (Hp.rows _) (by(first|(simp only[Nat.zero_add,Int.toNat_natCast];exact ZaW Z3 _ (by omega))|rfl)))|((conv=>whnf);refine⟨?_,?_⟩)|exact trivial|rfl)))
    ·have heq:l[i]=l[i-1]'(by omega):=id (h);rw[if_pos heq]at hsi;refine⟨i+1,⟨by omega,by omega,by rw[hsi];omega,by rw[hsi];omega⟩,by omega,?_⟩;rw[hsi];conv=>whnf
     exact GOES.cA h0
   ·have hCl:C=Z5 l:=by rw[hC,List.take_of_length_le hil]
    have hcl:C.length<=l.length:=by omega
    repeat'((first|(refine NEED.mk (by simp only[List.length_map,List.length_append,List.length_drop];omega) ?_;conv=>whnf)|(refine NEED.mk ⟨by omega,Z14 (by omega)⟩ ?_;conv=>whnf)|refine AU ?_|(refine IW ?_ ?_<;>intro h<;>try(exfalso;omega)))<;>conv=>whnf)
    rw[<-hCl];refine FIN.here h0 (rc:= .sl (.loc 0) 0 1 C.length none) (Oc:=[(0, .rows 1 ((C++List.replicate (l.length-C.length) ([]:List UInt8)).map Z3))]) (by simp) rfl (by first|rfl|(simp only[Zv,Zs,Ze _ (Zr _),Bool.and_self,Bool.and_true]<;>rfl)) ⟨?_,trivial⟩ ⟨rfl,rfl,rfl⟩;refine congrArg (Hp.rows 1) ?_;simp only[Nat.zero_add,Int.toNat_natCast];exact Z5J Z3 ([]:List UInt8) hcl
  ·have hne:¬l[k]=l[k-1]:=fun he=>by rw[he]at h;simp at h
   rw[if_neg hne,hk]at hs;refine⟨k+1,⟨by omega,by omega,by rw[hs,List.take_succ_eq_append_getElem hlt]⟩,by omega,?_⟩;conv=>whnf
   exact GOES.cA h0
 ·have hkn:k=l.length:=by omega
  rw[hkn,List.take_of_length_le (Nat.le_refl _)]at hk;obtain⟨f1,f2⟩:=fin rfl hk;repeat'((first|refine AU ?_|(refine IW ?_ ?_<;>intro h<;>try(exfalso;omega)))<;>conv=>whnf)
  rw[f1,f2];refine FIN.here h0 (rc:= .sl (.loc 0) 0 1 (Z5 l).length none) (Oc:=[(0, .rows 1 ((Z5 l++List.replicate (l.length-(Z5 l).length) ([]:List UInt8)).map Z3))]) rfl rfl (by first|rfl|(simp only[Zv,Zs,Ze _ (Zr _),Bool.and_self,Bool.and_true]<;>rfl)) ⟨rfl,trivial⟩ ⟨rfl,rfl,rfl⟩
def Z95:Go.Shelf.Ren:=⟨fun|190=>63|125=>90|258=>89|128=>122|129=>123|302=>113|303=>114|304=>115|305=>116|306=>117|307=>118|308=>119|309=>120|310=>121|333=>141|329=>142|330=>143|334=>144|335=>145|336=>146|344=>174|n=>n,fun|31=>29|9=>9|3=>3|46=>135|0=>0|51=>169|53=>104|4=>4|183=>162|182=>161|131=>114|5=>5|218=>198|222=>202|228=>223|229=>119|n=>n,fun|n=>n⟩
theorem Zgn:Go.Proofs.Lays.n190 prog Z95 where
 mixed:=by kernel_rfl
 f125:=func90.trans (congrArg some (by kernel_rfl))
 f128:=func122.trans (congrArg some (by kernel_rfl))
 f129:=func123.trans (congrArg some (by kernel_rfl))
 f190:=func63.trans (congrArg some (by kernel_rfl))
 f258:=func89.trans (congrArg some (by kernel_rfl))
 f302:=func113.trans (congrArg some (by kernel_rfl))
 f303:=func114.trans (congrArg some (by kernel_rfl))
 f304:=func115.trans (congrArg some (by kernel_rfl))
 f305:=func116.trans (congrArg some (by kernel_rfl))
 f306:=func117.trans (congrArg some (by kernel_rfl))
 f307:=func118.trans (congrArg some (by kernel_rfl))
 f308:=func119.trans (congrArg some (by kernel_rfl))
 f309:=func120.trans (congrArg some (by kernel_rfl))
 f310:=func121.trans (congrArg some (by kernel_rfl))
 f329:=func142.trans (congrArg some (by kernel_rfl))
 f330:=func143.trans (congrArg some (by kernel_rfl))
 f333:=func141.trans (congrArg some (by kernel_rfl))
 f334:=func144.trans (congrArg some (by kernel_rfl))
 f335:=func145.trans (congrArg some (by kernel_rfl))
 f336:=func146.trans (congrArg some (by kernel_rfl))
 f344:=func174.trans (congrArg some (by kernel_rfl))
 t0:=underlying0
 a0:=isAgg0
 z0:=sizeOf0
 v0:=zeroValue0
 t3:=underlying3
 a3:=isAgg3
 z3:=sizeOf3
 v3:=zeroValue3
 t4:=underlying4
 a4:=isAgg4
 z4:=sizeOf4
 v4:=zeroValue4
 t5:=underlying5
 a5:=isAgg5
 z5:=sizeOf5
 v5:=zeroValue5
 t9:=underlying9
 a9:=isAgg9
 z9:=sizeOf9
 v9:=zeroValue9
 t31:=underlying29
 a31:=isAgg29
 z31:=sizeOf29
 v31:=zeroValue29
 t46:=underlying135
 a46:=isAgg135
 z46:=sizeOf135
 v46:=zeroValue135
 t51:=underlying169
 a51:=isAgg169
 z51:=sizeOf169
 v51:=zeroValue169
 t53:=underlying104
 a53:=isAgg104
 z53:=sizeOf104
 v53:=zeroValue104
 t131:=underlying114
 a131:=isAgg114
 z131:=sizeOf114
 v131:=zeroValue114
 t182:=underlying161
 a182:=isAgg161
 z182:=sizeOf161
 v182:=zeroValue161
 t183:=underlying162
 a183:=isAgg162
 z183:=sizeOf162
 v183:=zeroValue162
 t218:=underlying198
 a218:=isAgg198
 z218:=sizeOf198
 v218:=zeroValue198
 t222:=underlying202
 a222:=isAgg202
 z222:=sizeOf202
 v222:=zeroValue202
 t228:=underlying223
 a228:=isAgg223
 z228:=sizeOf223
 v228:=zeroValue223
 t229:=underlying119
 a229:=isAgg119
 z229:=sizeOf119
 v229:=zeroValue119
theorem Un(l:List (List UInt8))(hl:l.length*16<=140737488351232):Does prog tab 63 1 [.sl (.loc 0) 0 1 l.length none] [(0, .rows 1 (l.map Z3))] []
 (fun r O nx=>r= .tup []/\O=[(0, .rows 1 ((l.mergeSort (leC cmpL)).map Z3))]/\nx=1):=
 Z5N Zgn call63 l (by omega)
end Go.Proofs.YtbfbokdccdagkaaGreatDoor
namespace Go.Proofs.YtbfbokdccdagkaaGreatDoor
open Go.Sx Go.Our
theorem Zem{l z:List Qd}{i:Nat}{k:Nat}(h:i<l.length)(e:k=i):((l++z).map Zl)[k]?=some (Zl l[i]):=by subst e;exact Um h
open Tryz
def Zd2:Plan:=(ZU [(0,1),(1,1),(2,1),(3,1),(4,1),(5,1),(6,1),(7,1),(8,1),(9,1),(10,1),(11,1),(12,1),(13,0)])
theorem Z5Q(q:Qd):Does prog tab 62 1 [.ptr (.loc 0) 0 0 0] [] [(0, .box (Zl q))] (ValK 1 (.arr 1 [[.ptr (.loc 0) 0 0 0],[.ptr (.loc 0) 0 0 4],[.ptr (.loc 0) 0 0 8],[.ptr (.loc 0) 0 0 12]])):=by
 refine Does.enter Z1 call62 func62 rfl 16 rfl rfl [.cell 2 106] rfl ?_;intro w0 F η0 h0;conv=>whnf
 repeat'((first|refine DRAWN.of (id:=1) Z1 mixed Zd2 (by kernel_rfl) ?_|refine ADD.mk (fun _ _=>?_)|refine AD ?_|refine FORK.mk ?_ ?_|refine AU ?_|(refine IW ?_ ?_<;>intro h<;>try(exfalso;omega)))<;>conv=>whnf)
 exact FIN.here h0 (rc:= .arr 1 [[.ptr (.loc 0) 0 0 0],[.ptr (.loc 0) 0 0 4],[.ptr (.loc 0) 0 0 8],[.ptr (.loc 0) 0 0 12]]) (Oc:=[]) rfl rfl rfl trivial ⟨rfl,rfl,rfl⟩
open Tryz
theorem Zbc(c:Int)(hc:0<=c/\c<256):Does prog tab 197 0 [.int .u8 c] [] [] (Val (.tup [.int .i64 (Z2V c).1, .int .i32 (Z2V c).2])):=by
 refine Does.enter Z1 call197 func197 rfl 30 rfl rfl [.tmp 2, .tmp 3] rfl ?_;intro w0 F η0 h0;conv=>whnf
 repeat'((first|refine AU ?_|(refine IW ?_ ?_<;>intro h<;>try(exfalso;omega)))<;>conv=>whnf)
 all_goals (refine FIN.value h0 rfl ?_;unfold Z2V;(first|(simp(disch:=omega) only[↓if_pos,↓if_neg,ite_self,Z6,Z9,Int.reduceAdd,Int.reduceSub,Int.reduceMul,Int.reduceNeg,Zgb,Zgc,and7];done)|(simp(disch:=omega) only[↓if_pos,↓if_neg,ite_self,Z6,Z9,Int.reduceAdd,Int.reduceSub,Int.reduceMul,Int.reduceNeg,Zgb,Zgc,and7];with_reducible rfl)))
theorem Z7e(r:Int):Does prog tab 199 0 [.int .i32 r] [] [] (Val (.bool (Z4i r))):=by
 refine Does.enter Z1 call199 func199 rfl 17 rfl rfl [.tmp 2] rfl ?_;intro w0 F η0 h0;conv=>whnf
 repeat'((first|refine AU ?_|(refine IW ?_ ?_<;>intro h<;>try(exfalso;omega)))<;>conv=>whnf)
 refine FIN.value h0 rfl (congrArg SV.bool ?_);rw[Bool.eq_iff_iff,VT];simp only[Bool.cond_eq_ite,decide_eq_true_eq,Bool.if_false_right,Bool.if_true_left,Bool.and_eq_true,Bool.or_eq_true];omega
theorem Z9b(n:Int)(hn:0<=n/\n<5):Does prog tab 198 0 [.int .i64 n] [] [] (Val (.int .i32 (Z5B n))):=by
 have hn:n=0\/n=1\/n=2\/n=3\/n=4:=by omega
 rcases hn with rfl|rfl|rfl|rfl|rfl
 all_goals
  refine Does.enter Z1 call198 func198 rfl 6 rfl rfl [.tmp 2] rfl ?_;intro w0 F η0 h0;conv=>whnf
  repeat'((first|refine AU ?_|(refine IW ?_ ?_<;>intro h<;>try(exfalso;omega)))<;>conv=>whnf)
  exact FIN.value h0 rfl rfl
theorem Zfa{c:Int}{n r:Int}(hc:0<=c/\c<256)(h:Z2V c=(n,r)):Does prog tab 197 0 [.int .u8 c] [] [] (Val (.tup [.int .i64 n, .int .i32 r])):=by
 have:=Zbc c hc;rw[h]at this;exact this
theorem Z2q(s:List UInt8)(i:Int)(hs:Sm s):Does prog tab 165 0 [.str s, .int .i64 i] [] [] (Val (.tup [.int .i32 (Za s i).1, .int .i64 (Za s i).2])):=by
 refine Does.enter Z1 call165 func165 rfl 65 rfl rfl [.tmp 4, .tmp 5] rfl ?_;intro w0 F η0 h0;conv=>whnf
 repeat'((first|refine AU ?_|(refine IW ?_ ?_<;>intro h<;>try(exfalso;omega)))<;>conv=>whnf)
 ·refine FIN.value h0 rfl ?_;unfold Za;rw[if_pos h]
 ·have e0:=Y0 s i;have e1:=Y0 s (i+1);have e2:=Y0 s (i+2);have e3:=Y0 s (i+3);have hl:=Z6Q (Zi s i);rcases hl with⟨hb,hl⟩|⟨hb,hl⟩|⟨hb,hl⟩|⟨hb,hl⟩|⟨hb,hl⟩
  all_goals
   refine CALL.value (Zfa e0 hl) rfl rfl ?_;conv=>whnf
   repeat'((first|refine CALL.value (Z9b _ (by omega)) rfl rfl ?_|(refine LOOP.once Z1 ?_;conv=>whnf)|refine CALL.value (Z7e _) rfl rfl ?_|refine AU ?_|(refine IW ?_ ?_<;>intro h<;>try(exfalso;omega)))<;>conv=>whnf)
  all_goals
   refine FIN.value h0 rfl ?_;unfold Za decB r2 r3 r4;try simp(disch:=omega) only[or6,Zgd,ZeX,ZeY,ZeZ,Zf0,VT,Wr]at*
   (simp(disch:=omega) only[↓if_pos,↓if_neg,ite_self,Z6,Z9,Int.reduceAdd,Int.reduceSub,Int.reduceMul,Int.reduceNeg,or6])
theorem Z3I(s:List UInt8)(hs:Sm s):Does prog tab 135 0 [.str s] [] [] (Val (.int .i64 (chk s 0))):=by
 refine Does.enter Z1 call135 func135 rfl 22 rfl rfl [.tmp 2] rfl ?_;intro w0 F η0 h0;conv=>whnf
 refine LOOP.go Z1 [0] (X:=Nat) (fun i=>i<=s.length/\chk s i=chk s 0) (fun i=>[(3, .int .i64 (i:Int))]) (fun _=>[]) 0 (fun i=>s.length-i) 0 ⟨by omega,rfl⟩ ?_;conv=>whnf
 refine⟨by exact GOES.cA h0,?_⟩;rintro i ⟨hi,hc⟩;conv=>whnf
 have hn:=YX s i;repeat'((first|refine CALL.value (Z2q s _ hs) rfl rfl ?_|refine AU ?_|(refine IW ?_ ?_<;>intro h<;>try(exfalso;omega)))<;>conv=>whnf)
 ·have hz:(Za s i).2=0:=h;refine FIN.value h0 rfl ?_;rw[<-hc,Z6P (by omega) hz]
 ·rename_i h1;refine⟨i+(Za s i).2.toNat,⟨by omega,?_⟩,by omega,?_⟩
  ·rw[<-hc,<-Z4j (by omega) h]
  ·conv=>whnf
   exact GOES.cA h0
 ·refine FIN.value h0 rfl ?_;rw[<-hc,Zax (by omega)]
open Tryz
theorem Jd(s:List UInt8)(c:Int):Does prog tab 257 0 [.str s, .int .u8 c] [] [] (Val (.int .i64 (Lib.indexByte s c.toNat.toUInt8))):=by
 refine Does.says fun η w vs hd=>?_;simp only[DenL,Den]at hd;obtain⟨u,us,rfl,rfl,u',us',rfl,rfl,rfl⟩:=hd;refine⟨_,?_,rfl⟩;rw[run_callFunc_extern func257 (by kernel_rfl) (by kernel_rfl) (by kernel_rfl) (e:=Extern.BytealgIndexByte.indexByte) (by kernel_rfl),Lib.run_indexByteString]
 rfl
theorem VG(s:List UInt8)(c:Int):Does prog tab 254 0 [.str s, .int .u8 c] [] [] (Val (.int .i64 (Lib.indexByte s c.toNat.toUInt8))):=by
 refine Does.enter Z1 call254 func254 rfl 8 rfl rfl [.tmp 4] rfl ?_;intro w0 F η0 h0;conv=>whnf
 repeat'((first|refine CALL.value (Jd _ _) rfl rfl ?_|refine AU ?_|(refine IW ?_ ?_<;>intro h<;>try(exfalso;omega)))<;>conv=>whnf)
 exact FIN.value h0 rfl rfl
theorem V2(s:List UInt8)(c:Int):Does prog tab 244 0 [.str s, .int .u8 c] [] [] (Val (.int .i64 (Lib.indexByte s c.toNat.toUInt8))):=by
 refine Does.enter Z1 call244 func244 rfl 8 rfl rfl [.tmp 4] rfl ?_;intro w0 F η0 h0;conv=>whnf
 repeat'((first|refine CALL.value (VG _ _) rfl rfl ?_|refine AU ?_|(refine IW ?_ ?_<;>intro h<;>try(exfalso;omega)))<;>conv=>whnf)
 exact FIN.value h0 rfl rfl
theorem Z2Z(r:Int):Does prog tab 245 0 [.int .i32 r] [] [] (Val (.bool (Z4i r))):=by
 refine Does.enter Z1 call245 func245 rfl 17 rfl rfl [.tmp 2] rfl ?_;intro w0 F η0 h0;conv=>whnf
 repeat'((first|refine AU ?_|(refine IW ?_ ?_<;>intro h<;>try(exfalso;omega)))<;>conv=>whnf)
 all_goals
  refine FIN.value h0 rfl (congrArg SV.bool ?_);rw[Bool.eq_iff_iff,VT];simp;try omega
theorem Z61(g:Nat)(p:Int->Bool)(hp:∀r:Int,Xx r->Does prog tab g 0 [.int .i32 r] [] [] (Val (.bool (p r))))(s:List UInt8)(hs:Sm s):Does prog tab 192 0 [.str s, .fn (.func g) [] [], .bool true] [] [] (Val (.int .i64 (idxF p s 0))):=by
 refine Does.enter Z1 call192 func192 rfl 21 rfl rfl [.tmp 6] rfl ?_;intro w0 F η0 h0;conv=>whnf
 refine LOOP.go Z1 [1,2,10] (X:=Nat) (fun i=>i<=s.length/\idxF p s i=idxF p s 0) (fun i=>[]) (fun i=>[(0, .siter s i)]) 1 (fun i=>s.length-i) 0 ⟨by omega,rfl⟩ ?_;conv=>whnf
 refine⟨by exact GOES.cA h0,?_⟩;rintro i ⟨hi,hc⟩;conv=>whnf
 refine⟨fun h=>?_,fun h=>?_⟩
 ·have h:i<s.length:=by simpa using h
  have hf:=Z2l s i h;have hd:=Z1c s i;conv=>whnf
  repeat'((first|refine CALL.value (hp _ (Z78 s i)) rfl rfl ?_|refine AU ?_|(refine IW ?_ ?_<;>intro h<;>try(exfalso;omega)))<;>conv=>whnf)
  ·refine FIN.value h0 rfl ?_;rw[<-hc,Zb5 (by omega) (by simpa using h)]
  ·refine⟨i+(deco s i).2,⟨by omega,?_⟩,by omega,?_⟩
   ·rw[<-hc,<-Z2n (by omega) (by simpa using h)]
   ·conv=>whnf
    exact GOES.cA h0
 ·have h:s.length<=i:=by simpa using h
  conv=>whnf
  repeat'((first|refine AU ?_|(refine IW ?_ ?_<;>intro h<;>try(exfalso;omega)))<;>conv=>whnf)
  refine FIN.value h0 rfl ?_;rw[<-hc,Z8d h]
theorem Z30(g:Nat)(p:Int->Bool)(hp:∀r:Int,Xx r->Does prog tab g 0 [.int .i32 r] [] [] (Val (.bool (p r))))(s:List UInt8)(hs:Sm s):Does prog tab 161 0 [.str s, .fn (.func g) [] []] [] [] (Val (.int .i64 (idxF p s 0))):=by
 refine Does.enter Z1 call161 func161 rfl 8 rfl rfl [.tmp 4] rfl ?_;intro w0 F η0 h0;conv=>whnf
 repeat'((first|refine CALL.value (Z61 g p hp s hs) rfl rfl ?_|refine AU ?_|(refine IW ?_ ?_<;>intro h<;>try(exfalso;omega)))<;>conv=>whnf)
 exact FIN.value h0 rfl rfl
open Tryz
def Zfb:Plan:=(ZU [(0,1),(1,1),(2,1),(3,1),(4,1),(5,1),(6,1)])
def Zfc:Plan:=(ZU [(0,1),(1,1),(2,1),(3,1),(4,1),(5,1),(6,1),(7,3),(8,1)])
def Zbd:Plan:=(ZU [(0,1),(1,1),(2,1),(3,1),(4,1),(5,1),(6,1),(7,1),(8,1),(9,1),(10,1)])
def Z2r(r:Int):Int:=if 0<=r/\r<128 then Lib.indexByte bars (IntKind.u8.wrap r).toNat.toUInt8 else-1
theorem Z31(r:Int)(hr:Xx r):Does prog tab 230 0 [.str bars, .int .i32 r] [] [] (Val (.int .i64 (Z2r r))):=by
 have hlen:bars.length=9:=rfl;refine Does.enter Z1 call230 func230 rfl 187 rfl rfl [.tmp 4] rfl ?_;intro w0 F η0 h0;conv=>whnf
 repeat'((first|refine CALL.value (V2 _ _) rfl rfl ?_|refine CALL.value (Z2Z _) rfl rfl ?_|refine AU ?_|(refine IW ?_ ?_<;>intro h<;>try(exfalso;omega)))<;>conv=>whnf)
 ·refine FIN.value h0 rfl ?_;unfold Z2r;rw[if_pos h]
 ·subst h;refine LOOP.go Z1 [175] (X:=Nat) (fun i=>i<=9) (fun i=>[]) (fun i=>[(0, .siter bars i)]) 1 (fun i=>9-i) 0 (by omega) ?_;conv=>whnf
  refine⟨by exact GOES.cA h0,?_⟩;intro i hi;conv=>whnf
  refine⟨fun h=>?_,fun h=>?_⟩
  ·have h:i<bars.length:=by simpa using h
   have hd:=Uo (Z4v i);have hb:=Y0 bars i;conv=>whnf
   refine IF.tt ?_;conv=>whnf
   refine IF.no (by rw[show Utf8.decode ⟨bars.toArray⟩ i=_ from hd];have:=Z4v i;simp;omega) ?_;conv=>whnf
   refine⟨i+(deco bars i).2,by rw[hd];show i+1<=9;omega,by rw[hd];show 9-(i+1)<9-i;omega,?_⟩;conv=>whnf
   exact GOES.cA h0
  ·conv=>whnf
   refine IF.ff ?_;conv=>whnf
   refine FIN.value h0 rfl ?_;unfold Z2r;rw[if_neg (by omega)]
 ·rw[Wr]at h;exact(h hr).elim
 ·have hl:=Zd4 (r:=r) (by unfold Xx at hr;omega);have hh:=Zb4 hr (by unfold Xx at hr;omega);have he:=Zb3 hr;rw[he];have hm:=Z97 (s:=encM r) (i:=((encM r).length:Int)-1) (by omega)
  have hm2:128<=Zi (encM r) (((encM r).length:Int)-1):=by
   obtain⟨c,hc,e⟩:=hm;rw[e];exact hh c hc
  have hm3:=Y0 (encM r) (((encM r).length:Int)-1);have hm4:=Z4v (((encM r).length:Int)-1);refine LOOP.once Z1 ?_;conv=>whnf
  repeat'((first|refine DRAWN.of (id:=6) Z1 mixed Zfb (by kernel_rfl) ?_|refine DRAWN.of (id:=7) Z1 mixed Zfc (by kernel_rfl) ?_|refine DRAWN.of (id:=14) Z1 mixed Zbd (by kernel_rfl) ?_|refine DRAWN.of (id:=31) Z1 mixed Zbd (by kernel_rfl) ?_|refine ADD.mk (fun _ _=>?_)|refine AD ?_|refine FORK.mk ?_ ?_|refine CALL.value (V2 _ _) rfl rfl ?_|refine AU ?_|(refine IW ?_ ?_<;>intro h<;>try(exfalso;omega)))<;>conv=>whnf)
  ·refine FIN.value h0 rfl ?_;unfold Z2r;rw[if_neg (by unfold Xx at hr;omega)]
  ·have:=Zd7 (l:=List.drop (((encM r).length:Int)-1+1).toNat bars) (c:=Zi (encM r) (((encM r).length:Int)-1)) (by omega) (fun b hb=>Zd6 b (List.mem_of_mem_drop hb));rw[this]at h;omega
theorem Z09(r:Int)(hr:Xx r):Does prog tab 193 0 [.str bars, .int .i32 r] [] [] (Val (.bool (decide (0<=Z2r r)))):=by
 refine Does.enter Z1 call193 func193 rfl 9 rfl rfl [.tmp 4] rfl ?_;intro w0 F η0 h0;conv=>whnf
 repeat'((first|refine CALL.value (Z31 r hr) rfl rfl ?_|refine AU ?_|(refine IW ?_ ?_<;>intro h<;>try(exfalso;omega)))<;>conv=>whnf)
 exact FIN.value h0 rfl rfl
theorem Zfd{r:Int}(hr:Xx r):(r<=32\/0<=Z2r r)<->Our.Barred r:=by
 unfold Xx at hr;unfold Z2r;by_cases h:0<=r/\r<128
 ·rw[if_pos h];have:∀n:Nat,n<128->(((n:Int)<=32\/0<=Lib.indexByte bars (IntKind.u8.wrap (n:Int)).toNat.toUInt8)<->Our.Barred (n:Int)):=by decide+kernel
  have:=this r.toNat (by omega);rwa [show((r.toNat:Nat):Int)=r by omega]at this
 ·rw[if_neg h];unfold Our.Barred;omega
theorem Z7f(r:Int)(hr:Xx r):Does prog tab 162 0 [.int .i32 r] [] [] (Val (.bool (UZ r))):=by
 refine Does.enter Z1 call162 func162 rfl 9 rfl rfl [.tmp 2] rfl ?_;intro w0 F η0 h0;conv=>whnf
 repeat'((first|refine CALL.value (Z09 r hr) rfl rfl ?_|refine AU ?_|(refine IW ?_ ?_<;>intro h<;>try(exfalso;omega)))<;>conv=>whnf)
 all_goals
  refine FIN.value h0 rfl (congrArg SV.bool ?_);rw[Bool.eq_iff_iff,Z5R,<-Zfd hr];simp;try omega
theorem Z32(s:List UInt8)(hs:Sm s):Does prog tab 132 0 [.str s] [] [] (Val (.int .i64 (refM s))):=by
 have hp:∀c:Int,128<=c->UZ c=false:=fun c hc=>by rw[Z4t];unfold Our.Barred;omega
 refine Does.enter Z1 call132 func132 rfl 15 rfl rfl [.tmp 2] rfl ?_;intro w0 F η0 h0;conv=>whnf
 repeat'((first|refine CALL.value (Z3I s hs) rfl rfl ?_|refine CALL.value (Z30 _ UZ (fun r hr=>Z7f r hr) s hs) rfl rfl ?_|refine AU ?_|(refine IW ?_ ?_<;>intro h<;>try(exfalso;omega)))<;>conv=>whnf)
 all_goals
  refine FIN.value h0 rfl (congrArg (SV.int _) ?_);unfold refM
 ·rw[if_pos (by omega)]
 ·rw[if_neg (by omega),if_pos (by omega)]
 all_goals
  rename_i h1 h2
  have hc:chk s 0= -1:=by
   have:=Zga s 0;omega
  have:=Z5S UZ hp s 0 hc;rw[if_neg (by omega),if_neg (by omega)]
 ·rw[if_pos (this.1 h)]
 ·rw[if_neg (fun h'=>by have:=this.2 h';omega)]
theorem Z7g(s:List UInt8)(hs:Sm s):Does prog tab 133 0 [.str s] [] [] (Val (.str (s.take (schM s 0).toNat))):=by
 refine Does.enter Z1 call133 func133 rfl 61 rfl rfl [.tmp 2] rfl ?_;intro w0 F η0 h0;conv=>whnf
 refine LOOP.go Z1 [0,7] (X:=Nat) (fun i=>i<=s.length/\schM s i=schM s 0) (fun i=>[]) (fun i=>[(0, .siter s i)]) 1 (fun i=>s.length-i) 0 ⟨by omega,rfl⟩ ?_;conv=>whnf
 refine⟨by exact GOES.cA h0,?_⟩;rintro i ⟨hi,hc⟩;conv=>whnf
 refine⟨fun h=>?_,fun h=>?_⟩
 ·have h:i<s.length:=by simpa using h
  have hf:=Z2l s i h;have hp:=Z1c s i;have hb:=Y0 s i
  have hd:((deco s i).1:Int)=Zi s i/\(deco s i).2=1\/128<=Zi s i/\128<=(deco s i).1:=by
   by_cases ha:Zi s i<128
   ·left;rw[Uo ha];simp;omega
   ·right;exact⟨by omega,Z2m (by omega)⟩
  unfold deco at*;generalize Utf8.decode ⟨s.toArray⟩ i=d at*;obtain⟨r,n⟩:=d;simp only at hf hp hd;conv=>whnf
  repeat'((first|refine AU ?_|(refine IW ?_ ?_<;>intro h<;>try(exfalso;omega)))<;>conv=>whnf)
  all_goals first
   |(have hn:n=1:=by omega
     subst hn;refine⟨i+1,⟨hf,?_⟩,by omega,?_⟩
     ·rw[<-hc,<-Z5T (by omega) (by omega) (by unfold JC SchI;omega)]
     ·conv=>whnf
      exact GOES.cA h0)
   |(refine FIN.value h0 rfl (congrArg SV.str ?_);rw[<-hc,Z03 (by omega) (by omega)])
   |(refine FIN.value h0 rfl (congrArg SV.str ?_);rw[<-hc]
     by_cases h58:Zi s i=58
     ·rw[Z03 (by omega) h58];rw[show(i:Int)=0 by omega];rfl
     ·rw[Z5U (by omega) h58 (by unfold JC SchI;omega)];rfl)
 ·have h:s.length<=i:=by simpa using h
  conv=>whnf
  repeat'((first|refine AU ?_|(refine IW ?_ ?_<;>intro h<;>try(exfalso;omega)))<;>conv=>whnf)
  refine FIN.value h0 rfl ?_;rw[<-hc,Z4u h];rfl
theorem WC(s:List UInt8)(hs:Sm s):Does prog tab 108 0 [.str s] [] [] (Val (.int .i64 (iriM s))):=by
 have hr:=Zd5 s 0;refine Does.enter Z1 call108 func108 rfl 12 rfl rfl [.tmp 2] rfl ?_;intro w0 F η0 h0;conv=>whnf
 repeat'((first|refine CALL.value (Z32 s hs) rfl rfl ?_|refine CALL.value (Z7g s hs) rfl rfl ?_|refine AU ?_|(refine IW ?_ ?_<;>intro h<;>try(exfalso;omega)))<;>conv=>whnf)
 ·refine FIN.value h0 rfl (congrArg (SV.int _) ?_);unfold iriM;rw[if_pos h]
 ·rename_i h1;refine FIN.value h0 rfl (congrArg (SV.int _) ?_);unfold iriM;rw[if_neg (by omega),if_pos]
  have hz:(s.take (schM s 0).toNat).length=0:=by
   have:s.take (schM s 0).toNat=[]:=h;rw[this];rfl
  rw[List.length_take]at hz;by_cases hl:s.length=0
  ·rw[Z4u (by omega)]
  ·omega
 ·rename_i h1;refine FIN.value h0 rfl (congrArg (SV.int _) ?_);unfold iriM;rw[if_neg (by omega),if_neg];intro h2;apply h;rw[h2];rfl
open Tryz
theorem Z0K(r:Int):Does prog tab 235 0 [.int .i32 r] [] [] (Val (.bool (decide (JC r)))):=by
 refine Does.enter Z1 call235 func235 rfl 17 rfl rfl [.tmp 2] rfl ?_;intro w0 F η0 h0;conv=>whnf
 repeat'((first|refine AU ?_|(refine IW ?_ ?_<;>intro h<;>try(exfalso;omega)))<;>conv=>whnf)
 refine FIN.value h0 rfl (congrArg SV.bool ?_);rw[Bool.eq_iff_iff];simp only[Bool.cond_eq_ite,decide_eq_true_eq,Bool.if_false_right,Bool.if_true_left,Bool.and_eq_true,Bool.or_eq_true]
 rfl
theorem JE(r:Int):Does prog tab 196 0 [.int .i32 r] [] [] (Val (.bool (decide (Z0J r)))):=by
 refine Does.enter Z1 call196 func196 rfl 9 rfl rfl [.tmp 2] rfl ?_;intro w0 F η0 h0;conv=>whnf
 repeat'((first|refine AU ?_|(refine IW ?_ ?_<;>intro h<;>try(exfalso;omega)))<;>conv=>whnf)
 refine FIN.value h0 rfl (congrArg SV.bool ?_);rw[Bool.eq_iff_iff];simp only[Bool.cond_eq_ite,decide_eq_true_eq,Bool.if_false_right,Bool.if_true_left,Bool.and_eq_true,Bool.or_eq_true]
 rfl
theorem Z9c(r:Int):Does prog tab 231 0 [.int .i32 r] [] [] (Val (.bool (decide (Z5V r)))):=by
 refine Does.enter Z1 call231 func231 rfl 25 rfl rfl [.tmp 2] rfl ?_;intro w0 F η0 h0;conv=>whnf
 repeat'((first|refine CALL.value (Z0K _) rfl rfl ?_|(refine LOOP.once Z1 ?_;conv=>whnf)|refine AU ?_|(refine IW ?_ ?_<;>intro h<;>try(exfalso;omega)))<;>conv=>whnf)
 all_goals
  refine FIN.value h0 rfl (congrArg SV.bool ?_)
  first
   |exact decide_eq_decide.2 (by unfold JC Z5V;omega)
   |exact(decide_eq_true (by unfold Z5V;omega)).symm
   |exact(decide_eq_false (by unfold Z5V;omega)).symm
theorem WD(r:Int):Does prog tab 195 0 [.int .i32 r] [] [] (Val (.bool (decide (Z2o r)))):=by
 refine Does.enter Z1 call195 func195 rfl 9 rfl rfl [.tmp 2] rfl ?_;intro w0 F η0 h0;conv=>whnf
 repeat'((first|refine CALL.value (Z9c _) rfl rfl ?_|refine AU ?_|(refine IW ?_ ?_<;>intro h<;>try(exfalso;omega)))<;>conv=>whnf)
 all_goals
  refine FIN.value h0 rfl (congrArg SV.bool ?_);rw[Bool.eq_iff_iff,decide_eq_true_iff];unfold Z2o;simp
theorem Z33(r:Int):Does prog tab 194 0 [.int .i32 r] [] [] (Val (.bool (decide (YQ r)))):=by
 refine Does.enter Z1 call194 func194 rfl 33 rfl rfl [.tmp 2] rfl ?_;intro w0 F η0 h0;conv=>whnf
 repeat'((first|refine CALL.value (WD _) rfl rfl ?_|refine CALL.value (JE _) rfl rfl ?_|refine AU ?_|(refine IW ?_ ?_<;>intro h<;>try(exfalso;omega)))<;>conv=>whnf)
 all_goals
  refine FIN.value h0 rfl (congrArg SV.bool ?_);rw[Bool.eq_iff_iff];unfold YQ
  simp_all
  try omega
theorem Z62(r:Int):Does prog tab 164 0 [.int .i32 r] [] [] (Val (.bool (decide (JS r)))):=by
 refine Does.enter Z1 call164 func164 rfl 9 rfl rfl [.tmp 2] rfl ?_;intro w0 F η0 h0;conv=>whnf
 repeat'((first|refine CALL.value (WD _) rfl rfl ?_|refine CALL.value (JE _) rfl rfl ?_|refine AU ?_|(refine IW ?_ ?_<;>intro h<;>try(exfalso;omega)))<;>conv=>whnf)
 all_goals
  refine FIN.value h0 rfl (congrArg SV.bool ?_);unfold JS
  simp_all
theorem Zbe(g:Nat)(p:Int->Prop)[DecidablePred p](hp:∀r:Int,Does prog tab g 0 [.int .i32 r] [] [] (Val (.bool (decide (p r)))))(s:List UInt8)(i:Int)(hs:Sm s):Does prog tab 163 0 [.str s, .int .i64 i, .fn (.func g) [] []] [] [] (Val (.int .i64 (runM p s i))):=by
 have hn:=YX s i;refine Does.enter Z1 call163 func163 rfl 55 rfl rfl [.tmp 6] rfl ?_;intro w0 F η0 h0;conv=>whnf
 repeat'((first|refine CALL.value (Z2q s _ hs) rfl rfl ?_|refine CALL.value (hp _) rfl rfl ?_|refine AU ?_|(refine IW ?_ ?_<;>intro h<;>try(exfalso;omega)))<;>conv=>whnf)
 ·exact FIN.value h0 rfl (congrArg (SV.int _) (by unfold runM;rw[if_pos (.inl h)]))
 ·exact FIN.value h0 rfl (congrArg (SV.int _) (by unfold runM;rw[if_pos (.inr h)]))
 rename_i h1
 have hi:0<=i/\i<s.length:=by
  apply Classical.byContradiction;intro hh;exact h1 (by unfold Za;rw[if_pos (by omega)])
 refine LOOP.go Z1 [0,1] (X:=Nat×Nat) (fun x=>x.1<=s.length/\x.2<=x.1/\runGo s x.1 x.2=runGo s (i.toNat+(Za s i).2.toNat) (i.toNat+(Za s i).2.toNat)) (fun x=>[(10, .int .i64 (x.1:Int)),(9, .int .i64 (x.2:Int))]) (fun i=>[]) 0 (fun x=>s.length-x.1) (i.toNat+(Za s i).2.toNat,i.toNat+(Za s i).2.toNat) ⟨by omega,by omega,rfl⟩ ?_;conv=>whnf
 refine⟨by exact GOES.cA h0,?_⟩;rintro⟨j,e⟩ ⟨hj,he,hc⟩;simp only at hj he hc;have hn':=YX s j;conv=>whnf
 repeat'((first|refine CALL.value (Z2q s _ hs) rfl rfl ?_|refine CALL.value (Z33 _) rfl rfl ?_|refine AU ?_|(refine IW ?_ ?_<;>intro h<;>try(exfalso;omega)))<;>conv=>whnf)
 all_goals first
  |(refine FIN.value h0 rfl (congrArg (SV.int _) ?_)
    unfold runM;rw[if_neg (by simp[*]),<-hc,Z05 (by simp[*])]
    simp(disch:=omega) only[Z6])
  |(refine⟨(j+(Za s j).2.toNat,if(Za s j).1=46 then e else j+(Za s j).2.toNat),⟨by simp only;omega,by simp only;split<;>omega,?_⟩,by simp only;omega,?_⟩
    ·simp only;rw[<-hc,<-Z04 (by simp[*])]
    ·conv=>whnf
     simp only[*,if_true,if_false]
     exact GOES.cA h0)
theorem Z4A(s:List UInt8)(i:Int)(hs:Sm s):Does prog tab 134 0 [.str s, .int .i64 i] [] [] (Val (.int .i64 (runM JS s i))):=by
 refine Does.enter Z1 call134 func134 rfl 8 rfl rfl [.tmp 4] rfl ?_;intro w0 F η0 h0;conv=>whnf
 repeat'((first|refine CALL.value (Zbe _ JS (fun r=>Z62 r) s i hs) rfl rfl ?_|refine AU ?_|(refine IW ?_ ?_<;>intro h<;>try(exfalso;omega)))<;>conv=>whnf)
 exact FIN.value h0 rfl rfl
theorem Z7h(s:List UInt8)(hs:Sm s):Does prog tab 109 0 [.str s] [] [] (Val (.int .i64 (VY s))):=by
 refine Does.enter Z1 call109 func109 rfl 14 rfl rfl [.tmp 2] rfl ?_;intro w0 F η0 h0;conv=>whnf
 repeat'((first|refine CALL.value (Z4A s _ hs) rfl rfl ?_|refine AU ?_|(refine IW ?_ ?_<;>intro h<;>try(exfalso;omega)))<;>conv=>whnf)
 ·exact FIN.value h0 rfl (congrArg (SV.int _) (by unfold VY;rw[if_pos (by simpa using h)]))
 ·exact FIN.value h0 rfl (congrArg (SV.int _) (by unfold VY;rw[if_neg (by simp;exact h)]))
open Tryz
theorem JF(s:List UInt8)(least most:Int)(pure:Bool)(hs:Sm s):Does prog tab 202 0 [.str s, .int .i64 least, .int .i64 most, .bool pure] [] [] (Val (.bool (Y1 s least most pure))):=by
 refine Does.enter Z1 call202 func202 rfl 37 rfl rfl [.tmp 8] rfl ?_;intro w0 F η0 h0;conv=>whnf
 refine LOOP.go Z1 [0,1,2,3,12] (X:=Nat) (fun i=>i<=s.length/\allB (Zj pure) s i=allB (Zj pure) s 0) (fun i=>[]) (fun i=>[(0, .siter s i)]) 1 (fun i=>s.length-i) 0 ⟨by omega,rfl⟩ ?_;conv=>whnf
 refine⟨by exact GOES.cA h0,?_⟩;rintro i ⟨hi,hc⟩;conv=>whnf
 refine⟨fun h=>?_,fun h=>?_⟩
 ·have h:i<s.length:=by simpa using h
  have hf:=Z2l s i h;have hp:=Z1c s i
  have hd:((deco s i).1:Int)=Zi s i/\(deco s i).2=1\/128<=Zi s i/\128<=(deco s i).1:=by
   have hb:=Y0 s i;by_cases ha:Zi s i<128
   ·left;rw[Uo ha];simp;omega
   ·right;exact⟨by omega,Z2m (by omega)⟩
  unfold deco at*;generalize Utf8.decode ⟨s.toArray⟩ i=d at*;obtain⟨r,n⟩:=d;simp only at hf hp hd
  have key:allB (Zj pure) s 0=(Zj pure r&&allB (Zj pure) s (i+n))\/128<=r/\allB (Zj pure) s 0=false:=by
   rcases hd with⟨h1,rfl⟩|⟨h1,h2⟩
   ·left;rw[<-hc,Zb9 h,h1]
   ·right;exact⟨h2,by rw[<-hc,Zb9 h,Z3E h1,Bool.false_and]⟩
  conv=>whnf
  repeat'((first|refine CALL.value (Z0K _) rfl rfl ?_|refine CALL.value (JE _) rfl rfl ?_|refine AU ?_|(refine IW ?_ ?_<;>intro h<;>try(exfalso;omega)))<;>conv=>whnf)
  all_goals first
   |(refine FIN.value h0 rfl (congrArg SV.bool ?_)
     have h1:Zj pure r=false:=by unfold Zj Z4w UI;simp[*]
     have h2:allB (Zj pure) s 0=false:=by rcases key with h|h<;>simp[h,h1]
     unfold Y1;rw[h2];rfl)
   |(have h1:Zj pure r=true:=by unfold Zj Z4w UI;simp[*]
     refine⟨i+n,⟨hf,?_⟩,by omega,?_⟩
     ·rcases key with h|h
      ·rw[h,h1,Bool.true_and]
      ·rw[Z3E (by omega)]at h1;cases h1
     ·conv=>whnf
      exact GOES.cA h0)
 ·have h:s.length<=i:=by simpa using h
  conv=>whnf
  repeat'((first|refine AU ?_|(refine IW ?_ ?_<;>intro h<;>try(exfalso;omega)))<;>conv=>whnf)
  all_goals
   refine FIN.value h0 rfl (congrArg SV.bool ?_);unfold Y1;rw[<-hc,Zd9 h,Bool.eq_iff_iff];simp[Bool.cond_eq_ite]
theorem JU(s:List UInt8):Does prog tab 168 0 [.str s] [] [] (Val (.bool (Vx s))):=by
 refine Does.enter Z1 call168 func168 rfl 9 rfl rfl [.tmp 2] rfl ?_;intro w0 F η0 h0;conv=>whnf
 repeat'((first|refine AU ?_|(refine IW ?_ ?_<;>intro h<;>try(exfalso;omega)))<;>conv=>whnf)
 refine FIN.value h0 rfl (congrArg SV.bool ?_);unfold Vx;rw[Bool.eq_iff_iff];simp[Bool.cond_eq_ite]
theorem Z2s(s:List UInt8)(hs:Sm s):Does prog tab 205 0 [.str s] [] [] (Val (.bool (W0 s))):=by
 have b0:=Y0 s 0;have b1:=Y0 s 1;have b2:=Y0 s 2;refine Does.enter Z1 call205 func205 rfl 28 rfl rfl [.tmp 2] rfl ?_;intro w0 F η0 h0;conv=>whnf
 repeat'((first|refine CALL.value (JF _ _ _ _ hs) rfl rfl ?_|refine CALL.value (JE _) rfl rfl ?_|refine AU ?_|(refine IW ?_ ?_<;>intro h<;>try(exfalso;omega)))<;>conv=>whnf)
 all_goals
  refine FIN.value h0 rfl (congrArg SV.bool ?_);unfold W0 UI;try simp(disch:=omega) only[Z9]at*
  simp_all
  try omega
theorem JV(s:List UInt8)(hs:Sm s):Does prog tab 206 0 [.str s] [] [] (Val (.bool (Z4x s))):=by
 have b0:=Y0 s 0;have hm:Y1 s 4 4 false=true->s.length=4:=by unfold Y1;simp;omega
 refine Does.enter Z1 call206 func206 rfl 15 rfl rfl [.tmp 2] rfl ?_;intro w0 F η0 h0;conv=>whnf
 repeat'((first|refine CALL.value (JF _ _ _ _ hs) rfl rfl ?_|refine CALL.value (JE _) rfl rfl ?_|(refine NEED.mk (by have:=hm (by assumption);omega) ?_;conv=>whnf)|refine AU ?_|(refine IW ?_ ?_<;>intro h<;>try(exfalso;omega)))<;>conv=>whnf)
 all_goals
  refine FIN.value h0 rfl (congrArg SV.bool ?_);unfold Z4x UI;try simp(disch:=omega) only[Z9]at*
  simp_all
theorem X3(s:List UInt8)(hs:Sm s):Does prog tab 137 0 [.str s] [] [] (Val (.str (Zt s))):=by
 refine Does.enter Z1 call137 func137 rfl 29 rfl rfl [.tmp 2] rfl ?_;intro w0 F η0 h0;conv=>whnf
 repeat'((first|refine AU ?_|(refine IW ?_ ?_<;>intro h<;>try(exfalso;omega)))<;>conv=>whnf)
 refine LOOP.go Z1 [3,8,9] (X:=Nat) (fun i=>i<=s.length) (fun i=>[(10, .int .i64 (i:Int))]) (fun i=>[(0, .rows 1 ((curL s i).map Sx.bytesRow))]) 1 (fun i=>s.length-i) 0 (by omega) ?_;conv=>whnf
 refine⟨by(refine GOES.cutting h0 rfl rfl rfl (by first|rfl|(simp only[Zv,Zs,Ze _ (Uh _),Bool.and_self,Bool.and_true]<;>rfl)) ?_ ?_<;>(repeat'(first|(with_reducible rfl)|(exact YY rfl (by first|(simp;done)|omega|(simp;omega)))|(exact congrArg (SV.int _) (by first|omega|(simp(disch:=omega) only[lnB,Z6,Z9]<;>omega)|(simp;done)|(simp<;>omega)))|(exact congrArg (Hp.rows _) (by rw[Zba]))|((conv=>whnf);refine⟨?_,?_⟩)|exact trivial|rfl))),?_⟩;intro i hi;have hlen:=Zda s i;conv=>whnf
 repeat'((first|(refine GET.at (row:=Sx.bytesRow (s[i]'(by omega))) (by rw[show 0+(i:Int).toNat=i by omega];exact Zde (by omega)) ?_;conv=>whnf)|refine AU ?_|(refine IW ?_ ?_<;>intro h<;>try(exfalso;omega)))<;>conv=>whnf)
 ·have hl:i<s.length:=by omega
  refine⟨i+1,by omega,by omega,?_⟩;conv=>whnf
  (refine GOES.cutting h0 rfl rfl rfl (by first|rfl|(simp only[Zv,Zs,Ze _ (Uh _),Bool.and_self,Bool.and_true]<;>rfl)) ?_ ?_<;>(repeat'(first|(with_reducible rfl)|(exact YY rfl (by first|(simp;done)|omega|(simp;omega)))|(exact congrArg (SV.int _) (by first|omega|(simp(disch:=omega) only[lnB,Z6,Z9]<;>omega)|(simp;done)|(simp<;>omega)))|(exact congrArg (Hp.rows _) (by rw[Zf8 h,show 0+(i:Int).toNat=i by omega,Zdf hl]))|((conv=>whnf);refine⟨?_,?_⟩)|exact trivial|rfl)))
 ·have hl:i<s.length:=by omega
  refine⟨i+1,by omega,by omega,?_⟩;conv=>whnf
  (refine GOES.cutting h0 rfl rfl rfl (by first|rfl|(simp only[Zv,Zs,Ze _ (Uh _),Bool.and_self,Bool.and_true]<;>rfl)) ?_ ?_<;>(repeat'(first|(with_reducible rfl)|(exact YY rfl (by first|(simp;done)|omega|(simp;omega)))|(exact congrArg (SV.int _) (by first|omega|(simp(disch:=omega) only[lnB,Z6,Z9]<;>omega)|(simp;done)|(simp<;>omega)))|(exact congrArg (Hp.rows _) (by rw[Zbb hl (Zf9 (by omega))]))|((conv=>whnf);refine⟨?_,?_⟩)|exact trivial|rfl)))
 ·refine NEED.mk (ZcR (by omega)) ?_;conv=>whnf
  refine FIN.value h0 rfl (congrArg SV.str ?_);have:=ZeW (curL s i);rw[hlen]at this;rw[this,Zdb (by omega)]
open Tryz
theorem Z0W(s:List UInt8)(c:Int):Does prog tab 250 0 [.str s, .int .u8 c] [] [] (Val (.int .i64 (Lib.countByte s c.toNat.toUInt8:Nat))):=by
 refine Does.says fun η w vs hd=>?_;simp only[DenL,Den]at hd;obtain⟨u,us,rfl,rfl,u',us',rfl,rfl,rfl⟩:=hd;refine⟨_,?_,rfl⟩;rw[run_callFunc_extern func250 (by kernel_rfl) (by kernel_rfl) (by kernel_rfl) (e:=Extern.BytealgCount.count) (by kernel_rfl),Lib.run_countString]
 rfl
theorem Z9d(s:List UInt8):Does prog tab 233 0 [.str s, .str [45]] [] [] (Val (.int .i64 (s.count 45:Nat))):=by
 refine Does.enter Z1 call233 func233 rfl 34 rfl rfl [.tmp 4] rfl ?_;intro w0 F η0 h0;conv=>whnf
 repeat'((first|refine CALL.value (Z0W _ _) rfl rfl ?_|refine AU ?_|(refine IW ?_ ?_<;>intro h<;>try(exfalso;omega)))<;>conv=>whnf)
 all_goals first
  |exact FIN.value h0 rfl rfl
  |(exfalso;simp at*;done)
theorem Z63(s:List UInt8):Does prog tab 251 0 [.str s, .str [45]] [] [] (Val (.int .i64 (Lib.indexByte s 45))):=by
 refine Does.enter Z1 call251 func251 rfl 143 rfl rfl [.tmp 4] rfl ?_;intro w0 F η0 h0;conv=>whnf
 repeat'((first|refine CALL.value (Jd _ _) rfl rfl ?_|refine CALL.value (VG _ _) rfl rfl ?_|refine CALL.value (V2 _ _) rfl rfl ?_|refine AU ?_|(refine IW ?_ ?_<;>intro h<;>try(exfalso;omega)))<;>conv=>whnf)
 all_goals first
  |exact FIN.value h0 rfl rfl
  |(subst h;exact FIN.value h0 rfl rfl)
  |(rcases h with h|h
    ·exact absurd h (by decide)
    ·subst h;exact FIN.value h0 rfl rfl)
  |exact absurd (by assumption:¬((0+1:Nat):Int)=1) (by decide)
theorem Z3J(s:List UInt8):Does prog tab 234 0 [.str s, .str [45]] [] [] (Val (.int .i64 (Lib.indexByte s 45))):=by
 refine Does.enter Z1 call234 func234 rfl 8 rfl rfl [.tmp 4] rfl ?_;intro w0 F η0 h0;conv=>whnf
 repeat'((first|refine CALL.value (Z63 _) rfl rfl ?_|refine AU ?_|(refine IW ?_ ?_<;>intro h<;>try(exfalso;omega)))<;>conv=>whnf)
 exact FIN.value h0 rfl rfl
theorem Zdg{l c:Int}{b:Nat}(B:Nat)(hb:Nat.ble b B=true)(h0:0<=l)(h1:l<=c)(h2:(B:Int)*c<=281474976710656/\c<=9223372036854775807):0<=l/\l<=c/\c<=9223372036854775807/\(b:Int)*c<=281474976710656:=
 ⟨h0,h1,h2.2,Int.le_trans (Int.mul_le_mul_of_nonneg_right (by have:=Nat.le_of_ble_eq_true hb;omega) (by omega)) h2.1⟩
theorem Z4B(s:List UInt8)(hs:s.length<=68719476736):Does prog tab 200 0 [.str s, .str [45], .int .i64 0, .int .i64 (-1)] [] [] (NewS 1 ((ZG s).map Zu)):=by
 have hcnt:=JD s;have hlen:=Z5Y s;have hne:=Z4y s;refine Does.enter Z1 call200 func200 rfl 66 rfl rfl [.tmp 8] rfl ?_;intro w0 F η0 h0;conv=>whnf
 repeat'((first|refine CALL.value (Z9d _) rfl rfl ?_|refine AU ?_|(refine IW ?_ ?_<;>intro h<;>try(exfalso;omega)))<;>conv=>whnf)
 have hn:(if IntKind.i64.wrap ((s.length:Int)+1)<IntKind.i64.wrap (((s.count 45:Nat):Int)+1)then IntKind.i64.wrap ((s.length:Int)+1)else IntKind.i64.wrap (((s.count 45:Nat):Int)+1))=((ZG s).length:Int):=by
  simp(disch:=omega) only[Z6];rw[if_neg (by omega)];omega
 rw[hn];refine NEED.mk (Zdg 16 rfl (by omega) (by omega) (by omega)) ?_;conv=>whnf
 rw[show List.replicate ((ZG s).length:Int).toNat [SV.str []]=Z2p [] (ZG s).length by rw[Int.toNat_natCast];rfl];refine LOOP.go Z1 [1,2,3,9] (X:=List (List UInt8)×List UInt8) (fun x=>ZG s=x.1++ZG x.2/\x.2.length<=s.length) (fun x=>[(10, .int .i64 (x.1.length:Int)),(0, .str x.2)]) (fun x=>[(0, .rows 1 (Z2p x.1 ((ZG s).length-x.1.length)))]) 1 (fun x=>(ZG s).length-x.1.length) ([],s) ⟨rfl,Nat.le_refl _⟩ ?_;conv=>whnf
 refine⟨by(refine GOES.cutting h0 rfl rfl rfl (by first|rfl|(simp only[Zv,Zs,Ze _ (Z5Z _ _),Bool.and_self,Bool.and_true]<;>rfl)) ?_ ?_<;>(repeat'(first|(with_reducible rfl)|(exact YY rfl (by first|(simp;done)|omega|(simp;omega)))|(exact congrArg (SV.int _) (by first|omega|(simp(disch:=omega) only[lnB,Z6,Z9]<;>omega)|(simp;done)|(simp<;>omega)))|(exact congrArg (Hp.rows _) (by rfl))|((conv=>whnf);refine⟨?_,?_⟩)|exact trivial|rfl))),?_⟩;rintro⟨d,u⟩ ⟨he,hu⟩;dsimp only at he hu⊢;have hd:d.length+(ZG u).length=(ZG s).length:=by rw[he,List.length_append]
 have hun:1<=(ZG u).length:=by have:=JD u;omega
 have hm:Lib.indexByte u 45= -1/\ZG u=[u]\/∃m:Nat,Lib.indexByte u 45=m/\m<u.length/\ZG u=u.take m::ZG (u.drop (m+1)):=by
  have hge:=Lib.indexByte_ge u 45;by_cases h:Lib.indexByte u 45= -1
  ·exact .inl ⟨h,Z3F h⟩
  ·have e:Lib.indexByte u 45=((Lib.indexByte u 45).toNat:Int):=by omega
   have:=Z3G e;exact .inr ⟨_,e,this.1,this.2⟩
 conv=>whnf
 rcases hm with⟨hm,hs1⟩|⟨m,hm,hml,hs1⟩
 ·have h1:(ZG u).length=1:=by rw[hs1];rfl
  repeat'((first|refine CALL.value (Z3J _) rfl rfl ?_|(refine GET.at (row:=Zu []) (Z8f (by omega) (by omega)) ?_;conv=>whnf)|(refine NEED.mk (by rw[Z6 (by omega) (by omega)];refine⟨by omega,?_⟩;show _<=((max (((ZG s).length:Int).toNat) (_-0):Nat):Int);omega) ?_;conv=>whnf)|refine AU ?_|(refine IW ?_ ?_<;>intro h<;>try(exfalso;omega)))<;>conv=>whnf)
  rw[Z8g (by omega) (by omega)]
  have hw:(IntKind.i64.wrap ((d.length:Int)+1)).toNat=((ZG s).map Zu).length:=by
   rw[Z6 (by omega) (by omega),List.length_map];omega
  rw[hw,show(ZG s).length-d.length-1=0 by omega,show Z2p (d++ [u]) 0=(ZG s).map Zu by rw[he,hs1];simp[Z2p]];exact FIN.rows h0 0 1 _ rfl rfl rfl (Yw _) ⟨rfl,rfl,rfl⟩
 ·have h1:2<=(ZG u).length:=by rw[hs1];have:=JD (u.drop (m+1));simp;omega
  repeat'((first|refine CALL.value (Z3J _) rfl rfl ?_|(refine GET.at (row:=Zu []) (Z8f (by omega) (by omega)) ?_;conv=>whnf)|refine AU ?_|(refine IW ?_ ?_<;>intro h<;>try(exfalso;omega)))<;>conv=>whnf)
  have hw1:(IntKind.i64.wrap (Lib.indexByte u 45+(([45]:List UInt8).length:Int))).toNat=m+1:=by
   rw[hm];simp only[List.length_cons,List.length_nil];rw[Z6 (by omega) (by omega)];omega
  have hw2:(IntKind.i64.wrap (Lib.indexByte u 45+0)).toNat=m:=by
   rw[hm,Z6 (by omega) (by omega)];omega
  rw[hw1,hw2,Z8g (by omega) (by omega)];refine⟨(d++ [u.take m],u.drop (m+1)),⟨by rw[he,hs1];simp,by simp;omega⟩,by simp;omega,?_⟩;dsimp only;conv=>whnf
  (refine GOES.cutting h0 rfl rfl rfl (by first|rfl|(simp only[Zv,Zs,Ze _ (Z5Z _ _),Bool.and_self,Bool.and_true]<;>rfl)) ?_ ?_<;>(repeat'(first|(with_reducible rfl)|(exact YY rfl (by first|(simp;done)|omega|(simp;omega)))|(exact congrArg (SV.int _) (by first|omega|(simp(disch:=omega) only[lnB,Z6,Z9]<;>omega)|(simp;done)|(simp<;>omega)))|(exact congrArg (Hp.rows _) (by congr 1;simp;omega))|((conv=>whnf);refine⟨?_,?_⟩)|exact trivial|rfl)))
theorem Z9e(s:List UInt8)(hs:s.length<=68719476736):Does prog tab 166 0 [.str s, .str [45]] [] [] (NewS 1 ((ZG s).map Zu)):=by
 refine Does.enter Z1 call166 func166 rfl 8 rfl rfl [.tmp 4] rfl ?_;intro w0 F η0 h0;conv=>whnf
 refine CALL.newS (Z4B s hs) rfl (Yw _) ?_;conv=>whnf
 exact FIN.rows h0 0 1 _ rfl rfl rfl (Yw _) ⟨rfl,rfl,rfl⟩
open Tryz
theorem Z9f(s:List UInt8)(hs:Sm s):Does prog tab 201 0 [.str s] [] [] (Val (.bool (Y1 s 2 8 true))):=by
 refine Does.enter Z1 call201 func201 rfl 5 rfl rfl [.tmp 2] rfl ?_;intro w0 F η0 h0;conv=>whnf
 repeat'((first|refine CALL.value (JF _ _ _ _ hs) rfl rfl ?_|refine AU ?_|(refine IW ?_ ?_<;>intro h<;>try(exfalso;omega)))<;>conv=>whnf)
 exact FIN.value h0 rfl rfl
theorem Z9g(s:List UInt8)(hs:Sm s):Does prog tab 203 0 [.str s] [] [] (Val (.bool (Y1 s 3 3 true))):=by
 refine Does.enter Z1 call203 func203 rfl 5 rfl rfl [.tmp 2] rfl ?_;intro w0 F η0 h0;conv=>whnf
 repeat'((first|refine CALL.value (JF _ _ _ _ hs) rfl rfl ?_|refine AU ?_|(refine IW ?_ ?_<;>intro h<;>try(exfalso;omega)))<;>conv=>whnf)
 exact FIN.value h0 rfl rfl
theorem Z9h(s:List UInt8)(hs:Sm s):Does prog tab 204 0 [.str s] [] [] (Val (.bool (Y1 s 4 4 true))):=by
 refine Does.enter Z1 call204 func204 rfl 5 rfl rfl [.tmp 2] rfl ?_;intro w0 F η0 h0;conv=>whnf
 repeat'((first|refine CALL.value (JF _ _ _ _ hs) rfl rfl ?_|refine AU ?_|(refine IW ?_ ?_<;>intro h<;>try(exfalso;omega)))<;>conv=>whnf)
 exact FIN.value h0 rfl rfl
theorem Uq(s:List UInt8)(hs:Sm s):Does prog tab 208 0 [.str s] [] [] (Val (.bool (Z7c s))):=by
 refine Does.enter Z1 call208 func208 rfl 10 rfl rfl [.tmp 2] rfl ?_;intro w0 F η0 h0;conv=>whnf
 repeat'((first|refine CALL.value (JF _ _ _ _ hs) rfl rfl ?_|refine CALL.value (JU _) rfl rfl ?_|refine AU ?_|(refine IW ?_ ?_<;>intro h<;>try(exfalso;omega)))<;>conv=>whnf)
 all_goals
  refine FIN.value h0 rfl (congrArg SV.bool ?_);unfold Z7c
  simp_all
theorem Z0a(s:List UInt8)(least:Int)(hs:Sm s):Does prog tab 209 1 [.str s, .ptr (.loc 0) 0 0 0] [] [(0, .box [.int .i64 least])] (ValK 1 (.bool (Y1 s least 8 false))):=by
 refine Does.enter Z1 call209 func209 rfl 7 rfl rfl [.tmp 3] rfl ?_;intro w0 F η0 h0;conv=>whnf
 repeat'((first|refine CALL.value (JF _ _ _ _ hs) rfl rfl ?_|refine AU ?_|(refine IW ?_ ?_<;>intro h<;>try(exfalso;omega)))<;>conv=>whnf)
 exact FIN.valueK h0 rfl rfl
def VZ(i m:Nat)(L E S R:List UInt8)(v x:Nat)(P:List UInt8):Hp:= .box [.sl (.loc 1) i 1 m none, .str L, .str E, .str S, .str R, .sl (.loc 2) 0 1 v none, .sl (.loc 3) 0 1 x none, .str P]
def UK(i m:Nat)(L E S R:List UInt8)(v x:Nat)(P:List UInt8):Hp:= .box [.sl (.loc 1) i 1 m none, .str L, .str E, .str S, .str R, .any, .any, .str P]
def J4(i m:Nat)(L E S R:List UInt8)(v x:Nat)(P:List UInt8):Hp:= .box [.sl (.loc 1) i 1 m none, .str L, .str E, .str S, .str R, .sl (.loc 4) 0 1 v none, .sl (.loc 5) 0 1 x none, .str P]
def YR(p:List UInt8->Bool)(ps:List (List UInt8))(i:Nat):Bool:=match ps[i]? with|some s=>p s|none=>false
theorem Z2t{ps:List (List UInt8)}{i:Nat}{p:List UInt8}(h:ps[i]?=some p):((ps.take (i+1)).map List.length).sum=((ps.take i).map List.length).sum+p.length:=by
 obtain⟨h1,rfl⟩:=List.getElem?_eq_some_iff.1 h;rw[List.take_succ_eq_append_getElem h1,List.map_append,List.sum_append];simp
abbrev Z0b(ps:List (List UInt8)):Nat:=(ps.map List.length).sum
theorem Xb(ps:List (List UInt8))(i:Nat):((ps.take i).map List.length).sum<=Z0b ps:=by
 conv=>rhs;unfold Z0b;rw[<-List.take_append_drop i ps]
 rw[List.map_append,List.sum_append];omega
theorem JG(g:Nat)(p:List UInt8->Bool)(ps:List (List UInt8))(hp:∀s∈ps,Does prog tab g 0 [.str s] [] [] (Val (.bool (p s))))(i m:Nat)(him:i+m=ps.length)(L E S R:List UInt8)(v x:Nat)(P:List UInt8):
 Does prog tab 167 4 [.ptr (.loc 0) 0 0 0, .fn (.func g) [] []] [] [(0,VZ i m L E S R v x P),(1, .rows 1 (ps.map Zu))] (ValK 4 (.bool (YR p ps i))):=by
 refine Does.enter Z1 call167 func167 rfl 21 rfl rfl [.tmp 4] rfl ?_;intro w0 F η0 h0;conv=>whnf
 repeat'((first|(refine GET.at (row:=Zu (ps[i]'(by omega))) (by rw[List.getElem?_map,show i+(0:Int).toNat=i by simp,List.getElem?_eq_getElem (by omega)];rfl) ?_;conv=>whnf)|refine CALL.value (hp _ (List.getElem_mem (by omega))) rfl rfl ?_|refine AU ?_|(refine IW ?_ ?_<;>intro h<;>try(exfalso;omega)))<;>conv=>whnf)
 ·refine FIN.valueK h0 rfl (congrArg SV.bool ?_);unfold YR;rw[List.getElem?_eq_getElem (by omega)];rfl
 ·refine FIN.valueK h0 rfl (congrArg SV.bool ?_);unfold YR;rw[List.getElem?_eq_none (by omega)]
theorem Z4C(least:Int)(ps:List (List UInt8))(hp:∀s∈ps,Sm s)(i m:Nat)(him:i+m=ps.length)(L E S R:List UInt8)(v x:Nat)(P:List UInt8):
 Does prog tab 167 5 [.ptr (.loc 0) 0 0 0, .fn (.func 209) [] [.ptr (.loc 4) 0 0 0]] [] [(0,VZ i m L E S R v x P),(1, .rows 1 (ps.map Zu)),(4, .box [.int .i64 least])] (ValK 5 (.bool (YR (fun s=>Y1 s least 8 false) ps i))):=by
 refine Does.enter Z1 call167 func167 rfl 21 rfl rfl [.tmp 4] rfl ?_;intro w0 F η0 h0;conv=>whnf
 repeat'((first|(refine GET.at (row:=Zu (ps[i]'(by omega))) (by rw[List.getElem?_map,show i+(0:Int).toNat=i by simp,List.getElem?_eq_getElem (by omega)];rfl) ?_;conv=>whnf)|(refine CALL.looks [4] (Z0a (ps[i]'(by omega)) least (hp _ (List.getElem_mem (by omega)))) rfl rfl rfl rfl ⟨⟨rfl,rfl,rfl⟩,trivial⟩ ?_;conv=>whnf)|refine AU ?_|(refine IW ?_ ?_<;>intro h<;>try(exfalso;omega)))<;>conv=>whnf)
 ·refine FIN.valueK h0 rfl (congrArg SV.bool ?_);unfold YR;rw[List.getElem?_eq_getElem (by omega)];rfl
 ·refine FIN.valueK h0 rfl (congrArg SV.bool ?_);unfold YR;rw[List.getElem?_eq_none (by omega)]
theorem Yo(ps:List (List UInt8))(i m:Nat)(him:i+(m+1)=ps.length)(p:List UInt8)(hp:ps[i]?=some p)(L E S R:List UInt8)(v x:Nat)(P:List UInt8):
 Does prog tab 171 4 [.ptr (.loc 0) 0 0 0] [(0,VZ i (m+1) L E S R v x P)] [(1, .rows 1 (ps.map Zu))] (fun r O nx=>r= .str p/\O=[(0,VZ (i+1) m L E S R v x P)]/\nx=4):=by
 refine Does.enter Z1 call171 func171 rfl 19 rfl rfl [.tmp 2] rfl ?_;intro w0 F η0 h0;conv=>whnf
 repeat'((first|(refine GET.at (row:=Zu p) (by rw[List.getElem?_map,show i+(0:Int).toNat=i by simp,hp];rfl) ?_;conv=>whnf)|refine AU ?_|(refine IW ?_ ?_<;>intro h<;>try(exfalso;omega)))<;>conv=>whnf)
 exact FIN.here h0 (Oc:=[(0,VZ (i+1) m L E S R v x P)]) rfl rfl rfl ⟨rfl,trivial⟩ ⟨rfl,rfl,rfl⟩
theorem Zbf(least:Int)(ps:List (List UInt8))(hb:Z0b ps+ps.length<=1152921504606846976)(i m:Nat)(him:i+m=ps.length)(L E S R:List UInt8)(v x:Nat)(P:List UInt8):
 Does prog tab 172 4 [.ptr (.loc 0) 0 0 0, .int .i64 least] [(0,VZ i m L E S R v x P)] [(1, .rows 1 (ps.map Zu))]
  (fun r O nx=> ∃(n:Nat) (s:List UInt8),n=YD (fun s=>Y1 s least 8 false) (ps.drop i)/\s.length<=Z0b ps+ps.length/\r= .tup [.str s, .bool (decide (n≠0))]/\O=[(0,VZ (i+n) (m-n) L E S R v x P)]/\nx=4):=by
 have hsm:∀s∈ps,Sm s:=by
  intro s hs;obtain⟨j,hj,rfl⟩:=List.getElem_of_mem hs;have h1:=Z2t (List.getElem?_eq_getElem hj);have h2:=Xb ps (j+1);omega
 refine Does.enter Z1 call172 func172 rfl 18 rfl rfl [.tmp 4, .tmp 5] rfl ?_;intro w0 F η0 h0;conv=>whnf
 refine LOOP.go Z1 [0,3] (X:=Nat×List UInt8) (fun y=>y.1<=m/\y.2.length<=((ps.take (i+y.1)).map List.length).sum+(i+y.1)/\(y.1=0<->y.2=[])/\YD (fun s=>Y1 s least 8 false) (ps.drop i)=y.1+YD (fun s=>Y1 s least 8 false) (ps.drop (i+y.1))) (fun y=>[(6, .str y.2)]) (fun y=>[(0,VZ (i+y.1) (m-y.1) L E S R v x P),(4, .box [.int .i64 least])]) 5 (fun y=>m-y.1) (0,[]) ⟨by simp,by simp,by simp,by simp⟩ ?_;conv=>whnf
 refine⟨by exact GOES.cA h0,?_⟩;rintro⟨n,s⟩ ⟨hn,hl,h0s,hspan⟩;dsimp only at hn hl h0s hspan⊢;conv=>whnf
 refine CALL.hA (Z4C least ps hsm (i+n) (m-n) (by omega) L E S R v x P) ?_ ?_
 ·rintro r O' nx' ⟨rfl,rfl,rfl⟩;exact⟨rfl,rfl,rfl⟩
 rintro r O' ⟨rfl,rfl,_⟩;conv=>whnf
 refine⟨fun h=>?_,fun h=>?_⟩
 ·obtain⟨p,hp,hpm⟩:∃p,ps[i+n]?=some p/\Y1 p least 8 false=true:=by
   unfold YR at h;cases hp:ps[i+n]? with
   |none=>rw[hp]at h;cases h
   |some p=>rw[hp]at h;exact⟨p,rfl,h⟩
  have hlt:=(List.getElem?_eq_some_iff.1 hp).1;have hs1:=Z2t hp;have hs2:=Xb ps (i+n+1);obtain⟨k,hk⟩:∃k,m-n=k+1:=⟨m-n-1,by omega⟩;rw[hk];conv=>whnf
  refine CALL.hA (Yo ps (i+n) k (by omega) p hp L E S R v x P) ?_ ?_
  ·rintro r O' nx' ⟨rfl,rfl,rfl⟩;exact⟨rfl,rfl,rfl⟩
  rintro r O' ⟨rfl,rfl,_⟩;conv=>whnf
  repeat'((first|refine AU ?_|(refine IW ?_ ?_<;>intro h<;>try(exfalso;omega)))<;>conv=>whnf)
  have hsp:YD (fun s=>Y1 s least 8 false) (ps.drop (i+n))=YD (fun s=>Y1 s least 8 false) (ps.drop (i+(n+1)))+1:=by
   rw[List.drop_eq_getElem_cons hlt]
   have:ps[i+n]=p:=by
    have:=List.getElem?_eq_getElem hlt;rw[hp]at this;injection this with this;exact this.symm
   rw[this];simp only[YD,hpm,if_true]
   rfl
  refine⟨(n+1,s++([45]++p)),⟨by simp only;omega,?_,by simp,by simp only;omega⟩,by simp only;omega,?_⟩
  ·simp only[List.length_append,List.length_cons,List.length_nil];rw[show i+(n+1)=i+n+1 by omega,hs1];omega
  ·dsimp only;rw[show i+(n+1)=i+n+1 by omega,show m-(n+1)=k by omega];conv=>whnf
   exact GOES.cA h0
 ·have hsp:YD (fun s=>Y1 s least 8 false) (ps.drop (i+n))=0:=by
   unfold YR at h;cases hp:ps[i+n]? with
   |none=>rw[List.drop_eq_nil_of_le (by simpa using hp)];rfl
   |some p=>
    rw[hp]at h;have hlt:=(List.getElem?_eq_some_iff.1 hp).1;rw[List.drop_eq_getElem_cons hlt]
    have:ps[i+n]=p:=by
     have:=List.getElem?_eq_getElem hlt;rw[hp]at this;injection this with this;exact this.symm
    rw[this];simp only[YD];simp only at h;simp[h]
  have hs2:=Xb ps (i+n);conv=>whnf
  repeat'((first|refine AU ?_|(refine IW ?_ ?_<;>intro h<;>try(exfalso;omega)))<;>conv=>whnf)
  refine FIN.here h0 (rc:= .tup [.str s, .bool (decide (n≠0))]) (Oc:=[(0,VZ (i+n) (m-n) L E S R v x P)]) ?_ rfl rfl ⟨rfl,trivial⟩ ⟨n,s,by omega,by omega,rfl,rfl,rfl⟩;show SV.tup [SV.str s,SV.bool (s !=[])]=SV.tup [SV.str s,SV.bool (decide (n≠0))]
  have:(s !=[])=decide (n≠0):=by rw[Bool.eq_iff_iff];simp[h0s]
  rw[this]
theorem Z9i(g:Nat)(p:List UInt8->Bool)(ps:List (List UInt8))(hp:∀s∈ps,Does prog tab g 0 [.str s] [] [] (Val (.bool (p s))))(i m:Nat)(him:i+m=ps.length)(L E S R:List UInt8)(v x:Nat)(P:List UInt8):
 Does prog tab 167 4 [.ptr (.loc 0) 0 0 0, .fn (.func g) [] []] [] [(0,UK i m L E S R v x P),(1, .rows 1 (ps.map Zu))] (ValK 4 (.bool (YR p ps i))):=by
 refine Does.enter Z1 call167 func167 rfl 21 rfl rfl [.tmp 4] rfl ?_;intro w0 F η0 h0;conv=>whnf
 repeat'((first|(refine GET.at (row:=Zu (ps[i]'(by omega))) (by rw[List.getElem?_map,show i+(0:Int).toNat=i by simp,List.getElem?_eq_getElem (by omega)];rfl) ?_;conv=>whnf)|refine CALL.value (hp _ (List.getElem_mem (by omega))) rfl rfl ?_|refine AU ?_|(refine IW ?_ ?_<;>intro h<;>try(exfalso;omega)))<;>conv=>whnf)
 ·refine FIN.valueK h0 rfl (congrArg SV.bool ?_);unfold YR;rw[List.getElem?_eq_getElem (by omega)];rfl
 ·refine FIN.valueK h0 rfl (congrArg SV.bool ?_);unfold YR;rw[List.getElem?_eq_none (by omega)]
theorem Z34(least:Int)(ps:List (List UInt8))(hp:∀s∈ps,Sm s)(i m:Nat)(him:i+m=ps.length)(L E S R:List UInt8)(v x:Nat)(P:List UInt8):
 Does prog tab 167 5 [.ptr (.loc 0) 0 0 0, .fn (.func 209) [] [.ptr (.loc 4) 0 0 0]] [] [(0,UK i m L E S R v x P),(1, .rows 1 (ps.map Zu)),(4, .box [.int .i64 least])] (ValK 5 (.bool (YR (fun s=>Y1 s least 8 false) ps i))):=by
 refine Does.enter Z1 call167 func167 rfl 21 rfl rfl [.tmp 4] rfl ?_;intro w0 F η0 h0;conv=>whnf
 repeat'((first|(refine GET.at (row:=Zu (ps[i]'(by omega))) (by rw[List.getElem?_map,show i+(0:Int).toNat=i by simp,List.getElem?_eq_getElem (by omega)];rfl) ?_;conv=>whnf)|(refine CALL.looks [4] (Z0a (ps[i]'(by omega)) least (hp _ (List.getElem_mem (by omega)))) rfl rfl rfl rfl ⟨⟨rfl,rfl,rfl⟩,trivial⟩ ?_;conv=>whnf)|refine AU ?_|(refine IW ?_ ?_<;>intro h<;>try(exfalso;omega)))<;>conv=>whnf)
 ·refine FIN.valueK h0 rfl (congrArg SV.bool ?_);unfold YR;rw[List.getElem?_eq_getElem (by omega)];rfl
 ·refine FIN.valueK h0 rfl (congrArg SV.bool ?_);unfold YR;rw[List.getElem?_eq_none (by omega)]
theorem UL(ps:List (List UInt8))(i m:Nat)(him:i+(m+1)=ps.length)(p:List UInt8)(hp:ps[i]?=some p)(L E S R:List UInt8)(v x:Nat)(P:List UInt8):
 Does prog tab 171 4 [.ptr (.loc 0) 0 0 0] [(0,UK i (m+1) L E S R v x P)] [(1, .rows 1 (ps.map Zu))] (fun r O nx=>r= .str p/\O=[(0,UK (i+1) m L E S R v x P)]/\nx=4):=by
 refine Does.enter Z1 call171 func171 rfl 19 rfl rfl [.tmp 2] rfl ?_;intro w0 F η0 h0;conv=>whnf
 repeat'((first|(refine GET.at (row:=Zu p) (by rw[List.getElem?_map,show i+(0:Int).toNat=i by simp,hp];rfl) ?_;conv=>whnf)|refine AU ?_|(refine IW ?_ ?_<;>intro h<;>try(exfalso;omega)))<;>conv=>whnf)
 exact FIN.here h0 (Oc:=[(0,UK (i+1) m L E S R v x P)]) rfl rfl rfl ⟨rfl,trivial⟩ ⟨rfl,rfl,rfl⟩
theorem Z9j(least:Int)(ps:List (List UInt8))(hb:Z0b ps+ps.length<=1152921504606846976)(i m:Nat)(him:i+m=ps.length)(L E S R:List UInt8)(v x:Nat)(P:List UInt8):
 Does prog tab 172 4 [.ptr (.loc 0) 0 0 0, .int .i64 least] [(0,UK i m L E S R v x P)] [(1, .rows 1 (ps.map Zu))]
  (fun r O nx=> ∃(n:Nat) (s:List UInt8),n=YD (fun s=>Y1 s least 8 false) (ps.drop i)/\s.length<=Z0b ps+ps.length/\r= .tup [.str s, .bool (decide (n≠0))]/\O=[(0,UK (i+n) (m-n) L E S R v x P)]/\nx=4):=by
 have hsm:∀s∈ps,Sm s:=by
  intro s hs;obtain⟨j,hj,rfl⟩:=List.getElem_of_mem hs;have h1:=Z2t (List.getElem?_eq_getElem hj);have h2:=Xb ps (j+1);omega
 refine Does.enter Z1 call172 func172 rfl 18 rfl rfl [.tmp 4, .tmp 5] rfl ?_;intro w0 F η0 h0;conv=>whnf
 refine LOOP.go Z1 [0,3] (X:=Nat×List UInt8) (fun y=>y.1<=m/\y.2.length<=((ps.take (i+y.1)).map List.length).sum+(i+y.1)/\(y.1=0<->y.2=[])/\YD (fun s=>Y1 s least 8 false) (ps.drop i)=y.1+YD (fun s=>Y1 s least 8 false) (ps.drop (i+y.1))) (fun y=>[(6, .str y.2)]) (fun y=>[(0,UK (i+y.1) (m-y.1) L E S R v x P),(4, .box [.int .i64 least])]) 5 (fun y=>m-y.1) (0,[]) ⟨by simp,by simp,by simp,by simp⟩ ?_;conv=>whnf
 refine⟨by exact GOES.cA h0,?_⟩;rintro⟨n,s⟩ ⟨hn,hl,h0s,hspan⟩;dsimp only at hn hl h0s hspan⊢;conv=>whnf
 refine CALL.hA (Z34 least ps hsm (i+n) (m-n) (by omega) L E S R v x P) ?_ ?_
 ·rintro r O' nx' ⟨rfl,rfl,rfl⟩;exact⟨rfl,rfl,rfl⟩
 rintro r O' ⟨rfl,rfl,_⟩;conv=>whnf
 refine⟨fun h=>?_,fun h=>?_⟩
 ·obtain⟨p,hp,hpm⟩:∃p,ps[i+n]?=some p/\Y1 p least 8 false=true:=by
   unfold YR at h;cases hp:ps[i+n]? with
   |none=>rw[hp]at h;cases h
   |some p=>rw[hp]at h;exact⟨p,rfl,h⟩
  have hlt:=(List.getElem?_eq_some_iff.1 hp).1;have hs1:=Z2t hp;have hs2:=Xb ps (i+n+1);obtain⟨k,hk⟩:∃k,m-n=k+1:=⟨m-n-1,by omega⟩;rw[hk];conv=>whnf
  refine CALL.hA (UL ps (i+n) k (by omega) p hp L E S R v x P) ?_ ?_
  ·rintro r O' nx' ⟨rfl,rfl,rfl⟩;exact⟨rfl,rfl,rfl⟩
  rintro r O' ⟨rfl,rfl,_⟩;conv=>whnf
  repeat'((first|refine AU ?_|(refine IW ?_ ?_<;>intro h<;>try(exfalso;omega)))<;>conv=>whnf)
  have hsp:YD (fun s=>Y1 s least 8 false) (ps.drop (i+n))=YD (fun s=>Y1 s least 8 false) (ps.drop (i+(n+1)))+1:=by
   rw[List.drop_eq_getElem_cons hlt]
   have:ps[i+n]=p:=by
    have:=List.getElem?_eq_getElem hlt;rw[hp]at this;injection this with this;exact this.symm
   rw[this];simp only[YD,hpm,if_true]
   rfl
  refine⟨(n+1,s++([45]++p)),⟨by simp only;omega,?_,by simp,by simp only;omega⟩,by simp only;omega,?_⟩
  ·simp only[List.length_append,List.length_cons,List.length_nil];rw[show i+(n+1)=i+n+1 by omega,hs1];omega
  ·dsimp only;rw[show i+(n+1)=i+n+1 by omega,show m-(n+1)=k by omega];conv=>whnf
   exact GOES.cA h0
 ·have hsp:YD (fun s=>Y1 s least 8 false) (ps.drop (i+n))=0:=by
   unfold YR at h;cases hp:ps[i+n]? with
   |none=>rw[List.drop_eq_nil_of_le (by simpa using hp)];rfl
   |some p=>
    rw[hp]at h;have hlt:=(List.getElem?_eq_some_iff.1 hp).1;rw[List.drop_eq_getElem_cons hlt]
    have:ps[i+n]=p:=by
     have:=List.getElem?_eq_getElem hlt;rw[hp]at this;injection this with this;exact this.symm
    rw[this];simp only[YD];simp only at h;simp[h]
  have hs2:=Xb ps (i+n);conv=>whnf
  repeat'((first|refine AU ?_|(refine IW ?_ ?_<;>intro h<;>try(exfalso;omega)))<;>conv=>whnf)
  refine FIN.here h0 (rc:= .tup [.str s, .bool (decide (n≠0))]) (Oc:=[(0,UK (i+n) (m-n) L E S R v x P)]) ?_ rfl rfl ⟨rfl,trivial⟩ ⟨n,s,by omega,by omega,rfl,rfl,rfl⟩;show SV.tup [SV.str s,SV.bool (s !=[])]=SV.tup [SV.str s,SV.bool (decide (n≠0))]
  have:(s !=[])=decide (n≠0):=by rw[Bool.eq_iff_iff];simp[h0s]
  rw[this]
theorem Xn(g:Nat)(p:List UInt8->Bool)(ps:List (List UInt8))(hp:∀s∈ps,Does prog tab g 0 [.str s] [] [] (Val (.bool (p s))))(i m:Nat)(him:i+m=ps.length)(L E S R:List UInt8)(v x:Nat)(P:List UInt8):
 Does prog tab 167 7 [.ptr (.loc 0) 0 0 0, .fn (.func g) [] []] [] [(0,J4 i m L E S R v x P),(1, .rows 1 (ps.map Zu))] (ValK 7 (.bool (YR p ps i))):=by
 refine Does.enter Z1 call167 func167 rfl 21 rfl rfl [.tmp 4] rfl ?_;intro w0 F η0 h0;conv=>whnf
 repeat'((first|(refine GET.at (row:=Zu (ps[i]'(by omega))) (by rw[List.getElem?_map,show i+(0:Int).toNat=i by simp,List.getElem?_eq_getElem (by omega)];rfl) ?_;conv=>whnf)|refine CALL.value (hp _ (List.getElem_mem (by omega))) rfl rfl ?_|refine AU ?_|(refine IW ?_ ?_<;>intro h<;>try(exfalso;omega)))<;>conv=>whnf)
 ·refine FIN.valueK h0 rfl (congrArg SV.bool ?_);unfold YR;rw[List.getElem?_eq_getElem (by omega)];rfl
 ·refine FIN.valueK h0 rfl (congrArg SV.bool ?_);unfold YR;rw[List.getElem?_eq_none (by omega)]
theorem Z35(least:Int)(ps:List (List UInt8))(hp:∀s∈ps,Sm s)(i m:Nat)(him:i+m=ps.length)(L E S R:List UInt8)(v x:Nat)(P:List UInt8):
 Does prog tab 167 8 [.ptr (.loc 0) 0 0 0, .fn (.func 209) [] [.ptr (.loc 7) 0 0 0]] [] [(0,J4 i m L E S R v x P),(1, .rows 1 (ps.map Zu)),(7, .box [.int .i64 least])] (ValK 8 (.bool (YR (fun s=>Y1 s least 8 false) ps i))):=by
 refine Does.enter Z1 call167 func167 rfl 21 rfl rfl [.tmp 4] rfl ?_;intro w0 F η0 h0;conv=>whnf
 repeat'((first|(refine GET.at (row:=Zu (ps[i]'(by omega))) (by rw[List.getElem?_map,show i+(0:Int).toNat=i by simp,List.getElem?_eq_getElem (by omega)];rfl) ?_;conv=>whnf)|(refine CALL.looks [7] (Z0a (ps[i]'(by omega)) least (hp _ (List.getElem_mem (by omega)))) rfl rfl rfl rfl ⟨⟨rfl,rfl,rfl⟩,trivial⟩ ?_;conv=>whnf)|refine AU ?_|(refine IW ?_ ?_<;>intro h<;>try(exfalso;omega)))<;>conv=>whnf)
 ·refine FIN.valueK h0 rfl (congrArg SV.bool ?_);unfold YR;rw[List.getElem?_eq_getElem (by omega)];rfl
 ·refine FIN.valueK h0 rfl (congrArg SV.bool ?_);unfold YR;rw[List.getElem?_eq_none (by omega)]
theorem ZZ(ps:List (List UInt8))(i m:Nat)(him:i+(m+1)=ps.length)(p:List UInt8)(hp:ps[i]?=some p)(L E S R:List UInt8)(v x:Nat)(P:List UInt8):
 Does prog tab 171 7 [.ptr (.loc 0) 0 0 0] [(0,J4 i (m+1) L E S R v x P)] [(1, .rows 1 (ps.map Zu))] (fun r O nx=>r= .str p/\O=[(0,J4 (i+1) m L E S R v x P)]/\nx=7):=by
 refine Does.enter Z1 call171 func171 rfl 19 rfl rfl [.tmp 2] rfl ?_;intro w0 F η0 h0;conv=>whnf
 repeat'((first|(refine GET.at (row:=Zu p) (by rw[List.getElem?_map,show i+(0:Int).toNat=i by simp,hp];rfl) ?_;conv=>whnf)|refine AU ?_|(refine IW ?_ ?_<;>intro h<;>try(exfalso;omega)))<;>conv=>whnf)
 exact FIN.here h0 (Oc:=[(0,J4 (i+1) m L E S R v x P)]) rfl rfl rfl ⟨rfl,trivial⟩ ⟨rfl,rfl,rfl⟩
theorem Ur(least:Int)(ps:List (List UInt8))(hb:Z0b ps+ps.length<=1152921504606846976)(i m:Nat)(him:i+m=ps.length)(L E S R:List UInt8)(v x:Nat)(P:List UInt8):
 Does prog tab 172 7 [.ptr (.loc 0) 0 0 0, .int .i64 least] [(0,J4 i m L E S R v x P)] [(1, .rows 1 (ps.map Zu))]
  (fun r O nx=> ∃(n:Nat) (s:List UInt8),n=YD (fun s=>Y1 s least 8 false) (ps.drop i)/\s.length<=Z0b ps+ps.length/\r= .tup [.str s, .bool (decide (n≠0))]/\O=[(0,J4 (i+n) (m-n) L E S R v x P)]/\nx=7):=by
 have hsm:∀s∈ps,Sm s:=by
  intro s hs;obtain⟨j,hj,rfl⟩:=List.getElem_of_mem hs;have h1:=Z2t (List.getElem?_eq_getElem hj);have h2:=Xb ps (j+1);omega
 refine Does.enter Z1 call172 func172 rfl 18 rfl rfl [.tmp 4, .tmp 5] rfl ?_;intro w0 F η0 h0;conv=>whnf
 refine LOOP.go Z1 [0,3] (X:=Nat×List UInt8) (fun y=>y.1<=m/\y.2.length<=((ps.take (i+y.1)).map List.length).sum+(i+y.1)/\(y.1=0<->y.2=[])/\YD (fun s=>Y1 s least 8 false) (ps.drop i)=y.1+YD (fun s=>Y1 s least 8 false) (ps.drop (i+y.1))) (fun y=>[(6, .str y.2)]) (fun y=>[(0,J4 (i+y.1) (m-y.1) L E S R v x P),(7, .box [.int .i64 least])]) 8 (fun y=>m-y.1) (0,[]) ⟨by simp,by simp,by simp,by simp⟩ ?_;conv=>whnf
 refine⟨by exact GOES.cA h0,?_⟩;rintro⟨n,s⟩ ⟨hn,hl,h0s,hspan⟩;dsimp only at hn hl h0s hspan⊢;conv=>whnf
 refine CALL.hA (Z35 least ps hsm (i+n) (m-n) (by omega) L E S R v x P) ?_ ?_
 ·rintro r O' nx' ⟨rfl,rfl,rfl⟩;exact⟨rfl,rfl,rfl⟩
 rintro r O' ⟨rfl,rfl,_⟩;conv=>whnf
 refine⟨fun h=>?_,fun h=>?_⟩
 ·obtain⟨p,hp,hpm⟩:∃p,ps[i+n]?=some p/\Y1 p least 8 false=true:=by
   unfold YR at h;cases hp:ps[i+n]? with
   |none=>rw[hp]at h;cases h
   |some p=>rw[hp]at h;exact⟨p,rfl,h⟩
  have hlt:=(List.getElem?_eq_some_iff.1 hp).1;have hs1:=Z2t hp;have hs2:=Xb ps (i+n+1);obtain⟨k,hk⟩:∃k,m-n=k+1:=⟨m-n-1,by omega⟩;rw[hk];conv=>whnf
  refine CALL.hA (ZZ ps (i+n) k (by omega) p hp L E S R v x P) ?_ ?_
  ·rintro r O' nx' ⟨rfl,rfl,rfl⟩;exact⟨rfl,rfl,rfl⟩
  rintro r O' ⟨rfl,rfl,_⟩;conv=>whnf
  repeat'((first|refine AU ?_|(refine IW ?_ ?_<;>intro h<;>try(exfalso;omega)))<;>conv=>whnf)
  have hsp:YD (fun s=>Y1 s least 8 false) (ps.drop (i+n))=YD (fun s=>Y1 s least 8 false) (ps.drop (i+(n+1)))+1:=by
   rw[List.drop_eq_getElem_cons hlt]
   have:ps[i+n]=p:=by
    have:=List.getElem?_eq_getElem hlt;rw[hp]at this;injection this with this;exact this.symm
   rw[this];simp only[YD,hpm,if_true]
   rfl
  refine⟨(n+1,s++([45]++p)),⟨by simp only;omega,?_,by simp,by simp only;omega⟩,by simp only;omega,?_⟩
  ·simp only[List.length_append,List.length_cons,List.length_nil];rw[show i+(n+1)=i+n+1 by omega,hs1];omega
  ·dsimp only;rw[show i+(n+1)=i+n+1 by omega,show m-(n+1)=k by omega];conv=>whnf
   exact GOES.cA h0
 ·have hsp:YD (fun s=>Y1 s least 8 false) (ps.drop (i+n))=0:=by
   unfold YR at h;cases hp:ps[i+n]? with
   |none=>rw[List.drop_eq_nil_of_le (by simpa using hp)];rfl
   |some p=>
    rw[hp]at h;have hlt:=(List.getElem?_eq_some_iff.1 hp).1;rw[List.drop_eq_getElem_cons hlt]
    have:ps[i+n]=p:=by
     have:=List.getElem?_eq_getElem hlt;rw[hp]at this;injection this with this;exact this.symm
    rw[this];simp only[YD];simp only at h;simp[h]
  have hs2:=Xb ps (i+n);conv=>whnf
  repeat'((first|refine AU ?_|(refine IW ?_ ?_<;>intro h<;>try(exfalso;omega)))<;>conv=>whnf)
  refine FIN.here h0 (rc:= .tup [.str s, .bool (decide (n≠0))]) (Oc:=[(0,J4 (i+n) (m-n) L E S R v x P)]) ?_ rfl rfl ⟨rfl,trivial⟩ ⟨n,s,by omega,by omega,rfl,rfl,rfl⟩;show SV.tup [SV.str s,SV.bool (s !=[])]=SV.tup [SV.str s,SV.bool (decide (n≠0))]
  have:(s !=[])=decide (n≠0):=by rw[Bool.eq_iff_iff];simp[h0s]
  rw[this]
open Tryz
def Z4D:Plan:=(.take 0 1 (.take 1 1 (.take 2 1 (.take 3 1 (.take 5 1 (.fork 4 3 6 0 (ZU [(6,0),(7,1),(8,1),(9,1),(10,1),(11,0)]) (ZU [(4,2),(7,1),(8,1),(9,1),(10,1),(11,0)])))))))
theorem Z7i{ps:List (List UInt8)}(hb:Z0b ps+ps.length<=1152921504606846976):∀s∈ps,Sm s:=by
 intro s hs;obtain⟨j,hj,rfl⟩:=List.getElem_of_mem hs;have h1:=Z2t (List.getElem?_eq_getElem hj);have h2:=Xb ps (j+1);omega
theorem Yt{p:List UInt8->Bool}{ps:List (List UInt8)}{i:Nat}(h:YR p ps i=true):∃s,ps[i]?=some s/\p s=true:=by
 unfold YR at h;cases hp:ps[i]? with
 |none=>rw[hp]at h;cases h
 |some s=>rw[hp]at h;exact⟨s,rfl,h⟩
theorem Xg{ps:List (List UInt8)}{i:Nat}{s:List UInt8}(h:ps[i]?=some s):ps.drop i=s::ps.drop (i+1):=by
 obtain⟨h1,rfl⟩:=List.getElem?_eq_some_iff.1 h;exact List.drop_eq_getElem_cons h1
theorem XS{p:List UInt8->Bool}{ps:List (List UInt8)}{i:Nat}(h:YR p ps i=false):ps.drop i=[]\/∃s,ps[i]?=some s/\ps.drop i=s::ps.drop (i+1)/\p s=false:=by
 unfold YR at h;cases hp:ps[i]? with
 |none=>exact .inl (List.drop_eq_nil_of_le (by simpa using hp))
 |some s=>rw[hp]at h;exact .inr ⟨s,rfl,Xg hp,h⟩
theorem Zgp{n:Nat}{ps:List (List UInt8)}{i:Nat}(h:YR (fun s=>Y1 s 3 3 true) ps i=false):extP n (ps.drop i)=ps.drop i:=by
 rcases XS h with h|⟨s,_,h1,h2⟩
 ·rw[h];cases n<;>rfl
 ·rw[h1];cases n with
  |zero=>rfl
  |succ n=>simp only[extP];simp[h2]
theorem Z4E{s:List UInt8}{a b:Int}{pure:Bool}(h:Y1 s a b pure=true):a<=s.length/\(s.length:Int)<=b:=by
 unfold Y1 at h;simp at h;omega
theorem Z4F(ps:List (List UInt8))(hb:Z0b ps+ps.length<=1152921504606846976)(i m:Nat)(him:i+m=ps.length)(S R:List UInt8)(v x:Nat)(P:List UInt8):
 Does prog tab 169 4 [.ptr (.loc 0) 0 0 0] [(0,VZ i m [] [] S R v x P)] [(1, .rows 1 (ps.map Zu))]
  (fun r O nx=> ∃(i' m':Nat) (L E:List UInt8),i'+m'=ps.length/\r= .bool (Z06 (ps.drop i)).isSome/\(∀l,Z06 (ps.drop i)=some l->l=ps.drop i')/\O=[(0,VZ i' m' L E S R v x P)]/\nx=4):=by
 have hsm:=Z7i hb;refine Does.enter Z1 call169 func169 rfl 50 rfl rfl [.tmp 2] rfl ?_;intro w0 F η0 h0;conv=>whnf
 refine CALL.hA (JG 201 _ ps (fun s hs=>Z9f s (hsm s hs)) i m him [] [] S R v x P) ?_ ?_
 ·rintro r O' nx' ⟨rfl,rfl,rfl⟩;exact⟨rfl,rfl,rfl⟩
 rintro r O' ⟨rfl,rfl,_⟩;conv=>whnf
 refine IF.mk (fun h=>?_) (fun h=>?_)
 ·conv=>whnf
  have h:YR (fun s=>Y1 s 2 8 true) ps i=false:=by simpa using h
  have hn:Z06 (ps.drop i)=none:=by
   rcases XS h with h|⟨s,_,h1,h2⟩
   ·rw[h];rfl
   ·rw[h1];simp only[Z06];simp[h2]
  exact FIN.here h0 (Oc:=[(0,VZ i m [] [] S R v x P)]) rfl rfl rfl ⟨rfl,trivial⟩ ⟨i,m,[],[],him,by rw[hn];rfl,by simp[hn],rfl,rfl⟩
 have h:YR (fun s=>Y1 s 2 8 true) ps i=true:=by simpa using h
 obtain⟨p,hp,hpm⟩:=Yt h;have hlt:=(List.getElem?_eq_some_iff.1 hp).1;have hd:=Xg hp;obtain⟨k,rfl⟩:∃k,m=k+1:=⟨m-1,by omega⟩;have hlen:=Z4E hpm;conv=>whnf
 refine CALL.hA (Yo ps i k him p hp [] [] S R v x P) ?_ ?_
 ·rintro r O' nx' ⟨rfl,rfl,rfl⟩;exact⟨rfl,rfl,rfl⟩
 rintro r O' ⟨rfl,rfl,_⟩;conv=>whnf
 refine IF.mk (fun h=>?_) (fun h=>?_)
 ·conv=>whnf
  have h:3<p.length:=by simp at h;omega
  exact FIN.here h0 (Oc:=[(0,VZ (i+1) k p [] S R v x P)]) rfl rfl rfl ⟨rfl,trivial⟩ ⟨i+1,k,p,[],by omega,by rw[hd];simp only[Z06];simp[hpm,h],by rw[hd];simp only[Z06];simp[hpm,h],rfl,rfl⟩
 have h:¬3<p.length:=by simp at h;omega
 have hL:Z06 (ps.drop i)=some (extP 3 (ps.drop (i+1))):=by rw[hd];simp only[Z06];rw[if_pos hpm,if_neg h]
 conv=>whnf
 refine LOOP.go Z1 [0] (X:=Nat×List UInt8×Nat) (fun y=>y.1<=3/\y.2.1.length<=4*y.1/\y.2.2+(ps.length-y.2.2)=ps.length/\extP 3 (ps.drop (i+1))=extP (3-y.1) (ps.drop y.2.2)) (fun y=>[(3, .int .i64 (y.1:Int))]) (fun y=>[(0,VZ y.2.2 (ps.length-y.2.2) p y.2.1 S R v x P)]) 4 (fun y=>3-y.1) (0,[],i+1) ⟨by simp,by simp,by simp only;omega,rfl⟩ ?_;conv=>whnf
 rw[show ps.length-(i+1)=k by omega];refine⟨by exact GOES.cA h0,?_⟩;rintro⟨c,E,a⟩ ⟨hc,hE,ha,hx⟩;dsimp only at hc hE ha hx⊢;conv=>whnf
 have fin:YR (fun s=>Y1 s 3 3 true) ps a=false\/c=3->extP 3 (ps.drop (i+1))=ps.drop a:=by
  rintro(h|h)
  ·rw[hx,Zgp h]
  ·subst h;rw[hx];rfl
 refine IF.mk (fun h=>?_) (fun h=>?_)
 ·have h:c<3:=by simp at h;omega
  conv=>whnf
  repeat'((first|refine AU ?_|(refine IW ?_ ?_<;>intro h<;>try(exfalso;omega)))<;>conv=>whnf)
  refine CALL.hA (JG 203 _ ps (fun s hs=>Z9g s (hsm s hs)) a (ps.length-a) ha p E S R v x P) ?_ ?_
  ·rintro r O' nx' ⟨rfl,rfl,rfl⟩;exact⟨rfl,rfl,rfl⟩
  rintro r O' ⟨rfl,rfl,_⟩;conv=>whnf
  repeat'((first|refine AU ?_|(refine IW ?_ ?_<;>intro h<;>try(exfalso;omega)))<;>conv=>whnf)
  ·obtain⟨q,hq,hqm⟩:=Yt (by assumption);have hql:=Z4E hqm;obtain⟨k',hk'⟩:∃k',ps.length-a=k'+1:=⟨ps.length-a-1,by have:=(List.getElem?_eq_some_iff.1 hq).1;omega⟩;rw[hk'];repeat'((first|refine DRAWN.of (id:=11) Z1 mixed Z4D (by kernel_rfl) ?_|refine ADD.mk (fun _ _=>?_)|refine AD ?_|refine FORK.mk ?_ ?_|refine AU ?_|(refine IW ?_ ?_<;>intro h<;>try(exfalso;omega)))<;>conv=>whnf)
   all_goals
    refine CALL.hA (Yo ps a k' (by omega) q hq p (E++ [45]) S R v x P) ?_ ?_
    ·rintro r O' nx' ⟨rfl,rfl,rfl⟩;exact⟨rfl,rfl,rfl⟩
    rintro r O' ⟨rfl,rfl,_⟩;conv=>whnf
    repeat'((first|refine DRAWN.of (id:=11) Z1 mixed Z4D (by kernel_rfl) ?_|refine ADD.mk (fun _ _=>?_)|refine AD ?_|refine FORK.mk ?_ ?_|refine AU ?_|(refine IW ?_ ?_<;>intro h<;>try(exfalso;omega)))<;>conv=>whnf)
    refine⟨(c+1,(E++ [45])++q,a+1),⟨by simp only;omega,by simp only[List.length_append,List.length_cons,List.length_nil];omega,by simp only;omega,?_⟩,by simp only;omega,?_⟩
    ·rw[hx,Xg hq,show 3-c=(3-(c+1))+1 by omega];simp only[extP];rw[if_pos hqm]
    ·dsimp only;rw[show ps.length-(a+1)=k' by omega];conv=>whnf
     exact GOES.cA h0
  ·obtain⟨q,hq,hqm⟩:=Yt (by assumption);have hql:=Z4E hqm;obtain⟨k',hk'⟩:∃k',ps.length-a=k'+1:=⟨ps.length-a-1,by have:=(List.getElem?_eq_some_iff.1 hq).1;omega⟩;rw[hk'];have hc0:c=0:=by omega
   repeat'((first|refine DRAWN.of (id:=11) Z1 mixed Z4D (by kernel_rfl) ?_|refine ADD.mk (fun _ _=>?_)|refine AD ?_|refine FORK.mk ?_ ?_|refine AU ?_|(refine IW ?_ ?_<;>intro h<;>try(exfalso;omega)))<;>conv=>whnf)
   all_goals
    refine CALL.hA (Yo ps a k' (by omega) q hq p (E) S R v x P) ?_ ?_
    ·rintro r O' nx' ⟨rfl,rfl,rfl⟩;exact⟨rfl,rfl,rfl⟩
    rintro r O' ⟨rfl,rfl,_⟩;conv=>whnf
    repeat'((first|refine DRAWN.of (id:=11) Z1 mixed Z4D (by kernel_rfl) ?_|refine ADD.mk (fun _ _=>?_)|refine AD ?_|refine FORK.mk ?_ ?_|refine AU ?_|(refine IW ?_ ?_<;>intro h<;>try(exfalso;omega)))<;>conv=>whnf)
    refine⟨(c+1,(E)++q,a+1),⟨by simp only;omega,by simp only[List.length_append,List.length_cons,List.length_nil];omega,by simp only;omega,?_⟩,by simp only;omega,?_⟩
    ·rw[hx,Xg hq,show 3-c=(3-(c+1))+1 by omega];simp only[extP];rw[if_pos hqm]
    ·dsimp only;rw[show ps.length-(a+1)=k' by omega];conv=>whnf
     exact GOES.cA h0
  ·exact FIN.here h0 (Oc:=[(0,VZ a (ps.length-a) p E S R v x P)]) rfl rfl rfl ⟨rfl,trivial⟩ ⟨a,ps.length-a,p,E,ha,by rw[hL];rfl,by rw[hL];rintro l ⟨⟩;exact fin (.inl (by assumption)),rfl,rfl⟩
 ·have h:c=3:=by simp at h;omega
  conv=>whnf
  repeat'((first|refine AU ?_|(refine IW ?_ ?_<;>intro h<;>try(exfalso;omega)))<;>conv=>whnf)
  exact FIN.here h0 (Oc:=[(0,VZ a (ps.length-a) p E S R v x P)]) rfl rfl rfl ⟨rfl,trivial⟩ ⟨a,ps.length-a,p,E,ha,by rw[hL];rfl,by rw[hL];rintro l ⟨⟩;exact fin (.inr h),rfl,rfl⟩
theorem Z7j{p:List UInt8->Bool}{ps:List (List UInt8)}{i:Nat}(h:YR p ps i=false):JT p (ps.drop i)=ps.drop i:=by
 rcases XS h with h|⟨s,_,h1,h2⟩
 ·rw[h];rfl
 ·rw[h1];simp only[JT];rw[if_neg (by simp[h2])]
theorem Z4G{p:List UInt8->Bool}{ps:List (List UInt8)}{i:Nat}{s:List UInt8}(h:ps[i]?=some s)(hp:p s=true):JT p (ps.drop i)=ps.drop (i+1):=by
 rw[Xg h];simp only[JT];rw[if_pos hp]
theorem Z4H(l:List (List UInt8))(s:List UInt8)(hl:l.length<=1152921504606846976):Does prog tab 236 1 [.sl (.loc 0) 0 1 l.length none, .str s] [] [(0, .rows 1 (l.map Zu))]
 (fun r O nx=> ∃n:Int,(0<=n<->s∈l)/\r= .int .i64 n/\O=[]/\nx=1):=by
 refine Does.enter Z1 call236 func236 rfl 19 rfl rfl [.tmp 4] rfl ?_;intro w0 F η0 h0;conv=>whnf
 refine LOOP.go Z1 [0,1,7] (X:=Nat) (fun i=>i<=l.length/\s∉l.take i) (fun i=>[(8, .int .i64 (i:Int))]) (fun i=>[]) 1 (fun i=>l.length-i) 0 ⟨by omega,by simp⟩ ?_;conv=>whnf
 refine⟨by exact GOES.cA h0,?_⟩;rintro i ⟨hi,hc⟩;conv=>whnf
 repeat'((first|(refine GET.at (row:=Zu (l[i]'(by omega))) (by rw[List.getElem?_map,show 0+(i:Int).toNat=i by omega,List.getElem?_eq_getElem (by omega)];rfl) ?_;conv=>whnf)|refine AU ?_|(refine IW ?_ ?_<;>intro h<;>try(exfalso;omega)))<;>conv=>whnf)
 ·have hl:i<l.length:=by omega
  exact FIN.val h0 rfl ⟨i,⟨fun _=>by subst h;exact List.getElem_mem hl,fun _=>by omega⟩,rfl,rfl,rfl⟩
 ·have hl:i<l.length:=by omega
  refine⟨i+1,⟨by omega,?_⟩,by omega,?_⟩
  ·rw[List.take_succ_eq_append_getElem hl];simp only[List.mem_append,List.mem_singleton];rintro(h1|h1)
   ·exact hc h1
   ·exact h h1
  ·conv=>whnf
   exact GOES.cA h0
 ·refine FIN.val h0 rfl ⟨-1,⟨fun h=>by omega,fun h1=>?_⟩,rfl,rfl,rfl⟩;rw[List.take_of_length_le (by omega)]at hc;exact(hc h1).elim
theorem Yp(l:List (List UInt8))(s:List UInt8)(hl:l.length<=1152921504606846976):Does prog tab 207 1 [.sl (.loc 0) 0 1 l.length none, .str s] [] [(0, .rows 1 (l.map Zu))] (ValK 1 (.bool (decide (s∈l)))):=by
 refine Does.enter Z1 call207 func207 rfl 9 rfl rfl [.tmp 4] rfl ?_;intro w0 F η0 h0;conv=>whnf
 refine CALL.hA (Z4H l s hl) ?_ ?_
 ·rintro r O' nx' ⟨n,_,rfl,rfl,rfl⟩;exact⟨rfl,rfl,rfl⟩
 rintro r O' ⟨n,hn,rfl,rfl,_⟩;conv=>whnf
 exact FIN.valueK h0 rfl (congrArg SV.bool (decide_eq_decide.2 hn))
def orE:List Int->Int
 | []=>0
 |a::l=>if a≠0 then a else orE l
def Zbg(a:Int):List SV:=[.int .i64 a]
theorem Z4I(xs:List Int)(hn:xs.length<=1152921504606846976):Does prog tab 138 1 [.sl (.loc 0) 0 1 xs.length none] [] [(0, .rows 1 (xs.map Zbg))] (ValK 1 (.int .i64 (orE xs))):=by
 refine Does.enter Z1 call138 func138 rfl 18 rfl rfl [.tmp 2] rfl ?_;intro w0 F η0 h0;conv=>whnf
 refine LOOP.go Z1 [3,6,7] (X:=Nat) (fun i=>i<=xs.length/\orE xs=orE (xs.drop i)) (fun i=>[(8, .int .i64 (i:Int))]) (fun i=>[]) 1 (fun i=>xs.length-i) 0 ⟨by omega,rfl⟩ ?_;conv=>whnf
 refine⟨by exact GOES.cA h0,?_⟩;rintro i ⟨hi,ho⟩;conv=>whnf
 repeat'((first|(refine GET.at (row:=Zbg (xs[i]'(by omega))) (by rw[List.getElem?_map,show 0+(i:Int).toNat=i by omega,List.getElem?_eq_getElem (by omega)];rfl) ?_;conv=>whnf)|refine AU ?_|(refine IW ?_ ?_<;>intro h<;>try(exfalso;omega)))<;>conv=>whnf)
 ·have hl:i<xs.length:=by omega
  refine FIN.valueK h0 rfl (congrArg (SV.int _) ?_);rw[ho,List.drop_eq_getElem_cons hl];simp only[orE];rw[if_pos h]
 ·have hl:i<xs.length:=by omega
  refine⟨i+1,⟨by omega,?_⟩,by omega,?_⟩
  ·rw[ho,List.drop_eq_getElem_cons hl];simp only[orE];rw[if_neg (by simpa using h)]
  ·conv=>whnf
   exact GOES.cA h0
 ·refine FIN.valueK h0 rfl (congrArg (SV.int _) ?_);rw[ho,List.drop_eq_nil_of_le (by omega)];rfl
def Zgq(x:Int):List SV:=[.int .i64 x]
instance :PlF Zgq:=⟨fun _=>rfl⟩
end Go.Proofs.YtbfbokdccdagkaaGreatDoor
