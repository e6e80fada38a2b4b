/- Part 9: Tab, Cmp7, Lists7, Rise7, Sets1, Sets2, ListS, Over7, Find7, Fits7, Utf1, Utf04, StrLib, Iri, Iri2, Names1, Part1, Split1, Tag1, Tag2, Names2, Part2, Tag5. Conditions: as each part says. -/
import Derived.Test.YtbfbokdccdagkaaGreatDoorProg
import Derived.Lib.Bytealg
import Derived.Test.YtbfbokdccdagkaaGreatDoorFnd6
import Derived.Test.YtbfbokdccdagkaaGreatDoorFnd8
set_option maxRecDepth 100000
namespace Go.Proofs.YtbfbokdccdagkaaGreatDoor
open Go.Sx
open Tryz
def bt{α:Type}(t n:Nat)(a b:α):α:=match Nat.ble t n with|true=>a|false=>b
theorem ZeE{α:Type}{t n:Nat}{a b:α}(h:Nat.ble t n=false):bt t n a b=b:=by unfold bt;rw[h]
def Zi1(t:TypeId):Sh:=bt t 292 (bt t 145 (bt t 72 (bt t 35 (bt t 17 (bt t 8 (bt t 3 (bt t 1 (bt t 0 .plain .func) (.int .i64)) (bt t 5 (bt t 4 .bool (.int .u8)) (bt t 6 (.int .u8) (.struct [(0,2),(1,3),(2,4),(3,6)])))) (bt t 12 (bt t 10 .str (bt t 11 .str (.int .u64))) (bt t 14 (.struct [(0,9),(1,12)]) (bt t 15 (.ptr 282) (bt t 16 (.ptr 285) (.ptr 292)))))) (bt t 26 (bt t 21 (bt t 19 (.struct [(0,17)]) (bt t 20 .iface (.int .i32))) (bt t 23 (bt t 22 (.slice 67) .func) (bt t 24 (.slice 29) .func))) (bt t 30 (bt t 28 .func (bt t 29 (.slice 9) .func)) (bt t 32 (bt t 31 (.slice 40) (.int .i64)) (bt t 33 .plain (bt t 34 .func .plain)))))) (bt t 53 (bt t 44 (bt t 39 (bt t 37 .func (bt t 38 .func (.struct [(0,9),(1,9)]))) (bt t 41 (bt t 40 (.struct [(0,9),(1,9)]) .func) .func)) (bt t 48 (bt t 46 (bt t 45 .func .plain) (bt t 47 .func .plain)) (bt t 50 .func (bt t 51 (.slice 3) (bt t 52 .func .plain))))) (bt t 62 (bt t 57 .func (bt t 59 (bt t 58 .func (.array 65 3)) .func)) (bt t 67 (bt t 64 (bt t 63 .func (.struct [(0,3),(1,9),(2,9),(3,9)])) (bt t 65 (.struct [(0,3),(1,9),(2,9),(3,9)]) (.struct [(0,65),(4,65),(8,65),(12,65)]))) (bt t 69 (bt t 68 .func (.ptr 74)) (bt t 70 .func (bt t 71 (.slice 141) (.slice 22)))))))) (bt t 108 (bt t 90 (bt t 81 (bt t 76 (bt t 74 (.struct [(0,29),(1,51),(2,71),(3,72),(4,3)]) (bt t 75 (.ptr 80) .func)) (bt t 78 (bt t 77 (.slice 82) (.slice 149)) (bt t 79 (.struct [(0,77),(1,78)]) (bt t 80 (.struct [(0,77),(1,78)]) (.struct [(0,3),(1,9),(2,3)]))))) (bt t 85 (bt t 83 (bt t 82 (.struct [(0,3),(1,9),(2,3)]) .func) (bt t 84 .func (.map 9 3))) (bt t 87 .func (bt t 88 .func (bt t 89 (.ptr 92) (.map 93 3)))))) (bt t 99 (bt t 94 (bt t 92 (.struct [(0,69),(1,3),(2,90),(3,51),(4,51),(5,3)]) (bt t 93 (.array 4 65) .func)) (bt t 96 (bt t 95 .plain .func) (bt t 97 .func (bt t 98 (.ptr 100) (.struct [(0,22),(1,22),(2,77),(3,77),(4,31),(5,3),(6,4)]))))) (bt t 103 (bt t 101 (bt t 100 (.struct [(0,22),(1,22),(2,77),(3,77),(4,31),(5,3),(6,4)]) .func) .func) (bt t 105 (bt t 104 (.int .u64) (.ptr 65)) (bt t 106 (.array 4 105) (bt t 107 .func (.ptr 67))))))) (bt t 126 (bt t 117 (bt t 112 .func (bt t 114 (bt t 113 .func .plain) .func)) (bt t 121 (bt t 119 (bt t 118 .func .plain) (bt t 120 .func (.slice 65))) (bt t 123 (bt t 122 .func .plain) .func))) (bt t 135 (bt t 130 .func (bt t 132 .func (bt t 133 .func (bt t 134 .func (.int .u64))))) (bt t 140 (bt t 137 (bt t 136 .func (.array 4 3)) (bt t 138 (.struct [(0,93),(16,137)]) (bt t 139 (.struct [(0,93),(16,137)]) .func))) (bt t 142 (bt t 141 (.slice 139) .func) .func)))))) (bt t 218 (bt t 181 (bt t 163 (bt t 154 (bt t 149 (bt t 147 (.struct [(0,67),(16,137)]) (bt t 148 .func (.slice 147))) (bt t 151 (bt t 150 (.slice 151) (.slice 187)) .func)) (bt t 158 .func (bt t 160 .func (bt t 161 (.int .i64) (bt t 162 .plain .func))))) (bt t 172 (bt t 167 .func (bt t 169 (bt t 168 .func (.int .u32)) .func)) (bt t 176 (bt t 174 (bt t 173 (.ptr 176) (.slice 5)) (.struct [(0,173),(1,174)])) (bt t 178 .iface (bt t 179 .plain (bt t 180 .func (.array 3 9))))))) (bt t 199 (bt t 190 (bt t 185 (bt t 183 .func (.struct [(0,4),(1,3),(2,65)])) (bt t 187 (.array 4 185) (bt t 188 (.slice 4) .func))) (bt t 194 (bt t 192 .func (.struct [(0,9),(1,9),(2,9),(3,9),(4,29),(5,29),(6,9)])) (bt t 196 (bt t 195 .plain .func) (bt t 197 .func (bt t 198 (.int .u64) .func))))) (bt t 208 (bt t 203 (bt t 201 .func (bt t 202 (.ptr 3) .func)) .func) (bt t 213 (bt t 210 (bt t 209 (.ptr 5) .func) .func) (bt t 215 (bt t 214 .plain .func) (bt t 216 (.ptr 219) (bt t 217 .func (.struct [(0,29),(1,194)])))))))) (bt t 255 (bt t 236 (bt t 227 (bt t 222 (bt t 220 (bt t 219 (.struct [(0,29),(1,194)]) .func) (bt t 221 .func (.slice 32))) (bt t 224 (bt t 223 (.ptr 198) .func) (bt t 225 .func (bt t 226 .func .plain)))) (bt t 231 (bt t 229 (bt t 228 .func (.array 24 5)) (bt t 230 .func .plain)) (bt t 233 .func (bt t 234 .plain .func)))) (bt t 245 (bt t 240 (bt t 238 (bt t 237 .plain .func) .func) (bt t 242 (bt t 241 .plain .func) .func)) (bt t 250 (bt t 247 .func (bt t 248 .func (bt t 249 (.array 20 104) (.array 65 5)))) (bt t 252 .func (bt t 253 (.ptr 256) (bt t 254 .func (.struct [(0,29)]))))))) (bt t 273 (bt t 264 (bt t 259 (bt t 257 (bt t 256 (.struct [(0,29)]) .func) (bt t 258 (.ptr 194) .func)) (bt t 261 .func (bt t 262 (.array 5 21) .func))) (bt t 268 (bt t 266 (bt t 265 .func (.array 28 3)) .func) (bt t 270 (bt t 269 .func (.array 24 21)) (bt t 271 .func (bt t 272 (.array 32 5) (.array 64 5)))))) (bt t 282 (bt t 277 (bt t 275 (bt t 274 (.array 5 3) (.array 256 5)) (.struct [(0,5),(1,5)])) (bt t 279 (bt t 278 (.array 16 277) .plain) (bt t 280 .func (.struct [(0,17),(1,17),(2,17),(3,9)])))) (bt t 287 (bt t 284 (bt t 283 (.array 0 16) (.struct [(0,283)])) (bt t 285 (.struct [(0,283)]) (.int .u8))) (bt t 289 (bt t 288 .func (.int .i32)) (bt t 290 (.int .i32) (.struct [(0,12),(1,12),(2,169),(3,286),(4,5),(5,5),(6,287),(7,288),(8,209),(9,289),(10,290)]))))))))) .other
def ZgM(t:TypeId):Nat:=bt t 292 (bt t 145 (bt t 72 (bt t 35 (bt t 17 (bt t 8 (bt t 3 1 (bt t 5 1 (bt t 6 1 4))) (bt t 12 1 (bt t 14 2 1))) 1) (bt t 53 (bt t 44 (bt t 39 (bt t 37 1 (bt t 38 1 2)) (bt t 41 (bt t 40 2 1) 1)) 1) (bt t 62 (bt t 57 1 (bt t 59 (bt t 58 1 65) 1)) (bt t 67 (bt t 64 (bt t 63 1 4) (bt t 65 4 16)) 1)))) (bt t 108 (bt t 90 (bt t 81 (bt t 76 (bt t 74 5 1) (bt t 78 1 (bt t 79 2 (bt t 80 2 3)))) (bt t 85 (bt t 83 (bt t 82 3 1) 1) 1)) (bt t 99 (bt t 94 (bt t 92 6 (bt t 93 16 1)) (bt t 96 1 (bt t 97 1 (bt t 98 1 7)))) (bt t 103 (bt t 101 (bt t 100 7 1) 1) (bt t 105 1 (bt t 106 4 1))))) (bt t 126 1 (bt t 135 1 (bt t 140 (bt t 137 (bt t 136 1 4) (bt t 138 20 (bt t 139 20 1))) 1))))) (bt t 218 (bt t 181 (bt t 163 (bt t 154 (bt t 149 (bt t 147 20 1) 1) 1) (bt t 172 1 (bt t 176 (bt t 174 1 2) (bt t 178 1 (bt t 179 1 (bt t 180 1 3)))))) (bt t 199 (bt t 190 (bt t 185 (bt t 183 1 6) (bt t 187 24 1)) (bt t 194 (bt t 192 1 7) 1)) (bt t 208 1 (bt t 213 1 (bt t 215 1 (bt t 216 1 (bt t 217 1 8))))))) (bt t 255 (bt t 236 (bt t 227 (bt t 222 (bt t 220 (bt t 219 8 1) 1) 1) (bt t 231 (bt t 229 (bt t 228 1 24) 1) 1)) (bt t 245 1 (bt t 250 (bt t 247 1 (bt t 248 1 (bt t 249 20 65))) 1))) (bt t 273 (bt t 264 (bt t 259 1 (bt t 261 1 (bt t 262 5 1))) (bt t 268 (bt t 266 (bt t 265 1 28) 1) (bt t 270 (bt t 269 1 24) (bt t 271 1 (bt t 272 32 64))))) (bt t 282 (bt t 277 (bt t 275 (bt t 274 5 256) 2) (bt t 279 (bt t 278 32 1) (bt t 280 1 4))) (bt t 287 (bt t 284 0 (bt t 285 0 1)) (bt t 289 1 (bt t 290 1 11)))))))) 0
def Zci(t:TypeId):List SV:=bt t 292 (bt t 145 (bt t 72 (bt t 35 (bt t 17 (bt t 8 (bt t 3 (bt t 1 (bt t 0 [] [.val .nilFunc]) [.int .i64 (0)]) (bt t 5 (bt t 4 [.bool false] [.int .u8 (0)]) (bt t 6 [.int .u8 (0)] [.int .i64 (0), .int .i64 (0), .bool false, .int .u8 (0)]))) (bt t 12 (bt t 10 ([.str []]) (bt t 11 [.str []] [.int .u64 (0)])) (bt t 14 ([.str [], .int .u64 (0)]) [.val (.pointer none)]))) (bt t 26 (bt t 21 (bt t 19 [.val (.pointer none)] (bt t 20 [.val .nilIface] [.int .i32 (0)])) (bt t 23 (bt t 22 [.val (.slice none 0 0)] [.val .nilFunc]) (bt t 24 [.val (.slice none 0 0)] [.val .nilFunc]))) (bt t 30 (bt t 28 [.val .nilFunc] (bt t 29 [.val (.slice none 0 0)] [.val .nilFunc])) (bt t 32 (bt t 31 [.val (.slice none 0 0)] [.int .i64 (0)]) (bt t 33 [] (bt t 34 [.val .nilFunc] [])))))) (bt t 53 (bt t 44 (bt t 39 (bt t 37 [.val .nilFunc] (bt t 38 [.val .nilFunc] [.str [], .str []])) (bt t 41 (bt t 40 [.str [], .str []] [.val .nilFunc]) [.val .nilFunc])) (bt t 48 (bt t 46 (bt t 45 [.val .nilFunc] []) (bt t 47 [.val .nilFunc] [])) (bt t 50 [.val .nilFunc] (bt t 51 [.val (.slice none 0 0)] (bt t 52 [.val .nilFunc] []))))) (bt t 62 (bt t 57 [.val .nilFunc] (bt t 59 (bt t 58 [.val .nilFunc] []) [.val .nilFunc])) (bt t 67 (bt t 64 (bt t 63 [.val .nilFunc] [.int .i64 (0), .str [], .str [], .str []]) (bt t 65 [.int .i64 (0), .str [], .str [], .str []] ([.int .i64 (0), .str [], .str [], .str [], .int .i64 (0), .str [], .str [], .str [], .int .i64 (0), .str [], .str [], .str [], .int .i64 (0), .str [], .str [], .str []]))) (bt t 69 (bt t 68 [.val .nilFunc] [.val (.pointer none)]) (bt t 70 [.val .nilFunc] [.val (.slice none 0 0)])))))) (bt t 108 (bt t 90 (bt t 81 (bt t 76 (bt t 74 [.val (.slice none 0 0), .val (.slice none 0 0), .val (.slice none 0 0), .val (.slice none 0 0), .int .i64 (0)] (bt t 75 [.val (.pointer none)] [.val .nilFunc])) (bt t 78 [.val (.slice none 0 0)] (bt t 79 [.val (.slice none 0 0), .val (.slice none 0 0)] (bt t 80 [.val (.slice none 0 0), .val (.slice none 0 0)] [.int .i64 (0), .str [], .int .i64 (0)])))) (bt t 85 (bt t 83 (bt t 82 [.int .i64 (0), .str [], .int .i64 (0)] [.val .nilFunc]) (bt t 84 [.val .nilFunc] [.val (.map none)])) (bt t 87 [.val .nilFunc] (bt t 88 [.val .nilFunc] (bt t 89 [.val (.pointer none)] [.val (.map none)]))))) (bt t 99 (bt t 94 (bt t 92 [.val (.pointer none), .int .i64 (0), .val (.map none), .val (.slice none 0 0), .val (.slice none 0 0), .int .i64 (0)] (bt t 93 [.int .i64 (0), .str [], .str [], .str [], .int .i64 (0), .str [], .str [], .str [], .int .i64 (0), .str [], .str [], .str [], .int .i64 (0), .str [], .str [], .str []] [.val .nilFunc])) (bt t 96 (bt t 95 [] [.val .nilFunc]) (bt t 97 [.val .nilFunc] (bt t 98 [.val (.pointer none)] [.val (.slice none 0 0), .val (.slice none 0 0), .val (.slice none 0 0), .val (.slice none 0 0), .val (.slice none 0 0), .int .i64 (0), .bool false])))) (bt t 103 (bt t 101 (bt t 100 [.val (.slice none 0 0), .val (.slice none 0 0), .val (.slice none 0 0), .val (.slice none 0 0), .val (.slice none 0 0), .int .i64 (0), .bool false] [.val .nilFunc]) [.val .nilFunc]) (bt t 105 (bt t 104 [.int .u64 (0)] [.val (.pointer none)]) (bt t 106 [.val (.pointer none), .val (.pointer none), .val (.pointer none), .val (.pointer none)] (bt t 107 [.val .nilFunc] [.val (.pointer none)])))))) (bt t 126 (bt t 117 (bt t 112 [.val .nilFunc] (bt t 114 (bt t 113 [.val .nilFunc] []) [.val .nilFunc])) (bt t 121 (bt t 119 (bt t 118 [.val .nilFunc] []) (bt t 120 [.val .nilFunc] [.val (.slice none 0 0)])) (bt t 123 (bt t 122 [.val .nilFunc] []) [.val .nilFunc]))) (bt t 135 (bt t 130 [.val .nilFunc] (bt t 132 [.val .nilFunc] (bt t 133 [.val .nilFunc] (bt t 134 [.val .nilFunc] [.int .u64 (0)])))) (bt t 140 (bt t 137 (bt t 136 [.val .nilFunc] [.int .i64 (0), .int .i64 (0), .int .i64 (0), .int .i64 (0)]) (bt t 138 [.int .i64 (0), .str [], .str [], .str [], .int .i64 (0), .str [], .str [], .str [], .int .i64 (0), .str [], .str [], .str [], .int .i64 (0), .str [], .str [], .str [], .int .i64 (0), .int .i64 (0), .int .i64 (0), .int .i64 (0)] (bt t 139 [.int .i64 (0), .str [], .str [], .str [], .int .i64 (0), .str [], .str [], .str [], .int .i64 (0), .str [], .str [], .str [], .int .i64 (0), .str [], .str [], .str [], .int .i64 (0), .int .i64 (0), .int .i64 (0), .int .i64 (0)] [.val .nilFunc]))) (bt t 142 (bt t 141 [.val (.slice none 0 0)] [.val .nilFunc]) [.val .nilFunc])))))) (bt t 218 (bt t 181 (bt t 163 (bt t 154 (bt t 149 (bt t 147 ([.int .i64 (0), .str [], .str [], .str [], .int .i64 (0), .str [], .str [], .str [], .int .i64 (0), .str [], .str [], .str [], .int .i64 (0), .str [], .str [], .str [], .int .i64 (0), .int .i64 (0), .int .i64 (0), .int .i64 (0)]) (bt t 148 [.val .nilFunc] [.val (.slice none 0 0)])) (bt t 151 [.val (.slice none 0 0)] [.val .nilFunc])) (bt t 158 [.val .nilFunc] (bt t 160 [.val .nilFunc] (bt t 161 [.int .i64 (0)] (bt t 162 [] [.val .nilFunc]))))) (bt t 172 (bt t 167 [.val .nilFunc] (bt t 169 (bt t 168 [.val .nilFunc] [.int .u32 (0)]) [.val .nilFunc])) (bt t 176 (bt t 174 (bt t 173 [.val (.pointer none)] [.val (.slice none 0 0)]) [.val (.pointer none), .val (.slice none 0 0)]) (bt t 178 [.val .nilIface] (bt t 179 [] (bt t 180 [.val .nilFunc] [.str [], .str [], .str []])))))) (bt t 199 (bt t 190 (bt t 185 (bt t 183 [.val .nilFunc] ([.bool false, .int .i64 (0), .int .i64 (0), .str [], .str [], .str []])) (bt t 187 ([.bool false, .int .i64 (0), .int .i64 (0), .str [], .str [], .str [], .bool false, .int .i64 (0), .int .i64 (0), .str [], .str [], .str [], .bool false, .int .i64 (0), .int .i64 (0), .str [], .str [], .str [], .bool false, .int .i64 (0), .int .i64 (0), .str [], .str [], .str []]) (bt t 188 [.val (.slice none 0 0)] [.val .nilFunc]))) (bt t 194 (bt t 192 [.val .nilFunc] ([.str [], .str [], .str [], .str [], .val (.slice none 0 0), .val (.slice none 0 0), .str []])) (bt t 196 (bt t 195 [] [.val .nilFunc]) (bt t 197 [.val .nilFunc] (bt t 198 [.int .u64 (0)] [.val .nilFunc]))))) (bt t 208 (bt t 203 (bt t 201 [.val .nilFunc] (bt t 202 [.val (.pointer none)] [.val .nilFunc])) [.val .nilFunc]) (bt t 213 (bt t 210 (bt t 209 [.val (.pointer none)] [.val .nilFunc]) [.val .nilFunc]) (bt t 215 (bt t 214 [] [.val .nilFunc]) (bt t 216 [.val (.pointer none)] (bt t 217 [.val .nilFunc] [.val (.slice none 0 0), .str [], .str [], .str [], .str [], .val (.slice none 0 0), .val (.slice none 0 0), .str []]))))))) (bt t 255 (bt t 236 (bt t 227 (bt t 222 (bt t 220 (bt t 219 [.val (.slice none 0 0), .str [], .str [], .str [], .str [], .val (.slice none 0 0), .val (.slice none 0 0), .str []] [.val .nilFunc]) (bt t 221 [.val .nilFunc] [.val (.slice none 0 0)])) (bt t 224 (bt t 223 [.val (.pointer none)] [.val .nilFunc]) (bt t 225 [.val .nilFunc] (bt t 226 [.val .nilFunc] [.val (.pointer none)])))) (bt t 231 (bt t 229 (bt t 228 [.val .nilFunc] [.int .u8 (0), .int .u8 (0), .int .u8 (0), .int .u8 (0), .int .u8 (0), .int .u8 (0), .int .u8 (0), .int .u8 (0), .int .u8 (0), .int .u8 (0), .int .u8 (0), .int .u8 (0), .int .u8 (0), .int .u8 (0), .int .u8 (0), .int .u8 (0), .int .u8 (0), .int .u8 (0), .int .u8 (0), .int .u8 (0), .int .u8 (0), .int .u8 (0), .int .u8 (0), .int .u8 (0)]) (bt t 230 [.val .nilFunc] [])) (bt t 233 [.val .nilFunc] (bt t 234 [] [.val .nilFunc])))) (bt t 245 (bt t 240 (bt t 238 (bt t 237 [] [.val .nilFunc]) [.val .nilFunc]) (bt t 242 (bt t 241 [] [.val .nilFunc]) [.val .nilFunc])) (bt t 250 (bt t 247 [.val .nilFunc] (bt t 248 [.val .nilFunc] (bt t 249 [.int .u64 (0), .int .u64 (0), .int .u64 (0), .int .u64 (0), .int .u64 (0), .int .u64 (0), .int .u64 (0), .int .u64 (0), .int .u64 (0), .int .u64 (0), .int .u64 (0), .int .u64 (0), .int .u64 (0), .int .u64 (0), .int .u64 (0), .int .u64 (0), .int .u64 (0), .int .u64 (0), .int .u64 (0), .int .u64 (0)] []))) (bt t 252 [.val .nilFunc] (bt t 253 [.val (.pointer none)] (bt t 254 [.val .nilFunc] [.val (.slice none 0 0)])))))) (bt t 273 (bt t 264 (bt t 259 (bt t 257 (bt t 256 [.val (.slice none 0 0)] [.val .nilFunc]) (bt t 258 [.val (.pointer none)] [.val .nilFunc])) (bt t 261 [.val .nilFunc] (bt t 262 [.int .i32 (0), .int .i32 (0), .int .i32 (0), .int .i32 (0), .int .i32 (0)] [.val .nilFunc]))) (bt t 268 (bt t 266 (bt t 265 [.val .nilFunc] [.int .i64 (0), .int .i64 (0), .int .i64 (0), .int .i64 (0), .int .i64 (0), .int .i64 (0), .int .i64 (0), .int .i64 (0), .int .i64 (0), .int .i64 (0), .int .i64 (0), .int .i64 (0), .int .i64 (0), .int .i64 (0), .int .i64 (0), .int .i64 (0), .int .i64 (0), .int .i64 (0), .int .i64 (0), .int .i64 (0), .int .i64 (0), .int .i64 (0), .int .i64 (0), .int .i64 (0), .int .i64 (0), .int .i64 (0), .int .i64 (0), .int .i64 (0)]) [.val .nilFunc]) (bt t 270 (bt t 269 [.val .nilFunc] [.int .i32 (0), .int .i32 (0), .int .i32 (0), .int .i32 (0), .int .i32 (0), .int .i32 (0), .int .i32 (0), .int .i32 (0), .int .i32 (0), .int .i32 (0), .int .i32 (0), .int .i32 (0), .int .i32 (0), .int .i32 (0), .int .i32 (0), .int .i32 (0), .int .i32 (0), .int .i32 (0), .int .i32 (0), .int .i32 (0), .int .i32 (0), .int .i32 (0), .int .i32 (0), .int .i32 (0)]) (bt t 271 [.val .nilFunc] (bt t 272 [.int .u8 (0), .int .u8 (0), .int .u8 (0), .int .u8 (0), .int .u8 (0), .int .u8 (0), .int .u8 (0), .int .u8 (0), .int .u8 (0), .int .u8 (0), .int .u8 (0), .int .u8 (0), .int .u8 (0), .int .u8 (0), .int .u8 (0), .int .u8 (0), .int .u8 (0), .int .u8 (0), .int .u8 (0), .int .u8 (0), .int .u8 (0), .int .u8 (0), .int .u8 (0), .int .u8 (0), .int .u8 (0), .int .u8 (0), .int .u8 (0), .int .u8 (0), .int .u8 (0), .int .u8 (0), .int .u8 (0), .int .u8 (0)] [.int .u8 (0), .int .u8 (0), .int .u8 (0), .int .u8 (0), .int .u8 (0), .int .u8 (0), .int .u8 (0), .int .u8 (0), .int .u8 (0), .int .u8 (0), .int .u8 (0), .int .u8 (0), .int .u8 (0), .int .u8 (0), .int .u8 (0), .int .u8 (0), .int .u8 (0), .int .u8 (0), .int .u8 (0), .int .u8 (0), .int .u8 (0), .int .u8 (0), .int .u8 (0), .int .u8 (0), .int .u8 (0), .int .u8 (0), .int .u8 (0), .int .u8 (0), .int .u8 (0), .int .u8 (0), .int .u8 (0), .int .u8 (0), .int .u8 (0), .int .u8 (0), .int .u8 (0), .int .u8 (0), .int .u8 (0), .int .u8 (0), .int .u8 (0), .int .u8 (0), .int .u8 (0), .int .u8 (0), .int .u8 (0), .int .u8 (0), .int .u8 (0), .int .u8 (0), .int .u8 (0), .int .u8 (0), .int .u8 (0), .int .u8 (0), .int .u8 (0), .int .u8 (0), .int .u8 (0), .int .u8 (0), .int .u8 (0), .int .u8 (0), .int .u8 (0), .int .u8 (0), .int .u8 (0), .int .u8 (0), .int .u8 (0), .int .u8 (0), .int .u8 (0), .int .u8 (0)]))))) (bt t 282 (bt t 277 (bt t 275 (bt t 274 [.int .i64 (0), .int .i64 (0), .int .i64 (0), .int .i64 (0), .int .i64 (0)] []) [.int .u8 (0), .int .u8 (0)]) (bt t 279 (bt t 278 [.int .u8 (0), .int .u8 (0), .int .u8 (0), .int .u8 (0), .int .u8 (0), .int .u8 (0), .int .u8 (0), .int .u8 (0), .int .u8 (0), .int .u8 (0), .int .u8 (0), .int .u8 (0), .int .u8 (0), .int .u8 (0), .int .u8 (0), .int .u8 (0), .int .u8 (0), .int .u8 (0), .int .u8 (0), .int .u8 (0), .int .u8 (0), .int .u8 (0), .int .u8 (0), .int .u8 (0), .int .u8 (0), .int .u8 (0), .int .u8 (0), .int .u8 (0), .int .u8 (0), .int .u8 (0), .int .u8 (0), .int .u8 (0)] []) (bt t 280 [.val .nilFunc] ([.val (.pointer none), .val (.pointer none), .val (.pointer none), .str []])))) (bt t 287 (bt t 284 [] (bt t 285 [] [.int .u8 (0)])) (bt t 289 (bt t 288 [.val .nilFunc] [.int .i32 (0)]) (bt t 290 [.int .i32 (0)] [.int .u64 (0), .int .u64 (0), .int .u32 (0), .int .u8 (0), .int .u8 (0), .int .u8 (0), .int .u8 (0), .val .nilFunc, .val (.pointer none), .int .i32 (0), .int .i32 (0)])))))))) []
def ZeF(t:TypeId):Nat:=bt t 292 (bt t 145 (bt t 72 (bt t 35 (bt t 17 (bt t 8 (bt t 3 (bt t 1 (bt t 0 0 8) 8) (bt t 5 1 (bt t 6 1 24))) (bt t 12 (bt t 10 16 (bt t 11 16 8)) (bt t 14 24 8))) (bt t 26 (bt t 21 (bt t 19 8 (bt t 20 16 4)) (bt t 23 (bt t 22 24 8) (bt t 24 24 8))) (bt t 30 (bt t 28 8 (bt t 29 24 8)) (bt t 32 (bt t 31 24 8) (bt t 33 0 (bt t 34 8 0)))))) (bt t 53 (bt t 44 (bt t 39 (bt t 37 8 (bt t 38 8 32)) (bt t 41 (bt t 40 32 8) 8)) (bt t 48 (bt t 46 (bt t 45 8 0) (bt t 47 8 0)) (bt t 50 8 (bt t 51 24 (bt t 52 8 0))))) (bt t 62 (bt t 57 8 (bt t 59 (bt t 58 8 520) 8)) (bt t 67 (bt t 64 (bt t 63 8 56) (bt t 65 56 224)) (bt t 69 8 (bt t 70 8 24)))))) (bt t 108 (bt t 90 (bt t 81 (bt t 76 (bt t 74 104 8) (bt t 78 24 (bt t 79 48 (bt t 80 48 32)))) (bt t 85 (bt t 83 (bt t 82 32 8) 8) 8)) (bt t 99 (bt t 94 (bt t 92 80 (bt t 93 224 8)) (bt t 96 (bt t 95 0 8) (bt t 97 8 (bt t 98 8 136)))) (bt t 103 (bt t 101 (bt t 100 136 8) 8) (bt t 105 8 (bt t 106 32 8))))) (bt t 126 (bt t 117 (bt t 112 8 (bt t 114 (bt t 113 8 0) 8)) (bt t 121 (bt t 119 (bt t 118 8 0) (bt t 120 8 24)) (bt t 123 (bt t 122 8 0) 8))) (bt t 135 8 (bt t 140 (bt t 137 (bt t 136 8 32) (bt t 138 256 (bt t 139 256 8))) (bt t 142 (bt t 141 24 8) 8)))))) (bt t 218 (bt t 181 (bt t 163 (bt t 154 (bt t 149 (bt t 147 256 (bt t 148 8 24)) (bt t 151 24 8)) (bt t 158 8 (bt t 160 8 (bt t 161 8 (bt t 162 0 8))))) (bt t 172 (bt t 167 8 (bt t 169 (bt t 168 8 4) 8)) (bt t 176 (bt t 174 (bt t 173 8 24) 32) (bt t 178 16 (bt t 179 0 (bt t 180 8 48)))))) (bt t 199 (bt t 190 (bt t 185 (bt t 183 8 72) (bt t 187 288 (bt t 188 24 8))) (bt t 194 (bt t 192 8 128) (bt t 196 (bt t 195 0 8) 8))) (bt t 208 8 (bt t 213 8 (bt t 215 (bt t 214 0 8) (bt t 216 8 (bt t 217 8 152))))))) (bt t 255 (bt t 236 (bt t 227 (bt t 222 (bt t 220 (bt t 219 152 8) (bt t 221 8 24)) 8) (bt t 231 (bt t 229 (bt t 228 8 24) (bt t 230 8 0)) (bt t 233 8 (bt t 234 0 8)))) (bt t 245 (bt t 240 (bt t 238 (bt t 237 0 8) 8) (bt t 242 (bt t 241 0 8) 8)) (bt t 250 (bt t 247 8 (bt t 248 8 (bt t 249 160 65))) (bt t 252 8 (bt t 253 8 (bt t 254 8 24)))))) (bt t 273 (bt t 264 (bt t 259 (bt t 257 (bt t 256 24 8) 8) (bt t 261 8 (bt t 262 20 8))) (bt t 268 (bt t 266 (bt t 265 8 224) 8) (bt t 270 (bt t 269 8 96) (bt t 271 8 (bt t 272 32 64))))) (bt t 282 (bt t 277 (bt t 275 (bt t 274 40 256) 2) (bt t 279 (bt t 278 32 0) (bt t 280 8 40))) (bt t 287 (bt t 284 0 (bt t 285 0 1)) (bt t 289 (bt t 288 8 4) (bt t 290 4 48)))))))) 0
def Zcj(t:TypeId):Option (List CK):=bt t 292 (bt t 145 (bt t 72 (bt t 35 none (bt t 53 (bt t 44 (bt t 39 none (bt t 41 (bt t 40 (some [.str, .str]) none) none)) none) (bt t 62 none (bt t 67 (bt t 64 none (bt t 65 (some [.int .i64, .str, .str, .str]) (bt t 66 none (some [.int .i64, .str, .str, .str, .int .i64, .str, .str, .str, .int .i64, .str, .str, .str, .int .i64, .str, .str, .str])))) none)))) (bt t 108 (bt t 90 (bt t 81 none (bt t 85 (bt t 83 (bt t 82 (some [.int .i64, .str, .int .i64]) none) none) none)) (bt t 99 (bt t 94 (bt t 92 none (bt t 93 (some [.int .i64, .str, .str, .str, .int .i64, .str, .str, .str, .int .i64, .str, .str, .str, .int .i64, .str, .str, .str]) none)) none) none)) (bt t 126 none (bt t 135 none (bt t 140 (bt t 137 (bt t 136 none (some [.int .i64, .int .i64, .int .i64, .int .i64])) (bt t 138 none (bt t 139 (some [.int .i64, .str, .str, .str, .int .i64, .str, .str, .str, .int .i64, .str, .str, .str, .int .i64, .str, .str, .str, .int .i64, .int .i64, .int .i64, .int .i64]) none))) none))))) (bt t 218 (bt t 181 (bt t 163 (bt t 154 (bt t 149 (bt t 147 (bt t 146 none (some [.int .i64, .str, .str, .str, .int .i64, .str, .str, .str, .int .i64, .str, .str, .str, .int .i64, .str, .str, .str, .int .i64, .int .i64, .int .i64, .int .i64])) none) none) none) (bt t 172 none (bt t 176 none (bt t 178 none (bt t 179 none (bt t 180 none (some [.str, .str, .str]))))))) (bt t 199 (bt t 190 (bt t 185 (bt t 183 none (bt t 184 none (some [.bool, .int .i64, .int .i64, .str, .str, .str]))) (bt t 187 (some [.bool, .int .i64, .int .i64, .str, .str, .str, .bool, .int .i64, .int .i64, .str, .str, .str, .bool, .int .i64, .int .i64, .str, .str, .str, .bool, .int .i64, .int .i64, .str, .str, .str]) none)) none) none)) (bt t 255 (bt t 236 (bt t 227 none (bt t 231 (bt t 229 (bt t 228 none (some [.int .u8, .int .u8, .int .u8, .int .u8, .int .u8, .int .u8, .int .u8, .int .u8, .int .u8, .int .u8, .int .u8, .int .u8, .int .u8, .int .u8, .int .u8, .int .u8, .int .u8, .int .u8, .int .u8, .int .u8, .int .u8, .int .u8, .int .u8, .int .u8])) none) none)) (bt t 245 none (bt t 250 (bt t 247 none (bt t 248 none (bt t 249 (some [.int .u64, .int .u64, .int .u64, .int .u64, .int .u64, .int .u64, .int .u64, .int .u64, .int .u64, .int .u64, .int .u64, .int .u64, .int .u64, .int .u64, .int .u64, .int .u64, .int .u64, .int .u64, .int .u64, .int .u64]) none))) none))) (bt t 273 (bt t 264 (bt t 259 none (bt t 261 none (bt t 262 (some [.int .i32, .int .i32, .int .i32, .int .i32, .int .i32]) none))) (bt t 268 (bt t 266 (bt t 265 none (some [.int .i64, .int .i64, .int .i64, .int .i64, .int .i64, .int .i64, .int .i64, .int .i64, .int .i64, .int .i64, .int .i64, .int .i64, .int .i64, .int .i64, .int .i64, .int .i64, .int .i64, .int .i64, .int .i64, .int .i64, .int .i64, .int .i64, .int .i64, .int .i64, .int .i64, .int .i64, .int .i64, .int .i64])) none) (bt t 270 (bt t 269 none (some [.int .i32, .int .i32, .int .i32, .int .i32, .int .i32, .int .i32, .int .i32, .int .i32, .int .i32, .int .i32, .int .i32, .int .i32, .int .i32, .int .i32, .int .i32, .int .i32, .int .i32, .int .i32, .int .i32, .int .i32, .int .i32, .int .i32, .int .i32, .int .i32])) (bt t 271 none (bt t 272 (some [.int .u8, .int .u8, .int .u8, .int .u8, .int .u8, .int .u8, .int .u8, .int .u8, .int .u8, .int .u8, .int .u8, .int .u8, .int .u8, .int .u8, .int .u8, .int .u8, .int .u8, .int .u8, .int .u8, .int .u8, .int .u8, .int .u8, .int .u8, .int .u8, .int .u8, .int .u8, .int .u8, .int .u8, .int .u8, .int .u8, .int .u8, .int .u8]) (some [.int .u8, .int .u8, .int .u8, .int .u8, .int .u8, .int .u8, .int .u8, .int .u8, .int .u8, .int .u8, .int .u8, .int .u8, .int .u8, .int .u8, .int .u8, .int .u8, .int .u8, .int .u8, .int .u8, .int .u8, .int .u8, .int .u8, .int .u8, .int .u8, .int .u8, .int .u8, .int .u8, .int .u8, .int .u8, .int .u8, .int .u8, .int .u8, .int .u8, .int .u8, .int .u8, .int .u8, .int .u8, .int .u8, .int .u8, .int .u8, .int .u8, .int .u8, .int .u8, .int .u8, .int .u8, .int .u8, .int .u8, .int .u8, .int .u8, .int .u8, .int .u8, .int .u8, .int .u8, .int .u8, .int .u8, .int .u8, .int .u8, .int .u8, .int .u8, .int .u8, .int .u8, .int .u8, .int .u8, .int .u8])))))) (bt t 282 (bt t 277 (bt t 275 (bt t 274 (some [.int .i64, .int .i64, .int .i64, .int .i64, .int .i64]) none) (bt t 276 none (some [.int .u8, .int .u8]))) (bt t 279 (bt t 278 (some [.int .u8, .int .u8, .int .u8, .int .u8, .int .u8, .int .u8, .int .u8, .int .u8, .int .u8, .int .u8, .int .u8, .int .u8, .int .u8, .int .u8, .int .u8, .int .u8, .int .u8, .int .u8, .int .u8, .int .u8, .int .u8, .int .u8, .int .u8, .int .u8, .int .u8, .int .u8, .int .u8, .int .u8, .int .u8, .int .u8, .int .u8, .int .u8]) none) none)) none))))) none
def Zg5(t:TypeId):Option (Bool×List CK):=bt t 292 (bt t 145 (bt t 72 (bt t 35 (bt t 17 (bt t 8 none (bt t 12 (bt t 10 (bt t 9 (some (false,[.str])) none) none) none)) none) none) (bt t 108 (bt t 90 none (bt t 99 (bt t 94 (bt t 92 none (bt t 93 (some (true,[.int .i64, .str, .str, .str, .int .i64, .str, .str, .str, .int .i64, .str, .str, .str, .int .i64, .str, .str, .str])) none)) none) none)) none)) none) none
def basesTableInts:List Int:=[192,214,216,246,248,767,880,893,895,8191,8204,8205,8304,8591,11264,12271,12289,55295,63744,64975,65008,65533,65536,983039]
def Wl:List (List SV):=basesTableInts.map fun x=>[.int .i32 x]
def uint64pow10Ints:List Int:=[1,10,100,1000,10000,100000,1000000,10000000,100000000,1000000000,10000000000,100000000000,1000000000000,10000000000000,100000000000000,1000000000000000,10000000000000000,100000000000000000,1000000000000000000,10000000000000000000]
def Z3f:List Value:=uint64pow10Ints.map fun x=> .int .u64 x
def tab:Tab:={sh:=Zi1,size:=ZgM,zero:=Zci,bytes:=ZeF,flat:=Zcj,key:=Zg5,globs:=[(2, .rows 1 Wl),(1, .tbl Z3f)],bld:=some (176,5)}
theorem Z1:TabOK prog tab:=by
 refine ZeD 293 (by kernel_rfl) (fun t ht=>?_)
 have h:Nat.ble t 292=false:=by
  cases e:Nat.ble t 292
  ·rfl
  ·have:=Nat.le_of_ble_eq_true e;omega
 exact⟨by(simp only[tab,Zi1]<;>first|exact ZeE h|rfl),by(simp only[tab,Zci]<;>first|exact ZeE h|rfl),by(simp only[tab,Zcj]<;>first|exact ZeE h|rfl),by(simp only[tab,Zg5]<;>first|exact ZeE h|rfl)⟩
theorem mixed:prog.follows .mixedOrders=true:=by kernel_rfl
end Go.Proofs.YtbfbokdccdagkaaGreatDoor
set_option linter.unusedVariables false
set_option linter.unusedSimpArgs false
set_option maxRecDepth 20000
set_option maxHeartbeats 8000000
namespace Go.Proofs.YtbfbokdccdagkaaGreatDoor
open Go.Sx Go.Our
open Tryz
def ZcI:Plan:=(Zv [(0,1),(2,1),(5,1),(7,1),(10,1),(12,1),(15,1),(17,1),(1,2),(3,2),(6,2),(8,2),(11,2),(13,2),(16,2),(18,2),(4,3),(9,3),(14,3),(19,3),(20,3),(21,3),(22,1)])
theorem ZaO(a:Int):Does prog tab 139 0 [.int .i64 a] [] [] (Val (.bool false)):=by
 refine Does.enter Z1 call139 func139 rfl 6 rfl rfl [.tmp 2] rfl ?_;intro w0 F η0 h0;conv=>whnf
 exact FIN.value h0 rfl (by simp)
theorem Z73(a b:Int):Does prog tab 111 0 [.int .i64 a, .int .i64 b] [] [] (Val (.int .i64 (cmpI a b))):=by
 refine Does.enter Z1 call111 func111 rfl 20 rfl rfl [.tmp 4] rfl ?_;intro w0 F η0 h0;conv=>whnf
 repeat'((first|refine CALL.value (ZaO _) rfl rfl ?_|refine AU ?_|(refine IW ?_ ?_<;>intro h<;>try(exfalso;omega)))<;>conv=>whnf)
 all_goals
  refine FIN.value h0 rfl (congrArg (SV.int _) ?_);unfold cmpI
  (repeat' split)<;>simp_all<;>omega
theorem Z8t(a b:List UInt8):Does prog tab 173 0 [.str a, .str b] [] [] (Val (.int .i64 (cmpL a b))):=by
 refine Does.says fun η w vs hd=>?_;simp only[DenL,Den]at hd;obtain⟨u,us,rfl,rfl,u',us',rfl,rfl,rfl⟩:=hd;refine⟨_,?_,rfl⟩;rw[run_callFunc_extern func173 (by kernel_rfl) (by kernel_rfl) (by kernel_rfl) (e:=Extern.BytealgCompare.compare) (by kernel_rfl),Lib.run_compareString]
 rfl
theorem Z4d(a b:List UInt8):Does prog tab 140 0 [.str a, .str b] [] [] (Val (.int .i64 (cmpL a b))):=by
 refine Does.enter Z1 call140 func140 rfl 8 rfl rfl [.tmp 4] rfl ?_;intro w0 F η0 h0;conv=>whnf
 repeat'((first|refine CALL.value (Z8t _ _) rfl rfl ?_|refine AU ?_|(refine IW ?_ ?_<;>intro h<;>try(exfalso;omega)))<;>conv=>whnf)
 exact FIN.value h0 rfl rfl
theorem WH(a b:List UInt8):Does prog tab 112 0 [.str a, .str b] [] [] (Val (.int .i64 (cmpL a b))):=by
 refine Does.enter Z1 call112 func112 rfl 8 rfl rfl [.tmp 4] rfl ?_;intro w0 F η0 h0;conv=>whnf
 repeat'((first|refine CALL.value (Z4d _ _) rfl rfl ?_|refine AU ?_|(refine IW ?_ ?_<;>intro h<;>try(exfalso;omega)))<;>conv=>whnf)
 exact FIN.value h0 rfl rfl
def ZcJ(x:Int):List SV:=[.int .i64 x]
theorem ZcK(xs:List Int)(hn:xs.length<=1152921504606846976):Does prog tab 87 1 [.sl (.loc 0) 0 1 xs.length none] [] [(0, .rows 1 (xs.map ZcJ))] (ValK 1 (.int .i64 (orI xs))):=by
 refine Does.enter Z1 call87 func87 rfl 18 rfl rfl [.tmp 2] rfl ?_;intro w0 F η0 h0;conv=>whnf
 refine LOOP.go Z1 [3,6,7] (X:=Nat) (fun i=>i<=xs.length/\orI xs=orI (xs.drop i)) (fun i=>[(8, .int .i64 (i:Int))]) (fun i=>[]) 1 (fun i=>xs.length-i) 0 ⟨by omega,rfl⟩ ?_;conv=>whnf
 refine⟨by exact GOES.cA h0,?_⟩;rintro i ⟨hi,ho⟩;conv=>whnf
 repeat'((first|(refine GET.at (row:=ZcJ (xs[i]'(by omega))) (by rw[List.getElem?_map,show 0+(i:Int).toNat=i by omega,List.getElem?_eq_getElem (by omega)];rfl) ?_;conv=>whnf)|refine AU ?_|(refine IW ?_ ?_<;>intro h<;>try(exfalso;omega)))<;>conv=>whnf)
 ·have hl:i<xs.length:=by omega
  refine FIN.valueK h0 rfl (congrArg (SV.int _) ?_);rw[ho,List.drop_eq_getElem_cons hl];simp only[orI];rw[if_pos h]
 ·have hl:i<xs.length:=by omega
  refine⟨i+1,⟨by omega,?_⟩,by omega,?_⟩
  ·rw[ho,List.drop_eq_getElem_cons hl];simp only[orI];rw[if_neg (by simpa using h)]
  ·conv=>whnf
   exact GOES.cA h0
 ·refine FIN.valueK h0 rfl (congrArg (SV.int _) ?_);rw[ho,List.drop_eq_nil_of_le (by omega)];rfl
abbrev tmR(x:Tm):List SV:=[.int .i64 x.k, .str x.t, .str x.y, .str x.l]
theorem UZ(a b:Tm):Does prog tab 88 0 [.agg (tmR a), .agg (tmR b)] [] [] (Val (.int .i64 (Yw a b))):=by
 refine Does.enter Z1 call88 func88 rfl 27 rfl rfl [.tmp 4] rfl ?_;intro w0 F η0 h0;conv=>whnf
 repeat'((first|refine DRAWN.of (id:=1) Z1 mixed ZcI (by kernel_rfl) ?_|refine ADD.mk (fun _ _=>?_)|refine AD ?_|refine FORK.mk ?_ ?_|refine CALL.value (Z73 a.k b.k) rfl rfl ?_|refine CALL.value (WH a.t b.t) rfl rfl ?_|refine CALL.value (WH a.y b.y) rfl rfl ?_|refine CALL.value (WH a.l b.l) rfl rfl ?_|(refine CALL.looks [2] (ZcK [cmpI a.k b.k,cmpL a.t b.t,cmpL a.y b.y,cmpL a.l b.l] (by simp)) rfl rfl rfl rfl ⟨⟨rfl,rfl,rfl⟩,trivial⟩ ?_;conv=>whnf)|refine AU ?_|(refine IW ?_ ?_<;>intro h<;>try(exfalso;omega)))<;>conv=>whnf)
 exact FIN.value h0 rfl (by rw[<-Zg7])
theorem ZaP(a b:Qd):Does prog tab 61 0 [.agg a.row, .agg b.row] [] [] (Val (.int .i64 (Ju a b))):=by
 refine Does.enter Z1 call61 func61 rfl 27 rfl rfl [.tmp 4] rfl ?_;intro w0 F η0 h0;conv=>whnf
 repeat'((first|refine DRAWN.of (id:=1) Z1 mixed ZcI (by kernel_rfl) ?_|refine ADD.mk (fun _ _=>?_)|refine AD ?_|refine FORK.mk ?_ ?_|refine CALL.value (UZ a.g b.g) rfl rfl ?_|refine CALL.value (UZ a.s b.s) rfl rfl ?_|refine CALL.value (UZ a.p b.p) rfl rfl ?_|refine CALL.value (UZ a.o b.o) rfl rfl ?_|(refine CALL.looks [2] (ZcK [Yw a.g b.g,Yw a.s b.s,Yw a.p b.p,Yw a.o b.o] (by simp)) rfl rfl rfl rfl ⟨⟨rfl,rfl,rfl⟩,trivial⟩ ?_;conv=>whnf)|refine AU ?_|(refine IW ?_ ?_<;>intro h<;>try(exfalso;omega)))<;>conv=>whnf)
 exact FIN.value h0 rfl (by rw[<-Zg8])
theorem ZaQ(a b:List UInt8):Does prog tab 131 0 [.str a, .str b] [] [] (Val (.int .i64 (cmpL a b))):=by
 have hr:=triL.rng a b;have ha:=triL.anti a b;have h1:=Z3o a b;have h2:=Z3o b a;have h3:(a==b)=decide (cmpL a b=0):=by rw[Bool.eq_iff_iff];simp[triL.zero]
 refine Does.enter Z1 call131 func131 rfl 13 rfl rfl [.tmp 4] rfl ?_;intro w0 F η0 h0;conv=>whnf
 repeat'((first|refine AU ?_|(refine IW ?_ ?_<;>intro h<;>try(exfalso;omega)))<;>conv=>whnf)
 all_goals
  refine FIN.value h0 rfl (congrArg (SV.int _) ?_);simp only[h1,h2,h3,decide_eq_true_eq,decide_eq_false_iff_not]at*;have hz:=triL.zero a b;simp only[<-hz]at*;omega
theorem Y5(a b:Tm):Does prog tab 105 0 [.agg (tmR a), .agg (tmR b)] [] [] (Val (.int .i64 (Yw a b))):=by
 refine Does.enter Z1 call105 func105 rfl 36 rfl rfl [.tmp 4] rfl ?_;intro w0 F η0 h0;conv=>whnf
 repeat'((first|refine CALL.value (ZaQ _ _) rfl rfl ?_|refine AU ?_|(refine IW ?_ ?_<;>intro h<;>try(exfalso;omega)))<;>conv=>whnf)
 all_goals
  refine FIN.value h0 rfl (congrArg (SV.int _) ?_);rw[<-Zg7];simp only[orI,cmpI]
  (repeat' split)<;>simp_all<;>omega
theorem Z3q(a b:Qd):Does prog tab 101 0 [.agg a.row, .agg b.row] [] [] (Val (.int .i64 (Ju a b))):=by
 refine Does.enter Z1 call101 func101 rfl 33 rfl rfl [.tmp 4] rfl ?_;intro w0 F η0 h0;conv=>whnf
 repeat'((first|refine CALL.value (Y5 a.g b.g) rfl rfl ?_|refine CALL.value (Y5 a.s b.s) rfl rfl ?_|refine CALL.value (Y5 a.p b.p) rfl rfl ?_|refine CALL.value (Y5 a.o b.o) rfl rfl ?_|refine AU ?_|(refine IW ?_ ?_<;>intro h<;>try(exfalso;omega)))<;>conv=>whnf)
 all_goals
  refine FIN.value h0 rfl (congrArg (SV.int _) ?_);rw[<-Zg8];simp only[orI]
  (repeat' split)<;>simp_all
end Go.Proofs.YtbfbokdccdagkaaGreatDoor
namespace Go.Proofs.YtbfbokdccdagkaaGreatDoor
open Go.Sx Go.Our
theorem ZgW{l c:Int}{b:Nat}(B:Nat)(hb:Nat.ble b B=true)(h0:0<=l)(h1:l<=c)(h2:(B:Int)*c<=281474976710656/\c<=9223372036854775807):0<=l/\l<=c/\c<=9223372036854775807/\(b:Int)*c<=281474976710656:=
 ⟨h0,h1,h2.2,Int.le_trans (Int.mul_le_mul_of_nonneg_right (by have:=Nat.le_of_ble_eq_true hb;omega) (by omega)) h2.1⟩
abbrev V6(l:List Qd):Prop:=l.length*224<=140737488351232
theorem J5{l z:List Qd}{i:Nat}(h:i<l.length):((l++z).map Zj)[i]?=some (Zj l[i]):=by
 rw[List.getElem?_map,List.getElem?_append_left h,List.getElem?_eq_getElem h];rfl
end Go.Proofs.YtbfbokdccdagkaaGreatDoor
namespace Go.Proofs.YtbfbokdccdagkaaGreatDoor
open Go.Sx Go.Our Go.Sort Go.Shelf
abbrev Zjm(l:List Tm):Prop:=l.length*224<=140737488351232
theorem ZcO{α:Type}(f:α->List SV){C l:List α}{j:Nat}(h1:C.length<=j)(h2:j<l.length):((C++l.drop C.length).map f)[j]?=some (f l[j]):=by
 rw[List.getElem?_map,List.getElem?_append_right h1,List.getElem?_drop,show C.length+(j-C.length)=j by omega,List.getElem?_eq_getElem h2];rfl
theorem ZgY{α:Type}(f:α->List SV){C l:List α}(x:α)(h:C.length<l.length):((C++l.drop C.length).map f).set C.length (f x)=((C++ [x])++l.drop (C++ [x]).length).map f:=by
 rw[Z5E,List.set_append_right _ _ (Nat.le_refl _),Nat.sub_self,List.drop_eq_getElem_cons h,List.set_cons_zero];simp
theorem ZcP{α:Type}(f:α->List SV){C l:List α}(z:α)(h:C.length<=l.length):((C++l.drop C.length).map f).take C.length++List.replicate (l.length-C.length) (f z)++((C++l.drop C.length).map f).drop (C.length+(l.length-C.length))=(C++List.replicate (l.length-C.length) z).map f:=by
 have h1:((C++l.drop C.length).map f).length=l.length:=by simp;omega
 rw[List.drop_of_length_le (l:=(C++l.drop C.length).map f) (by omega),List.append_nil,List.map_append,List.map_append,List.map_replicate,List.take_append_of_le_length (by simp),List.take_of_length_le (by simp)]
theorem ZgZ{rs:List (List SV)}{i j:Nat}{row:List SV}(h:rs[i]?=some row)(e:j=i):rs[j]?=some row:=e▸h
abbrev strU(s:List UInt8):Value:= .string ⟨s.toArray⟩
instance :Inhabited Tm:=⟨Zx⟩
instance :Inhabited Qd:=⟨Z4S⟩
end Go.Proofs.YtbfbokdccdagkaaGreatDoor
namespace Go.Proofs.YtbfbokdccdagkaaGreatDoor
open Go.Sx Go.Our
def Zi9{α:Type}(f:α->List SV)(es k:Nat)(z:α)(n:Nat)(l:List α):SV->Hps->Nat->Prop:=fun r O nx=> ∃j,j+l.length<=n/\r= .sl (.loc k) 0 es l.length (some l.length)/\O=[(k, .rows es ((l++List.replicate j z).map f))]/\nx=k+1
end Go.Proofs.YtbfbokdccdagkaaGreatDoor
namespace Go.Proofs.YtbfbokdccdagkaaGreatDoor
open Go.Sx Go.Our Go.Sort Go.Shelf
open Tryz
def Z20:Plan:=(Zv [(0,1),(1,1),(2,1),(4,1),(5,1),(6,1),(7,1),(3,2),(8,2),(9,1)])
theorem ZaS(l:List (List UInt8))(n:Nat)(hn:n<=l.length)(hl:l.length*16<=140741783322624):Does prog tab 64 1 [.sl (.loc 0) 0 1 n none] [(0, .rows 1 (l.map Zb))] []
 (fun r O nx=>r= .sl (.loc 0) 0 1 n (some n)/\O=[(0, .rows 1 (l.map Zb))]/\nx=1):=by
 refine Does.enter Z1 call64 func64 rfl 9 rfl rfl [.tmp 2] rfl ?_;intro w0 F η0 h0;conv=>whnf
 repeat'((first|(refine NEED.mk ⟨by omega,by omega,by omega⟩ ?_;conv=>whnf)|refine AU ?_|(refine IW ?_ ?_<;>intro h<;>try(exfalso;omega)))<;>conv=>whnf)
 refine FIN.here h0 (rc:= .sl (.loc 0) 0 1 n (some n)) (Oc:=[(0, .rows 1 (l.map Zb))]) (by simp) rfl (by first|rfl|(simp only[Zn,Zm,Z4 _ (Zl _),Bool.and_self,Bool.and_true]<;>rfl)) ⟨rfl,trivial⟩ ⟨rfl,rfl,rfl⟩
theorem Z5M(l:List (List UInt8))(hl:l.length*16<=140741783322624):Does prog tab 65 1 [.sl (.loc 0) 0 1 l.length none] [(0, .rows 1 (l.map Zb))] []
 (fun r O nx=>r= .sl (.loc 0) 0 1 (Zf l).length none/\O=[(0, .rows 1 ((Zf l++List.replicate (l.length-(Zf l).length) ([]:List UInt8)).map Zb))]/\nx=1):=by
 have fin:∀{m:Nat},m=(Zf l).length->Zf l=l->(SV.sl (.loc 0) 0 1 l.length none=SV.sl (.loc 0) 0 1 (Zf l).length none)/\l.map Zb=(Zf l++List.replicate (l.length-(Zf l).length) ([]:List UInt8)).map Zb:=fun hm he=>by
  rw[he];simp
 refine Does.enter Z1 call65 func65 rfl 61 rfl rfl [.tmp 2] rfl ?_;intro w0 F η0 h0;conv=>whnf
 refine IF.mk (fun h=>?_) (fun h=>?_)
 ·have h:l.length<2:=by simp at h;omega
  obtain⟨f1,f2⟩:=fin rfl (Z3p h);conv=>whnf
  rw[f1,f2];refine FIN.here h0 (rc:= .sl (.loc 0) 0 1 (Zf l).length none) (Oc:=[(0, .rows 1 ((Zf l++List.replicate (l.length-(Zf l).length) ([]:List UInt8)).map Zb))]) rfl rfl (by first|rfl|(simp only[Zn,Zm,Z4 _ (Zl _),Bool.and_self,Bool.and_true]<;>rfl)) ⟨rfl,trivial⟩ ⟨rfl,rfl,rfl⟩
 have h2:2<=l.length:=by simp at h;omega
 clear h;conv=>whnf
 refine LOOP.go Z1 [0] (X:=Nat) (fun k=>1<=k/\k<=l.length/\Zf (l.take k)=l.take k) (fun k=>[(3, .int .i64 (k:Int))]) (fun k=>[(0, .rows 1 (l.map Zb))]) 1 (fun k=>l.length-k) 1 ⟨by omega,by omega,Z8o⟩ ?_;conv=>whnf
 refine⟨by exact GOES.cA h0,?_⟩;rintro k ⟨hk1,hkl,hk⟩;conv=>whnf
 rcases Nat.lt_or_ge k l.length with hlt|hge
 ·have hs:=UA hk1 hlt;have hk':(IntKind.i64.wrap ((k:Int)-1)).toNat=k-1:=by rw[Z9 (by omega) (by omega)];omega
  repeat'((first|refine DRAWN.of (id:=6) Z1 mixed Z20 (by kernel_rfl) ?_|refine DRAWN.of (id:=11) Z1 mixed Z20 (by kernel_rfl) ?_|refine ADD.mk (fun _ _=>?_)|refine AD ?_|refine FORK.mk ?_ ?_|(refine GET.at (row:=Zb (l[k]'(by omega))) (ZJ (by omega) (by omega)) ?_;conv=>whnf)|(refine GET.at (row:=Zb (l[k-1]'(by omega))) (ZJ (by omega) (by omega)) ?_;conv=>whnf)|refine AU ?_|(refine IW ?_ ?_<;>intro h<;>try(exfalso;omega)))<;>conv=>whnf)
  ·have heq:l[k]=l[k-1]:=id (h);rw[if_pos heq,hk]at hs;have hs0:(Zf (l.take (k+1))).length=k:=by rw[hs];simp;omega
   clear h heq;refine LOOP.go Z1 [0,4] (X:=Nat) (fun i=>k+1<=i/\i<=l.length/\(Zf (l.take i)).length+1<=i/\k<=(Zf (l.take i)).length) (fun i=>[(3, .int .i64 ((Zf (l.take i)).length:Int)),(5, .int .i64 ((i-k:Nat):Int))]) (fun i=>[(0, .rows 1 ((Zf (l.take i)++l.drop (Zf (l.take i)).length).map Zb))]) 1 (fun i=>l.length-i) (k+1) ⟨by omega,by omega,by omega,by omega⟩ ?_;conv=>whnf
   refine⟨by(refine GOES.cutting h0 rfl rfl rfl (by first|rfl|(simp only[Zn,Zm,Z4 _ (Zl _),Bool.and_self,Bool.and_true]<;>rfl)) ?_ ?_<;>(repeat'(first|(with_reducible rfl)|(exact X2 rfl (by first|(simp;done)|omega|(simp;omega)))|(exact congrArg (SV.int _) (by first|omega|(simp(disch:=omega) only[lnB,Z9,Zq]<;>omega)|(simp;done)|(simp<;>omega)))|(exact congrArg (Hp.rows _) (by(rw[hs,List.length_take,Nat.min_eq_left hkl,List.take_append_drop])))|((conv=>whnf);refine⟨?_,?_⟩)|exact trivial|rfl))),?_⟩;rintro i ⟨hi1,hi2,hi3,hi4⟩;obtain⟨C,hC⟩:∃C,C=Zf (l.take i):=⟨_,rfl⟩;have hsi:=fun h=>UA (l:=l) (i:=i) (by omega) h;rw[<-hC]at hi3 hi4 hsi;dsimp only;rw[<-hC];conv=>whnf
   rcases Nat.lt_or_ge i l.length with hil|hil
   ·have hsi:=hsi hil;have hwr:IntKind.i64.wrap (((i-k:Nat):Int)-1)=((i-1-k:Nat):Int):=by rw[Z9 (by omega) (by omega)];omega
    have hg1:((C++l.drop C.length).map Zb)[i]?=some (Zb l[i]):=ZcO Zb (by omega) hil;have hg2:((C++l.drop C.length).map Zb)[i-1]?=some (Zb (l[i-1]'(by omega))):=ZcO Zb (by omega) (by omega);have hg3:((C++l.drop C.length).map Zb)[C.length]?=some (Zb (l[C.length]'(by omega))):=ZcO Zb (Nat.le_refl _) (by omega);repeat'((first|refine DRAWN.of (id:=6) Z1 mixed Z20 (by kernel_rfl) ?_|refine DRAWN.of (id:=11) Z1 mixed Z20 (by kernel_rfl) ?_|refine ADD.mk (fun _ _=>?_)|refine AD ?_|refine FORK.mk ?_ ?_|(refine GET.at (row:=Zb (l[i]'(by omega))) (ZgZ hg1 (by omega)) ?_;conv=>whnf)|(refine GET.at (row:=Zb (l[i-1]'(by omega))) (ZgZ hg2 (by rw[hwr];omega)) ?_;conv=>whnf)|(refine GET.at (row:=Zb (l[C.length]'(by omega))) (ZgZ hg3 (by omega)) ?_;conv=>whnf)|refine AU ?_|(refine IW ?_ ?_<;>intro h<;>try(exfalso;omega)))<;>conv=>whnf)
    ·have hne:¬l[i]=l[i-1]'(by omega):=fun he=>by rw[he]at h;simp at h
     rw[if_neg hne]at hsi;refine⟨i+1,⟨by omega,by omega,by rw[hsi,List.length_append];simp;omega,by rw[hsi,List.length_append];simp;omega⟩,by omega,?_⟩;rw[hsi];conv=>whnf
     (refine GOES.cutting h0 rfl rfl rfl (by first|rfl|(simp only[Zn,Zm,Z4 _ (Zl _),Bool.and_self,Bool.and_true]<;>rfl)) ?_ ?_<;>(repeat'(first|(with_reducible rfl)|(exact X2 rfl (by first|(simp;done)|omega|(simp;omega)))|(exact congrArg (SV.int _) (by first|omega|(simp(disch:=omega) only[lnB,Z9,Zq]<;>omega)|(simp;done)|(simp<;>omega)))|(exact congrArg (Hp.rows _) (by(first|(simp only[Nat.zero_add,Int.toNat_natCast];exact ZgY Zb _ (by omega))|rfl)))|((conv=>whnf);refine⟨?_,?_⟩)|exact trivial|rfl)))
    ·have heq:l[i]=l[i-1]'(by omega):=id (h);rw[if_pos heq]at hsi;refine⟨i+1,⟨by omega,by omega,by rw[hsi];omega,by rw[hsi];omega⟩,by omega,?_⟩;rw[hsi];conv=>whnf
     exact GOES.cA h0
   ·have hCl:C=Zf l:=by rw[hC,List.take_of_length_le hil]
    have hcl:C.length<=l.length:=by omega
    repeat'((first|(refine NEED.mk (by simp only[List.length_map,List.length_append,List.length_drop];omega) ?_;conv=>whnf)|(refine NEED.mk ⟨by omega,Z5A (by omega)⟩ ?_;conv=>whnf)|refine AU ?_|(refine IW ?_ ?_<;>intro h<;>try(exfalso;omega)))<;>conv=>whnf)
    rw[<-hCl];refine FIN.here h0 (rc:= .sl (.loc 0) 0 1 C.length none) (Oc:=[(0, .rows 1 ((C++List.replicate (l.length-C.length) ([]:List UInt8)).map Zb))]) (by simp) rfl (by first|rfl|(simp only[Zn,Zm,Z4 _ (Zl _),Bool.and_self,Bool.and_true]<;>rfl)) ⟨?_,trivial⟩ ⟨rfl,rfl,rfl⟩;refine congrArg (Hp.rows 1) ?_;simp only[Nat.zero_add,Int.toNat_natCast];exact ZcP Zb ([]:List UInt8) hcl
  ·have hne:¬l[k]=l[k-1]:=fun he=>by rw[he]at h;simp at h
   rw[if_neg hne,hk]at hs;refine⟨k+1,⟨by omega,by omega,by rw[hs,List.take_succ_eq_append_getElem hlt]⟩,by omega,?_⟩;conv=>whnf
   exact GOES.cA h0
 ·have hkn:k=l.length:=by omega
  rw[hkn,List.take_of_length_le (Nat.le_refl _)]at hk;obtain⟨f1,f2⟩:=fin rfl hk;repeat'((first|refine AU ?_|(refine IW ?_ ?_<;>intro h<;>try(exfalso;omega)))<;>conv=>whnf)
  rw[f1,f2];refine FIN.here h0 (rc:= .sl (.loc 0) 0 1 (Zf l).length none) (Oc:=[(0, .rows 1 ((Zf l++List.replicate (l.length-(Zf l).length) ([]:List UInt8)).map Zb))]) rfl rfl (by first|rfl|(simp only[Zn,Zm,Z4 _ (Zl _),Bool.and_self,Bool.and_true]<;>rfl)) ⟨rfl,trivial⟩ ⟨rfl,rfl,rfl⟩
def ZaT:Go.Shelf.Ren:=⟨fun|190=>63|125=>90|258=>89|128=>122|129=>123|302=>113|303=>114|304=>115|305=>116|306=>117|307=>118|308=>119|309=>120|310=>121|333=>141|329=>142|330=>143|334=>144|335=>145|336=>146|344=>174|n=>n,fun|31=>29|9=>9|3=>3|46=>135|0=>0|51=>169|53=>104|4=>4|183=>162|182=>161|131=>114|5=>5|218=>198|222=>202|228=>223|229=>119|n=>n,fun|n=>n⟩
theorem Zia:Go.Proofs.Lays.n190 prog ZaT where
 mixed:=by kernel_rfl
 f125:=func90.trans (congrArg some (by kernel_rfl))
 f128:=func122.trans (congrArg some (by kernel_rfl))
 f129:=func123.trans (congrArg some (by kernel_rfl))
 f190:=func63.trans (congrArg some (by kernel_rfl))
 f258:=func89.trans (congrArg some (by kernel_rfl))
 f302:=func113.trans (congrArg some (by kernel_rfl))
 f303:=func114.trans (congrArg some (by kernel_rfl))
 f304:=func115.trans (congrArg some (by kernel_rfl))
 f305:=func116.trans (congrArg some (by kernel_rfl))
 f306:=func117.trans (congrArg some (by kernel_rfl))
 f307:=func118.trans (congrArg some (by kernel_rfl))
 f308:=func119.trans (congrArg some (by kernel_rfl))
 f309:=func120.trans (congrArg some (by kernel_rfl))
 f310:=func121.trans (congrArg some (by kernel_rfl))
 f329:=func142.trans (congrArg some (by kernel_rfl))
 f330:=func143.trans (congrArg some (by kernel_rfl))
 f333:=func141.trans (congrArg some (by kernel_rfl))
 f334:=func144.trans (congrArg some (by kernel_rfl))
 f335:=func145.trans (congrArg some (by kernel_rfl))
 f336:=func146.trans (congrArg some (by kernel_rfl))
 f344:=func174.trans (congrArg some (by kernel_rfl))
 t0:=underlying0
 a0:=isAgg0
 z0:=sizeOf0
 v0:=zeroValue0
 t3:=underlying3
 a3:=isAgg3
 z3:=sizeOf3
 v3:=zeroValue3
 t4:=underlying4
 a4:=isAgg4
 z4:=sizeOf4
 v4:=zeroValue4
 t5:=underlying5
 a5:=isAgg5
 z5:=sizeOf5
 v5:=zeroValue5
 t9:=underlying9
 a9:=isAgg9
 z9:=sizeOf9
 v9:=zeroValue9
 t31:=underlying29
 a31:=isAgg29
 z31:=sizeOf29
 v31:=zeroValue29
 t46:=underlying135
 a46:=isAgg135
 z46:=sizeOf135
 v46:=zeroValue135
 t51:=underlying169
 a51:=isAgg169
 z51:=sizeOf169
 v51:=zeroValue169
 t53:=underlying104
 a53:=isAgg104
 z53:=sizeOf104
 v53:=zeroValue104
 t131:=underlying114
 a131:=isAgg114
 z131:=sizeOf114
 v131:=zeroValue114
 t182:=underlying161
 a182:=isAgg161
 z182:=sizeOf161
 v182:=zeroValue161
 t183:=underlying162
 a183:=isAgg162
 z183:=sizeOf162
 v183:=zeroValue162
 t218:=underlying198
 a218:=isAgg198
 z218:=sizeOf198
 v218:=zeroValue198
 t222:=underlying202
 a222:=isAgg202
 z222:=sizeOf202
 v222:=zeroValue202
 t228:=underlying223
 a228:=isAgg223
 z228:=sizeOf223
 v228:=zeroValue223
 t229:=underlying119
 a229:=isAgg119
 z229:=sizeOf119
 v229:=zeroValue119
theorem Z4V(l:List (List UInt8))(hl:l.length*16<=140737488351232):Does prog tab 63 1 [.sl (.loc 0) 0 1 l.length none] [(0, .rows 1 (l.map Zb))] []
 (fun r O nx=>r= .tup []/\O=[(0, .rows 1 ((l.mergeSort (leC cmpL)).map Zb))]/\nx=1):=
 Z76 Zia call63 l (by omega)
end Go.Proofs.YtbfbokdccdagkaaGreatDoor
namespace Go.Proofs.YtbfbokdccdagkaaGreatDoor
open Go.Sx Go.Our
open Tryz
def Z9L:Plan:=(Zv [(0,1),(1,1),(2,1),(3,1),(4,1),(5,1),(6,1),(7,1),(8,2),(9,2),(10,3),(11,1),(12,1)])
def Z9M:Plan:=(Zv [(0,1),(1,1),(2,1),(3,1),(4,1),(5,1),(6,1),(7,1),(8,1),(13,1),(9,2),(10,2),(11,1),(12,1),(14,1)])
theorem Z78{l z:List Qd}{i:Nat}{k:Nat}(h:i<l.length)(e:k=i):((l++z).map Zj)[k]?=some (Zj l[i]):=by subst e;exact J5 h
theorem Z9N{l:List Qd}{q:Qd}{n:Nat}(hn:n=JV Ju l q):Z72 Ju l q=if h:n<l.length then decide (l[n]=q)else false:=by
 subst hn;unfold Z72;split
 ·rename_i h;rw[List.getElem?_eq_getElem h];simp
 ·rename_i h;rw[List.getElem?_eq_none (by omega)];simp
theorem Z8w(l z:List Qd)(q:Qd)(lim:Option Nat)(hz:(l++z).length*224<=281474976710656):Does prog tab 107 1 [.sl (.loc 0) 0 16 l.length lim, .agg (Zj q)] [] [(0, .rows 16 ((l++z).map Zj))]
 (fun r O nx=> ∃n b,(Rise Ju l->n=JV Ju l q/\b=Z72 Ju l q)/\r= .tup [.int .i64 (n:Nat), .bool b]/\O=[]/\nx=1):=by
 have hz1:(l++z).length=l.length+z.length:=List.length_append;refine Does.enter Z1 call107 func107 rfl 35 rfl rfl [.tmp 4, .tmp 5] rfl ?_;intro w0 F η0 h0;conv=>whnf
 repeat'((first|refine AU ?_|(refine IW ?_ ?_<;>intro h<;>try(exfalso;omega)))<;>conv=>whnf)
 refine LOOP.go Z1 [0,3] (X:=Nat) (fun n=>n<=l.length/\∀k (hk:k<l.length),k<n->Ju l[k] q<0) (fun n=>[(6, .int .i64 (n:Int))]) (fun n=>[(1, .box (Zj q))]) 2 (fun n=>l.length-n) 0 ⟨by omega,fun k _ h=>by omega⟩ ?_;conv=>whnf
 refine⟨by exact GOES.cA h0,?_⟩;rintro n ⟨hn,hlow⟩;conv=>whnf
 rcases Nat.lt_or_ge n l.length with hnl|hnl
 ·repeat'((first|refine DRAWN.of (id:=2) Z1 mixed Z9L (by kernel_rfl) ?_|refine DRAWN.of (id:=4) Z1 mixed Z9M (by kernel_rfl) ?_|refine ADD.mk (fun _ _=>?_)|refine AD ?_|refine FORK.mk ?_ ?_|refine CALL.value (Z3q _ _) rfl rfl ?_|(refine GET.at (row:=Zj (l[n]'(by omega))) (Z78 (by omega) (by omega)) ?_;conv=>whnf)|refine AU ?_|(refine IW ?_ ?_<;>intro h<;>try(exfalso;omega)))<;>conv=>whnf)
  ·refine⟨n+1,⟨by omega,fun k hk hkn=>?_⟩,by omega,?_⟩
   ·rcases Nat.lt_or_eq_of_le (Nat.le_of_lt_succ hkn)with h1|rfl
    ·exact hlow k hk h1
    ·exact h
   ·conv=>whnf
    exact GOES.cA h0
  all_goals
   refine FIN.val h0 rfl ⟨n,_,fun hr=>?_,rfl,rfl,rfl⟩;have hpl:n=JV Ju l q:=Z5G triQ (by omega) hlow fun k hk hnk=>ZaM triQ hr hnk hk (by omega);refine⟨hpl,?_⟩;rw[Z9N hpl,dif_pos hnl];by_cases he:l[n]=q
   ·rw[decide_eq_true he,he];simp
   ·rw[decide_eq_false he,Bool.eq_false_iff];intro hc;exact he (Qd.ext' (by simp only[Zj,Qd.row,List.cons.injEq,SV.int.injEq,SV.str.injEq,true_and,and_true];simpa using hc))
 ·repeat'((first|refine DRAWN.of (id:=2) Z1 mixed Z9L (by kernel_rfl) ?_|refine DRAWN.of (id:=4) Z1 mixed Z9M (by kernel_rfl) ?_|refine ADD.mk (fun _ _=>?_)|refine AD ?_|refine FORK.mk ?_ ?_|refine AU ?_|(refine IW ?_ ?_<;>intro h<;>try(exfalso;omega)))<;>conv=>whnf)
  refine FIN.val h0 rfl ⟨n,_,fun hr=>?_,rfl,rfl,rfl⟩;have hpl:n=JV Ju l q:=Z5G triQ (by omega) hlow fun k hk hnk=>by omega
  exact⟨hpl,by rw[Z9N hpl,dif_neg (by omega)]⟩
open Tryz
def ZeS:Plan:=(Zv [(0,1),(1,1),(2,1),(3,1),(4,1),(5,1),(6,1),(7,1),(8,1),(9,1),(10,1),(11,1),(12,1),(13,0)])
theorem ZcQ(q:Qd):Does prog tab 62 1 [.ptr (.loc 0) 0 0 0] [] [(0, .box (Zj q))] (ValK 1 (.arr 1 [[.ptr (.loc 0) 0 0 0],[.ptr (.loc 0) 0 0 4],[.ptr (.loc 0) 0 0 8],[.ptr (.loc 0) 0 0 12]])):=by
 refine Does.enter Z1 call62 func62 rfl 16 rfl rfl [.cell 2 106] rfl ?_;intro w0 F η0 h0;conv=>whnf
 repeat'((first|refine DRAWN.of (id:=1) Z1 mixed ZeS (by kernel_rfl) ?_|refine ADD.mk (fun _ _=>?_)|refine AD ?_|refine FORK.mk ?_ ?_|refine AU ?_|(refine IW ?_ ?_<;>intro h<;>try(exfalso;omega)))<;>conv=>whnf)
 exact FIN.here h0 (rc:= .arr 1 [[.ptr (.loc 0) 0 0 0],[.ptr (.loc 0) 0 0 4],[.ptr (.loc 0) 0 0 8],[.ptr (.loc 0) 0 0 12]]) (Oc:=[]) rfl rfl rfl trivial ⟨rfl,rfl,rfl⟩
open Tryz
theorem Zd1(c:Int)(hc:0<=c/\c<256):Does prog tab 197 0 [.int .u8 c] [] [] (Val (.tup [.int .i64 (Z4c c).1, .int .i32 (Z4c c).2])):=by
 refine Does.enter Z1 call197 func197 rfl 30 rfl rfl [.tmp 2, .tmp 3] rfl ?_;intro w0 F η0 h0;conv=>whnf
 repeat'((first|refine AU ?_|(refine IW ?_ ?_<;>intro h<;>try(exfalso;omega)))<;>conv=>whnf)
 all_goals (refine FIN.value h0 rfl ?_;unfold Z4c;(first|(simp(disch:=omega) only[↓if_pos,↓if_neg,ite_self,Z9,Zq,Int.reduceAdd,Int.reduceSub,Int.reduceMul,Int.reduceNeg,Zi4,Zi5,and7];done)|(simp(disch:=omega) only[↓if_pos,↓if_neg,ite_self,Z9,Zq,Int.reduceAdd,Int.reduceSub,Int.reduceMul,Int.reduceNeg,Zi4,Zi5,and7];with_reducible rfl)))
theorem Z8F(r:Int):Does prog tab 199 0 [.int .i32 r] [] [] (Val (.bool (U8 r))):=by
 refine Does.enter Z1 call199 func199 rfl 17 rfl rfl [.tmp 2] rfl ?_;intro w0 F η0 h0;conv=>whnf
 repeat'((first|refine AU ?_|(refine IW ?_ ?_<;>intro h<;>try(exfalso;omega)))<;>conv=>whnf)
 refine FIN.value h0 rfl (congrArg SV.bool ?_);rw[Bool.eq_iff_iff,YJ];simp only[Bool.cond_eq_ite,decide_eq_true_eq,Bool.if_false_right,Bool.if_true_left,Bool.and_eq_true,Bool.or_eq_true];omega
theorem Zb4(n:Int)(hn:0<=n/\n<5):Does prog tab 198 0 [.int .i64 n] [] [] (Val (.int .i32 (Z6X n))):=by
 have hn:n=0\/n=1\/n=2\/n=3\/n=4:=by omega
 rcases hn with rfl|rfl|rfl|rfl|rfl
 all_goals
  refine Does.enter Z1 call198 func198 rfl 6 rfl rfl [.tmp 2] rfl ?_;intro w0 F η0 h0;conv=>whnf
  repeat'((first|refine AU ?_|(refine IW ?_ ?_<;>intro h<;>try(exfalso;omega)))<;>conv=>whnf)
  exact FIN.value h0 rfl rfl
theorem Zh5{c:Int}{n r:Int}(hc:0<=c/\c<256)(h:Z4c c=(n,r)):Does prog tab 197 0 [.int .u8 c] [] [] (Val (.tup [.int .i64 n, .int .i32 r])):=by
 have:=Zd1 c hc;rw[h]at this;exact this
theorem Z3C(s:List UInt8)(i:Int)(hs:Sm s):Does prog tab 165 0 [.str s, .int .i64 i] [] [] (Val (.tup [.int .i32 (Za s i).1, .int .i64 (Za s i).2])):=by
 refine Does.enter Z1 call165 func165 rfl 65 rfl rfl [.tmp 4, .tmp 5] rfl ?_;intro w0 F η0 h0;conv=>whnf
 repeat'((first|refine AU ?_|(refine IW ?_ ?_<;>intro h<;>try(exfalso;omega)))<;>conv=>whnf)
 ·refine FIN.value h0 rfl ?_;unfold Za;rw[if_pos h]
 ·have e0:=ZI s i;have e1:=ZI s (i+1);have e2:=ZI s (i+2);have e3:=ZI s (i+3);have hl:=Z8g (Z2 s i);rcases hl with⟨hb,hl⟩|⟨hb,hl⟩|⟨hb,hl⟩|⟨hb,hl⟩|⟨hb,hl⟩
  all_goals
   refine CALL.value (Zh5 e0 hl) rfl rfl ?_;conv=>whnf
   repeat'((first|refine CALL.value (Zb4 _ (by omega)) rfl rfl ?_|(refine LOOP.once Z1 ?_;conv=>whnf)|refine CALL.value (Z8F _) rfl rfl ?_|refine AU ?_|(refine IW ?_ ?_<;>intro h<;>try(exfalso;omega)))<;>conv=>whnf)
  all_goals
   refine FIN.value h0 rfl ?_;unfold Za decB r2 r3 r4;try simp(disch:=omega) only[or6,Zi6,ZgP,ZgQ,ZgR,ZgS,YJ,Z09]at*
   (simp(disch:=omega) only[↓if_pos,↓if_neg,ite_self,Z9,Zq,Int.reduceAdd,Int.reduceSub,Int.reduceMul,Int.reduceNeg,or6])
theorem Z52(s:List UInt8)(hs:Sm s):Does prog tab 135 0 [.str s] [] [] (Val (.int .i64 (chk s 0))):=by
 refine Does.enter Z1 call135 func135 rfl 22 rfl rfl [.tmp 2] rfl ?_;intro w0 F η0 h0;conv=>whnf
 refine LOOP.go Z1 [0] (X:=Nat) (fun i=>i<=s.length/\chk s i=chk s 0) (fun i=>[(3, .int .i64 (i:Int))]) (fun _=>[]) 0 (fun i=>s.length-i) 0 ⟨by omega,rfl⟩ ?_;conv=>whnf
 refine⟨by exact GOES.cA h0,?_⟩;rintro i ⟨hi,hc⟩;conv=>whnf
 have hn:=YL s i;repeat'((first|refine CALL.value (Z3C s _ hs) rfl rfl ?_|refine AU ?_|(refine IW ?_ ?_<;>intro h<;>try(exfalso;omega)))<;>conv=>whnf)
 ·have hz:(Za s i).2=0:=h;refine FIN.value h0 rfl ?_;rw[<-hc,Z5B (by omega) hz]
 ·rename_i h1;refine⟨i+(Za s i).2.toNat,⟨by omega,?_⟩,by omega,?_⟩
  ·rw[<-hc,<-Z1W (by omega) h]
  ·conv=>whnf
   exact GOES.cA h0
 ·refine FIN.value h0 rfl ?_;rw[<-hc,Z8f (by omega)]
open Tryz
def Z25:Plan:=(Zv [(0,1),(1,1),(4,1),(5,1),(6,1),(2,2),(3,1),(7,2),(8,1),(9,1)])
def Z26:Plan:=(Zv [(0,1),(1,1),(2,1),(3,1),(6,1),(7,2),(4,3),(5,2),(8,1),(9,1)])
theorem Xo(r:Int):Does prog tab 252 0 [.int .i64 r] [] [] (Val (.bool (U8 r))):=by
 refine Does.enter Z1 call252 func252 rfl 17 rfl rfl [.tmp 2] rfl ?_;intro w0 F η0 h0;conv=>whnf
 repeat'((first|refine AU ?_|(refine IW ?_ ?_<;>intro h<;>try(exfalso;omega)))<;>conv=>whnf)
 refine FIN.value h0 rfl (congrArg SV.bool ?_);rw[Bool.eq_iff_iff,YJ];simp only[Bool.cond_eq_ite,decide_eq_true_eq,Bool.if_false_right,Bool.if_true_left,Bool.and_eq_true,Bool.or_eq_true];omega
theorem XN(r:Int)(hr:0<=r/\r<=1114111):Does prog tab 253 0 [.int .i64 r] [] [] (Z9z 0 (encM r)):=by
 refine Does.enter Z1 call253 func253 rfl 57 rfl rfl [.tmp 2] rfl ?_;intro w0 F η0 h0;conv=>whnf
 repeat'((first|refine AU ?_|(refine IW ?_ ?_<;>intro h<;>try(exfalso;omega)))<;>conv=>whnf)
 all_goals
  refine FIN.rows h0 0 1 _ rfl rfl rfl rfl ?_;unfold encM Go.Our.encI;simp(disch:=omega) only[↓if_pos,↓if_neg,List.map_cons,List.map_nil,Zgb,Z9,Zj9,Zja];refine⟨rfl,?_,rfl⟩;simp(disch:=omega) only[List.map_cons,List.map_nil,<-Z8x]
theorem Z8G(a:UInt8):Does prog tab 239 1 [.sl (.loc 0) 0 1 1 none] [] [(0, .rows 1 ([a].map Sx.bytesRow))] (ValK 1 (.int .i64 (Y9 [a]))):=by
 have ha:=a.toNat_lt;refine Does.enter Z1 call239 func239 rfl 45 rfl rfl [.tmp 2] rfl ?_;intro w0 F η0 h0;conv=>whnf
 repeat'((first|refine DRAWN.of (id:=2) Z1 mixed Z25 (by kernel_rfl) ?_|refine DRAWN.of (id:=8) Z1 mixed Z26 (by kernel_rfl) ?_|refine ADD.mk (fun _ _=>?_)|refine AD ?_|refine FORK.mk ?_ ?_|refine CALL.value (Xo _) rfl rfl ?_|(refine LOOP.once Z1 ?_;conv=>whnf)|(refine CALL.bytes (XN _ (by simp(disch:=omega) only[YJ,Z9,Int.sub_zero]at*;omega)) rfl ?_;conv=>whnf)|(refine NEED.mk (U7 (by simp)) ?_;conv=>whnf)|refine AU ?_|(refine IW ?_ ?_<;>intro h<;>try(exfalso;omega)))<;>conv=>whnf)
 all_goals
  refine FIN.valueK h0 rfl (congrArg (SV.int _) ?_);simp(disch:=omega) only[Z9,Int.sub_zero,List.drop_zero,<-List.map_take,Zcp,List.take_length,List.take_succ_cons,List.take_zero,U8,decide_eq_true_eq,decide_eq_false_iff_not]at*
  simp_all[Y9,rawM,bn]
theorem Z8H(a b:UInt8):Does prog tab 239 1 [.sl (.loc 0) 0 1 2 none] [] [(0, .rows 1 ([a,b].map Sx.bytesRow))] (ValK 1 (.int .i64 (Y9 [a,b]))):=by
 have ha:=a.toNat_lt;have hb:=b.toNat_lt;refine Does.enter Z1 call239 func239 rfl 45 rfl rfl [.tmp 2] rfl ?_;intro w0 F η0 h0;conv=>whnf
 repeat'((first|refine DRAWN.of (id:=2) Z1 mixed Z25 (by kernel_rfl) ?_|refine DRAWN.of (id:=8) Z1 mixed Z26 (by kernel_rfl) ?_|refine ADD.mk (fun _ _=>?_)|refine AD ?_|refine FORK.mk ?_ ?_|refine CALL.value (Xo _) rfl rfl ?_|(refine LOOP.once Z1 ?_;conv=>whnf)|(refine CALL.bytes (XN _ (by simp(disch:=omega) only[YJ,Z9,Int.sub_zero]at*;omega)) rfl ?_;conv=>whnf)|(refine NEED.mk (U7 (by simp)) ?_;conv=>whnf)|refine AU ?_|(refine IW ?_ ?_<;>intro h<;>try(exfalso;omega)))<;>conv=>whnf)
 all_goals
  refine FIN.valueK h0 rfl (congrArg (SV.int _) ?_);simp(disch:=omega) only[Z9,Int.sub_zero,List.drop_zero,<-List.map_take,Zcp,List.take_length,List.take_succ_cons,List.take_zero,U8,decide_eq_true_eq,decide_eq_false_iff_not]at*
  simp_all[Y9,rawM,bn]
theorem Z8I(a b c:UInt8):Does prog tab 239 1 [.sl (.loc 0) 0 1 3 none] [] [(0, .rows 1 ([a,b,c].map Sx.bytesRow))] (ValK 1 (.int .i64 (Y9 [a,b,c]))):=by
 have ha:=a.toNat_lt;have hb:=b.toNat_lt;have hc:=c.toNat_lt;refine Does.enter Z1 call239 func239 rfl 45 rfl rfl [.tmp 2] rfl ?_;intro w0 F η0 h0;conv=>whnf
 repeat'((first|refine DRAWN.of (id:=2) Z1 mixed Z25 (by kernel_rfl) ?_|refine DRAWN.of (id:=8) Z1 mixed Z26 (by kernel_rfl) ?_|refine ADD.mk (fun _ _=>?_)|refine AD ?_|refine FORK.mk ?_ ?_|refine CALL.value (Xo _) rfl rfl ?_|(refine LOOP.once Z1 ?_;conv=>whnf)|(refine CALL.bytes (XN _ (by simp(disch:=omega) only[YJ,Z9,Int.sub_zero]at*;omega)) rfl ?_;conv=>whnf)|(refine NEED.mk (U7 (by simp)) ?_;conv=>whnf)|refine AU ?_|(refine IW ?_ ?_<;>intro h<;>try(exfalso;omega)))<;>conv=>whnf)
 all_goals
  refine FIN.valueK h0 rfl (congrArg (SV.int _) ?_);simp(disch:=omega) only[Z9,Int.sub_zero,List.drop_zero,<-List.map_take,Zcp,List.take_length,List.take_succ_cons,List.take_zero,U8,decide_eq_true_eq,decide_eq_false_iff_not]at*
  simp_all[Y9,rawM,bn]
theorem Z8J(a b c d:UInt8):Does prog tab 239 1 [.sl (.loc 0) 0 1 4 none] [] [(0, .rows 1 ([a,b,c,d].map Sx.bytesRow))] (ValK 1 (.int .i64 (Y9 [a,b,c,d]))):=by
 have ha:=a.toNat_lt;have hb:=b.toNat_lt;have hc:=c.toNat_lt;have hd:=d.toNat_lt;refine Does.enter Z1 call239 func239 rfl 45 rfl rfl [.tmp 2] rfl ?_;intro w0 F η0 h0;conv=>whnf
 repeat'((first|refine DRAWN.of (id:=2) Z1 mixed Z25 (by kernel_rfl) ?_|refine DRAWN.of (id:=8) Z1 mixed Z26 (by kernel_rfl) ?_|refine ADD.mk (fun _ _=>?_)|refine AD ?_|refine FORK.mk ?_ ?_|refine CALL.value (Xo _) rfl rfl ?_|(refine LOOP.once Z1 ?_;conv=>whnf)|(refine CALL.bytes (XN _ (by simp(disch:=omega) only[YJ,Z9,Int.sub_zero]at*;omega)) rfl ?_;conv=>whnf)|(refine NEED.mk (U7 (by simp)) ?_;conv=>whnf)|refine AU ?_|(refine IW ?_ ?_<;>intro h<;>try(exfalso;omega)))<;>conv=>whnf)
 all_goals
  refine FIN.valueK h0 rfl (congrArg (SV.int _) ?_);simp(disch:=omega) only[Z9,Int.sub_zero,List.drop_zero,<-List.map_take,Zcp,List.take_length,List.take_succ_cons,List.take_zero,U8,decide_eq_true_eq,decide_eq_false_iff_not]at*
  simp_all[Y9,rawM,bn]
theorem Zb5(l:List UInt8)(hl:1<=l.length/\l.length<=4):Does prog tab 239 1 [.sl (.loc 0) 0 1 l.length none] [] [(0, .rows 1 (l.map Sx.bytesRow))] (ValK 1 (.int .i64 (Y9 l))):=by
 match l,hl with
 | [a],_=>exact Z8G a
 | [a,b],_=>exact Z8H a b
 | [a,b,c],_=>exact Z8I a b c
 | [a,b,c,d],_=>exact Z8J a b c d
 | [],h=>simp at h
 |_::_::_::_::_::_,h=>simp at h
theorem Wo(s:List UInt8)(i:Int)(hs:Sm s):Does prog tab 218 0 [.str s, .int .i64 i] [] [] (Val (.tup [.int .i64 (Za s i).1, .int .i64 (Za s i).2])):=by
 refine Does.enter Z1 call218 func218 rfl 40 rfl rfl [.tmp 4, .tmp 5] rfl ?_;intro w0 F η0 h0;conv=>whnf
 repeat'((first|(refine LOOP.once Z1 ?_;conv=>whnf)|(refine CALL.look1 _ (Zb5 _ (by simp(disch:=omega) only[Z9,List.length_take,List.length_drop];omega)) rfl rfl rfl rfl (Xv _) rfl ?_;conv=>whnf)|refine AU ?_|(refine IW ?_ ?_<;>intro h<;>try(exfalso;omega)))<;>conv=>whnf)
 all_goals
  refine FIN.value h0 rfl ?_
  first
   |(unfold Za;rw[if_pos (by assumption)])
   |(rw[Z7d (by omega)];simp(disch:=omega) only[↓if_pos,↓if_neg,Z9,Int.reduceAdd])
theorem UF(s:List UInt8)(hs:Sm s):Does prog tab 190 0 [.str s] [] [] (Val (.int .i64 (chk s 0))):=by
 refine Does.enter Z1 call190 func190 rfl 22 rfl rfl [.tmp 2] rfl ?_;intro w0 F η0 h0;conv=>whnf
 refine LOOP.go Z1 [0] (X:=Nat) (fun i=>i<=s.length/\chk s i=chk s 0) (fun i=>[(3, .int .i64 (i:Int))]) (fun _=>[]) 0 (fun i=>s.length-i) 0 ⟨by omega,rfl⟩ ?_;conv=>whnf
 refine⟨by exact GOES.cA h0,?_⟩;rintro i ⟨hi,hc⟩;conv=>whnf
 have hn:=YL s i;repeat'((first|refine CALL.value (Wo s _ hs) rfl rfl ?_|refine AU ?_|(refine IW ?_ ?_<;>intro h<;>try(exfalso;omega)))<;>conv=>whnf)
 ·have hz:(Za s i).2=0:=h;refine FIN.value h0 rfl ?_;rw[<-hc,Z5B (by omega) hz]
 ·rename_i h1;refine⟨i+(Za s i).2.toNat,⟨by omega,?_⟩,by omega,?_⟩
  ·rw[<-hc,<-Z1W (by omega) h]
  ·conv=>whnf
   exact GOES.cA h0
 ·refine FIN.value h0 rfl ?_;rw[<-hc,Z8f (by omega)]
open Tryz
theorem Jz(s:List UInt8)(c:Int):Does prog tab 257 0 [.str s, .int .u8 c] [] [] (Val (.int .i64 (Lib.indexByte s c.toNat.toUInt8))):=by
 refine Does.says fun η w vs hd=>?_;simp only[DenL,Den]at hd;obtain⟨u,us,rfl,rfl,u',us',rfl,rfl,rfl⟩:=hd;refine⟨_,?_,rfl⟩;rw[run_callFunc_extern func257 (by kernel_rfl) (by kernel_rfl) (by kernel_rfl) (e:=Extern.BytealgIndexByte.indexByte) (by kernel_rfl),Lib.run_indexByteString]
 rfl
theorem Uj(s:List UInt8)(c:Int):Does prog tab 254 0 [.str s, .int .u8 c] [] [] (Val (.int .i64 (Lib.indexByte s c.toNat.toUInt8))):=by
 refine Does.enter Z1 call254 func254 rfl 8 rfl rfl [.tmp 4] rfl ?_;intro w0 F η0 h0;conv=>whnf
 repeat'((first|refine CALL.value (Jz _ _) rfl rfl ?_|refine AU ?_|(refine IW ?_ ?_<;>intro h<;>try(exfalso;omega)))<;>conv=>whnf)
 exact FIN.value h0 rfl rfl
theorem VA(s:List UInt8)(c:Int):Does prog tab 244 0 [.str s, .int .u8 c] [] [] (Val (.int .i64 (Lib.indexByte s c.toNat.toUInt8))):=by
 refine Does.enter Z1 call244 func244 rfl 8 rfl rfl [.tmp 4] rfl ?_;intro w0 F η0 h0;conv=>whnf
 repeat'((first|refine CALL.value (Uj _ _) rfl rfl ?_|refine AU ?_|(refine IW ?_ ?_<;>intro h<;>try(exfalso;omega)))<;>conv=>whnf)
 exact FIN.value h0 rfl rfl
theorem Z4f(r:Int):Does prog tab 245 0 [.int .i32 r] [] [] (Val (.bool (U8 r))):=by
 refine Does.enter Z1 call245 func245 rfl 17 rfl rfl [.tmp 2] rfl ?_;intro w0 F η0 h0;conv=>whnf
 repeat'((first|refine AU ?_|(refine IW ?_ ?_<;>intro h<;>try(exfalso;omega)))<;>conv=>whnf)
 all_goals
  refine FIN.value h0 rfl (congrArg SV.bool ?_);rw[Bool.eq_iff_iff,YJ];simp;try omega
theorem Z7m(g:Nat)(p:Int->Bool)(hp:∀r:Int,Yh r->Does prog tab g 0 [.int .i32 r] [] [] (Val (.bool (p r))))(s:List UInt8)(hs:Sm s):Does prog tab 192 0 [.str s, .fn (.func g) [] [], .bool true] [] [] (Val (.int .i64 (idxF p s 0))):=by
 refine Does.enter Z1 call192 func192 rfl 21 rfl rfl [.tmp 6] rfl ?_;intro w0 F η0 h0;conv=>whnf
 refine LOOP.go Z1 [1,2,10] (X:=Nat) (fun i=>i<=s.length/\idxF p s i=idxF p s 0) (fun i=>[]) (fun i=>[(0, .siter s i)]) 1 (fun i=>s.length-i) 0 ⟨by omega,rfl⟩ ?_;conv=>whnf
 refine⟨by exact GOES.cA h0,?_⟩;rintro i ⟨hi,hc⟩;conv=>whnf
 refine⟨fun h=>?_,fun h=>?_⟩
 ·have h:i<s.length:=by simpa using h
  have hf:=Z3t s i h;have hd:=Z22 s i;conv=>whnf
  repeat'((first|refine CALL.value (hp _ (Z8y s i)) rfl rfl ?_|refine AU ?_|(refine IW ?_ ?_<;>intro h<;>try(exfalso;omega)))<;>conv=>whnf)
  ·refine FIN.value h0 rfl ?_;rw[<-hc,ZcX (by omega) (by simpa using h)]
  ·refine⟨i+(deco s i).2,⟨by omega,?_⟩,by omega,?_⟩
   ·rw[<-hc,<-Z3v (by omega) (by simpa using h)]
   ·conv=>whnf
    exact GOES.cA h0
 ·have h:s.length<=i:=by simpa using h
  conv=>whnf
  repeat'((first|refine AU ?_|(refine IW ?_ ?_<;>intro h<;>try(exfalso;omega)))<;>conv=>whnf)
  refine FIN.value h0 rfl ?_;rw[<-hc,Z9P h]
theorem Z4g(g:Nat)(p:Int->Bool)(hp:∀r:Int,Yh r->Does prog tab g 0 [.int .i32 r] [] [] (Val (.bool (p r))))(s:List UInt8)(hs:Sm s):Does prog tab 161 0 [.str s, .fn (.func g) [] []] [] [] (Val (.int .i64 (idxF p s 0))):=by
 refine Does.enter Z1 call161 func161 rfl 8 rfl rfl [.tmp 4] rfl ?_;intro w0 F η0 h0;conv=>whnf
 repeat'((first|refine CALL.value (Z7m g p hp s hs) rfl rfl ?_|refine AU ?_|(refine IW ?_ ?_<;>intro h<;>try(exfalso;omega)))<;>conv=>whnf)
 exact FIN.value h0 rfl rfl
open Tryz
theorem Z1L(c:Int):Does prog tab 215 0 [.int .u8 c] [] [] (Val (.bool (Vx c))):=by
 refine Does.enter Z1 call215 func215 rfl 16 rfl rfl [.tmp 2] rfl ?_;intro w0 F η0 h0;conv=>whnf
 repeat'((first|refine AU ?_|(refine IW ?_ ?_<;>intro h<;>try(exfalso;omega)))<;>conv=>whnf)
 all_goals
  refine FIN.value h0 rfl (congrArg SV.bool ?_);rw[Bool.eq_iff_iff,Z1r];unfold Our.Barred;simp;try omega
theorem Z1M(c:Int):Does prog tab 216 0 [.int .u8 c] [] [] (Val (.bool (decide (XK c)))):=by
 refine Does.enter Z1 call216 func216 rfl 17 rfl rfl [.tmp 2] rfl ?_;intro w0 F η0 h0;conv=>whnf
 repeat'((first|refine AU ?_|(refine IW ?_ ?_<;>intro h<;>try(exfalso;omega)))<;>conv=>whnf)
 refine FIN.value h0 rfl (congrArg SV.bool ?_);rw[Bool.eq_iff_iff];simp only[Bool.cond_eq_ite,decide_eq_true_eq,Bool.if_false_right,Bool.if_true_left,Bool.and_eq_true,Bool.or_eq_true]
 rfl
theorem Z3D(c:Int):Does prog tab 217 0 [.int .u8 c] [] [] (Val (.bool (decide (48<=c/\c<=57)))):=by
 refine Does.enter Z1 call217 func217 rfl 9 rfl rfl [.tmp 2] rfl ?_;intro w0 F η0 h0;conv=>whnf
 repeat'((first|refine AU ?_|(refine IW ?_ ?_<;>intro h<;>try(exfalso;omega)))<;>conv=>whnf)
 refine FIN.value h0 rfl (congrArg SV.bool ?_);rw[Bool.eq_iff_iff];simp only[Bool.cond_eq_ite,decide_eq_true_eq,Bool.if_false_right,Bool.if_true_left,Bool.and_eq_true,Bool.or_eq_true]
theorem WL(s:List UInt8)(hs:Sm s):Does prog tab 184 0 [.str s] [] [] (Val (.int .i64 (refM s))):=by
 refine Does.enter Z1 call184 func184 rfl 20 rfl rfl [.tmp 2] rfl ?_;intro w0 F η0 h0;conv=>whnf
 repeat'((first|refine CALL.value (UF s hs) rfl rfl ?_|refine AU ?_|(refine IW ?_ ?_<;>intro h<;>try(exfalso;omega)))<;>conv=>whnf)
 ·refine FIN.value h0 rfl ?_;unfold refM;rw[if_pos (by omega)]
 ·refine FIN.value h0 rfl ?_;unfold refM;rw[if_neg (by omega),if_pos (by omega)]
 refine LOOP.go Z1 [0] (X:=Nat) (fun i=>i<=s.length/\anyB Vx s i=anyB Vx s 0) (fun i=>[(3, .int .i64 (i:Int))]) (fun i=>[]) 0 (fun i=>s.length-i) 0 ⟨by omega,rfl⟩ ?_;conv=>whnf
 refine⟨by exact GOES.cA h0,?_⟩;rintro i ⟨hi,hc⟩;conv=>whnf
 repeat'((first|refine CALL.value (Z1L _) rfl rfl ?_|refine AU ?_|(refine IW ?_ ?_<;>intro h<;>try(exfalso;omega)))<;>conv=>whnf)
 ·refine FIN.value h0 rfl ?_;unfold refM;rw[if_neg (by omega),if_neg (by omega),<-hc,Z3w (by omega),h];rfl
 ·refine⟨i+1,⟨by omega,?_⟩,by omega,?_⟩
  ·rw[<-hc,Z3w (i:=i) (by omega),h,Bool.false_or]
  ·conv=>whnf
   exact GOES.cA h0
 ·refine FIN.value h0 rfl ?_;unfold refM;rw[if_neg (by omega),if_neg (by omega),<-hc,Z5O (by omega)];rfl
theorem Z1N(s:List UInt8)(hs:Sm s):Does prog tab 185 0 [.str s] [] [] (Val (.int .i64 (schM s 0))):=by
 refine Does.enter Z1 call185 func185 rfl 41 rfl rfl [.tmp 2] rfl ?_;intro w0 F η0 h0;conv=>whnf
 refine LOOP.go Z1 [0] (X:=Nat) (fun i=>i<=s.length/\schM s i=schM s 0) (fun i=>[(3, .int .i64 (i:Int))]) (fun i=>[]) 0 (fun i=>s.length-i) 0 ⟨by omega,rfl⟩ ?_;conv=>whnf
 refine⟨by exact GOES.cA h0,?_⟩;rintro i ⟨hi,hc⟩;conv=>whnf
 repeat'((first|refine CALL.value (Z1M _) rfl rfl ?_|refine CALL.value (Z3D _) rfl rfl ?_|refine AU ?_|(refine IW ?_ ?_<;>intro h<;>try(exfalso;omega)))<;>conv=>whnf)
 all_goals first
  |(refine FIN.value h0 rfl ?_;rw[<-hc];first|rw[W3 (by omega) (by assumption)]|(rw[Z3y (by omega) (by assumption) (by unfold SchI;rintro(h|h)<;>first|contradiction|omega)])|rw[Z23 (by omega)])
  |(refine⟨i+1,⟨by omega,?_⟩,by omega,?_⟩
    ·rw[<-hc,<-Z3x (by omega) (by assumption) (by first|(left;assumption)|(right;unfold SchI;omega))]
    ·conv=>whnf
     exact GOES.cA h0)
open Tryz
def Zh6:Plan:=(Zv [(0,1),(1,1),(2,1),(3,1),(4,1),(5,1),(6,1)])
def Zh7:Plan:=(Zv [(0,1),(1,1),(2,1),(3,1),(4,1),(5,1),(6,1),(7,3),(8,1)])
def Zd2:Plan:=(Zv [(0,1),(1,1),(2,1),(3,1),(4,1),(5,1),(6,1),(7,1),(8,1),(9,1),(10,1)])
theorem UG(s:List UInt8)(hs:Sm s):Does prog tab 158 0 [.str s] [] [] (Val (.int .i64 (iriM s))):=by
 refine Does.enter Z1 call158 func158 rfl 14 rfl rfl [.tmp 2] rfl ?_;intro w0 F η0 h0;conv=>whnf
 repeat'((first|refine CALL.value (WL s hs) rfl rfl ?_|refine CALL.value (Z1N s hs) rfl rfl ?_|refine AU ?_|(refine IW ?_ ?_<;>intro h<;>try(exfalso;omega)))<;>conv=>whnf)
 all_goals
  refine FIN.value h0 rfl (congrArg (SV.int _) ?_);unfold iriM
  simp_all
def Z3E(r:Int):Int:=if 0<=r/\r<128 then Lib.indexByte bars (IntKind.u8.wrap r).toNat.toUInt8 else-1
theorem Z4h(r:Int)(hr:Yh r):Does prog tab 230 0 [.str bars, .int .i32 r] [] [] (Val (.int .i64 (Z3E r))):=by
 have hlen:bars.length=9:=rfl;refine Does.enter Z1 call230 func230 rfl 187 rfl rfl [.tmp 4] rfl ?_;intro w0 F η0 h0;conv=>whnf
 repeat'((first|refine CALL.value (VA _ _) rfl rfl ?_|refine CALL.value (Z4f _) rfl rfl ?_|refine AU ?_|(refine IW ?_ ?_<;>intro h<;>try(exfalso;omega)))<;>conv=>whnf)
 ·refine FIN.value h0 rfl ?_;unfold Z3E;rw[if_pos h]
 ·subst h;refine LOOP.go Z1 [175] (X:=Nat) (fun i=>i<=9) (fun i=>[]) (fun i=>[(0, .siter bars i)]) 1 (fun i=>9-i) 0 (by omega) ?_;conv=>whnf
  refine⟨by exact GOES.cA h0,?_⟩;intro i hi;conv=>whnf
  refine⟨fun h=>?_,fun h=>?_⟩
  ·have h:i<bars.length:=by simpa using h
   have hd:=W2 (Z5P i);have hb:=ZI bars i;conv=>whnf
   refine IF.tt ?_;conv=>whnf
   refine IF.no (by rw[show Utf8.decode ⟨bars.toArray⟩ i=_ from hd];have:=Z5P i;simp;omega) ?_;conv=>whnf
   refine⟨i+(deco bars i).2,by rw[hd];show i+1<=9;omega,by rw[hd];show 9-(i+1)<9-i;omega,?_⟩;conv=>whnf
   exact GOES.cA h0
  ·conv=>whnf
   refine IF.ff ?_;conv=>whnf
   refine FIN.value h0 rfl ?_;unfold Z3E;rw[if_neg (by omega)]
 ·rw[Z09]at h;exact(h hr).elim
 ·have hl:=ZeU (r:=r) (by unfold Yh at hr;omega);have hh:=ZcW hr (by unfold Yh at hr;omega);have he:=ZcV hr;rw[he];have hm:=ZaW (s:=encM r) (i:=((encM r).length:Int)-1) (by omega)
  have hm2:128<=Z2 (encM r) (((encM r).length:Int)-1):=by
   obtain⟨c,hc,e⟩:=hm;rw[e];exact hh c hc
  have hm3:=ZI (encM r) (((encM r).length:Int)-1);have hm4:=Z5P (((encM r).length:Int)-1);refine LOOP.once Z1 ?_;conv=>whnf
  repeat'((first|refine DRAWN.of (id:=6) Z1 mixed Zh6 (by kernel_rfl) ?_|refine DRAWN.of (id:=7) Z1 mixed Zh7 (by kernel_rfl) ?_|refine DRAWN.of (id:=14) Z1 mixed Zd2 (by kernel_rfl) ?_|refine DRAWN.of (id:=31) Z1 mixed Zd2 (by kernel_rfl) ?_|refine ADD.mk (fun _ _=>?_)|refine AD ?_|refine FORK.mk ?_ ?_|refine CALL.value (VA _ _) rfl rfl ?_|refine AU ?_|(refine IW ?_ ?_<;>intro h<;>try(exfalso;omega)))<;>conv=>whnf)
  ·refine FIN.value h0 rfl ?_;unfold Z3E;rw[if_neg (by unfold Yh at hr;omega)]
  ·have:=ZeX (l:=List.drop (((encM r).length:Int)-1+1).toNat bars) (c:=Z2 (encM r) (((encM r).length:Int)-1)) (by omega) (fun b hb=>ZeW b (List.mem_of_mem_drop hb));rw[this]at h;omega
theorem Z0V(r:Int)(hr:Yh r):Does prog tab 193 0 [.str bars, .int .i32 r] [] [] (Val (.bool (decide (0<=Z3E r)))):=by
 refine Does.enter Z1 call193 func193 rfl 9 rfl rfl [.tmp 4] rfl ?_;intro w0 F η0 h0;conv=>whnf
 repeat'((first|refine CALL.value (Z4h r hr) rfl rfl ?_|refine AU ?_|(refine IW ?_ ?_<;>intro h<;>try(exfalso;omega)))<;>conv=>whnf)
 exact FIN.value h0 rfl rfl
theorem Zh8{r:Int}(hr:Yh r):(r<=32\/0<=Z3E r)<->Our.Barred r:=by
 unfold Yh at hr;unfold Z3E;by_cases h:0<=r/\r<128
 ·rw[if_pos h];have:∀n:Nat,n<128->(((n:Int)<=32\/0<=Lib.indexByte bars (IntKind.u8.wrap (n:Int)).toNat.toUInt8)<->Our.Barred (n:Int)):=by decide+kernel
  have:=this r.toNat (by omega);rwa [show((r.toNat:Nat):Int)=r by omega]at this
 ·rw[if_neg h];unfold Our.Barred;omega
theorem Z8K(r:Int)(hr:Yh r):Does prog tab 162 0 [.int .i32 r] [] [] (Val (.bool (Vx r))):=by
 refine Does.enter Z1 call162 func162 rfl 9 rfl rfl [.tmp 2] rfl ?_;intro w0 F η0 h0;conv=>whnf
 repeat'((first|refine CALL.value (Z0V r hr) rfl rfl ?_|refine AU ?_|(refine IW ?_ ?_<;>intro h<;>try(exfalso;omega)))<;>conv=>whnf)
 all_goals
  refine FIN.value h0 rfl (congrArg SV.bool ?_);rw[Bool.eq_iff_iff,Z1r,<-Zh8 hr];simp;try omega
theorem Z4i(s:List UInt8)(hs:Sm s):Does prog tab 132 0 [.str s] [] [] (Val (.int .i64 (refM s))):=by
 have hp:∀c:Int,128<=c->Vx c=false:=fun c hc=>by rw[Z5N];unfold Our.Barred;omega
 refine Does.enter Z1 call132 func132 rfl 15 rfl rfl [.tmp 2] rfl ?_;intro w0 F η0 h0;conv=>whnf
 repeat'((first|refine CALL.value (Z52 s hs) rfl rfl ?_|refine CALL.value (Z4g _ Vx (fun r hr=>Z8K r hr) s hs) rfl rfl ?_|refine AU ?_|(refine IW ?_ ?_<;>intro h<;>try(exfalso;omega)))<;>conv=>whnf)
 all_goals
  refine FIN.value h0 rfl (congrArg (SV.int _) ?_);unfold refM
 ·rw[if_pos (by omega)]
 ·rw[if_neg (by omega),if_pos (by omega)]
 all_goals
  rename_i h1 h2
  have hc:chk s 0= -1:=by
   have:=Zi3 s 0;omega
  have:=Z7e Vx hp s 0 hc;rw[if_neg (by omega),if_neg (by omega)]
 ·rw[if_pos (this.1 h)]
 ·rw[if_neg (fun h'=>by have:=this.2 h';omega)]
theorem Z8L(s:List UInt8)(hs:Sm s):Does prog tab 133 0 [.str s] [] [] (Val (.str (s.take (schM s 0).toNat))):=by
 refine Does.enter Z1 call133 func133 rfl 61 rfl rfl [.tmp 2] rfl ?_;intro w0 F η0 h0;conv=>whnf
 refine LOOP.go Z1 [0,7] (X:=Nat) (fun i=>i<=s.length/\schM s i=schM s 0) (fun i=>[]) (fun i=>[(0, .siter s i)]) 1 (fun i=>s.length-i) 0 ⟨by omega,rfl⟩ ?_;conv=>whnf
 refine⟨by exact GOES.cA h0,?_⟩;rintro i ⟨hi,hc⟩;conv=>whnf
 refine⟨fun h=>?_,fun h=>?_⟩
 ·have h:i<s.length:=by simpa using h
  have hf:=Z3t s i h;have hp:=Z22 s i;have hb:=ZI s i
  have hd:((deco s i).1:Int)=Z2 s i/\(deco s i).2=1\/128<=Z2 s i/\128<=(deco s i).1:=by
   by_cases ha:Z2 s i<128
   ·left;rw[W2 ha];simp;omega
   ·right;exact⟨by omega,Z3u (by omega)⟩
  unfold deco at*;generalize Utf8.decode ⟨s.toArray⟩ i=d at*;obtain⟨r,n⟩:=d;simp only at hf hp hd;conv=>whnf
  repeat'((first|refine AU ?_|(refine IW ?_ ?_<;>intro h<;>try(exfalso;omega)))<;>conv=>whnf)
  all_goals first
   |(have hn:n=1:=by omega
     subst hn;refine⟨i+1,⟨hf,?_⟩,by omega,?_⟩
     ·rw[<-hc,<-Z3x (by omega) (by omega) (by unfold XK SchI;omega)]
     ·conv=>whnf
      exact GOES.cA h0)
   |(refine FIN.value h0 rfl (congrArg SV.str ?_);rw[<-hc,W3 (by omega) (by omega)])
   |(refine FIN.value h0 rfl (congrArg SV.str ?_);rw[<-hc]
     by_cases h58:Z2 s i=58
     ·rw[W3 (by omega) h58];rw[show(i:Int)=0 by omega];rfl
     ·rw[Z3y (by omega) h58 (by unfold XK SchI;omega)];rfl)
 ·have h:s.length<=i:=by simpa using h
  conv=>whnf
  repeat'((first|refine AU ?_|(refine IW ?_ ?_<;>intro h<;>try(exfalso;omega)))<;>conv=>whnf)
  refine FIN.value h0 rfl ?_;rw[<-hc,Z23 h];rfl
theorem Z0j(s:List UInt8)(hs:Sm s):Does prog tab 108 0 [.str s] [] [] (Val (.int .i64 (iriM s))):=by
 have hr:=ZeV s 0;refine Does.enter Z1 call108 func108 rfl 12 rfl rfl [.tmp 2] rfl ?_;intro w0 F η0 h0;conv=>whnf
 repeat'((first|refine CALL.value (Z4i s hs) rfl rfl ?_|refine CALL.value (Z8L s hs) rfl rfl ?_|refine AU ?_|(refine IW ?_ ?_<;>intro h<;>try(exfalso;omega)))<;>conv=>whnf)
 ·refine FIN.value h0 rfl (congrArg (SV.int _) ?_);unfold iriM;rw[if_pos h]
 ·rename_i h1;refine FIN.value h0 rfl (congrArg (SV.int _) ?_);unfold iriM;rw[if_neg (by omega),if_pos]
  have hz:(s.take (schM s 0).toNat).length=0:=by
   have:s.take (schM s 0).toNat=[]:=h;rw[this];rfl
  rw[List.length_take]at hz;by_cases hl:s.length=0
  ·rw[Z23 (by omega)]
  ·omega
 ·rename_i h1;refine FIN.value h0 rfl (congrArg (SV.int _) ?_);unfold iriM;rw[if_neg (by omega),if_neg];intro h2;apply h;rw[h2];rfl
open Tryz
theorem Z1s(r:Int):Does prog tab 235 0 [.int .i32 r] [] [] (Val (.bool (decide (XK r)))):=by
 refine Does.enter Z1 call235 func235 rfl 17 rfl rfl [.tmp 2] rfl ?_;intro w0 F η0 h0;conv=>whnf
 repeat'((first|refine AU ?_|(refine IW ?_ ?_<;>intro h<;>try(exfalso;omega)))<;>conv=>whnf)
 refine FIN.value h0 rfl (congrArg SV.bool ?_);rw[Bool.eq_iff_iff];simp only[Bool.cond_eq_ite,decide_eq_true_eq,Bool.if_false_right,Bool.if_true_left,Bool.and_eq_true,Bool.or_eq_true]
 rfl
theorem JY(r:Int):Does prog tab 196 0 [.int .i32 r] [] [] (Val (.bool (decide (UE r)))):=by
 refine Does.enter Z1 call196 func196 rfl 9 rfl rfl [.tmp 2] rfl ?_;intro w0 F η0 h0;conv=>whnf
 repeat'((first|refine AU ?_|(refine IW ?_ ?_<;>intro h<;>try(exfalso;omega)))<;>conv=>whnf)
 refine FIN.value h0 rfl (congrArg SV.bool ?_);rw[Bool.eq_iff_iff];simp only[Bool.cond_eq_ite,decide_eq_true_eq,Bool.if_false_right,Bool.if_true_left,Bool.and_eq_true,Bool.or_eq_true]
 rfl
theorem Zb6(r:Int):Does prog tab 231 0 [.int .i32 r] [] [] (Val (.bool (decide (Z3z r)))):=by
 refine Does.enter Z1 call231 func231 rfl 25 rfl rfl [.tmp 2] rfl ?_;intro w0 F η0 h0;conv=>whnf
 repeat'((first|refine CALL.value (Z1s _) rfl rfl ?_|(refine LOOP.once Z1 ?_;conv=>whnf)|refine AU ?_|(refine IW ?_ ?_<;>intro h<;>try(exfalso;omega)))<;>conv=>whnf)
 all_goals
  refine FIN.value h0 rfl (congrArg SV.bool ?_)
  first
   |exact decide_eq_decide.2 (by unfold XK Z3z;omega)
   |exact(decide_eq_true (by unfold Z3z;omega)).symm
   |exact(decide_eq_false (by unfold Z3z;omega)).symm
theorem Z0k(r:Int):Does prog tab 195 0 [.int .i32 r] [] [] (Val (.bool (decide (Z0g r)))):=by
 refine Does.enter Z1 call195 func195 rfl 9 rfl rfl [.tmp 2] rfl ?_;intro w0 F η0 h0;conv=>whnf
 repeat'((first|refine CALL.value (Zb6 _) rfl rfl ?_|refine AU ?_|(refine IW ?_ ?_<;>intro h<;>try(exfalso;omega)))<;>conv=>whnf)
 all_goals
  refine FIN.value h0 rfl (congrArg SV.bool ?_);rw[Bool.eq_iff_iff,decide_eq_true_iff];unfold Z0g;simp
theorem Z4j(r:Int):Does prog tab 194 0 [.int .i32 r] [] [] (Val (.bool (decide (YM r)))):=by
 refine Does.enter Z1 call194 func194 rfl 33 rfl rfl [.tmp 2] rfl ?_;intro w0 F η0 h0;conv=>whnf
 repeat'((first|refine CALL.value (Z0k _) rfl rfl ?_|refine CALL.value (JY _) rfl rfl ?_|refine AU ?_|(refine IW ?_ ?_<;>intro h<;>try(exfalso;omega)))<;>conv=>whnf)
 all_goals
  refine FIN.value h0 rfl (congrArg SV.bool ?_);rw[Bool.eq_iff_iff];unfold YM
  simp_all
  try omega
theorem Z7n(r:Int):Does prog tab 164 0 [.int .i32 r] [] [] (Val (.bool (decide (JW r)))):=by
 refine Does.enter Z1 call164 func164 rfl 9 rfl rfl [.tmp 2] rfl ?_;intro w0 F η0 h0;conv=>whnf
 repeat'((first|refine CALL.value (Z0k _) rfl rfl ?_|refine CALL.value (JY _) rfl rfl ?_|refine AU ?_|(refine IW ?_ ?_<;>intro h<;>try(exfalso;omega)))<;>conv=>whnf)
 all_goals
  refine FIN.value h0 rfl (congrArg SV.bool ?_);unfold JW
  simp_all
theorem Zd3(g:Nat)(p:Int->Prop)[DecidablePred p](hp:∀r:Int,Does prog tab g 0 [.int .i32 r] [] [] (Val (.bool (decide (p r)))))(s:List UInt8)(i:Int)(hs:Sm s):Does prog tab 163 0 [.str s, .int .i64 i, .fn (.func g) [] []] [] [] (Val (.int .i64 (runM p s i))):=by
 have hn:=YL s i;refine Does.enter Z1 call163 func163 rfl 55 rfl rfl [.tmp 6] rfl ?_;intro w0 F η0 h0;conv=>whnf
 repeat'((first|refine CALL.value (Z3C s _ hs) rfl rfl ?_|refine CALL.value (hp _) rfl rfl ?_|refine AU ?_|(refine IW ?_ ?_<;>intro h<;>try(exfalso;omega)))<;>conv=>whnf)
 ·exact FIN.value h0 rfl (congrArg (SV.int _) (by unfold runM;rw[if_pos (.inl h)]))
 ·exact FIN.value h0 rfl (congrArg (SV.int _) (by unfold runM;rw[if_pos (.inr h)]))
 rename_i h1
 have hi:0<=i/\i<s.length:=by
  apply Classical.byContradiction;intro hh;exact h1 (by unfold Za;rw[if_pos (by omega)])
 refine LOOP.go Z1 [0,1] (X:=Nat×Nat) (fun x=>x.1<=s.length/\x.2<=x.1/\runGo s x.1 x.2=runGo s (i.toNat+(Za s i).2.toNat) (i.toNat+(Za s i).2.toNat)) (fun x=>[(10, .int .i64 (x.1:Int)),(9, .int .i64 (x.2:Int))]) (fun i=>[]) 0 (fun x=>s.length-x.1) (i.toNat+(Za s i).2.toNat,i.toNat+(Za s i).2.toNat) ⟨by omega,by omega,rfl⟩ ?_;conv=>whnf
 refine⟨by exact GOES.cA h0,?_⟩;rintro⟨j,e⟩ ⟨hj,he,hc⟩;simp only at hj he hc;have hn':=YL s j;conv=>whnf
 repeat'((first|refine CALL.value (Z3C s _ hs) rfl rfl ?_|refine CALL.value (Z4j _) rfl rfl ?_|refine AU ?_|(refine IW ?_ ?_<;>intro h<;>try(exfalso;omega)))<;>conv=>whnf)
 all_goals first
  |(refine FIN.value h0 rfl (congrArg (SV.int _) ?_)
    unfold runM;rw[if_neg (by simp[*]),<-hc,Z0Q (by simp[*])]
    simp(disch:=omega) only[Z9])
  |(refine⟨(j+(Za s j).2.toNat,if(Za s j).1=46 then e else j+(Za s j).2.toNat),⟨by simp only;omega,by simp only;split<;>omega,?_⟩,by simp only;omega,?_⟩
    ·simp only;rw[<-hc,<-Z0P (by simp[*])]
    ·conv=>whnf
     simp only[*,if_true,if_false]
     exact GOES.cA h0)
theorem Z5R(s:List UInt8)(i:Int)(hs:Sm s):Does prog tab 134 0 [.str s, .int .i64 i] [] [] (Val (.int .i64 (runM JW s i))):=by
 refine Does.enter Z1 call134 func134 rfl 8 rfl rfl [.tmp 4] rfl ?_;intro w0 F η0 h0;conv=>whnf
 repeat'((first|refine CALL.value (Zd3 _ JW (fun r=>Z7n r) s i hs) rfl rfl ?_|refine AU ?_|(refine IW ?_ ?_<;>intro h<;>try(exfalso;omega)))<;>conv=>whnf)
 exact FIN.value h0 rfl rfl
theorem Z8M(s:List UInt8)(hs:Sm s):Does prog tab 109 0 [.str s] [] [] (Val (.int .i64 (Z4X s))):=by
 refine Does.enter Z1 call109 func109 rfl 14 rfl rfl [.tmp 2] rfl ?_;intro w0 F η0 h0;conv=>whnf
 repeat'((first|refine CALL.value (Z5R s _ hs) rfl rfl ?_|refine AU ?_|(refine IW ?_ ?_<;>intro h<;>try(exfalso;omega)))<;>conv=>whnf)
 ·exact FIN.value h0 rfl (congrArg (SV.int _) (by unfold Z4X;rw[if_pos (by simpa using h)]))
 ·exact FIN.value h0 rfl (congrArg (SV.int _) (by unfold Z4X;rw[if_neg (by simp;exact h)]))
open Tryz
theorem JZ(s:List UInt8)(least most:Int)(pure:Bool)(hs:Sm s):Does prog tab 202 0 [.str s, .int .i64 least, .int .i64 most, .bool pure] [] [] (Val (.bool (ZD s least most pure))):=by
 refine Does.enter Z1 call202 func202 rfl 37 rfl rfl [.tmp 8] rfl ?_;intro w0 F η0 h0;conv=>whnf
 refine LOOP.go Z1 [0,1,2,3,12] (X:=Nat) (fun i=>i<=s.length/\allB (Zh pure) s i=allB (Zh pure) s 0) (fun i=>[]) (fun i=>[(0, .siter s i)]) 1 (fun i=>s.length-i) 0 ⟨by omega,rfl⟩ ?_;conv=>whnf
 refine⟨by exact GOES.cA h0,?_⟩;rintro i ⟨hi,hc⟩;conv=>whnf
 refine⟨fun h=>?_,fun h=>?_⟩
 ·have h:i<s.length:=by simpa using h
  have hf:=Z3t s i h;have hp:=Z22 s i
  have hd:((deco s i).1:Int)=Z2 s i/\(deco s i).2=1\/128<=Z2 s i/\128<=(deco s i).1:=by
   have hb:=ZI s i;by_cases ha:Z2 s i<128
   ·left;rw[W2 ha];simp;omega
   ·right;exact⟨by omega,Z3u (by omega)⟩
  unfold deco at*;generalize Utf8.decode ⟨s.toArray⟩ i=d at*;obtain⟨r,n⟩:=d;simp only at hf hp hd
  have key:allB (Zh pure) s 0=(Zh pure r&&allB (Zh pure) s (i+n))\/128<=r/\allB (Zh pure) s 0=false:=by
   rcases hd with⟨h1,rfl⟩|⟨h1,h2⟩
   ·left;rw[<-hc,Jv h,h1]
   ·right;exact⟨h2,by rw[<-hc,Jv h,Z4Y h1,Bool.false_and]⟩
  conv=>whnf
  repeat'((first|refine CALL.value (Z1s _) rfl rfl ?_|refine CALL.value (JY _) rfl rfl ?_|refine AU ?_|(refine IW ?_ ?_<;>intro h<;>try(exfalso;omega)))<;>conv=>whnf)
  all_goals first
   |(refine FIN.value h0 rfl (congrArg SV.bool ?_)
     have h1:Zh pure r=false:=by unfold Zh JX Xx;simp[*]
     have h2:allB (Zh pure) s 0=false:=by rcases key with h|h<;>simp[h,h1]
     unfold ZD;rw[h2];rfl)
   |(have h1:Zh pure r=true:=by unfold Zh JX Xx;simp[*]
     refine⟨i+n,⟨hf,?_⟩,by omega,?_⟩
     ·rcases key with h|h
      ·rw[h,h1,Bool.true_and]
      ·rw[Z4Y (by omega)]at h1;cases h1
     ·conv=>whnf
      exact GOES.cA h0)
 ·have h:s.length<=i:=by simpa using h
  conv=>whnf
  repeat'((first|refine AU ?_|(refine IW ?_ ?_<;>intro h<;>try(exfalso;omega)))<;>conv=>whnf)
  all_goals
   refine FIN.value h0 rfl (congrArg SV.bool ?_);unfold ZD;rw[<-hc,W4 h,Bool.eq_iff_iff];simp[Bool.cond_eq_ite]
theorem Vk(s:List UInt8):Does prog tab 168 0 [.str s] [] [] (Val (.bool (ZZ s))):=by
 refine Does.enter Z1 call168 func168 rfl 9 rfl rfl [.tmp 2] rfl ?_;intro w0 F η0 h0;conv=>whnf
 repeat'((first|refine AU ?_|(refine IW ?_ ?_<;>intro h<;>try(exfalso;omega)))<;>conv=>whnf)
 refine FIN.value h0 rfl (congrArg SV.bool ?_);unfold ZZ;rw[Bool.eq_iff_iff];simp[Bool.cond_eq_ite]
theorem Z3F(s:List UInt8)(hs:Sm s):Does prog tab 205 0 [.str s] [] [] (Val (.bool (X6 s))):=by
 have b0:=ZI s 0;have b1:=ZI s 1;have b2:=ZI s 2;refine Does.enter Z1 call205 func205 rfl 28 rfl rfl [.tmp 2] rfl ?_;intro w0 F η0 h0;conv=>whnf
 repeat'((first|refine CALL.value (JZ _ _ _ _ hs) rfl rfl ?_|refine CALL.value (JY _) rfl rfl ?_|refine AU ?_|(refine IW ?_ ?_<;>intro h<;>try(exfalso;omega)))<;>conv=>whnf)
 all_goals
  refine FIN.value h0 rfl (congrArg SV.bool ?_);unfold X6 Xx;try simp(disch:=omega) only[Zq]at*
  simp_all
  try omega
theorem Vl(s:List UInt8)(hs:Sm s):Does prog tab 206 0 [.str s] [] [] (Val (.bool (Jd s))):=by
 have b0:=ZI s 0;have hm:ZD s 4 4 false=true->s.length=4:=by unfold ZD;simp;omega
 refine Does.enter Z1 call206 func206 rfl 15 rfl rfl [.tmp 2] rfl ?_;intro w0 F η0 h0;conv=>whnf
 repeat'((first|refine CALL.value (JZ _ _ _ _ hs) rfl rfl ?_|refine CALL.value (JY _) rfl rfl ?_|(refine NEED.mk (by have:=hm (by assumption);omega) ?_;conv=>whnf)|refine AU ?_|(refine IW ?_ ?_<;>intro h<;>try(exfalso;omega)))<;>conv=>whnf)
 all_goals
  refine FIN.value h0 rfl (congrArg SV.bool ?_);unfold Jd Xx;try simp(disch:=omega) only[Zq]at*
  simp_all
theorem Xh(s:List UInt8)(hs:Sm s):Does prog tab 137 0 [.str s] [] [] (Val (.str (Z6 s))):=by
 refine Does.enter Z1 call137 func137 rfl 29 rfl rfl [.tmp 2] rfl ?_;intro w0 F η0 h0;conv=>whnf
 repeat'((first|refine AU ?_|(refine IW ?_ ?_<;>intro h<;>try(exfalso;omega)))<;>conv=>whnf)
 refine LOOP.go Z1 [3,8,9] (X:=Nat) (fun i=>i<=s.length) (fun i=>[(10, .int .i64 (i:Int))]) (fun i=>[(0, .rows 1 ((curL s i).map Sx.bytesRow))]) 1 (fun i=>s.length-i) 0 (by omega) ?_;conv=>whnf
 refine⟨by(refine GOES.cutting h0 rfl rfl rfl (by first|rfl|(simp only[Zn,Zm,Z4 _ (Xv _),Bool.and_self,Bool.and_true]<;>rfl)) ?_ ?_<;>(repeat'(first|(with_reducible rfl)|(exact X2 rfl (by first|(simp;done)|omega|(simp;omega)))|(exact congrArg (SV.int _) (by first|omega|(simp(disch:=omega) only[lnB,Z9,Zq]<;>omega)|(simp;done)|(simp<;>omega)))|(exact congrArg (Hp.rows _) (by rw[Z7h]))|((conv=>whnf);refine⟨?_,?_⟩)|exact trivial|rfl))),?_⟩;intro i hi;have hlen:=Z9S s i;conv=>whnf
 repeat'((first|(refine GET.at (row:=Sx.bytesRow (s[i]'(by omega))) (by rw[show 0+(i:Int).toNat=i by omega];exact Z5Q (by omega)) ?_;conv=>whnf)|refine AU ?_|(refine IW ?_ ?_<;>intro h<;>try(exfalso;omega)))<;>conv=>whnf)
 ·have hl:i<s.length:=by omega
  refine⟨i+1,by omega,by omega,?_⟩;conv=>whnf
  (refine GOES.cutting h0 rfl rfl rfl (by first|rfl|(simp only[Zn,Zm,Z4 _ (Xv _),Bool.and_self,Bool.and_true]<;>rfl)) ?_ ?_<;>(repeat'(first|(with_reducible rfl)|(exact X2 rfl (by first|(simp;done)|omega|(simp;omega)))|(exact congrArg (SV.int _) (by first|omega|(simp(disch:=omega) only[lnB,Z9,Zq]<;>omega)|(simp;done)|(simp<;>omega)))|(exact congrArg (Hp.rows _) (by rw[Zd0 h,show 0+(i:Int).toNat=i by omega,Z9U hl]))|((conv=>whnf);refine⟨?_,?_⟩)|exact trivial|rfl)))
 ·have hl:i<s.length:=by omega
  refine⟨i+1,by omega,by omega,?_⟩;conv=>whnf
  (refine GOES.cutting h0 rfl rfl rfl (by first|rfl|(simp only[Zn,Zm,Z4 _ (Xv _),Bool.and_self,Bool.and_true]<;>rfl)) ?_ ?_<;>(repeat'(first|(with_reducible rfl)|(exact X2 rfl (by first|(simp;done)|omega|(simp;omega)))|(exact congrArg (SV.int _) (by first|omega|(simp(disch:=omega) only[lnB,Z9,Zq]<;>omega)|(simp;done)|(simp<;>omega)))|(exact congrArg (Hp.rows _) (by rw[Z7i hl (Z8B (by omega))]))|((conv=>whnf);refine⟨?_,?_⟩)|exact trivial|rfl)))
 ·refine NEED.mk (U7 (by omega)) ?_;conv=>whnf
  refine FIN.value h0 rfl (congrArg SV.str ?_);have:=Z8e (curL s i);rw[hlen]at this;rw[this,Z9T (by omega)]
open Tryz
theorem Z1O(s:List UInt8)(c:Int):Does prog tab 250 0 [.str s, .int .u8 c] [] [] (Val (.int .i64 (Lib.countByte s c.toNat.toUInt8:Nat))):=by
 refine Does.says fun η w vs hd=>?_;simp only[DenL,Den]at hd;obtain⟨u,us,rfl,rfl,u',us',rfl,rfl,rfl⟩:=hd;refine⟨_,?_,rfl⟩;rw[run_callFunc_extern func250 (by kernel_rfl) (by kernel_rfl) (by kernel_rfl) (e:=Extern.BytealgCount.count) (by kernel_rfl),Lib.run_countString]
 rfl
theorem Zb7(s:List UInt8):Does prog tab 233 0 [.str s, .str [45]] [] [] (Val (.int .i64 (s.count 45:Nat))):=by
 refine Does.enter Z1 call233 func233 rfl 34 rfl rfl [.tmp 4] rfl ?_;intro w0 F η0 h0;conv=>whnf
 repeat'((first|refine CALL.value (Z1O _ _) rfl rfl ?_|refine AU ?_|(refine IW ?_ ?_<;>intro h<;>try(exfalso;omega)))<;>conv=>whnf)
 all_goals first
  |exact FIN.value h0 rfl rfl
  |(exfalso;simp at*;done)
theorem Z7o(s:List UInt8):Does prog tab 251 0 [.str s, .str [45]] [] [] (Val (.int .i64 (Lib.indexByte s 45))):=by
 refine Does.enter Z1 call251 func251 rfl 143 rfl rfl [.tmp 4] rfl ?_;intro w0 F η0 h0;conv=>whnf
 repeat'((first|refine CALL.value (Jz _ _) rfl rfl ?_|refine CALL.value (Uj _ _) rfl rfl ?_|refine CALL.value (VA _ _) rfl rfl ?_|refine AU ?_|(refine IW ?_ ?_<;>intro h<;>try(exfalso;omega)))<;>conv=>whnf)
 all_goals first
  |exact FIN.value h0 rfl rfl
  |(subst h;exact FIN.value h0 rfl rfl)
  |(rcases h with h|h
    ·exact absurd h (by decide)
    ·subst h;exact FIN.value h0 rfl rfl)
  |exact absurd (by assumption:¬((0+1:Nat):Int)=1) (by decide)
theorem Z53(s:List UInt8):Does prog tab 234 0 [.str s, .str [45]] [] [] (Val (.int .i64 (Lib.indexByte s 45))):=by
 refine Does.enter Z1 call234 func234 rfl 8 rfl rfl [.tmp 4] rfl ?_;intro w0 F η0 h0;conv=>whnf
 repeat'((first|refine CALL.value (Z7o _) rfl rfl ?_|refine AU ?_|(refine IW ?_ ?_<;>intro h<;>try(exfalso;omega)))<;>conv=>whnf)
 exact FIN.value h0 rfl rfl
theorem Zf2{l c:Int}{b:Nat}(B:Nat)(hb:Nat.ble b B=true)(h0:0<=l)(h1:l<=c)(h2:(B:Int)*c<=281474976710656/\c<=9223372036854775807):0<=l/\l<=c/\c<=9223372036854775807/\(b:Int)*c<=281474976710656:=
 ⟨h0,h1,h2.2,Int.le_trans (Int.mul_le_mul_of_nonneg_right (by have:=Nat.le_of_ble_eq_true hb;omega) (by omega)) h2.1⟩
theorem Z5S(s:List UInt8)(hs:s.length<=68719476736):Does prog tab 200 0 [.str s, .str [45], .int .i64 0, .int .i64 (-1)] [] [] (NewS 1 ((Zs s).map Zc)):=by
 have hcnt:=J6 s;have hlen:=Z0i s;have hne:=Z24 s;refine Does.enter Z1 call200 func200 rfl 66 rfl rfl [.tmp 8] rfl ?_;intro w0 F η0 h0;conv=>whnf
 repeat'((first|refine CALL.value (Zb7 _) rfl rfl ?_|refine AU ?_|(refine IW ?_ ?_<;>intro h<;>try(exfalso;omega)))<;>conv=>whnf)
 have hn:(if IntKind.i64.wrap ((s.length:Int)+1)<IntKind.i64.wrap (((s.count 45:Nat):Int)+1)then IntKind.i64.wrap ((s.length:Int)+1)else IntKind.i64.wrap (((s.count 45:Nat):Int)+1))=((Zs s).length:Int):=by
  simp(disch:=omega) only[Z9];rw[if_neg (by omega)];omega
 rw[hn];refine NEED.mk (Zf2 16 rfl (by omega) (by omega) (by omega)) ?_;conv=>whnf
 rw[show List.replicate ((Zs s).length:Int).toNat [SV.str []]=Z3A [] (Zs s).length by rw[Int.toNat_natCast];rfl];refine LOOP.go Z1 [1,2,3,9] (X:=List (List UInt8)×List UInt8) (fun x=>Zs s=x.1++Zs x.2/\x.2.length<=s.length) (fun x=>[(10, .int .i64 (x.1.length:Int)),(0, .str x.2)]) (fun x=>[(0, .rows 1 (Z3A x.1 ((Zs s).length-x.1.length)))]) 1 (fun x=>(Zs s).length-x.1.length) ([],s) ⟨rfl,Nat.le_refl _⟩ ?_;conv=>whnf
 refine⟨by(refine GOES.cutting h0 rfl rfl rfl (by first|rfl|(simp only[Zn,Zm,Z4 _ (Z7j _ _),Bool.and_self,Bool.and_true]<;>rfl)) ?_ ?_<;>(repeat'(first|(with_reducible rfl)|(exact X2 rfl (by first|(simp;done)|omega|(simp;omega)))|(exact congrArg (SV.int _) (by first|omega|(simp(disch:=omega) only[lnB,Z9,Zq]<;>omega)|(simp;done)|(simp<;>omega)))|(exact congrArg (Hp.rows _) (by rfl))|((conv=>whnf);refine⟨?_,?_⟩)|exact trivial|rfl))),?_⟩;rintro⟨d,u⟩ ⟨he,hu⟩;dsimp only at he hu⊢;have hd:d.length+(Zs u).length=(Zs s).length:=by rw[he,List.length_append]
 have hun:1<=(Zs u).length:=by have:=J6 u;omega
 have hm:Lib.indexByte u 45= -1/\Zs u=[u]\/∃m:Nat,Lib.indexByte u 45=m/\m<u.length/\Zs u=u.take m::Zs (u.drop (m+1)):=by
  have hge:=Lib.indexByte_ge u 45;by_cases h:Lib.indexByte u 45= -1
  ·exact .inl ⟨h,Z4Z h⟩
  ·have e:Lib.indexByte u 45=((Lib.indexByte u 45).toNat:Int):=by omega
   have:=Z50 e;exact .inr ⟨_,e,this.1,this.2⟩
 conv=>whnf
 rcases hm with⟨hm,hs1⟩|⟨m,hm,hml,hs1⟩
 ·have h1:(Zs u).length=1:=by rw[hs1];rfl
  repeat'((first|refine CALL.value (Z53 _) rfl rfl ?_|(refine GET.at (row:=Zc []) (Z9V (by omega) (by omega)) ?_;conv=>whnf)|(refine NEED.mk (by rw[Z9 (by omega) (by omega)];refine⟨by omega,?_⟩;show _<=((max (((Zs s).length:Int).toNat) (_-0):Nat):Int);omega) ?_;conv=>whnf)|refine AU ?_|(refine IW ?_ ?_<;>intro h<;>try(exfalso;omega)))<;>conv=>whnf)
  rw[Z9W (by omega) (by omega)]
  have hw:(IntKind.i64.wrap ((d.length:Int)+1)).toNat=((Zs s).map Zc).length:=by
   rw[Z9 (by omega) (by omega),List.length_map];omega
  rw[hw,show(Zs s).length-d.length-1=0 by omega,show Z3A (d++ [u]) 0=(Zs s).map Zc by rw[he,hs1];simp[Z3A]];exact FIN.rows h0 0 1 _ rfl rfl rfl (Ye _) ⟨rfl,rfl,rfl⟩
 ·have h1:2<=(Zs u).length:=by rw[hs1];have:=J6 (u.drop (m+1));simp;omega
  repeat'((first|refine CALL.value (Z53 _) rfl rfl ?_|(refine GET.at (row:=Zc []) (Z9V (by omega) (by omega)) ?_;conv=>whnf)|refine AU ?_|(refine IW ?_ ?_<;>intro h<;>try(exfalso;omega)))<;>conv=>whnf)
  have hw1:(IntKind.i64.wrap (Lib.indexByte u 45+(([45]:List UInt8).length:Int))).toNat=m+1:=by
   rw[hm];simp only[List.length_cons,List.length_nil];rw[Z9 (by omega) (by omega)];omega
  have hw2:(IntKind.i64.wrap (Lib.indexByte u 45+0)).toNat=m:=by
   rw[hm,Z9 (by omega) (by omega)];omega
  rw[hw1,hw2,Z9W (by omega) (by omega)];refine⟨(d++ [u.take m],u.drop (m+1)),⟨by rw[he,hs1];simp,by simp;omega⟩,by simp;omega,?_⟩;dsimp only;conv=>whnf
  (refine GOES.cutting h0 rfl rfl rfl (by first|rfl|(simp only[Zn,Zm,Z4 _ (Z7j _ _),Bool.and_self,Bool.and_true]<;>rfl)) ?_ ?_<;>(repeat'(first|(with_reducible rfl)|(exact X2 rfl (by first|(simp;done)|omega|(simp;omega)))|(exact congrArg (SV.int _) (by first|omega|(simp(disch:=omega) only[lnB,Z9,Zq]<;>omega)|(simp;done)|(simp<;>omega)))|(exact congrArg (Hp.rows _) (by congr 1;simp;omega))|((conv=>whnf);refine⟨?_,?_⟩)|exact trivial|rfl)))
theorem Zb8(s:List UInt8)(hs:s.length<=68719476736):Does prog tab 166 0 [.str s, .str [45]] [] [] (NewS 1 ((Zs s).map Zc)):=by
 refine Does.enter Z1 call166 func166 rfl 8 rfl rfl [.tmp 4] rfl ?_;intro w0 F η0 h0;conv=>whnf
 refine CALL.newS (Z5S s hs) rfl (Ye _) ?_;conv=>whnf
 exact FIN.rows h0 0 1 _ rfl rfl rfl (Ye _) ⟨rfl,rfl,rfl⟩
open Tryz
theorem Zb9(s:List UInt8)(hs:Sm s):Does prog tab 201 0 [.str s] [] [] (Val (.bool (ZD s 2 8 true))):=by
 refine Does.enter Z1 call201 func201 rfl 5 rfl rfl [.tmp 2] rfl ?_;intro w0 F η0 h0;conv=>whnf
 repeat'((first|refine CALL.value (JZ _ _ _ _ hs) rfl rfl ?_|refine AU ?_|(refine IW ?_ ?_<;>intro h<;>try(exfalso;omega)))<;>conv=>whnf)
 exact FIN.value h0 rfl rfl
theorem Zba(s:List UInt8)(hs:Sm s):Does prog tab 203 0 [.str s] [] [] (Val (.bool (ZD s 3 3 true))):=by
 refine Does.enter Z1 call203 func203 rfl 5 rfl rfl [.tmp 2] rfl ?_;intro w0 F η0 h0;conv=>whnf
 repeat'((first|refine CALL.value (JZ _ _ _ _ hs) rfl rfl ?_|refine AU ?_|(refine IW ?_ ?_<;>intro h<;>try(exfalso;omega)))<;>conv=>whnf)
 exact FIN.value h0 rfl rfl
theorem Zbb(s:List UInt8)(hs:Sm s):Does prog tab 204 0 [.str s] [] [] (Val (.bool (ZD s 4 4 true))):=by
 refine Does.enter Z1 call204 func204 rfl 5 rfl rfl [.tmp 2] rfl ?_;intro w0 F η0 h0;conv=>whnf
 repeat'((first|refine CALL.value (JZ _ _ _ _ hs) rfl rfl ?_|refine AU ?_|(refine IW ?_ ?_<;>intro h<;>try(exfalso;omega)))<;>conv=>whnf)
 exact FIN.value h0 rfl rfl
theorem W5(s:List UInt8)(hs:Sm s):Does prog tab 208 0 [.str s] [] [] (Val (.bool (Xk s))):=by
 refine Does.enter Z1 call208 func208 rfl 10 rfl rfl [.tmp 2] rfl ?_;intro w0 F η0 h0;conv=>whnf
 repeat'((first|refine CALL.value (JZ _ _ _ _ hs) rfl rfl ?_|refine CALL.value (Vk _) rfl rfl ?_|refine AU ?_|(refine IW ?_ ?_<;>intro h<;>try(exfalso;omega)))<;>conv=>whnf)
 all_goals
  refine FIN.value h0 rfl (congrArg SV.bool ?_);unfold Xk
  simp_all
theorem Z0W(s:List UInt8)(least:Int)(hs:Sm s):Does prog tab 209 1 [.str s, .ptr (.loc 0) 0 0 0] [] [(0, .box [.int .i64 least])] (ValK 1 (.bool (ZD s least 8 false))):=by
 refine Does.enter Z1 call209 func209 rfl 7 rfl rfl [.tmp 3] rfl ?_;intro w0 F η0 h0;conv=>whnf
 repeat'((first|refine CALL.value (JZ _ _ _ _ hs) rfl rfl ?_|refine AU ?_|(refine IW ?_ ?_<;>intro h<;>try(exfalso;omega)))<;>conv=>whnf)
 exact FIN.valueK h0 rfl rfl
def UH(i m:Nat)(L E S R:List UInt8)(v x:Nat)(P:List UInt8):Hp:= .box [.sl (.loc 1) i 1 m none, .str L, .str E, .str S, .str R, .sl (.loc 2) 0 1 v none, .sl (.loc 3) 0 1 x none, .str P]
def Wp(i m:Nat)(L E S R:List UInt8)(v x:Nat)(P:List UInt8):Hp:= .box [.sl (.loc 1) i 1 m none, .str L, .str E, .str S, .str R, .any, .any, .str P]
def Jn(i m:Nat)(L E S R:List UInt8)(v x:Nat)(P:List UInt8):Hp:= .box [.sl (.loc 1) i 1 m none, .str L, .str E, .str S, .str R, .sl (.loc 4) 0 1 v none, .sl (.loc 5) 0 1 x none, .str P]
def Yq(p:List UInt8->Bool)(ps:List (List UInt8))(i:Nat):Bool:=match ps[i]? with|some s=>p s|none=>false
theorem Wq{ps:List (List UInt8)}{i:Nat}{p:List UInt8}(h:ps[i]?=some p):((ps.take (i+1)).map List.length).sum=((ps.take i).map List.length).sum+p.length:=by
 obtain⟨h1,rfl⟩:=List.getElem?_eq_some_iff.1 h;rw[List.take_succ_eq_append_getElem h1,List.map_append,List.sum_append];simp
abbrev Jo(ps:List (List UInt8)):Nat:=(ps.map List.length).sum
theorem YE(ps:List (List UInt8))(i:Nat):((ps.take i).map List.length).sum<=Jo ps:=by
 conv=>rhs;unfold Jo;rw[<-List.take_append_drop i ps]
 rw[List.map_append,List.sum_append];omega
theorem V0(g:Nat)(p:List UInt8->Bool)(ps:List (List UInt8))(hp:∀s∈ps,Does prog tab g 0 [.str s] [] [] (Val (.bool (p s))))(i m:Nat)(him:i+m=ps.length)(L E S R:List UInt8)(v x:Nat)(P:List UInt8):
 Does prog tab 167 4 [.ptr (.loc 0) 0 0 0, .fn (.func g) [] []] [] [(0,UH i m L E S R v x P),(1, .rows 1 (ps.map Zc))] (ValK 4 (.bool (Yq p ps i))):=by
 refine Does.enter Z1 call167 func167 rfl 21 rfl rfl [.tmp 4] rfl ?_;intro w0 F η0 h0;conv=>whnf
 repeat'((first|(refine GET.at (row:=Zc (ps[i]'(by omega))) (by rw[List.getElem?_map,show i+(0:Int).toNat=i by simp,List.getElem?_eq_getElem (by omega)];rfl) ?_;conv=>whnf)|refine CALL.value (hp _ (List.getElem_mem (by omega))) rfl rfl ?_|refine AU ?_|(refine IW ?_ ?_<;>intro h<;>try(exfalso;omega)))<;>conv=>whnf)
 ·refine FIN.valueK h0 rfl (congrArg SV.bool ?_);unfold Yq;rw[List.getElem?_eq_getElem (by omega)];rfl
 ·refine FIN.valueK h0 rfl (congrArg SV.bool ?_);unfold Yq;rw[List.getElem?_eq_none (by omega)]
theorem Z5T(least:Int)(ps:List (List UInt8))(hp:∀s∈ps,Sm s)(i m:Nat)(him:i+m=ps.length)(L E S R:List UInt8)(v x:Nat)(P:List UInt8):
 Does prog tab 167 5 [.ptr (.loc 0) 0 0 0, .fn (.func 209) [] [.ptr (.loc 4) 0 0 0]] [] [(0,UH i m L E S R v x P),(1, .rows 1 (ps.map Zc)),(4, .box [.int .i64 least])] (ValK 5 (.bool (Yq (fun s=>ZD s least 8 false) ps i))):=by
 refine Does.enter Z1 call167 func167 rfl 21 rfl rfl [.tmp 4] rfl ?_;intro w0 F η0 h0;conv=>whnf
 repeat'((first|(refine GET.at (row:=Zc (ps[i]'(by omega))) (by rw[List.getElem?_map,show i+(0:Int).toNat=i by simp,List.getElem?_eq_getElem (by omega)];rfl) ?_;conv=>whnf)|(refine CALL.looks [4] (Z0W (ps[i]'(by omega)) least (hp _ (List.getElem_mem (by omega)))) rfl rfl rfl rfl ⟨⟨rfl,rfl,rfl⟩,trivial⟩ ?_;conv=>whnf)|refine AU ?_|(refine IW ?_ ?_<;>intro h<;>try(exfalso;omega)))<;>conv=>whnf)
 ·refine FIN.valueK h0 rfl (congrArg SV.bool ?_);unfold Yq;rw[List.getElem?_eq_getElem (by omega)];rfl
 ·refine FIN.valueK h0 rfl (congrArg SV.bool ?_);unfold Yq;rw[List.getElem?_eq_none (by omega)]
theorem Yr(ps:List (List UInt8))(i m:Nat)(him:i+(m+1)=ps.length)(p:List UInt8)(hp:ps[i]?=some p)(L E S R:List UInt8)(v x:Nat)(P:List UInt8):
 Does prog tab 171 4 [.ptr (.loc 0) 0 0 0] [(0,UH i (m+1) L E S R v x P)] [(1, .rows 1 (ps.map Zc))] (fun r O nx=>r= .str p/\O=[(0,UH (i+1) m L E S R v x P)]/\nx=4):=by
 refine Does.enter Z1 call171 func171 rfl 19 rfl rfl [.tmp 2] rfl ?_;intro w0 F η0 h0;conv=>whnf
 repeat'((first|(refine GET.at (row:=Zc p) (by rw[List.getElem?_map,show i+(0:Int).toNat=i by simp,hp];rfl) ?_;conv=>whnf)|refine AU ?_|(refine IW ?_ ?_<;>intro h<;>try(exfalso;omega)))<;>conv=>whnf)
 exact FIN.here h0 (Oc:=[(0,UH (i+1) m L E S R v x P)]) rfl rfl rfl ⟨rfl,trivial⟩ ⟨rfl,rfl,rfl⟩
theorem Zd4(least:Int)(ps:List (List UInt8))(hb:Jo ps+ps.length<=1152921504606846976)(i m:Nat)(him:i+m=ps.length)(L E S R:List UInt8)(v x:Nat)(P:List UInt8):
 Does prog tab 172 4 [.ptr (.loc 0) 0 0 0, .int .i64 least] [(0,UH i m L E S R v x P)] [(1, .rows 1 (ps.map Zc))]
  (fun r O nx=> ∃(n:Nat) (s:List UInt8),n=ZS (fun s=>ZD s least 8 false) (ps.drop i)/\s.length<=Jo ps+ps.length/\r= .tup [.str s, .bool (decide (n≠0))]/\O=[(0,UH (i+n) (m-n) L E S R v x P)]/\nx=4):=by
 have hsm:∀s∈ps,Sm s:=by
  intro s hs;obtain⟨j,hj,rfl⟩:=List.getElem_of_mem hs;have h1:=Wq (List.getElem?_eq_getElem hj);have h2:=YE ps (j+1);omega
 refine Does.enter Z1 call172 func172 rfl 18 rfl rfl [.tmp 4, .tmp 5] rfl ?_;intro w0 F η0 h0;conv=>whnf
 refine LOOP.go Z1 [0,3] (X:=Nat×List UInt8) (fun y=>y.1<=m/\y.2.length<=((ps.take (i+y.1)).map List.length).sum+(i+y.1)/\(y.1=0<->y.2=[])/\ZS (fun s=>ZD s least 8 false) (ps.drop i)=y.1+ZS (fun s=>ZD s least 8 false) (ps.drop (i+y.1))) (fun y=>[(6, .str y.2)]) (fun y=>[(0,UH (i+y.1) (m-y.1) L E S R v x P),(4, .box [.int .i64 least])]) 5 (fun y=>m-y.1) (0,[]) ⟨by simp,by simp,by simp,by simp⟩ ?_;conv=>whnf
 refine⟨by exact GOES.cA h0,?_⟩;rintro⟨n,s⟩ ⟨hn,hl,h0s,hspan⟩;dsimp only at hn hl h0s hspan⊢;conv=>whnf
 refine CALL.hA (Z5T least ps hsm (i+n) (m-n) (by omega) L E S R v x P) ?_ ?_
 ·rintro r O' nx' ⟨rfl,rfl,rfl⟩;exact⟨rfl,rfl,rfl⟩
 rintro r O' ⟨rfl,rfl,_⟩;conv=>whnf
 refine⟨fun h=>?_,fun h=>?_⟩
 ·obtain⟨p,hp,hpm⟩:∃p,ps[i+n]?=some p/\ZD p least 8 false=true:=by
   unfold Yq at h;cases hp:ps[i+n]? with
   |none=>rw[hp]at h;cases h
   |some p=>rw[hp]at h;exact⟨p,rfl,h⟩
  have hlt:=(List.getElem?_eq_some_iff.1 hp).1;have hs1:=Wq hp;have hs2:=YE ps (i+n+1);obtain⟨k,hk⟩:∃k,m-n=k+1:=⟨m-n-1,by omega⟩;rw[hk];conv=>whnf
  refine CALL.hA (Yr ps (i+n) k (by omega) p hp L E S R v x P) ?_ ?_
  ·rintro r O' nx' ⟨rfl,rfl,rfl⟩;exact⟨rfl,rfl,rfl⟩
  rintro r O' ⟨rfl,rfl,_⟩;conv=>whnf
  repeat'((first|refine AU ?_|(refine IW ?_ ?_<;>intro h<;>try(exfalso;omega)))<;>conv=>whnf)
  have hsp:ZS (fun s=>ZD s least 8 false) (ps.drop (i+n))=ZS (fun s=>ZD s least 8 false) (ps.drop (i+(n+1)))+1:=by
   rw[List.drop_eq_getElem_cons hlt]
   have:ps[i+n]=p:=by
    have:=List.getElem?_eq_getElem hlt;rw[hp]at this;injection this with this;exact this.symm
   rw[this];simp only[ZS,hpm,if_true]
   rfl
  refine⟨(n+1,s++([45]++p)),⟨by simp only;omega,?_,by simp,by simp only;omega⟩,by simp only;omega,?_⟩
  ·simp only[List.length_append,List.length_cons,List.length_nil];rw[show i+(n+1)=i+n+1 by omega,hs1];omega
  ·dsimp only;rw[show i+(n+1)=i+n+1 by omega,show m-(n+1)=k by omega];conv=>whnf
   exact GOES.cA h0
 ·have hsp:ZS (fun s=>ZD s least 8 false) (ps.drop (i+n))=0:=by
   unfold Yq at h;cases hp:ps[i+n]? with
   |none=>rw[List.drop_eq_nil_of_le (by simpa using hp)];rfl
   |some p=>
    rw[hp]at h;have hlt:=(List.getElem?_eq_some_iff.1 hp).1;rw[List.drop_eq_getElem_cons hlt]
    have:ps[i+n]=p:=by
     have:=List.getElem?_eq_getElem hlt;rw[hp]at this;injection this with this;exact this.symm
    rw[this];simp only[ZS];simp only at h;simp[h]
  have hs2:=YE ps (i+n);conv=>whnf
  repeat'((first|refine AU ?_|(refine IW ?_ ?_<;>intro h<;>try(exfalso;omega)))<;>conv=>whnf)
  refine FIN.here h0 (rc:= .tup [.str s, .bool (decide (n≠0))]) (Oc:=[(0,UH (i+n) (m-n) L E S R v x P)]) ?_ rfl rfl ⟨rfl,trivial⟩ ⟨n,s,by omega,by omega,rfl,rfl,rfl⟩;show SV.tup [SV.str s,SV.bool (s !=[])]=SV.tup [SV.str s,SV.bool (decide (n≠0))]
  have:(s !=[])=decide (n≠0):=by rw[Bool.eq_iff_iff];simp[h0s]
  rw[this]
theorem Zbc(g:Nat)(p:List UInt8->Bool)(ps:List (List UInt8))(hp:∀s∈ps,Does prog tab g 0 [.str s] [] [] (Val (.bool (p s))))(i m:Nat)(him:i+m=ps.length)(L E S R:List UInt8)(v x:Nat)(P:List UInt8):
 Does prog tab 167 4 [.ptr (.loc 0) 0 0 0, .fn (.func g) [] []] [] [(0,Wp i m L E S R v x P),(1, .rows 1 (ps.map Zc))] (ValK 4 (.bool (Yq p ps i))):=by
 refine Does.enter Z1 call167 func167 rfl 21 rfl rfl [.tmp 4] rfl ?_;intro w0 F η0 h0;conv=>whnf
 repeat'((first|(refine GET.at (row:=Zc (ps[i]'(by omega))) (by rw[List.getElem?_map,show i+(0:Int).toNat=i by simp,List.getElem?_eq_getElem (by omega)];rfl) ?_;conv=>whnf)|refine CALL.value (hp _ (List.getElem_mem (by omega))) rfl rfl ?_|refine AU ?_|(refine IW ?_ ?_<;>intro h<;>try(exfalso;omega)))<;>conv=>whnf)
 ·refine FIN.valueK h0 rfl (congrArg SV.bool ?_);unfold Yq;rw[List.getElem?_eq_getElem (by omega)];rfl
 ·refine FIN.valueK h0 rfl (congrArg SV.bool ?_);unfold Yq;rw[List.getElem?_eq_none (by omega)]
theorem Z4k(least:Int)(ps:List (List UInt8))(hp:∀s∈ps,Sm s)(i m:Nat)(him:i+m=ps.length)(L E S R:List UInt8)(v x:Nat)(P:List UInt8):
 Does prog tab 167 5 [.ptr (.loc 0) 0 0 0, .fn (.func 209) [] [.ptr (.loc 4) 0 0 0]] [] [(0,Wp i m L E S R v x P),(1, .rows 1 (ps.map Zc)),(4, .box [.int .i64 least])] (ValK 5 (.bool (Yq (fun s=>ZD s least 8 false) ps i))):=by
 refine Does.enter Z1 call167 func167 rfl 21 rfl rfl [.tmp 4] rfl ?_;intro w0 F η0 h0;conv=>whnf
 repeat'((first|(refine GET.at (row:=Zc (ps[i]'(by omega))) (by rw[List.getElem?_map,show i+(0:Int).toNat=i by simp,List.getElem?_eq_getElem (by omega)];rfl) ?_;conv=>whnf)|(refine CALL.looks [4] (Z0W (ps[i]'(by omega)) least (hp _ (List.getElem_mem (by omega)))) rfl rfl rfl rfl ⟨⟨rfl,rfl,rfl⟩,trivial⟩ ?_;conv=>whnf)|refine AU ?_|(refine IW ?_ ?_<;>intro h<;>try(exfalso;omega)))<;>conv=>whnf)
 ·refine FIN.valueK h0 rfl (congrArg SV.bool ?_);unfold Yq;rw[List.getElem?_eq_getElem (by omega)];rfl
 ·refine FIN.valueK h0 rfl (congrArg SV.bool ?_);unfold Yq;rw[List.getElem?_eq_none (by omega)]
theorem Wr(ps:List (List UInt8))(i m:Nat)(him:i+(m+1)=ps.length)(p:List UInt8)(hp:ps[i]?=some p)(L E S R:List UInt8)(v x:Nat)(P:List UInt8):
 Does prog tab 171 4 [.ptr (.loc 0) 0 0 0] [(0,Wp i (m+1) L E S R v x P)] [(1, .rows 1 (ps.map Zc))] (fun r O nx=>r= .str p/\O=[(0,Wp (i+1) m L E S R v x P)]/\nx=4):=by
 refine Does.enter Z1 call171 func171 rfl 19 rfl rfl [.tmp 2] rfl ?_;intro w0 F η0 h0;conv=>whnf
 repeat'((first|(refine GET.at (row:=Zc p) (by rw[List.getElem?_map,show i+(0:Int).toNat=i by simp,hp];rfl) ?_;conv=>whnf)|refine AU ?_|(refine IW ?_ ?_<;>intro h<;>try(exfalso;omega)))<;>conv=>whnf)
 exact FIN.here h0 (Oc:=[(0,Wp (i+1) m L E S R v x P)]) rfl rfl rfl ⟨rfl,trivial⟩ ⟨rfl,rfl,rfl⟩
theorem Zbd(least:Int)(ps:List (List UInt8))(hb:Jo ps+ps.length<=1152921504606846976)(i m:Nat)(him:i+m=ps.length)(L E S R:List UInt8)(v x:Nat)(P:List UInt8):
 Does prog tab 172 4 [.ptr (.loc 0) 0 0 0, .int .i64 least] [(0,Wp i m L E S R v x P)] [(1, .rows 1 (ps.map Zc))]
  (fun r O nx=> ∃(n:Nat) (s:List UInt8),n=ZS (fun s=>ZD s least 8 false) (ps.drop i)/\s.length<=Jo ps+ps.length/\r= .tup [.str s, .bool (decide (n≠0))]/\O=[(0,Wp (i+n) (m-n) L E S R v x P)]/\nx=4):=by
 have hsm:∀s∈ps,Sm s:=by
  intro s hs;obtain⟨j,hj,rfl⟩:=List.getElem_of_mem hs;have h1:=Wq (List.getElem?_eq_getElem hj);have h2:=YE ps (j+1);omega
 refine Does.enter Z1 call172 func172 rfl 18 rfl rfl [.tmp 4, .tmp 5] rfl ?_;intro w0 F η0 h0;conv=>whnf
 refine LOOP.go Z1 [0,3] (X:=Nat×List UInt8) (fun y=>y.1<=m/\y.2.length<=((ps.take (i+y.1)).map List.length).sum+(i+y.1)/\(y.1=0<->y.2=[])/\ZS (fun s=>ZD s least 8 false) (ps.drop i)=y.1+ZS (fun s=>ZD s least 8 false) (ps.drop (i+y.1))) (fun y=>[(6, .str y.2)]) (fun y=>[(0,Wp (i+y.1) (m-y.1) L E S R v x P),(4, .box [.int .i64 least])]) 5 (fun y=>m-y.1) (0,[]) ⟨by simp,by simp,by simp,by simp⟩ ?_;conv=>whnf
 refine⟨by exact GOES.cA h0,?_⟩;rintro⟨n,s⟩ ⟨hn,hl,h0s,hspan⟩;dsimp only at hn hl h0s hspan⊢;conv=>whnf
 refine CALL.hA (Z4k least ps hsm (i+n) (m-n) (by omega) L E S R v x P) ?_ ?_
 ·rintro r O' nx' ⟨rfl,rfl,rfl⟩;exact⟨rfl,rfl,rfl⟩
 rintro r O' ⟨rfl,rfl,_⟩;conv=>whnf
 refine⟨fun h=>?_,fun h=>?_⟩
 ·obtain⟨p,hp,hpm⟩:∃p,ps[i+n]?=some p/\ZD p least 8 false=true:=by
   unfold Yq at h;cases hp:ps[i+n]? with
   |none=>rw[hp]at h;cases h
   |some p=>rw[hp]at h;exact⟨p,rfl,h⟩
  have hlt:=(List.getElem?_eq_some_iff.1 hp).1;have hs1:=Wq hp;have hs2:=YE ps (i+n+1);obtain⟨k,hk⟩:∃k,m-n=k+1:=⟨m-n-1,by omega⟩;rw[hk];conv=>whnf
  refine CALL.hA (Wr ps (i+n) k (by omega) p hp L E S R v x P) ?_ ?_
  ·rintro r O' nx' ⟨rfl,rfl,rfl⟩;exact⟨rfl,rfl,rfl⟩
  rintro r O' ⟨rfl,rfl,_⟩;conv=>whnf
  repeat'((first|refine AU ?_|(refine IW ?_ ?_<;>intro h<;>try(exfalso;omega)))<;>conv=>whnf)
  have hsp:ZS (fun s=>ZD s least 8 false) (ps.drop (i+n))=ZS (fun s=>ZD s least 8 false) (ps.drop (i+(n+1)))+1:=by
   rw[List.drop_eq_getElem_cons hlt]
   have:ps[i+n]=p:=by
    have:=List.getElem?_eq_getElem hlt;rw[hp]at this;injection this with this;exact this.symm
   rw[this];simp only[ZS,hpm,if_true]
   rfl
  refine⟨(n+1,s++([45]++p)),⟨by simp only;omega,?_,by simp,by simp only;omega⟩,by simp only;omega,?_⟩
  ·simp only[List.length_append,List.length_cons,List.length_nil];rw[show i+(n+1)=i+n+1 by omega,hs1];omega
  ·dsimp only;rw[show i+(n+1)=i+n+1 by omega,show m-(n+1)=k by omega];conv=>whnf
   exact GOES.cA h0
 ·have hsp:ZS (fun s=>ZD s least 8 false) (ps.drop (i+n))=0:=by
   unfold Yq at h;cases hp:ps[i+n]? with
   |none=>rw[List.drop_eq_nil_of_le (by simpa using hp)];rfl
   |some p=>
    rw[hp]at h;have hlt:=(List.getElem?_eq_some_iff.1 hp).1;rw[List.drop_eq_getElem_cons hlt]
    have:ps[i+n]=p:=by
     have:=List.getElem?_eq_getElem hlt;rw[hp]at this;injection this with this;exact this.symm
    rw[this];simp only[ZS];simp only at h;simp[h]
  have hs2:=YE ps (i+n);conv=>whnf
  repeat'((first|refine AU ?_|(refine IW ?_ ?_<;>intro h<;>try(exfalso;omega)))<;>conv=>whnf)
  refine FIN.here h0 (rc:= .tup [.str s, .bool (decide (n≠0))]) (Oc:=[(0,Wp (i+n) (m-n) L E S R v x P)]) ?_ rfl rfl ⟨rfl,trivial⟩ ⟨n,s,by omega,by omega,rfl,rfl,rfl⟩;show SV.tup [SV.str s,SV.bool (s !=[])]=SV.tup [SV.str s,SV.bool (decide (n≠0))]
  have:(s !=[])=decide (n≠0):=by rw[Bool.eq_iff_iff];simp[h0s]
  rw[this]
theorem Xz(g:Nat)(p:List UInt8->Bool)(ps:List (List UInt8))(hp:∀s∈ps,Does prog tab g 0 [.str s] [] [] (Val (.bool (p s))))(i m:Nat)(him:i+m=ps.length)(L E S R:List UInt8)(v x:Nat)(P:List UInt8):
 Does prog tab 167 7 [.ptr (.loc 0) 0 0 0, .fn (.func g) [] []] [] [(0,Jn i m L E S R v x P),(1, .rows 1 (ps.map Zc))] (ValK 7 (.bool (Yq p ps i))):=by
 refine Does.enter Z1 call167 func167 rfl 21 rfl rfl [.tmp 4] rfl ?_;intro w0 F η0 h0;conv=>whnf
 repeat'((first|(refine GET.at (row:=Zc (ps[i]'(by omega))) (by rw[List.getElem?_map,show i+(0:Int).toNat=i by simp,List.getElem?_eq_getElem (by omega)];rfl) ?_;conv=>whnf)|refine CALL.value (hp _ (List.getElem_mem (by omega))) rfl rfl ?_|refine AU ?_|(refine IW ?_ ?_<;>intro h<;>try(exfalso;omega)))<;>conv=>whnf)
 ·refine FIN.valueK h0 rfl (congrArg SV.bool ?_);unfold Yq;rw[List.getElem?_eq_getElem (by omega)];rfl
 ·refine FIN.valueK h0 rfl (congrArg SV.bool ?_);unfold Yq;rw[List.getElem?_eq_none (by omega)]
theorem Z4l(least:Int)(ps:List (List UInt8))(hp:∀s∈ps,Sm s)(i m:Nat)(him:i+m=ps.length)(L E S R:List UInt8)(v x:Nat)(P:List UInt8):
 Does prog tab 167 8 [.ptr (.loc 0) 0 0 0, .fn (.func 209) [] [.ptr (.loc 7) 0 0 0]] [] [(0,Jn i m L E S R v x P),(1, .rows 1 (ps.map Zc)),(7, .box [.int .i64 least])] (ValK 8 (.bool (Yq (fun s=>ZD s least 8 false) ps i))):=by
 refine Does.enter Z1 call167 func167 rfl 21 rfl rfl [.tmp 4] rfl ?_;intro w0 F η0 h0;conv=>whnf
 repeat'((first|(refine GET.at (row:=Zc (ps[i]'(by omega))) (by rw[List.getElem?_map,show i+(0:Int).toNat=i by simp,List.getElem?_eq_getElem (by omega)];rfl) ?_;conv=>whnf)|(refine CALL.looks [7] (Z0W (ps[i]'(by omega)) least (hp _ (List.getElem_mem (by omega)))) rfl rfl rfl rfl ⟨⟨rfl,rfl,rfl⟩,trivial⟩ ?_;conv=>whnf)|refine AU ?_|(refine IW ?_ ?_<;>intro h<;>try(exfalso;omega)))<;>conv=>whnf)
 ·refine FIN.valueK h0 rfl (congrArg SV.bool ?_);unfold Yq;rw[List.getElem?_eq_getElem (by omega)];rfl
 ·refine FIN.valueK h0 rfl (congrArg SV.bool ?_);unfold Yq;rw[List.getElem?_eq_none (by omega)]
theorem Y1(ps:List (List UInt8))(i m:Nat)(him:i+(m+1)=ps.length)(p:List UInt8)(hp:ps[i]?=some p)(L E S R:List UInt8)(v x:Nat)(P:List UInt8):
 Does prog tab 171 7 [.ptr (.loc 0) 0 0 0] [(0,Jn i (m+1) L E S R v x P)] [(1, .rows 1 (ps.map Zc))] (fun r O nx=>r= .str p/\O=[(0,Jn (i+1) m L E S R v x P)]/\nx=7):=by
 refine Does.enter Z1 call171 func171 rfl 19 rfl rfl [.tmp 2] rfl ?_;intro w0 F η0 h0;conv=>whnf
 repeat'((first|(refine GET.at (row:=Zc p) (by rw[List.getElem?_map,show i+(0:Int).toNat=i by simp,hp];rfl) ?_;conv=>whnf)|refine AU ?_|(refine IW ?_ ?_<;>intro h<;>try(exfalso;omega)))<;>conv=>whnf)
 exact FIN.here h0 (Oc:=[(0,Jn (i+1) m L E S R v x P)]) rfl rfl rfl ⟨rfl,trivial⟩ ⟨rfl,rfl,rfl⟩
theorem W6(least:Int)(ps:List (List UInt8))(hb:Jo ps+ps.length<=1152921504606846976)(i m:Nat)(him:i+m=ps.length)(L E S R:List UInt8)(v x:Nat)(P:List UInt8):
 Does prog tab 172 7 [.ptr (.loc 0) 0 0 0, .int .i64 least] [(0,Jn i m L E S R v x P)] [(1, .rows 1 (ps.map Zc))]
  (fun r O nx=> ∃(n:Nat) (s:List UInt8),n=ZS (fun s=>ZD s least 8 false) (ps.drop i)/\s.length<=Jo ps+ps.length/\r= .tup [.str s, .bool (decide (n≠0))]/\O=[(0,Jn (i+n) (m-n) L E S R v x P)]/\nx=7):=by
 have hsm:∀s∈ps,Sm s:=by
  intro s hs;obtain⟨j,hj,rfl⟩:=List.getElem_of_mem hs;have h1:=Wq (List.getElem?_eq_getElem hj);have h2:=YE ps (j+1);omega
 refine Does.enter Z1 call172 func172 rfl 18 rfl rfl [.tmp 4, .tmp 5] rfl ?_;intro w0 F η0 h0;conv=>whnf
 refine LOOP.go Z1 [0,3] (X:=Nat×List UInt8) (fun y=>y.1<=m/\y.2.length<=((ps.take (i+y.1)).map List.length).sum+(i+y.1)/\(y.1=0<->y.2=[])/\ZS (fun s=>ZD s least 8 false) (ps.drop i)=y.1+ZS (fun s=>ZD s least 8 false) (ps.drop (i+y.1))) (fun y=>[(6, .str y.2)]) (fun y=>[(0,Jn (i+y.1) (m-y.1) L E S R v x P),(7, .box [.int .i64 least])]) 8 (fun y=>m-y.1) (0,[]) ⟨by simp,by simp,by simp,by simp⟩ ?_;conv=>whnf
 refine⟨by exact GOES.cA h0,?_⟩;rintro⟨n,s⟩ ⟨hn,hl,h0s,hspan⟩;dsimp only at hn hl h0s hspan⊢;conv=>whnf
 refine CALL.hA (Z4l least ps hsm (i+n) (m-n) (by omega) L E S R v x P) ?_ ?_
 ·rintro r O' nx' ⟨rfl,rfl,rfl⟩;exact⟨rfl,rfl,rfl⟩
 rintro r O' ⟨rfl,rfl,_⟩;conv=>whnf
 refine⟨fun h=>?_,fun h=>?_⟩
 ·obtain⟨p,hp,hpm⟩:∃p,ps[i+n]?=some p/\ZD p least 8 false=true:=by
   unfold Yq at h;cases hp:ps[i+n]? with
   |none=>rw[hp]at h;cases h
   |some p=>rw[hp]at h;exact⟨p,rfl,h⟩
  have hlt:=(List.getElem?_eq_some_iff.1 hp).1;have hs1:=Wq hp;have hs2:=YE ps (i+n+1);obtain⟨k,hk⟩:∃k,m-n=k+1:=⟨m-n-1,by omega⟩;rw[hk];conv=>whnf
  refine CALL.hA (Y1 ps (i+n) k (by omega) p hp L E S R v x P) ?_ ?_
  ·rintro r O' nx' ⟨rfl,rfl,rfl⟩;exact⟨rfl,rfl,rfl⟩
  rintro r O' ⟨rfl,rfl,_⟩;conv=>whnf
  repeat'((first|refine AU ?_|(refine IW ?_ ?_<;>intro h<;>try(exfalso;omega)))<;>conv=>whnf)
  have hsp:ZS (fun s=>ZD s least 8 false) (ps.drop (i+n))=ZS (fun s=>ZD s least 8 false) (ps.drop (i+(n+1)))+1:=by
   rw[List.drop_eq_getElem_cons hlt]
   have:ps[i+n]=p:=by
    have:=List.getElem?_eq_getElem hlt;rw[hp]at this;injection this with this;exact this.symm
   rw[this];simp only[ZS,hpm,if_true]
   rfl
  refine⟨(n+1,s++([45]++p)),⟨by simp only;omega,?_,by simp,by simp only;omega⟩,by simp only;omega,?_⟩
  ·simp only[List.length_append,List.length_cons,List.length_nil];rw[show i+(n+1)=i+n+1 by omega,hs1];omega
  ·dsimp only;rw[show i+(n+1)=i+n+1 by omega,show m-(n+1)=k by omega];conv=>whnf
   exact GOES.cA h0
 ·have hsp:ZS (fun s=>ZD s least 8 false) (ps.drop (i+n))=0:=by
   unfold Yq at h;cases hp:ps[i+n]? with
   |none=>rw[List.drop_eq_nil_of_le (by simpa using hp)];rfl
   |some p=>
    rw[hp]at h;have hlt:=(List.getElem?_eq_some_iff.1 hp).1;rw[List.drop_eq_getElem_cons hlt]
    have:ps[i+n]=p:=by
     have:=List.getElem?_eq_getElem hlt;rw[hp]at this;injection this with this;exact this.symm
    rw[this];simp only[ZS];simp only at h;simp[h]
  have hs2:=YE ps (i+n);conv=>whnf
  repeat'((first|refine AU ?_|(refine IW ?_ ?_<;>intro h<;>try(exfalso;omega)))<;>conv=>whnf)
  refine FIN.here h0 (rc:= .tup [.str s, .bool (decide (n≠0))]) (Oc:=[(0,Jn (i+n) (m-n) L E S R v x P)]) ?_ rfl rfl ⟨rfl,trivial⟩ ⟨n,s,by omega,by omega,rfl,rfl,rfl⟩;show SV.tup [SV.str s,SV.bool (s !=[])]=SV.tup [SV.str s,SV.bool (decide (n≠0))]
  have:(s !=[])=decide (n≠0):=by rw[Bool.eq_iff_iff];simp[h0s]
  rw[this]
open Tryz
def Z5U:Plan:=(.take 0 1 (.take 1 1 (.take 2 1 (.take 3 1 (.take 5 1 (.fork 4 3 6 0 (Zv [(6,0),(7,1),(8,1),(9,1),(10,1),(11,0)]) (Zv [(4,2),(7,1),(8,1),(9,1),(10,1),(11,0)])))))))
theorem WM{ps:List (List UInt8)}(hb:Jo ps+ps.length<=1152921504606846976):∀s∈ps,Sm s:=by
 intro s hs;obtain⟨j,hj,rfl⟩:=List.getElem_of_mem hs;have h1:=Wq (List.getElem?_eq_getElem hj);have h2:=YE ps (j+1);omega
theorem ZN{p:List UInt8->Bool}{ps:List (List UInt8)}{i:Nat}(h:Yq p ps i=true):∃s,ps[i]?=some s/\p s=true:=by
 unfold Yq at h;cases hp:ps[i]? with
 |none=>rw[hp]at h;cases h
 |some s=>rw[hp]at h;exact⟨s,rfl,h⟩
theorem ZV{ps:List (List UInt8)}{i:Nat}{s:List UInt8}(h:ps[i]?=some s):ps.drop i=s::ps.drop (i+1):=by
 obtain⟨h1,rfl⟩:=List.getElem?_eq_some_iff.1 h;exact List.drop_eq_getElem_cons h1
theorem Xq{p:List UInt8->Bool}{ps:List (List UInt8)}{i:Nat}(h:Yq p ps i=false):ps.drop i=[]\/∃s,ps[i]?=some s/\ps.drop i=s::ps.drop (i+1)/\p s=false:=by
 unfold Yq at h;cases hp:ps[i]? with
 |none=>exact .inl (List.drop_eq_nil_of_le (by simpa using hp))
 |some s=>rw[hp]at h;exact .inr ⟨s,rfl,ZV hp,h⟩
theorem Zgd{n:Nat}{ps:List (List UInt8)}{i:Nat}(h:Yq (fun s=>ZD s 3 3 true) ps i=false):extP n (ps.drop i)=ps.drop i:=by
 rcases Xq h with h|⟨s,_,h1,h2⟩
 ·rw[h];cases n<;>rfl
 ·rw[h1];cases n with
  |zero=>rfl
  |succ n=>simp only[extP];simp[h2]
theorem Je{s:List UInt8}{a b:Int}{pure:Bool}(h:ZD s a b pure=true):a<=s.length/\(s.length:Int)<=b:=by
 unfold ZD at h;simp at h;omega
theorem Z5V(ps:List (List UInt8))(hb:Jo ps+ps.length<=1152921504606846976)(i m:Nat)(him:i+m=ps.length)(S R:List UInt8)(v x:Nat)(P:List UInt8):
 Does prog tab 169 4 [.ptr (.loc 0) 0 0 0] [(0,UH i m [] [] S R v x P)] [(1, .rows 1 (ps.map Zc))]
  (fun r O nx=> ∃(i' m':Nat) (L E:List UInt8),i'+m'=ps.length/\r= .bool (Jw (ps.drop i)).isSome/\(∀l,Jw (ps.drop i)=some l->l=ps.drop i')/\O=[(0,UH i' m' L E S R v x P)]/\nx=4):=by
 have hsm:=WM hb;refine Does.enter Z1 call169 func169 rfl 50 rfl rfl [.tmp 2] rfl ?_;intro w0 F η0 h0;conv=>whnf
 refine CALL.hA (V0 201 _ ps (fun s hs=>Zb9 s (hsm s hs)) i m him [] [] S R v x P) ?_ ?_
 ·rintro r O' nx' ⟨rfl,rfl,rfl⟩;exact⟨rfl,rfl,rfl⟩
 rintro r O' ⟨rfl,rfl,_⟩;conv=>whnf
 refine IF.mk (fun h=>?_) (fun h=>?_)
 ·conv=>whnf
  have h:Yq (fun s=>ZD s 2 8 true) ps i=false:=by simpa using h
  have hn:Jw (ps.drop i)=none:=by
   rcases Xq h with h|⟨s,_,h1,h2⟩
   ·rw[h];rfl
   ·rw[h1];simp only[Jw];simp[h2]
  exact FIN.here h0 (Oc:=[(0,UH i m [] [] S R v x P)]) rfl rfl rfl ⟨rfl,trivial⟩ ⟨i,m,[],[],him,by rw[hn];rfl,by simp[hn],rfl,rfl⟩
 have h:Yq (fun s=>ZD s 2 8 true) ps i=true:=by simpa using h
 obtain⟨p,hp,hpm⟩:=ZN h;have hlt:=(List.getElem?_eq_some_iff.1 hp).1;have hd:=ZV hp;obtain⟨k,rfl⟩:∃k,m=k+1:=⟨m-1,by omega⟩;have hlen:=Je hpm;conv=>whnf
 refine CALL.hA (Yr ps i k him p hp [] [] S R v x P) ?_ ?_
 ·rintro r O' nx' ⟨rfl,rfl,rfl⟩;exact⟨rfl,rfl,rfl⟩
 rintro r O' ⟨rfl,rfl,_⟩;conv=>whnf
 refine IF.mk (fun h=>?_) (fun h=>?_)
 ·conv=>whnf
  have h:3<p.length:=by simp at h;omega
  exact FIN.here h0 (Oc:=[(0,UH (i+1) k p [] S R v x P)]) rfl rfl rfl ⟨rfl,trivial⟩ ⟨i+1,k,p,[],by omega,by rw[hd];simp only[Jw];simp[hpm,h],by rw[hd];simp only[Jw];simp[hpm,h],rfl,rfl⟩
 have h:¬3<p.length:=by simp at h;omega
 have hL:Jw (ps.drop i)=some (extP 3 (ps.drop (i+1))):=by rw[hd];simp only[Jw];rw[if_pos hpm,if_neg h]
 conv=>whnf
 refine LOOP.go Z1 [0] (X:=Nat×List UInt8×Nat) (fun y=>y.1<=3/\y.2.1.length<=4*y.1/\y.2.2+(ps.length-y.2.2)=ps.length/\extP 3 (ps.drop (i+1))=extP (3-y.1) (ps.drop y.2.2)) (fun y=>[(3, .int .i64 (y.1:Int))]) (fun y=>[(0,UH y.2.2 (ps.length-y.2.2) p y.2.1 S R v x P)]) 4 (fun y=>3-y.1) (0,[],i+1) ⟨by simp,by simp,by simp only;omega,rfl⟩ ?_;conv=>whnf
 rw[show ps.length-(i+1)=k by omega];refine⟨by exact GOES.cA h0,?_⟩;rintro⟨c,E,a⟩ ⟨hc,hE,ha,hx⟩;dsimp only at hc hE ha hx⊢;conv=>whnf
 have fin:Yq (fun s=>ZD s 3 3 true) ps a=false\/c=3->extP 3 (ps.drop (i+1))=ps.drop a:=by
  rintro(h|h)
  ·rw[hx,Zgd h]
  ·subst h;rw[hx];rfl
 refine IF.mk (fun h=>?_) (fun h=>?_)
 ·have h:c<3:=by simp at h;omega
  conv=>whnf
  repeat'((first|refine AU ?_|(refine IW ?_ ?_<;>intro h<;>try(exfalso;omega)))<;>conv=>whnf)
  refine CALL.hA (V0 203 _ ps (fun s hs=>Zba s (hsm s hs)) a (ps.length-a) ha p E S R v x P) ?_ ?_
  ·rintro r O' nx' ⟨rfl,rfl,rfl⟩;exact⟨rfl,rfl,rfl⟩
  rintro r O' ⟨rfl,rfl,_⟩;conv=>whnf
  repeat'((first|refine AU ?_|(refine IW ?_ ?_<;>intro h<;>try(exfalso;omega)))<;>conv=>whnf)
  ·obtain⟨q,hq,hqm⟩:=ZN (by assumption);have hql:=Je hqm;obtain⟨k',hk'⟩:∃k',ps.length-a=k'+1:=⟨ps.length-a-1,by have:=(List.getElem?_eq_some_iff.1 hq).1;omega⟩;rw[hk'];repeat'((first|refine DRAWN.of (id:=11) Z1 mixed Z5U (by kernel_rfl) ?_|refine ADD.mk (fun _ _=>?_)|refine AD ?_|refine FORK.mk ?_ ?_|refine AU ?_|(refine IW ?_ ?_<;>intro h<;>try(exfalso;omega)))<;>conv=>whnf)
   all_goals
    refine CALL.hA (Yr ps a k' (by omega) q hq p (E++ [45]) S R v x P) ?_ ?_
    ·rintro r O' nx' ⟨rfl,rfl,rfl⟩;exact⟨rfl,rfl,rfl⟩
    rintro r O' ⟨rfl,rfl,_⟩;conv=>whnf
    repeat'((first|refine DRAWN.of (id:=11) Z1 mixed Z5U (by kernel_rfl) ?_|refine ADD.mk (fun _ _=>?_)|refine AD ?_|refine FORK.mk ?_ ?_|refine AU ?_|(refine IW ?_ ?_<;>intro h<;>try(exfalso;omega)))<;>conv=>whnf)
    refine⟨(c+1,(E++ [45])++q,a+1),⟨by simp only;omega,by simp only[List.length_append,List.length_cons,List.length_nil];omega,by simp only;omega,?_⟩,by simp only;omega,?_⟩
    ·rw[hx,ZV hq,show 3-c=(3-(c+1))+1 by omega];simp only[extP];rw[if_pos hqm]
    ·dsimp only;rw[show ps.length-(a+1)=k' by omega];conv=>whnf
     exact GOES.cA h0
  ·obtain⟨q,hq,hqm⟩:=ZN (by assumption);have hql:=Je hqm;obtain⟨k',hk'⟩:∃k',ps.length-a=k'+1:=⟨ps.length-a-1,by have:=(List.getElem?_eq_some_iff.1 hq).1;omega⟩;rw[hk'];have hc0:c=0:=by omega
   repeat'((first|refine DRAWN.of (id:=11) Z1 mixed Z5U (by kernel_rfl) ?_|refine ADD.mk (fun _ _=>?_)|refine AD ?_|refine FORK.mk ?_ ?_|refine AU ?_|(refine IW ?_ ?_<;>intro h<;>try(exfalso;omega)))<;>conv=>whnf)
   all_goals
    refine CALL.hA (Yr ps a k' (by omega) q hq p (E) S R v x P) ?_ ?_
    ·rintro r O' nx' ⟨rfl,rfl,rfl⟩;exact⟨rfl,rfl,rfl⟩
    rintro r O' ⟨rfl,rfl,_⟩;conv=>whnf
    repeat'((first|refine DRAWN.of (id:=11) Z1 mixed Z5U (by kernel_rfl) ?_|refine ADD.mk (fun _ _=>?_)|refine AD ?_|refine FORK.mk ?_ ?_|refine AU ?_|(refine IW ?_ ?_<;>intro h<;>try(exfalso;omega)))<;>conv=>whnf)
    refine⟨(c+1,(E)++q,a+1),⟨by simp only;omega,by simp only[List.length_append,List.length_cons,List.length_nil];omega,by simp only;omega,?_⟩,by simp only;omega,?_⟩
    ·rw[hx,ZV hq,show 3-c=(3-(c+1))+1 by omega];simp only[extP];rw[if_pos hqm]
    ·dsimp only;rw[show ps.length-(a+1)=k' by omega];conv=>whnf
     exact GOES.cA h0
  ·exact FIN.here h0 (Oc:=[(0,UH a (ps.length-a) p E S R v x P)]) rfl rfl rfl ⟨rfl,trivial⟩ ⟨a,ps.length-a,p,E,ha,by rw[hL];rfl,by rw[hL];rintro l ⟨⟩;exact fin (.inl (by assumption)),rfl,rfl⟩
 ·have h:c=3:=by simp at h;omega
  conv=>whnf
  repeat'((first|refine AU ?_|(refine IW ?_ ?_<;>intro h<;>try(exfalso;omega)))<;>conv=>whnf)
  exact FIN.here h0 (Oc:=[(0,UH a (ps.length-a) p E S R v x P)]) rfl rfl rfl ⟨rfl,trivial⟩ ⟨a,ps.length-a,p,E,ha,by rw[hL];rfl,by rw[hL];rintro l ⟨⟩;exact fin (.inr h),rfl,rfl⟩
theorem Z0X{p:List UInt8->Bool}{ps:List (List UInt8)}{i:Nat}(h:Yq p ps i=false):XQ p (ps.drop i)=ps.drop i:=by
 rcases Xq h with h|⟨s,_,h1,h2⟩
 ·rw[h];rfl
 ·rw[h1];simp only[XQ];rw[if_neg (by simp[h2])]
theorem Vm{p:List UInt8->Bool}{ps:List (List UInt8)}{i:Nat}{s:List UInt8}(h:ps[i]?=some s)(hp:p s=true):XQ p (ps.drop i)=ps.drop (i+1):=by
 rw[ZV h];simp only[XQ];rw[if_pos hp]
theorem Z5W(l:List (List UInt8))(s:List UInt8)(hl:l.length<=1152921504606846976):Does prog tab 236 1 [.sl (.loc 0) 0 1 l.length none, .str s] [] [(0, .rows 1 (l.map Zc))]
 (fun r O nx=> ∃n:Int,(0<=n<->s∈l)/\r= .int .i64 n/\O=[]/\nx=1):=by
 refine Does.enter Z1 call236 func236 rfl 19 rfl rfl [.tmp 4] rfl ?_;intro w0 F η0 h0;conv=>whnf
 refine LOOP.go Z1 [0,1,7] (X:=Nat) (fun i=>i<=l.length/\s∉l.take i) (fun i=>[(8, .int .i64 (i:Int))]) (fun i=>[]) 1 (fun i=>l.length-i) 0 ⟨by omega,by simp⟩ ?_;conv=>whnf
 refine⟨by exact GOES.cA h0,?_⟩;rintro i ⟨hi,hc⟩;conv=>whnf
 repeat'((first|(refine GET.at (row:=Zc (l[i]'(by omega))) (by rw[List.getElem?_map,show 0+(i:Int).toNat=i by omega,List.getElem?_eq_getElem (by omega)];rfl) ?_;conv=>whnf)|refine AU ?_|(refine IW ?_ ?_<;>intro h<;>try(exfalso;omega)))<;>conv=>whnf)
 ·have hl:i<l.length:=by omega
  exact FIN.val h0 rfl ⟨i,⟨fun _=>by subst h;exact List.getElem_mem hl,fun _=>by omega⟩,rfl,rfl,rfl⟩
 ·have hl:i<l.length:=by omega
  refine⟨i+1,⟨by omega,?_⟩,by omega,?_⟩
  ·rw[List.take_succ_eq_append_getElem hl];simp only[List.mem_append,List.mem_singleton];rintro(h1|h1)
   ·exact hc h1
   ·exact h h1
  ·conv=>whnf
   exact GOES.cA h0
 ·refine FIN.val h0 rfl ⟨-1,⟨fun h=>by omega,fun h1=>?_⟩,rfl,rfl,rfl⟩;rw[List.take_of_length_le (by omega)]at hc;exact(hc h1).elim
theorem Ys(l:List (List UInt8))(s:List UInt8)(hl:l.length<=1152921504606846976):Does prog tab 207 1 [.sl (.loc 0) 0 1 l.length none, .str s] [] [(0, .rows 1 (l.map Zc))] (ValK 1 (.bool (decide (s∈l)))):=by
 refine Does.enter Z1 call207 func207 rfl 9 rfl rfl [.tmp 4] rfl ?_;intro w0 F η0 h0;conv=>whnf
 refine CALL.hA (Z5W l s hl) ?_ ?_
 ·rintro r O' nx' ⟨n,_,rfl,rfl,rfl⟩;exact⟨rfl,rfl,rfl⟩
 rintro r O' ⟨n,hn,rfl,rfl,_⟩;conv=>whnf
 exact FIN.valueK h0 rfl (congrArg SV.bool (decide_eq_decide.2 hn))
def orE:List Int->Int
 | []=>0
 |a::l=>if a≠0 then a else orE l
def Zd5(a:Int):List SV:=[.int .i64 a]
theorem Z5X(xs:List Int)(hn:xs.length<=1152921504606846976):Does prog tab 138 1 [.sl (.loc 0) 0 1 xs.length none] [] [(0, .rows 1 (xs.map Zd5))] (ValK 1 (.int .i64 (orE xs))):=by
 refine Does.enter Z1 call138 func138 rfl 18 rfl rfl [.tmp 2] rfl ?_;intro w0 F η0 h0;conv=>whnf
 refine LOOP.go Z1 [3,6,7] (X:=Nat) (fun i=>i<=xs.length/\orE xs=orE (xs.drop i)) (fun i=>[(8, .int .i64 (i:Int))]) (fun i=>[]) 1 (fun i=>xs.length-i) 0 ⟨by omega,rfl⟩ ?_;conv=>whnf
 refine⟨by exact GOES.cA h0,?_⟩;rintro i ⟨hi,ho⟩;conv=>whnf
 repeat'((first|(refine GET.at (row:=Zd5 (xs[i]'(by omega))) (by rw[List.getElem?_map,show 0+(i:Int).toNat=i by omega,List.getElem?_eq_getElem (by omega)];rfl) ?_;conv=>whnf)|refine AU ?_|(refine IW ?_ ?_<;>intro h<;>try(exfalso;omega)))<;>conv=>whnf)
 ·have hl:i<xs.length:=by omega
  refine FIN.valueK h0 rfl (congrArg (SV.int _) ?_);rw[ho,List.drop_eq_getElem_cons hl];simp only[orE];rw[if_pos h]
 ·have hl:i<xs.length:=by omega
  refine⟨i+1,⟨by omega,?_⟩,by omega,?_⟩
  ·rw[ho,List.drop_eq_getElem_cons hl];simp only[orE];rw[if_neg (by simpa using h)]
  ·conv=>whnf
   exact GOES.cA h0
 ·refine FIN.valueK h0 rfl (congrArg (SV.int _) ?_);rw[ho,List.drop_eq_nil_of_le (by omega)];rfl
open Tryz
theorem Z1t(r:Int):Does prog tab 188 0 [.int .i64 r] [] [] (Val (.bool (decide (UE r)))):=by
 refine Does.enter Z1 call188 func188 rfl 9 rfl rfl [.tmp 2] rfl ?_;intro w0 F η0 h0;conv=>whnf
 repeat'((first|refine AU ?_|(refine IW ?_ ?_<;>intro h<;>try(exfalso;omega)))<;>conv=>whnf)
 refine FIN.value h0 rfl (congrArg SV.bool ?_);rw[Bool.eq_iff_iff];simp only[Bool.cond_eq_ite,decide_eq_true_eq,Bool.if_false_right,Bool.if_true_left,Bool.and_eq_true,Bool.or_eq_true]
 rfl
def Zf5:List (List SV):=[65,90,97,122,192,214,216,246,248,767,880,893,895,8191,8204,8205,8304,8591,11264,12271,12289,55295,63744,64975,65008,65533,65536,983039].map fun x=>[SV.int .i64 x]
theorem Z7u:Does prog tab 240 0 [] [] [] (Val (.arr 1 Zf5)):=by
 refine Does.enter Z1 call240 func240 rfl 2 rfl rfl [.cell 0 266] rfl ?_;intro w0 F η0 h0;conv=>whnf
 repeat'((first|refine AU ?_|(refine IW ?_ ?_<;>intro h<;>try(exfalso;omega)))<;>conv=>whnf)
 exact FIN.value h0 rfl rfl
theorem Z8N(r:Int):Does prog tab 219 0 [.int .i64 r] [] [] (Val (.bool (decide (Z3z r)))):=by
 refine Does.enter Z1 call219 func219 rfl 23 rfl rfl [.tmp 2] rfl ?_;intro w0 F η0 h0;conv=>whnf
 repeat'((first|refine CALL.value (Z7u) rfl rfl ?_|(refine LOOP.once Z1 ?_;conv=>whnf)|(refine NEED.mk ⟨rfl,rfl,rfl,rfl,rfl⟩ ?_;conv=>whnf)|refine AU ?_|(refine IW ?_ ?_<;>intro h<;>try(exfalso;omega)))<;>conv=>whnf)
 all_goals
  refine FIN.value h0 rfl (congrArg SV.bool ?_)
  first
   |exact(decide_eq_true (by unfold Z3z;omega)).symm
   |exact(decide_eq_false (by unfold Z3z;omega)).symm
theorem Ws(r:Int):Does prog tab 187 0 [.int .i64 r] [] [] (Val (.bool (decide (Z0g r)))):=by
 refine Does.enter Z1 call187 func187 rfl 9 rfl rfl [.tmp 2] rfl ?_;intro w0 F η0 h0;conv=>whnf
 repeat'((first|refine CALL.value (Z8N _) rfl rfl ?_|refine AU ?_|(refine IW ?_ ?_<;>intro h<;>try(exfalso;omega)))<;>conv=>whnf)
 all_goals
  refine FIN.value h0 rfl (congrArg SV.bool ?_);rw[Bool.eq_iff_iff,decide_eq_true_iff];unfold Z0g;simp
theorem Z3H(r:Int):Does prog tab 220 0 [.int .i64 r] [] [] (Val (.bool (decide (YM r)))):=by
 refine Does.enter Z1 call220 func220 rfl 33 rfl rfl [.tmp 2] rfl ?_;intro w0 F η0 h0;conv=>whnf
 repeat'((first|refine CALL.value (Ws _) rfl rfl ?_|refine CALL.value (Z1t _) rfl rfl ?_|refine AU ?_|(refine IW ?_ ?_<;>intro h<;>try(exfalso;omega)))<;>conv=>whnf)
 all_goals
  refine FIN.value h0 rfl (congrArg SV.bool ?_);rw[Bool.eq_iff_iff];unfold YM
  simp_all
  try omega
def Z0l(x:Int):List SV:=[.int .i64 x]
theorem Z3I(l:List Int):Zp (l.map Z0l)=true:=ZQ _ (fun _=>rfl) l
instance :PlF Z0l:=⟨fun _=>rfl⟩
theorem Z3J{l:List Int}{i:Nat}(h:i<l.length):XL (l.drop i)=if i+1=l.length then decide (YM l[i])else(decide (YM l[i]\/l[i]=46)&&XL (l.drop (i+1))):=by
 rw[List.drop_eq_getElem_cons h];cases hd:l.drop (i+1)with
 |nil=>
  have:=congrArg List.length hd;simp at this;rw[if_pos (by omega)];rfl
 |cons q t=>
  have:=congrArg List.length hd;simp at this;rw[if_neg (by omega)];rfl
theorem Z5Y(l:List Int)(hl:l.length<=1152921504606846976):Does prog tab 189 1 [.sl (.loc 0) 0 1 l.length none] [] [(0, .rows 1 (l.map Z0l))] (ValK 1 (.bool (XL (l.drop 1)))):=by
 refine Does.enter Z1 call189 func189 rfl 30 rfl rfl [.tmp 2] rfl ?_;intro w0 F η0 h0;conv=>whnf
 refine LOOP.go Z1 [0] (X:=Nat) (fun i=>1<=i/\XL (l.drop i)=XL (l.drop 1)) (fun i=>[(3, .int .i64 (i:Int))]) (fun i=>[]) 1 (fun i=>l.length-i) 1 ⟨by omega,rfl⟩ ?_;conv=>whnf
 refine⟨by exact GOES.cA h0,?_⟩;rintro i ⟨hi,hc⟩;conv=>whnf
 repeat'((first|refine CALL.value (Z3H _) rfl rfl ?_|(refine GET.map (by omega) ?_;conv=>whnf)|(refine GETG.at (row:=Z0l (l[0+(i:Int).toNat]'(by omega))) (by rw[List.getElem?_map,List.getElem?_eq_getElem (by omega)];rfl) ?_;conv=>whnf)|refine AU ?_|(refine IW ?_ ?_<;>intro h<;>try(exfalso;omega)))<;>conv=>whnf)
 ·rename_i h1;have h1:i<l.length:=by omega
  have e:l[0+(i:Int).toNat]=l[i]:=by congr 1;omega
  rw[e]at h;refine FIN.valueK h0 rfl (congrArg SV.bool ?_);rw[<-hc,Z3J h1];split
  ·simp[h.1]
  ·rcases h.2 with h2|h2
   ·simp[h.1,h2]
   ·omega
 ·rename_i h1;have h1:i<l.length:=by omega
  have e:l[0+(i:Int).toNat]=l[i]:=by congr 1;omega
  rw[e]at h;refine⟨i+1,⟨by omega,?_⟩,by omega,?_⟩
  ·rw[<-hc,Z3J h1];by_cases hf:YM l[i]
   ·split
    ·rename_i h2;rw[List.drop_eq_nil_of_le (by omega)];simp[hf,XL]
    ·simp[hf]
   ·have:=h hf;rw[if_neg (by omega)];simp[this.1]
  ·conv=>whnf
   exact GOES.cA h0
 ·refine FIN.valueK h0 rfl (congrArg SV.bool ?_);rw[<-hc,List.drop_eq_nil_of_le (by omega)];rfl
def Z5Z(o:Option (List Int)):SV->Hps->Nat->Prop:=fun r O nx=>match o with
 |some l=>r= .tup [.sl (.loc 0) 0 1 l.length none, .bool true]/\O=[(0, .rows 1 (l.map Z0l))]/\nx=1
 |none=>r= .tup [.val (.slice none 0 0), .bool false]/\O=[]/\nx=0
theorem Wt(s:List UInt8)(hs:s.length<=68719476736):Does prog tab 186 0 [.str s] [] [] (Z5Z (scalarsM s 0)):=by
 refine Does.enter Z1 call186 func186 rfl 28 rfl rfl [.tmp 2, .tmp 3] rfl ?_;intro w0 F η0 h0;conv=>whnf
 refine LOOP.nil 4 1 rfl ?_;refine LOOP.go Z1 [0] (X:=Nat×List Int) (fun x=>x.1<=s.length/\x.2.length<=x.1/\scalarsM s 0=(scalarsM s x.1).map (x.2++ ·)) (fun x=>[(5, .int .i64 (x.1:Int)),(4, .sl (.loc 0) 0 1 x.2.length none)]) (fun x=>[(0, .rows 1 (x.2.map Z0l))]) 1 (fun x=>s.length-x.1) (0,[]) ⟨by simp,by simp,by cases scalarsM s 0<;>simp⟩ ?_;conv=>whnf
 refine⟨by exact GOES.cA h0,?_⟩;rintro⟨i,l⟩ ⟨hi,hl,hc⟩;simp only at hi hl hc;have hn:=YL s i;dsimp only;conv=>whnf
 repeat'((first|refine CALL.value (Wo s _ (by omega)) rfl rfl ?_|refine AU ?_|(refine IW ?_ ?_<;>intro h<;>try(exfalso;omega)))<;>conv=>whnf)
 ·rename_i h1;refine FIN.val h0 rfl ?_;have:scalarsM s i=none:=by rw[scalarsM,dif_pos (by omega),dif_neg (by simpa using h)]
  rw[hc,this];exact⟨rfl,rfl,rfl⟩
 ·rename_i h1;refine⟨(i+(Za s i).2.toNat,l++ [(Za s i).1]),⟨by simp only;omega,by simp only[List.length_append,List.length_cons,List.length_nil];omega,?_⟩,by simp only;omega,?_⟩
  ·rw[hc];conv=>lhs;rw[scalarsM,dif_pos (by omega),dif_pos (by simpa using h)]
   cases scalarsM s (i+(Za s i).2.toNat)<;>simp
  ·dsimp only;conv=>whnf
   exact GOES.kA h0 [2]
 ·refine FIN.rowsT h0 0 1 _ rfl rfl rfl (Z3I _) rfl ?_;have:scalarsM s i=some []:=by rw[scalarsM,dif_neg (by omega)]
  rw[hc,this];simp[Z5Z]
theorem Z8O(s:List UInt8)(i:Nat):∀l,scalarsM s i=some l->l.length<=s.length-i:=by
 induction i using scalarsM.induct s with
 |case1 i h h0 ih=>
  intro l hl;have hn:=YL s i;rw[scalarsM,dif_pos h,dif_pos h0]at hl;cases hc:scalarsM s (i+(Za s i).2.toNat)with
  |none=>rw[hc]at hl;cases hl
  |some t=>
   rw[hc]at hl;simp only[Option.map_some,Option.some.injEq]at hl;subst hl;have:=ih t hc;simp only[List.length_cons];omega
 |case2 i h h0=>intro l hl;rw[scalarsM,dif_pos h,dif_neg h0]at hl;cases hl
 |case3 i h=>intro l hl;rw[scalarsM,dif_neg h]at hl;injection hl with hl;subst hl;simp
theorem Z7v(s:List UInt8)(hs:s.length<=68719476736):Does prog tab 159 0 [.str s] [] [] (Val (.int .i64 (Z9Q s))):=by
 refine Does.enter Z1 call159 func159 rfl 36 rfl rfl [.tmp 2] rfl ?_;intro w0 F η0 h0;conv=>whnf
 unfold Z9Q;cases hc:scalarsM s 0 with
 |none=>
  have sp:=(Wt s hs).mono (Q':=Val (.tup [.val (.slice none 0 0), .bool false])) (fun r O nx hq=>by rw[hc]at hq;exact hq);refine CALL.value sp rfl rfl ?_;conv=>whnf
  repeat'((first|refine AU ?_|(refine IW ?_ ?_<;>intro h<;>try(exfalso;omega)))<;>conv=>whnf)
  exact FIN.value h0 rfl rfl
 |some l=>
  have sp:=(Wt s hs).mono (Q':=NewT 1 (l.map Z0l) [.bool true]) (fun r O nx hq=>by rw[hc]at hq;simpa[NewT,Z5Z]using hq);refine CALL.newT sp rfl (Z3I l) rfl ?_;have hlen:(l.map Z0l).length=l.length:=by simp
  rw[hlen];conv=>whnf
  cases l with
  |nil=>
   repeat'((first|refine AU ?_|(refine IW ?_ ?_<;>intro h<;>try(exfalso;omega)))<;>conv=>whnf)
   exact FIN.value h0 rfl rfl
  |cons r l=>
   have hL:(r::l).length<=1152921504606846976:=by have:=Z8O s 0 _ hc;omega
   repeat'((first|(refine GET.at (row:=Z0l r) rfl ?_;conv=>whnf)|refine CALL.value (Ws _) rfl rfl ?_|refine CALL.value (Z1t _) rfl rfl ?_|(refine CALL.look1 _ (Z5Y (r::l) hL) rfl rfl rfl rfl (Z3I _) rfl ?_;conv=>whnf)|refine AU ?_|(refine IW ?_ ?_<;>intro h<;>try(exfalso;omega)))<;>conv=>whnf)
   all_goals
    refine FIN.value h0 rfl (congrArg (SV.int _) ?_);try simp only[List.drop_succ_cons,List.drop_zero]at h
    unfold JW;simp[*]
open Tryz
theorem Wu(s:List UInt8)(hs:Sm s):Does prog tab 243 0 [.str s] [] [] (Val (.bool (allB JX s 0))):=by
 refine Does.enter Z1 call243 func243 rfl 29 rfl rfl [.tmp 2] rfl ?_;intro w0 F η0 h0;conv=>whnf
 refine LOOP.go Z1 [0] (X:=Nat) (fun i=>i<=s.length/\allB JX s i=allB JX s 0) (fun i=>[(3, .int .i64 (i:Int))]) (fun i=>[]) 0 (fun i=>s.length-i) 0 ⟨by omega,rfl⟩ ?_;conv=>whnf
 refine⟨by exact GOES.cA h0,?_⟩;rintro i ⟨hi,hc⟩;conv=>whnf
 repeat'((first|refine AU ?_|(refine IW ?_ ?_<;>intro h<;>try(exfalso;omega)))<;>conv=>whnf)
 ·refine FIN.value h0 rfl (congrArg SV.bool ?_);rw[<-hc,Jv (by omega),show JX (Z2 s i)=false from decide_eq_false (by unfold XK;omega)];rfl
 ·refine⟨i+1,⟨by omega,?_⟩,by omega,?_⟩
  ·rw[<-hc,Jv (i:=i) (by omega),show JX (Z2 s i)=true from decide_eq_true (by unfold XK;omega),Bool.true_and]
  ·conv=>whnf
   exact GOES.cA h0
 ·refine FIN.value h0 rfl (congrArg SV.bool ?_);rw[<-hc,W4 (by omega)]
theorem V1(s:List UInt8)(hs:Sm s):Does prog tab 242 0 [.str s] [] [] (Val (.bool (allB Xx s 0))):=by
 refine Does.enter Z1 call242 func242 rfl 20 rfl rfl [.tmp 2] rfl ?_;intro w0 F η0 h0;conv=>whnf
 refine LOOP.go Z1 [0] (X:=Nat) (fun i=>i<=s.length/\allB Xx s i=allB Xx s 0) (fun i=>[(3, .int .i64 (i:Int))]) (fun i=>[]) 0 (fun i=>s.length-i) 0 ⟨by omega,rfl⟩ ?_;conv=>whnf
 refine⟨by exact GOES.cA h0,?_⟩;rintro i ⟨hi,hc⟩;conv=>whnf
 repeat'((first|refine AU ?_|(refine IW ?_ ?_<;>intro h<;>try(exfalso;omega)))<;>conv=>whnf)
 ·refine FIN.value h0 rfl (congrArg SV.bool ?_);rw[<-hc,Jv (by omega),show Xx (Z2 s i)=false from decide_eq_false (by unfold UE;omega)];rfl
 ·refine⟨i+1,⟨by omega,?_⟩,by omega,?_⟩
  ·rw[<-hc,Jv (i:=i) (by omega),show Xx (Z2 s i)=true from decide_eq_true (by unfold UE;omega),Bool.true_and]
  ·conv=>whnf
   exact GOES.cA h0
 ·refine FIN.value h0 rfl (congrArg SV.bool ?_);rw[<-hc,W4 (by omega)]
theorem cutB{s:List UInt8}{i:Nat}(h:i<s.length):(s.drop (i:Int).toNat).take (((i:Int)+1).toNat-(i:Int).toNat)=[s.getD i 0]:=by
 rw[show((i:Int)+1).toNat-(i:Int).toNat=1 by omega,Int.toNat_natCast,X5 h];rfl
theorem Zif(s:List UInt8)(i:Nat):bn (s.getD i 0)=Z2 s i:=rfl
theorem V2(s:List UInt8)(least most:Int)(hs:Sm s):Does prog tab 227 0 [.str s, .int .i64 least, .int .i64 most] [] [] (Val (.bool (ZD s least most false))):=by
 refine Does.enter Z1 call227 func227 rfl 40 rfl rfl [.tmp 6] rfl ?_;intro w0 F η0 h0;conv=>whnf
 refine LOOP.go Z1 [0,1,2] (X:=Nat) (fun i=>i<=s.length/\allB (Zh false) s i=allB (Zh false) s 0) (fun i=>[(7, .int .i64 (i:Int))]) (fun i=>[]) 0 (fun i=>s.length-i) 0 ⟨by omega,rfl⟩ ?_;conv=>whnf
 refine⟨by exact GOES.cA h0,?_⟩;rintro i ⟨hi,hc⟩;conv=>whnf
 have sm:∀n m,Sm ((s.drop n).take m):=fun n m=>by simp;omega
 repeat'((first|refine CALL.value (Wu _ (sm _ _)) rfl rfl ?_|refine CALL.value (V1 _ (sm _ _)) rfl rfl ?_|refine AU ?_|(refine IW ?_ ?_<;>intro h<;>try(exfalso;omega)))<;>conv=>whnf)
 all_goals first
  |(have hl:i<s.length:=by omega
    simp only[cutB hl,Z9R,Zif]at*
    first
     |(refine FIN.value h0 rfl (congrArg SV.bool ?_)
       have h1:Zh false (Z2 s i)=false:=by unfold Zh;simp[*]
       unfold ZD;rw[<-hc,Jv hl,h1];rfl)
     |(have h1:Zh false (Z2 s i)=true:=by unfold Zh;simp[*]
       refine⟨i+1,⟨by omega,?_⟩,by omega,?_⟩
       ·rw[<-hc,Jv (i:=i) hl,h1,Bool.true_and]
       ·conv=>whnf
        exact GOES.cA h0))
  |(refine FIN.value h0 rfl (congrArg SV.bool ?_)
    unfold ZD;rw[<-hc,W4 (by omega),Bool.eq_iff_iff]
    simp[Bool.cond_eq_ite])
theorem Z4m(s:List UInt8)(hs:Sm s):Does prog tab 226 0 [.str s] [] [] (Val (.bool (Jd s))):=by
 have hm:ZD s 4 4 false=true->s.length=4:=by unfold ZD;simp;omega
 have sm:∀m,Sm (s.take m):=fun m=>by simp;omega
 refine Does.enter Z1 call226 func226 rfl 14 rfl rfl [.tmp 2] rfl ?_;intro w0 F η0 h0;conv=>whnf
 repeat'((first|refine CALL.value (V2 _ _ _ hs) rfl rfl ?_|refine CALL.value (V1 _ (sm _)) rfl rfl ?_|(refine NEED.mk (by have:=hm (by assumption);omega) ?_;conv=>whnf)|refine AU ?_|(refine IW ?_ ?_<;>intro h<;>try(exfalso;omega)))<;>conv=>whnf)
 all_goals
  refine FIN.value h0 rfl (congrArg SV.bool ?_);unfold Jd;by_cases h4:ZD s 4 4 false=true
  ·have:=hm h4;cases s with
   |nil=>simp at this
   |cons a t=>
    have ht:(a::t).take (1:Int).toNat=[a]:=rfl;have hb:bn a=Z2 (a::t) 0:=rfl;try simp only[ht,Z9R,hb]at*
    simp_all
  ·simp_all
theorem Yt(s:List UInt8)(hs:Sm s):Does prog tab 222 0 [.str s] [] [] (Val (.str (Z6 s))):=by
 refine Does.enter Z1 call222 func222 rfl 35 rfl rfl [.tmp 2] rfl ?_;intro w0 F η0 h0;conv=>whnf
 repeat'((first|refine AU ?_|(refine IW ?_ ?_<;>intro h<;>try(exfalso;omega)))<;>conv=>whnf)
 refine LOOP.go Z1 [3] (X:=Nat) (fun i=>i<=s.length) (fun i=>[(4, .int .i64 (i:Int))]) (fun i=>[(0, .rows 1 ((curL s i).map Sx.bytesRow))]) 1 (fun i=>s.length-i) 0 (by omega) ?_;conv=>whnf
 refine⟨by(refine GOES.cutting h0 rfl rfl rfl (by first|rfl|(simp only[Zn,Zm,Z4 _ (Xv _),Bool.and_self,Bool.and_true]<;>rfl)) ?_ ?_<;>(repeat'(first|(with_reducible rfl)|(exact X2 rfl (by first|(simp;done)|omega|(simp;omega)))|(exact congrArg (SV.int _) (by first|omega|(simp(disch:=omega) only[lnB,Z9,Zq]<;>omega)|(simp;done)|(simp<;>omega)))|(exact congrArg (Hp.rows _) (by rw[Z7h]))|((conv=>whnf);refine⟨?_,?_⟩)|exact trivial|rfl))),?_⟩;intro i hi;have hlen:=Z9S s i;conv=>whnf
 repeat'((first|(refine GET.at (row:=Sx.bytesRow (s[i]'(by omega))) (by rw[show 0+(i:Int).toNat=i by omega];exact Z5Q (by omega)) ?_;conv=>whnf)|(refine GETG.at (row:=Sx.bytesRow (s[i]'(by omega))) (by rw[show 0+(i:Int).toNat=i by omega];exact Z5Q (by omega)) ?_;conv=>whnf)|refine AU ?_|(refine IW ?_ ?_<;>intro h<;>try(exfalso;omega)))<;>conv=>whnf)
 ·have hl:i<s.length:=by omega
  refine⟨i+1,by omega,by omega,?_⟩;conv=>whnf
  (refine GOES.cutting h0 rfl rfl rfl (by first|rfl|(simp only[Zn,Zm,Z4 _ (Xv _),Bool.and_self,Bool.and_true]<;>rfl)) ?_ ?_<;>(repeat'(first|(with_reducible rfl)|(exact X2 rfl (by first|(simp;done)|omega|(simp;omega)))|(exact congrArg (SV.int _) (by first|omega|(simp(disch:=omega) only[lnB,Z9,Zq]<;>omega)|(simp;done)|(simp<;>omega)))|(exact congrArg (Hp.rows _) (by rw[Zd0 h,show 0+(i:Int).toNat=i by omega,Z9U hl]))|((conv=>whnf);refine⟨?_,?_⟩)|exact trivial|rfl)))
 ·have hl:i<s.length:=by omega
  refine⟨i+1,by omega,by omega,?_⟩;conv=>whnf
  (refine GOES.cutting h0 rfl rfl rfl (by first|rfl|(simp only[Zn,Zm,Z4 _ (Xv _),Bool.and_self,Bool.and_true]<;>rfl)) ?_ ?_<;>(repeat'(first|(with_reducible rfl)|(exact X2 rfl (by first|(simp;done)|omega|(simp;omega)))|(exact congrArg (SV.int _) (by first|omega|(simp(disch:=omega) only[lnB,Z9,Zq]<;>omega)|(simp;done)|(simp<;>omega)))|(exact congrArg (Hp.rows _) (by rw[Z7i hl (Z8B (by omega))]))|((conv=>whnf);refine⟨?_,?_⟩)|exact trivial|rfl)))
 ·refine NEED.mk (U7 (by omega)) ?_;conv=>whnf
  refine FIN.value h0 rfl (congrArg SV.str ?_);have:=Z8e (curL s i);rw[hlen]at this;rw[this,Z9T (by omega)]
open Tryz
theorem Zd8{s:List UInt8}{i:Nat}{c:UInt8}(h:i<s.length):Z2 s i=(c.toNat:Int)<->s[i]?=some c:=by
 unfold Z2;rw[Int.toNat_natCast,List.getD,List.getElem?_eq_getElem h];simp only[Option.getD_some,Option.some.injEq];constructor
 ·intro h1;exact UInt8.toNat_inj.1 (by omega)
 ·intro h1;rw[h1]
theorem Z7w(s:List UInt8)(hs:s.length<=34359738368):Does prog tab 221 0 [.str s] [] [] (NewS 1 ((Zs s).map Zc)):=by
 have hlen:=Z0i s;refine Does.enter Z1 call221 func221 rfl 31 rfl rfl [.tmp 2] rfl ?_;intro w0 F η0 h0;conv=>whnf
 refine LOOP.nil 3 1 rfl ?_;refine LOOP.go Z1 [0] (X:=List (List UInt8)×Nat×Nat) (fun y=>y.2.1<=y.2.2/\y.2.2<=s.length/\Zs s=y.1++Zs (s.drop y.2.1)/\∀c∈(s.drop y.2.1).take (y.2.2-y.2.1),c≠45) (fun y=>[(3, .sl (.loc 0) 0 1 y.1.length none),(4, .int .i64 (y.2.1:Int)),(5, .int .i64 (y.2.2:Int))]) (fun y=>[(0, .rows 1 (y.1.map Zc))]) 1 (fun y=>s.length-y.2.2) ([],0,0) ⟨by simp,by simp,by simp,by simp⟩ ?_;conv=>whnf
 refine⟨by exact GOES.kA h0 [0],?_⟩;rintro⟨l,f,i⟩ ⟨hf,hi,he,hn⟩;dsimp only at hf hi he hn⊢;have hl:l.length+(Zs (s.drop f)).length=(Zs s).length:=by rw[he,List.length_append]
 have hl1:1<=(Zs (s.drop f)).length:=by have:=J6 (s.drop f);omega
 conv=>whnf
 repeat'((first|refine AU ?_|(refine IW ?_ ?_<;>intro h<;>try(exfalso;omega)))<;>conv=>whnf)
 ·have h45:(s.drop f)[i-f]?=some 45:=by rw[List.getElem?_drop,show f+(i-f)=i by omega];exact(Zd8 (c:=45) (by omega)).1 h
  have hc:=Z7k _ _ hn h45;rw[List.drop_drop,show f+(i-f+1)=i+1 by omega]at hc;refine⟨(l++ [(s.drop f).take (i-f)],i+1,i+1),⟨by simp only;omega,by simp only;omega,by simp only;rw[he,hc];simp,by simp⟩,by simp only;omega,?_⟩;dsimp only;rw[show(l++ [(s.drop f).take (i-f)]).length=l.length+1 by simp];conv=>whnf
  exact GOES.kA h0 [2]
 ·refine⟨(l,f,i+1),⟨by simp only;omega,by simp only;omega,he,?_⟩,by simp only;omega,?_⟩
  ·dsimp only;intro c hc;have hlt:i-f< (s.drop f).length:=by rw[List.length_drop];omega
   rw[show i+1-f=(i-f)+1 by omega,List.take_succ_eq_append_getElem hlt]at hc;rcases List.mem_append.1 hc with hc|hc
   ·exact hn c hc
   ·have hc:=List.mem_singleton.1 hc;rintro rfl;refine h ((Zd8 (c:=45) (by omega)).2 ?_);have h1:(s.drop f)[i-f]?=some 45:=by rw[List.getElem?_eq_getElem hlt,<-hc]
    rwa [List.getElem?_drop,show f+(i-f)=i by omega]at h1
  ·dsimp only;conv=>whnf
   exact GOES.kA h0 [0]
 ·have hc:Zs (s.drop f)=[s.drop f]:=by
   refine Z7l _ fun c hc=>hn c ?_;rwa [List.take_of_length_le (by rw[List.length_drop];omega)]
  rw[he,hc]at*;refine FIN.rows h0 2 1 (l.length+1) rfl rfl rfl (by simp[Vv,ZQ,Ye,Zp,YB,plain,List.take_of_length_le]) ⟨by simp,?_,rfl⟩;simp[Zc,List.take_of_length_le]
theorem XO(ps:List (List UInt8))(hb:Jo ps+ps.length<=68719476736)(a m:Nat)(ham:a+m=ps.length):Does prog tab 241 1 [.sl (.loc 0) a 1 m none] [] [(0, .rows 1 (ps.map Zc))]
 (fun r O nx=> ∃s,s.length<=Jo ps+ps.length/\(∀p,ps[a]?=some p->∃t,s=p++t)/\r= .str s/\O=[]/\nx=1):=by
 refine Does.enter Z1 call241 func241 rfl 24 rfl rfl [.tmp 2] rfl ?_;intro w0 F η0 h0;conv=>whnf
 refine LOOP.nil 3 1 rfl ?_;refine LOOP.go Z1 [0] (X:=Nat×List UInt8) (fun y=>y.1<=m/\y.2.length<=((ps.take (a+y.1)).map List.length).sum+y.1/\(y.1≠0->∀p,ps[a]?=some p->∃t,y.2=p++t)/\(y.1=0->y.2=[])) (fun y=>[(3, .sl (.loc 1) 0 1 y.2.length none),(4, .int .i64 (y.1:Int))]) (fun y=>[(1, .rows 1 (y.2.map Sx.bytesRow))]) 2 (fun y=>m-y.1) (0,[]) ⟨by simp,by simp,by simp,by simp⟩ ?_;conv=>whnf
 refine⟨by exact GOES.kA h0 [1],?_⟩;rintro⟨c,b⟩ ⟨hc,hl,hp,h00⟩;dsimp only at hc hl hp h00⊢;have hbt:=YE ps (a+c);rcases Nat.lt_or_ge c m with hcm|hcm
 ·have hlt:a+c<ps.length:=by omega
  have hs1:=Wq (List.getElem?_eq_getElem hlt);have hs2:=YE ps (a+c+1)
  have key:∀b':List UInt8,(c=0->b'=[])->(c≠0->∃t,b'=b++t)->∀p,ps[a]?=some p->∃t,b'++ps[a+c]=p++t:=by
   intro b' h1 h2 p hpa;by_cases h:c=0
   ·subst h;obtain⟨h3,h4⟩:=List.getElem?_eq_some_iff.1 hpa;exact⟨[],by rw[h1 rfl,<-h4];simp⟩
   ·obtain⟨t,ht⟩:=hp h p hpa;obtain⟨t',ht'⟩:=h2 h;exact⟨t++t'++ps[a+c],by rw[ht',ht];simp⟩
  conv=>whnf
  repeat'((first|(refine GET.at (row:=Zc (ps[a+c]'(by omega))) (by rw[List.getElem?_map,show a+(c:Int).toNat=a+c by omega,List.getElem?_eq_getElem (by omega)];rfl) ?_;conv=>whnf)|refine AU ?_|(refine IW ?_ ?_<;>intro h<;>try(exfalso;omega)))<;>conv=>whnf)
  ·refine⟨(c+1,b++ [45]++ps[a+c]),⟨by simp only;omega,?_,fun _=>key _ (fun h1=>by omega) (fun _=>⟨[45],rfl⟩),by simp⟩,by simp only;omega,?_⟩
   ·simp only[List.length_append,List.length_cons,List.length_nil];rw[show a+(c+1)=a+c+1 by omega,hs1];omega
   ·dsimp only;have e:(b++ [45]++ps[a+c]).length=b.length+1+ps[a+c].length:=by simp;omega
    rw[e];conv=>whnf
    exact GOES.kA h0 [4]
  ·refine⟨(c+1,b++ps[a+c]),⟨by simp only;omega,?_,fun _=>key _ (fun h1=>h00 h1) (fun h1=>by omega),by simp⟩,by simp only;omega,?_⟩
   ·simp only[List.length_append];rw[show a+(c+1)=a+c+1 by omega,hs1];omega
   ·dsimp only;have e:(b++ps[a+c]).length=b.length+ps[a+c].length:=by simp
    rw[e];conv=>whnf
    exact GOES.kA h0 [2]
 ·conv=>whnf
  repeat'((first|refine AU ?_|(refine IW ?_ ?_<;>intro h<;>try(exfalso;omega)))<;>conv=>whnf)
  refine NEED.mk (U7 (by simp)) ?_;conv=>whnf
  refine FIN.val h0 rfl ⟨b,by omega,fun p hpa=>?_,by rw[Z8e],rfl,rfl⟩;have:=(List.getElem?_eq_some_iff.1 hpa).1;exact hp (by omega) p hpa
end Go.Proofs.YtbfbokdccdagkaaGreatDoor
