/- Part 9: Tab, Cmp7, Lists7, World1, Utf1, Utf04, StrLib, Iri, Iri2, Names1, Part1, Split1, Tag1, Tag2, Names2, Part2, Tag5, Tag6, Rise7, Fits7, LawMatch. Conditions: as each part says. -/
import Derived.Test.YtjbbkimodgffiaaGreatDoorProg
import Derived.Lib.Bytealg
import Derived.Test.YtjbbkimodgffiaaGreatDoorIGr6
import Derived.Test.YtjbbkimodgffiaaGreatDoorIGr8
set_option maxRecDepth 100000
namespace Go.Proofs.YtjbbkimodgffiaaGreatDoor
open Go.Sx
def bt {α : Type} (t n : Nat) (a b : α) : α := match Nat.ble t n with | true => a | false => b
theorem Z9s {α : Type} {t n : Nat} {a b : α} (h : Nat.ble t n = false) : bt t n a b = b := by unfold bt; rw [h]
def ZbK (t : TypeId) : Sh := bt t 248 (bt t 123 (bt t 61 (bt t 30 (bt t 14 (bt t 6 (bt t 2 (bt t 0 .plain (bt t 1 .func (.int .i64))) (bt t 4 (bt t 3 (.int .i64) .bool) (.int .u8))) (bt t 10 (bt t 8 (.struct [(0, 2), (1, 3), (2, 4), (3, 6)]) .str) (bt t 12 (bt t 11 .str (.int .u64)) (.struct [(0, 9), (1, 12)])))) (bt t 22 (bt t 18 (bt t 16 (bt t 15 (.ptr 235) (.ptr 238)) (bt t 17 (.ptr 247) (.struct [(0, 17)]))) (bt t 20 (bt t 19 (.struct [(0, 17)]) .iface) (bt t 21 (.int .i32) (.slice 30)))) (bt t 26 (bt t 24 (bt t 23 (.slice 42) .func) .func) (bt t 28 (.struct [(0, 3), (1, 9), (2, 9), (3, 9)]) (.struct [(0, 28), (4, 28), (8, 28), (12, 28)]))))) (bt t 45 (bt t 37 (bt t 33 (bt t 31 .plain (bt t 32 .func .plain)) (bt t 35 (bt t 34 .func .plain) (bt t 36 .func (.int .i64)))) (bt t 41 (bt t 39 (bt t 38 .plain .func) (bt t 40 .func (.struct [(0, 3), (1, 30), (17, 30), (33, 30)]))) (bt t 43 (bt t 42 (.struct [(0, 3), (1, 30), (17, 30), (33, 30)]) .func) (bt t 44 .plain .func)))) (bt t 53 (bt t 49 .func (bt t 51 .func (bt t 52 .func (.slice 28)))) (bt t 57 .func (bt t 59 .func (bt t 60 .plain .func)))))) (bt t 92 (bt t 76 (bt t 68 (bt t 64 (bt t 62 .func (bt t 63 .plain .func)) (bt t 66 .func (bt t 67 (.ptr 72) .func))) (bt t 72 (bt t 70 (bt t 69 (.map 30 3) (.map 105 22)) (.struct [(0, 22), (1, 23), (2, 69), (3, 70)])) (bt t 74 (bt t 73 .plain .func) (bt t 75 .func .plain)))) (bt t 84 (bt t 80 .func (bt t 82 (bt t 81 .plain .func) (bt t 83 (.map 3 3) .func))) .func)) (bt t 107 (bt t 99 .func (bt t 103 (bt t 101 (bt t 100 .func (.array 12 100)) .func) (bt t 105 (.struct [(0, 28), (4, 28), (8, 28), (12, 28)]) (bt t 106 (.array 3 105) .func)))) (bt t 115 (bt t 111 (bt t 109 .func (bt t 110 (.slice 3) .func)) (bt t 113 (bt t 112 (.array 6 3) .func) (bt t 114 (.slice 37) (.slice 22)))) (bt t 119 .func (bt t 121 .func (bt t 122 .func (.ptr 28)))))))) (bt t 185 (bt t 154 (bt t 138 (bt t 130 (bt t 126 (bt t 124 (.array 4 123) (bt t 125 .func (.ptr 30))) (bt t 128 (bt t 127 (.array 4 28) .func) .func)) (bt t 134 .func (bt t 136 (bt t 135 .func (.int .u64)) .func))) (bt t 146 (bt t 142 (bt t 140 .func (bt t 141 .func .plain)) (bt t 144 .func (bt t 145 (.slice 9) (.struct [(0, 9), (1, 9), (2, 9), (3, 9), (4, 145), (5, 145), (6, 9)])))) (bt t 150 (bt t 148 (bt t 147 (.struct [(0, 9), (1, 9), (2, 9), (3, 9), (4, 145), (5, 145), (6, 9)]) .plain) .func) (bt t 152 (bt t 151 (.int .i64) .plain) .func)))) (bt t 169 (bt t 161 (bt t 157 .func (bt t 159 (bt t 158 (.int .u32) .func) (bt t 160 (.int .u64) .func))) (bt t 165 (bt t 163 (bt t 162 .func .plain) .func) .func)) (bt t 177 (bt t 173 (bt t 171 .func (bt t 172 (.ptr 175) .func)) (bt t 175 (.struct [(0, 145)]) (bt t 176 .func (.ptr 147)))) (bt t 181 .func (bt t 183 (bt t 182 (.int .u64) .func) .func))))) (bt t 216 (bt t 200 (bt t 192 (bt t 188 (bt t 186 (.ptr 3) .func) (bt t 190 .func (bt t 191 .plain .func))) (bt t 196 (bt t 194 (bt t 193 (.ptr 196) .func) (.struct [(0, 145), (1, 147)])) (bt t 198 (bt t 197 .func .plain) (bt t 199 .func (.slice 5))))) (bt t 208 (bt t 204 (bt t 202 .func (bt t 203 .func (.array 28 3))) (bt t 206 .func (bt t 207 (.ptr 182) .func))) (bt t 212 (bt t 210 .func (bt t 211 .plain .func)) .func))) (bt t 232 (bt t 224 (bt t 220 (bt t 218 (bt t 217 .func (.array 5 3)) .func) (bt t 222 (bt t 221 (.array 5 21) .func) .func)) (bt t 228 (bt t 226 (bt t 225 .func (.array 24 21)) (bt t 227 .func (.array 256 5))) (bt t 230 (.struct [(0, 5), (1, 5)]) (bt t 231 (.array 16 230) .plain)))) (bt t 240 (bt t 236 (bt t 234 (bt t 233 .func (.struct [(0, 17), (1, 17), (2, 17), (3, 9)])) (bt t 235 (.struct [(0, 17), (1, 17), (2, 17), (3, 9)]) (.array 0 16))) (bt t 238 (.struct [(0, 236)]) (bt t 239 .func (.int .u8)))) (bt t 244 (bt t 242 (bt t 241 (.int .u8) .func) (bt t 243 (.ptr 5) (.int .i32))) (bt t 246 (bt t 245 (.int .i32) (.struct [(0, 12), (1, 12), (2, 158), (3, 240), (4, 5), (5, 5), (6, 241), (7, 242), (8, 243), (9, 244), (10, 245)])) (bt t 247 (.struct [(0, 12), (1, 12), (2, 158), (3, 240), (4, 5), (5, 5), (6, 241), (7, 242), (8, 243), (9, 244), (10, 245)]) .plain)))))))) .other
def ZaY (t : TypeId) : Nat := bt t 248 (bt t 123 (bt t 61 (bt t 30 (bt t 14 (bt t 6 1 (bt t 10 (bt t 8 4 1) (bt t 12 1 2))) (bt t 22 1 (bt t 26 1 (bt t 28 4 16)))) (bt t 45 (bt t 37 1 (bt t 41 (bt t 39 1 (bt t 40 1 49)) (bt t 43 (bt t 42 49 1) 1))) 1)) (bt t 92 (bt t 76 (bt t 68 1 (bt t 72 (bt t 70 1 4) 1)) 1) (bt t 107 (bt t 99 1 (bt t 103 (bt t 101 (bt t 100 1 12) 1) (bt t 105 16 (bt t 106 48 1)))) (bt t 115 (bt t 111 1 (bt t 113 (bt t 112 6 1) 1)) 1)))) (bt t 185 (bt t 154 (bt t 138 (bt t 130 (bt t 126 (bt t 124 4 1) (bt t 128 (bt t 127 16 1) 1)) 1) (bt t 146 (bt t 142 1 (bt t 144 1 (bt t 145 1 7))) (bt t 150 (bt t 148 (bt t 147 7 1) 1) 1))) 1) (bt t 216 (bt t 200 (bt t 192 1 (bt t 196 (bt t 194 1 8) 1)) (bt t 208 (bt t 204 (bt t 202 1 (bt t 203 1 28)) 1) 1)) (bt t 232 (bt t 224 (bt t 220 (bt t 218 (bt t 217 1 5) 1) (bt t 222 (bt t 221 5 1) 1)) (bt t 228 (bt t 226 (bt t 225 1 24) (bt t 227 1 256)) (bt t 230 2 (bt t 231 32 1)))) (bt t 240 (bt t 236 (bt t 234 (bt t 233 1 4) (bt t 235 4 0)) (bt t 238 0 1)) (bt t 244 1 (bt t 246 (bt t 245 1 11) (bt t 247 11 1)))))))) 0
def Z7V (t : TypeId) : List SV := bt t 248 (bt t 123 (bt t 61 (bt t 30 (bt t 14 (bt t 6 (bt t 2 (bt t 0 [] (bt t 1 [.val .nilFunc] [.int .i64 (0)])) (bt t 4 (bt t 3 [.int .i64 (0)] [.bool false]) [.int .u8 (0)])) (bt t 10 (bt t 8 [.int .i64 (0), .int .i64 (0), .bool false, .int .u8 (0)] ([.str []])) (bt t 12 (bt t 11 [.str []] [.int .u64 (0)]) ([.str [], .int .u64 (0)])))) (bt t 22 (bt t 18 [.val (.pointer none)] (bt t 20 (bt t 19 [.val (.pointer none)] [.val .nilIface]) (bt t 21 [.int .i32 (0)] [.val (.slice none 0 0)]))) (bt t 26 (bt t 24 (bt t 23 [.val (.slice none 0 0)] [.val .nilFunc]) [.val .nilFunc]) (bt t 28 ([.int .i64 (0), .str [], .str [], .str []]) ([.int .i64 (0), .str [], .str [], .str [], .int .i64 (0), .str [], .str [], .str [], .int .i64 (0), .str [], .str [], .str [], .int .i64 (0), .str [], .str [], .str []]))))) (bt t 45 (bt t 37 (bt t 33 (bt t 31 [] (bt t 32 [.val .nilFunc] [])) (bt t 35 (bt t 34 [.val .nilFunc] []) (bt t 36 [.val .nilFunc] [.int .i64 (0)]))) (bt t 41 (bt t 39 (bt t 38 [] [.val .nilFunc]) (bt t 40 [.val .nilFunc] [.int .i64 (0), .int .i64 (0), .str [], .str [], .str [], .int .i64 (0), .str [], .str [], .str [], .int .i64 (0), .str [], .str [], .str [], .int .i64 (0), .str [], .str [], .str [], .int .i64 (0), .str [], .str [], .str [], .int .i64 (0), .str [], .str [], .str [], .int .i64 (0), .str [], .str [], .str [], .int .i64 (0), .str [], .str [], .str [], .int .i64 (0), .str [], .str [], .str [], .int .i64 (0), .str [], .str [], .str [], .int .i64 (0), .str [], .str [], .str [], .int .i64 (0), .str [], .str [], .str []])) (bt t 43 (bt t 42 [.int .i64 (0), .int .i64 (0), .str [], .str [], .str [], .int .i64 (0), .str [], .str [], .str [], .int .i64 (0), .str [], .str [], .str [], .int .i64 (0), .str [], .str [], .str [], .int .i64 (0), .str [], .str [], .str [], .int .i64 (0), .str [], .str [], .str [], .int .i64 (0), .str [], .str [], .str [], .int .i64 (0), .str [], .str [], .str [], .int .i64 (0), .str [], .str [], .str [], .int .i64 (0), .str [], .str [], .str [], .int .i64 (0), .str [], .str [], .str [], .int .i64 (0), .str [], .str [], .str []] [.val .nilFunc]) (bt t 44 [] [.val .nilFunc])))) (bt t 53 (bt t 49 [.val .nilFunc] (bt t 51 [.val .nilFunc] (bt t 52 [.val .nilFunc] [.val (.slice none 0 0)]))) (bt t 57 [.val .nilFunc] (bt t 59 [.val .nilFunc] (bt t 60 [] [.val .nilFunc])))))) (bt t 92 (bt t 76 (bt t 68 (bt t 64 (bt t 62 [.val .nilFunc] (bt t 63 [] [.val .nilFunc])) (bt t 66 [.val .nilFunc] (bt t 67 [.val (.pointer none)] [.val .nilFunc]))) (bt t 72 (bt t 70 [.val (.map none)] [.val (.slice none 0 0), .val (.slice none 0 0), .val (.map none), .val (.map none)]) (bt t 74 (bt t 73 [] [.val .nilFunc]) (bt t 75 [.val .nilFunc] [])))) (bt t 84 (bt t 80 [.val .nilFunc] (bt t 82 (bt t 81 [] [.val .nilFunc]) (bt t 83 [.val (.map none)] [.val .nilFunc]))) [.val .nilFunc])) (bt t 107 (bt t 99 [.val .nilFunc] (bt t 103 (bt t 101 (bt t 100 [.val .nilFunc] [.val .nilFunc, .val .nilFunc, .val .nilFunc, .val .nilFunc, .val .nilFunc, .val .nilFunc, .val .nilFunc, .val .nilFunc, .val .nilFunc, .val .nilFunc, .val .nilFunc, .val .nilFunc]) [.val .nilFunc]) (bt t 105 ([.int .i64 (0), .str [], .str [], .str [], .int .i64 (0), .str [], .str [], .str [], .int .i64 (0), .str [], .str [], .str [], .int .i64 (0), .str [], .str [], .str []]) (bt t 106 [.int .i64 (0), .str [], .str [], .str [], .int .i64 (0), .str [], .str [], .str [], .int .i64 (0), .str [], .str [], .str [], .int .i64 (0), .str [], .str [], .str [], .int .i64 (0), .str [], .str [], .str [], .int .i64 (0), .str [], .str [], .str [], .int .i64 (0), .str [], .str [], .str [], .int .i64 (0), .str [], .str [], .str [], .int .i64 (0), .str [], .str [], .str [], .int .i64 (0), .str [], .str [], .str [], .int .i64 (0), .str [], .str [], .str [], .int .i64 (0), .str [], .str [], .str []] [.val .nilFunc])))) (bt t 115 (bt t 111 (bt t 109 [.val .nilFunc] (bt t 110 [.val (.slice none 0 0)] [.val .nilFunc])) (bt t 113 (bt t 112 [.int .i64 (0), .int .i64 (0), .int .i64 (0), .int .i64 (0), .int .i64 (0), .int .i64 (0)] [.val .nilFunc]) [.val (.slice none 0 0)])) (bt t 119 [.val .nilFunc] (bt t 121 [.val .nilFunc] (bt t 122 [.val .nilFunc] [.val (.pointer none)]))))))) (bt t 185 (bt t 154 (bt t 138 (bt t 130 (bt t 126 (bt t 124 [.val (.pointer none), .val (.pointer none), .val (.pointer none), .val (.pointer none)] (bt t 125 [.val .nilFunc] [.val (.pointer none)])) (bt t 128 (bt t 127 [.int .i64 (0), .str [], .str [], .str [], .int .i64 (0), .str [], .str [], .str [], .int .i64 (0), .str [], .str [], .str [], .int .i64 (0), .str [], .str [], .str []] [.val .nilFunc]) [.val .nilFunc])) (bt t 134 [.val .nilFunc] (bt t 136 (bt t 135 [.val .nilFunc] [.int .u64 (0)]) [.val .nilFunc]))) (bt t 146 (bt t 142 (bt t 140 [.val .nilFunc] (bt t 141 [.val .nilFunc] [])) (bt t 144 [.val .nilFunc] (bt t 145 [.val (.slice none 0 0)] [.str [], .str [], .str [], .str [], .val (.slice none 0 0), .val (.slice none 0 0), .str []]))) (bt t 150 (bt t 148 (bt t 147 [.str [], .str [], .str [], .str [], .val (.slice none 0 0), .val (.slice none 0 0), .str []] []) [.val .nilFunc]) (bt t 152 (bt t 151 [.int .i64 (0)] []) [.val .nilFunc])))) (bt t 169 (bt t 161 (bt t 157 [.val .nilFunc] (bt t 159 (bt t 158 [.int .u32 (0)] [.val .nilFunc]) (bt t 160 [.int .u64 (0)] [.val .nilFunc]))) (bt t 165 (bt t 163 (bt t 162 [.val .nilFunc] []) [.val .nilFunc]) [.val .nilFunc])) (bt t 177 (bt t 173 (bt t 171 [.val .nilFunc] (bt t 172 [.val (.pointer none)] [.val .nilFunc])) (bt t 175 [.val (.slice none 0 0)] (bt t 176 [.val .nilFunc] [.val (.pointer none)]))) (bt t 181 [.val .nilFunc] (bt t 183 (bt t 182 [.int .u64 (0)] [.val .nilFunc]) [.val .nilFunc]))))) (bt t 216 (bt t 200 (bt t 192 (bt t 188 (bt t 186 [.val (.pointer none)] [.val .nilFunc]) (bt t 190 [.val .nilFunc] (bt t 191 [] [.val .nilFunc]))) (bt t 196 (bt t 194 (bt t 193 [.val (.pointer none)] [.val .nilFunc]) ([.val (.slice none 0 0), .str [], .str [], .str [], .str [], .val (.slice none 0 0), .val (.slice none 0 0), .str []])) (bt t 198 (bt t 197 [.val .nilFunc] []) (bt t 199 [.val .nilFunc] [.val (.slice none 0 0)])))) (bt t 208 (bt t 204 (bt t 202 [.val .nilFunc] (bt t 203 [.val .nilFunc] [.int .i64 (0), .int .i64 (0), .int .i64 (0), .int .i64 (0), .int .i64 (0), .int .i64 (0), .int .i64 (0), .int .i64 (0), .int .i64 (0), .int .i64 (0), .int .i64 (0), .int .i64 (0), .int .i64 (0), .int .i64 (0), .int .i64 (0), .int .i64 (0), .int .i64 (0), .int .i64 (0), .int .i64 (0), .int .i64 (0), .int .i64 (0), .int .i64 (0), .int .i64 (0), .int .i64 (0), .int .i64 (0), .int .i64 (0), .int .i64 (0), .int .i64 (0)])) (bt t 206 [.val .nilFunc] (bt t 207 [.val (.pointer none)] [.val .nilFunc]))) (bt t 212 (bt t 210 [.val .nilFunc] (bt t 211 [] [.val .nilFunc])) [.val .nilFunc]))) (bt t 232 (bt t 224 (bt t 220 (bt t 218 (bt t 217 [.val .nilFunc] [.int .i64 (0), .int .i64 (0), .int .i64 (0), .int .i64 (0), .int .i64 (0)]) [.val .nilFunc]) (bt t 222 (bt t 221 [.int .i32 (0), .int .i32 (0), .int .i32 (0), .int .i32 (0), .int .i32 (0)] [.val .nilFunc]) [.val .nilFunc])) (bt t 228 (bt t 226 (bt t 225 [.val .nilFunc] [.int .i32 (0), .int .i32 (0), .int .i32 (0), .int .i32 (0), .int .i32 (0), .int .i32 (0), .int .i32 (0), .int .i32 (0), .int .i32 (0), .int .i32 (0), .int .i32 (0), .int .i32 (0), .int .i32 (0), .int .i32 (0), .int .i32 (0), .int .i32 (0), .int .i32 (0), .int .i32 (0), .int .i32 (0), .int .i32 (0), .int .i32 (0), .int .i32 (0), .int .i32 (0), .int .i32 (0)]) (bt t 227 [.val .nilFunc] [])) (bt t 230 [.int .u8 (0), .int .u8 (0)] (bt t 231 [.int .u8 (0), .int .u8 (0), .int .u8 (0), .int .u8 (0), .int .u8 (0), .int .u8 (0), .int .u8 (0), .int .u8 (0), .int .u8 (0), .int .u8 (0), .int .u8 (0), .int .u8 (0), .int .u8 (0), .int .u8 (0), .int .u8 (0), .int .u8 (0), .int .u8 (0), .int .u8 (0), .int .u8 (0), .int .u8 (0), .int .u8 (0), .int .u8 (0), .int .u8 (0), .int .u8 (0), .int .u8 (0), .int .u8 (0), .int .u8 (0), .int .u8 (0), .int .u8 (0), .int .u8 (0), .int .u8 (0), .int .u8 (0)] [])))) (bt t 240 (bt t 236 (bt t 234 (bt t 233 [.val .nilFunc] [.val (.pointer none), .val (.pointer none), .val (.pointer none), .str []]) (bt t 235 [.val (.pointer none), .val (.pointer none), .val (.pointer none), .str []] [])) (bt t 238 [] (bt t 239 [.val .nilFunc] [.int .u8 (0)]))) (bt t 244 (bt t 242 (bt t 241 [.int .u8 (0)] [.val .nilFunc]) (bt t 243 [.val (.pointer none)] [.int .i32 (0)])) (bt t 246 (bt t 245 [.int .i32 (0)] [.int .u64 (0), .int .u64 (0), .int .u32 (0), .int .u8 (0), .int .u8 (0), .int .u8 (0), .int .u8 (0), .val .nilFunc, .val (.pointer none), .int .i32 (0), .int .i32 (0)]) (bt t 247 [.int .u64 (0), .int .u64 (0), .int .u32 (0), .int .u8 (0), .int .u8 (0), .int .u8 (0), .int .u8 (0), .val .nilFunc, .val (.pointer none), .int .i32 (0), .int .i32 (0)] [.val (.pointer none)])))))))) []
def Z9t (t : TypeId) : Nat := bt t 248 (bt t 123 (bt t 61 (bt t 30 (bt t 14 (bt t 6 (bt t 2 (bt t 0 0 8) (bt t 4 (bt t 3 8 1) 1)) (bt t 10 (bt t 8 24 16) (bt t 12 (bt t 11 16 8) 24))) (bt t 22 (bt t 18 8 (bt t 20 (bt t 19 8 16) (bt t 21 4 24))) (bt t 26 (bt t 24 (bt t 23 24 8) 8) (bt t 28 56 224)))) (bt t 45 (bt t 37 (bt t 33 (bt t 31 0 (bt t 32 8 0)) (bt t 35 (bt t 34 8 0) 8)) (bt t 41 (bt t 39 (bt t 38 0 8) (bt t 40 8 680)) (bt t 43 (bt t 42 680 8) (bt t 44 0 8)))) (bt t 53 (bt t 49 8 (bt t 51 8 (bt t 52 8 24))) (bt t 57 8 (bt t 59 8 (bt t 60 0 8)))))) (bt t 92 (bt t 76 (bt t 68 (bt t 64 (bt t 62 8 (bt t 63 0 8)) 8) (bt t 72 (bt t 70 8 64) (bt t 74 (bt t 73 0 8) (bt t 75 8 0)))) (bt t 84 (bt t 80 8 (bt t 82 (bt t 81 0 8) 8)) 8)) (bt t 107 (bt t 99 8 (bt t 103 (bt t 101 (bt t 100 8 96) 8) (bt t 105 224 (bt t 106 672 8)))) (bt t 115 (bt t 111 (bt t 109 8 (bt t 110 24 8)) (bt t 113 (bt t 112 48 8) 24)) 8)))) (bt t 185 (bt t 154 (bt t 138 (bt t 130 (bt t 126 (bt t 124 32 8) (bt t 128 (bt t 127 224 8) 8)) 8) (bt t 146 (bt t 142 (bt t 140 8 (bt t 141 8 0)) (bt t 144 8 (bt t 145 24 128))) (bt t 150 (bt t 148 (bt t 147 128 0) 8) (bt t 152 (bt t 151 8 0) 8)))) (bt t 169 (bt t 161 (bt t 157 8 (bt t 159 (bt t 158 4 8) 8)) (bt t 165 (bt t 163 (bt t 162 8 0) 8) 8)) (bt t 177 (bt t 173 8 (bt t 175 24 8)) 8))) (bt t 216 (bt t 200 (bt t 192 (bt t 188 8 (bt t 190 8 (bt t 191 0 8))) (bt t 196 (bt t 194 8 152) (bt t 198 (bt t 197 8 0) (bt t 199 8 24)))) (bt t 208 (bt t 204 (bt t 202 8 (bt t 203 8 224)) 8) (bt t 212 (bt t 210 8 (bt t 211 0 8)) 8))) (bt t 232 (bt t 224 (bt t 220 (bt t 218 (bt t 217 8 40) 8) (bt t 222 (bt t 221 20 8) 8)) (bt t 228 (bt t 226 (bt t 225 8 96) (bt t 227 8 256)) (bt t 230 2 (bt t 231 32 0)))) (bt t 240 (bt t 236 (bt t 234 (bt t 233 8 40) (bt t 235 40 0)) (bt t 238 0 (bt t 239 8 1))) (bt t 244 (bt t 242 (bt t 241 1 8) (bt t 243 8 4)) (bt t 246 (bt t 245 4 48) (bt t 247 48 8)))))))) 0
def Z7W (t : TypeId) : Option (List CK) := bt t 248 (bt t 123 (bt t 61 (bt t 30 (bt t 14 none (bt t 22 none (bt t 26 none (bt t 28 (bt t 27 none (some [.int .i64, .str, .str, .str])) (bt t 29 none (some [.int .i64, .str, .str, .str, .int .i64, .str, .str, .str, .int .i64, .str, .str, .str, .int .i64, .str, .str, .str])))))) (bt t 45 (bt t 37 none (bt t 41 none (bt t 43 (bt t 42 (some [.int .i64, .int .i64, .str, .str, .str, .int .i64, .str, .str, .str, .int .i64, .str, .str, .str, .int .i64, .str, .str, .str, .int .i64, .str, .str, .str, .int .i64, .str, .str, .str, .int .i64, .str, .str, .str, .int .i64, .str, .str, .str, .int .i64, .str, .str, .str, .int .i64, .str, .str, .str, .int .i64, .str, .str, .str, .int .i64, .str, .str, .str]) none) none))) none)) (bt t 92 none (bt t 107 (bt t 99 none (bt t 103 none (bt t 105 (bt t 104 none (some [.int .i64, .str, .str, .str, .int .i64, .str, .str, .str, .int .i64, .str, .str, .str, .int .i64, .str, .str, .str])) (bt t 106 (some [.int .i64, .str, .str, .str, .int .i64, .str, .str, .str, .int .i64, .str, .str, .str, .int .i64, .str, .str, .str, .int .i64, .str, .str, .str, .int .i64, .str, .str, .str, .int .i64, .str, .str, .str, .int .i64, .str, .str, .str, .int .i64, .str, .str, .str, .int .i64, .str, .str, .str, .int .i64, .str, .str, .str, .int .i64, .str, .str, .str]) none)))) (bt t 115 (bt t 111 none (bt t 113 (bt t 112 (some [.int .i64, .int .i64, .int .i64, .int .i64, .int .i64, .int .i64]) none) none)) none)))) (bt t 185 (bt t 154 (bt t 138 (bt t 130 (bt t 126 none (bt t 128 (bt t 127 (some [.int .i64, .str, .str, .str, .int .i64, .str, .str, .str, .int .i64, .str, .str, .str, .int .i64, .str, .str, .str]) none) none)) none) none) none) (bt t 216 (bt t 200 none (bt t 208 (bt t 204 (bt t 202 none (bt t 203 none (some [.int .i64, .int .i64, .int .i64, .int .i64, .int .i64, .int .i64, .int .i64, .int .i64, .int .i64, .int .i64, .int .i64, .int .i64, .int .i64, .int .i64, .int .i64, .int .i64, .int .i64, .int .i64, .int .i64, .int .i64, .int .i64, .int .i64, .int .i64, .int .i64, .int .i64, .int .i64, .int .i64, .int .i64]))) none) none)) (bt t 232 (bt t 224 (bt t 220 (bt t 218 (bt t 217 none (some [.int .i64, .int .i64, .int .i64, .int .i64, .int .i64])) none) (bt t 222 (bt t 221 (some [.int .i32, .int .i32, .int .i32, .int .i32, .int .i32]) none) none)) (bt t 228 (bt t 226 (bt t 225 none (some [.int .i32, .int .i32, .int .i32, .int .i32, .int .i32, .int .i32, .int .i32, .int .i32, .int .i32, .int .i32, .int .i32, .int .i32, .int .i32, .int .i32, .int .i32, .int .i32, .int .i32, .int .i32, .int .i32, .int .i32, .int .i32, .int .i32, .int .i32, .int .i32])) none) (bt t 230 (bt t 229 none (some [.int .u8, .int .u8])) (bt t 231 (some [.int .u8, .int .u8, .int .u8, .int .u8, .int .u8, .int .u8, .int .u8, .int .u8, .int .u8, .int .u8, .int .u8, .int .u8, .int .u8, .int .u8, .int .u8, .int .u8, .int .u8, .int .u8, .int .u8, .int .u8, .int .u8, .int .u8, .int .u8, .int .u8, .int .u8, .int .u8, .int .u8, .int .u8, .int .u8, .int .u8, .int .u8, .int .u8]) none)))) none)))) none
def Zav (t : TypeId) : Option (Bool × List CK) := bt t 248 (bt t 123 (bt t 61 (bt t 30 (bt t 14 (bt t 6 (bt t 2 none (bt t 4 (bt t 3 (some (false, [.int .i64])) none) none)) none) (bt t 22 none (bt t 26 none (bt t 28 none (bt t 29 none (some (true, [.int .i64, .str, .str, .str, .int .i64, .str, .str, .str, .int .i64, .str, .str, .str, .int .i64, .str, .str, .str]))))))) none) (bt t 92 none (bt t 107 (bt t 99 none (bt t 103 none (bt t 105 (bt t 104 none (some (true, [.int .i64, .str, .str, .str, .int .i64, .str, .str, .str, .int .i64, .str, .str, .str, .int .i64, .str, .str, .str]))) none))) none))) none) none
def basesTableInts : List Int := [192, 214, 216, 246, 248, 767, 880, 893, 895, 8191, 8204, 8205, 8304, 8591, 11264, 12271, 12289, 55295, 63744, 64975, 65008, 65533, 65536, 983039]
def VW : List (List SV) := basesTableInts.map fun x => [.int .i32 x]
def tab : Tab := { sh := ZbK, size := ZaY, zero := Z7V, bytes := Z9t, flat := Z7W, key := Zav, globs := [(1, .rows 1 VW)] }
theorem Z2 : TabOK Tryz.prog tab := by
 refine Z9r 249 (by kernel_rfl) (fun t ht => ?_)
 have h : Nat.ble t 248 = false := by
   cases e : Nat.ble t 248
   · rfl
   · have := Nat.le_of_ble_eq_true e; omega
 exact ⟨by (simp only [tab, ZbK]; first | exact Z9s h | rfl), by (simp only [tab, Z7V]; first | exact Z9s h | rfl), by (simp only [tab, Z7W]; first | exact Z9s h | rfl), by (simp only [tab, Zav]; first | exact Z9s h | rfl)⟩
theorem mixed : Tryz.prog.follows .mixedOrders = true := by kernel_rfl
end Go.Proofs.YtjbbkimodgffiaaGreatDoor
set_option linter.unusedVariables false
set_option linter.unusedSimpArgs false
set_option maxRecDepth 20000
set_option maxHeartbeats 8000000
namespace Go.Proofs.YtjbbkimodgffiaaGreatDoor
open Go.Sx Go.Our
def Z8u : Plan := (Zq [(0, 1), (2, 1), (5, 1), (7, 1), (10, 1), (12, 1), (15, 1), (17, 1), (1, 2), (3, 2), (6, 2), (8, 2), (11, 2), (13, 2), (16, 2), (18, 2), (4, 3), (9, 3), (14, 3), (19, 3), (20, 3), (21, 3), (22, 1)])
theorem Z6L (a : Int) : Does Tryz.prog tab 112 0 [.int .i64 a] [] [] (Val (.bool false)) := by
 refine Does.enter Z2 (g := 112) (fn := Tryz.f112) Tryz.call112 Tryz.func112 rfl 6 rfl rfl [.tmp 2] rfl ?_
 intro w0 F η0 h0
 conv => whnf
 exact FIN.value h0 rfl (by simp)
theorem Z44 (a b : Int) : Does Tryz.prog tab 85 0 [.int .i64 a, .int .i64 b] [] [] (Val (.int .i64 (cmpI a b))) := by
 refine Does.enter Z2 (g := 85) (fn := Tryz.f85) Tryz.call85 Tryz.func85 rfl 20 rfl rfl [.tmp 4] rfl ?_
 intro w0 F η0 h0
 conv => whnf
 repeat' ((first | refine CALL.value (Z6L _) rfl rfl ?_ | refine AU ?_ | (refine IW (fun h => ?_) (fun h => ?_) <;> try (exfalso; omega))) <;> conv => whnf)
 all_goals
   refine FIN.value h0 rfl (congrArg (SV.int _) ?_)
   unfold cmpI
   (repeat' split) <;> simp_all <;> omega
theorem Z55 (a b : List UInt8) : Does Tryz.prog tab 138 0 [.str a, .str b] [] [] (Val (.int .i64 (cmpL a b))) := by
 refine Does.says fun η w vs hd => ?_
 simp only [DenL, Den] at hd
 obtain ⟨u, us, rfl, rfl, u', us', rfl, rfl, rfl⟩ := hd
 refine ⟨_, ?_, rfl⟩
 rw [run_callFunc_extern Tryz.func138 (by kernel_rfl) (by kernel_rfl) (by kernel_rfl) (e := Extern.BytealgCompare.compare) (by kernel_rfl), Lib.run_compareString]
 rfl
theorem Z1o (a b : List UInt8) : Does Tryz.prog tab 113 0 [.str a, .str b] [] [] (Val (.int .i64 (cmpL a b))) := by
 refine Does.enter Z2 (g := 113) (fn := Tryz.f113) Tryz.call113 Tryz.func113 rfl 8 rfl rfl [.tmp 4] rfl ?_
 intro w0 F η0 h0
 conv => whnf
 repeat' ((first | refine CALL.value (Z55 _ _) rfl rfl ?_ | refine AU ?_ | (refine IW (fun h => ?_) (fun h => ?_) <;> try (exfalso; omega))) <;> conv => whnf)
 exact FIN.value h0 rfl rfl
theorem Uh (a b : List UInt8) : Does Tryz.prog tab 86 0 [.str a, .str b] [] [] (Val (.int .i64 (cmpL a b))) := by
 refine Does.enter Z2 (g := 86) (fn := Tryz.f86) Tryz.call86 Tryz.func86 rfl 8 rfl rfl [.tmp 4] rfl ?_
 intro w0 F η0 h0
 conv => whnf
 repeat' ((first | refine CALL.value (Z1o _ _) rfl rfl ?_ | refine AU ?_ | (refine IW (fun h => ?_) (fun h => ?_) <;> try (exfalso; omega))) <;> conv => whnf)
 exact FIN.value h0 rfl rfl
def Z8v (x : Int) : List SV := [.int .i64 x]
theorem Z8w (xs : List Int) (hn : xs.length ≤ 1152921504606846976) : Does Tryz.prog tab 84 1 [.sl (.loc 0) 0 1 xs.length none] [] [(0, .rows 1 (xs.map Z8v))] (ValK 1 (.int .i64 (orI xs))) := by
 refine Does.enter Z2 (g := 84) (fn := Tryz.f84) Tryz.call84 Tryz.func84 rfl 18 rfl rfl [.tmp 2] rfl ?_
 intro w0 F η0 h0
 conv => whnf
 refine LOOP.go Z2 [3, 6, 7] (X := Nat) (fun i => i ≤ xs.length ∧ orI xs = orI (xs.drop i)) (fun i => [(8, .int .i64 (i : Int))]) (fun i => []) 1 (fun i => xs.length - i) 0 ⟨by omega, rfl⟩ ?_
 conv => whnf
 refine ⟨by exact GOES.cA h0, ?_⟩
 rintro i ⟨hi, ho⟩
 conv => whnf
 repeat' ((first | (refine GET.at (row := Z8v (xs[i]'(by omega))) (by rw [List.getElem?_map, show 0 + (i : Int).toNat = i by omega, List.getElem?_eq_getElem (by omega)]; rfl) ?_; conv => whnf) | refine AU ?_ | (refine IW (fun h => ?_) (fun h => ?_) <;> try (exfalso; omega))) <;> conv => whnf)
 · have hl : i < xs.length := by omega
   refine FIN.valueK h0 rfl (congrArg (SV.int _) ?_)
   rw [ho, List.drop_eq_getElem_cons hl]; simp only [orI]; rw [if_pos h]
 · have hl : i < xs.length := by omega
   refine ⟨i + 1, ⟨by omega, ?_⟩, by omega, ?_⟩
   · rw [ho, List.drop_eq_getElem_cons hl]; simp only [orI]; rw [if_neg (by simpa using h)]
   · conv => whnf
     exact GOES.cA h0
 · refine FIN.valueK h0 rfl (congrArg (SV.int _) ?_)
   rw [ho, List.drop_eq_nil_of_le (by omega)]; rfl
abbrev tmR (x : Tm) : List SV := [.int .i64 x.k, .str x.t, .str x.y, .str x.l]
theorem Jy (a b : Tm) : Does Tryz.prog tab 57 0 [.agg (tmR a), .agg (tmR b)] [] [] (Val (.int .i64 (ZM a b))) := by
 refine Does.enter Z2 (g := 57) (fn := Tryz.f57) Tryz.call57 Tryz.func57 rfl 27 rfl rfl [.tmp 4] rfl ?_
 intro w0 F η0 h0
 conv => whnf
 repeat' ((first | refine DRAWN.of (id := 1) Z2 mixed Z8u (by kernel_rfl) ?_ | refine ADD.mk (fun _ _ => ?_) | refine AD ?_ | refine FORK.mk ?_ ?_ | refine CALL.value (Z44 a.k b.k) rfl rfl ?_ | refine CALL.value (Uh a.t b.t) rfl rfl ?_ | refine CALL.value (Uh a.y b.y) rfl rfl ?_ | refine CALL.value (Uh a.l b.l) rfl rfl ?_ | (refine CALL.looks [2] (Z8w [cmpI a.k b.k, cmpL a.t b.t, cmpL a.y b.y, cmpL a.l b.l] (by simp)) rfl rfl rfl rfl ⟨⟨rfl, rfl, rfl⟩, trivial⟩ ?_; conv => whnf) | refine AU ?_ | (refine IW (fun h => ?_) (fun h => ?_) <;> try (exfalso; omega))) <;> conv => whnf)
 exact FIN.value h0 rfl (by rw [← ZbT])
theorem VI (a b : Qd) : Does Tryz.prog tab 62 0 [.agg a.row, .agg b.row] [] [] (Val (.int .i64 (ZB a b))) := by
 refine Does.enter Z2 (g := 62) (fn := Tryz.f62) Tryz.call62 Tryz.func62 rfl 27 rfl rfl [.tmp 4] rfl ?_
 intro w0 F η0 h0
 conv => whnf
 repeat' ((first | refine DRAWN.of (id := 1) Z2 mixed Z8u (by kernel_rfl) ?_ | refine ADD.mk (fun _ _ => ?_) | refine AD ?_ | refine FORK.mk ?_ ?_ | refine CALL.value (Jy a.g b.g) rfl rfl ?_ | refine CALL.value (Jy a.s b.s) rfl rfl ?_ | refine CALL.value (Jy a.p b.p) rfl rfl ?_ | refine CALL.value (Jy a.o b.o) rfl rfl ?_ | (refine CALL.looks [2] (Z8w [ZM a.g b.g, ZM a.s b.s, ZM a.p b.p, ZM a.o b.o] (by simp)) rfl rfl rfl rfl ⟨⟨rfl, rfl, rfl⟩, trivial⟩ ?_; conv => whnf) | refine AU ?_ | (refine IW (fun h => ?_) (fun h => ?_) <;> try (exfalso; omega))) <;> conv => whnf)
 exact FIN.value h0 rfl (by rw [← ZbU])
end Go.Proofs.YtjbbkimodgffiaaGreatDoor
namespace Go.Proofs.YtjbbkimodgffiaaGreatDoor
open Go.Sx Go.Our
def Z8x : Plan := (Zq [(0, 1), (1, 1), (2, 1), (4, 1), (5, 1), (6, 1), (3, 2), (7, 2), (8, 1)])
abbrev Z16 (l : List Qd) : Prop := l.length * 224 ≤ 140737488351232
theorem Z17 (A B : List Qd) (i n j m : Nat) (lA lB : Option Nat) (hA : i + n ≤ A.length) (hB : j + m ≤ B.length) (hn : A.length ≤ 1152921504606846976) (hm : B.length ≤ 1152921504606846976) : Does Tryz.prog tab 21 2 [.sl (.loc 0) i 16 n lA, .sl (.loc 1) j 16 m lB] [] [(0, .rows 16 (A.map Za)), (1, .rows 16 (B.map Za))]
   (ValK 2 (.bool (decide ((A.drop i).take n = (B.drop j).take m)))) := by
 refine Does.enter Z2 (g := 21) (fn := Tryz.f21) Tryz.call21 Tryz.func21 rfl 26 rfl rfl [.tmp 4] rfl ?_
 intro w0 F η0 h0
 conv => whnf
 refine IF.mk (fun h => ?_) (fun h => ?_)
 · have h : n ≠ m := by simp at h; omega
   conv => whnf
   refine FIN.valueK h0 rfl (congrArg SV.bool (decide_eq_false fun he => ?_).symm)
   have := congrArg List.length he
   simp at this
   omega
 have h : n = m := by simp at h; omega
 subst h
 conv => whnf
 refine LOOP.go Z2 [0, 1] (X := Nat) (fun c => c ≤ n ∧ ((A.drop i).take n = (B.drop j).take n ↔ (A.drop (i + c)).take (n - c) = (B.drop (j + c)).take (n - c))) (fun c => [(5, .int .i64 (c : Int))]) (fun c => []) 2 (fun c => n - c) 0 ⟨by omega, by simp⟩ ?_
 conv => whnf
 refine ⟨by exact GOES.cA h0, ?_⟩
 rintro c ⟨hc, hs⟩
 conv => whnf
 rcases Nat.lt_or_ge c n with hcn | hcn
 · have ha : i + c < A.length := by omega
   have hb : j + c < B.length := by omega
   have hstep : (A.drop (i + c)).take (n - c) = (B.drop (j + c)).take (n - c) ↔ A[i + c] = B[j + c] ∧ (A.drop (i + (c + 1))).take (n - (c + 1)) = (B.drop (j + (c + 1))).take (n - (c + 1)) := by
     rw [List.drop_eq_getElem_cons ha, List.drop_eq_getElem_cons hb, show n - c = (n - (c + 1)) + 1 by omega]
     simp only [List.take_succ_cons, List.cons.injEq]
     rw [show i + c + 1 = i + (c + 1) by omega, show j + c + 1 = j + (c + 1) by omega]
   repeat' ((first | refine DRAWN.of (id := 6) Z2 mixed Z8x (by kernel_rfl) ?_ | refine ADD.mk (fun _ _ => ?_) | refine AD ?_ | refine FORK.mk ?_ ?_ | (refine GET.at (row := Za (A[i + c]'(by omega))) (by rw [show i + (c : Int).toNat = i + c by omega]; exact Z3P (by omega)) ?_; conv => whnf) | (refine GET.at (row := Za (B[j + c]'(by omega))) (by rw [show j + (c : Int).toNat = j + c by omega]; exact Z3P (by omega)) ?_; conv => whnf) | refine AU ?_ | (refine IW (fun h => ?_) (fun h => ?_) <;> try (exfalso; omega))) <;> conv => whnf)
   · have hne : A[i + c] ≠ B[j + c] := fun he => by rw [he] at h; simp at h
     exact FIN.valueK h0 rfl (congrArg SV.bool (decide_eq_false fun he => hne (hstep.1 (hs.1 he)).1).symm)
   · have heq : A[i + c] = B[j + c] := Qd.ext' (by simp only [Za, Qd.row, List.cons.injEq, SV.int.injEq, SV.str.injEq, true_and, and_true]; exact h)
     refine ⟨c + 1, ⟨by omega, hs.trans (hstep.trans ⟨fun x => x.2, fun x => ⟨heq, x⟩⟩)⟩, by omega, ?_⟩
     conv => whnf
     exact GOES.cA h0
 · repeat' ((first | refine AU ?_ | (refine IW (fun h => ?_) (fun h => ?_) <;> try (exfalso; omega))) <;> conv => whnf)
   refine FIN.valueK h0 rfl (congrArg SV.bool (decide_eq_true (hs.2 ?_)).symm)
   rw [show n - c = 0 by omega]; rfl
def JA : Plan := (Zq [(0, 1), (1, 1), (2, 1), (3, 2), (4, 2), (5, 3), (6, 1), (7, 1), (8, 1), (9, 1), (10, 1)])
def JB : Plan := (Zq [(0, 1), (1, 1), (2, 1), (5, 1), (6, 1), (7, 1), (3, 2), (4, 2), (8, 2), (9, 1), (10, 0)])
def Yh : Plan := (Zq [(0, 1), (1, 1), (2, 1), (3, 1), (4, 2), (5, 2), (6, 3), (7, 0), (8, 1), (9, 1), (10, 0)])
def JC : Plan := (Zq [(0, 1), (1, 1), (2, 1), (3, 2), (4, 2), (5, 2), (6, 3), (7, 0), (8, 1), (10, 1), (9, 0), (11, 0)])
abbrev ZbY (a b : Nat) (w : Wd) : Hp := .box [.sl (.loc a) 0 16 w.all.length none, .sl (.loc b) 0 49 w.why.length none, .mp (.loc 3), .mp (.loc 4)]
abbrev wdO (a b : Nat) (w : Wd) : Hps := [(0, ZbY a b w), (a, .rows 16 (w.all.map Za)), (b, .rows 49 (w.why.map WL)), (3, .mp (Vi w.place)), (4, .deep true 2 (atR w.at'))]
theorem Z64 (w : Wd) (s : St) (hok : WdOK w) (hl : w.all.length ≤ 4194304) : Does Tryz.prog tab 38 5 [.ptr (.loc 0) 0 0 0, .agg (WL s)] (wdO 1 2 w) []
   (fun r O nx => r = .tup [] ∧ O = wdO 5 6 (putM w s) ∧ nx = 7) := by
 have hw := hok.len
 have hat : ∀ i, i < 3 → (atL (Xr i s.q) (atN s.q w.at' i)).length ≤ 16777216 := fun i hi => by
   have := Z53 s.q w.at' _ hok.at3 i (Xr i s.q); omega
 refine Does.enter Z2 (g := 38) (fn := Tryz.f38) Tryz.call38 Tryz.func38 rfl 86 rfl rfl [] rfl ?_
 intro w0 F η0 h0
 conv => whnf
 repeat' ((first | refine DRAWN.of (id := 2) Z2 mixed JA (by kernel_rfl) ?_ | refine DRAWN.of (id := 4) Z2 mixed JB (by kernel_rfl) ?_ | refine DRAWN.of (id := 5) Z2 mixed Yh (by kernel_rfl) ?_ | refine DRAWN.of (id := 6) Z2 mixed Yh (by kernel_rfl) ?_ | refine DRAWN.of (id := 10) Z2 mixed JC (by kernel_rfl) ?_ | refine ADD.mk (fun _ _ => ?_) | refine AD ?_ | refine FORK.mk ?_ ?_ | (refine NEED.mk ⟨KQ.ok _, Z5T KQ _ _⟩ ?_; conv => whnf) | refine AU ?_ | (refine IW (fun h => ?_) (fun h => ?_) <;> try (exfalso; omega))) <;> conv => whnf)
 refine FIND.mk (fun i v hf => ?_) (fun hf => ?_)
 · obtain ⟨⟨j, x⟩, hj, he⟩ := Option.map_eq_some_iff.1 ((W5 KQ intV s.q w.place 0).symm.trans hf)
   cases he
   clear hf
   have hm : putM w s = w := Z15 (by rw [WX hj]; rfl)
   rw [hm]
   conv => whnf
   repeat' ((first | refine DRAWN.of (id := 2) Z2 mixed JA (by kernel_rfl) ?_ | refine DRAWN.of (id := 4) Z2 mixed JB (by kernel_rfl) ?_ | refine DRAWN.of (id := 5) Z2 mixed Yh (by kernel_rfl) ?_ | refine DRAWN.of (id := 6) Z2 mixed Yh (by kernel_rfl) ?_ | refine DRAWN.of (id := 10) Z2 mixed JC (by kernel_rfl) ?_ | refine ADD.mk (fun _ _ => ?_) | refine AD ?_ | refine FORK.mk ?_ ?_ | refine AU ?_ | (refine IW (fun h => ?_) (fun h => ?_) <;> try (exfalso; omega))) <;> conv => whnf)
   refine FIN.aA h0 [1, 2] (.tup []) (wdO 5 6 w) ?_
   exact ⟨rfl, rfl, rfl⟩
 · have hj := Option.map_eq_none_iff.1 ((W5 KQ intV s.q w.place 0).symm.trans hf)
   clear hf
   have hm := Z40 (Z2F hj)
   rw [hm]
   have e3 : Hp.mp (setM KQ.ks (KQ.enc s.q) (intV (w.all.length : Int)) (Vi w.place)) = Hp.mp (Vi (setA s.q (w.all.length : Int) w.place)) := congrArg Hp.mp (ZbV KQ intV s.q _ w.place)
   conv => whnf
   repeat' ((first | refine DRAWN.of (id := 2) Z2 mixed JA (by kernel_rfl) ?_ | refine DRAWN.of (id := 4) Z2 mixed JB (by kernel_rfl) ?_ | refine DRAWN.of (id := 5) Z2 mixed Yh (by kernel_rfl) ?_ | refine DRAWN.of (id := 6) Z2 mixed Yh (by kernel_rfl) ?_ | refine DRAWN.of (id := 10) Z2 mixed JC (by kernel_rfl) ?_ | refine ADD.mk (fun _ _ => ?_) | refine AD ?_ | refine FORK.mk ?_ ?_ | (refine NEED.mk ⟨KQ.ok _, Z5T KQ _ _⟩ ?_; conv => whnf) | (refine NEED.mk (Xy 1024 rfl rfl (by simp) (by simp) (by omega)) ?_; conv => whnf) | refine AU ?_ | (refine IW (fun h => ?_) (fun h => ?_) <;> try (exfalso; omega))) <;> conv => whnf)
   refine LOOP.gok Z2 [0, 4, 70] [0, 6] (X := Nat) (fun i => i ≤ 3) (fun i => [(71, .int .i64 (i : Int))]) (fun i => [(8, .rows 16 ((w.all ++ [s.q]).map Za)), (10, .rows 49 ((w.why ++ [s]).map WL)), (3, .mp (Vi (setA s.q (w.all.length : Int) w.place))), (4, .deep true 2 (atR (atN s.q w.at' i)))]) 11 (fun i => 3 - i) 0 (by omega) ?_
   conv => whnf
   refine ⟨by (refine GOES.cutting h0 rfl rfl rfl (by (repeat' (first | (refine Y6 rfl ?_ ?_) | exact ZX (Zp _) | exact ZC (Zp _) | exact ZX (ZY _) | exact ZC (ZY _) | exact Vk (YS _) | exact XU (Vj _) | rfl))) ?_ ?_ <;> (repeat' (first | exact e3 | (with_reducible rfl) | exact trivial | (exact ZS rfl (by first | omega | (simp (disch := omega) only [lnB, Z9, Zb] <;> omega) | (simp; done) | (simp <;> omega))) | (exact congrArg (SV.int _) (by first | omega | (simp (disch := omega) only [lnB, Z9, Zb] <;> omega) | (simp; done) | (simp <;> omega))) | (exact JR (by first | omega | (simp (disch := omega) only [lnB, Z9, Zb] <;> omega) | (simp; done) | (simp <;> omega))) | (exact UG (by first | omega | (simp (disch := omega) only [lnB, Z9, Zb] <;> omega) | (simp; done) | (simp <;> omega))) | (exact Zn _ (h := .rows _ _) (Zp _)) | (exact Zn _ (h := .rows _ _) (ZY _)) | (exact congrArg (Hp.rows _) (by (simp [List.take_of_length_le, Za, Qd.row, WL, St.row]))) | ((conv => whnf); refine ⟨?_, ?_⟩) | rfl))), ?_⟩
   intro i hi
   conv => whnf
   by_cases hil : i < 3
   · repeat' ((first | refine DRAWN.of (id := 2) Z2 mixed JA (by kernel_rfl) ?_ | refine DRAWN.of (id := 4) Z2 mixed JB (by kernel_rfl) ?_ | refine DRAWN.of (id := 5) Z2 mixed Yh (by kernel_rfl) ?_ | refine DRAWN.of (id := 6) Z2 mixed Yh (by kernel_rfl) ?_ | refine DRAWN.of (id := 10) Z2 mixed JC (by kernel_rfl) ?_ | refine ADD.mk (fun _ _ => ?_) | refine AD ?_ | refine FORK.mk ?_ ?_ | (refine GET.at (row := (Xr i s.q).row) (by rcases (show i = 0 ∨ i = 1 ∨ i = 2 by omega) with rfl | rfl | rfl <;> rfl) ?_; conv => whnf) | (refine NEED.mk ⟨KQ.ok (Xr i s.q), Z3R KQ _ _ _⟩ ?_; conv => whnf) | refine AU ?_ | (refine IW (fun h => ?_) (fun h => ?_) <;> try (exfalso; omega))) <;> conv => whnf)
     refine FINDD.mk (fun a d hf => ?_) (fun hf => ?_)
     · obtain ⟨⟨j, l⟩, hj2, he⟩ := Option.map_eq_some_iff.1 ((Z0Y KQ 16 qdsV (Xr i s.q) (atN s.q w.at' i) 0).symm.trans hf)
       cases he
       clear hf
       have hll : l.length ≤ 16777216 := by have := hat i hil; unfold atL at this; rwa [WX hj2] at this
       conv => whnf
       repeat' ((first | refine DRAWN.of (id := 2) Z2 mixed JA (by kernel_rfl) ?_ | refine DRAWN.of (id := 4) Z2 mixed JB (by kernel_rfl) ?_ | refine DRAWN.of (id := 5) Z2 mixed Yh (by kernel_rfl) ?_ | refine DRAWN.of (id := 6) Z2 mixed Yh (by kernel_rfl) ?_ | refine DRAWN.of (id := 10) Z2 mixed JC (by kernel_rfl) ?_ | refine ADD.mk (fun _ _ => ?_) | refine AD ?_ | refine FORK.mk ?_ ?_ | (refine NEED.mk (Xy 256 rfl rfl (by simp) (by simp) (by simp; omega)) ?_; conv => whnf) | (refine NEED.mk ⟨by omega, by simp [X8]; exact (List.getElem?_eq_some_iff.1 (Z2G hj2)).1⟩ ?_; conv => whnf) | refine AU ?_ | (refine IW (fun h => ?_) (fun h => ?_) <;> try (exfalso; omega))) <;> conv => whnf)
       refine ⟨i + 1, by omega, by omega, ?_⟩
       conv => whnf
       (refine GOES.cutting h0 rfl rfl rfl (by (repeat' (first | (refine Y6 rfl ?_ ?_) | exact ZX (Zp _) | exact ZC (Zp _) | exact ZX (ZY _) | exact ZC (ZY _) | exact Vk (YS _) | exact XU (Vj _) | rfl))) ?_ ?_ <;> (repeat' (first | exact congrArg (Hp.deep true 2) (Z9P hj2 (Nat.zero_add _) (by omega) (by simp [List.take_of_length_le, Za, Qd.row])) | (with_reducible rfl) | exact trivial | (exact ZS rfl (by first | omega | (simp (disch := omega) only [lnB, Z9, Zb] <;> omega) | (simp; done) | (simp <;> omega))) | (exact congrArg (SV.int _) (by first | omega | (simp (disch := omega) only [lnB, Z9, Zb] <;> omega) | (simp; done) | (simp <;> omega))) | (exact JR (by first | omega | (simp (disch := omega) only [lnB, Z9, Zb] <;> omega) | (simp; done) | (simp <;> omega))) | (exact UG (by first | omega | (simp (disch := omega) only [lnB, Z9, Zb] <;> omega) | (simp; done) | (simp <;> omega))) | (exact Zn _ (h := .rows _ _) (Zp _)) | (exact Zn _ (h := .rows _ _) (ZY _)) | (exact congrArg (Hp.rows _) (by rfl)) | ((conv => whnf); refine ⟨?_, ?_⟩) | rfl)))
     · have hj2 := Option.map_eq_none_iff.1 ((Z0Y KQ 16 qdsV (Xr i s.q) (atN s.q w.at' i) 0).symm.trans hf)
       clear hf
       conv => whnf
       repeat' ((first | refine DRAWN.of (id := 2) Z2 mixed JA (by kernel_rfl) ?_ | refine DRAWN.of (id := 4) Z2 mixed JB (by kernel_rfl) ?_ | refine DRAWN.of (id := 5) Z2 mixed Yh (by kernel_rfl) ?_ | refine DRAWN.of (id := 6) Z2 mixed Yh (by kernel_rfl) ?_ | refine DRAWN.of (id := 10) Z2 mixed JC (by kernel_rfl) ?_ | refine ADD.mk (fun _ _ => ?_) | refine AD ?_ | refine FORK.mk ?_ ?_ | (refine NEED.mk ⟨rfl, by omega, Nat.le_of_ble_eq_true rfl⟩ ?_; conv => whnf) | refine AU ?_ | (refine IW (fun h => ?_) (fun h => ?_) <;> try (exfalso; omega))) <;> conv => whnf)
       refine ⟨i + 1, by omega, by omega, ?_⟩
       conv => whnf
       (refine GOES.cutting h0 rfl rfl rfl (by (repeat' (first | (refine Y6 rfl ?_ ?_) | exact ZX (Zp _) | exact ZC (Zp _) | exact ZX (ZY _) | exact ZC (ZY _) | exact Vk (YS _) | exact XU (Vj _) | rfl))) ?_ ?_ <;> (repeat' (first | exact congrArg (Hp.deep true 2) (Z8s hj2 (by omega) (by simp [List.take_of_length_le, Za, Qd.row])) | (with_reducible rfl) | exact trivial | (exact ZS rfl (by first | omega | (simp (disch := omega) only [lnB, Z9, Zb] <;> omega) | (simp; done) | (simp <;> omega))) | (exact congrArg (SV.int _) (by first | omega | (simp (disch := omega) only [lnB, Z9, Zb] <;> omega) | (simp; done) | (simp <;> omega))) | (exact JR (by first | omega | (simp (disch := omega) only [lnB, Z9, Zb] <;> omega) | (simp; done) | (simp <;> omega))) | (exact UG (by first | omega | (simp (disch := omega) only [lnB, Z9, Zb] <;> omega) | (simp; done) | (simp <;> omega))) | (exact Zn _ (h := .rows _ _) (Zp _)) | (exact Zn _ (h := .rows _ _) (ZY _)) | (exact congrArg (Hp.rows _) (by rfl)) | ((conv => whnf); refine ⟨?_, ?_⟩) | rfl)))
   · have hie : i = 3 := by omega
     subst hie
     repeat' ((first | refine AU ?_ | (refine IW (fun h => ?_) (fun h => ?_) <;> try (exfalso; omega))) <;> conv => whnf)
     refine FIN.aA h0 [8, 10] (.tup []) ([(0, .box [.sl (.loc 5) 0 16 (w.all.length + 1) none, .sl (.loc 6) 0 49 (w.why.length + 1) none, .mp (.loc 3), .mp (.loc 4)]), (5, .rows 16 ((w.all ++ [s.q]).map Za)), (6, .rows 49 ((w.why ++ [s]).map WL)), (3, .mp (Vi (setA s.q (w.all.length : Int) w.place))), (4, .deep true 2 (atR (atN s.q w.at' 3)))]) ?_
     exact ⟨rfl, by simp [wdO, ZbY], rfl⟩
theorem Z6N (l z : List Qd) (lim : Option Nat) (hl : l.length ≤ 4194304) (hz : (l ++ z).length ≤ 1152921504606846976) : Does Tryz.prog tab 36 1 [.sl (.loc 0) 0 16 l.length lim] [] [(0, .rows 16 ((l ++ z).map Za))]
   (fun r O nx => r = .ptr (.loc 1) 0 0 0 ∧ O = [(1, .box [.sl (.loc 2) 0 16 (ZG l).all.length none, .sl (.loc 3) 0 49 (ZG l).why.length none, .mp (.loc 4), .mp (.loc 5)]), (2, .rows 16 ((ZG l).all.map Za)), (3, .rows 49 ((ZG l).why.map WL)), (4, .mp (Vi (ZG l).place)), (5, .deep true 2 (atR (ZG l).at'))] ∧ nx = 6) := by
 have hW := fun i => Z62 (l.take i)
 have hL := fun i => Z43 (l.take i)
 have hstep : ∀ i (h : i < l.length), ZG (l.take (i + 1)) = putM (ZG (l.take i)) (UJ l[i]) := fun i h => by
   rw [List.take_succ_eq_append_getElem h]; unfold ZG; rw [List.foldl_append]; rfl
 refine Does.enter Z2 (g := 36) (fn := Tryz.f36) Tryz.call36 Tryz.func36 rfl 22 rfl rfl [.tmp 2] rfl ?_
 intro w0 F η0 h0
 conv => whnf
 repeat' ((first | refine AU ?_ | (refine IW (fun h => ?_) (fun h => ?_) <;> try (exfalso; omega))) <;> conv => whnf)
 refine GHO.loop (GHO.nilCell 3 0 16 rfl rfl) ?_
 refine GHO.loop (GHO.nilCell 3 1 49 rfl rfl) ?_
 refine GHO.loop (GHO.deep0 2 rfl) ?_
 refine LOOP.gok Z2 [3, 10, 11] [] (X := Nat) (fun i => i ≤ l.length) (fun i => [(12, .int .i64 (i : Int))]) (fun i => [(3, .box [.sl (.loc 4) 0 16 (ZG (l.take i)).all.length none, .sl (.loc 5) 0 49 (ZG (l.take i)).why.length none, .mp (.loc 1), .mp (.loc 2)]), (4, .rows 16 ((ZG (l.take i)).all.map Za)), (5, .rows 49 ((ZG (l.take i)).why.map WL)), (1, .mp (Vi (ZG (l.take i)).place)), (2, .deep true 2 (atR (ZG (l.take i)).at'))]) 6 (fun i => l.length - i) 0 (by omega) ?_
 conv => whnf
 refine ⟨by (refine GOES.cutting h0 rfl rfl rfl (by (repeat' (first | (refine Y6 rfl ?_ ?_) | exact ZX (Zp _) | exact ZC (Zp _) | exact ZX (ZY _) | exact ZC (ZY _) | exact Vk (YS _) | exact XU (Vj _) | rfl))) ?_ ?_ <;> (repeat' (first | (with_reducible rfl) | exact trivial | (exact ZS rfl (by first | omega | (simp (disch := omega) only [lnB, Z9, Zb] <;> omega) | (simp; done) | (simp <;> omega))) | (exact congrArg (SV.int _) (by first | omega | (simp (disch := omega) only [lnB, Z9, Zb] <;> omega) | (simp; done) | (simp <;> omega))) | (exact JR (by first | omega | (simp (disch := omega) only [lnB, Z9, Zb] <;> omega) | (simp; done) | (simp <;> omega))) | (exact UG (by first | omega | (simp (disch := omega) only [lnB, Z9, Zb] <;> omega) | (simp; done) | (simp <;> omega))) | (exact Zn _ (h := .rows _ _) (Zp _)) | (exact Zn _ (h := .rows _ _) (ZY _)) | (exact congrArg (Hp.rows _) (by rfl)) | ((conv => whnf); refine ⟨?_, ?_⟩) | rfl))), ?_⟩
 intro i hi
 have hWi := hW i
 have hLi : (ZG (l.take i)).all.length ≤ 4194304 := by have := hL i; rw [List.length_take] at this; omega
 conv => whnf
 by_cases hil : i < l.length
 · have hs := hstep i hil
   have hput := Z64 (ZG (l.take i)) (UJ l[i]) hWi hLi
   rw [← hs] at hput
   clear hW hL hstep hs hWi
   have gi : ((l ++ z).map Za)[0 + (i : Int).toNat]? = some (Za l[i]) := by
     rw [show 0 + (i : Int).toNat = i by omega, List.getElem?_map, List.getElem?_append_left hil, List.getElem?_eq_getElem hil]; rfl
   repeat' ((first | (refine GET.at gi ?_; conv => whnf) | refine AU ?_ | (refine IW (fun h => ?_) (fun h => ?_) <;> try (exfalso; omega))) <;> conv => whnf)
   refine CALL.aA [3, 4, 5, 1, 2] (hput) ?_
   rintro r O nx ⟨rfl, rfl, rfl⟩
   conv => whnf
   repeat' ((first | refine AU ?_ | (refine IW (fun h => ?_) (fun h => ?_) <;> try (exfalso; omega))) <;> conv => whnf)
   refine ⟨i + 1, by omega, by omega, ?_⟩
   conv => whnf
   (refine GOES.keeping h0 [1, 2, 3, 7, 8] rfl rfl rfl (by (repeat' (first | (refine Y6 rfl ?_ ?_) | exact ZX (Zp _) | exact ZC (Zp _) | exact ZX (ZY _) | exact ZC (ZY _) | exact Vk (YS _) | exact XU (Vj _) | rfl))) ?_ ?_ <;> (repeat' (first | exact (Zn _ (h := .mp _) (YS _)).trans (Zn _ (h := .mp _) (YS _)).symm | exact (Zn _ (h := .deep _ _ _) (Vj _)).trans (Zn _ (h := .deep _ _ _) (Vj _)).symm | (with_reducible rfl) | exact trivial | (exact ZS rfl (by first | omega | (simp (disch := omega) only [lnB, Z9, Zb] <;> omega) | (simp; done) | (simp <;> omega))) | (exact congrArg (SV.int _) (by first | omega | (simp (disch := omega) only [lnB, Z9, Zb] <;> omega) | (simp; done) | (simp <;> omega))) | (exact JR (by first | omega | (simp (disch := omega) only [lnB, Z9, Zb] <;> omega) | (simp; done) | (simp <;> omega))) | (exact UG (by first | omega | (simp (disch := omega) only [lnB, Z9, Zb] <;> omega) | (simp; done) | (simp <;> omega))) | (exact (Zn _ (h := .rows _ _) (Zp _)).symm) | (exact (Zn _ (h := .rows _ _) (Zp _)).trans (Zn _ (h := .rows _ _) (Zp _)).symm) | (exact Zj (Zp _) (by rfl)) | (exact (Zn _ (h := .rows _ _) (ZY _)).symm) | (exact (Zn _ (h := .rows _ _) (ZY _)).trans (Zn _ (h := .rows _ _) (ZY _)).symm) | (exact Zj (ZY _) (by rfl)) | ((conv => whnf); refine ⟨?_, ?_⟩) | (simp only [ren, renB]; done) | rfl)))
 · have hie : i = l.length := by omega
   subst hie
   rw [List.take_length] at *
   repeat' ((first | refine AU ?_ | (refine IW (fun h => ?_) (fun h => ?_) <;> try (exfalso; omega))) <;> conv => whnf)
   refine FIN.aA h0 [3, 4, 5, 1, 2] (.ptr (.loc 1) 0 0 0) ([(1, .box [.sl (.loc 2) 0 16 (ZG l).all.length none, .sl (.loc 3) 0 49 (ZG l).why.length none, .mp (.loc 4), .mp (.loc 5)]), (2, .rows 16 ((ZG l).all.map Za)), (3, .rows 49 ((ZG l).why.map WL)), (4, .mp (Vi (ZG l).place)), (5, .deep true 2 (atR (ZG l).at'))]) ?_
   exact ⟨rfl, rfl, rfl⟩
theorem Z8B (c : Int) (hc : 0 ≤ c ∧ c < 256) : Does Tryz.prog tab 199 0 [.int .u8 c] [] [] (Val (.tup [.int .i64 (Z1n c).1, .int .i32 (Z1n c).2])) := by
 refine Does.enter Z2 (g := 199) (fn := Tryz.f199) Tryz.call199 Tryz.func199 rfl 30 rfl rfl [.tmp 2, .tmp 3] rfl ?_
 intro w0 F η0 h0
 conv => whnf
 repeat' ((first | refine AU ?_ | (refine IW (fun h => ?_) (fun h => ?_) <;> try (exfalso; omega))) <;> conv => whnf)
 all_goals (refine FIN.value h0 rfl ?_; unfold Z1n; (first | (simp (disch := omega) only [↓if_pos, ↓if_neg, ite_self, Z9, Zb, Int.reduceAdd, Int.reduceSub, Int.reduceMul, Int.reduceNeg, ZbN, ZbO, and7]; done) | (simp (disch := omega) only [↓if_pos, ↓if_neg, ite_self, Z9, Zb, Int.reduceAdd, Int.reduceSub, Int.reduceMul, Int.reduceNeg, ZbN, ZbO, and7]; with_reducible rfl)))
theorem Z57 (r : Int) : Does Tryz.prog tab 201 0 [.int .i32 r] [] [] (Val (.bool (Z2A r))) := by
 refine Does.enter Z2 (g := 201) (fn := Tryz.f201) Tryz.call201 Tryz.func201 rfl 17 rfl rfl [.tmp 2] rfl ?_
 intro w0 F η0 h0
 conv => whnf
 repeat' ((first | refine AU ?_ | (refine IW (fun h => ?_) (fun h => ?_) <;> try (exfalso; omega))) <;> conv => whnf)
 refine FIN.value h0 rfl (congrArg SV.bool ?_)
 rw [Bool.eq_iff_iff, Vf]
 simp only [Bool.cond_eq_ite, decide_eq_true_eq, Bool.if_false_right, Bool.if_true_left, Bool.and_eq_true, Bool.or_eq_true]
 omega
theorem Z6O (n : Int) (hn : 0 ≤ n ∧ n < 5) : Does Tryz.prog tab 200 0 [.int .i64 n] [] [] (Val (.int .i32 (Z3I n))) := by
 have hn : n = 0 ∨ n = 1 ∨ n = 2 ∨ n = 3 ∨ n = 4 := by omega
 rcases hn with rfl | rfl | rfl | rfl | rfl
 all_goals
   refine Does.enter Z2 (g := 200) (fn := Tryz.f200) Tryz.call200 Tryz.func200 rfl 6 rfl rfl [.tmp 2] rfl ?_
   intro w0 F η0 h0
   conv => whnf
   repeat' ((first | refine AU ?_ | (refine IW (fun h => ?_) (fun h => ?_) <;> try (exfalso; omega))) <;> conv => whnf)
   exact FIN.value h0 rfl rfl
theorem Zbg {c : Int} {n r : Int} (hc : 0 ≤ c ∧ c < 256) (h : Z1n c = (n, r)) : Does Tryz.prog tab 199 0 [.int .u8 c] [] [] (Val (.tup [.int .i64 n, .int .i32 r])) := by
 have := Z8B c hc
 rw [h] at this
 exact this
theorem Z1a (s : List UInt8) (i : Int) (hs : Sm s) : Does Tryz.prog tab 177 0 [.str s, .int .i64 i] [] [] (Val (.tup [.int .i32 (Zo s i).1, .int .i64 (Zo s i).2])) := by
 refine Does.enter Z2 (g := 177) (fn := Tryz.f177) Tryz.call177 Tryz.func177 rfl 65 rfl rfl [.tmp 4, .tmp 5] rfl ?_
 intro w0 F η0 h0
 conv => whnf
 repeat' ((first | refine AU ?_ | (refine IW (fun h => ?_) (fun h => ?_) <;> try (exfalso; omega))) <;> conv => whnf)
 · refine FIN.value h0 rfl ?_
   unfold Zo; rw [if_pos h]
 · have e0 := ZL s i; have e1 := ZL s (i + 1); have e2 := ZL s (i + 2); have e3 := ZL s (i + 3)
   have hl := Z4R (Zg s i)
   rcases hl with ⟨hb, hl⟩ | ⟨hb, hl⟩ | ⟨hb, hl⟩ | ⟨hb, hl⟩ | ⟨hb, hl⟩
   all_goals
     refine CALL.value (Zbg e0 hl) rfl rfl ?_
     conv => whnf
     repeat' ((first | refine CALL.value (Z6O _ (by omega)) rfl rfl ?_ | (refine LOOP.once Z2 ?_; conv => whnf) | refine CALL.value (Z57 _) rfl rfl ?_ | refine AU ?_ | (refine IW (fun h => ?_) (fun h => ?_) <;> try (exfalso; omega))) <;> conv => whnf)
   all_goals
     refine FIN.value h0 rfl ?_
     unfold Zo decB r2 r3 r4
     try simp (disch := omega) only [or6, ZbP, Zb2, Zb3, Zb4, Zb5, Vf, UF] at *
     (simp (disch := omega) only [↓if_pos, ↓if_neg, ite_self, Z9, Zb, Int.reduceAdd, Int.reduceSub, Int.reduceMul, Int.reduceNeg, or6])
theorem Z21 (s : List UInt8) (hs : Sm s) : Does Tryz.prog tab 142 0 [.str s] [] [] (Val (.int .i64 (chk s 0))) := by
 refine Does.enter Z2 (g := 142) (fn := Tryz.f142) Tryz.call142 Tryz.func142 rfl 22 rfl rfl [.tmp 2] rfl ?_
 intro w0 F η0 h0
 conv => whnf
 refine LOOP.go Z2 [0] (X := Nat) (fun i => i ≤ s.length ∧ chk s i = chk s 0) (fun i => [(3, .int .i64 (i : Int))]) (fun _ => []) 0 (fun i => s.length - i) 0 ⟨by omega, rfl⟩ ?_
 conv => whnf
 refine ⟨by exact GOES.cA h0, ?_⟩
 rintro i ⟨hi, hc⟩
 conv => whnf
 have hn := VC s i
 repeat' ((first | refine CALL.value (Z1a s _ hs) rfl rfl ?_ | refine AU ?_ | (refine IW (fun h => ?_) (fun h => ?_) <;> try (exfalso; omega))) <;> conv => whnf)
 · have hz : (Zo s i).2 = 0 := h
   refine FIN.value h0 rfl ?_
   rw [← hc, Z4Q (by omega) hz]
 · rename_i h1
   refine ⟨i + (Zo s i).2.toNat, ⟨by omega, ?_⟩, by omega, ?_⟩
   · rw [← hc, ← Z2B (by omega) h]
   · conv => whnf
     exact GOES.cA h0
 · refine FIN.value h0 rfl ?_
   rw [← hc, Z82 (by omega)]
theorem XA (s : List UInt8) (c : Int) : Does Tryz.prog tab 233 0 [.str s, .int .u8 c] [] [] (Val (.int .i64 (Lib.indexByte s c.toNat.toUInt8))) := by
 refine Does.says fun η w vs hd => ?_
 simp only [DenL, Den] at hd
 obtain ⟨u, us, rfl, rfl, u', us', rfl, rfl, rfl⟩ := hd
 refine ⟨_, ?_, rfl⟩
 rw [run_callFunc_extern Tryz.func233 (by kernel_rfl) (by kernel_rfl) (by kernel_rfl) (e := Extern.BytealgIndexByte.indexByte) (by kernel_rfl), Lib.run_indexByteString]
 rfl
theorem JZ (s : List UInt8) (c : Int) : Does Tryz.prog tab 230 0 [.str s, .int .u8 c] [] [] (Val (.int .i64 (Lib.indexByte s c.toNat.toUInt8))) := by
 refine Does.enter Z2 (g := 230) (fn := Tryz.f230) Tryz.call230 Tryz.func230 rfl 8 rfl rfl [.tmp 4] rfl ?_
 intro w0 F η0 h0
 conv => whnf
 repeat' ((first | refine CALL.value (XA _ _) rfl rfl ?_ | refine AU ?_ | (refine IW (fun h => ?_) (fun h => ?_) <;> try (exfalso; omega))) <;> conv => whnf)
 exact FIN.value h0 rfl rfl
theorem Jj (s : List UInt8) (c : Int) : Does Tryz.prog tab 222 0 [.str s, .int .u8 c] [] [] (Val (.int .i64 (Lib.indexByte s c.toNat.toUInt8))) := by
 refine Does.enter Z2 (g := 222) (fn := Tryz.f222) Tryz.call222 Tryz.func222 rfl 8 rfl rfl [.tmp 4] rfl ?_
 intro w0 F η0 h0
 conv => whnf
 repeat' ((first | refine CALL.value (JZ _ _) rfl rfl ?_ | refine AU ?_ | (refine IW (fun h => ?_) (fun h => ?_) <;> try (exfalso; omega))) <;> conv => whnf)
 exact FIN.value h0 rfl rfl
theorem Z1p (r : Int) : Does Tryz.prog tab 223 0 [.int .i32 r] [] [] (Val (.bool (Z2A r))) := by
 refine Does.enter Z2 (g := 223) (fn := Tryz.f223) Tryz.call223 Tryz.func223 rfl 17 rfl rfl [.tmp 2] rfl ?_
 intro w0 F η0 h0
 conv => whnf
 repeat' ((first | refine AU ?_ | (refine IW (fun h => ?_) (fun h => ?_) <;> try (exfalso; omega))) <;> conv => whnf)
 all_goals
   refine FIN.value h0 rfl (congrArg SV.bool ?_)
   rw [Bool.eq_iff_iff, Vf]
   simp
   try omega
theorem Z47 (g : Nat) (p : Int → Bool) (hp : ∀ r : Int, X4 r → Does Tryz.prog tab g 0 [.int .i32 r] [] [] (Val (.bool (p r)))) (s : List UInt8) (hs : Sm s) : Does Tryz.prog tab 194 0 [.str s, .fn (.func g) [] [], .bool true] [] [] (Val (.int .i64 (idxF p s 0))) := by
 refine Does.enter Z2 (g := 194) (fn := Tryz.f194) Tryz.call194 Tryz.func194 rfl 21 rfl rfl [.tmp 6] rfl ?_
 intro w0 F η0 h0
 conv => whnf
 refine LOOP.go Z2 [1, 2, 10] (X := Nat) (fun i => i ≤ s.length ∧ idxF p s i = idxF p s 0) (fun i => []) (fun i => [(0, .siter s i)]) 1 (fun i => s.length - i) 0 ⟨by omega, rfl⟩ ?_
 conv => whnf
 refine ⟨by exact GOES.cA h0, ?_⟩
 rintro i ⟨hi, hc⟩
 conv => whnf
 refine ⟨fun h => ?_, fun h => ?_⟩
 · have h : i < s.length := by simpa using h
   have hf := Z0Z s i h
   have hd := WZ s i
   conv => whnf
   repeat' ((first | refine CALL.value (hp _ (Z4W s i)) rfl rfl ?_ | refine AU ?_ | (refine IW (fun h => ?_) (fun h => ?_) <;> try (exfalso; omega))) <;> conv => whnf)
   · refine FIN.value h0 rfl ?_
     rw [← hc, Z8l (by omega) (by simpa using h)]
   · refine ⟨i + (deco s i).2, ⟨by omega, ?_⟩, by omega, ?_⟩
     · rw [← hc, ← Z11 (by omega) (by simpa using h)]
     · conv => whnf
       exact GOES.cA h0
 · have h : s.length ≤ i := by simpa using h
   conv => whnf
   repeat' ((first | refine AU ?_ | (refine IW (fun h => ?_) (fun h => ?_) <;> try (exfalso; omega))) <;> conv => whnf)
   refine FIN.value h0 rfl ?_
   rw [← hc, Z5W h]
theorem Z1q (g : Nat) (p : Int → Bool) (hp : ∀ r : Int, X4 r → Does Tryz.prog tab g 0 [.int .i32 r] [] [] (Val (.bool (p r)))) (s : List UInt8) (hs : Sm s) : Does Tryz.prog tab 173 0 [.str s, .fn (.func g) [] []] [] [] (Val (.int .i64 (idxF p s 0))) := by
 refine Does.enter Z2 (g := 173) (fn := Tryz.f173) Tryz.call173 Tryz.func173 rfl 8 rfl rfl [.tmp 4] rfl ?_
 intro w0 F η0 h0
 conv => whnf
 repeat' ((first | refine CALL.value (Z47 g p hp s hs) rfl rfl ?_ | refine AU ?_ | (refine IW (fun h => ?_) (fun h => ?_) <;> try (exfalso; omega))) <;> conv => whnf)
 exact FIN.value h0 rfl rfl
def Zbh : Plan := (Zq [(0, 1), (1, 1), (2, 1), (3, 1), (4, 1), (5, 1), (6, 1)])
def Zbi : Plan := (Zq [(0, 1), (1, 1), (2, 1), (3, 1), (4, 1), (5, 1), (6, 1), (7, 3), (8, 1)])
def Z8C : Plan := (Zq [(0, 1), (1, 1), (2, 1), (3, 1), (4, 1), (5, 1), (6, 1), (7, 1), (8, 1), (9, 1), (10, 1)])
def Z1b (r : Int) : Int := if 0 ≤ r ∧ r < 128 then Lib.indexByte bars (IntKind.u8.wrap r).toNat.toUInt8 else -1
theorem Z1r (r : Int) (hr : X4 r) : Does Tryz.prog tab 215 0 [.str bars, .int .i32 r] [] [] (Val (.int .i64 (Z1b r))) := by
 have hlen : bars.length = 9 := rfl
 refine Does.enter Z2 (g := 215) (fn := Tryz.f215) Tryz.call215 Tryz.func215 rfl 187 rfl rfl [.tmp 4] rfl ?_
 intro w0 F η0 h0
 conv => whnf
 repeat' ((first | refine CALL.value (Jj _ _) rfl rfl ?_ | refine CALL.value (Z1p _) rfl rfl ?_ | refine AU ?_ | (refine IW (fun h => ?_) (fun h => ?_) <;> try (exfalso; omega))) <;> conv => whnf)
 · refine FIN.value h0 rfl ?_
   unfold Z1b; rw [if_pos h]
 · subst h
   refine LOOP.go Z2 [175] (X := Nat) (fun i => i ≤ 9) (fun i => []) (fun i => [(0, .siter bars i)]) 1 (fun i => 9 - i) 0 (by omega) ?_
   conv => whnf
   refine ⟨by exact GOES.cA h0, ?_⟩
   intro i hi
   conv => whnf
   refine ⟨fun h => ?_, fun h => ?_⟩
   · have h : i < bars.length := by simpa using h
     have hd := VG (Z2J i)
     have hb := ZL bars i
     conv => whnf
     refine IF.tt ?_
     conv => whnf
     refine IF.no (by rw [show Utf8.decode ⟨bars.toArray⟩ i = _ from hd]; have := Z2J i; simp; omega) ?_
     conv => whnf
     refine ⟨i + (deco bars i).2, by rw [hd]; show i + 1 ≤ 9; omega, by rw [hd]; show 9 - (i + 1) < 9 - i; omega, ?_⟩
     conv => whnf
     exact GOES.cA h0
   · conv => whnf
     refine IF.ff ?_
     conv => whnf
     refine FIN.value h0 rfl ?_
     unfold Z1b; rw [if_neg (by omega)]
 · rw [UF] at h
   exact (h hr).elim
 · have hl := Z9E (r := r) (by unfold X4 at hr; omega)
   have hh := Z8k hr (by unfold X4 at hr; omega)
   have he := Z8j hr
   rw [he]
   have hm := Z6I (s := encM r) (i := ((encM r).length : Int) - 1) (by omega)
   have hm2 : 128 ≤ Zg (encM r) (((encM r).length : Int) - 1) := by
     obtain ⟨c, hc, e⟩ := hm
     rw [e]; exact hh c hc
   have hm3 := ZL (encM r) (((encM r).length : Int) - 1)
   have hm4 := Z2J (((encM r).length : Int) - 1)
   refine LOOP.once Z2 ?_
   conv => whnf
   repeat' ((first | refine DRAWN.of (id := 6) Z2 mixed Zbh (by kernel_rfl) ?_ | refine DRAWN.of (id := 7) Z2 mixed Zbi (by kernel_rfl) ?_ | refine DRAWN.of (id := 14) Z2 mixed Z8C (by kernel_rfl) ?_ | refine DRAWN.of (id := 31) Z2 mixed Z8C (by kernel_rfl) ?_ | refine ADD.mk (fun _ _ => ?_) | refine AD ?_ | refine FORK.mk ?_ ?_ | refine CALL.value (Jj _ _) rfl rfl ?_ | refine AU ?_ | (refine IW (fun h => ?_) (fun h => ?_) <;> try (exfalso; omega))) <;> conv => whnf)
   · refine FIN.value h0 rfl ?_
     unfold Z1b; rw [if_neg (by unfold X4 at hr; omega)]
   · have := Z9H (l := List.drop (((encM r).length : Int) - 1 + 1).toNat bars) (c := Zg (encM r) (((encM r).length : Int) - 1)) (by omega) (fun b hb => Z9G b (List.mem_of_mem_drop hb))
     rw [this] at h
     omega
theorem W9 (r : Int) (hr : X4 r) : Does Tryz.prog tab 195 0 [.str bars, .int .i32 r] [] [] (Val (.bool (decide (0 ≤ Z1b r)))) := by
 refine Does.enter Z2 (g := 195) (fn := Tryz.f195) Tryz.call195 Tryz.func195 rfl 9 rfl rfl [.tmp 4] rfl ?_
 intro w0 F η0 h0
 conv => whnf
 repeat' ((first | refine CALL.value (Z1r r hr) rfl rfl ?_ | refine AU ?_ | (refine IW (fun h => ?_) (fun h => ?_) <;> try (exfalso; omega))) <;> conv => whnf)
 exact FIN.value h0 rfl rfl
theorem Zbj {r : Int} (hr : X4 r) : (r ≤ 32 ∨ 0 ≤ Z1b r) ↔ Our.Barred r := by
 unfold X4 at hr
 unfold Z1b
 by_cases h : 0 ≤ r ∧ r < 128
 · rw [if_pos h]
   have : ∀ n : Nat, n < 128 → (((n : Int) ≤ 32 ∨ 0 ≤ Lib.indexByte bars (IntKind.u8.wrap (n : Int)).toNat.toUInt8) ↔ Our.Barred (n : Int)) := by decide +kernel
   have := this r.toNat (by omega)
   rwa [show ((r.toNat : Nat) : Int) = r by omega] at this
 · rw [if_neg h]
   unfold Our.Barred
   omega
theorem Z58 (r : Int) (hr : X4 r) : Does Tryz.prog tab 174 0 [.int .i32 r] [] [] (Val (.bool (Ud r))) := by
 refine Does.enter Z2 (g := 174) (fn := Tryz.f174) Tryz.call174 Tryz.func174 rfl 9 rfl rfl [.tmp 2] rfl ?_
 intro w0 F η0 h0
 conv => whnf
 repeat' ((first | refine CALL.value (W9 r hr) rfl rfl ?_ | refine AU ?_ | (refine IW (fun h => ?_) (fun h => ?_) <;> try (exfalso; omega))) <;> conv => whnf)
 all_goals
   refine FIN.value h0 rfl (congrArg SV.bool ?_)
   rw [Bool.eq_iff_iff, Z3S, ← Zbj hr]
   simp
   try omega
theorem Z1s (s : List UInt8) (hs : Sm s) : Does Tryz.prog tab 139 0 [.str s] [] [] (Val (.int .i64 (refM s))) := by
 have hp : ∀ c : Int, 128 ≤ c → Ud c = false := fun c hc => by rw [Z2H]; unfold Our.Barred; omega
 refine Does.enter Z2 (g := 139) (fn := Tryz.f139) Tryz.call139 Tryz.func139 rfl 15 rfl rfl [.tmp 2] rfl ?_
 intro w0 F η0 h0
 conv => whnf
 repeat' ((first | refine CALL.value (Z21 s hs) rfl rfl ?_ | refine CALL.value (Z1q _ Ud (fun r hr => Z58 r hr) s hs) rfl rfl ?_ | refine AU ?_ | (refine IW (fun h => ?_) (fun h => ?_) <;> try (exfalso; omega))) <;> conv => whnf)
 all_goals
   refine FIN.value h0 rfl (congrArg (SV.int _) ?_)
   unfold refM
 · rw [if_pos (by omega)]
 · rw [if_neg (by omega), if_pos (by omega)]
 all_goals
   rename_i h1 h2
   have hc : chk s 0 = -1 := by
     have := ZbM s 0
     omega
   have := Z3T Ud hp s 0 hc
   rw [if_neg (by omega), if_neg (by omega)]
 · rw [if_pos (this.1 h)]
 · rw [if_neg (fun h' => by have := this.2 h'; omega)]
theorem Z59 (s : List UInt8) (hs : Sm s) : Does Tryz.prog tab 140 0 [.str s] [] [] (Val (.str (s.take (schM s 0).toNat))) := by
 refine Does.enter Z2 (g := 140) (fn := Tryz.f140) Tryz.call140 Tryz.func140 rfl 61 rfl rfl [.tmp 2] rfl ?_
 intro w0 F η0 h0
 conv => whnf
 refine LOOP.go Z2 [0, 7] (X := Nat) (fun i => i ≤ s.length ∧ schM s i = schM s 0) (fun i => []) (fun i => [(0, .siter s i)]) 1 (fun i => s.length - i) 0 ⟨by omega, rfl⟩ ?_
 conv => whnf
 refine ⟨by exact GOES.cA h0, ?_⟩
 rintro i ⟨hi, hc⟩
 conv => whnf
 refine ⟨fun h => ?_, fun h => ?_⟩
 · have h : i < s.length := by simpa using h
   have hf := Z0Z s i h
   have hp := WZ s i
   have hb := ZL s i
   have hd : ((deco s i).1 : Int) = Zg s i ∧ (deco s i).2 = 1 ∨ 128 ≤ Zg s i ∧ 128 ≤ (deco s i).1 := by
     by_cases ha : Zg s i < 128
     · left; rw [VG ha]; simp; omega
     · right; exact ⟨by omega, Z10 (by omega)⟩
   unfold deco at *
   generalize Utf8.decode ⟨s.toArray⟩ i = d at *
   obtain ⟨r, n⟩ := d
   simp only at hf hp hd
   conv => whnf
   repeat' ((first | refine AU ?_ | (refine IW (fun h => ?_) (fun h => ?_) <;> try (exfalso; omega))) <;> conv => whnf)
   all_goals first
     | (have hn : n = 1 := by omega
        subst hn
        refine ⟨i + 1, ⟨hf, ?_⟩, by omega, ?_⟩
        · rw [← hc, ← Z3U (by omega) (by omega) (by unfold XS SchI; omega)]
        · conv => whnf
          exact GOES.cA h0)
     | (refine FIN.value h0 rfl (congrArg SV.str ?_); rw [← hc, W7 (by omega) (by omega)])
     | (refine FIN.value h0 rfl (congrArg SV.str ?_); rw [← hc]
        by_cases h58 : Zg s i = 58
        · rw [W7 (by omega) h58]; rw [show (i : Int) = 0 by omega]; rfl
        · rw [Z3V (by omega) h58 (by unfold XS SchI; omega)]; rfl)
 · have h : s.length ≤ i := by simpa using h
   conv => whnf
   repeat' ((first | refine AU ?_ | (refine IW (fun h => ?_) (fun h => ?_) <;> try (exfalso; omega))) <;> conv => whnf)
   refine FIN.value h0 rfl ?_
   rw [← hc, Z2I h]; rfl
theorem UL (s : List UInt8) (hs : Sm s) : Does Tryz.prog tab 114 0 [.str s] [] [] (Val (.int .i64 (iriM s))) := by
 have hr := Z9F s 0
 refine Does.enter Z2 (g := 114) (fn := Tryz.f114) Tryz.call114 Tryz.func114 rfl 12 rfl rfl [.tmp 2] rfl ?_
 intro w0 F η0 h0
 conv => whnf
 repeat' ((first | refine CALL.value (Z1s s hs) rfl rfl ?_ | refine CALL.value (Z59 s hs) rfl rfl ?_ | refine AU ?_ | (refine IW (fun h => ?_) (fun h => ?_) <;> try (exfalso; omega))) <;> conv => whnf)
 · refine FIN.value h0 rfl (congrArg (SV.int _) ?_)
   unfold iriM; rw [if_pos h]
 · rename_i h1
   refine FIN.value h0 rfl (congrArg (SV.int _) ?_)
   unfold iriM; rw [if_neg (by omega), if_pos]
   have hz : (s.take (schM s 0).toNat).length = 0 := by
     have : s.take (schM s 0).toNat = [] := h
     rw [this]; rfl
   rw [List.length_take] at hz
   by_cases hl : s.length = 0
   · rw [Z2I (by omega)]
   · omega
 · rename_i h1
   refine FIN.value h0 rfl (congrArg (SV.int _) ?_)
   unfold iriM; rw [if_neg (by omega), if_neg]
   intro h2
   apply h
   rw [h2]; rfl
theorem Wz (r : Int) : Does Tryz.prog tab 220 0 [.int .i32 r] [] [] (Val (.bool (decide (XS r)))) := by
 refine Does.enter Z2 (g := 220) (fn := Tryz.f220) Tryz.call220 Tryz.func220 rfl 17 rfl rfl [.tmp 2] rfl ?_
 intro w0 F η0 h0
 conv => whnf
 repeat' ((first | refine AU ?_ | (refine IW (fun h => ?_) (fun h => ?_) <;> try (exfalso; omega))) <;> conv => whnf)
 refine FIN.value h0 rfl (congrArg SV.bool ?_)
 rw [Bool.eq_iff_iff]
 simp only [Bool.cond_eq_ite, decide_eq_true_eq, Bool.if_false_right, Bool.if_true_left, Bool.and_eq_true, Bool.or_eq_true]
 rfl
theorem XV (r : Int) : Does Tryz.prog tab 198 0 [.int .i32 r] [] [] (Val (.bool (decide (Z12 r)))) := by
 refine Does.enter Z2 (g := 198) (fn := Tryz.f198) Tryz.call198 Tryz.func198 rfl 9 rfl rfl [.tmp 2] rfl ?_
 intro w0 F η0 h0
 conv => whnf
 repeat' ((first | refine AU ?_ | (refine IW (fun h => ?_) (fun h => ?_) <;> try (exfalso; omega))) <;> conv => whnf)
 refine FIN.value h0 rfl (congrArg SV.bool ?_)
 rw [Bool.eq_iff_iff]
 simp only [Bool.cond_eq_ite, decide_eq_true_eq, Bool.if_false_right, Bool.if_true_left, Bool.and_eq_true, Bool.or_eq_true]
 rfl
theorem Z6P (r : Int) : Does Tryz.prog tab 216 0 [.int .i32 r] [] [] (Val (.bool (decide (Z4Z r)))) := by
 refine Does.enter Z2 (g := 216) (fn := Tryz.f216) Tryz.call216 Tryz.func216 rfl 25 rfl rfl [.tmp 2] rfl ?_
 intro w0 F η0 h0
 conv => whnf
 repeat' ((first | refine CALL.value (Wz _) rfl rfl ?_ | (refine LOOP.once Z2 ?_; conv => whnf) | refine AU ?_ | (refine IW (fun h => ?_) (fun h => ?_) <;> try (exfalso; omega))) <;> conv => whnf)
 all_goals
   refine FIN.value h0 rfl (congrArg SV.bool ?_)
   first
     | exact decide_eq_decide.2 (by unfold XS Z4Z; omega)
     | exact (decide_eq_true (by unfold Z4Z; omega)).symm
     | exact (decide_eq_false (by unfold Z4Z; omega)).symm
theorem UM (r : Int) : Does Tryz.prog tab 197 0 [.int .i32 r] [] [] (Val (.bool (decide (Z1U r)))) := by
 refine Does.enter Z2 (g := 197) (fn := Tryz.f197) Tryz.call197 Tryz.func197 rfl 9 rfl rfl [.tmp 2] rfl ?_
 intro w0 F η0 h0
 conv => whnf
 repeat' ((first | refine CALL.value (Z6P _) rfl rfl ?_ | refine AU ?_ | (refine IW (fun h => ?_) (fun h => ?_) <;> try (exfalso; omega))) <;> conv => whnf)
 all_goals
   refine FIN.value h0 rfl (congrArg SV.bool ?_)
   rw [Bool.eq_iff_iff, decide_eq_true_iff]
   unfold Z1U
   simp
theorem Z1t (r : Int) : Does Tryz.prog tab 196 0 [.int .i32 r] [] [] (Val (.bool (decide (Ue r)))) := by
 refine Does.enter Z2 (g := 196) (fn := Tryz.f196) Tryz.call196 Tryz.func196 rfl 33 rfl rfl [.tmp 2] rfl ?_
 intro w0 F η0 h0
 conv => whnf
 repeat' ((first | refine CALL.value (UM _) rfl rfl ?_ | refine CALL.value (XV _) rfl rfl ?_ | refine AU ?_ | (refine IW (fun h => ?_) (fun h => ?_) <;> try (exfalso; omega))) <;> conv => whnf)
 all_goals
   refine FIN.value h0 rfl (congrArg SV.bool ?_)
   rw [Bool.eq_iff_iff]
   unfold Ue
   simp_all
   try omega
theorem Z48 (r : Int) : Does Tryz.prog tab 176 0 [.int .i32 r] [] [] (Val (.bool (decide (Wy r)))) := by
 refine Does.enter Z2 (g := 176) (fn := Tryz.f176) Tryz.call176 Tryz.func176 rfl 9 rfl rfl [.tmp 2] rfl ?_
 intro w0 F η0 h0
 conv => whnf
 repeat' ((first | refine CALL.value (UM _) rfl rfl ?_ | refine CALL.value (XV _) rfl rfl ?_ | refine AU ?_ | (refine IW (fun h => ?_) (fun h => ?_) <;> try (exfalso; omega))) <;> conv => whnf)
 all_goals
   refine FIN.value h0 rfl (congrArg SV.bool ?_)
   unfold Wy
   simp_all
theorem Z8D (g : Nat) (p : Int → Prop) [DecidablePred p] (hp : ∀ r : Int, Does Tryz.prog tab g 0 [.int .i32 r] [] [] (Val (.bool (decide (p r))))) (s : List UInt8) (i : Int) (hs : Sm s) : Does Tryz.prog tab 175 0 [.str s, .int .i64 i, .fn (.func g) [] []] [] [] (Val (.int .i64 (runM p s i))) := by
 have hn := VC s i
 refine Does.enter Z2 (g := 175) (fn := Tryz.f175) Tryz.call175 Tryz.func175 rfl 55 rfl rfl [.tmp 6] rfl ?_
 intro w0 F η0 h0
 conv => whnf
 repeat' ((first | refine CALL.value (Z1a s _ hs) rfl rfl ?_ | refine CALL.value (hp _) rfl rfl ?_ | refine AU ?_ | (refine IW (fun h => ?_) (fun h => ?_) <;> try (exfalso; omega))) <;> conv => whnf)
 · exact FIN.value h0 rfl (congrArg (SV.int _) (by unfold runM; rw [if_pos (.inl h)]))
 · exact FIN.value h0 rfl (congrArg (SV.int _) (by unfold runM; rw [if_pos (.inr h)]))
 rename_i h1
 have hi : 0 ≤ i ∧ i < s.length := by
   apply Classical.byContradiction; intro hh; exact h1 (by unfold Zo; rw [if_pos (by omega)])
 refine LOOP.go Z2 [0, 1] (X := Nat × Nat) (fun x => x.1 ≤ s.length ∧ x.2 ≤ x.1 ∧ Z2K s x.1 x.2 = Z2K s (i.toNat + (Zo s i).2.toNat) (i.toNat + (Zo s i).2.toNat)) (fun x => [(10, .int .i64 (x.1 : Int)), (9, .int .i64 (x.2 : Int))]) (fun i => []) 0 (fun x => s.length - x.1) (i.toNat + (Zo s i).2.toNat, i.toNat + (Zo s i).2.toNat) ⟨by omega, by omega, rfl⟩ ?_
 conv => whnf
 refine ⟨by exact GOES.cA h0, ?_⟩
 rintro ⟨j, e⟩ ⟨hj, he, hc⟩
 simp only at hj he hc
 have hn' := VC s j
 conv => whnf
 repeat' ((first | refine CALL.value (Z1a s _ hs) rfl rfl ?_ | refine CALL.value (Z1t _) rfl rfl ?_ | refine AU ?_ | (refine IW (fun h => ?_) (fun h => ?_) <;> try (exfalso; omega))) <;> conv => whnf)
 all_goals first
   | (refine FIN.value h0 rfl (congrArg (SV.int _) ?_)
      unfold runM
      rw [if_neg (by simp [*]), ← hc, Z6K (by simp [*])]
      simp (disch := omega) only [Z9])
   | (refine ⟨(j + (Zo s j).2.toNat, if (Zo s j).1 = 46 then e else j + (Zo s j).2.toNat), ⟨by simp only; omega, by simp only; split <;> omega, ?_⟩, by simp only; omega, ?_⟩
      · simp only
        rw [← hc, ← Z6J (by simp [*])]
      · conv => whnf
        simp only [*, if_true, if_false]
        exact GOES.cA h0)
theorem Z2R (s : List UInt8) (i : Int) (hs : Sm s) : Does Tryz.prog tab 141 0 [.str s, .int .i64 i] [] [] (Val (.int .i64 (runM Wy s i))) := by
 refine Does.enter Z2 (g := 141) (fn := Tryz.f141) Tryz.call141 Tryz.func141 rfl 8 rfl rfl [.tmp 4] rfl ?_
 intro w0 F η0 h0
 conv => whnf
 repeat' ((first | refine CALL.value (Z8D _ Wy (fun r => Z48 r) s i hs) rfl rfl ?_ | refine AU ?_ | (refine IW (fun h => ?_) (fun h => ?_) <;> try (exfalso; omega))) <;> conv => whnf)
 exact FIN.value h0 rfl rfl
theorem Z5a (s : List UInt8) (hs : Sm s) : Does Tryz.prog tab 115 0 [.str s] [] [] (Val (.int .i64 (Z5Y s))) := by
 refine Does.enter Z2 (g := 115) (fn := Tryz.f115) Tryz.call115 Tryz.func115 rfl 14 rfl rfl [.tmp 2] rfl ?_
 intro w0 F η0 h0
 conv => whnf
 repeat' ((first | refine CALL.value (Z2R s _ hs) rfl rfl ?_ | refine AU ?_ | (refine IW (fun h => ?_) (fun h => ?_) <;> try (exfalso; omega))) <;> conv => whnf)
 · exact FIN.value h0 rfl (congrArg (SV.int _) (by unfold Z5Y; rw [if_pos (by simpa using h)]))
 · exact FIN.value h0 rfl (congrArg (SV.int _) (by unfold Z5Y; rw [if_neg (by simp; exact h)]))
theorem XW (s : List UInt8) (least most : Int) (pure : Bool) (hs : Sm s) : Does Tryz.prog tab 204 0 [.str s, .int .i64 least, .int .i64 most, .bool pure] [] [] (Val (.bool (ZN s least most pure))) := by
 refine Does.enter Z2 (g := 204) (fn := Tryz.f204) Tryz.call204 Tryz.func204 rfl 37 rfl rfl [.tmp 8] rfl ?_
 intro w0 F η0 h0
 conv => whnf
 refine LOOP.go Z2 [0, 1, 2, 3, 12] (X := Nat) (fun i => i ≤ s.length ∧ allB (UH pure) s i = allB (UH pure) s 0) (fun i => []) (fun i => [(0, .siter s i)]) 1 (fun i => s.length - i) 0 ⟨by omega, rfl⟩ ?_
 conv => whnf
 refine ⟨by exact GOES.cA h0, ?_⟩
 rintro i ⟨hi, hc⟩
 conv => whnf
 refine ⟨fun h => ?_, fun h => ?_⟩
 · have h : i < s.length := by simpa using h
   have hf := Z0Z s i h
   have hp := WZ s i
   have hd : ((deco s i).1 : Int) = Zg s i ∧ (deco s i).2 = 1 ∨ 128 ≤ Zg s i ∧ 128 ≤ (deco s i).1 := by
     have hb := ZL s i
     by_cases ha : Zg s i < 128
     · left; rw [VG ha]; simp; omega
     · right; exact ⟨by omega, Z10 (by omega)⟩
   unfold deco at *
   generalize Utf8.decode ⟨s.toArray⟩ i = d at *
   obtain ⟨r, n⟩ := d
   simp only at hf hp hd
   have key : allB (UH pure) s 0 = (UH pure r && allB (UH pure) s (i + n)) ∨ 128 ≤ r ∧ allB (UH pure) s 0 = false := by
     rcases hd with ⟨h1, rfl⟩ | ⟨h1, h2⟩
     · left; rw [← hc, Z8n h, h1]
     · right; exact ⟨h2, by rw [← hc, Z8n h, Z1V h1, Bool.false_and]⟩
   conv => whnf
   repeat' ((first | refine CALL.value (Wz _) rfl rfl ?_ | refine CALL.value (XV _) rfl rfl ?_ | refine AU ?_ | (refine IW (fun h => ?_) (fun h => ?_) <;> try (exfalso; omega))) <;> conv => whnf)
   all_goals first
     | (refine FIN.value h0 rfl (congrArg SV.bool ?_)
        have h1 : UH pure r = false := by unfold UH Z2L VY; simp [*]
        have h2 : allB (UH pure) s 0 = false := by rcases key with h | h <;> simp [h, h1]
        unfold ZN; rw [h2]; rfl)
     | (have h1 : UH pure r = true := by unfold UH Z2L VY; simp [*]
        refine ⟨i + n, ⟨hf, ?_⟩, by omega, ?_⟩
        · rcases key with h | h
          · rw [h, h1, Bool.true_and]
          · rw [Z1V (by omega)] at h1; cases h1
        · conv => whnf
          exact GOES.cA h0)
 · have h : s.length ≤ i := by simpa using h
   conv => whnf
   repeat' ((first | refine AU ?_ | (refine IW (fun h => ?_) (fun h => ?_) <;> try (exfalso; omega))) <;> conv => whnf)
   all_goals
     refine FIN.value h0 rfl (congrArg SV.bool ?_)
     unfold ZN
     rw [← hc, Z9I h, Bool.eq_iff_iff]
     simp [Bool.cond_eq_ite]
theorem Ja (s : List UInt8) : Does Tryz.prog tab 180 0 [.str s] [] [] (Val (.bool (JT s))) := by
 refine Does.enter Z2 (g := 180) (fn := Tryz.f180) Tryz.call180 Tryz.func180 rfl 9 rfl rfl [.tmp 2] rfl ?_
 intro w0 F η0 h0
 conv => whnf
 repeat' ((first | refine AU ?_ | (refine IW (fun h => ?_) (fun h => ?_) <;> try (exfalso; omega))) <;> conv => whnf)
 refine FIN.value h0 rfl (congrArg SV.bool ?_)
 unfold JT
 rw [Bool.eq_iff_iff]
 simp [Bool.cond_eq_ite]
theorem Z1c (s : List UInt8) (hs : Sm s) : Does Tryz.prog tab 207 0 [.str s] [] [] (Val (.bool (Uf s))) := by
 have b0 := ZL s 0; have b1 := ZL s 1; have b2 := ZL s 2
 refine Does.enter Z2 (g := 207) (fn := Tryz.f207) Tryz.call207 Tryz.func207 rfl 28 rfl rfl [.tmp 2] rfl ?_
 intro w0 F η0 h0
 conv => whnf
 repeat' ((first | refine CALL.value (XW _ _ _ _ hs) rfl rfl ?_ | refine CALL.value (XV _) rfl rfl ?_ | refine AU ?_ | (refine IW (fun h => ?_) (fun h => ?_) <;> try (exfalso; omega))) <;> conv => whnf)
 all_goals
   refine FIN.value h0 rfl (congrArg SV.bool ?_)
   unfold Uf VY
   try simp (disch := omega) only [Zb] at *
   simp_all
   try omega
theorem Jb (s : List UInt8) (hs : Sm s) : Does Tryz.prog tab 208 0 [.str s] [] [] (Val (.bool (Z2M s))) := by
 have b0 := ZL s 0
 have hm : ZN s 4 4 false = true → s.length = 4 := by unfold ZN; simp; omega
 refine Does.enter Z2 (g := 208) (fn := Tryz.f208) Tryz.call208 Tryz.func208 rfl 15 rfl rfl [.tmp 2] rfl ?_
 intro w0 F η0 h0
 conv => whnf
 repeat' ((first | refine CALL.value (XW _ _ _ _ hs) rfl rfl ?_ | refine CALL.value (XV _) rfl rfl ?_ | (refine NEED.mk (by have := hm (by assumption); omega) ?_; conv => whnf) | refine AU ?_ | (refine IW (fun h => ?_) (fun h => ?_) <;> try (exfalso; omega))) <;> conv => whnf)
 all_goals
   refine FIN.value h0 rfl (congrArg SV.bool ?_)
   unfold Z2M VY
   try simp (disch := omega) only [Zb] at *
   simp_all
theorem Yx (s : List UInt8) (hs : Sm s) : Does Tryz.prog tab 144 0 [.str s] [] [] (Val (.str (Zm s))) := by
 refine Does.enter Z2 (g := 144) (fn := Tryz.f144) Tryz.call144 Tryz.func144 rfl 29 rfl rfl [.tmp 2] rfl ?_
 intro w0 F η0 h0
 conv => whnf
 repeat' ((first | refine AU ?_ | (refine IW (fun h => ?_) (fun h => ?_) <;> try (exfalso; omega))) <;> conv => whnf)
 refine LOOP.go Z2 [3, 8, 9] (X := Nat) (fun i => i ≤ s.length) (fun i => [(10, .int .i64 (i : Int))]) (fun i => [(0, .rows 1 ((curL s i).map Sx.bytesRow))]) 1 (fun i => s.length - i) 0 (by omega) ?_
 conv => whnf
 refine ⟨by (refine GOES.cutting h0 rfl rfl rfl (by first | rfl | (simp only [Z4, Z3, Z0 _ (VB _), Bool.and_self, Bool.and_true] <;> rfl)) ?_ ?_ <;> (repeat' (first | (with_reducible rfl) | (exact ZS rfl (by first | (simp; done) | omega | (simp; omega))) | (exact congrArg (SV.int _) (by first | omega | (simp (disch := omega) only [lnB, Z9, Zb] <;> omega) | (simp; done) | (simp <;> omega))) | (exact congrArg (Hp.rows _) (by rw [Z8o])) | ((conv => whnf); refine ⟨?_, ?_⟩) | exact trivial | rfl))), ?_⟩
 intro i hi
 have hlen := Z9J s i
 conv => whnf
 repeat' ((first | (refine GET.at (row := Sx.bytesRow (s[i]'(by omega))) (by rw [show 0 + (i : Int).toNat = i by omega]; exact Z9N (by omega)) ?_; conv => whnf) | refine AU ?_ | (refine IW (fun h => ?_) (fun h => ?_) <;> try (exfalso; omega))) <;> conv => whnf)
 · have hl : i < s.length := by omega
   refine ⟨i + 1, by omega, by omega, ?_⟩
   conv => whnf
   (refine GOES.cutting h0 rfl rfl rfl (by first | rfl | (simp only [Z4, Z3, Z0 _ (VB _), Bool.and_self, Bool.and_true] <;> rfl)) ?_ ?_ <;> (repeat' (first | (with_reducible rfl) | (exact ZS rfl (by first | (simp; done) | omega | (simp; omega))) | (exact congrArg (SV.int _) (by first | omega | (simp (disch := omega) only [lnB, Z9, Zb] <;> omega) | (simp; done) | (simp <;> omega))) | (exact congrArg (Hp.rows _) (by rw [Zbd h, show 0 + (i : Int).toNat = i by omega, Z9O hl])) | ((conv => whnf); refine ⟨?_, ?_⟩) | exact trivial | rfl)))
 · have hl : i < s.length := by omega
   refine ⟨i + 1, by omega, by omega, ?_⟩
   conv => whnf
   (refine GOES.cutting h0 rfl rfl rfl (by first | rfl | (simp only [Z4, Z3, Z0 _ (VB _), Bool.and_self, Bool.and_true] <;> rfl)) ?_ ?_ <;> (repeat' (first | (with_reducible rfl) | (exact ZS rfl (by first | (simp; done) | omega | (simp; omega))) | (exact congrArg (SV.int _) (by first | omega | (simp (disch := omega) only [lnB, Z9, Zb] <;> omega) | (simp; done) | (simp <;> omega))) | (exact congrArg (Hp.rows _) (by rw [Z8p hl (Zbe (by omega))])) | ((conv => whnf); refine ⟨?_, ?_⟩) | exact trivial | rfl)))
 · refine NEED.mk (Z9w (by omega)) ?_
   conv => whnf
   refine FIN.value h0 rfl (congrArg SV.str ?_)
   have := Zb1 (curL s i)
   rw [hlen] at this
   rw [this, Z9K (by omega)]
theorem WM (s : List UInt8) (c : Int) : Does Tryz.prog tab 228 0 [.str s, .int .u8 c] [] [] (Val (.int .i64 (Lib.countByte s c.toNat.toUInt8 : Nat))) := by
 refine Does.says fun η w vs hd => ?_
 simp only [DenL, Den] at hd
 obtain ⟨u, us, rfl, rfl, u', us', rfl, rfl, rfl⟩ := hd
 refine ⟨_, ?_, rfl⟩
 rw [run_callFunc_extern Tryz.func228 (by kernel_rfl) (by kernel_rfl) (by kernel_rfl) (e := Extern.BytealgCount.count) (by kernel_rfl), Lib.run_countString]
 rfl
theorem Z6Q (s : List UInt8) : Does Tryz.prog tab 218 0 [.str s, .str [45]] [] [] (Val (.int .i64 (s.count 45 : Nat))) := by
 refine Does.enter Z2 (g := 218) (fn := Tryz.f218) Tryz.call218 Tryz.func218 rfl 34 rfl rfl [.tmp 4] rfl ?_
 intro w0 F η0 h0
 conv => whnf
 repeat' ((first | refine CALL.value (WM _ _) rfl rfl ?_ | refine AU ?_ | (refine IW (fun h => ?_) (fun h => ?_) <;> try (exfalso; omega))) <;> conv => whnf)
 all_goals first
   | exact FIN.value h0 rfl rfl
   | (exfalso; simp at *; done)
theorem Z49 (s : List UInt8) : Does Tryz.prog tab 229 0 [.str s, .str [45]] [] [] (Val (.int .i64 (Lib.indexByte s 45))) := by
 refine Does.enter Z2 (g := 229) (fn := Tryz.f229) Tryz.call229 Tryz.func229 rfl 143 rfl rfl [.tmp 4] rfl ?_
 intro w0 F η0 h0
 conv => whnf
 repeat' ((first | refine CALL.value (XA _ _) rfl rfl ?_ | refine CALL.value (JZ _ _) rfl rfl ?_ | refine CALL.value (Jj _ _) rfl rfl ?_ | refine AU ?_ | (refine IW (fun h => ?_) (fun h => ?_) <;> try (exfalso; omega))) <;> conv => whnf)
 all_goals first
   | exact FIN.value h0 rfl rfl
   | (subst h; exact FIN.value h0 rfl rfl)
   | (rcases h with h | h
      · exact absurd h (by decide)
      · subst h; exact FIN.value h0 rfl rfl)
   | exact absurd (by assumption : ¬ ((0 + 1 : Nat) : Int) = 1) (by decide)
theorem Z22 (s : List UInt8) : Does Tryz.prog tab 219 0 [.str s, .str [45]] [] [] (Val (.int .i64 (Lib.indexByte s 45))) := by
 refine Does.enter Z2 (g := 219) (fn := Tryz.f219) Tryz.call219 Tryz.func219 rfl 8 rfl rfl [.tmp 4] rfl ?_
 intro w0 F η0 h0
 conv => whnf
 repeat' ((first | refine CALL.value (Z49 _) rfl rfl ?_ | refine AU ?_ | (refine IW (fun h => ?_) (fun h => ?_) <;> try (exfalso; omega))) <;> conv => whnf)
 exact FIN.value h0 rfl rfl
theorem Z9S {l c : Int} {b : Nat} (B : Nat) (hb : Nat.ble b B = true) (h0 : 0 ≤ l) (h1 : l ≤ c) (h2 : (B : Int) * c ≤ 281474976710656 ∧ c ≤ 9223372036854775807) : 0 ≤ l ∧ l ≤ c ∧ c ≤ 9223372036854775807 ∧ (b : Int) * c ≤ 281474976710656 :=
 ⟨h0, h1, h2.2, Int.le_trans (Int.mul_le_mul_of_nonneg_right (by have := Nat.le_of_ble_eq_true hb; omega) (by omega)) h2.1⟩
theorem Z2S (s : List UInt8) (hs : s.length ≤ 68719476736) : Does Tryz.prog tab 202 0 [.str s, .str [45], .int .i64 0, .int .i64 (-1)] [] [] (NewS 1 ((Zx s).map Zf)) := by
 have hcnt := XT s
 have hlen := Z3X s
 have hne := Z2N s
 refine Does.enter Z2 (g := 202) (fn := Tryz.f202) Tryz.call202 Tryz.func202 rfl 66 rfl rfl [.tmp 8] rfl ?_
 intro w0 F η0 h0
 conv => whnf
 repeat' ((first | refine CALL.value (Z6Q _) rfl rfl ?_ | refine AU ?_ | (refine IW (fun h => ?_) (fun h => ?_) <;> try (exfalso; omega))) <;> conv => whnf)
 have hn : (if IntKind.i64.wrap ((s.length : Int) + 1) < IntKind.i64.wrap (((s.count 45 : Nat) : Int) + 1) then IntKind.i64.wrap ((s.length : Int) + 1) else IntKind.i64.wrap (((s.count 45 : Nat) : Int) + 1)) = ((Zx s).length : Int) := by
   simp (disch := omega) only [Z9]
   rw [if_neg (by omega)]; omega
 rw [hn]
 refine NEED.mk (Z9S 16 rfl (by omega) (by omega) (by omega)) ?_
 conv => whnf
 rw [show List.replicate ((Zx s).length : Int).toNat [SV.str []] = Z13 [] (Zx s).length by rw [Int.toNat_natCast]; rfl]
 refine LOOP.go Z2 [1, 2, 3, 9] (X := List (List UInt8) × List UInt8) (fun x => Zx s = x.1 ++ Zx x.2 ∧ x.2.length ≤ s.length) (fun x => [(10, .int .i64 (x.1.length : Int)), (0, .str x.2)]) (fun x => [(0, .rows 1 (Z13 x.1 ((Zx s).length - x.1.length)))]) 1 (fun x => (Zx s).length - x.1.length) ([], s) ⟨rfl, Nat.le_refl _⟩ ?_
 conv => whnf
 refine ⟨by (refine GOES.cutting h0 rfl rfl rfl (by first | rfl | (simp only [Z4, Z3, Z0 _ (Z3Y _ _), Bool.and_self, Bool.and_true] <;> rfl)) ?_ ?_ <;> (repeat' (first | (with_reducible rfl) | (exact ZS rfl (by first | (simp; done) | omega | (simp; omega))) | (exact congrArg (SV.int _) (by first | omega | (simp (disch := omega) only [lnB, Z9, Zb] <;> omega) | (simp; done) | (simp <;> omega))) | (exact congrArg (Hp.rows _) (by rfl)) | ((conv => whnf); refine ⟨?_, ?_⟩) | exact trivial | rfl))), ?_⟩
 rintro ⟨d, u⟩ ⟨he, hu⟩
 dsimp only at he hu ⊢
 have hd : d.length + (Zx u).length = (Zx s).length := by rw [he, List.length_append]
 have hun : 1 ≤ (Zx u).length := by have := XT u; omega
 have hm : Lib.indexByte u 45 = -1 ∧ Zx u = [u] ∨ ∃ m : Nat, Lib.indexByte u 45 = m ∧ m < u.length ∧ Zx u = u.take m :: Zx (u.drop (m + 1)) := by
   have hge := Lib.indexByte_ge u 45
   by_cases h : Lib.indexByte u 45 = -1
   · exact .inl ⟨h, Z1W h⟩
   · have e : Lib.indexByte u 45 = ((Lib.indexByte u 45).toNat : Int) := by omega
     have := Z1X e
     exact .inr ⟨_, e, this.1, this.2⟩
 conv => whnf
 rcases hm with ⟨hm, hs1⟩ | ⟨m, hm, hml, hs1⟩
 · have h1 : (Zx u).length = 1 := by rw [hs1]; rfl
   repeat' ((first | refine CALL.value (Z22 _) rfl rfl ?_ | (refine GET.at (row := Zf []) (Z5Z (by omega) (by omega)) ?_; conv => whnf) | (refine NEED.mk (by rw [Z9 (by omega) (by omega)]; refine ⟨by omega, ?_⟩; show _ ≤ ((max (((Zx s).length : Int).toNat) (_ - 0) : Nat) : Int); omega) ?_; conv => whnf) | refine AU ?_ | (refine IW (fun h => ?_) (fun h => ?_) <;> try (exfalso; omega))) <;> conv => whnf)
   rw [Z60 (by omega) (by omega)]
   have hw : (IntKind.i64.wrap ((d.length : Int) + 1)).toNat = ((Zx s).map Zf).length := by
     rw [Z9 (by omega) (by omega), List.length_map]; omega
   rw [hw, show (Zx s).length - d.length - 1 = 0 by omega, show Z13 (d ++ [u]) 0 = (Zx s).map Zf by rw [he, hs1]; simp [Z13]]
   exact FIN.rows h0 0 1 _ rfl rfl rfl (Z1 _) ⟨rfl, rfl, rfl⟩
 · have h1 : 2 ≤ (Zx u).length := by rw [hs1]; have := XT (u.drop (m + 1)); simp; omega
   repeat' ((first | refine CALL.value (Z22 _) rfl rfl ?_ | (refine GET.at (row := Zf []) (Z5Z (by omega) (by omega)) ?_; conv => whnf) | refine AU ?_ | (refine IW (fun h => ?_) (fun h => ?_) <;> try (exfalso; omega))) <;> conv => whnf)
   have hw1 : (IntKind.i64.wrap (Lib.indexByte u 45 + (([45] : List UInt8).length : Int))).toNat = m + 1 := by
     rw [hm]; simp only [List.length_cons, List.length_nil]; rw [Z9 (by omega) (by omega)]; omega
   have hw2 : (IntKind.i64.wrap (Lib.indexByte u 45 + 0)).toNat = m := by
     rw [hm, Z9 (by omega) (by omega)]; omega
   rw [hw1, hw2, Z60 (by omega) (by omega)]
   refine ⟨(d ++ [u.take m], u.drop (m + 1)), ⟨by rw [he, hs1]; simp, by simp; omega⟩, by simp; omega, ?_⟩
   dsimp only
   conv => whnf
   (refine GOES.cutting h0 rfl rfl rfl (by first | rfl | (simp only [Z4, Z3, Z0 _ (Z3Y _ _), Bool.and_self, Bool.and_true] <;> rfl)) ?_ ?_ <;> (repeat' (first | (with_reducible rfl) | (exact ZS rfl (by first | (simp; done) | omega | (simp; omega))) | (exact congrArg (SV.int _) (by first | omega | (simp (disch := omega) only [lnB, Z9, Zb] <;> omega) | (simp; done) | (simp <;> omega))) | (exact congrArg (Hp.rows _) (by congr 1; simp; omega)) | ((conv => whnf); refine ⟨?_, ?_⟩) | exact trivial | rfl)))
theorem Z6R (s : List UInt8) (hs : s.length ≤ 68719476736) : Does Tryz.prog tab 178 0 [.str s, .str [45]] [] [] (NewS 1 ((Zx s).map Zf)) := by
 refine Does.enter Z2 (g := 178) (fn := Tryz.f178) Tryz.call178 Tryz.func178 rfl 8 rfl rfl [.tmp 4] rfl ?_
 intro w0 F η0 h0
 conv => whnf
 refine CALL.newS (Z2S s hs) rfl (Z1 _) ?_
 conv => whnf
 exact FIN.rows h0 0 1 _ rfl rfl rfl (Z1 _) ⟨rfl, rfl, rfl⟩
theorem Z6S (s : List UInt8) (hs : Sm s) : Does Tryz.prog tab 203 0 [.str s] [] [] (Val (.bool (ZN s 2 8 true))) := by
 refine Does.enter Z2 (g := 203) (fn := Tryz.f203) Tryz.call203 Tryz.func203 rfl 5 rfl rfl [.tmp 2] rfl ?_
 intro w0 F η0 h0
 conv => whnf
 repeat' ((first | refine CALL.value (XW _ _ _ _ hs) rfl rfl ?_ | refine AU ?_ | (refine IW (fun h => ?_) (fun h => ?_) <;> try (exfalso; omega))) <;> conv => whnf)
 exact FIN.value h0 rfl rfl
theorem Z6T (s : List UInt8) (hs : Sm s) : Does Tryz.prog tab 205 0 [.str s] [] [] (Val (.bool (ZN s 3 3 true))) := by
 refine Does.enter Z2 (g := 205) (fn := Tryz.f205) Tryz.call205 Tryz.func205 rfl 5 rfl rfl [.tmp 2] rfl ?_
 intro w0 F η0 h0
 conv => whnf
 repeat' ((first | refine CALL.value (XW _ _ _ _ hs) rfl rfl ?_ | refine AU ?_ | (refine IW (fun h => ?_) (fun h => ?_) <;> try (exfalso; omega))) <;> conv => whnf)
 exact FIN.value h0 rfl rfl
theorem Z6U (s : List UInt8) (hs : Sm s) : Does Tryz.prog tab 206 0 [.str s] [] [] (Val (.bool (ZN s 4 4 true))) := by
 refine Does.enter Z2 (g := 206) (fn := Tryz.f206) Tryz.call206 Tryz.func206 rfl 5 rfl rfl [.tmp 2] rfl ?_
 intro w0 F η0 h0
 conv => whnf
 repeat' ((first | refine CALL.value (XW _ _ _ _ hs) rfl rfl ?_ | refine AU ?_ | (refine IW (fun h => ?_) (fun h => ?_) <;> try (exfalso; omega))) <;> conv => whnf)
 exact FIN.value h0 rfl rfl
theorem VK (s : List UInt8) (hs : Sm s) : Does Tryz.prog tab 210 0 [.str s] [] [] (Val (.bool (Z51 s))) := by
 refine Does.enter Z2 (g := 210) (fn := Tryz.f210) Tryz.call210 Tryz.func210 rfl 10 rfl rfl [.tmp 2] rfl ?_
 intro w0 F η0 h0
 conv => whnf
 repeat' ((first | refine CALL.value (XW _ _ _ _ hs) rfl rfl ?_ | refine CALL.value (Ja _) rfl rfl ?_ | refine AU ?_ | (refine IW (fun h => ?_) (fun h => ?_) <;> try (exfalso; omega))) <;> conv => whnf)
 all_goals
   refine FIN.value h0 rfl (congrArg SV.bool ?_)
   unfold Z51
   simp_all
theorem Wa (s : List UInt8) (least : Int) (hs : Sm s) : Does Tryz.prog tab 211 1 [.str s, .ptr (.loc 0) 0 0 0] [] [(0, .box [.int .i64 least])] (ValK 1 (.bool (ZN s least 8 false))) := by
 refine Does.enter Z2 (g := 211) (fn := Tryz.f211) Tryz.call211 Tryz.func211 rfl 7 rfl rfl [.tmp 3] rfl ?_
 intro w0 F η0 h0
 conv => whnf
 repeat' ((first | refine CALL.value (XW _ _ _ _ hs) rfl rfl ?_ | refine AU ?_ | (refine IW (fun h => ?_) (fun h => ?_) <;> try (exfalso; omega))) <;> conv => whnf)
 exact FIN.valueK h0 rfl rfl
def Vl (i m : Nat) (L E S R : List UInt8) (v x : Nat) (P : List UInt8) : Hp := .box [.sl (.loc 1) i 1 m none, .str L, .str E, .str S, .str R, .sl (.loc 2) 0 1 v none, .sl (.loc 3) 0 1 x none, .str P]
def U0 (i m : Nat) (L E S R : List UInt8) (v x : Nat) (P : List UInt8) : Hp := .box [.sl (.loc 1) i 1 m none, .str L, .str E, .str S, .str R, .any, .any, .str P]
def Xs (i m : Nat) (L E S R : List UInt8) (v x : Nat) (P : List UInt8) : Hp := .box [.sl (.loc 1) i 1 m none, .str L, .str E, .str S, .str R, .sl (.loc 4) 0 1 v none, .sl (.loc 5) 0 1 x none, .str P]
def Ys (p : List UInt8 → Bool) (ps : List (List UInt8)) (i : Nat) : Bool := match ps[i]? with | some s => p s | none => false
theorem Z1d {ps : List (List UInt8)} {i : Nat} {p : List UInt8} (h : ps[i]? = some p) : ((ps.take (i + 1)).map List.length).sum = ((ps.take i).map List.length).sum + p.length := by
 obtain ⟨h1, rfl⟩ := List.getElem?_eq_some_iff.1 h
 rw [List.take_succ_eq_append_getElem h1, List.map_append, List.sum_append]; simp
abbrev Wb (ps : List (List UInt8)) : Nat := (ps.map List.length).sum
theorem YF (ps : List (List UInt8)) (i : Nat) : ((ps.take i).map List.length).sum ≤ Wb ps := by
 conv => rhs; unfold Wb; rw [← List.take_append_drop i ps]
 rw [List.map_append, List.sum_append]; omega
theorem XX (g : Nat) (p : List UInt8 → Bool) (ps : List (List UInt8)) (hp : ∀ s ∈ ps, Does Tryz.prog tab g 0 [.str s] [] [] (Val (.bool (p s)))) (i m : Nat) (him : i + m = ps.length) (L E S R : List UInt8) (v x : Nat) (P : List UInt8) :
   Does Tryz.prog tab 179 4 [.ptr (.loc 0) 0 0 0, .fn (.func g) [] []] [] [(0, Vl i m L E S R v x P), (1, .rows 1 (ps.map Zf))] (ValK 4 (.bool (Ys p ps i))) := by
 refine Does.enter Z2 (g := 179) (fn := Tryz.f179) Tryz.call179 Tryz.func179 rfl 21 rfl rfl [.tmp 4] rfl ?_
 intro w0 F η0 h0
 conv => whnf
 repeat' ((first | (refine GET.at (row := Zf (ps[i]'(by omega))) (by rw [List.getElem?_map, show i + (0 : Int).toNat = i by simp, List.getElem?_eq_getElem (by omega)]; rfl) ?_; conv => whnf) | refine CALL.value (hp _ (List.getElem_mem (by omega))) rfl rfl ?_ | refine AU ?_ | (refine IW (fun h => ?_) (fun h => ?_) <;> try (exfalso; omega))) <;> conv => whnf)
 · refine FIN.valueK h0 rfl (congrArg SV.bool ?_)
   unfold Ys; rw [List.getElem?_eq_getElem (by omega)]; rfl
 · refine FIN.valueK h0 rfl (congrArg SV.bool ?_)
   unfold Ys; rw [List.getElem?_eq_none (by omega)]
theorem Z2T (least : Int) (ps : List (List UInt8)) (hp : ∀ s ∈ ps, Sm s) (i m : Nat) (him : i + m = ps.length) (L E S R : List UInt8) (v x : Nat) (P : List UInt8) :
   Does Tryz.prog tab 179 5 [.ptr (.loc 0) 0 0 0, .fn (.func 211) [] [.ptr (.loc 4) 0 0 0]] [] [(0, Vl i m L E S R v x P), (1, .rows 1 (ps.map Zf)), (4, .box [.int .i64 least])] (ValK 5 (.bool (Ys (fun s => ZN s least 8 false) ps i))) := by
 refine Does.enter Z2 (g := 179) (fn := Tryz.f179) Tryz.call179 Tryz.func179 rfl 21 rfl rfl [.tmp 4] rfl ?_
 intro w0 F η0 h0
 conv => whnf
 repeat' ((first | (refine GET.at (row := Zf (ps[i]'(by omega))) (by rw [List.getElem?_map, show i + (0 : Int).toNat = i by simp, List.getElem?_eq_getElem (by omega)]; rfl) ?_; conv => whnf) | (refine CALL.looks [4] (Wa (ps[i]'(by omega)) least (hp _ (List.getElem_mem (by omega)))) rfl rfl rfl rfl ⟨⟨rfl, rfl, rfl⟩, trivial⟩ ?_; conv => whnf) | refine AU ?_ | (refine IW (fun h => ?_) (fun h => ?_) <;> try (exfalso; omega))) <;> conv => whnf)
 · refine FIN.valueK h0 rfl (congrArg SV.bool ?_)
   unfold Ys; rw [List.getElem?_eq_getElem (by omega)]; rfl
 · refine FIN.valueK h0 rfl (congrArg SV.bool ?_)
   unfold Ys; rw [List.getElem?_eq_none (by omega)]
theorem Y3 (ps : List (List UInt8)) (i m : Nat) (him : i + (m + 1) = ps.length) (p : List UInt8) (hp : ps[i]? = some p) (L E S R : List UInt8) (v x : Nat) (P : List UInt8) :
   Does Tryz.prog tab 183 4 [.ptr (.loc 0) 0 0 0] [(0, Vl i (m + 1) L E S R v x P)] [(1, .rows 1 (ps.map Zf))] (fun r O nx => r = .str p ∧ O = [(0, Vl (i + 1) m L E S R v x P)] ∧ nx = 4) := by
 refine Does.enter Z2 (g := 183) (fn := Tryz.f183) Tryz.call183 Tryz.func183 rfl 19 rfl rfl [.tmp 2] rfl ?_
 intro w0 F η0 h0
 conv => whnf
 repeat' ((first | (refine GET.at (row := Zf p) (by rw [List.getElem?_map, show i + (0 : Int).toNat = i by simp, hp]; rfl) ?_; conv => whnf) | refine AU ?_ | (refine IW (fun h => ?_) (fun h => ?_) <;> try (exfalso; omega))) <;> conv => whnf)
 exact FIN.here h0 (Oc := [(0, Vl (i + 1) m L E S R v x P)]) rfl rfl rfl ⟨rfl, trivial⟩ ⟨rfl, rfl, rfl⟩
theorem Z8E (least : Int) (ps : List (List UInt8)) (hb : Wb ps + ps.length ≤ 1152921504606846976) (i m : Nat) (him : i + m = ps.length) (L E S R : List UInt8) (v x : Nat) (P : List UInt8) :
   Does Tryz.prog tab 184 4 [.ptr (.loc 0) 0 0 0, .int .i64 least] [(0, Vl i m L E S R v x P)] [(1, .rows 1 (ps.map Zf))]
     (fun r O nx => ∃ (n : Nat) (s : List UInt8), n = Yg (fun s => ZN s least 8 false) (ps.drop i) ∧ s.length ≤ Wb ps + ps.length ∧ r = .tup [.str s, .bool (decide (n ≠ 0))] ∧ O = [(0, Vl (i + n) (m - n) L E S R v x P)] ∧ nx = 4) := by
 have hsm : ∀ s ∈ ps, Sm s := by
   intro s hs
   obtain ⟨j, hj, rfl⟩ := List.getElem_of_mem hs
   have h1 := Z1d (List.getElem?_eq_getElem hj)
   have h2 := YF ps (j + 1)
   omega
 refine Does.enter Z2 (g := 184) (fn := Tryz.f184) Tryz.call184 Tryz.func184 rfl 18 rfl rfl [.tmp 4, .tmp 5] rfl ?_
 intro w0 F η0 h0
 conv => whnf
 refine LOOP.go Z2 [0, 3] (X := Nat × List UInt8) (fun y => y.1 ≤ m ∧ y.2.length ≤ ((ps.take (i + y.1)).map List.length).sum + (i + y.1) ∧ (y.1 = 0 ↔ y.2 = []) ∧ Yg (fun s => ZN s least 8 false) (ps.drop i) = y.1 + Yg (fun s => ZN s least 8 false) (ps.drop (i + y.1))) (fun y => [(6, .str y.2)]) (fun y => [(0, Vl (i + y.1) (m - y.1) L E S R v x P), (4, .box [.int .i64 least])]) 5 (fun y => m - y.1) (0, []) ⟨by simp, by simp, by simp, by simp⟩ ?_
 conv => whnf
 refine ⟨by exact GOES.cA h0, ?_⟩
 rintro ⟨n, s⟩ ⟨hn, hl, h0s, hspan⟩
 dsimp only at hn hl h0s hspan ⊢
 conv => whnf
 refine CALL.here (Z2T least ps hsm (i + n) (m - n) (by omega) L E S R v x P) rfl rfl (by first | rfl | (simp only [Z4, Z3, Z0 _ (Z1 _), Bool.and_self, Bool.and_true] <;> rfl)) (by first | rfl | (simp only [Z4, Z3, Z0 _ (Z1 _), Bool.and_self, Bool.and_true] <;> rfl)) (by repeat' (first | exact trivial | exact rfl | ((conv => whnf); refine ⟨?_, ?_⟩))) (by repeat' (first | exact trivial | exact rfl | ((conv => whnf); refine ⟨?_, ?_⟩))) rfl ?_ ?_
 · rintro r O' nx' ⟨rfl, rfl, rfl⟩; exact ⟨rfl, rfl, rfl⟩
 rintro r O' ⟨rfl, rfl, _⟩
 conv => whnf
 refine ⟨fun h => ?_, fun h => ?_⟩
 · obtain ⟨p, hp, hpm⟩ : ∃ p, ps[i + n]? = some p ∧ ZN p least 8 false = true := by
     unfold Ys at h
     cases hp : ps[i + n]? with
     | none => rw [hp] at h; cases h
     | some p => rw [hp] at h; exact ⟨p, rfl, h⟩
   have hlt := (List.getElem?_eq_some_iff.1 hp).1
   have hs1 := Z1d hp
   have hs2 := YF ps (i + n + 1)
   obtain ⟨k, hk⟩ : ∃ k, m - n = k + 1 := ⟨m - n - 1, by omega⟩
   rw [hk]
   conv => whnf
   refine CALL.here (Y3 ps (i + n) k (by omega) p hp L E S R v x P) rfl rfl (by first | rfl | (simp only [Z4, Z3, Z0 _ (Z1 _), Bool.and_self, Bool.and_true] <;> rfl)) (by first | rfl | (simp only [Z4, Z3, Z0 _ (Z1 _), Bool.and_self, Bool.and_true] <;> rfl)) (by repeat' (first | exact trivial | exact rfl | ((conv => whnf); refine ⟨?_, ?_⟩))) (by repeat' (first | exact trivial | exact rfl | ((conv => whnf); refine ⟨?_, ?_⟩))) rfl ?_ ?_
   · rintro r O' nx' ⟨rfl, rfl, rfl⟩; exact ⟨rfl, rfl, rfl⟩
   rintro r O' ⟨rfl, rfl, _⟩
   conv => whnf
   repeat' ((first | refine AU ?_ | (refine IW (fun h => ?_) (fun h => ?_) <;> try (exfalso; omega))) <;> conv => whnf)
   have hsp : Yg (fun s => ZN s least 8 false) (ps.drop (i + n)) = Yg (fun s => ZN s least 8 false) (ps.drop (i + (n + 1))) + 1 := by
     rw [List.drop_eq_getElem_cons hlt]
     have : ps[i + n] = p := by
       have := List.getElem?_eq_getElem hlt
       rw [hp] at this; injection this with this; exact this.symm
     rw [this]
     simp only [Yg, hpm, if_true]
     rfl
   refine ⟨(n + 1, s ++ ([45] ++ p)), ⟨by simp only; omega, ?_, by simp, by simp only; omega⟩, by simp only; omega, ?_⟩
   · simp only [List.length_append, List.length_cons, List.length_nil]
     rw [show i + (n + 1) = i + n + 1 by omega, hs1]; omega
   · dsimp only
     rw [show i + (n + 1) = i + n + 1 by omega, show m - (n + 1) = k by omega]
     conv => whnf
     exact GOES.cA h0
 · have hsp : Yg (fun s => ZN s least 8 false) (ps.drop (i + n)) = 0 := by
     unfold Ys at h
     cases hp : ps[i + n]? with
     | none => rw [List.drop_eq_nil_of_le (by simpa using hp)]; rfl
     | some p =>
       rw [hp] at h
       have hlt := (List.getElem?_eq_some_iff.1 hp).1
       rw [List.drop_eq_getElem_cons hlt]
       have : ps[i + n] = p := by
         have := List.getElem?_eq_getElem hlt
         rw [hp] at this; injection this with this; exact this.symm
       rw [this]
       simp only [Yg]
       simp only at h
       simp [h]
   have hs2 := YF ps (i + n)
   conv => whnf
   repeat' ((first | refine AU ?_ | (refine IW (fun h => ?_) (fun h => ?_) <;> try (exfalso; omega))) <;> conv => whnf)
   refine FIN.here h0 (rc := .tup [.str s, .bool (decide (n ≠ 0))]) (Oc := [(0, Vl (i + n) (m - n) L E S R v x P)]) ?_ rfl rfl ⟨rfl, trivial⟩ ⟨n, s, by omega, by omega, rfl, rfl, rfl⟩
   show SV.tup [SV.str s, SV.bool (s != [])] = SV.tup [SV.str s, SV.bool (decide (n ≠ 0))]
   have : (s != []) = decide (n ≠ 0) := by rw [Bool.eq_iff_iff]; simp [h0s]
   rw [this]
theorem Z6V (g : Nat) (p : List UInt8 → Bool) (ps : List (List UInt8)) (hp : ∀ s ∈ ps, Does Tryz.prog tab g 0 [.str s] [] [] (Val (.bool (p s)))) (i m : Nat) (him : i + m = ps.length) (L E S R : List UInt8) (v x : Nat) (P : List UInt8) :
   Does Tryz.prog tab 179 4 [.ptr (.loc 0) 0 0 0, .fn (.func g) [] []] [] [(0, U0 i m L E S R v x P), (1, .rows 1 (ps.map Zf))] (ValK 4 (.bool (Ys p ps i))) := by
 refine Does.enter Z2 (g := 179) (fn := Tryz.f179) Tryz.call179 Tryz.func179 rfl 21 rfl rfl [.tmp 4] rfl ?_
 intro w0 F η0 h0
 conv => whnf
 repeat' ((first | (refine GET.at (row := Zf (ps[i]'(by omega))) (by rw [List.getElem?_map, show i + (0 : Int).toNat = i by simp, List.getElem?_eq_getElem (by omega)]; rfl) ?_; conv => whnf) | refine CALL.value (hp _ (List.getElem_mem (by omega))) rfl rfl ?_ | refine AU ?_ | (refine IW (fun h => ?_) (fun h => ?_) <;> try (exfalso; omega))) <;> conv => whnf)
 · refine FIN.valueK h0 rfl (congrArg SV.bool ?_)
   unfold Ys; rw [List.getElem?_eq_getElem (by omega)]; rfl
 · refine FIN.valueK h0 rfl (congrArg SV.bool ?_)
   unfold Ys; rw [List.getElem?_eq_none (by omega)]
theorem Z1u (least : Int) (ps : List (List UInt8)) (hp : ∀ s ∈ ps, Sm s) (i m : Nat) (him : i + m = ps.length) (L E S R : List UInt8) (v x : Nat) (P : List UInt8) :
   Does Tryz.prog tab 179 5 [.ptr (.loc 0) 0 0 0, .fn (.func 211) [] [.ptr (.loc 4) 0 0 0]] [] [(0, U0 i m L E S R v x P), (1, .rows 1 (ps.map Zf)), (4, .box [.int .i64 least])] (ValK 5 (.bool (Ys (fun s => ZN s least 8 false) ps i))) := by
 refine Does.enter Z2 (g := 179) (fn := Tryz.f179) Tryz.call179 Tryz.func179 rfl 21 rfl rfl [.tmp 4] rfl ?_
 intro w0 F η0 h0
 conv => whnf
 repeat' ((first | (refine GET.at (row := Zf (ps[i]'(by omega))) (by rw [List.getElem?_map, show i + (0 : Int).toNat = i by simp, List.getElem?_eq_getElem (by omega)]; rfl) ?_; conv => whnf) | (refine CALL.looks [4] (Wa (ps[i]'(by omega)) least (hp _ (List.getElem_mem (by omega)))) rfl rfl rfl rfl ⟨⟨rfl, rfl, rfl⟩, trivial⟩ ?_; conv => whnf) | refine AU ?_ | (refine IW (fun h => ?_) (fun h => ?_) <;> try (exfalso; omega))) <;> conv => whnf)
 · refine FIN.valueK h0 rfl (congrArg SV.bool ?_)
   unfold Ys; rw [List.getElem?_eq_getElem (by omega)]; rfl
 · refine FIN.valueK h0 rfl (congrArg SV.bool ?_)
   unfold Ys; rw [List.getElem?_eq_none (by omega)]
theorem U1 (ps : List (List UInt8)) (i m : Nat) (him : i + (m + 1) = ps.length) (p : List UInt8) (hp : ps[i]? = some p) (L E S R : List UInt8) (v x : Nat) (P : List UInt8) :
   Does Tryz.prog tab 183 4 [.ptr (.loc 0) 0 0 0] [(0, U0 i (m + 1) L E S R v x P)] [(1, .rows 1 (ps.map Zf))] (fun r O nx => r = .str p ∧ O = [(0, U0 (i + 1) m L E S R v x P)] ∧ nx = 4) := by
 refine Does.enter Z2 (g := 183) (fn := Tryz.f183) Tryz.call183 Tryz.func183 rfl 19 rfl rfl [.tmp 2] rfl ?_
 intro w0 F η0 h0
 conv => whnf
 repeat' ((first | (refine GET.at (row := Zf p) (by rw [List.getElem?_map, show i + (0 : Int).toNat = i by simp, hp]; rfl) ?_; conv => whnf) | refine AU ?_ | (refine IW (fun h => ?_) (fun h => ?_) <;> try (exfalso; omega))) <;> conv => whnf)
 exact FIN.here h0 (Oc := [(0, U0 (i + 1) m L E S R v x P)]) rfl rfl rfl ⟨rfl, trivial⟩ ⟨rfl, rfl, rfl⟩
theorem Z6W (least : Int) (ps : List (List UInt8)) (hb : Wb ps + ps.length ≤ 1152921504606846976) (i m : Nat) (him : i + m = ps.length) (L E S R : List UInt8) (v x : Nat) (P : List UInt8) :
   Does Tryz.prog tab 184 4 [.ptr (.loc 0) 0 0 0, .int .i64 least] [(0, U0 i m L E S R v x P)] [(1, .rows 1 (ps.map Zf))]
     (fun r O nx => ∃ (n : Nat) (s : List UInt8), n = Yg (fun s => ZN s least 8 false) (ps.drop i) ∧ s.length ≤ Wb ps + ps.length ∧ r = .tup [.str s, .bool (decide (n ≠ 0))] ∧ O = [(0, U0 (i + n) (m - n) L E S R v x P)] ∧ nx = 4) := by
 have hsm : ∀ s ∈ ps, Sm s := by
   intro s hs
   obtain ⟨j, hj, rfl⟩ := List.getElem_of_mem hs
   have h1 := Z1d (List.getElem?_eq_getElem hj)
   have h2 := YF ps (j + 1)
   omega
 refine Does.enter Z2 (g := 184) (fn := Tryz.f184) Tryz.call184 Tryz.func184 rfl 18 rfl rfl [.tmp 4, .tmp 5] rfl ?_
 intro w0 F η0 h0
 conv => whnf
 refine LOOP.go Z2 [0, 3] (X := Nat × List UInt8) (fun y => y.1 ≤ m ∧ y.2.length ≤ ((ps.take (i + y.1)).map List.length).sum + (i + y.1) ∧ (y.1 = 0 ↔ y.2 = []) ∧ Yg (fun s => ZN s least 8 false) (ps.drop i) = y.1 + Yg (fun s => ZN s least 8 false) (ps.drop (i + y.1))) (fun y => [(6, .str y.2)]) (fun y => [(0, U0 (i + y.1) (m - y.1) L E S R v x P), (4, .box [.int .i64 least])]) 5 (fun y => m - y.1) (0, []) ⟨by simp, by simp, by simp, by simp⟩ ?_
 conv => whnf
 refine ⟨by exact GOES.cA h0, ?_⟩
 rintro ⟨n, s⟩ ⟨hn, hl, h0s, hspan⟩
 dsimp only at hn hl h0s hspan ⊢
 conv => whnf
 refine CALL.here (Z1u least ps hsm (i + n) (m - n) (by omega) L E S R v x P) rfl rfl (by first | rfl | (simp only [Z4, Z3, Z0 _ (Z1 _), Bool.and_self, Bool.and_true] <;> rfl)) (by first | rfl | (simp only [Z4, Z3, Z0 _ (Z1 _), Bool.and_self, Bool.and_true] <;> rfl)) (by repeat' (first | exact trivial | exact rfl | ((conv => whnf); refine ⟨?_, ?_⟩))) (by repeat' (first | exact trivial | exact rfl | ((conv => whnf); refine ⟨?_, ?_⟩))) rfl ?_ ?_
 · rintro r O' nx' ⟨rfl, rfl, rfl⟩; exact ⟨rfl, rfl, rfl⟩
 rintro r O' ⟨rfl, rfl, _⟩
 conv => whnf
 refine ⟨fun h => ?_, fun h => ?_⟩
 · obtain ⟨p, hp, hpm⟩ : ∃ p, ps[i + n]? = some p ∧ ZN p least 8 false = true := by
     unfold Ys at h
     cases hp : ps[i + n]? with
     | none => rw [hp] at h; cases h
     | some p => rw [hp] at h; exact ⟨p, rfl, h⟩
   have hlt := (List.getElem?_eq_some_iff.1 hp).1
   have hs1 := Z1d hp
   have hs2 := YF ps (i + n + 1)
   obtain ⟨k, hk⟩ : ∃ k, m - n = k + 1 := ⟨m - n - 1, by omega⟩
   rw [hk]
   conv => whnf
   refine CALL.here (U1 ps (i + n) k (by omega) p hp L E S R v x P) rfl rfl (by first | rfl | (simp only [Z4, Z3, Z0 _ (Z1 _), Bool.and_self, Bool.and_true] <;> rfl)) (by first | rfl | (simp only [Z4, Z3, Z0 _ (Z1 _), Bool.and_self, Bool.and_true] <;> rfl)) (by repeat' (first | exact trivial | exact rfl | ((conv => whnf); refine ⟨?_, ?_⟩))) (by repeat' (first | exact trivial | exact rfl | ((conv => whnf); refine ⟨?_, ?_⟩))) rfl ?_ ?_
   · rintro r O' nx' ⟨rfl, rfl, rfl⟩; exact ⟨rfl, rfl, rfl⟩
   rintro r O' ⟨rfl, rfl, _⟩
   conv => whnf
   repeat' ((first | refine AU ?_ | (refine IW (fun h => ?_) (fun h => ?_) <;> try (exfalso; omega))) <;> conv => whnf)
   have hsp : Yg (fun s => ZN s least 8 false) (ps.drop (i + n)) = Yg (fun s => ZN s least 8 false) (ps.drop (i + (n + 1))) + 1 := by
     rw [List.drop_eq_getElem_cons hlt]
     have : ps[i + n] = p := by
       have := List.getElem?_eq_getElem hlt
       rw [hp] at this; injection this with this; exact this.symm
     rw [this]
     simp only [Yg, hpm, if_true]
     rfl
   refine ⟨(n + 1, s ++ ([45] ++ p)), ⟨by simp only; omega, ?_, by simp, by simp only; omega⟩, by simp only; omega, ?_⟩
   · simp only [List.length_append, List.length_cons, List.length_nil]
     rw [show i + (n + 1) = i + n + 1 by omega, hs1]; omega
   · dsimp only
     rw [show i + (n + 1) = i + n + 1 by omega, show m - (n + 1) = k by omega]
     conv => whnf
     exact GOES.cA h0
 · have hsp : Yg (fun s => ZN s least 8 false) (ps.drop (i + n)) = 0 := by
     unfold Ys at h
     cases hp : ps[i + n]? with
     | none => rw [List.drop_eq_nil_of_le (by simpa using hp)]; rfl
     | some p =>
       rw [hp] at h
       have hlt := (List.getElem?_eq_some_iff.1 hp).1
       rw [List.drop_eq_getElem_cons hlt]
       have : ps[i + n] = p := by
         have := List.getElem?_eq_getElem hlt
         rw [hp] at this; injection this with this; exact this.symm
       rw [this]
       simp only [Yg]
       simp only at h
       simp [h]
   have hs2 := YF ps (i + n)
   conv => whnf
   repeat' ((first | refine AU ?_ | (refine IW (fun h => ?_) (fun h => ?_) <;> try (exfalso; omega))) <;> conv => whnf)
   refine FIN.here h0 (rc := .tup [.str s, .bool (decide (n ≠ 0))]) (Oc := [(0, U0 (i + n) (m - n) L E S R v x P)]) ?_ rfl rfl ⟨rfl, trivial⟩ ⟨n, s, by omega, by omega, rfl, rfl, rfl⟩
   show SV.tup [SV.str s, SV.bool (s != [])] = SV.tup [SV.str s, SV.bool (decide (n ≠ 0))]
   have : (s != []) = decide (n ≠ 0) := by rw [Bool.eq_iff_iff]; simp [h0s]
   rw [this]
theorem YT (g : Nat) (p : List UInt8 → Bool) (ps : List (List UInt8)) (hp : ∀ s ∈ ps, Does Tryz.prog tab g 0 [.str s] [] [] (Val (.bool (p s)))) (i m : Nat) (him : i + m = ps.length) (L E S R : List UInt8) (v x : Nat) (P : List UInt8) :
   Does Tryz.prog tab 179 7 [.ptr (.loc 0) 0 0 0, .fn (.func g) [] []] [] [(0, Xs i m L E S R v x P), (1, .rows 1 (ps.map Zf))] (ValK 7 (.bool (Ys p ps i))) := by
 refine Does.enter Z2 (g := 179) (fn := Tryz.f179) Tryz.call179 Tryz.func179 rfl 21 rfl rfl [.tmp 4] rfl ?_
 intro w0 F η0 h0
 conv => whnf
 repeat' ((first | (refine GET.at (row := Zf (ps[i]'(by omega))) (by rw [List.getElem?_map, show i + (0 : Int).toNat = i by simp, List.getElem?_eq_getElem (by omega)]; rfl) ?_; conv => whnf) | refine CALL.value (hp _ (List.getElem_mem (by omega))) rfl rfl ?_ | refine AU ?_ | (refine IW (fun h => ?_) (fun h => ?_) <;> try (exfalso; omega))) <;> conv => whnf)
 · refine FIN.valueK h0 rfl (congrArg SV.bool ?_)
   unfold Ys; rw [List.getElem?_eq_getElem (by omega)]; rfl
 · refine FIN.valueK h0 rfl (congrArg SV.bool ?_)
   unfold Ys; rw [List.getElem?_eq_none (by omega)]
theorem Z1v (least : Int) (ps : List (List UInt8)) (hp : ∀ s ∈ ps, Sm s) (i m : Nat) (him : i + m = ps.length) (L E S R : List UInt8) (v x : Nat) (P : List UInt8) :
   Does Tryz.prog tab 179 8 [.ptr (.loc 0) 0 0 0, .fn (.func 211) [] [.ptr (.loc 7) 0 0 0]] [] [(0, Xs i m L E S R v x P), (1, .rows 1 (ps.map Zf)), (7, .box [.int .i64 least])] (ValK 8 (.bool (Ys (fun s => ZN s least 8 false) ps i))) := by
 refine Does.enter Z2 (g := 179) (fn := Tryz.f179) Tryz.call179 Tryz.func179 rfl 21 rfl rfl [.tmp 4] rfl ?_
 intro w0 F η0 h0
 conv => whnf
 repeat' ((first | (refine GET.at (row := Zf (ps[i]'(by omega))) (by rw [List.getElem?_map, show i + (0 : Int).toNat = i by simp, List.getElem?_eq_getElem (by omega)]; rfl) ?_; conv => whnf) | (refine CALL.looks [7] (Wa (ps[i]'(by omega)) least (hp _ (List.getElem_mem (by omega)))) rfl rfl rfl rfl ⟨⟨rfl, rfl, rfl⟩, trivial⟩ ?_; conv => whnf) | refine AU ?_ | (refine IW (fun h => ?_) (fun h => ?_) <;> try (exfalso; omega))) <;> conv => whnf)
 · refine FIN.valueK h0 rfl (congrArg SV.bool ?_)
   unfold Ys; rw [List.getElem?_eq_getElem (by omega)]; rfl
 · refine FIN.valueK h0 rfl (congrArg SV.bool ?_)
   unfold Ys; rw [List.getElem?_eq_none (by omega)]
theorem ZH (ps : List (List UInt8)) (i m : Nat) (him : i + (m + 1) = ps.length) (p : List UInt8) (hp : ps[i]? = some p) (L E S R : List UInt8) (v x : Nat) (P : List UInt8) :
   Does Tryz.prog tab 183 7 [.ptr (.loc 0) 0 0 0] [(0, Xs i (m + 1) L E S R v x P)] [(1, .rows 1 (ps.map Zf))] (fun r O nx => r = .str p ∧ O = [(0, Xs (i + 1) m L E S R v x P)] ∧ nx = 7) := by
 refine Does.enter Z2 (g := 183) (fn := Tryz.f183) Tryz.call183 Tryz.func183 rfl 19 rfl rfl [.tmp 2] rfl ?_
 intro w0 F η0 h0
 conv => whnf
 repeat' ((first | (refine GET.at (row := Zf p) (by rw [List.getElem?_map, show i + (0 : Int).toNat = i by simp, hp]; rfl) ?_; conv => whnf) | refine AU ?_ | (refine IW (fun h => ?_) (fun h => ?_) <;> try (exfalso; omega))) <;> conv => whnf)
 exact FIN.here h0 (Oc := [(0, Xs (i + 1) m L E S R v x P)]) rfl rfl rfl ⟨rfl, trivial⟩ ⟨rfl, rfl, rfl⟩
theorem VL (least : Int) (ps : List (List UInt8)) (hb : Wb ps + ps.length ≤ 1152921504606846976) (i m : Nat) (him : i + m = ps.length) (L E S R : List UInt8) (v x : Nat) (P : List UInt8) :
   Does Tryz.prog tab 184 7 [.ptr (.loc 0) 0 0 0, .int .i64 least] [(0, Xs i m L E S R v x P)] [(1, .rows 1 (ps.map Zf))]
     (fun r O nx => ∃ (n : Nat) (s : List UInt8), n = Yg (fun s => ZN s least 8 false) (ps.drop i) ∧ s.length ≤ Wb ps + ps.length ∧ r = .tup [.str s, .bool (decide (n ≠ 0))] ∧ O = [(0, Xs (i + n) (m - n) L E S R v x P)] ∧ nx = 7) := by
 have hsm : ∀ s ∈ ps, Sm s := by
   intro s hs
   obtain ⟨j, hj, rfl⟩ := List.getElem_of_mem hs
   have h1 := Z1d (List.getElem?_eq_getElem hj)
   have h2 := YF ps (j + 1)
   omega
 refine Does.enter Z2 (g := 184) (fn := Tryz.f184) Tryz.call184 Tryz.func184 rfl 18 rfl rfl [.tmp 4, .tmp 5] rfl ?_
 intro w0 F η0 h0
 conv => whnf
 refine LOOP.go Z2 [0, 3] (X := Nat × List UInt8) (fun y => y.1 ≤ m ∧ y.2.length ≤ ((ps.take (i + y.1)).map List.length).sum + (i + y.1) ∧ (y.1 = 0 ↔ y.2 = []) ∧ Yg (fun s => ZN s least 8 false) (ps.drop i) = y.1 + Yg (fun s => ZN s least 8 false) (ps.drop (i + y.1))) (fun y => [(6, .str y.2)]) (fun y => [(0, Xs (i + y.1) (m - y.1) L E S R v x P), (7, .box [.int .i64 least])]) 8 (fun y => m - y.1) (0, []) ⟨by simp, by simp, by simp, by simp⟩ ?_
 conv => whnf
 refine ⟨by exact GOES.cA h0, ?_⟩
 rintro ⟨n, s⟩ ⟨hn, hl, h0s, hspan⟩
 dsimp only at hn hl h0s hspan ⊢
 conv => whnf
 refine CALL.here (Z1v least ps hsm (i + n) (m - n) (by omega) L E S R v x P) rfl rfl (by first | rfl | (simp only [Z4, Z3, Z0 _ (Z1 _), Bool.and_self, Bool.and_true] <;> rfl)) (by first | rfl | (simp only [Z4, Z3, Z0 _ (Z1 _), Bool.and_self, Bool.and_true] <;> rfl)) (by repeat' (first | exact trivial | exact rfl | ((conv => whnf); refine ⟨?_, ?_⟩))) (by repeat' (first | exact trivial | exact rfl | ((conv => whnf); refine ⟨?_, ?_⟩))) rfl ?_ ?_
 · rintro r O' nx' ⟨rfl, rfl, rfl⟩; exact ⟨rfl, rfl, rfl⟩
 rintro r O' ⟨rfl, rfl, _⟩
 conv => whnf
 refine ⟨fun h => ?_, fun h => ?_⟩
 · obtain ⟨p, hp, hpm⟩ : ∃ p, ps[i + n]? = some p ∧ ZN p least 8 false = true := by
     unfold Ys at h
     cases hp : ps[i + n]? with
     | none => rw [hp] at h; cases h
     | some p => rw [hp] at h; exact ⟨p, rfl, h⟩
   have hlt := (List.getElem?_eq_some_iff.1 hp).1
   have hs1 := Z1d hp
   have hs2 := YF ps (i + n + 1)
   obtain ⟨k, hk⟩ : ∃ k, m - n = k + 1 := ⟨m - n - 1, by omega⟩
   rw [hk]
   conv => whnf
   refine CALL.here (ZH ps (i + n) k (by omega) p hp L E S R v x P) rfl rfl (by first | rfl | (simp only [Z4, Z3, Z0 _ (Z1 _), Bool.and_self, Bool.and_true] <;> rfl)) (by first | rfl | (simp only [Z4, Z3, Z0 _ (Z1 _), Bool.and_self, Bool.and_true] <;> rfl)) (by repeat' (first | exact trivial | exact rfl | ((conv => whnf); refine ⟨?_, ?_⟩))) (by repeat' (first | exact trivial | exact rfl | ((conv => whnf); refine ⟨?_, ?_⟩))) rfl ?_ ?_
   · rintro r O' nx' ⟨rfl, rfl, rfl⟩; exact ⟨rfl, rfl, rfl⟩
   rintro r O' ⟨rfl, rfl, _⟩
   conv => whnf
   repeat' ((first | refine AU ?_ | (refine IW (fun h => ?_) (fun h => ?_) <;> try (exfalso; omega))) <;> conv => whnf)
   have hsp : Yg (fun s => ZN s least 8 false) (ps.drop (i + n)) = Yg (fun s => ZN s least 8 false) (ps.drop (i + (n + 1))) + 1 := by
     rw [List.drop_eq_getElem_cons hlt]
     have : ps[i + n] = p := by
       have := List.getElem?_eq_getElem hlt
       rw [hp] at this; injection this with this; exact this.symm
     rw [this]
     simp only [Yg, hpm, if_true]
     rfl
   refine ⟨(n + 1, s ++ ([45] ++ p)), ⟨by simp only; omega, ?_, by simp, by simp only; omega⟩, by simp only; omega, ?_⟩
   · simp only [List.length_append, List.length_cons, List.length_nil]
     rw [show i + (n + 1) = i + n + 1 by omega, hs1]; omega
   · dsimp only
     rw [show i + (n + 1) = i + n + 1 by omega, show m - (n + 1) = k by omega]
     conv => whnf
     exact GOES.cA h0
 · have hsp : Yg (fun s => ZN s least 8 false) (ps.drop (i + n)) = 0 := by
     unfold Ys at h
     cases hp : ps[i + n]? with
     | none => rw [List.drop_eq_nil_of_le (by simpa using hp)]; rfl
     | some p =>
       rw [hp] at h
       have hlt := (List.getElem?_eq_some_iff.1 hp).1
       rw [List.drop_eq_getElem_cons hlt]
       have : ps[i + n] = p := by
         have := List.getElem?_eq_getElem hlt
         rw [hp] at this; injection this with this; exact this.symm
       rw [this]
       simp only [Yg]
       simp only at h
       simp [h]
   have hs2 := YF ps (i + n)
   conv => whnf
   repeat' ((first | refine AU ?_ | (refine IW (fun h => ?_) (fun h => ?_) <;> try (exfalso; omega))) <;> conv => whnf)
   refine FIN.here h0 (rc := .tup [.str s, .bool (decide (n ≠ 0))]) (Oc := [(0, Xs (i + n) (m - n) L E S R v x P)]) ?_ rfl rfl ⟨rfl, trivial⟩ ⟨n, s, by omega, by omega, rfl, rfl, rfl⟩
   show SV.tup [SV.str s, SV.bool (s != [])] = SV.tup [SV.str s, SV.bool (decide (n ≠ 0))]
   have : (s != []) = decide (n ≠ 0) := by rw [Bool.eq_iff_iff]; simp [h0s]
   rw [this]
def Z2U : Plan := (.take 0 1 (.take 1 1 (.take 2 1 (.take 3 1 (.take 5 1 (.fork 4 3 6 0 (Zq [(6, 0), (7, 1), (8, 1), (9, 1), (10, 1), (11, 0)]) (Zq [(4, 2), (7, 1), (8, 1), (9, 1), (10, 1), (11, 0)])))))))
theorem Z5b {ps : List (List UInt8)} (hb : Wb ps + ps.length ≤ 1152921504606846976) : ∀ s ∈ ps, Sm s := by
 intro s hs
 obtain ⟨j, hj, rfl⟩ := List.getElem_of_mem hs
 have h1 := Z1d (List.getElem?_eq_getElem hj)
 have h2 := YF ps (j + 1)
 omega
theorem Y7 {p : List UInt8 → Bool} {ps : List (List UInt8)} {i : Nat} (h : Ys p ps i = true) : ∃ s, ps[i]? = some s ∧ p s = true := by
 unfold Ys at h
 cases hp : ps[i]? with
 | none => rw [hp] at h; cases h
 | some s => rw [hp] at h; exact ⟨s, rfl, h⟩
theorem YO {ps : List (List UInt8)} {i : Nat} {s : List UInt8} (h : ps[i]? = some s) : ps.drop i = s :: ps.drop (i + 1) := by
 obtain ⟨h1, rfl⟩ := List.getElem?_eq_some_iff.1 h
 exact List.drop_eq_getElem_cons h1
theorem Xj {p : List UInt8 → Bool} {ps : List (List UInt8)} {i : Nat} (h : Ys p ps i = false) : ps.drop i = [] ∨ ∃ s, ps[i]? = some s ∧ ps.drop i = s :: ps.drop (i + 1) ∧ p s = false := by
 unfold Ys at h
 cases hp : ps[i]? with
 | none => exact .inl (List.drop_eq_nil_of_le (by simpa using hp))
 | some s => rw [hp] at h; exact .inr ⟨s, rfl, YO hp, h⟩
theorem ZbZ {n : Nat} {ps : List (List UInt8)} {i : Nat} (h : Ys (fun s => ZN s 3 3 true) ps i = false) : extP n (ps.drop i) = ps.drop i := by
 rcases Xj h with h | ⟨s, _, h1, h2⟩
 · rw [h]; cases n <;> rfl
 · rw [h1]; cases n with
   | zero => rfl
   | succ n => simp only [extP]; simp [h2]
theorem Z2V {s : List UInt8} {a b : Int} {pure : Bool} (h : ZN s a b pure = true) : a ≤ s.length ∧ (s.length : Int) ≤ b := by
 unfold ZN at h; simp at h; omega
theorem Z2W (ps : List (List UInt8)) (hb : Wb ps + ps.length ≤ 1152921504606846976) (i m : Nat) (him : i + m = ps.length) (S R : List UInt8) (v x : Nat) (P : List UInt8) :
   Does Tryz.prog tab 181 4 [.ptr (.loc 0) 0 0 0] [(0, Vl i m [] [] S R v x P)] [(1, .rows 1 (ps.map Zf))]
     (fun r O nx => ∃ (i' m' : Nat) (L E : List UInt8), i' + m' = ps.length ∧ r = .bool (W8 (ps.drop i)).isSome ∧ (∀ l, W8 (ps.drop i) = some l → l = ps.drop i') ∧ O = [(0, Vl i' m' L E S R v x P)] ∧ nx = 4) := by
 have hsm := Z5b hb
 refine Does.enter Z2 (g := 181) (fn := Tryz.f181) Tryz.call181 Tryz.func181 rfl 50 rfl rfl [.tmp 2] rfl ?_
 intro w0 F η0 h0
 conv => whnf
 refine CALL.here (XX 203 _ ps (fun s hs => Z6S s (hsm s hs)) i m him [] [] S R v x P) rfl rfl (by first | rfl | (simp only [Z4, Z3, Z0 _ (Z1 _), Bool.and_self, Bool.and_true] <;> rfl)) (by first | rfl | (simp only [Z4, Z3, Z0 _ (Z1 _), Bool.and_self, Bool.and_true] <;> rfl)) (by repeat' (first | exact trivial | exact rfl | ((conv => whnf); refine ⟨?_, ?_⟩))) (by repeat' (first | exact trivial | exact rfl | ((conv => whnf); refine ⟨?_, ?_⟩))) rfl ?_ ?_
 · rintro r O' nx' ⟨rfl, rfl, rfl⟩; exact ⟨rfl, rfl, rfl⟩
 rintro r O' ⟨rfl, rfl, _⟩
 conv => whnf
 refine IF.mk (fun h => ?_) (fun h => ?_)
 · conv => whnf
   have h : Ys (fun s => ZN s 2 8 true) ps i = false := by simpa using h
   have hn : W8 (ps.drop i) = none := by
     rcases Xj h with h | ⟨s, _, h1, h2⟩
     · rw [h]; rfl
     · rw [h1]; simp only [W8]; simp [h2]
   exact FIN.here h0 (Oc := [(0, Vl i m [] [] S R v x P)]) rfl rfl rfl ⟨rfl, trivial⟩ ⟨i, m, [], [], him, by rw [hn]; rfl, by simp [hn], rfl, rfl⟩
 have h : Ys (fun s => ZN s 2 8 true) ps i = true := by simpa using h
 obtain ⟨p, hp, hpm⟩ := Y7 h
 have hlt := (List.getElem?_eq_some_iff.1 hp).1
 have hd := YO hp
 obtain ⟨k, rfl⟩ : ∃ k, m = k + 1 := ⟨m - 1, by omega⟩
 have hlen := Z2V hpm
 conv => whnf
 refine CALL.here (Y3 ps i k him p hp [] [] S R v x P) rfl rfl (by first | rfl | (simp only [Z4, Z3, Z0 _ (Z1 _), Bool.and_self, Bool.and_true] <;> rfl)) (by first | rfl | (simp only [Z4, Z3, Z0 _ (Z1 _), Bool.and_self, Bool.and_true] <;> rfl)) (by repeat' (first | exact trivial | exact rfl | ((conv => whnf); refine ⟨?_, ?_⟩))) (by repeat' (first | exact trivial | exact rfl | ((conv => whnf); refine ⟨?_, ?_⟩))) rfl ?_ ?_
 · rintro r O' nx' ⟨rfl, rfl, rfl⟩; exact ⟨rfl, rfl, rfl⟩
 rintro r O' ⟨rfl, rfl, _⟩
 conv => whnf
 refine IF.mk (fun h => ?_) (fun h => ?_)
 · conv => whnf
   have h : 3 < p.length := by simp at h; omega
   exact FIN.here h0 (Oc := [(0, Vl (i + 1) k p [] S R v x P)]) rfl rfl rfl ⟨rfl, trivial⟩ ⟨i + 1, k, p, [], by omega, by rw [hd]; simp only [W8]; simp [hpm, h], by rw [hd]; simp only [W8]; simp [hpm, h], rfl, rfl⟩
 have h : ¬ 3 < p.length := by simp at h; omega
 have hL : W8 (ps.drop i) = some (extP 3 (ps.drop (i + 1))) := by rw [hd]; simp only [W8]; rw [if_pos hpm, if_neg h]
 conv => whnf
 refine LOOP.go Z2 [0] (X := Nat × List UInt8 × Nat) (fun y => y.1 ≤ 3 ∧ y.2.1.length ≤ 4 * y.1 ∧ y.2.2 + (ps.length - y.2.2) = ps.length ∧ extP 3 (ps.drop (i + 1)) = extP (3 - y.1) (ps.drop y.2.2)) (fun y => [(3, .int .i64 (y.1 : Int))]) (fun y => [(0, Vl y.2.2 (ps.length - y.2.2) p y.2.1 S R v x P)]) 4 (fun y => 3 - y.1) (0, [], i + 1) ⟨by simp, by simp, by simp only; omega, rfl⟩ ?_
 conv => whnf
 rw [show ps.length - (i + 1) = k by omega]
 refine ⟨by exact GOES.cA h0, ?_⟩
 rintro ⟨c, E, a⟩ ⟨hc, hE, ha, hx⟩
 dsimp only at hc hE ha hx ⊢
 conv => whnf
 have fin : Ys (fun s => ZN s 3 3 true) ps a = false ∨ c = 3 → extP 3 (ps.drop (i + 1)) = ps.drop a := by
   rintro (h | h)
   · rw [hx, ZbZ h]
   · subst h; rw [hx]; rfl
 refine IF.mk (fun h => ?_) (fun h => ?_)
 · have h : c < 3 := by simp at h; omega
   conv => whnf
   repeat' ((first | refine AU ?_ | (refine IW (fun h => ?_) (fun h => ?_) <;> try (exfalso; omega))) <;> conv => whnf)
   refine CALL.here (XX 205 _ ps (fun s hs => Z6T s (hsm s hs)) a (ps.length - a) ha p E S R v x P) rfl rfl (by first | rfl | (simp only [Z4, Z3, Z0 _ (Z1 _), Bool.and_self, Bool.and_true] <;> rfl)) (by first | rfl | (simp only [Z4, Z3, Z0 _ (Z1 _), Bool.and_self, Bool.and_true] <;> rfl)) (by repeat' (first | exact trivial | exact rfl | ((conv => whnf); refine ⟨?_, ?_⟩))) (by repeat' (first | exact trivial | exact rfl | ((conv => whnf); refine ⟨?_, ?_⟩))) rfl ?_ ?_
   · rintro r O' nx' ⟨rfl, rfl, rfl⟩; exact ⟨rfl, rfl, rfl⟩
   rintro r O' ⟨rfl, rfl, _⟩
   conv => whnf
   repeat' ((first | refine AU ?_ | (refine IW (fun h => ?_) (fun h => ?_) <;> try (exfalso; omega))) <;> conv => whnf)
   · obtain ⟨q, hq, hqm⟩ := Y7 (by assumption)
     have hql := Z2V hqm
     obtain ⟨k', hk'⟩ : ∃ k', ps.length - a = k' + 1 := ⟨ps.length - a - 1, by have := (List.getElem?_eq_some_iff.1 hq).1; omega⟩
     rw [hk']
     repeat' ((first | refine DRAWN.of (id := 11) Z2 mixed Z2U (by kernel_rfl) ?_ | refine ADD.mk (fun _ _ => ?_) | refine AD ?_ | refine FORK.mk ?_ ?_ | refine AU ?_ | (refine IW (fun h => ?_) (fun h => ?_) <;> try (exfalso; omega))) <;> conv => whnf)
     all_goals
       refine CALL.here (Y3 ps a k' (by omega) q hq p (E ++ [45]) S R v x P) rfl rfl (by first | rfl | (simp only [Z4, Z3, Z0 _ (Z1 _), Bool.and_self, Bool.and_true] <;> rfl)) (by first | rfl | (simp only [Z4, Z3, Z0 _ (Z1 _), Bool.and_self, Bool.and_true] <;> rfl)) (by repeat' (first | exact trivial | exact rfl | ((conv => whnf); refine ⟨?_, ?_⟩))) (by repeat' (first | exact trivial | exact rfl | ((conv => whnf); refine ⟨?_, ?_⟩))) rfl ?_ ?_
       · rintro r O' nx' ⟨rfl, rfl, rfl⟩; exact ⟨rfl, rfl, rfl⟩
       rintro r O' ⟨rfl, rfl, _⟩
       conv => whnf
       repeat' ((first | refine DRAWN.of (id := 11) Z2 mixed Z2U (by kernel_rfl) ?_ | refine ADD.mk (fun _ _ => ?_) | refine AD ?_ | refine FORK.mk ?_ ?_ | refine AU ?_ | (refine IW (fun h => ?_) (fun h => ?_) <;> try (exfalso; omega))) <;> conv => whnf)
       refine ⟨(c + 1, (E ++ [45]) ++ q, a + 1), ⟨by simp only; omega, by simp only [List.length_append, List.length_cons, List.length_nil]; omega, by simp only; omega, ?_⟩, by simp only; omega, ?_⟩
       · rw [hx, YO hq, show 3 - c = (3 - (c + 1)) + 1 by omega]; simp only [extP]; rw [if_pos hqm]
       · dsimp only
         rw [show ps.length - (a + 1) = k' by omega]
         conv => whnf
         exact GOES.cA h0
   · obtain ⟨q, hq, hqm⟩ := Y7 (by assumption)
     have hql := Z2V hqm
     obtain ⟨k', hk'⟩ : ∃ k', ps.length - a = k' + 1 := ⟨ps.length - a - 1, by have := (List.getElem?_eq_some_iff.1 hq).1; omega⟩
     rw [hk']
     have hc0 : c = 0 := by omega
     repeat' ((first | refine DRAWN.of (id := 11) Z2 mixed Z2U (by kernel_rfl) ?_ | refine ADD.mk (fun _ _ => ?_) | refine AD ?_ | refine FORK.mk ?_ ?_ | refine AU ?_ | (refine IW (fun h => ?_) (fun h => ?_) <;> try (exfalso; omega))) <;> conv => whnf)
     all_goals
       refine CALL.here (Y3 ps a k' (by omega) q hq p (E) S R v x P) rfl rfl (by first | rfl | (simp only [Z4, Z3, Z0 _ (Z1 _), Bool.and_self, Bool.and_true] <;> rfl)) (by first | rfl | (simp only [Z4, Z3, Z0 _ (Z1 _), Bool.and_self, Bool.and_true] <;> rfl)) (by repeat' (first | exact trivial | exact rfl | ((conv => whnf); refine ⟨?_, ?_⟩))) (by repeat' (first | exact trivial | exact rfl | ((conv => whnf); refine ⟨?_, ?_⟩))) rfl ?_ ?_
       · rintro r O' nx' ⟨rfl, rfl, rfl⟩; exact ⟨rfl, rfl, rfl⟩
       rintro r O' ⟨rfl, rfl, _⟩
       conv => whnf
       repeat' ((first | refine DRAWN.of (id := 11) Z2 mixed Z2U (by kernel_rfl) ?_ | refine ADD.mk (fun _ _ => ?_) | refine AD ?_ | refine FORK.mk ?_ ?_ | refine AU ?_ | (refine IW (fun h => ?_) (fun h => ?_) <;> try (exfalso; omega))) <;> conv => whnf)
       refine ⟨(c + 1, (E) ++ q, a + 1), ⟨by simp only; omega, by simp only [List.length_append, List.length_cons, List.length_nil]; omega, by simp only; omega, ?_⟩, by simp only; omega, ?_⟩
       · rw [hx, YO hq, show 3 - c = (3 - (c + 1)) + 1 by omega]; simp only [extP]; rw [if_pos hqm]
       · dsimp only
         rw [show ps.length - (a + 1) = k' by omega]
         conv => whnf
         exact GOES.cA h0
   · exact FIN.here h0 (Oc := [(0, Vl a (ps.length - a) p E S R v x P)]) rfl rfl rfl ⟨rfl, trivial⟩ ⟨a, ps.length - a, p, E, ha, by rw [hL]; rfl, by rw [hL]; rintro l ⟨⟩; exact fin (.inl (by assumption)), rfl, rfl⟩
 · have h : c = 3 := by simp at h; omega
   conv => whnf
   repeat' ((first | refine AU ?_ | (refine IW (fun h => ?_) (fun h => ?_) <;> try (exfalso; omega))) <;> conv => whnf)
   exact FIN.here h0 (Oc := [(0, Vl a (ps.length - a) p E S R v x P)]) rfl rfl rfl ⟨rfl, trivial⟩ ⟨a, ps.length - a, p, E, ha, by rw [hL]; rfl, by rw [hL]; rintro l ⟨⟩; exact fin (.inr h), rfl, rfl⟩
theorem Z5c {p : List UInt8 → Bool} {ps : List (List UInt8)} {i : Nat} (h : Ys p ps i = false) : J9 p (ps.drop i) = ps.drop i := by
 rcases Xj h with h | ⟨s, _, h1, h2⟩
 · rw [h]; rfl
 · rw [h1]; simp only [J9]; rw [if_neg (by simp [h2])]
theorem Z2X {p : List UInt8 → Bool} {ps : List (List UInt8)} {i : Nat} {s : List UInt8} (h : ps[i]? = some s) (hp : p s = true) : J9 p (ps.drop i) = ps.drop (i + 1) := by
 rw [YO h]; simp only [J9]; rw [if_pos hp]
theorem Z2Y (l : List (List UInt8)) (s : List UInt8) (hl : l.length ≤ 1152921504606846976) : Does Tryz.prog tab 221 1 [.sl (.loc 0) 0 1 l.length none, .str s] [] [(0, .rows 1 (l.map Zf))]
   (fun r O nx => ∃ n : Int, (0 ≤ n ↔ s ∈ l) ∧ r = .int .i64 n ∧ O = [] ∧ nx = 1) := by
 refine Does.enter Z2 (g := 221) (fn := Tryz.f221) Tryz.call221 Tryz.func221 rfl 19 rfl rfl [.tmp 4] rfl ?_
 intro w0 F η0 h0
 conv => whnf
 refine LOOP.go Z2 [0, 1, 7] (X := Nat) (fun i => i ≤ l.length ∧ s ∉ l.take i) (fun i => [(8, .int .i64 (i : Int))]) (fun i => []) 1 (fun i => l.length - i) 0 ⟨by omega, by simp⟩ ?_
 conv => whnf
 refine ⟨by exact GOES.cA h0, ?_⟩
 rintro i ⟨hi, hc⟩
 conv => whnf
 repeat' ((first | (refine GET.at (row := Zf (l[i]'(by omega))) (by rw [List.getElem?_map, show 0 + (i : Int).toNat = i by omega, List.getElem?_eq_getElem (by omega)]; rfl) ?_; conv => whnf) | refine AU ?_ | (refine IW (fun h => ?_) (fun h => ?_) <;> try (exfalso; omega))) <;> conv => whnf)
 · have hl : i < l.length := by omega
   exact FIN.val h0 rfl ⟨i, ⟨fun _ => by subst h; exact List.getElem_mem hl, fun _ => by omega⟩, rfl, rfl, rfl⟩
 · have hl : i < l.length := by omega
   refine ⟨i + 1, ⟨by omega, ?_⟩, by omega, ?_⟩
   · rw [List.take_succ_eq_append_getElem hl]
     simp only [List.mem_append, List.mem_singleton]
     rintro (h1 | h1)
     · exact hc h1
     · exact h h1
   · conv => whnf
     exact GOES.cA h0
 · refine FIN.val h0 rfl ⟨-1, ⟨fun h => by omega, fun h1 => ?_⟩, rfl, rfl, rfl⟩
   rw [List.take_of_length_le (by omega)] at hc
   exact (hc h1).elim
theorem Y4 (l : List (List UInt8)) (s : List UInt8) (hl : l.length ≤ 1152921504606846976) : Does Tryz.prog tab 209 1 [.sl (.loc 0) 0 1 l.length none, .str s] [] [(0, .rows 1 (l.map Zf))] (ValK 1 (.bool (decide (s ∈ l)))) := by
 refine Does.enter Z2 (g := 209) (fn := Tryz.f209) Tryz.call209 Tryz.func209 rfl 9 rfl rfl [.tmp 4] rfl ?_
 intro w0 F η0 h0
 conv => whnf
 refine CALL.here (Z2Y l s hl) rfl rfl (by first | rfl | (simp only [Z4, Z3, Z0 _ (Z1 _), Bool.and_self, Bool.and_true] <;> rfl)) (by first | rfl | (simp only [Z4, Z3, Z0 _ (Z1 _), Bool.and_self, Bool.and_true] <;> rfl)) (by repeat' (first | exact trivial | exact rfl | ((conv => whnf); refine ⟨?_, ?_⟩))) (by repeat' (first | exact trivial | exact rfl | ((conv => whnf); refine ⟨?_, ?_⟩))) rfl ?_ ?_
 · rintro r O' nx' ⟨n, _, rfl, rfl, rfl⟩; exact ⟨rfl, rfl, rfl⟩
 rintro r O' ⟨n, hn, rfl, rfl, _⟩
 conv => whnf
 exact FIN.valueK h0 rfl (congrArg SV.bool (decide_eq_decide.2 hn))
def orE : List Int → Int
 | [] => 0
 | a :: l => if a ≠ 0 then a else orE l
def Z8F (a : Int) : List SV := [.int .i64 a]
theorem Z2Z (xs : List Int) (hn : xs.length ≤ 1152921504606846976) : Does Tryz.prog tab 52 1 [.sl (.loc 0) 0 1 xs.length none] [] [(0, .rows 1 (xs.map Z8F))] (ValK 1 (.int .i64 (orE xs))) := by
 refine Does.enter Z2 (g := 52) (fn := Tryz.f52) Tryz.call52 Tryz.func52 rfl 18 rfl rfl [.tmp 2] rfl ?_
 intro w0 F η0 h0
 conv => whnf
 refine LOOP.go Z2 [3, 6, 7] (X := Nat) (fun i => i ≤ xs.length ∧ orE xs = orE (xs.drop i)) (fun i => [(8, .int .i64 (i : Int))]) (fun i => []) 1 (fun i => xs.length - i) 0 ⟨by omega, rfl⟩ ?_
 conv => whnf
 refine ⟨by exact GOES.cA h0, ?_⟩
 rintro i ⟨hi, ho⟩
 conv => whnf
 repeat' ((first | (refine GET.at (row := Z8F (xs[i]'(by omega))) (by rw [List.getElem?_map, show 0 + (i : Int).toNat = i by omega, List.getElem?_eq_getElem (by omega)]; rfl) ?_; conv => whnf) | refine AU ?_ | (refine IW (fun h => ?_) (fun h => ?_) <;> try (exfalso; omega))) <;> conv => whnf)
 · have hl : i < xs.length := by omega
   refine FIN.valueK h0 rfl (congrArg (SV.int _) ?_)
   rw [ho, List.drop_eq_getElem_cons hl]; simp only [orE]; rw [if_pos h]
 · have hl : i < xs.length := by omega
   refine ⟨i + 1, ⟨by omega, ?_⟩, by omega, ?_⟩
   · rw [ho, List.drop_eq_getElem_cons hl]; simp only [orE]; rw [if_neg (by simpa using h)]
   · conv => whnf
     exact GOES.cA h0
 · refine FIN.valueK h0 rfl (congrArg (SV.int _) ?_)
   rw [ho, List.drop_eq_nil_of_le (by omega)]; rfl
def Z4f (x : Int) : List SV := [.int .i64 x]
instance : PlF Z4f := ⟨fun _ => rfl⟩
theorem JE {l z : List Qd} {i : Nat} (h : i < l.length) : ((l ++ z).map Za)[i]? = some (Za l[i]) := by
 rw [List.getElem?_map, List.getElem?_append_left h, List.getElem?_eq_getElem h]; rfl
def Za9 : Plan := (Zq [(0, 1), (1, 1), (2, 1), (3, 1), (4, 1), (5, 1), (6, 1), (7, 1), (8, 1), (9, 1), (10, 1), (11, 1), (12, 1), (13, 0)])
def Zaa : Plan := (Zq [(0, 1), (1, 1), (2, 1), (3, 2), (4, 1), (5, 1), (6, 1), (7, 1), (9, 1), (10, 1), (8, 2), (11, 2), (12, 1), (13, 2), (14, 1), (15, 1)])
def fitT (p x : Tm) : Bool := decide (p.k = 4) || decide (p = x)
def Z91 (p q : Qd) : Bool := fitT p.s q.s && fitT p.p q.p && fitT p.o q.o && fitT p.g q.g
theorem Z92 {a b : Tm} : a = b ↔ a.k = b.k ∧ a.t = b.t ∧ a.y = b.y ∧ a.l = b.l := ⟨fun h => by subst h; simp, fun h => by cases a; cases b; simp_all⟩
theorem Z4v (q : Qd) : Does Tryz.prog tab 87 1 [.ptr (.loc 0) 0 0 0] [] [(0, .box (Za q))] (ValK 1 (.arr 1 [[.ptr (.loc 0) 0 0 0], [.ptr (.loc 0) 0 0 4], [.ptr (.loc 0) 0 0 8], [.ptr (.loc 0) 0 0 12]])) := by
 refine Does.enter Z2 (g := 87) (fn := Tryz.f87) Tryz.call87 Tryz.func87 rfl 16 rfl rfl [.cell 2 124] rfl ?_
 intro w0 F η0 h0
 conv => whnf
 repeat' ((first | refine DRAWN.of (id := 1) Z2 mixed Za9 (by kernel_rfl) ?_ | refine ADD.mk (fun _ _ => ?_) | refine AD ?_ | refine FORK.mk ?_ ?_ | refine AU ?_ | (refine IW (fun h => ?_) (fun h => ?_) <;> try (exfalso; omega))) <;> conv => whnf)
 exact FIN.here h0 (rc := .arr 1 [[.ptr (.loc 0) 0 0 0], [.ptr (.loc 0) 0 0 4], [.ptr (.loc 0) 0 0 8], [.ptr (.loc 0) 0 0 12]]) (Oc := []) rfl rfl rfl trivial ⟨rfl, rfl, rfl⟩
set_option maxHeartbeats 4000000 in
theorem Z4w (p q : Qd) : Does Tryz.prog tab 59 0 [.agg (Za p), .agg (Za q)] [] [] (Val (.bool (Z91 p q))) := by
 refine Does.enter Z2 (g := 59) (fn := Tryz.f59) Tryz.call59 Tryz.func59 rfl 31 rfl rfl [.tmp 4] rfl ?_
 intro w0 F η0 h0
 conv => whnf
 refine CALL.aA [1] (Z4v q) ?_
 rintro r O nx ⟨rfl, rfl, rfl⟩
 conv => whnf
 repeat' ((first | (refine NEED.mk ⟨rfl, rfl, rfl, rfl, rfl⟩ ?_; conv => whnf) | refine AU ?_ | (refine IW (fun h => ?_) (fun h => ?_) <;> try (exfalso; omega))) <;> conv => whnf)
 refine CALL.aA [0] (Z4v p) ?_
 rintro r O nx ⟨rfl, rfl, rfl⟩
 conv => whnf
 repeat' ((first | refine DRAWN.of (id := 5) Z2 mixed Zaa (by kernel_rfl) ?_ | refine ADD.mk (fun _ _ => ?_) | refine AD ?_ | refine FORK.mk ?_ ?_ | (refine LOOP.once Z2 ?_; conv => whnf) | (refine NEED.mk ⟨by decide, by decide, rfl⟩ ?_; conv => whnf) | refine AU ?_ | (refine IW (fun h => ?_) (fun h => ?_) <;> try (exfalso; omega))) <;> conv => whnf)
 all_goals
   refine FIN.value h0 rfl (congrArg SV.bool (Eq.symm ?_))
   first
     | (simp [Z91, fitT, Z92, *]; done)
     | (rw [Bool.eq_false_iff]; intro hc; simp only [Z91, fitT, Z92, Bool.and_eq_true, Bool.or_eq_true, decide_eq_true_iff] at hc; grind)
     | trace_state
def Zc9 (j : Nat) : List SV := [.int .i64 (j : Int)]
instance : PlF Zc9 := ⟨fun _ => rfl⟩
theorem Zbr {l z : List Qd} {i k : Nat} (h : i < l.length) (e : k = i) : ((l ++ z).map Za)[k]? = some (Za l[i]) := by subst e; exact JE h
theorem Z2c (p : Qd) (n : Nat) (lim : Option Nat := none) : Does Tryz.prog tab 29 1 [.sl (.loc 0) 0 16 n lim, .agg (Za p)] [] []
   (fun r O nx => r = .fn (.func 58) [] [.ptr (.loc 1) 0 0 0, .ptr (.loc 2) 0 0 0] ∧ O = [(1, .box [.sl (.loc 0) 0 16 n lim]), (2, .box (Za p))] ∧ nx = 3) := by
 refine Does.enter Z2 (g := 29) (fn := Tryz.f29) Tryz.call29 Tryz.func29 rfl 6 rfl rfl [.tmp 4] rfl ?_
 intro w0 F η0 h0
 conv => whnf
 repeat' ((first | refine AU ?_ | (refine IW (fun h => ?_) (fun h => ?_) <;> try (exfalso; omega))) <;> conv => whnf)
 refine FIN.at h0 [1, 2] (.fn (.func 58) [] [.ptr (.loc 1) 0 0 0, .ptr (.loc 2) 0 0 0]) [(1, .box [.sl (.loc 0) 0 16 n lim]), (2, .box (Za p))] rfl rfl rfl rfl ⟨rfl, rfl, trivial⟩ rfl ⟨rfl, rfl, rfl⟩
end Go.Proofs.YtjbbkimodgffiaaGreatDoor
