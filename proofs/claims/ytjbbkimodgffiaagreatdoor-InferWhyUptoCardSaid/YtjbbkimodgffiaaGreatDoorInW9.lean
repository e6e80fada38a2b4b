/- Part 9: Tab, Cmp7, Lists7, World1, Utf1, Utf04, StrLib, Iri, Iri2, Names1, Part1, Split1, Tag1, Tag2, Names2, Part2, Tag5, Tag6, Rise7. Conditions: as each part says. -/
import Derived.Test.YtjbbkimodgffiaaGreatDoorProg
import Derived.Lib.Bytealg
import Derived.Test.YtjbbkimodgffiaaGreatDoorInW6
import Derived.Test.YtjbbkimodgffiaaGreatDoorInW8
set_option maxRecDepth 100000
namespace Go.Proofs.YtjbbkimodgffiaaGreatDoor
open Go.Sx
def bt {α : Type} (t n : Nat) (a b : α) : α := match Nat.ble t n with | true => a | false => b
theorem Zcm {α : Type} {t n : Nat} {a b : α} (h : Nat.ble t n = false) : bt t n a b = b := by unfold bt; rw [h]
def ZeQ (t : TypeId) : Sh := bt t 248 (bt t 123 (bt t 61 (bt t 30 (bt t 14 (bt t 6 (bt t 2 (bt t 0 .plain (bt t 1 .func (.int .i64))) (bt t 4 (bt t 3 (.int .i64) .bool) (.int .u8))) (bt t 10 (bt t 8 (.struct [(0, 2), (1, 3), (2, 4), (3, 6)]) .str) (bt t 12 (bt t 11 .str (.int .u64)) (.struct [(0, 9), (1, 12)])))) (bt t 22 (bt t 18 (bt t 16 (bt t 15 (.ptr 235) (.ptr 238)) (bt t 17 (.ptr 247) (.struct [(0, 17)]))) (bt t 20 (bt t 19 (.struct [(0, 17)]) .iface) (bt t 21 (.int .i32) (.slice 30)))) (bt t 26 (bt t 24 (bt t 23 (.slice 42) .func) .func) (bt t 28 (.struct [(0, 3), (1, 9), (2, 9), (3, 9)]) (.struct [(0, 28), (4, 28), (8, 28), (12, 28)]))))) (bt t 45 (bt t 37 (bt t 33 (bt t 31 .plain (bt t 32 .func .plain)) (bt t 35 (bt t 34 .func .plain) (bt t 36 .func (.int .i64)))) (bt t 41 (bt t 39 (bt t 38 .plain .func) (bt t 40 .func (.struct [(0, 3), (1, 30), (17, 30), (33, 30)]))) (bt t 43 (bt t 42 (.struct [(0, 3), (1, 30), (17, 30), (33, 30)]) .func) (bt t 44 .plain .func)))) (bt t 53 (bt t 49 .func (bt t 51 .func (bt t 52 .func (.slice 28)))) (bt t 57 .func (bt t 59 .func (bt t 60 .plain .func)))))) (bt t 92 (bt t 76 (bt t 68 (bt t 64 (bt t 62 .func (bt t 63 .plain .func)) (bt t 66 .func (bt t 67 (.ptr 72) .func))) (bt t 72 (bt t 70 (bt t 69 (.map 30 3) (.map 105 22)) (.struct [(0, 22), (1, 23), (2, 69), (3, 70)])) (bt t 74 (bt t 73 .plain .func) (bt t 75 .func .plain)))) (bt t 84 (bt t 80 .func (bt t 82 (bt t 81 .plain .func) (bt t 83 (.map 3 3) .func))) .func)) (bt t 107 (bt t 99 .func (bt t 103 (bt t 101 (bt t 100 .func (.array 12 100)) .func) (bt t 105 (.struct [(0, 28), (4, 28), (8, 28), (12, 28)]) (bt t 106 (.array 3 105) .func)))) (bt t 115 (bt t 111 (bt t 109 .func (bt t 110 (.slice 3) .func)) (bt t 113 (bt t 112 (.array 6 3) .func) (bt t 114 (.slice 37) (.slice 22)))) (bt t 119 .func (bt t 121 .func (bt t 122 .func (.ptr 28)))))))) (bt t 185 (bt t 154 (bt t 138 (bt t 130 (bt t 126 (bt t 124 (.array 4 123) (bt t 125 .func (.ptr 30))) (bt t 128 (bt t 127 (.array 4 28) .func) .func)) (bt t 134 .func (bt t 136 (bt t 135 .func (.int .u64)) .func))) (bt t 146 (bt t 142 (bt t 140 .func (bt t 141 .func .plain)) (bt t 144 .func (bt t 145 (.slice 9) (.struct [(0, 9), (1, 9), (2, 9), (3, 9), (4, 145), (5, 145), (6, 9)])))) (bt t 150 (bt t 148 (bt t 147 (.struct [(0, 9), (1, 9), (2, 9), (3, 9), (4, 145), (5, 145), (6, 9)]) .plain) .func) (bt t 152 (bt t 151 (.int .i64) .plain) .func)))) (bt t 169 (bt t 161 (bt t 157 .func (bt t 159 (bt t 158 (.int .u32) .func) (bt t 160 (.int .u64) .func))) (bt t 165 (bt t 163 (bt t 162 .func .plain) .func) .func)) (bt t 177 (bt t 173 (bt t 171 .func (bt t 172 (.ptr 175) .func)) (bt t 175 (.struct [(0, 145)]) (bt t 176 .func (.ptr 147)))) (bt t 181 .func (bt t 183 (bt t 182 (.int .u64) .func) .func))))) (bt t 216 (bt t 200 (bt t 192 (bt t 188 (bt t 186 (.ptr 3) .func) (bt t 190 .func (bt t 191 .plain .func))) (bt t 196 (bt t 194 (bt t 193 (.ptr 196) .func) (.struct [(0, 145), (1, 147)])) (bt t 198 (bt t 197 .func .plain) (bt t 199 .func (.slice 5))))) (bt t 208 (bt t 204 (bt t 202 .func (bt t 203 .func (.array 28 3))) (bt t 206 .func (bt t 207 (.ptr 182) .func))) (bt t 212 (bt t 210 .func (bt t 211 .plain .func)) .func))) (bt t 232 (bt t 224 (bt t 220 (bt t 218 (bt t 217 .func (.array 5 3)) .func) (bt t 222 (bt t 221 (.array 5 21) .func) .func)) (bt t 228 (bt t 226 (bt t 225 .func (.array 24 21)) (bt t 227 .func (.array 256 5))) (bt t 230 (.struct [(0, 5), (1, 5)]) (bt t 231 (.array 16 230) .plain)))) (bt t 240 (bt t 236 (bt t 234 (bt t 233 .func (.struct [(0, 17), (1, 17), (2, 17), (3, 9)])) (bt t 235 (.struct [(0, 17), (1, 17), (2, 17), (3, 9)]) (.array 0 16))) (bt t 238 (.struct [(0, 236)]) (bt t 239 .func (.int .u8)))) (bt t 244 (bt t 242 (bt t 241 (.int .u8) .func) (bt t 243 (.ptr 5) (.int .i32))) (bt t 246 (bt t 245 (.int .i32) (.struct [(0, 12), (1, 12), (2, 158), (3, 240), (4, 5), (5, 5), (6, 241), (7, 242), (8, 243), (9, 244), (10, 245)])) (bt t 247 (.struct [(0, 12), (1, 12), (2, 158), (3, 240), (4, 5), (5, 5), (6, 241), (7, 242), (8, 243), (9, 244), (10, 245)]) .plain)))))))) .other
def ZdW (t : TypeId) : Nat := bt t 248 (bt t 123 (bt t 61 (bt t 30 (bt t 14 (bt t 6 1 (bt t 10 (bt t 8 4 1) (bt t 12 1 2))) (bt t 22 1 (bt t 26 1 (bt t 28 4 16)))) (bt t 45 (bt t 37 1 (bt t 41 (bt t 39 1 (bt t 40 1 49)) (bt t 43 (bt t 42 49 1) 1))) 1)) (bt t 92 (bt t 76 (bt t 68 1 (bt t 72 (bt t 70 1 4) 1)) 1) (bt t 107 (bt t 99 1 (bt t 103 (bt t 101 (bt t 100 1 12) 1) (bt t 105 16 (bt t 106 48 1)))) (bt t 115 (bt t 111 1 (bt t 113 (bt t 112 6 1) 1)) 1)))) (bt t 185 (bt t 154 (bt t 138 (bt t 130 (bt t 126 (bt t 124 4 1) (bt t 128 (bt t 127 16 1) 1)) 1) (bt t 146 (bt t 142 1 (bt t 144 1 (bt t 145 1 7))) (bt t 150 (bt t 148 (bt t 147 7 1) 1) 1))) 1) (bt t 216 (bt t 200 (bt t 192 1 (bt t 196 (bt t 194 1 8) 1)) (bt t 208 (bt t 204 (bt t 202 1 (bt t 203 1 28)) 1) 1)) (bt t 232 (bt t 224 (bt t 220 (bt t 218 (bt t 217 1 5) 1) (bt t 222 (bt t 221 5 1) 1)) (bt t 228 (bt t 226 (bt t 225 1 24) (bt t 227 1 256)) (bt t 230 2 (bt t 231 32 1)))) (bt t 240 (bt t 236 (bt t 234 (bt t 233 1 4) (bt t 235 4 0)) (bt t 238 0 1)) (bt t 244 1 (bt t 246 (bt t 245 1 11) (bt t 247 11 1)))))))) 0
def ZaH (t : TypeId) : List SV := bt t 248 (bt t 123 (bt t 61 (bt t 30 (bt t 14 (bt t 6 (bt t 2 (bt t 0 [] (bt t 1 [.val .nilFunc] [.int .i64 (0)])) (bt t 4 (bt t 3 [.int .i64 (0)] [.bool false]) [.int .u8 (0)])) (bt t 10 (bt t 8 [.int .i64 (0), .int .i64 (0), .bool false, .int .u8 (0)] ([.str []])) (bt t 12 (bt t 11 [.str []] [.int .u64 (0)]) ([.str [], .int .u64 (0)])))) (bt t 22 (bt t 18 [.val (.pointer none)] (bt t 20 (bt t 19 [.val (.pointer none)] [.val .nilIface]) (bt t 21 [.int .i32 (0)] [.val (.slice none 0 0)]))) (bt t 26 (bt t 24 (bt t 23 [.val (.slice none 0 0)] [.val .nilFunc]) [.val .nilFunc]) (bt t 28 ([.int .i64 (0), .str [], .str [], .str []]) ([.int .i64 (0), .str [], .str [], .str [], .int .i64 (0), .str [], .str [], .str [], .int .i64 (0), .str [], .str [], .str [], .int .i64 (0), .str [], .str [], .str []]))))) (bt t 45 (bt t 37 (bt t 33 (bt t 31 [] (bt t 32 [.val .nilFunc] [])) (bt t 35 (bt t 34 [.val .nilFunc] []) (bt t 36 [.val .nilFunc] [.int .i64 (0)]))) (bt t 41 (bt t 39 (bt t 38 [] [.val .nilFunc]) (bt t 40 [.val .nilFunc] [.int .i64 (0), .int .i64 (0), .str [], .str [], .str [], .int .i64 (0), .str [], .str [], .str [], .int .i64 (0), .str [], .str [], .str [], .int .i64 (0), .str [], .str [], .str [], .int .i64 (0), .str [], .str [], .str [], .int .i64 (0), .str [], .str [], .str [], .int .i64 (0), .str [], .str [], .str [], .int .i64 (0), .str [], .str [], .str [], .int .i64 (0), .str [], .str [], .str [], .int .i64 (0), .str [], .str [], .str [], .int .i64 (0), .str [], .str [], .str [], .int .i64 (0), .str [], .str [], .str []])) (bt t 43 (bt t 42 [.int .i64 (0), .int .i64 (0), .str [], .str [], .str [], .int .i64 (0), .str [], .str [], .str [], .int .i64 (0), .str [], .str [], .str [], .int .i64 (0), .str [], .str [], .str [], .int .i64 (0), .str [], .str [], .str [], .int .i64 (0), .str [], .str [], .str [], .int .i64 (0), .str [], .str [], .str [], .int .i64 (0), .str [], .str [], .str [], .int .i64 (0), .str [], .str [], .str [], .int .i64 (0), .str [], .str [], .str [], .int .i64 (0), .str [], .str [], .str [], .int .i64 (0), .str [], .str [], .str []] [.val .nilFunc]) (bt t 44 [] [.val .nilFunc])))) (bt t 53 (bt t 49 [.val .nilFunc] (bt t 51 [.val .nilFunc] (bt t 52 [.val .nilFunc] [.val (.slice none 0 0)]))) (bt t 57 [.val .nilFunc] (bt t 59 [.val .nilFunc] (bt t 60 [] [.val .nilFunc])))))) (bt t 92 (bt t 76 (bt t 68 (bt t 64 (bt t 62 [.val .nilFunc] (bt t 63 [] [.val .nilFunc])) (bt t 66 [.val .nilFunc] (bt t 67 [.val (.pointer none)] [.val .nilFunc]))) (bt t 72 (bt t 70 [.val (.map none)] [.val (.slice none 0 0), .val (.slice none 0 0), .val (.map none), .val (.map none)]) (bt t 74 (bt t 73 [] [.val .nilFunc]) (bt t 75 [.val .nilFunc] [])))) (bt t 84 (bt t 80 [.val .nilFunc] (bt t 82 (bt t 81 [] [.val .nilFunc]) (bt t 83 [.val (.map none)] [.val .nilFunc]))) [.val .nilFunc])) (bt t 107 (bt t 99 [.val .nilFunc] (bt t 103 (bt t 101 (bt t 100 [.val .nilFunc] [.val .nilFunc, .val .nilFunc, .val .nilFunc, .val .nilFunc, .val .nilFunc, .val .nilFunc, .val .nilFunc, .val .nilFunc, .val .nilFunc, .val .nilFunc, .val .nilFunc, .val .nilFunc]) [.val .nilFunc]) (bt t 105 ([.int .i64 (0), .str [], .str [], .str [], .int .i64 (0), .str [], .str [], .str [], .int .i64 (0), .str [], .str [], .str [], .int .i64 (0), .str [], .str [], .str []]) (bt t 106 [.int .i64 (0), .str [], .str [], .str [], .int .i64 (0), .str [], .str [], .str [], .int .i64 (0), .str [], .str [], .str [], .int .i64 (0), .str [], .str [], .str [], .int .i64 (0), .str [], .str [], .str [], .int .i64 (0), .str [], .str [], .str [], .int .i64 (0), .str [], .str [], .str [], .int .i64 (0), .str [], .str [], .str [], .int .i64 (0), .str [], .str [], .str [], .int .i64 (0), .str [], .str [], .str [], .int .i64 (0), .str [], .str [], .str [], .int .i64 (0), .str [], .str [], .str []] [.val .nilFunc])))) (bt t 115 (bt t 111 (bt t 109 [.val .nilFunc] (bt t 110 [.val (.slice none 0 0)] [.val .nilFunc])) (bt t 113 (bt t 112 [.int .i64 (0), .int .i64 (0), .int .i64 (0), .int .i64 (0), .int .i64 (0), .int .i64 (0)] [.val .nilFunc]) [.val (.slice none 0 0)])) (bt t 119 [.val .nilFunc] (bt t 121 [.val .nilFunc] (bt t 122 [.val .nilFunc] [.val (.pointer none)]))))))) (bt t 185 (bt t 154 (bt t 138 (bt t 130 (bt t 126 (bt t 124 [.val (.pointer none), .val (.pointer none), .val (.pointer none), .val (.pointer none)] (bt t 125 [.val .nilFunc] [.val (.pointer none)])) (bt t 128 (bt t 127 [.int .i64 (0), .str [], .str [], .str [], .int .i64 (0), .str [], .str [], .str [], .int .i64 (0), .str [], .str [], .str [], .int .i64 (0), .str [], .str [], .str []] [.val .nilFunc]) [.val .nilFunc])) (bt t 134 [.val .nilFunc] (bt t 136 (bt t 135 [.val .nilFunc] [.int .u64 (0)]) [.val .nilFunc]))) (bt t 146 (bt t 142 (bt t 140 [.val .nilFunc] (bt t 141 [.val .nilFunc] [])) (bt t 144 [.val .nilFunc] (bt t 145 [.val (.slice none 0 0)] [.str [], .str [], .str [], .str [], .val (.slice none 0 0), .val (.slice none 0 0), .str []]))) (bt t 150 (bt t 148 (bt t 147 [.str [], .str [], .str [], .str [], .val (.slice none 0 0), .val (.slice none 0 0), .str []] []) [.val .nilFunc]) (bt t 152 (bt t 151 [.int .i64 (0)] []) [.val .nilFunc])))) (bt t 169 (bt t 161 (bt t 157 [.val .nilFunc] (bt t 159 (bt t 158 [.int .u32 (0)] [.val .nilFunc]) (bt t 160 [.int .u64 (0)] [.val .nilFunc]))) (bt t 165 (bt t 163 (bt t 162 [.val .nilFunc] []) [.val .nilFunc]) [.val .nilFunc])) (bt t 177 (bt t 173 (bt t 171 [.val .nilFunc] (bt t 172 [.val (.pointer none)] [.val .nilFunc])) (bt t 175 [.val (.slice none 0 0)] (bt t 176 [.val .nilFunc] [.val (.pointer none)]))) (bt t 181 [.val .nilFunc] (bt t 183 (bt t 182 [.int .u64 (0)] [.val .nilFunc]) [.val .nilFunc]))))) (bt t 216 (bt t 200 (bt t 192 (bt t 188 (bt t 186 [.val (.pointer none)] [.val .nilFunc]) (bt t 190 [.val .nilFunc] (bt t 191 [] [.val .nilFunc]))) (bt t 196 (bt t 194 (bt t 193 [.val (.pointer none)] [.val .nilFunc]) ([.val (.slice none 0 0), .str [], .str [], .str [], .str [], .val (.slice none 0 0), .val (.slice none 0 0), .str []])) (bt t 198 (bt t 197 [.val .nilFunc] []) (bt t 199 [.val .nilFunc] [.val (.slice none 0 0)])))) (bt t 208 (bt t 204 (bt t 202 [.val .nilFunc] (bt t 203 [.val .nilFunc] [.int .i64 (0), .int .i64 (0), .int .i64 (0), .int .i64 (0), .int .i64 (0), .int .i64 (0), .int .i64 (0), .int .i64 (0), .int .i64 (0), .int .i64 (0), .int .i64 (0), .int .i64 (0), .int .i64 (0), .int .i64 (0), .int .i64 (0), .int .i64 (0), .int .i64 (0), .int .i64 (0), .int .i64 (0), .int .i64 (0), .int .i64 (0), .int .i64 (0), .int .i64 (0), .int .i64 (0), .int .i64 (0), .int .i64 (0), .int .i64 (0), .int .i64 (0)])) (bt t 206 [.val .nilFunc] (bt t 207 [.val (.pointer none)] [.val .nilFunc]))) (bt t 212 (bt t 210 [.val .nilFunc] (bt t 211 [] [.val .nilFunc])) [.val .nilFunc]))) (bt t 232 (bt t 224 (bt t 220 (bt t 218 (bt t 217 [.val .nilFunc] [.int .i64 (0), .int .i64 (0), .int .i64 (0), .int .i64 (0), .int .i64 (0)]) [.val .nilFunc]) (bt t 222 (bt t 221 [.int .i32 (0), .int .i32 (0), .int .i32 (0), .int .i32 (0), .int .i32 (0)] [.val .nilFunc]) [.val .nilFunc])) (bt t 228 (bt t 226 (bt t 225 [.val .nilFunc] [.int .i32 (0), .int .i32 (0), .int .i32 (0), .int .i32 (0), .int .i32 (0), .int .i32 (0), .int .i32 (0), .int .i32 (0), .int .i32 (0), .int .i32 (0), .int .i32 (0), .int .i32 (0), .int .i32 (0), .int .i32 (0), .int .i32 (0), .int .i32 (0), .int .i32 (0), .int .i32 (0), .int .i32 (0), .int .i32 (0), .int .i32 (0), .int .i32 (0), .int .i32 (0), .int .i32 (0)]) (bt t 227 [.val .nilFunc] [])) (bt t 230 [.int .u8 (0), .int .u8 (0)] (bt t 231 [.int .u8 (0), .int .u8 (0), .int .u8 (0), .int .u8 (0), .int .u8 (0), .int .u8 (0), .int .u8 (0), .int .u8 (0), .int .u8 (0), .int .u8 (0), .int .u8 (0), .int .u8 (0), .int .u8 (0), .int .u8 (0), .int .u8 (0), .int .u8 (0), .int .u8 (0), .int .u8 (0), .int .u8 (0), .int .u8 (0), .int .u8 (0), .int .u8 (0), .int .u8 (0), .int .u8 (0), .int .u8 (0), .int .u8 (0), .int .u8 (0), .int .u8 (0), .int .u8 (0), .int .u8 (0), .int .u8 (0), .int .u8 (0)] [])))) (bt t 240 (bt t 236 (bt t 234 (bt t 233 [.val .nilFunc] [.val (.pointer none), .val (.pointer none), .val (.pointer none), .str []]) (bt t 235 [.val (.pointer none), .val (.pointer none), .val (.pointer none), .str []] [])) (bt t 238 [] (bt t 239 [.val .nilFunc] [.int .u8 (0)]))) (bt t 244 (bt t 242 (bt t 241 [.int .u8 (0)] [.val .nilFunc]) (bt t 243 [.val (.pointer none)] [.int .i32 (0)])) (bt t 246 (bt t 245 [.int .i32 (0)] [.int .u64 (0), .int .u64 (0), .int .u32 (0), .int .u8 (0), .int .u8 (0), .int .u8 (0), .int .u8 (0), .val .nilFunc, .val (.pointer none), .int .i32 (0), .int .i32 (0)]) (bt t 247 [.int .u64 (0), .int .u64 (0), .int .u32 (0), .int .u8 (0), .int .u8 (0), .int .u8 (0), .int .u8 (0), .val .nilFunc, .val (.pointer none), .int .i32 (0), .int .i32 (0)] [.val (.pointer none)])))))))) []
def Zcn (t : TypeId) : Nat := bt t 248 (bt t 123 (bt t 61 (bt t 30 (bt t 14 (bt t 6 (bt t 2 (bt t 0 0 8) (bt t 4 (bt t 3 8 1) 1)) (bt t 10 (bt t 8 24 16) (bt t 12 (bt t 11 16 8) 24))) (bt t 22 (bt t 18 8 (bt t 20 (bt t 19 8 16) (bt t 21 4 24))) (bt t 26 (bt t 24 (bt t 23 24 8) 8) (bt t 28 56 224)))) (bt t 45 (bt t 37 (bt t 33 (bt t 31 0 (bt t 32 8 0)) (bt t 35 (bt t 34 8 0) 8)) (bt t 41 (bt t 39 (bt t 38 0 8) (bt t 40 8 680)) (bt t 43 (bt t 42 680 8) (bt t 44 0 8)))) (bt t 53 (bt t 49 8 (bt t 51 8 (bt t 52 8 24))) (bt t 57 8 (bt t 59 8 (bt t 60 0 8)))))) (bt t 92 (bt t 76 (bt t 68 (bt t 64 (bt t 62 8 (bt t 63 0 8)) 8) (bt t 72 (bt t 70 8 64) (bt t 74 (bt t 73 0 8) (bt t 75 8 0)))) (bt t 84 (bt t 80 8 (bt t 82 (bt t 81 0 8) 8)) 8)) (bt t 107 (bt t 99 8 (bt t 103 (bt t 101 (bt t 100 8 96) 8) (bt t 105 224 (bt t 106 672 8)))) (bt t 115 (bt t 111 (bt t 109 8 (bt t 110 24 8)) (bt t 113 (bt t 112 48 8) 24)) 8)))) (bt t 185 (bt t 154 (bt t 138 (bt t 130 (bt t 126 (bt t 124 32 8) (bt t 128 (bt t 127 224 8) 8)) 8) (bt t 146 (bt t 142 (bt t 140 8 (bt t 141 8 0)) (bt t 144 8 (bt t 145 24 128))) (bt t 150 (bt t 148 (bt t 147 128 0) 8) (bt t 152 (bt t 151 8 0) 8)))) (bt t 169 (bt t 161 (bt t 157 8 (bt t 159 (bt t 158 4 8) 8)) (bt t 165 (bt t 163 (bt t 162 8 0) 8) 8)) (bt t 177 (bt t 173 8 (bt t 175 24 8)) 8))) (bt t 216 (bt t 200 (bt t 192 (bt t 188 8 (bt t 190 8 (bt t 191 0 8))) (bt t 196 (bt t 194 8 152) (bt t 198 (bt t 197 8 0) (bt t 199 8 24)))) (bt t 208 (bt t 204 (bt t 202 8 (bt t 203 8 224)) 8) (bt t 212 (bt t 210 8 (bt t 211 0 8)) 8))) (bt t 232 (bt t 224 (bt t 220 (bt t 218 (bt t 217 8 40) 8) (bt t 222 (bt t 221 20 8) 8)) (bt t 228 (bt t 226 (bt t 225 8 96) (bt t 227 8 256)) (bt t 230 2 (bt t 231 32 0)))) (bt t 240 (bt t 236 (bt t 234 (bt t 233 8 40) (bt t 235 40 0)) (bt t 238 0 (bt t 239 8 1))) (bt t 244 (bt t 242 (bt t 241 1 8) (bt t 243 8 4)) (bt t 246 (bt t 245 4 48) (bt t 247 48 8)))))))) 0
def ZaI (t : TypeId) : Option (List CK) := bt t 248 (bt t 123 (bt t 61 (bt t 30 (bt t 14 none (bt t 22 none (bt t 26 none (bt t 28 (bt t 27 none (some [.int .i64, .str, .str, .str])) (bt t 29 none (some [.int .i64, .str, .str, .str, .int .i64, .str, .str, .str, .int .i64, .str, .str, .str, .int .i64, .str, .str, .str])))))) (bt t 45 (bt t 37 none (bt t 41 none (bt t 43 (bt t 42 (some [.int .i64, .int .i64, .str, .str, .str, .int .i64, .str, .str, .str, .int .i64, .str, .str, .str, .int .i64, .str, .str, .str, .int .i64, .str, .str, .str, .int .i64, .str, .str, .str, .int .i64, .str, .str, .str, .int .i64, .str, .str, .str, .int .i64, .str, .str, .str, .int .i64, .str, .str, .str, .int .i64, .str, .str, .str, .int .i64, .str, .str, .str]) none) none))) none)) (bt t 92 none (bt t 107 (bt t 99 none (bt t 103 none (bt t 105 (bt t 104 none (some [.int .i64, .str, .str, .str, .int .i64, .str, .str, .str, .int .i64, .str, .str, .str, .int .i64, .str, .str, .str])) (bt t 106 (some [.int .i64, .str, .str, .str, .int .i64, .str, .str, .str, .int .i64, .str, .str, .str, .int .i64, .str, .str, .str, .int .i64, .str, .str, .str, .int .i64, .str, .str, .str, .int .i64, .str, .str, .str, .int .i64, .str, .str, .str, .int .i64, .str, .str, .str, .int .i64, .str, .str, .str, .int .i64, .str, .str, .str, .int .i64, .str, .str, .str]) none)))) (bt t 115 (bt t 111 none (bt t 113 (bt t 112 (some [.int .i64, .int .i64, .int .i64, .int .i64, .int .i64, .int .i64]) none) none)) none)))) (bt t 185 (bt t 154 (bt t 138 (bt t 130 (bt t 126 none (bt t 128 (bt t 127 (some [.int .i64, .str, .str, .str, .int .i64, .str, .str, .str, .int .i64, .str, .str, .str, .int .i64, .str, .str, .str]) none) none)) none) none) none) (bt t 216 (bt t 200 none (bt t 208 (bt t 204 (bt t 202 none (bt t 203 none (some [.int .i64, .int .i64, .int .i64, .int .i64, .int .i64, .int .i64, .int .i64, .int .i64, .int .i64, .int .i64, .int .i64, .int .i64, .int .i64, .int .i64, .int .i64, .int .i64, .int .i64, .int .i64, .int .i64, .int .i64, .int .i64, .int .i64, .int .i64, .int .i64, .int .i64, .int .i64, .int .i64, .int .i64]))) none) none)) (bt t 232 (bt t 224 (bt t 220 (bt t 218 (bt t 217 none (some [.int .i64, .int .i64, .int .i64, .int .i64, .int .i64])) none) (bt t 222 (bt t 221 (some [.int .i32, .int .i32, .int .i32, .int .i32, .int .i32]) none) none)) (bt t 228 (bt t 226 (bt t 225 none (some [.int .i32, .int .i32, .int .i32, .int .i32, .int .i32, .int .i32, .int .i32, .int .i32, .int .i32, .int .i32, .int .i32, .int .i32, .int .i32, .int .i32, .int .i32, .int .i32, .int .i32, .int .i32, .int .i32, .int .i32, .int .i32, .int .i32, .int .i32, .int .i32])) none) (bt t 230 (bt t 229 none (some [.int .u8, .int .u8])) (bt t 231 (some [.int .u8, .int .u8, .int .u8, .int .u8, .int .u8, .int .u8, .int .u8, .int .u8, .int .u8, .int .u8, .int .u8, .int .u8, .int .u8, .int .u8, .int .u8, .int .u8, .int .u8, .int .u8, .int .u8, .int .u8, .int .u8, .int .u8, .int .u8, .int .u8, .int .u8, .int .u8, .int .u8, .int .u8, .int .u8, .int .u8, .int .u8, .int .u8]) none)))) none)))) none
def Zdq (t : TypeId) : Option (Bool × List CK) := bt t 248 (bt t 123 (bt t 61 (bt t 30 (bt t 14 (bt t 6 (bt t 2 none (bt t 4 (bt t 3 (some (false, [.int .i64])) none) none)) none) (bt t 22 none (bt t 26 none (bt t 28 none (bt t 29 none (some (true, [.int .i64, .str, .str, .str, .int .i64, .str, .str, .str, .int .i64, .str, .str, .str, .int .i64, .str, .str, .str]))))))) none) (bt t 92 none (bt t 107 (bt t 99 none (bt t 103 none (bt t 105 (bt t 104 none (some (true, [.int .i64, .str, .str, .str, .int .i64, .str, .str, .str, .int .i64, .str, .str, .str, .int .i64, .str, .str, .str]))) none))) none))) none) none
def basesTableInts : List Int := [192, 214, 216, 246, 248, 767, 880, 893, 895, 8191, 8204, 8205, 8304, 8591, 11264, 12271, 12289, 55295, 63744, 64975, 65008, 65533, 65536, 983039]
def Wc : List (List SV) := basesTableInts.map fun x => [.int .i32 x]
def tab : Tab := { sh := ZeQ, size := ZdW, zero := ZaH, bytes := Zcn, flat := ZaI, key := Zdq, globs := [(1, .rows 1 Wc)] }
theorem Z2 : TabOK Tryz.prog tab := by
 refine Zcl 249 (by kernel_rfl) (fun t ht => ?_)
 have h : Nat.ble t 248 = false := by
   cases e : Nat.ble t 248
   · rfl
   · have := Nat.le_of_ble_eq_true e; omega
 exact ⟨by (simp only [tab, ZeQ]; first | exact Zcm h | rfl), by (simp only [tab, ZaH]; first | exact Zcm h | rfl), by (simp only [tab, ZaI]; first | exact Zcm h | rfl), by (simp only [tab, Zdq]; first | exact Zcm h | rfl)⟩
theorem Z8 : Tryz.prog.follows .mixedOrders = true := by kernel_rfl
end Go.Proofs.YtjbbkimodgffiaaGreatDoor
set_option linter.unusedVariables false
set_option linter.unusedSimpArgs false
set_option maxRecDepth 20000
set_option maxHeartbeats 8000000
namespace Go.Proofs.YtjbbkimodgffiaaGreatDoor
open Go.Sx Go.Our
def Zbk : Plan := (Zj [(0, 1), (2, 1), (5, 1), (7, 1), (10, 1), (12, 1), (15, 1), (17, 1), (1, 2), (3, 2), (6, 2), (8, 2), (11, 2), (13, 2), (16, 2), (18, 2), (4, 3), (9, 3), (14, 3), (19, 3), (20, 3), (21, 3), (22, 1)])
theorem Z9v (a : Int) : Does Tryz.prog tab 112 0 [.int .i64 a] [] [] (Val (.bool false)) := by
 refine Does.enter Z2 (g := 112) (fn := Tryz.f112) Tryz.call112 Tryz.func112 rfl 6 rfl rfl [.tmp 2] rfl ?_
 intro w0 F η0 h0
 conv => whnf
 exact FIN.value h0 rfl (by simp)
theorem Z6b (a b : Int) : Does Tryz.prog tab 85 0 [.int .i64 a, .int .i64 b] [] [] (Val (.int .i64 (cmpI a b))) := by
 refine Does.enter Z2 (g := 85) (fn := Tryz.f85) Tryz.call85 Tryz.func85 rfl 20 rfl rfl [.tmp 4] rfl ?_
 intro w0 F η0 h0
 conv => whnf
 repeat' ((first | refine CALL.value (Z9v _) rfl rfl ?_ | refine AU ?_ | (refine IW (fun h => ?_) (fun h => ?_) <;> try (exfalso; omega))) <;> conv => whnf)
 all_goals
   refine FIN.value h0 rfl (congrArg (SV.int _) ?_)
   unfold cmpI
   (repeat' split) <;> simp_all <;> omega
theorem Z7p (a b : List UInt8) : Does Tryz.prog tab 138 0 [.str a, .str b] [] [] (Val (.int .i64 (cmpL a b))) := by
 refine Does.says fun η w vs hd => ?_
 simp only [DenL, Den] at hd
 obtain ⟨u, us, rfl, rfl, u', us', rfl, rfl, rfl⟩ := hd
 refine ⟨_, ?_, rfl⟩
 rw [run_callFunc_extern Tryz.func138 (by kernel_rfl) (by kernel_rfl) (by kernel_rfl) (e := Extern.BytealgCompare.compare) (by kernel_rfl), Lib.run_compareString]
 rfl
theorem Z3l (a b : List UInt8) : Does Tryz.prog tab 113 0 [.str a, .str b] [] [] (Val (.int .i64 (cmpL a b))) := by
 refine Does.enter Z2 (g := 113) (fn := Tryz.f113) Tryz.call113 Tryz.func113 rfl 8 rfl rfl [.tmp 4] rfl ?_
 intro w0 F η0 h0
 conv => whnf
 repeat' ((first | refine CALL.value (Z7p _ _) rfl rfl ?_ | refine AU ?_ | (refine IW (fun h => ?_) (fun h => ?_) <;> try (exfalso; omega))) <;> conv => whnf)
 exact FIN.value h0 rfl rfl
theorem Ww (a b : List UInt8) : Does Tryz.prog tab 86 0 [.str a, .str b] [] [] (Val (.int .i64 (cmpL a b))) := by
 refine Does.enter Z2 (g := 86) (fn := Tryz.f86) Tryz.call86 Tryz.func86 rfl 8 rfl rfl [.tmp 4] rfl ?_
 intro w0 F η0 h0
 conv => whnf
 repeat' ((first | refine CALL.value (Z3l _ _) rfl rfl ?_ | refine AU ?_ | (refine IW (fun h => ?_) (fun h => ?_) <;> try (exfalso; omega))) <;> conv => whnf)
 exact FIN.value h0 rfl rfl
def Zbl (x : Int) : List SV := [.int .i64 x]
theorem Zbm (xs : List Int) (hn : xs.length ≤ 1152921504606846976) : Does Tryz.prog tab 84 1 [.sl (.loc 0) 0 1 xs.length none] [] [(0, .rows 1 (xs.map Zbl))] (ValK 1 (.int .i64 (orI xs))) := by
 refine Does.enter Z2 (g := 84) (fn := Tryz.f84) Tryz.call84 Tryz.func84 rfl 18 rfl rfl [.tmp 2] rfl ?_
 intro w0 F η0 h0
 conv => whnf
 refine LOOP.go Z2 [3, 6, 7] (X := Nat) (fun i => i ≤ xs.length ∧ orI xs = orI (xs.drop i)) (fun i => [(8, .int .i64 (i : Int))]) (fun i => []) 1 (fun i => xs.length - i) 0 ⟨by omega, rfl⟩ ?_
 conv => whnf
 refine ⟨by exact GOES.cA h0, ?_⟩
 rintro i ⟨hi, ho⟩
 conv => whnf
 repeat' ((first | (refine GET.at (row := Zbl (xs[i]'(by omega))) (by rw [List.getElem?_map, show 0 + (i : Int).toNat = i by omega, List.getElem?_eq_getElem (by omega)]; rfl) ?_; conv => whnf) | refine AU ?_ | (refine IW (fun h => ?_) (fun h => ?_) <;> try (exfalso; omega))) <;> conv => whnf)
 · have hl : i < xs.length := by omega
   refine FIN.valueK h0 rfl (congrArg (SV.int _) ?_)
   rw [ho, List.drop_eq_getElem_cons hl]; simp only [orI]; rw [if_pos h]
 · have hl : i < xs.length := by omega
   refine ⟨i + 1, ⟨by omega, ?_⟩, by omega, ?_⟩
   · rw [ho, List.drop_eq_getElem_cons hl]; simp only [orI]; rw [if_neg (by simpa using h)]
   · conv => whnf
     exact GOES.cA h0
 · refine FIN.valueK h0 rfl (congrArg (SV.int _) ?_)
   rw [ho, List.drop_eq_nil_of_le (by omega)]; rfl
abbrev tmR (x : Tm) : List SV := [.int .i64 x.k, .str x.t, .str x.y, .str x.l]
theorem UZ (a b : Tm) : Does Tryz.prog tab 57 0 [.agg (tmR a), .agg (tmR b)] [] [] (Val (.int .i64 (Ur a b))) := by
 refine Does.enter Z2 (g := 57) (fn := Tryz.f57) Tryz.call57 Tryz.func57 rfl 27 rfl rfl [.tmp 4] rfl ?_
 intro w0 F η0 h0
 conv => whnf
 repeat' ((first | refine DRAWN.of (id := 1) Z2 Z8 Zbk (by kernel_rfl) ?_ | refine ADD.mk (fun _ _ => ?_) | refine AD ?_ | refine FORK.mk ?_ ?_ | refine CALL.value (Z6b a.k b.k) rfl rfl ?_ | refine CALL.value (Ww a.t b.t) rfl rfl ?_ | refine CALL.value (Ww a.y b.y) rfl rfl ?_ | refine CALL.value (Ww a.l b.l) rfl rfl ?_ | (refine CALL.looks [2] (Zbm [cmpI a.k b.k, cmpL a.t b.t, cmpL a.y b.y, cmpL a.l b.l] (by simp)) rfl rfl rfl rfl ⟨⟨rfl, rfl, rfl⟩, trivial⟩ ?_; conv => whnf) | refine AU ?_ | (refine IW (fun h => ?_) (fun h => ?_) <;> try (exfalso; omega))) <;> conv => whnf)
 exact FIN.value h0 rfl (by rw [← Zdt])
theorem Z0x (a b : Qd) : Does Tryz.prog tab 62 0 [.agg a.row, .agg b.row] [] [] (Val (.int .i64 (Zw a b))) := by
 refine Does.enter Z2 (g := 62) (fn := Tryz.f62) Tryz.call62 Tryz.func62 rfl 27 rfl rfl [.tmp 4] rfl ?_
 intro w0 F η0 h0
 conv => whnf
 repeat' ((first | refine DRAWN.of (id := 1) Z2 Z8 Zbk (by kernel_rfl) ?_ | refine ADD.mk (fun _ _ => ?_) | refine AD ?_ | refine FORK.mk ?_ ?_ | refine CALL.value (UZ a.g b.g) rfl rfl ?_ | refine CALL.value (UZ a.s b.s) rfl rfl ?_ | refine CALL.value (UZ a.p b.p) rfl rfl ?_ | refine CALL.value (UZ a.o b.o) rfl rfl ?_ | (refine CALL.looks [2] (Zbm [Ur a.g b.g, Ur a.s b.s, Ur a.p b.p, Ur a.o b.o] (by simp)) rfl rfl rfl rfl ⟨⟨rfl, rfl, rfl⟩, trivial⟩ ?_; conv => whnf) | refine AU ?_ | (refine IW (fun h => ?_) (fun h => ?_) <;> try (exfalso; omega))) <;> conv => whnf)
 exact FIN.value h0 rfl (by rw [← Zdu])
theorem Z9w (a b : List UInt8) : Does Tryz.prog tab 108 0 [.str a, .str b] [] [] (Val (.int .i64 (cmpL a b))) := by
 have hr := triL.rng a b
 have ha := triL.anti a b
 have h1 := Z5R a b
 have h2 := Z5R b a
 have h3 : (a == b) = decide (cmpL a b = 0) := by rw [Bool.eq_iff_iff]; simp [triL.zero]
 refine Does.enter Z2 (g := 108) (fn := Tryz.f108) Tryz.call108 Tryz.func108 rfl 13 rfl rfl [.tmp 4] rfl ?_
 intro w0 F η0 h0
 conv => whnf
 repeat' ((first | refine AU ?_ | (refine IW (fun h => ?_) (fun h => ?_) <;> try (exfalso; omega))) <;> conv => whnf)
 all_goals
   refine FIN.value h0 rfl (congrArg (SV.int _) ?_)
   simp only [h1, h2, h3, decide_eq_true_eq, decide_eq_false_iff_not] at *
   have hz := triL.zero a b
   simp only [← hz] at *
   omega
theorem U5 (a b : Tm) : Does Tryz.prog tab 70 0 [.agg (tmR a), .agg (tmR b)] [] [] (Val (.int .i64 (Ur a b))) := by
 refine Does.enter Z2 (g := 70) (fn := Tryz.f70) Tryz.call70 Tryz.func70 rfl 36 rfl rfl [.tmp 4] rfl ?_
 intro w0 F η0 h0
 conv => whnf
 repeat' ((first | refine CALL.value (Z9w _ _) rfl rfl ?_ | refine AU ?_ | (refine IW (fun h => ?_) (fun h => ?_) <;> try (exfalso; omega))) <;> conv => whnf)
 all_goals
   refine FIN.value h0 rfl (congrArg (SV.int _) ?_)
   rw [← Zdt]
   simp only [orI, cmpI]
   (repeat' split) <;> simp_all <;> omega
theorem Xf (a b : Qd) : Does Tryz.prog tab 42 0 [.agg a.row, .agg b.row] [] [] (Val (.int .i64 (Zw a b))) := by
 refine Does.enter Z2 (g := 42) (fn := Tryz.f42) Tryz.call42 Tryz.func42 rfl 33 rfl rfl [.tmp 4] rfl ?_
 intro w0 F η0 h0
 conv => whnf
 repeat' ((first | refine CALL.value (U5 a.g b.g) rfl rfl ?_ | refine CALL.value (U5 a.s b.s) rfl rfl ?_ | refine CALL.value (U5 a.p b.p) rfl rfl ?_ | refine CALL.value (U5 a.o b.o) rfl rfl ?_ | refine AU ?_ | (refine IW (fun h => ?_) (fun h => ?_) <;> try (exfalso; omega))) <;> conv => whnf)
 all_goals
   refine FIN.value h0 rfl (congrArg (SV.int _) ?_)
   rw [← Zdu]
   simp only [orI]
   (repeat' split) <;> simp_all
end Go.Proofs.YtjbbkimodgffiaaGreatDoor
namespace Go.Proofs.YtjbbkimodgffiaaGreatDoor
open Go.Sx Go.Our
def Zbn : Plan := (Zj [(0, 1), (1, 1), (2, 1), (4, 1), (5, 1), (6, 1), (3, 2), (7, 2), (8, 1)])
def Z6c : Plan := (Zj [(0, 1), (1, 1), (2, 1), (3, 1), (4, 1), (5, 3), (6, 1), (7, 1), (8, 1), (9, 1), (10, 1), (11, 2), (12, 3), (13, 1), (14, 1), (15, 1), (16, 1), (17, 1), (18, 1), (19, 1), (20, 1), (21, 2), (22, 3), (23, 1), (24, 1), (25, 1)])
def Yl : Qd := ⟨⟨-7, [109, 97, 114, 107], [], []⟩, Zy, Zy, Zy⟩
theorem Z2R : Does Tryz.prog tab 35 0 [] [] [] (Val (.agg (Zf Yl))) := by
 refine Does.enter Z2 (g := 35) (fn := Tryz.f35) Tryz.call35 Tryz.func35 rfl 3 rfl rfl [.cell 0 30] rfl ?_
 intro w0 F η0 h0
 conv => whnf
 repeat' ((first | refine AU ?_ | (refine IW (fun h => ?_) (fun h => ?_) <;> try (exfalso; omega))) <;> conv => whnf)
 exact FIN.value h0 rfl rfl
theorem Zee {l c : Int} {b : Nat} (B : Nat) (hb : Nat.ble b B = true) (h0 : 0 ≤ l) (h1 : l ≤ c) (h2 : (B : Int) * c ≤ 281474976710656 ∧ c ≤ 9223372036854775807) : 0 ≤ l ∧ l ≤ c ∧ c ≤ 9223372036854775807 ∧ (b : Int) * c ≤ 281474976710656 :=
 ⟨h0, h1, h2.2, Int.le_trans (Int.mul_le_mul_of_nonneg_right (by have := Nat.le_of_ble_eq_true hb; omega) (by omega)) h2.1⟩
abbrev Wx (l : List Qd) : Prop := l.length * 224 ≤ 140737488351232
theorem Z7q (l z : List Qd) (lim : Option Nat) (hl : Wx l) : Does Tryz.prog tab 10 1 [.sl (.loc 0) 0 16 l.length lim] [] [(0, .rows 16 ((l ++ z).map Zf))]
   (fun r O nx => r = .sl (.loc 1) 0 16 l.length none ∧ O = [(1, .rows 16 ((l ++ [Yl, Yl]).map Zf))] ∧ nx = 2) := by
 refine Does.enter Z2 (g := 10) (fn := Tryz.f10) Tryz.call10 Tryz.func10 rfl 21 rfl rfl [.tmp 2] rfl ?_
 intro w0 F η0 h0
 conv => whnf
 repeat' ((first | refine CALL.value (Z2R) rfl rfl ?_ | (rw [Z5T]; conv => whnf) | (refine NEED.mk (Zee 224 rfl (by omega) (by rw [Z5 (by omega) (by omega)]; omega) (by rw [Z5 (by omega) (by omega)]; omega)) ?_; conv => whnf) | refine AU ?_ | (refine IW (fun h => ?_) (fun h => ?_) <;> try (exfalso; omega))) <;> conv => whnf)
 refine NEED.mk (by rw [Z5 (by omega) (by omega)]; exact ⟨by simp, by omega, by simp; omega⟩) ?_
 conv => whnf
 repeat' ((first | refine CALL.value (Z2R) rfl rfl ?_ | (refine NEED.mk (Jf 224 rfl rfl (by simp) (by simp) (by omega)) ?_; conv => whnf) | refine AU ?_ | (refine IW (fun h => ?_) (fun h => ?_) <;> try (exfalso; omega))) <;> conv => whnf)
 try (refine NEED.mk ⟨by omega, by show _ ≤ ((max ((l.length : Int).toNat + 2) (_ - 0) : Nat) : Int); omega⟩ ?_; conv => whnf)
 refine FIN.aA h0 [3] (.sl (.loc 1) 0 16 l.length none) [(1, .rows 16 ((l ++ [Yl, Yl]).map Zf))] ?_
 exact ⟨rfl, rfl, rfl⟩
theorem Z9x (l : List Qd) (hl : Wx l) : Does Tryz.prog tab 10 1 [.sl (.loc 0) 0 16 l.length none] [] [(0, .rows 16 (l.map Zf))]
   (fun r O nx => r = .sl (.loc 1) 0 16 l.length none ∧ O = [(1, .rows 16 ((l ++ [Yl, Yl]).map Zf))] ∧ nx = 2) := by
 have := Z7q l [] none hl
 rwa [List.append_nil] at this
theorem Z2S (A B : List Qd) (i n j m : Nat) (lA lB : Option Nat) (hA : i + n ≤ A.length) (hB : j + m ≤ B.length) (hn : A.length ≤ 1152921504606846976) (hm : B.length ≤ 1152921504606846976) : Does Tryz.prog tab 21 2 [.sl (.loc 0) i 16 n lA, .sl (.loc 1) j 16 m lB] [] [(0, .rows 16 (A.map Zf)), (1, .rows 16 (B.map Zf))]
   (ValK 2 (.bool (decide ((A.drop i).take n = (B.drop j).take m)))) := by
 refine Does.enter Z2 (g := 21) (fn := Tryz.f21) Tryz.call21 Tryz.func21 rfl 26 rfl rfl [.tmp 4] rfl ?_
 intro w0 F η0 h0
 conv => whnf
 refine IF.mk (fun h => ?_) (fun h => ?_)
 · have h : n ≠ m := by simp at h; omega
   conv => whnf
   refine FIN.valueK h0 rfl (congrArg SV.bool (decide_eq_false fun he => ?_).symm)
   have := congrArg List.length he
   simp at this
   omega
 have h : n = m := by simp at h; omega
 subst h
 conv => whnf
 refine LOOP.go Z2 [0, 1] (X := Nat) (fun c => c ≤ n ∧ ((A.drop i).take n = (B.drop j).take n ↔ (A.drop (i + c)).take (n - c) = (B.drop (j + c)).take (n - c))) (fun c => [(5, .int .i64 (c : Int))]) (fun c => []) 2 (fun c => n - c) 0 ⟨by omega, by simp⟩ ?_
 conv => whnf
 refine ⟨by exact GOES.cA h0, ?_⟩
 rintro c ⟨hc, hs⟩
 conv => whnf
 rcases Nat.lt_or_ge c n with hcn | hcn
 · have ha : i + c < A.length := by omega
   have hb : j + c < B.length := by omega
   have hstep : (A.drop (i + c)).take (n - c) = (B.drop (j + c)).take (n - c) ↔ A[i + c] = B[j + c] ∧ (A.drop (i + (c + 1))).take (n - (c + 1)) = (B.drop (j + (c + 1))).take (n - (c + 1)) := by
     rw [List.drop_eq_getElem_cons ha, List.drop_eq_getElem_cons hb, show n - c = (n - (c + 1)) + 1 by omega]
     simp only [List.take_succ_cons, List.cons.injEq]
     rw [show i + c + 1 = i + (c + 1) by omega, show j + c + 1 = j + (c + 1) by omega]
   repeat' ((first | refine DRAWN.of (id := 6) Z2 Z8 Zbn (by kernel_rfl) ?_ | refine ADD.mk (fun _ _ => ?_) | refine AD ?_ | refine FORK.mk ?_ ?_ | (refine GET.at (row := Zf (A[i + c]'(by omega))) (by rw [show i + (c : Int).toNat = i + c by omega]; exact Z5S (by omega)) ?_; conv => whnf) | (refine GET.at (row := Zf (B[j + c]'(by omega))) (by rw [show j + (c : Int).toNat = j + c by omega]; exact Z5S (by omega)) ?_; conv => whnf) | refine AU ?_ | (refine IW (fun h => ?_) (fun h => ?_) <;> try (exfalso; omega))) <;> conv => whnf)
   · have hne : A[i + c] ≠ B[j + c] := fun he => by rw [he] at h; simp at h
     exact FIN.valueK h0 rfl (congrArg SV.bool (decide_eq_false fun he => hne (hstep.1 (hs.1 he)).1).symm)
   · have heq : A[i + c] = B[j + c] := Qd.ext' (by simp only [Zf, Qd.row, List.cons.injEq, SV.int.injEq, SV.str.injEq, true_and, and_true]; exact h)
     refine ⟨c + 1, ⟨by omega, hs.trans (hstep.trans ⟨fun x => x.2, fun x => ⟨heq, x⟩⟩)⟩, by omega, ?_⟩
     conv => whnf
     exact GOES.cA h0
 · repeat' ((first | refine AU ?_ | (refine IW (fun h => ?_) (fun h => ?_) <;> try (exfalso; omega))) <;> conv => whnf)
   refine FIN.valueK h0 rfl (congrArg SV.bool (decide_eq_true (hs.2 ?_)).symm)
   rw [show n - c = 0 by omega]; rfl
theorem Z9y (l z : List Qd) (lim : Option Nat) (hl : Wx l) (hz : (l ++ z).length ≤ 1152921504606846976) : Does Tryz.prog tab 13 2 [.sl (.loc 1) 0 16 l.length none, .sl (.loc 0) 0 16 l.length lim] [(1, .rows 16 ((l ++ [Yl, Yl]).map Zf))] [(0, .rows 16 ((l ++ z).map Zf))]
   (fun r O nx => r = .bool true ∧ O = [(1, .rows 16 ((l ++ [Yl, Yl]).map Zf))] ∧ nx = 2) := by
 have hA : (l ++ [Yl, Yl]).length ≤ 1152921504606846976 := by simp; omega
 refine Does.enter Z2 (g := 13) (fn := Tryz.f13) Tryz.call13 Tryz.func13 rfl 36 rfl rfl [.tmp 4] rfl ?_
 intro w0 F η0 h0
 conv => whnf
 have hw : (IntKind.i64.wrap ((l.length : Int) + 2)).toNat = l.length + 2 := by rw [Z5 (by omega) (by omega)]; omega
 have hw1 : (IntKind.i64.wrap ((l.length : Int) + 1)).toNat = l.length + 1 := by rw [Z5 (by omega) (by omega)]; omega
 refine NEED.mk ⟨by rw [Z5 (by omega) (by omega)]; omega, by rw [Z5 (by omega) (by omega)]; show _ ≤ ((max l.length (((l ++ [Yl, Yl]).map Zf).length - 0) : Nat) : Int); simp⟩ ?_
 rw [hw]
 conv => whnf
 repeat' ((first | refine DRAWN.of (id := 2) Z2 Z8 Z6c (by kernel_rfl) ?_ | refine ADD.mk (fun _ _ => ?_) | refine AD ?_ | refine FORK.mk ?_ ?_ | (refine NEED.mk ⟨by omega, by show _ ≤ ((l.length + 2 : Nat) : Int); omega⟩ ?_; conv => whnf) | refine AU ?_ | (refine IW (fun h => ?_) (fun h => ?_) <;> try (exfalso; omega))) <;> conv => whnf)
 refine CALL.aA [1, 0] (Z2S (l ++ [Yl, Yl]) (l ++ z) 0 l.length 0 l.length none lim (by simp) (by simp) hA hz) ?_
 rintro r O' nx' ⟨rfl, rfl, rfl⟩
 rw [decide_eq_true (by simp)]
 conv => whnf
 repeat' ((first | refine DRAWN.of (id := 2) Z2 Z8 Z6c (by kernel_rfl) ?_ | refine ADD.mk (fun _ _ => ?_) | refine AD ?_ | refine FORK.mk ?_ ?_ | refine CALL.value (Z2R) rfl rfl ?_ | (refine GET.at (row := Zf Yl) (by rw [List.getElem?_map]; simp [hw1]) ?_; conv => whnf) | refine AU ?_ | (refine IW (fun h => ?_) (fun h => ?_) <;> try (exfalso; omega))) <;> conv => whnf)
 all_goals first
   | (exfalso; simp_all; done)
   | (refine FIN.here h0 (rc := .bool true) (Oc := [(1, .rows 16 ((l ++ [Yl, Yl]).map Zf))]) (congrArg SV.bool (by simp)) rfl (by first | rfl | (simp only [Z7, Z3, Z0 _ (Zc _), Bool.and_self, Bool.and_true] <;> rfl)) ⟨rfl, trivial⟩ ⟨rfl, rfl, rfl⟩)
   | trace_state
theorem Zbo (l : List Qd) (hl : Wx l) : Does Tryz.prog tab 13 2 [.sl (.loc 1) 0 16 l.length none, .sl (.loc 0) 0 16 l.length none] [(1, .rows 16 ((l ++ [Yl, Yl]).map Zf))] [(0, .rows 16 (l.map Zf))]
   (fun r O nx => r = .bool true ∧ O = [(1, .rows 16 ((l ++ [Yl, Yl]).map Zf))] ∧ nx = 2) := by
 have := Z9y l [] none hl (by simp; omega)
 rwa [List.append_nil] at this
def VC : Plan := (Zj [(0, 1), (1, 1), (2, 1), (3, 2), (4, 2), (5, 3), (6, 1), (7, 1), (8, 1), (9, 1), (10, 1)])
def VD : Plan := (Zj [(0, 1), (1, 1), (2, 1), (5, 1), (6, 1), (7, 1), (3, 2), (4, 2), (8, 2), (9, 1), (10, 0)])
def YB : Plan := (Zj [(0, 1), (1, 1), (2, 1), (3, 1), (4, 2), (5, 2), (6, 3), (7, 0), (8, 1), (9, 1), (10, 0)])
def VE : Plan := (Zj [(0, 1), (1, 1), (2, 1), (3, 2), (4, 2), (5, 2), (6, 3), (7, 0), (8, 1), (10, 1), (9, 0), (11, 0)])
abbrev Zf7 (a b : Nat) (w : Wd) : Hp := .box [.sl (.loc a) 0 16 w.all.length none, .sl (.loc b) 0 49 w.why.length none, .mp (.loc 3), .mp (.loc 4)]
abbrev wdO (a b : Nat) (w : Wd) : Hps := [(0, Zf7 a b w), (a, .rows 16 (w.all.map Zf)), (b, .rows 49 (w.why.map YK)), (3, .mp (YQ w.place)), (4, .deep true 2 (atR w.at'))]
theorem Z8C (w : Wd) (s : St) (hok : WdOK w) (hl : w.all.length ≤ 4194304) : Does Tryz.prog tab 38 5 [.ptr (.loc 0) 0 0 0, .agg (YK s)] (wdO 1 2 w) []
   (fun r O nx => r = .tup [] ∧ O = wdO 5 6 (putM w s) ∧ nx = 7) := by
 have hw := hok.len
 have hat : ∀ i, i < 3 → (atL (J6 i s.q) (atN s.q w.at' i)).length ≤ 16777216 := fun i hi => by
   have := Z7n s.q w.at' _ hok.at3 i (J6 i s.q); omega
 refine Does.enter Z2 (g := 38) (fn := Tryz.f38) Tryz.call38 Tryz.func38 rfl 86 rfl rfl [] rfl ?_
 intro w0 F η0 h0
 conv => whnf
 repeat' ((first | refine DRAWN.of (id := 2) Z2 Z8 VC (by kernel_rfl) ?_ | refine DRAWN.of (id := 4) Z2 Z8 VD (by kernel_rfl) ?_ | refine DRAWN.of (id := 5) Z2 Z8 YB (by kernel_rfl) ?_ | refine DRAWN.of (id := 6) Z2 Z8 YB (by kernel_rfl) ?_ | refine DRAWN.of (id := 10) Z2 Z8 VE (by kernel_rfl) ?_ | refine ADD.mk (fun _ _ => ?_) | refine AD ?_ | refine FORK.mk ?_ ?_ | (refine NEED.mk ⟨KQ.ok _, Xc KQ _ _⟩ ?_; conv => whnf) | refine AU ?_ | (refine IW (fun h => ?_) (fun h => ?_) <;> try (exfalso; omega))) <;> conv => whnf)
 refine FIND.mk (fun i v hf => ?_) (fun hf => ?_)
 · obtain ⟨⟨j, x⟩, hj, he⟩ := Option.map_eq_some_iff.1 ((Z0p KQ intV s.q w.place 0).symm.trans hf)
   cases he
   clear hf
   have hm : putM w s = w := Z2N (by rw [V2 hj]; rfl)
   rw [hm]
   conv => whnf
   repeat' ((first | refine DRAWN.of (id := 2) Z2 Z8 VC (by kernel_rfl) ?_ | refine DRAWN.of (id := 4) Z2 Z8 VD (by kernel_rfl) ?_ | refine DRAWN.of (id := 5) Z2 Z8 YB (by kernel_rfl) ?_ | refine DRAWN.of (id := 6) Z2 Z8 YB (by kernel_rfl) ?_ | refine DRAWN.of (id := 10) Z2 Z8 VE (by kernel_rfl) ?_ | refine ADD.mk (fun _ _ => ?_) | refine AD ?_ | refine FORK.mk ?_ ?_ | refine AU ?_ | (refine IW (fun h => ?_) (fun h => ?_) <;> try (exfalso; omega))) <;> conv => whnf)
   refine FIN.aA h0 [1, 2] (.tup []) (wdO 5 6 w) ?_
   exact ⟨rfl, rfl, rfl⟩
 · have hj := Option.map_eq_none_iff.1 ((Z0p KQ intV s.q w.place 0).symm.trans hf)
   clear hf
   have hm := Z3W (UR hj)
   rw [hm]
   have e3 : Hp.mp (setM KQ.ks (KQ.enc s.q) (intV (w.all.length : Int)) (YQ w.place)) = Hp.mp (YQ (setA s.q (w.all.length : Int) w.place)) := congrArg Hp.mp (Z2A KQ intV s.q _ w.place)
   conv => whnf
   repeat' ((first | refine DRAWN.of (id := 2) Z2 Z8 VC (by kernel_rfl) ?_ | refine DRAWN.of (id := 4) Z2 Z8 VD (by kernel_rfl) ?_ | refine DRAWN.of (id := 5) Z2 Z8 YB (by kernel_rfl) ?_ | refine DRAWN.of (id := 6) Z2 Z8 YB (by kernel_rfl) ?_ | refine DRAWN.of (id := 10) Z2 Z8 VE (by kernel_rfl) ?_ | refine ADD.mk (fun _ _ => ?_) | refine AD ?_ | refine FORK.mk ?_ ?_ | (refine NEED.mk ⟨KQ.ok _, Xc KQ _ _⟩ ?_; conv => whnf) | (refine NEED.mk (Jf 1024 rfl rfl (by simp) (by simp) (by omega)) ?_; conv => whnf) | refine AU ?_ | (refine IW (fun h => ?_) (fun h => ?_) <;> try (exfalso; omega))) <;> conv => whnf)
   refine LOOP.gok Z2 [0, 4, 70] [0, 6] (X := Nat) (fun i => i ≤ 3) (fun i => [(71, .int .i64 (i : Int))]) (fun i => [(8, .rows 16 ((w.all ++ [s.q]).map Zf)), (10, .rows 49 ((w.why ++ [s]).map YK)), (3, .mp (YQ (setA s.q (w.all.length : Int) w.place))), (4, .deep true 2 (atR (atN s.q w.at' i)))]) 11 (fun i => 3 - i) 0 (by omega) ?_
   conv => whnf
   refine ⟨by (refine GOES.cutting h0 rfl rfl rfl (by (repeat' (first | (refine ZG rfl ?_ ?_) | exact Zt (Zc _) | exact Zn (Zc _) | exact Zt (Zv _) | exact Zn (Zv _) | exact YR (ZT _) | exact JL (Ut _) | rfl))) ?_ ?_ <;> (repeat' (first | exact e3 | (with_reducible rfl) | exact trivial | (exact Zu rfl (by first | omega | (simp (disch := omega) only [lnB, Z5, Z9] <;> omega) | (simp; done) | (simp <;> omega))) | (exact congrArg (SV.int _) (by first | omega | (simp (disch := omega) only [lnB, Z5, Z9] <;> omega) | (simp; done) | (simp <;> omega))) | (exact X1 (by first | omega | (simp (disch := omega) only [lnB, Z5, Z9] <;> omega) | (simp; done) | (simp <;> omega))) | (exact Jj (by first | omega | (simp (disch := omega) only [lnB, Z5, Z9] <;> omega) | (simp; done) | (simp <;> omega))) | (exact Zk _ (h := .rows _ _) (Zc _)) | (exact Zk _ (h := .rows _ _) (Zv _)) | (exact congrArg (Hp.rows _) (by (simp [List.take_of_length_le, Zf, Qd.row, YK, St.row]))) | ((conv => whnf); refine ⟨?_, ?_⟩) | rfl))), ?_⟩
   intro i hi
   conv => whnf
   by_cases hil : i < 3
   · repeat' ((first | refine DRAWN.of (id := 2) Z2 Z8 VC (by kernel_rfl) ?_ | refine DRAWN.of (id := 4) Z2 Z8 VD (by kernel_rfl) ?_ | refine DRAWN.of (id := 5) Z2 Z8 YB (by kernel_rfl) ?_ | refine DRAWN.of (id := 6) Z2 Z8 YB (by kernel_rfl) ?_ | refine DRAWN.of (id := 10) Z2 Z8 VE (by kernel_rfl) ?_ | refine ADD.mk (fun _ _ => ?_) | refine AD ?_ | refine FORK.mk ?_ ?_ | (refine GET.at (row := (J6 i s.q).row) (by rcases (show i = 0 ∨ i = 1 ∨ i = 2 by omega) with rfl | rfl | rfl <;> rfl) ?_; conv => whnf) | (refine NEED.mk ⟨KQ.ok (J6 i s.q), Z5V KQ _ _ _⟩ ?_; conv => whnf) | refine AU ?_ | (refine IW (fun h => ?_) (fun h => ?_) <;> try (exfalso; omega))) <;> conv => whnf)
     refine FINDD.mk (fun a d hf => ?_) (fun hf => ?_)
     · obtain ⟨⟨j, l⟩, hj2, he⟩ := Option.map_eq_some_iff.1 ((Z2B KQ 16 qdsV (J6 i s.q) (atN s.q w.at' i) 0).symm.trans hf)
       cases he
       clear hf
       have hll : l.length ≤ 16777216 := by have := hat i hil; unfold atL at this; rwa [V2 hj2] at this
       conv => whnf
       repeat' ((first | refine DRAWN.of (id := 2) Z2 Z8 VC (by kernel_rfl) ?_ | refine DRAWN.of (id := 4) Z2 Z8 VD (by kernel_rfl) ?_ | refine DRAWN.of (id := 5) Z2 Z8 YB (by kernel_rfl) ?_ | refine DRAWN.of (id := 6) Z2 Z8 YB (by kernel_rfl) ?_ | refine DRAWN.of (id := 10) Z2 Z8 VE (by kernel_rfl) ?_ | refine ADD.mk (fun _ _ => ?_) | refine AD ?_ | refine FORK.mk ?_ ?_ | (refine NEED.mk (Jf 256 rfl rfl (by simp) (by simp) (by simp; omega)) ?_; conv => whnf) | (refine NEED.mk ⟨by omega, by simp [XI]; exact (List.getElem?_eq_some_iff.1 (Z4E hj2)).1⟩ ?_; conv => whnf) | refine AU ?_ | (refine IW (fun h => ?_) (fun h => ?_) <;> try (exfalso; omega))) <;> conv => whnf)
       refine ⟨i + 1, by omega, by omega, ?_⟩
       conv => whnf
       (refine GOES.cutting h0 rfl rfl rfl (by (repeat' (first | (refine ZG rfl ?_ ?_) | exact Zt (Zc _) | exact Zn (Zc _) | exact Zt (Zv _) | exact Zn (Zv _) | exact YR (ZT _) | exact JL (Ut _) | rfl))) ?_ ?_ <;> (repeat' (first | exact congrArg (Hp.deep true 2) (ZcE hj2 (Nat.zero_add _) (by omega) (by simp [List.take_of_length_le, Zf, Qd.row])) | (with_reducible rfl) | exact trivial | (exact Zu rfl (by first | omega | (simp (disch := omega) only [lnB, Z5, Z9] <;> omega) | (simp; done) | (simp <;> omega))) | (exact congrArg (SV.int _) (by first | omega | (simp (disch := omega) only [lnB, Z5, Z9] <;> omega) | (simp; done) | (simp <;> omega))) | (exact X1 (by first | omega | (simp (disch := omega) only [lnB, Z5, Z9] <;> omega) | (simp; done) | (simp <;> omega))) | (exact Jj (by first | omega | (simp (disch := omega) only [lnB, Z5, Z9] <;> omega) | (simp; done) | (simp <;> omega))) | (exact Zk _ (h := .rows _ _) (Zc _)) | (exact Zk _ (h := .rows _ _) (Zv _)) | (exact congrArg (Hp.rows _) (by rfl)) | ((conv => whnf); refine ⟨?_, ?_⟩) | rfl)))
     · have hj2 := Option.map_eq_none_iff.1 ((Z2B KQ 16 qdsV (J6 i s.q) (atN s.q w.at' i) 0).symm.trans hf)
       clear hf
       conv => whnf
       repeat' ((first | refine DRAWN.of (id := 2) Z2 Z8 VC (by kernel_rfl) ?_ | refine DRAWN.of (id := 4) Z2 Z8 VD (by kernel_rfl) ?_ | refine DRAWN.of (id := 5) Z2 Z8 YB (by kernel_rfl) ?_ | refine DRAWN.of (id := 6) Z2 Z8 YB (by kernel_rfl) ?_ | refine DRAWN.of (id := 10) Z2 Z8 VE (by kernel_rfl) ?_ | refine ADD.mk (fun _ _ => ?_) | refine AD ?_ | refine FORK.mk ?_ ?_ | (refine NEED.mk ⟨rfl, by omega, Nat.le_of_ble_eq_true rfl⟩ ?_; conv => whnf) | refine AU ?_ | (refine IW (fun h => ?_) (fun h => ?_) <;> try (exfalso; omega))) <;> conv => whnf)
       refine ⟨i + 1, by omega, by omega, ?_⟩
       conv => whnf
       (refine GOES.cutting h0 rfl rfl rfl (by (repeat' (first | (refine ZG rfl ?_ ?_) | exact Zt (Zc _) | exact Zn (Zc _) | exact Zt (Zv _) | exact Zn (Zv _) | exact YR (ZT _) | exact JL (Ut _) | rfl))) ?_ ?_ <;> (repeat' (first | exact congrArg (Hp.deep true 2) (Zbg hj2 (by omega) (by simp [List.take_of_length_le, Zf, Qd.row])) | (with_reducible rfl) | exact trivial | (exact Zu rfl (by first | omega | (simp (disch := omega) only [lnB, Z5, Z9] <;> omega) | (simp; done) | (simp <;> omega))) | (exact congrArg (SV.int _) (by first | omega | (simp (disch := omega) only [lnB, Z5, Z9] <;> omega) | (simp; done) | (simp <;> omega))) | (exact X1 (by first | omega | (simp (disch := omega) only [lnB, Z5, Z9] <;> omega) | (simp; done) | (simp <;> omega))) | (exact Jj (by first | omega | (simp (disch := omega) only [lnB, Z5, Z9] <;> omega) | (simp; done) | (simp <;> omega))) | (exact Zk _ (h := .rows _ _) (Zc _)) | (exact Zk _ (h := .rows _ _) (Zv _)) | (exact congrArg (Hp.rows _) (by rfl)) | ((conv => whnf); refine ⟨?_, ?_⟩) | rfl)))
   · have hie : i = 3 := by omega
     subst hie
     repeat' ((first | refine AU ?_ | (refine IW (fun h => ?_) (fun h => ?_) <;> try (exfalso; omega))) <;> conv => whnf)
     refine FIN.aA h0 [8, 10] (.tup []) ([(0, .box [.sl (.loc 5) 0 16 (w.all.length + 1) none, .sl (.loc 6) 0 49 (w.why.length + 1) none, .mp (.loc 3), .mp (.loc 4)]), (5, .rows 16 ((w.all ++ [s.q]).map Zf)), (6, .rows 49 ((w.why ++ [s]).map YK)), (3, .mp (YQ (setA s.q (w.all.length : Int) w.place))), (4, .deep true 2 (atR (atN s.q w.at' 3)))]) ?_
     exact ⟨rfl, by simp [wdO, Zf7], rfl⟩
theorem Z9B (l z : List Qd) (lim : Option Nat) (hl : l.length ≤ 4194304) (hz : (l ++ z).length ≤ 1152921504606846976) : Does Tryz.prog tab 36 1 [.sl (.loc 0) 0 16 l.length lim] [] [(0, .rows 16 ((l ++ z).map Zf))]
   (fun r O nx => r = .ptr (.loc 1) 0 0 0 ∧ O = [(1, .box [.sl (.loc 2) 0 16 (ZR l).all.length none, .sl (.loc 3) 0 49 (ZR l).why.length none, .mp (.loc 4), .mp (.loc 5)]), (2, .rows 16 ((ZR l).all.map Zf)), (3, .rows 49 ((ZR l).why.map YK)), (4, .mp (YQ (ZR l).place)), (5, .deep true 2 (atR (ZR l).at'))] ∧ nx = 6) := by
 have hW := fun i => Z8y (l.take i)
 have hL := fun i => Z68 (l.take i)
 have hstep : ∀ i (h : i < l.length), ZR (l.take (i + 1)) = putM (ZR (l.take i)) (V4 l[i]) := fun i h => by
   rw [List.take_succ_eq_append_getElem h]; unfold ZR; rw [List.foldl_append]; rfl
 refine Does.enter Z2 (g := 36) (fn := Tryz.f36) Tryz.call36 Tryz.func36 rfl 22 rfl rfl [.tmp 2] rfl ?_
 intro w0 F η0 h0
 conv => whnf
 repeat' ((first | refine AU ?_ | (refine IW (fun h => ?_) (fun h => ?_) <;> try (exfalso; omega))) <;> conv => whnf)
 refine GHO.loop (GHO.nilCell 3 0 16 rfl rfl) ?_
 refine GHO.loop (GHO.nilCell 3 1 49 rfl rfl) ?_
 refine GHO.loop (GHO.deep0 2 rfl) ?_
 refine LOOP.gok Z2 [3, 10, 11] [] (X := Nat) (fun i => i ≤ l.length) (fun i => [(12, .int .i64 (i : Int))]) (fun i => [(3, .box [.sl (.loc 4) 0 16 (ZR (l.take i)).all.length none, .sl (.loc 5) 0 49 (ZR (l.take i)).why.length none, .mp (.loc 1), .mp (.loc 2)]), (4, .rows 16 ((ZR (l.take i)).all.map Zf)), (5, .rows 49 ((ZR (l.take i)).why.map YK)), (1, .mp (YQ (ZR (l.take i)).place)), (2, .deep true 2 (atR (ZR (l.take i)).at'))]) 6 (fun i => l.length - i) 0 (by omega) ?_
 conv => whnf
 refine ⟨by (refine GOES.cutting h0 rfl rfl rfl (by (repeat' (first | (refine ZG rfl ?_ ?_) | exact Zt (Zc _) | exact Zn (Zc _) | exact Zt (Zv _) | exact Zn (Zv _) | exact YR (ZT _) | exact JL (Ut _) | rfl))) ?_ ?_ <;> (repeat' (first | (with_reducible rfl) | exact trivial | (exact Zu rfl (by first | omega | (simp (disch := omega) only [lnB, Z5, Z9] <;> omega) | (simp; done) | (simp <;> omega))) | (exact congrArg (SV.int _) (by first | omega | (simp (disch := omega) only [lnB, Z5, Z9] <;> omega) | (simp; done) | (simp <;> omega))) | (exact X1 (by first | omega | (simp (disch := omega) only [lnB, Z5, Z9] <;> omega) | (simp; done) | (simp <;> omega))) | (exact Jj (by first | omega | (simp (disch := omega) only [lnB, Z5, Z9] <;> omega) | (simp; done) | (simp <;> omega))) | (exact Zk _ (h := .rows _ _) (Zc _)) | (exact Zk _ (h := .rows _ _) (Zv _)) | (exact congrArg (Hp.rows _) (by rfl)) | ((conv => whnf); refine ⟨?_, ?_⟩) | rfl))), ?_⟩
 intro i hi
 have hWi := hW i
 have hLi : (ZR (l.take i)).all.length ≤ 4194304 := by have := hL i; rw [List.length_take] at this; omega
 conv => whnf
 by_cases hil : i < l.length
 · have hs := hstep i hil
   have hput := Z8C (ZR (l.take i)) (V4 l[i]) hWi hLi
   rw [← hs] at hput
   clear hW hL hstep hs hWi
   have gi : ((l ++ z).map Zf)[0 + (i : Int).toNat]? = some (Zf l[i]) := by
     rw [show 0 + (i : Int).toNat = i by omega, List.getElem?_map, List.getElem?_append_left hil, List.getElem?_eq_getElem hil]; rfl
   repeat' ((first | (refine GET.at gi ?_; conv => whnf) | refine AU ?_ | (refine IW (fun h => ?_) (fun h => ?_) <;> try (exfalso; omega))) <;> conv => whnf)
   refine CALL.aA [3, 4, 5, 1, 2] (hput) ?_
   rintro r O nx ⟨rfl, rfl, rfl⟩
   conv => whnf
   repeat' ((first | refine AU ?_ | (refine IW (fun h => ?_) (fun h => ?_) <;> try (exfalso; omega))) <;> conv => whnf)
   refine ⟨i + 1, by omega, by omega, ?_⟩
   conv => whnf
   (refine GOES.keeping h0 [1, 2, 3, 7, 8] rfl rfl rfl (by (repeat' (first | (refine ZG rfl ?_ ?_) | exact Zt (Zc _) | exact Zn (Zc _) | exact Zt (Zv _) | exact Zn (Zv _) | exact YR (ZT _) | exact JL (Ut _) | rfl))) ?_ ?_ <;> (repeat' (first | exact (Zk _ (h := .mp _) (ZT _)).trans (Zk _ (h := .mp _) (ZT _)).symm | exact (Zk _ (h := .deep _ _ _) (Ut _)).trans (Zk _ (h := .deep _ _ _) (Ut _)).symm | (with_reducible rfl) | exact trivial | (exact Zu rfl (by first | omega | (simp (disch := omega) only [lnB, Z5, Z9] <;> omega) | (simp; done) | (simp <;> omega))) | (exact congrArg (SV.int _) (by first | omega | (simp (disch := omega) only [lnB, Z5, Z9] <;> omega) | (simp; done) | (simp <;> omega))) | (exact X1 (by first | omega | (simp (disch := omega) only [lnB, Z5, Z9] <;> omega) | (simp; done) | (simp <;> omega))) | (exact Jj (by first | omega | (simp (disch := omega) only [lnB, Z5, Z9] <;> omega) | (simp; done) | (simp <;> omega))) | (exact (Zk _ (h := .rows _ _) (Zc _)).symm) | (exact (Zk _ (h := .rows _ _) (Zc _)).trans (Zk _ (h := .rows _ _) (Zc _)).symm) | (exact Za (Zc _) (by rfl)) | (exact (Zk _ (h := .rows _ _) (Zv _)).symm) | (exact (Zk _ (h := .rows _ _) (Zv _)).trans (Zk _ (h := .rows _ _) (Zv _)).symm) | (exact Za (Zv _) (by rfl)) | ((conv => whnf); refine ⟨?_, ?_⟩) | (simp only [ren, renB]; done) | rfl)))
 · have hie : i = l.length := by omega
   subst hie
   rw [List.take_length] at *
   repeat' ((first | refine AU ?_ | (refine IW (fun h => ?_) (fun h => ?_) <;> try (exfalso; omega))) <;> conv => whnf)
   refine FIN.aA h0 [3, 4, 5, 1, 2] (.ptr (.loc 1) 0 0 0) ([(1, .box [.sl (.loc 2) 0 16 (ZR l).all.length none, .sl (.loc 3) 0 49 (ZR l).why.length none, .mp (.loc 4), .mp (.loc 5)]), (2, .rows 16 ((ZR l).all.map Zf)), (3, .rows 49 ((ZR l).why.map YK)), (4, .mp (YQ (ZR l).place)), (5, .deep true 2 (atR (ZR l).at'))]) ?_
   exact ⟨rfl, rfl, rfl⟩
theorem Zbs (c : Int) (hc : 0 ≤ c ∧ c < 256) : Does Tryz.prog tab 199 0 [.int .u8 c] [] [] (Val (.tup [.int .i64 (Z3k c).1, .int .i32 (Z3k c).2])) := by
 refine Does.enter Z2 (g := 199) (fn := Tryz.f199) Tryz.call199 Tryz.func199 rfl 30 rfl rfl [.tmp 2, .tmp 3] rfl ?_
 intro w0 F η0 h0
 conv => whnf
 repeat' ((first | refine AU ?_ | (refine IW (fun h => ?_) (fun h => ?_) <;> try (exfalso; omega))) <;> conv => whnf)
 all_goals (refine FIN.value h0 rfl ?_; unfold Z3k; (first | (simp (disch := omega) only [↓if_pos, ↓if_neg, ite_self, Z5, Z9, Int.reduceAdd, Int.reduceSub, Int.reduceMul, Int.reduceNeg, ZeT, ZeU, and7]; done) | (simp (disch := omega) only [↓if_pos, ↓if_neg, ite_self, Z5, Z9, Int.reduceAdd, Int.reduceSub, Int.reduceMul, Int.reduceNeg, ZeT, ZeU, and7]; with_reducible rfl)))
theorem Z7s (r : Int) : Does Tryz.prog tab 201 0 [.int .i32 r] [] [] (Val (.bool (U1 r))) := by
 refine Does.enter Z2 (g := 201) (fn := Tryz.f201) Tryz.call201 Tryz.func201 rfl 17 rfl rfl [.tmp 2] rfl ?_
 intro w0 F η0 h0
 conv => whnf
 repeat' ((first | refine AU ?_ | (refine IW (fun h => ?_) (fun h => ?_) <;> try (exfalso; omega))) <;> conv => whnf)
 refine FIN.value h0 rfl (congrArg SV.bool ?_)
 rw [Bool.eq_iff_iff, Ys]
 simp only [Bool.cond_eq_ite, decide_eq_true_eq, Bool.if_false_right, Bool.if_true_left, Bool.and_eq_true, Bool.or_eq_true]
 omega
theorem Z9C (n : Int) (hn : 0 ≤ n ∧ n < 5) : Does Tryz.prog tab 200 0 [.int .i64 n] [] [] (Val (.int .i32 (Z5K n))) := by
 have hn : n = 0 ∨ n = 1 ∨ n = 2 ∨ n = 3 ∨ n = 4 := by omega
 rcases hn with rfl | rfl | rfl | rfl | rfl
 all_goals
   refine Does.enter Z2 (g := 200) (fn := Tryz.f200) Tryz.call200 Tryz.func200 rfl 6 rfl rfl [.tmp 2] rfl ?_
   intro w0 F η0 h0
   conv => whnf
   repeat' ((first | refine AU ?_ | (refine IW (fun h => ?_) (fun h => ?_) <;> try (exfalso; omega))) <;> conv => whnf)
   exact FIN.value h0 rfl rfl
theorem Zef {c : Int} {n r : Int} (hc : 0 ≤ c ∧ c < 256) (h : Z3k c = (n, r)) : Does Tryz.prog tab 199 0 [.int .u8 c] [] [] (Val (.tup [.int .i64 n, .int .i32 r])) := by
 have := Zbs c hc
 rw [h] at this
 exact this
theorem Z2U (s : List UInt8) (i : Int) (hs : Sm s) : Does Tryz.prog tab 177 0 [.str s, .int .i64 i] [] [] (Val (.tup [.int .i32 (Zg s i).1, .int .i64 (Zg s i).2])) := by
 refine Does.enter Z2 (g := 177) (fn := Tryz.f177) Tryz.call177 Tryz.func177 rfl 65 rfl rfl [.tmp 4, .tmp 5] rfl ?_
 intro w0 F η0 h0
 conv => whnf
 repeat' ((first | refine AU ?_ | (refine IW (fun h => ?_) (fun h => ?_) <;> try (exfalso; omega))) <;> conv => whnf)
 · refine FIN.value h0 rfl ?_
   unfold Zg; rw [if_pos h]
 · have e0 := ZJ s i; have e1 := ZJ s (i + 1); have e2 := ZJ s (i + 2); have e3 := ZJ s (i + 3)
   have hl := Z7b (Z4 s i)
   rcases hl with ⟨hb, hl⟩ | ⟨hb, hl⟩ | ⟨hb, hl⟩ | ⟨hb, hl⟩ | ⟨hb, hl⟩
   all_goals
     refine CALL.value (Zef e0 hl) rfl rfl ?_
     conv => whnf
     repeat' ((first | refine CALL.value (Z9C _ (by omega)) rfl rfl ?_ | (refine LOOP.once Z2 ?_; conv => whnf) | refine CALL.value (Z7s _) rfl rfl ?_ | refine AU ?_ | (refine IW (fun h => ?_) (fun h => ?_) <;> try (exfalso; omega))) <;> conv => whnf)
   all_goals
     refine FIN.value h0 rfl ?_
     unfold Zg decB r2 r3 r4
     try simp (disch := omega) only [or6, ZeV, ZdZ, Ze0, Ze1, Ze2, Ys, WT] at *
     (simp (disch := omega) only [↓if_pos, ↓if_neg, ite_self, Z5, Z9, Int.reduceAdd, Int.reduceSub, Int.reduceMul, Int.reduceNeg, or6])
theorem Z3Z (s : List UInt8) (hs : Sm s) : Does Tryz.prog tab 142 0 [.str s] [] [] (Val (.int .i64 (chk s 0))) := by
 refine Does.enter Z2 (g := 142) (fn := Tryz.f142) Tryz.call142 Tryz.func142 rfl 22 rfl rfl [.tmp 2] rfl ?_
 intro w0 F η0 h0
 conv => whnf
 refine LOOP.go Z2 [0] (X := Nat) (fun i => i ≤ s.length ∧ chk s i = chk s 0) (fun i => [(3, .int .i64 (i : Int))]) (fun _ => []) 0 (fun i => s.length - i) 0 ⟨by omega, rfl⟩ ?_
 conv => whnf
 refine ⟨by exact GOES.cA h0, ?_⟩
 rintro i ⟨hi, hc⟩
 conv => whnf
 have hn := Yv s i
 repeat' ((first | refine CALL.value (Z2U s _ hs) rfl rfl ?_ | refine AU ?_ | (refine IW (fun h => ?_) (fun h => ?_) <;> try (exfalso; omega))) <;> conv => whnf)
 · have hz : (Zg s i).2 = 0 := h
   refine FIN.value h0 rfl ?_
   rw [← hc, Z4A (by omega) hz]
 · rename_i h1
   refine ⟨i + (Zg s i).2.toNat, ⟨by omega, ?_⟩, by omega, ?_⟩
   · rw [← hc, ← Z1r (by omega) h]
   · conv => whnf
     exact GOES.cA h0
 · refine FIN.value h0 rfl ?_
   rw [← hc, Z7a (by omega)]
def Z1w : Plan := (Zj [(0, 1), (1, 1), (4, 1), (5, 1), (6, 1), (2, 2), (3, 1), (7, 2), (8, 1), (9, 1)])
def Z1x : Plan := (Zj [(0, 1), (1, 1), (2, 1), (3, 1), (6, 1), (7, 2), (4, 3), (5, 2), (8, 1), (9, 1)])
theorem Xd (r : Int) : Does Tryz.prog tab 213 0 [.int .i64 r] [] [] (Val (.bool (U1 r))) := by
 refine Does.enter Z2 (g := 213) (fn := Tryz.f213) Tryz.call213 Tryz.func213 rfl 17 rfl rfl [.tmp 2] rfl ?_
 intro w0 F η0 h0
 conv => whnf
 repeat' ((first | refine AU ?_ | (refine IW (fun h => ?_) (fun h => ?_) <;> try (exfalso; omega))) <;> conv => whnf)
 refine FIN.value h0 rfl (congrArg SV.bool ?_)
 rw [Bool.eq_iff_iff, Ys]
 simp only [Bool.cond_eq_ite, decide_eq_true_eq, Bool.if_false_right, Bool.if_true_left, Bool.and_eq_true, Bool.or_eq_true]
 omega
theorem XB (r : Int) (hr : 0 ≤ r ∧ r ≤ 1114111) : Does Tryz.prog tab 214 0 [.int .i64 r] [] [] (Z8d 0 (encM r)) := by
 refine Does.enter Z2 (g := 214) (fn := Tryz.f214) Tryz.call214 Tryz.func214 rfl 57 rfl rfl [.tmp 2] rfl ?_
 intro w0 F η0 h0
 conv => whnf
 repeat' ((first | refine AU ?_ | (refine IW (fun h => ?_) (fun h => ?_) <;> try (exfalso; omega))) <;> conv => whnf)
 all_goals
   refine FIN.rows h0 0 1 _ rfl rfl rfl rfl ?_
   unfold encM Go.Our.encI
   simp (disch := omega) only [↓if_pos, ↓if_neg, List.map_cons, List.map_nil, Zdv, Z5, Zfs, Zft]
   refine ⟨rfl, ?_, rfl⟩
   simp (disch := omega) only [List.map_cons, List.map_nil, ← Z7g]
theorem Z7t (a : UInt8) : Does Tryz.prog tab 188 1 [.sl (.loc 0) 0 1 1 none] [] [(0, .rows 1 ([a].map Sx.bytesRow))] (ValK 1 (.int .i64 (Y3 [a]))) := by
 have ha := a.toNat_lt
 refine Does.enter Z2 (g := 188) (fn := Tryz.f188) Tryz.call188 Tryz.func188 rfl 45 rfl rfl [.tmp 2] rfl ?_
 intro w0 F η0 h0
 conv => whnf
 repeat' ((first | refine DRAWN.of (id := 2) Z2 Z8 Z1w (by kernel_rfl) ?_ | refine DRAWN.of (id := 8) Z2 Z8 Z1x (by kernel_rfl) ?_ | refine ADD.mk (fun _ _ => ?_) | refine AD ?_ | refine FORK.mk ?_ ?_ | refine CALL.value (Xd _) rfl rfl ?_ | (refine LOOP.once Z2 ?_; conv => whnf) | (refine CALL.bytes (XB _ (by simp (disch := omega) only [Ys, Z5, Int.sub_zero] at *; omega)) rfl ?_; conv => whnf) | (refine NEED.mk (U0 (by simp)) ?_; conv => whnf) | refine AU ?_ | (refine IW (fun h => ?_) (fun h => ?_) <;> try (exfalso; omega))) <;> conv => whnf)
 all_goals
   refine FIN.valueK h0 rfl (congrArg (SV.int _) ?_)
   simp (disch := omega) only [Z5, Int.sub_zero, List.drop_zero, ← List.map_take, ZaO, List.take_length, List.take_succ_cons, List.take_zero, U1, decide_eq_true_eq, decide_eq_false_iff_not] at *
   simp_all [Y3, rawM, bn]
theorem Z7u (a b : UInt8) : Does Tryz.prog tab 188 1 [.sl (.loc 0) 0 1 2 none] [] [(0, .rows 1 ([a, b].map Sx.bytesRow))] (ValK 1 (.int .i64 (Y3 [a, b]))) := by
 have ha := a.toNat_lt; have hb := b.toNat_lt
 refine Does.enter Z2 (g := 188) (fn := Tryz.f188) Tryz.call188 Tryz.func188 rfl 45 rfl rfl [.tmp 2] rfl ?_
 intro w0 F η0 h0
 conv => whnf
 repeat' ((first | refine DRAWN.of (id := 2) Z2 Z8 Z1w (by kernel_rfl) ?_ | refine DRAWN.of (id := 8) Z2 Z8 Z1x (by kernel_rfl) ?_ | refine ADD.mk (fun _ _ => ?_) | refine AD ?_ | refine FORK.mk ?_ ?_ | refine CALL.value (Xd _) rfl rfl ?_ | (refine LOOP.once Z2 ?_; conv => whnf) | (refine CALL.bytes (XB _ (by simp (disch := omega) only [Ys, Z5, Int.sub_zero] at *; omega)) rfl ?_; conv => whnf) | (refine NEED.mk (U0 (by simp)) ?_; conv => whnf) | refine AU ?_ | (refine IW (fun h => ?_) (fun h => ?_) <;> try (exfalso; omega))) <;> conv => whnf)
 all_goals
   refine FIN.valueK h0 rfl (congrArg (SV.int _) ?_)
   simp (disch := omega) only [Z5, Int.sub_zero, List.drop_zero, ← List.map_take, ZaO, List.take_length, List.take_succ_cons, List.take_zero, U1, decide_eq_true_eq, decide_eq_false_iff_not] at *
   simp_all [Y3, rawM, bn]
theorem Z7v (a b c : UInt8) : Does Tryz.prog tab 188 1 [.sl (.loc 0) 0 1 3 none] [] [(0, .rows 1 ([a, b, c].map Sx.bytesRow))] (ValK 1 (.int .i64 (Y3 [a, b, c]))) := by
 have ha := a.toNat_lt; have hb := b.toNat_lt; have hc := c.toNat_lt
 refine Does.enter Z2 (g := 188) (fn := Tryz.f188) Tryz.call188 Tryz.func188 rfl 45 rfl rfl [.tmp 2] rfl ?_
 intro w0 F η0 h0
 conv => whnf
 repeat' ((first | refine DRAWN.of (id := 2) Z2 Z8 Z1w (by kernel_rfl) ?_ | refine DRAWN.of (id := 8) Z2 Z8 Z1x (by kernel_rfl) ?_ | refine ADD.mk (fun _ _ => ?_) | refine AD ?_ | refine FORK.mk ?_ ?_ | refine CALL.value (Xd _) rfl rfl ?_ | (refine LOOP.once Z2 ?_; conv => whnf) | (refine CALL.bytes (XB _ (by simp (disch := omega) only [Ys, Z5, Int.sub_zero] at *; omega)) rfl ?_; conv => whnf) | (refine NEED.mk (U0 (by simp)) ?_; conv => whnf) | refine AU ?_ | (refine IW (fun h => ?_) (fun h => ?_) <;> try (exfalso; omega))) <;> conv => whnf)
 all_goals
   refine FIN.valueK h0 rfl (congrArg (SV.int _) ?_)
   simp (disch := omega) only [Z5, Int.sub_zero, List.drop_zero, ← List.map_take, ZaO, List.take_length, List.take_succ_cons, List.take_zero, U1, decide_eq_true_eq, decide_eq_false_iff_not] at *
   simp_all [Y3, rawM, bn]
theorem Z7w (a b c d : UInt8) : Does Tryz.prog tab 188 1 [.sl (.loc 0) 0 1 4 none] [] [(0, .rows 1 ([a, b, c, d].map Sx.bytesRow))] (ValK 1 (.int .i64 (Y3 [a, b, c, d]))) := by
 have ha := a.toNat_lt; have hb := b.toNat_lt; have hc := c.toNat_lt; have hd := d.toNat_lt
 refine Does.enter Z2 (g := 188) (fn := Tryz.f188) Tryz.call188 Tryz.func188 rfl 45 rfl rfl [.tmp 2] rfl ?_
 intro w0 F η0 h0
 conv => whnf
 repeat' ((first | refine DRAWN.of (id := 2) Z2 Z8 Z1w (by kernel_rfl) ?_ | refine DRAWN.of (id := 8) Z2 Z8 Z1x (by kernel_rfl) ?_ | refine ADD.mk (fun _ _ => ?_) | refine AD ?_ | refine FORK.mk ?_ ?_ | refine CALL.value (Xd _) rfl rfl ?_ | (refine LOOP.once Z2 ?_; conv => whnf) | (refine CALL.bytes (XB _ (by simp (disch := omega) only [Ys, Z5, Int.sub_zero] at *; omega)) rfl ?_; conv => whnf) | (refine NEED.mk (U0 (by simp)) ?_; conv => whnf) | refine AU ?_ | (refine IW (fun h => ?_) (fun h => ?_) <;> try (exfalso; omega))) <;> conv => whnf)
 all_goals
   refine FIN.valueK h0 rfl (congrArg (SV.int _) ?_)
   simp (disch := omega) only [Z5, Int.sub_zero, List.drop_zero, ← List.map_take, ZaO, List.take_length, List.take_succ_cons, List.take_zero, U1, decide_eq_true_eq, decide_eq_false_iff_not] at *
   simp_all [Y3, rawM, bn]
theorem Z9D (l : List UInt8) (hl : 1 ≤ l.length ∧ l.length ≤ 4) : Does Tryz.prog tab 188 1 [.sl (.loc 0) 0 1 l.length none] [] [(0, .rows 1 (l.map Sx.bytesRow))] (ValK 1 (.int .i64 (Y3 l))) := by
 match l, hl with
 | [a], _ => exact Z7t a
 | [a, b], _ => exact Z7u a b
 | [a, b, c], _ => exact Z7v a b c
 | [a, b, c, d], _ => exact Z7w a b c d
 | [], h => simp at h
 | _ :: _ :: _ :: _ :: _ :: _, h => simp at h
theorem Wf (s : List UInt8) (i : Int) (hs : Sm s) : Does Tryz.prog tab 156 0 [.str s, .int .i64 i] [] [] (Val (.tup [.int .i64 (Zg s i).1, .int .i64 (Zg s i).2])) := by
 refine Does.enter Z2 (g := 156) (fn := Tryz.f156) Tryz.call156 Tryz.func156 rfl 40 rfl rfl [.tmp 4, .tmp 5] rfl ?_
 intro w0 F η0 h0
 conv => whnf
 repeat' ((first | (refine LOOP.once Z2 ?_; conv => whnf) | (refine CALL.look1 _ (Z9D _ (by simp (disch := omega) only [Z5, List.length_take, List.length_drop]; omega)) rfl rfl rfl rfl (ZD _) rfl ?_; conv => whnf) | refine AU ?_ | (refine IW (fun h => ?_) (fun h => ?_) <;> try (exfalso; omega))) <;> conv => whnf)
 all_goals
   refine FIN.value h0 rfl ?_
   first
     | (unfold Zg; rw [if_pos (by assumption)])
     | (rw [Z5W (by omega)]; simp (disch := omega) only [↓if_pos, ↓if_neg, Z5, Int.reduceAdd])
theorem Uv (s : List UInt8) (hs : Sm s) : Does Tryz.prog tab 126 0 [.str s] [] [] (Val (.int .i64 (chk s 0))) := by
 refine Does.enter Z2 (g := 126) (fn := Tryz.f126) Tryz.call126 Tryz.func126 rfl 22 rfl rfl [.tmp 2] rfl ?_
 intro w0 F η0 h0
 conv => whnf
 refine LOOP.go Z2 [0] (X := Nat) (fun i => i ≤ s.length ∧ chk s i = chk s 0) (fun i => [(3, .int .i64 (i : Int))]) (fun _ => []) 0 (fun i => s.length - i) 0 ⟨by omega, rfl⟩ ?_
 conv => whnf
 refine ⟨by exact GOES.cA h0, ?_⟩
 rintro i ⟨hi, hc⟩
 conv => whnf
 have hn := Yv s i
 repeat' ((first | refine CALL.value (Wf s _ hs) rfl rfl ?_ | refine AU ?_ | (refine IW (fun h => ?_) (fun h => ?_) <;> try (exfalso; omega))) <;> conv => whnf)
 · have hz : (Zg s i).2 = 0 := h
   refine FIN.value h0 rfl ?_
   rw [← hc, Z4A (by omega) hz]
 · rename_i h1
   refine ⟨i + (Zg s i).2.toNat, ⟨by omega, ?_⟩, by omega, ?_⟩
   · rw [← hc, ← Z1r (by omega) h]
   · conv => whnf
     exact GOES.cA h0
 · refine FIN.value h0 rfl ?_
   rw [← hc, Z7a (by omega)]
theorem Jl (s : List UInt8) (c : Int) : Does Tryz.prog tab 233 0 [.str s, .int .u8 c] [] [] (Val (.int .i64 (Lib.indexByte s c.toNat.toUInt8))) := by
 refine Does.says fun η w vs hd => ?_
 simp only [DenL, Den] at hd
 obtain ⟨u, us, rfl, rfl, u', us', rfl, rfl, rfl⟩ := hd
 refine ⟨_, ?_, rfl⟩
 rw [run_callFunc_extern Tryz.func233 (by kernel_rfl) (by kernel_rfl) (by kernel_rfl) (e := Extern.BytealgIndexByte.indexByte) (by kernel_rfl), Lib.run_indexByteString]
 rfl
theorem Ue (s : List UInt8) (c : Int) : Does Tryz.prog tab 230 0 [.str s, .int .u8 c] [] [] (Val (.int .i64 (Lib.indexByte s c.toNat.toUInt8))) := by
 refine Does.enter Z2 (g := 230) (fn := Tryz.f230) Tryz.call230 Tryz.func230 rfl 8 rfl rfl [.tmp 4] rfl ?_
 intro w0 F η0 h0
 conv => whnf
 repeat' ((first | refine CALL.value (Jl _ _) rfl rfl ?_ | refine AU ?_ | (refine IW (fun h => ?_) (fun h => ?_) <;> try (exfalso; omega))) <;> conv => whnf)
 exact FIN.value h0 rfl rfl
theorem Vj (s : List UInt8) (c : Int) : Does Tryz.prog tab 222 0 [.str s, .int .u8 c] [] [] (Val (.int .i64 (Lib.indexByte s c.toNat.toUInt8))) := by
 refine Does.enter Z2 (g := 222) (fn := Tryz.f222) Tryz.call222 Tryz.func222 rfl 8 rfl rfl [.tmp 4] rfl ?_
 intro w0 F η0 h0
 conv => whnf
 repeat' ((first | refine CALL.value (Ue _ _) rfl rfl ?_ | refine AU ?_ | (refine IW (fun h => ?_) (fun h => ?_) <;> try (exfalso; omega))) <;> conv => whnf)
 exact FIN.value h0 rfl rfl
theorem Z3m (r : Int) : Does Tryz.prog tab 223 0 [.int .i32 r] [] [] (Val (.bool (U1 r))) := by
 refine Does.enter Z2 (g := 223) (fn := Tryz.f223) Tryz.call223 Tryz.func223 rfl 17 rfl rfl [.tmp 2] rfl ?_
 intro w0 F η0 h0
 conv => whnf
 repeat' ((first | refine AU ?_ | (refine IW (fun h => ?_) (fun h => ?_) <;> try (exfalso; omega))) <;> conv => whnf)
 all_goals
   refine FIN.value h0 rfl (congrArg SV.bool ?_)
   rw [Bool.eq_iff_iff, Ys]
   simp
   try omega
theorem Z6g (g : Nat) (p : Int → Bool) (hp : ∀ r : Int, Yb r → Does Tryz.prog tab g 0 [.int .i32 r] [] [] (Val (.bool (p r)))) (s : List UInt8) (hs : Sm s) : Does Tryz.prog tab 194 0 [.str s, .fn (.func g) [] [], .bool true] [] [] (Val (.int .i64 (idxF p s 0))) := by
 refine Does.enter Z2 (g := 194) (fn := Tryz.f194) Tryz.call194 Tryz.func194 rfl 21 rfl rfl [.tmp 6] rfl ?_
 intro w0 F η0 h0
 conv => whnf
 refine LOOP.go Z2 [1, 2, 10] (X := Nat) (fun i => i ≤ s.length ∧ idxF p s i = idxF p s 0) (fun i => []) (fun i => [(0, .siter s i)]) 1 (fun i => s.length - i) 0 ⟨by omega, rfl⟩ ?_
 conv => whnf
 refine ⟨by exact GOES.cA h0, ?_⟩
 rintro i ⟨hi, hc⟩
 conv => whnf
 refine ⟨fun h => ?_, fun h => ?_⟩
 · have h : i < s.length := by simpa using h
   have hf := Z2D s i h
   have hd := Z1t s i
   conv => whnf
   repeat' ((first | refine CALL.value (hp _ (Z7h s i)) rfl rfl ?_ | refine AU ?_ | (refine IW (fun h => ?_) (fun h => ?_) <;> try (exfalso; omega))) <;> conv => whnf)
   · refine FIN.value h0 rfl ?_
     rw [← hc, Zba (by omega) (by simpa using h)]
   · refine ⟨i + (deco s i).2, ⟨by omega, ?_⟩, by omega, ?_⟩
     · rw [← hc, ← Z2F (by omega) (by simpa using h)]
     · conv => whnf
       exact GOES.cA h0
 · have h : s.length ≤ i := by simpa using h
   conv => whnf
   repeat' ((first | refine AU ?_ | (refine IW (fun h => ?_) (fun h => ?_) <;> try (exfalso; omega))) <;> conv => whnf)
   refine FIN.value h0 rfl ?_
   rw [← hc, Z8p h]
theorem Z3n (g : Nat) (p : Int → Bool) (hp : ∀ r : Int, Yb r → Does Tryz.prog tab g 0 [.int .i32 r] [] [] (Val (.bool (p r)))) (s : List UInt8) (hs : Sm s) : Does Tryz.prog tab 173 0 [.str s, .fn (.func g) [] []] [] [] (Val (.int .i64 (idxF p s 0))) := by
 refine Does.enter Z2 (g := 173) (fn := Tryz.f173) Tryz.call173 Tryz.func173 rfl 8 rfl rfl [.tmp 4] rfl ?_
 intro w0 F η0 h0
 conv => whnf
 repeat' ((first | refine CALL.value (Z6g g p hp s hs) rfl rfl ?_ | refine AU ?_ | (refine IW (fun h => ?_) (fun h => ?_) <;> try (exfalso; omega))) <;> conv => whnf)
 exact FIN.value h0 rfl rfl
theorem Z1f (c : Int) : Does Tryz.prog tab 153 0 [.int .u8 c] [] [] (Val (.bool (Vg c))) := by
 refine Does.enter Z2 (g := 153) (fn := Tryz.f153) Tryz.call153 Tryz.func153 rfl 16 rfl rfl [.tmp 2] rfl ?_
 intro w0 F η0 h0
 conv => whnf
 repeat' ((first | refine AU ?_ | (refine IW (fun h => ?_) (fun h => ?_) <;> try (exfalso; omega))) <;> conv => whnf)
 all_goals
   refine FIN.value h0 rfl (congrArg SV.bool ?_)
   rw [Bool.eq_iff_iff, Z11]
   unfold Our.Barred
   simp
   try omega
theorem Z1g (c : Int) : Does Tryz.prog tab 154 0 [.int .u8 c] [] [] (Val (.bool (decide (Xx c)))) := by
 refine Does.enter Z2 (g := 154) (fn := Tryz.f154) Tryz.call154 Tryz.func154 rfl 17 rfl rfl [.tmp 2] rfl ?_
 intro w0 F η0 h0
 conv => whnf
 repeat' ((first | refine AU ?_ | (refine IW (fun h => ?_) (fun h => ?_) <;> try (exfalso; omega))) <;> conv => whnf)
 refine FIN.value h0 rfl (congrArg SV.bool ?_)
 rw [Bool.eq_iff_iff]
 simp only [Bool.cond_eq_ite, decide_eq_true_eq, Bool.if_false_right, Bool.if_true_left, Bool.and_eq_true, Bool.or_eq_true]
 rfl
theorem Z2V (c : Int) : Does Tryz.prog tab 155 0 [.int .u8 c] [] [] (Val (.bool (decide (48 ≤ c ∧ c ≤ 57)))) := by
 refine Does.enter Z2 (g := 155) (fn := Tryz.f155) Tryz.call155 Tryz.func155 rfl 9 rfl rfl [.tmp 2] rfl ?_
 intro w0 F η0 h0
 conv => whnf
 repeat' ((first | refine AU ?_ | (refine IW (fun h => ?_) (fun h => ?_) <;> try (exfalso; omega))) <;> conv => whnf)
 refine FIN.value h0 rfl (congrArg SV.bool ?_)
 rw [Bool.eq_iff_iff]
 simp only [Bool.cond_eq_ite, decide_eq_true_eq, Bool.if_false_right, Bool.if_true_left, Bool.and_eq_true, Bool.or_eq_true]
theorem Wy (s : List UInt8) (hs : Sm s) : Does Tryz.prog tab 120 0 [.str s] [] [] (Val (.int .i64 (refM s))) := by
 refine Does.enter Z2 (g := 120) (fn := Tryz.f120) Tryz.call120 Tryz.func120 rfl 20 rfl rfl [.tmp 2] rfl ?_
 intro w0 F η0 h0
 conv => whnf
 repeat' ((first | refine CALL.value (Uv s hs) rfl rfl ?_ | refine AU ?_ | (refine IW (fun h => ?_) (fun h => ?_) <;> try (exfalso; omega))) <;> conv => whnf)
 · refine FIN.value h0 rfl ?_
   unfold refM; rw [if_pos (by omega)]
 · refine FIN.value h0 rfl ?_
   unfold refM; rw [if_neg (by omega), if_pos (by omega)]
 refine LOOP.go Z2 [0] (X := Nat) (fun i => i ≤ s.length ∧ anyB Vg s i = anyB Vg s 0) (fun i => [(3, .int .i64 (i : Int))]) (fun i => []) 0 (fun i => s.length - i) 0 ⟨by omega, rfl⟩ ?_
 conv => whnf
 refine ⟨by exact GOES.cA h0, ?_⟩
 rintro i ⟨hi, hc⟩
 conv => whnf
 repeat' ((first | refine CALL.value (Z1f _) rfl rfl ?_ | refine AU ?_ | (refine IW (fun h => ?_) (fun h => ?_) <;> try (exfalso; omega))) <;> conv => whnf)
 · refine FIN.value h0 rfl ?_
   unfold refM; rw [if_neg (by omega), if_neg (by omega), ← hc, Z2G (by omega), h]; rfl
 · refine ⟨i + 1, ⟨by omega, ?_⟩, by omega, ?_⟩
   · rw [← hc, Z2G (i := i) (by omega), h, Bool.false_or]
   · conv => whnf
     exact GOES.cA h0
 · refine FIN.value h0 rfl ?_
   unfold refM; rw [if_neg (by omega), if_neg (by omega), ← hc, Z4G (by omega)]; rfl
theorem Z1h (s : List UInt8) (hs : Sm s) : Does Tryz.prog tab 121 0 [.str s] [] [] (Val (.int .i64 (schM s 0))) := by
 refine Does.enter Z2 (g := 121) (fn := Tryz.f121) Tryz.call121 Tryz.func121 rfl 41 rfl rfl [.tmp 2] rfl ?_
 intro w0 F η0 h0
 conv => whnf
 refine LOOP.go Z2 [0] (X := Nat) (fun i => i ≤ s.length ∧ schM s i = schM s 0) (fun i => [(3, .int .i64 (i : Int))]) (fun i => []) 0 (fun i => s.length - i) 0 ⟨by omega, rfl⟩ ?_
 conv => whnf
 refine ⟨by exact GOES.cA h0, ?_⟩
 rintro i ⟨hi, hc⟩
 conv => whnf
 repeat' ((first | refine CALL.value (Z1g _) rfl rfl ?_ | refine CALL.value (Z2V _) rfl rfl ?_ | refine AU ?_ | (refine IW (fun h => ?_) (fun h => ?_) <;> try (exfalso; omega))) <;> conv => whnf)
 all_goals first
   | (refine FIN.value h0 rfl ?_; rw [← hc]; first | rw [UW (by omega) (by assumption)] | (rw [Z2I (by omega) (by assumption) (by unfold SchI; rintro (h | h) <;> first | contradiction | omega)]) | rw [Z1u (by omega)])
   | (refine ⟨i + 1, ⟨by omega, ?_⟩, by omega, ?_⟩
      · rw [← hc, ← Z2H (by omega) (by assumption) (by first | (left; assumption) | (right; unfold SchI; omega))]
      · conv => whnf
        exact GOES.cA h0)
def Zeg : Plan := (Zj [(0, 1), (1, 1), (2, 1), (3, 1), (4, 1), (5, 1), (6, 1)])
def Zeh : Plan := (Zj [(0, 1), (1, 1), (2, 1), (3, 1), (4, 1), (5, 1), (6, 1), (7, 3), (8, 1)])
def Zbt : Plan := (Zj [(0, 1), (1, 1), (2, 1), (3, 1), (4, 1), (5, 1), (6, 1), (7, 1), (8, 1), (9, 1), (10, 1)])
theorem Uw (s : List UInt8) (hs : Sm s) : Does Tryz.prog tab 105 0 [.str s] [] [] (Val (.int .i64 (iriM s))) := by
 refine Does.enter Z2 (g := 105) (fn := Tryz.f105) Tryz.call105 Tryz.func105 rfl 14 rfl rfl [.tmp 2] rfl ?_
 intro w0 F η0 h0
 conv => whnf
 repeat' ((first | refine CALL.value (Wy s hs) rfl rfl ?_ | refine CALL.value (Z1h s hs) rfl rfl ?_ | refine AU ?_ | (refine IW (fun h => ?_) (fun h => ?_) <;> try (exfalso; omega))) <;> conv => whnf)
 all_goals
   refine FIN.value h0 rfl (congrArg (SV.int _) ?_)
   unfold iriM
   simp_all
def Z2W (r : Int) : Int := if 0 ≤ r ∧ r < 128 then Lib.indexByte bars (IntKind.u8.wrap r).toNat.toUInt8 else -1
theorem Z3o (r : Int) (hr : Yb r) : Does Tryz.prog tab 215 0 [.str bars, .int .i32 r] [] [] (Val (.int .i64 (Z2W r))) := by
 have hlen : bars.length = 9 := rfl
 refine Does.enter Z2 (g := 215) (fn := Tryz.f215) Tryz.call215 Tryz.func215 rfl 187 rfl rfl [.tmp 4] rfl ?_
 intro w0 F η0 h0
 conv => whnf
 repeat' ((first | refine CALL.value (Vj _ _) rfl rfl ?_ | refine CALL.value (Z3m _) rfl rfl ?_ | refine AU ?_ | (refine IW (fun h => ?_) (fun h => ?_) <;> try (exfalso; omega))) <;> conv => whnf)
 · refine FIN.value h0 rfl ?_
   unfold Z2W; rw [if_pos h]
 · subst h
   refine LOOP.go Z2 [175] (X := Nat) (fun i => i ≤ 9) (fun i => []) (fun i => [(0, .siter bars i)]) 1 (fun i => 9 - i) 0 (by omega) ?_
   conv => whnf
   refine ⟨by exact GOES.cA h0, ?_⟩
   intro i hi
   conv => whnf
   refine ⟨fun h => ?_, fun h => ?_⟩
   · have h : i < bars.length := by simpa using h
     have hd := UV (Z4H i)
     have hb := ZJ bars i
     conv => whnf
     refine IF.tt ?_
     conv => whnf
     refine IF.no (by rw [show Utf8.decode ⟨bars.toArray⟩ i = _ from hd]; have := Z4H i; simp; omega) ?_
     conv => whnf
     refine ⟨i + (deco bars i).2, by rw [hd]; show i + 1 ≤ 9; omega, by rw [hd]; show 9 - (i + 1) < 9 - i; omega, ?_⟩
     conv => whnf
     exact GOES.cA h0
   · conv => whnf
     refine IF.ff ?_
     conv => whnf
     refine FIN.value h0 rfl ?_
     unfold Z2W; rw [if_neg (by omega)]
 · rw [WT] at h
   exact (h hr).elim
 · have hl := Zcw (r := r) (by unfold Yb at hr; omega)
   have hh := Zb9 hr (by unfold Yb at hr; omega)
   have he := Zb8 hr
   rw [he]
   have hm := Z9o (s := encM r) (i := ((encM r).length : Int) - 1) (by omega)
   have hm2 : 128 ≤ Z4 (encM r) (((encM r).length : Int) - 1) := by
     obtain ⟨c, hc, e⟩ := hm
     rw [e]; exact hh c hc
   have hm3 := ZJ (encM r) (((encM r).length : Int) - 1)
   have hm4 := Z4H (((encM r).length : Int) - 1)
   refine LOOP.once Z2 ?_
   conv => whnf
   repeat' ((first | refine DRAWN.of (id := 6) Z2 Z8 Zeg (by kernel_rfl) ?_ | refine DRAWN.of (id := 7) Z2 Z8 Zeh (by kernel_rfl) ?_ | refine DRAWN.of (id := 14) Z2 Z8 Zbt (by kernel_rfl) ?_ | refine DRAWN.of (id := 31) Z2 Z8 Zbt (by kernel_rfl) ?_ | refine ADD.mk (fun _ _ => ?_) | refine AD ?_ | refine FORK.mk ?_ ?_ | refine CALL.value (Vj _ _) rfl rfl ?_ | refine AU ?_ | (refine IW (fun h => ?_) (fun h => ?_) <;> try (exfalso; omega))) <;> conv => whnf)
   · refine FIN.value h0 rfl ?_
     unfold Z2W; rw [if_neg (by unfold Yb at hr; omega)]
   · have := Zcz (l := List.drop (((encM r).length : Int) - 1 + 1).toNat bars) (c := Z4 (encM r) (((encM r).length : Int) - 1)) (by omega) (fun b hb => Zcy b (List.mem_of_mem_drop hb))
     rw [this] at h
     omega
theorem Z0y (r : Int) (hr : Yb r) : Does Tryz.prog tab 195 0 [.str bars, .int .i32 r] [] [] (Val (.bool (decide (0 ≤ Z2W r)))) := by
 refine Does.enter Z2 (g := 195) (fn := Tryz.f195) Tryz.call195 Tryz.func195 rfl 9 rfl rfl [.tmp 4] rfl ?_
 intro w0 F η0 h0
 conv => whnf
 repeat' ((first | refine CALL.value (Z3o r hr) rfl rfl ?_ | refine AU ?_ | (refine IW (fun h => ?_) (fun h => ?_) <;> try (exfalso; omega))) <;> conv => whnf)
 exact FIN.value h0 rfl rfl
theorem Zei {r : Int} (hr : Yb r) : (r ≤ 32 ∨ 0 ≤ Z2W r) ↔ Our.Barred r := by
 unfold Yb at hr
 unfold Z2W
 by_cases h : 0 ≤ r ∧ r < 128
 · rw [if_pos h]
   have : ∀ n : Nat, n < 128 → (((n : Int) ≤ 32 ∨ 0 ≤ Lib.indexByte bars (IntKind.u8.wrap (n : Int)).toNat.toUInt8) ↔ Our.Barred (n : Int)) := by decide +kernel
   have := this r.toNat (by omega)
   rwa [show ((r.toNat : Nat) : Int) = r by omega] at this
 · rw [if_neg h]
   unfold Our.Barred
   omega
theorem Z7x (r : Int) (hr : Yb r) : Does Tryz.prog tab 174 0 [.int .i32 r] [] [] (Val (.bool (Vg r))) := by
 refine Does.enter Z2 (g := 174) (fn := Tryz.f174) Tryz.call174 Tryz.func174 rfl 9 rfl rfl [.tmp 2] rfl ?_
 intro w0 F η0 h0
 conv => whnf
 repeat' ((first | refine CALL.value (Z0y r hr) rfl rfl ?_ | refine AU ?_ | (refine IW (fun h => ?_) (fun h => ?_) <;> try (exfalso; omega))) <;> conv => whnf)
 all_goals
   refine FIN.value h0 rfl (congrArg SV.bool ?_)
   rw [Bool.eq_iff_iff, Z11, ← Zei hr]
   simp
   try omega
theorem Z3p (s : List UInt8) (hs : Sm s) : Does Tryz.prog tab 139 0 [.str s] [] [] (Val (.int .i64 (refM s))) := by
 have hp : ∀ c : Int, 128 ≤ c → Vg c = false := fun c hc => by rw [Z4F]; unfold Our.Barred; omega
 refine Does.enter Z2 (g := 139) (fn := Tryz.f139) Tryz.call139 Tryz.func139 rfl 15 rfl rfl [.tmp 2] rfl ?_
 intro w0 F η0 h0
 conv => whnf
 repeat' ((first | refine CALL.value (Z3Z s hs) rfl rfl ?_ | refine CALL.value (Z3n _ Vg (fun r hr => Z7x r hr) s hs) rfl rfl ?_ | refine AU ?_ | (refine IW (fun h => ?_) (fun h => ?_) <;> try (exfalso; omega))) <;> conv => whnf)
 all_goals
   refine FIN.value h0 rfl (congrArg (SV.int _) ?_)
   unfold refM
 · rw [if_pos (by omega)]
 · rw [if_neg (by omega), if_pos (by omega)]
 all_goals
   rename_i h1 h2
   have hc : chk s 0 = -1 := by
     have := ZeS s 0
     omega
   have := Z5X Vg hp s 0 hc
   rw [if_neg (by omega), if_neg (by omega)]
 · rw [if_pos (this.1 h)]
 · rw [if_neg (fun h' => by have := this.2 h'; omega)]
theorem Z7y (s : List UInt8) (hs : Sm s) : Does Tryz.prog tab 140 0 [.str s] [] [] (Val (.str (s.take (schM s 0).toNat))) := by
 refine Does.enter Z2 (g := 140) (fn := Tryz.f140) Tryz.call140 Tryz.func140 rfl 61 rfl rfl [.tmp 2] rfl ?_
 intro w0 F η0 h0
 conv => whnf
 refine LOOP.go Z2 [0, 7] (X := Nat) (fun i => i ≤ s.length ∧ schM s i = schM s 0) (fun i => []) (fun i => [(0, .siter s i)]) 1 (fun i => s.length - i) 0 ⟨by omega, rfl⟩ ?_
 conv => whnf
 refine ⟨by exact GOES.cA h0, ?_⟩
 rintro i ⟨hi, hc⟩
 conv => whnf
 refine ⟨fun h => ?_, fun h => ?_⟩
 · have h : i < s.length := by simpa using h
   have hf := Z2D s i h
   have hp := Z1t s i
   have hb := ZJ s i
   have hd : ((deco s i).1 : Int) = Z4 s i ∧ (deco s i).2 = 1 ∨ 128 ≤ Z4 s i ∧ 128 ≤ (deco s i).1 := by
     by_cases ha : Z4 s i < 128
     · left; rw [UV ha]; simp; omega
     · right; exact ⟨by omega, Z2E (by omega)⟩
   unfold deco at *
   generalize Utf8.decode ⟨s.toArray⟩ i = d at *
   obtain ⟨r, n⟩ := d
   simp only at hf hp hd
   conv => whnf
   repeat' ((first | refine AU ?_ | (refine IW (fun h => ?_) (fun h => ?_) <;> try (exfalso; omega))) <;> conv => whnf)
   all_goals first
     | (have hn : n = 1 := by omega
        subst hn
        refine ⟨i + 1, ⟨hf, ?_⟩, by omega, ?_⟩
        · rw [← hc, ← Z2H (by omega) (by omega) (by unfold Xx SchI; omega)]
        · conv => whnf
          exact GOES.cA h0)
     | (refine FIN.value h0 rfl (congrArg SV.str ?_); rw [← hc, UW (by omega) (by omega)])
     | (refine FIN.value h0 rfl (congrArg SV.str ?_); rw [← hc]
        by_cases h58 : Z4 s i = 58
        · rw [UW (by omega) h58]; rw [show (i : Int) = 0 by omega]; rfl
        · rw [Z2I (by omega) h58 (by unfold Xx SchI; omega)]; rfl)
 · have h : s.length ≤ i := by simpa using h
   conv => whnf
   repeat' ((first | refine AU ?_ | (refine IW (fun h => ?_) (fun h => ?_) <;> try (exfalso; omega))) <;> conv => whnf)
   refine FIN.value h0 rfl ?_
   rw [← hc, Z1u h]; rfl
theorem WY (s : List UInt8) (hs : Sm s) : Does Tryz.prog tab 114 0 [.str s] [] [] (Val (.int .i64 (iriM s))) := by
 have hr := Zcx s 0
 refine Does.enter Z2 (g := 114) (fn := Tryz.f114) Tryz.call114 Tryz.func114 rfl 12 rfl rfl [.tmp 2] rfl ?_
 intro w0 F η0 h0
 conv => whnf
 repeat' ((first | refine CALL.value (Z3p s hs) rfl rfl ?_ | refine CALL.value (Z7y s hs) rfl rfl ?_ | refine AU ?_ | (refine IW (fun h => ?_) (fun h => ?_) <;> try (exfalso; omega))) <;> conv => whnf)
 · refine FIN.value h0 rfl (congrArg (SV.int _) ?_)
   unfold iriM; rw [if_pos h]
 · rename_i h1
   refine FIN.value h0 rfl (congrArg (SV.int _) ?_)
   unfold iriM; rw [if_neg (by omega), if_pos]
   have hz : (s.take (schM s 0).toNat).length = 0 := by
     have : s.take (schM s 0).toNat = [] := h
     rw [this]; rfl
   rw [List.length_take] at hz
   by_cases hl : s.length = 0
   · rw [Z1u (by omega)]
   · omega
 · rename_i h1
   refine FIN.value h0 rfl (congrArg (SV.int _) ?_)
   unfold iriM; rw [if_neg (by omega), if_neg]
   intro h2
   apply h
   rw [h2]; rfl
theorem Z12 (r : Int) : Does Tryz.prog tab 220 0 [.int .i32 r] [] [] (Val (.bool (decide (Xx r)))) := by
 refine Does.enter Z2 (g := 220) (fn := Tryz.f220) Tryz.call220 Tryz.func220 rfl 17 rfl rfl [.tmp 2] rfl ?_
 intro w0 F η0 h0
 conv => whnf
 repeat' ((first | refine AU ?_ | (refine IW (fun h => ?_) (fun h => ?_) <;> try (exfalso; omega))) <;> conv => whnf)
 refine FIN.value h0 rfl (congrArg SV.bool ?_)
 rw [Bool.eq_iff_iff]
 simp only [Bool.cond_eq_ite, decide_eq_true_eq, Bool.if_false_right, Bool.if_true_left, Bool.and_eq_true, Bool.or_eq_true]
 rfl
theorem JM (r : Int) : Does Tryz.prog tab 198 0 [.int .i32 r] [] [] (Val (.bool (decide (Us r)))) := by
 refine Does.enter Z2 (g := 198) (fn := Tryz.f198) Tryz.call198 Tryz.func198 rfl 9 rfl rfl [.tmp 2] rfl ?_
 intro w0 F η0 h0
 conv => whnf
 repeat' ((first | refine AU ?_ | (refine IW (fun h => ?_) (fun h => ?_) <;> try (exfalso; omega))) <;> conv => whnf)
 refine FIN.value h0 rfl (congrArg SV.bool ?_)
 rw [Bool.eq_iff_iff]
 simp only [Bool.cond_eq_ite, decide_eq_true_eq, Bool.if_false_right, Bool.if_true_left, Bool.and_eq_true, Bool.or_eq_true]
 rfl
theorem Z9E (r : Int) : Does Tryz.prog tab 216 0 [.int .i32 r] [] [] (Val (.bool (decide (Z2J r)))) := by
 refine Does.enter Z2 (g := 216) (fn := Tryz.f216) Tryz.call216 Tryz.func216 rfl 25 rfl rfl [.tmp 2] rfl ?_
 intro w0 F η0 h0
 conv => whnf
 repeat' ((first | refine CALL.value (Z12 _) rfl rfl ?_ | (refine LOOP.once Z2 ?_; conv => whnf) | refine AU ?_ | (refine IW (fun h => ?_) (fun h => ?_) <;> try (exfalso; omega))) <;> conv => whnf)
 all_goals
   refine FIN.value h0 rfl (congrArg SV.bool ?_)
   first
     | exact decide_eq_decide.2 (by unfold Xx Z2J; omega)
     | exact (decide_eq_true (by unfold Z2J; omega)).symm
     | exact (decide_eq_false (by unfold Z2J; omega)).symm
theorem WZ (r : Int) : Does Tryz.prog tab 197 0 [.int .i32 r] [] [] (Val (.bool (decide (WV r)))) := by
 refine Does.enter Z2 (g := 197) (fn := Tryz.f197) Tryz.call197 Tryz.func197 rfl 9 rfl rfl [.tmp 2] rfl ?_
 intro w0 F η0 h0
 conv => whnf
 repeat' ((first | refine CALL.value (Z9E _) rfl rfl ?_ | refine AU ?_ | (refine IW (fun h => ?_) (fun h => ?_) <;> try (exfalso; omega))) <;> conv => whnf)
 all_goals
   refine FIN.value h0 rfl (congrArg SV.bool ?_)
   rw [Bool.eq_iff_iff, decide_eq_true_iff]
   unfold WV
   simp
theorem Z3q (r : Int) : Does Tryz.prog tab 196 0 [.int .i32 r] [] [] (Val (.bool (decide (Yw r)))) := by
 refine Does.enter Z2 (g := 196) (fn := Tryz.f196) Tryz.call196 Tryz.func196 rfl 33 rfl rfl [.tmp 2] rfl ?_
 intro w0 F η0 h0
 conv => whnf
 repeat' ((first | refine CALL.value (WZ _) rfl rfl ?_ | refine CALL.value (JM _) rfl rfl ?_ | refine AU ?_ | (refine IW (fun h => ?_) (fun h => ?_) <;> try (exfalso; omega))) <;> conv => whnf)
 all_goals
   refine FIN.value h0 rfl (congrArg SV.bool ?_)
   rw [Bool.eq_iff_iff]
   unfold Yw
   simp_all
   try omega
theorem Z6h (r : Int) : Does Tryz.prog tab 176 0 [.int .i32 r] [] [] (Val (.bool (decide (JI r)))) := by
 refine Does.enter Z2 (g := 176) (fn := Tryz.f176) Tryz.call176 Tryz.func176 rfl 9 rfl rfl [.tmp 2] rfl ?_
 intro w0 F η0 h0
 conv => whnf
 repeat' ((first | refine CALL.value (WZ _) rfl rfl ?_ | refine CALL.value (JM _) rfl rfl ?_ | refine AU ?_ | (refine IW (fun h => ?_) (fun h => ?_) <;> try (exfalso; omega))) <;> conv => whnf)
 all_goals
   refine FIN.value h0 rfl (congrArg SV.bool ?_)
   unfold JI
   simp_all
theorem Zbu (g : Nat) (p : Int → Prop) [DecidablePred p] (hp : ∀ r : Int, Does Tryz.prog tab g 0 [.int .i32 r] [] [] (Val (.bool (decide (p r))))) (s : List UInt8) (i : Int) (hs : Sm s) : Does Tryz.prog tab 175 0 [.str s, .int .i64 i, .fn (.func g) [] []] [] [] (Val (.int .i64 (runM p s i))) := by
 have hn := Yv s i
 refine Does.enter Z2 (g := 175) (fn := Tryz.f175) Tryz.call175 Tryz.func175 rfl 55 rfl rfl [.tmp 6] rfl ?_
 intro w0 F η0 h0
 conv => whnf
 repeat' ((first | refine CALL.value (Z2U s _ hs) rfl rfl ?_ | refine CALL.value (hp _) rfl rfl ?_ | refine AU ?_ | (refine IW (fun h => ?_) (fun h => ?_) <;> try (exfalso; omega))) <;> conv => whnf)
 · exact FIN.value h0 rfl (congrArg (SV.int _) (by unfold runM; rw [if_pos (.inl h)]))
 · exact FIN.value h0 rfl (congrArg (SV.int _) (by unfold runM; rw [if_pos (.inr h)]))
 rename_i h1
 have hi : 0 ≤ i ∧ i < s.length := by
   apply Classical.byContradiction; intro hh; exact h1 (by unfold Zg; rw [if_pos (by omega)])
 refine LOOP.go Z2 [0, 1] (X := Nat × Nat) (fun x => x.1 ≤ s.length ∧ x.2 ≤ x.1 ∧ runGo s x.1 x.2 = runGo s (i.toNat + (Zg s i).2.toNat) (i.toNat + (Zg s i).2.toNat)) (fun x => [(10, .int .i64 (x.1 : Int)), (9, .int .i64 (x.2 : Int))]) (fun i => []) 0 (fun x => s.length - x.1) (i.toNat + (Zg s i).2.toNat, i.toNat + (Zg s i).2.toNat) ⟨by omega, by omega, rfl⟩ ?_
 conv => whnf
 refine ⟨by exact GOES.cA h0, ?_⟩
 rintro ⟨j, e⟩ ⟨hj, he, hc⟩
 simp only at hj he hc
 have hn' := Yv s j
 conv => whnf
 repeat' ((first | refine CALL.value (Z2U s _ hs) rfl rfl ?_ | refine CALL.value (Z3q _) rfl rfl ?_ | refine AU ?_ | (refine IW (fun h => ?_) (fun h => ?_) <;> try (exfalso; omega))) <;> conv => whnf)
 all_goals first
   | (refine FIN.value h0 rfl (congrArg (SV.int _) ?_)
      unfold runM
      rw [if_neg (by simp [*]), ← hc, Z0s (by simp [*])]
      simp (disch := omega) only [Z5])
   | (refine ⟨(j + (Zg s j).2.toNat, if (Zg s j).1 = 46 then e else j + (Zg s j).2.toNat), ⟨by simp only; omega, by simp only; split <;> omega, ?_⟩, by simp only; omega, ?_⟩
      · simp only
        rw [← hc, ← Z0r (by simp [*])]
      · conv => whnf
        simp only [*, if_true, if_false]
        exact GOES.cA h0)
theorem Z4L (s : List UInt8) (i : Int) (hs : Sm s) : Does Tryz.prog tab 141 0 [.str s, .int .i64 i] [] [] (Val (.int .i64 (runM JI s i))) := by
 refine Does.enter Z2 (g := 141) (fn := Tryz.f141) Tryz.call141 Tryz.func141 rfl 8 rfl rfl [.tmp 4] rfl ?_
 intro w0 F η0 h0
 conv => whnf
 repeat' ((first | refine CALL.value (Zbu _ JI (fun r => Z6h r) s i hs) rfl rfl ?_ | refine AU ?_ | (refine IW (fun h => ?_) (fun h => ?_) <;> try (exfalso; omega))) <;> conv => whnf)
 exact FIN.value h0 rfl rfl
theorem Z7z (s : List UInt8) (hs : Sm s) : Does Tryz.prog tab 115 0 [.str s] [] [] (Val (.int .i64 (Z3R s))) := by
 refine Does.enter Z2 (g := 115) (fn := Tryz.f115) Tryz.call115 Tryz.func115 rfl 14 rfl rfl [.tmp 2] rfl ?_
 intro w0 F η0 h0
 conv => whnf
 repeat' ((first | refine CALL.value (Z4L s _ hs) rfl rfl ?_ | refine AU ?_ | (refine IW (fun h => ?_) (fun h => ?_) <;> try (exfalso; omega))) <;> conv => whnf)
 · exact FIN.value h0 rfl (congrArg (SV.int _) (by unfold Z3R; rw [if_pos (by simpa using h)]))
 · exact FIN.value h0 rfl (congrArg (SV.int _) (by unfold Z3R; rw [if_neg (by simp; exact h)]))
theorem JN (s : List UInt8) (least most : Int) (pure : Bool) (hs : Sm s) : Does Tryz.prog tab 204 0 [.str s, .int .i64 least, .int .i64 most, .bool pure] [] [] (Val (.bool (ZH s least most pure))) := by
 refine Does.enter Z2 (g := 204) (fn := Tryz.f204) Tryz.call204 Tryz.func204 rfl 37 rfl rfl [.tmp 8] rfl ?_
 intro w0 F η0 h0
 conv => whnf
 refine LOOP.go Z2 [0, 1, 2, 3, 12] (X := Nat) (fun i => i ≤ s.length ∧ allB (JK pure) s i = allB (JK pure) s 0) (fun i => []) (fun i => [(0, .siter s i)]) 1 (fun i => s.length - i) 0 ⟨by omega, rfl⟩ ?_
 conv => whnf
 refine ⟨by exact GOES.cA h0, ?_⟩
 rintro i ⟨hi, hc⟩
 conv => whnf
 refine ⟨fun h => ?_, fun h => ?_⟩
 · have h : i < s.length := by simpa using h
   have hf := Z2D s i h
   have hp := Z1t s i
   have hd : ((deco s i).1 : Int) = Z4 s i ∧ (deco s i).2 = 1 ∨ 128 ≤ Z4 s i ∧ 128 ≤ (deco s i).1 := by
     have hb := ZJ s i
     by_cases ha : Z4 s i < 128
     · left; rw [UV ha]; simp; omega
     · right; exact ⟨by omega, Z2E (by omega)⟩
   unfold deco at *
   generalize Utf8.decode ⟨s.toArray⟩ i = d at *
   obtain ⟨r, n⟩ := d
   simp only at hf hp hd
   have key : allB (JK pure) s 0 = (JK pure r && allB (JK pure) s (i + n)) ∨ 128 ≤ r ∧ allB (JK pure) s 0 = false := by
     rcases hd with ⟨h1, rfl⟩ | ⟨h1, h2⟩
     · left; rw [← hc, Jg h, h1]
     · right; exact ⟨h2, by rw [← hc, Jg h, Z3S h1, Bool.false_and]⟩
   conv => whnf
   repeat' ((first | refine CALL.value (Z12 _) rfl rfl ?_ | refine CALL.value (JM _) rfl rfl ?_ | refine AU ?_ | (refine IW (fun h => ?_) (fun h => ?_) <;> try (exfalso; omega))) <;> conv => whnf)
   all_goals first
     | (refine FIN.value h0 rfl (congrArg SV.bool ?_)
        have h1 : JK pure r = false := by unfold JK JJ Xl; simp [*]
        have h2 : allB (JK pure) s 0 = false := by rcases key with h | h <;> simp [h, h1]
        unfold ZH; rw [h2]; rfl)
     | (have h1 : JK pure r = true := by unfold JK JJ Xl; simp [*]
        refine ⟨i + n, ⟨hf, ?_⟩, by omega, ?_⟩
        · rcases key with h | h
          · rw [h, h1, Bool.true_and]
          · rw [Z3S (by omega)] at h1; cases h1
        · conv => whnf
          exact GOES.cA h0)
 · have h : s.length ≤ i := by simpa using h
   conv => whnf
   repeat' ((first | refine AU ?_ | (refine IW (fun h => ?_) (fun h => ?_) <;> try (exfalso; omega))) <;> conv => whnf)
   all_goals
     refine FIN.value h0 rfl (congrArg SV.bool ?_)
     unfold ZH
     rw [← hc, UX h, Bool.eq_iff_iff]
     simp [Bool.cond_eq_ite]
theorem V6 (s : List UInt8) : Does Tryz.prog tab 180 0 [.str s] [] [] (Val (.bool (ZV s))) := by
 refine Does.enter Z2 (g := 180) (fn := Tryz.f180) Tryz.call180 Tryz.func180 rfl 9 rfl rfl [.tmp 2] rfl ?_
 intro w0 F η0 h0
 conv => whnf
 repeat' ((first | refine AU ?_ | (refine IW (fun h => ?_) (fun h => ?_) <;> try (exfalso; omega))) <;> conv => whnf)
 refine FIN.value h0 rfl (congrArg SV.bool ?_)
 unfold ZV
 rw [Bool.eq_iff_iff]
 simp [Bool.cond_eq_ite]
theorem Z2X (s : List UInt8) (hs : Sm s) : Does Tryz.prog tab 207 0 [.str s] [] [] (Val (.bool (YP s))) := by
 have b0 := ZJ s 0; have b1 := ZJ s 1; have b2 := ZJ s 2
 refine Does.enter Z2 (g := 207) (fn := Tryz.f207) Tryz.call207 Tryz.func207 rfl 28 rfl rfl [.tmp 2] rfl ?_
 intro w0 F η0 h0
 conv => whnf
 repeat' ((first | refine CALL.value (JN _ _ _ _ hs) rfl rfl ?_ | refine CALL.value (JM _) rfl rfl ?_ | refine AU ?_ | (refine IW (fun h => ?_) (fun h => ?_) <;> try (exfalso; omega))) <;> conv => whnf)
 all_goals
   refine FIN.value h0 rfl (congrArg SV.bool ?_)
   unfold YP Xl
   try simp (disch := omega) only [Z9] at *
   simp_all
   try omega
theorem V7 (s : List UInt8) (hs : Sm s) : Does Tryz.prog tab 208 0 [.str s] [] [] (Val (.bool (XW s))) := by
 have b0 := ZJ s 0
 have hm : ZH s 4 4 false = true → s.length = 4 := by unfold ZH; simp; omega
 refine Does.enter Z2 (g := 208) (fn := Tryz.f208) Tryz.call208 Tryz.func208 rfl 15 rfl rfl [.tmp 2] rfl ?_
 intro w0 F η0 h0
 conv => whnf
 repeat' ((first | refine CALL.value (JN _ _ _ _ hs) rfl rfl ?_ | refine CALL.value (JM _) rfl rfl ?_ | (refine NEED.mk (by have := hm (by assumption); omega) ?_; conv => whnf) | refine AU ?_ | (refine IW (fun h => ?_) (fun h => ?_) <;> try (exfalso; omega))) <;> conv => whnf)
 all_goals
   refine FIN.value h0 rfl (congrArg SV.bool ?_)
   unfold XW Xl
   try simp (disch := omega) only [Z9] at *
   simp_all
theorem YV (s : List UInt8) (hs : Sm s) : Does Tryz.prog tab 144 0 [.str s] [] [] (Val (.str (Zd s))) := by
 refine Does.enter Z2 (g := 144) (fn := Tryz.f144) Tryz.call144 Tryz.func144 rfl 29 rfl rfl [.tmp 2] rfl ?_
 intro w0 F η0 h0
 conv => whnf
 repeat' ((first | refine AU ?_ | (refine IW (fun h => ?_) (fun h => ?_) <;> try (exfalso; omega))) <;> conv => whnf)
 refine LOOP.go Z2 [3, 8, 9] (X := Nat) (fun i => i ≤ s.length) (fun i => [(10, .int .i64 (i : Int))]) (fun i => [(0, .rows 1 ((curL s i).map Sx.bytesRow))]) 1 (fun i => s.length - i) 0 (by omega) ?_
 conv => whnf
 refine ⟨by (refine GOES.cutting h0 rfl rfl rfl (by first | rfl | (simp only [Z7, Z3, Z0 _ (ZD _), Bool.and_self, Bool.and_true] <;> rfl)) ?_ ?_ <;> (repeat' (first | (with_reducible rfl) | (exact Zu rfl (by first | (simp; done) | omega | (simp; omega))) | (exact congrArg (SV.int _) (by first | omega | (simp (disch := omega) only [lnB, Z5, Z9] <;> omega) | (simp; done) | (simp <;> omega))) | (exact congrArg (Hp.rows _) (by rw [Z60])) | ((conv => whnf); refine ⟨?_, ?_⟩) | exact trivial | rfl))), ?_⟩
 intro i hi
 have hlen := Z8s s i
 conv => whnf
 repeat' ((first | (refine GET.at (row := Sx.bytesRow (s[i]'(by omega))) (by rw [show 0 + (i : Int).toNat = i by omega]; exact Z4I (by omega)) ?_; conv => whnf) | refine AU ?_ | (refine IW (fun h => ?_) (fun h => ?_) <;> try (exfalso; omega))) <;> conv => whnf)
 · have hl : i < s.length := by omega
   refine ⟨i + 1, by omega, by omega, ?_⟩
   conv => whnf
   (refine GOES.cutting h0 rfl rfl rfl (by first | rfl | (simp only [Z7, Z3, Z0 _ (ZD _), Bool.and_self, Bool.and_true] <;> rfl)) ?_ ?_ <;> (repeat' (first | (with_reducible rfl) | (exact Zu rfl (by first | (simp; done) | omega | (simp; omega))) | (exact congrArg (SV.int _) (by first | omega | (simp (disch := omega) only [lnB, Z5, Z9] <;> omega) | (simp; done) | (simp <;> omega))) | (exact congrArg (Hp.rows _) (by rw [Zbd h, show 0 + (i : Int).toNat = i by omega, Z8u hl])) | ((conv => whnf); refine ⟨?_, ?_⟩) | exact trivial | rfl)))
 · have hl : i < s.length := by omega
   refine ⟨i + 1, by omega, by omega, ?_⟩
   conv => whnf
   (refine GOES.cutting h0 rfl rfl rfl (by first | rfl | (simp only [Z7, Z3, Z0 _ (ZD _), Bool.and_self, Bool.and_true] <;> rfl)) ?_ ?_ <;> (repeat' (first | (with_reducible rfl) | (exact Zu rfl (by first | (simp; done) | omega | (simp; omega))) | (exact congrArg (SV.int _) (by first | omega | (simp (disch := omega) only [lnB, Z5, Z9] <;> omega) | (simp; done) | (simp <;> omega))) | (exact congrArg (Hp.rows _) (by rw [Z61 hl (Z7k (by omega))])) | ((conv => whnf); refine ⟨?_, ?_⟩) | exact trivial | rfl)))
 · refine NEED.mk (U0 (by omega)) ?_
   conv => whnf
   refine FIN.value h0 rfl (congrArg SV.str ?_)
   have := Z79 (curL s i)
   rw [hlen] at this
   rw [this, Z8t (by omega)]
theorem Z1i (s : List UInt8) (c : Int) : Does Tryz.prog tab 228 0 [.str s, .int .u8 c] [] [] (Val (.int .i64 (Lib.countByte s c.toNat.toUInt8 : Nat))) := by
 refine Does.says fun η w vs hd => ?_
 simp only [DenL, Den] at hd
 obtain ⟨u, us, rfl, rfl, u', us', rfl, rfl, rfl⟩ := hd
 refine ⟨_, ?_, rfl⟩
 rw [run_callFunc_extern Tryz.func228 (by kernel_rfl) (by kernel_rfl) (by kernel_rfl) (e := Extern.BytealgCount.count) (by kernel_rfl), Lib.run_countString]
 rfl
theorem Z9F (s : List UInt8) : Does Tryz.prog tab 218 0 [.str s, .str [45]] [] [] (Val (.int .i64 (s.count 45 : Nat))) := by
 refine Does.enter Z2 (g := 218) (fn := Tryz.f218) Tryz.call218 Tryz.func218 rfl 34 rfl rfl [.tmp 4] rfl ?_
 intro w0 F η0 h0
 conv => whnf
 repeat' ((first | refine CALL.value (Z1i _ _) rfl rfl ?_ | refine AU ?_ | (refine IW (fun h => ?_) (fun h => ?_) <;> try (exfalso; omega))) <;> conv => whnf)
 all_goals first
   | exact FIN.value h0 rfl rfl
   | (exfalso; simp at *; done)
theorem Z6i (s : List UInt8) : Does Tryz.prog tab 229 0 [.str s, .str [45]] [] [] (Val (.int .i64 (Lib.indexByte s 45))) := by
 refine Does.enter Z2 (g := 229) (fn := Tryz.f229) Tryz.call229 Tryz.func229 rfl 143 rfl rfl [.tmp 4] rfl ?_
 intro w0 F η0 h0
 conv => whnf
 repeat' ((first | refine CALL.value (Jl _ _) rfl rfl ?_ | refine CALL.value (Ue _ _) rfl rfl ?_ | refine CALL.value (Vj _ _) rfl rfl ?_ | refine AU ?_ | (refine IW (fun h => ?_) (fun h => ?_) <;> try (exfalso; omega))) <;> conv => whnf)
 all_goals first
   | exact FIN.value h0 rfl rfl
   | (subst h; exact FIN.value h0 rfl rfl)
   | (rcases h with h | h
      · exact absurd h (by decide)
      · subst h; exact FIN.value h0 rfl rfl)
   | exact absurd (by assumption : ¬ ((0 + 1 : Nat) : Int) = 1) (by decide)
theorem Z40 (s : List UInt8) : Does Tryz.prog tab 219 0 [.str s, .str [45]] [] [] (Val (.int .i64 (Lib.indexByte s 45))) := by
 refine Does.enter Z2 (g := 219) (fn := Tryz.f219) Tryz.call219 Tryz.func219 rfl 8 rfl rfl [.tmp 4] rfl ?_
 intro w0 F η0 h0
 conv => whnf
 repeat' ((first | refine CALL.value (Z6i _) rfl rfl ?_ | refine AU ?_ | (refine IW (fun h => ?_) (fun h => ?_) <;> try (exfalso; omega))) <;> conv => whnf)
 exact FIN.value h0 rfl rfl
theorem ZcH {l c : Int} {b : Nat} (B : Nat) (hb : Nat.ble b B = true) (h0 : 0 ≤ l) (h1 : l ≤ c) (h2 : (B : Int) * c ≤ 281474976710656 ∧ c ≤ 9223372036854775807) : 0 ≤ l ∧ l ≤ c ∧ c ≤ 9223372036854775807 ∧ (b : Int) * c ≤ 281474976710656 :=
 ⟨h0, h1, h2.2, Int.le_trans (Int.mul_le_mul_of_nonneg_right (by have := Nat.le_of_ble_eq_true hb; omega) (by omega)) h2.1⟩
theorem Z4M (s : List UInt8) (hs : s.length ≤ 68719476736) : Does Tryz.prog tab 202 0 [.str s, .str [45], .int .i64 0, .int .i64 (-1)] [] [] (NewS 1 ((Zr s).map Zb)) := by
 have hcnt := XT s
 have hlen := WX s
 have hne := Z1v s
 refine Does.enter Z2 (g := 202) (fn := Tryz.f202) Tryz.call202 Tryz.func202 rfl 66 rfl rfl [.tmp 8] rfl ?_
 intro w0 F η0 h0
 conv => whnf
 repeat' ((first | refine CALL.value (Z9F _) rfl rfl ?_ | refine AU ?_ | (refine IW (fun h => ?_) (fun h => ?_) <;> try (exfalso; omega))) <;> conv => whnf)
 have hn : (if IntKind.i64.wrap ((s.length : Int) + 1) < IntKind.i64.wrap (((s.count 45 : Nat) : Int) + 1) then IntKind.i64.wrap ((s.length : Int) + 1) else IntKind.i64.wrap (((s.count 45 : Nat) : Int) + 1)) = ((Zr s).length : Int) := by
   simp (disch := omega) only [Z5]
   rw [if_neg (by omega)]; omega
 rw [hn]
 refine NEED.mk (ZcH 16 rfl (by omega) (by omega) (by omega)) ?_
 conv => whnf
 rw [show List.replicate ((Zr s).length : Int).toNat [SV.str []] = Z2K [] (Zr s).length by rw [Int.toNat_natCast]; rfl]
 refine LOOP.go Z2 [1, 2, 3, 9] (X := List (List UInt8) × List UInt8) (fun x => Zr s = x.1 ++ Zr x.2 ∧ x.2.length ≤ s.length) (fun x => [(10, .int .i64 (x.1.length : Int)), (0, .str x.2)]) (fun x => [(0, .rows 1 (Z2K x.1 ((Zr s).length - x.1.length)))]) 1 (fun x => (Zr s).length - x.1.length) ([], s) ⟨rfl, Nat.le_refl _⟩ ?_
 conv => whnf
 refine ⟨by (refine GOES.cutting h0 rfl rfl rfl (by first | rfl | (simp only [Z7, Z3, Z0 _ (Z62 _ _), Bool.and_self, Bool.and_true] <;> rfl)) ?_ ?_ <;> (repeat' (first | (with_reducible rfl) | (exact Zu rfl (by first | (simp; done) | omega | (simp; omega))) | (exact congrArg (SV.int _) (by first | omega | (simp (disch := omega) only [lnB, Z5, Z9] <;> omega) | (simp; done) | (simp <;> omega))) | (exact congrArg (Hp.rows _) (by rfl)) | ((conv => whnf); refine ⟨?_, ?_⟩) | exact trivial | rfl))), ?_⟩
 rintro ⟨d, u⟩ ⟨he, hu⟩
 dsimp only at he hu ⊢
 have hd : d.length + (Zr u).length = (Zr s).length := by rw [he, List.length_append]
 have hun : 1 ≤ (Zr u).length := by have := XT u; omega
 have hm : Lib.indexByte u 45 = -1 ∧ Zr u = [u] ∨ ∃ m : Nat, Lib.indexByte u 45 = m ∧ m < u.length ∧ Zr u = u.take m :: Zr (u.drop (m + 1)) := by
   have hge := Lib.indexByte_ge u 45
   by_cases h : Lib.indexByte u 45 = -1
   · exact .inl ⟨h, Z3T h⟩
   · have e : Lib.indexByte u 45 = ((Lib.indexByte u 45).toNat : Int) := by omega
     have := Z3U e
     exact .inr ⟨_, e, this.1, this.2⟩
 conv => whnf
 rcases hm with ⟨hm, hs1⟩ | ⟨m, hm, hml, hs1⟩
 · have h1 : (Zr u).length = 1 := by rw [hs1]; rfl
   repeat' ((first | refine CALL.value (Z40 _) rfl rfl ?_ | (refine GET.at (row := Zb []) (Z8v (by omega) (by omega)) ?_; conv => whnf) | (refine NEED.mk (by rw [Z5 (by omega) (by omega)]; refine ⟨by omega, ?_⟩; show _ ≤ ((max (((Zr s).length : Int).toNat) (_ - 0) : Nat) : Int); omega) ?_; conv => whnf) | refine AU ?_ | (refine IW (fun h => ?_) (fun h => ?_) <;> try (exfalso; omega))) <;> conv => whnf)
   rw [Z8w (by omega) (by omega)]
   have hw : (IntKind.i64.wrap ((d.length : Int) + 1)).toNat = ((Zr s).map Zb).length := by
     rw [Z5 (by omega) (by omega), List.length_map]; omega
   rw [hw, show (Zr s).length - d.length - 1 = 0 by omega, show Z2K (d ++ [u]) 0 = (Zr s).map Zb by rw [he, hs1]; simp [Z2K]]
   exact FIN.rows h0 0 1 _ rfl rfl rfl (Z1 _) ⟨rfl, rfl, rfl⟩
 · have h1 : 2 ≤ (Zr u).length := by rw [hs1]; have := XT (u.drop (m + 1)); simp; omega
   repeat' ((first | refine CALL.value (Z40 _) rfl rfl ?_ | (refine GET.at (row := Zb []) (Z8v (by omega) (by omega)) ?_; conv => whnf) | refine AU ?_ | (refine IW (fun h => ?_) (fun h => ?_) <;> try (exfalso; omega))) <;> conv => whnf)
   have hw1 : (IntKind.i64.wrap (Lib.indexByte u 45 + (([45] : List UInt8).length : Int))).toNat = m + 1 := by
     rw [hm]; simp only [List.length_cons, List.length_nil]; rw [Z5 (by omega) (by omega)]; omega
   have hw2 : (IntKind.i64.wrap (Lib.indexByte u 45 + 0)).toNat = m := by
     rw [hm, Z5 (by omega) (by omega)]; omega
   rw [hw1, hw2, Z8w (by omega) (by omega)]
   refine ⟨(d ++ [u.take m], u.drop (m + 1)), ⟨by rw [he, hs1]; simp, by simp; omega⟩, by simp; omega, ?_⟩
   dsimp only
   conv => whnf
   (refine GOES.cutting h0 rfl rfl rfl (by first | rfl | (simp only [Z7, Z3, Z0 _ (Z62 _ _), Bool.and_self, Bool.and_true] <;> rfl)) ?_ ?_ <;> (repeat' (first | (with_reducible rfl) | (exact Zu rfl (by first | (simp; done) | omega | (simp; omega))) | (exact congrArg (SV.int _) (by first | omega | (simp (disch := omega) only [lnB, Z5, Z9] <;> omega) | (simp; done) | (simp <;> omega))) | (exact congrArg (Hp.rows _) (by congr 1; simp; omega)) | ((conv => whnf); refine ⟨?_, ?_⟩) | exact trivial | rfl)))
theorem Z9G (s : List UInt8) (hs : s.length ≤ 68719476736) : Does Tryz.prog tab 178 0 [.str s, .str [45]] [] [] (NewS 1 ((Zr s).map Zb)) := by
 refine Does.enter Z2 (g := 178) (fn := Tryz.f178) Tryz.call178 Tryz.func178 rfl 8 rfl rfl [.tmp 4] rfl ?_
 intro w0 F η0 h0
 conv => whnf
 refine CALL.newS (Z4M s hs) rfl (Z1 _) ?_
 conv => whnf
 exact FIN.rows h0 0 1 _ rfl rfl rfl (Z1 _) ⟨rfl, rfl, rfl⟩
theorem Z9H (s : List UInt8) (hs : Sm s) : Does Tryz.prog tab 203 0 [.str s] [] [] (Val (.bool (ZH s 2 8 true))) := by
 refine Does.enter Z2 (g := 203) (fn := Tryz.f203) Tryz.call203 Tryz.func203 rfl 5 rfl rfl [.tmp 2] rfl ?_
 intro w0 F η0 h0
 conv => whnf
 repeat' ((first | refine CALL.value (JN _ _ _ _ hs) rfl rfl ?_ | refine AU ?_ | (refine IW (fun h => ?_) (fun h => ?_) <;> try (exfalso; omega))) <;> conv => whnf)
 exact FIN.value h0 rfl rfl
theorem Z9I (s : List UInt8) (hs : Sm s) : Does Tryz.prog tab 205 0 [.str s] [] [] (Val (.bool (ZH s 3 3 true))) := by
 refine Does.enter Z2 (g := 205) (fn := Tryz.f205) Tryz.call205 Tryz.func205 rfl 5 rfl rfl [.tmp 2] rfl ?_
 intro w0 F η0 h0
 conv => whnf
 repeat' ((first | refine CALL.value (JN _ _ _ _ hs) rfl rfl ?_ | refine AU ?_ | (refine IW (fun h => ?_) (fun h => ?_) <;> try (exfalso; omega))) <;> conv => whnf)
 exact FIN.value h0 rfl rfl
theorem Z9J (s : List UInt8) (hs : Sm s) : Does Tryz.prog tab 206 0 [.str s] [] [] (Val (.bool (ZH s 4 4 true))) := by
 refine Does.enter Z2 (g := 206) (fn := Tryz.f206) Tryz.call206 Tryz.func206 rfl 5 rfl rfl [.tmp 2] rfl ?_
 intro w0 F η0 h0
 conv => whnf
 repeat' ((first | refine CALL.value (JN _ _ _ _ hs) rfl rfl ?_ | refine AU ?_ | (refine IW (fun h => ?_) (fun h => ?_) <;> try (exfalso; omega))) <;> conv => whnf)
 exact FIN.value h0 rfl rfl
theorem W0 (s : List UInt8) (hs : Sm s) : Does Tryz.prog tab 210 0 [.str s] [] [] (Val (.bool (X2 s))) := by
 refine Does.enter Z2 (g := 210) (fn := Tryz.f210) Tryz.call210 Tryz.func210 rfl 10 rfl rfl [.tmp 2] rfl ?_
 intro w0 F η0 h0
 conv => whnf
 repeat' ((first | refine CALL.value (JN _ _ _ _ hs) rfl rfl ?_ | refine CALL.value (V6 _) rfl rfl ?_ | refine AU ?_ | (refine IW (fun h => ?_) (fun h => ?_) <;> try (exfalso; omega))) <;> conv => whnf)
 all_goals
   refine FIN.value h0 rfl (congrArg SV.bool ?_)
   unfold X2
   simp_all
theorem Z0z (s : List UInt8) (least : Int) (hs : Sm s) : Does Tryz.prog tab 211 1 [.str s, .ptr (.loc 0) 0 0 0] [] [(0, .box [.int .i64 least])] (ValK 1 (.bool (ZH s least 8 false))) := by
 refine Does.enter Z2 (g := 211) (fn := Tryz.f211) Tryz.call211 Tryz.func211 rfl 7 rfl rfl [.tmp 3] rfl ?_
 intro w0 F η0 h0
 conv => whnf
 repeat' ((first | refine CALL.value (JN _ _ _ _ hs) rfl rfl ?_ | refine AU ?_ | (refine IW (fun h => ?_) (fun h => ?_) <;> try (exfalso; omega))) <;> conv => whnf)
 exact FIN.valueK h0 rfl rfl
def Ux (i m : Nat) (L E S R : List UInt8) (v x : Nat) (P : List UInt8) : Hp := .box [.sl (.loc 1) i 1 m none, .str L, .str E, .str S, .str R, .sl (.loc 2) 0 1 v none, .sl (.loc 3) 0 1 x none, .str P]
def Wg (i m : Nat) (L E S R : List UInt8) (v x : Nat) (P : List UInt8) : Hp := .box [.sl (.loc 1) i 1 m none, .str L, .str E, .str S, .str R, .any, .any, .str P]
def J7 (i m : Nat) (L E S R : List UInt8) (v x : Nat) (P : List UInt8) : Hp := .box [.sl (.loc 1) i 1 m none, .str L, .str E, .str S, .str R, .sl (.loc 4) 0 1 v none, .sl (.loc 5) 0 1 x none, .str P]
def Yd (p : List UInt8 → Bool) (ps : List (List UInt8)) (i : Nat) : Bool := match ps[i]? with | some s => p s | none => false
theorem Wh {ps : List (List UInt8)} {i : Nat} {p : List UInt8} (h : ps[i]? = some p) : ((ps.take (i + 1)).map List.length).sum = ((ps.take i).map List.length).sum + p.length := by
 obtain ⟨h1, rfl⟩ := List.getElem?_eq_some_iff.1 h
 rw [List.take_succ_eq_append_getElem h1, List.map_append, List.sum_append]; simp
abbrev J8 (ps : List (List UInt8)) : Nat := (ps.map List.length).sum
theorem Yp (ps : List (List UInt8)) (i : Nat) : ((ps.take i).map List.length).sum ≤ J8 ps := by
 conv => rhs; unfold J8; rw [← List.take_append_drop i ps]
 rw [List.map_append, List.sum_append]; omega
theorem JO (g : Nat) (p : List UInt8 → Bool) (ps : List (List UInt8)) (hp : ∀ s ∈ ps, Does Tryz.prog tab g 0 [.str s] [] [] (Val (.bool (p s)))) (i m : Nat) (him : i + m = ps.length) (L E S R : List UInt8) (v x : Nat) (P : List UInt8) :
   Does Tryz.prog tab 179 4 [.ptr (.loc 0) 0 0 0, .fn (.func g) [] []] [] [(0, Ux i m L E S R v x P), (1, .rows 1 (ps.map Zb))] (ValK 4 (.bool (Yd p ps i))) := by
 refine Does.enter Z2 (g := 179) (fn := Tryz.f179) Tryz.call179 Tryz.func179 rfl 21 rfl rfl [.tmp 4] rfl ?_
 intro w0 F η0 h0
 conv => whnf
 repeat' ((first | (refine GET.at (row := Zb (ps[i]'(by omega))) (by rw [List.getElem?_map, show i + (0 : Int).toNat = i by simp, List.getElem?_eq_getElem (by omega)]; rfl) ?_; conv => whnf) | refine CALL.value (hp _ (List.getElem_mem (by omega))) rfl rfl ?_ | refine AU ?_ | (refine IW (fun h => ?_) (fun h => ?_) <;> try (exfalso; omega))) <;> conv => whnf)
 · refine FIN.valueK h0 rfl (congrArg SV.bool ?_)
   unfold Yd; rw [List.getElem?_eq_getElem (by omega)]; rfl
 · refine FIN.valueK h0 rfl (congrArg SV.bool ?_)
   unfold Yd; rw [List.getElem?_eq_none (by omega)]
theorem Z4N (least : Int) (ps : List (List UInt8)) (hp : ∀ s ∈ ps, Sm s) (i m : Nat) (him : i + m = ps.length) (L E S R : List UInt8) (v x : Nat) (P : List UInt8) :
   Does Tryz.prog tab 179 5 [.ptr (.loc 0) 0 0 0, .fn (.func 211) [] [.ptr (.loc 4) 0 0 0]] [] [(0, Ux i m L E S R v x P), (1, .rows 1 (ps.map Zb)), (4, .box [.int .i64 least])] (ValK 5 (.bool (Yd (fun s => ZH s least 8 false) ps i))) := by
 refine Does.enter Z2 (g := 179) (fn := Tryz.f179) Tryz.call179 Tryz.func179 rfl 21 rfl rfl [.tmp 4] rfl ?_
 intro w0 F η0 h0
 conv => whnf
 repeat' ((first | (refine GET.at (row := Zb (ps[i]'(by omega))) (by rw [List.getElem?_map, show i + (0 : Int).toNat = i by simp, List.getElem?_eq_getElem (by omega)]; rfl) ?_; conv => whnf) | (refine CALL.looks [4] (Z0z (ps[i]'(by omega)) least (hp _ (List.getElem_mem (by omega)))) rfl rfl rfl rfl ⟨⟨rfl, rfl, rfl⟩, trivial⟩ ?_; conv => whnf) | refine AU ?_ | (refine IW (fun h => ?_) (fun h => ?_) <;> try (exfalso; omega))) <;> conv => whnf)
 · refine FIN.valueK h0 rfl (congrArg SV.bool ?_)
   unfold Yd; rw [List.getElem?_eq_getElem (by omega)]; rfl
 · refine FIN.valueK h0 rfl (congrArg SV.bool ?_)
   unfold Yd; rw [List.getElem?_eq_none (by omega)]
theorem Ye (ps : List (List UInt8)) (i m : Nat) (him : i + (m + 1) = ps.length) (p : List UInt8) (hp : ps[i]? = some p) (L E S R : List UInt8) (v x : Nat) (P : List UInt8) :
   Does Tryz.prog tab 183 4 [.ptr (.loc 0) 0 0 0] [(0, Ux i (m + 1) L E S R v x P)] [(1, .rows 1 (ps.map Zb))] (fun r O nx => r = .str p ∧ O = [(0, Ux (i + 1) m L E S R v x P)] ∧ nx = 4) := by
 refine Does.enter Z2 (g := 183) (fn := Tryz.f183) Tryz.call183 Tryz.func183 rfl 19 rfl rfl [.tmp 2] rfl ?_
 intro w0 F η0 h0
 conv => whnf
 repeat' ((first | (refine GET.at (row := Zb p) (by rw [List.getElem?_map, show i + (0 : Int).toNat = i by simp, hp]; rfl) ?_; conv => whnf) | refine AU ?_ | (refine IW (fun h => ?_) (fun h => ?_) <;> try (exfalso; omega))) <;> conv => whnf)
 exact FIN.here h0 (Oc := [(0, Ux (i + 1) m L E S R v x P)]) rfl rfl rfl ⟨rfl, trivial⟩ ⟨rfl, rfl, rfl⟩
theorem Zbv (least : Int) (ps : List (List UInt8)) (hb : J8 ps + ps.length ≤ 1152921504606846976) (i m : Nat) (him : i + m = ps.length) (L E S R : List UInt8) (v x : Nat) (P : List UInt8) :
   Does Tryz.prog tab 184 4 [.ptr (.loc 0) 0 0 0, .int .i64 least] [(0, Ux i m L E S R v x P)] [(1, .rows 1 (ps.map Zb))]
     (fun r O nx => ∃ (n : Nat) (s : List UInt8), n = ZO (fun s => ZH s least 8 false) (ps.drop i) ∧ s.length ≤ J8 ps + ps.length ∧ r = .tup [.str s, .bool (decide (n ≠ 0))] ∧ O = [(0, Ux (i + n) (m - n) L E S R v x P)] ∧ nx = 4) := by
 have hsm : ∀ s ∈ ps, Sm s := by
   intro s hs
   obtain ⟨j, hj, rfl⟩ := List.getElem_of_mem hs
   have h1 := Wh (List.getElem?_eq_getElem hj)
   have h2 := Yp ps (j + 1)
   omega
 refine Does.enter Z2 (g := 184) (fn := Tryz.f184) Tryz.call184 Tryz.func184 rfl 18 rfl rfl [.tmp 4, .tmp 5] rfl ?_
 intro w0 F η0 h0
 conv => whnf
 refine LOOP.go Z2 [0, 3] (X := Nat × List UInt8) (fun y => y.1 ≤ m ∧ y.2.length ≤ ((ps.take (i + y.1)).map List.length).sum + (i + y.1) ∧ (y.1 = 0 ↔ y.2 = []) ∧ ZO (fun s => ZH s least 8 false) (ps.drop i) = y.1 + ZO (fun s => ZH s least 8 false) (ps.drop (i + y.1))) (fun y => [(6, .str y.2)]) (fun y => [(0, Ux (i + y.1) (m - y.1) L E S R v x P), (4, .box [.int .i64 least])]) 5 (fun y => m - y.1) (0, []) ⟨by simp, by simp, by simp, by simp⟩ ?_
 conv => whnf
 refine ⟨by exact GOES.cA h0, ?_⟩
 rintro ⟨n, s⟩ ⟨hn, hl, h0s, hspan⟩
 dsimp only at hn hl h0s hspan ⊢
 conv => whnf
 refine CALL.here (Z4N least ps hsm (i + n) (m - n) (by omega) L E S R v x P) rfl rfl (by first | rfl | (simp only [Z7, Z3, Z0 _ (Z1 _), Bool.and_self, Bool.and_true] <;> rfl)) (by first | rfl | (simp only [Z7, Z3, Z0 _ (Z1 _), Bool.and_self, Bool.and_true] <;> rfl)) (by repeat' (first | exact trivial | exact rfl | ((conv => whnf); refine ⟨?_, ?_⟩))) (by repeat' (first | exact trivial | exact rfl | ((conv => whnf); refine ⟨?_, ?_⟩))) rfl ?_ ?_
 · rintro r O' nx' ⟨rfl, rfl, rfl⟩; exact ⟨rfl, rfl, rfl⟩
 rintro r O' ⟨rfl, rfl, _⟩
 conv => whnf
 refine ⟨fun h => ?_, fun h => ?_⟩
 · obtain ⟨p, hp, hpm⟩ : ∃ p, ps[i + n]? = some p ∧ ZH p least 8 false = true := by
     unfold Yd at h
     cases hp : ps[i + n]? with
     | none => rw [hp] at h; cases h
     | some p => rw [hp] at h; exact ⟨p, rfl, h⟩
   have hlt := (List.getElem?_eq_some_iff.1 hp).1
   have hs1 := Wh hp
   have hs2 := Yp ps (i + n + 1)
   obtain ⟨k, hk⟩ : ∃ k, m - n = k + 1 := ⟨m - n - 1, by omega⟩
   rw [hk]
   conv => whnf
   refine CALL.here (Ye ps (i + n) k (by omega) p hp L E S R v x P) rfl rfl (by first | rfl | (simp only [Z7, Z3, Z0 _ (Z1 _), Bool.and_self, Bool.and_true] <;> rfl)) (by first | rfl | (simp only [Z7, Z3, Z0 _ (Z1 _), Bool.and_self, Bool.and_true] <;> rfl)) (by repeat' (first | exact trivial | exact rfl | ((conv => whnf); refine ⟨?_, ?_⟩))) (by repeat' (first | exact trivial | exact rfl | ((conv => whnf); refine ⟨?_, ?_⟩))) rfl ?_ ?_
   · rintro r O' nx' ⟨rfl, rfl, rfl⟩; exact ⟨rfl, rfl, rfl⟩
   rintro r O' ⟨rfl, rfl, _⟩
   conv => whnf
   repeat' ((first | refine AU ?_ | (refine IW (fun h => ?_) (fun h => ?_) <;> try (exfalso; omega))) <;> conv => whnf)
   have hsp : ZO (fun s => ZH s least 8 false) (ps.drop (i + n)) = ZO (fun s => ZH s least 8 false) (ps.drop (i + (n + 1))) + 1 := by
     rw [List.drop_eq_getElem_cons hlt]
     have : ps[i + n] = p := by
       have := List.getElem?_eq_getElem hlt
       rw [hp] at this; injection this with this; exact this.symm
     rw [this]
     simp only [ZO, hpm, if_true]
     rfl
   refine ⟨(n + 1, s ++ ([45] ++ p)), ⟨by simp only; omega, ?_, by simp, by simp only; omega⟩, by simp only; omega, ?_⟩
   · simp only [List.length_append, List.length_cons, List.length_nil]
     rw [show i + (n + 1) = i + n + 1 by omega, hs1]; omega
   · dsimp only
     rw [show i + (n + 1) = i + n + 1 by omega, show m - (n + 1) = k by omega]
     conv => whnf
     exact GOES.cA h0
 · have hsp : ZO (fun s => ZH s least 8 false) (ps.drop (i + n)) = 0 := by
     unfold Yd at h
     cases hp : ps[i + n]? with
     | none => rw [List.drop_eq_nil_of_le (by simpa using hp)]; rfl
     | some p =>
       rw [hp] at h
       have hlt := (List.getElem?_eq_some_iff.1 hp).1
       rw [List.drop_eq_getElem_cons hlt]
       have : ps[i + n] = p := by
         have := List.getElem?_eq_getElem hlt
         rw [hp] at this; injection this with this; exact this.symm
       rw [this]
       simp only [ZO]
       simp only at h
       simp [h]
   have hs2 := Yp ps (i + n)
   conv => whnf
   repeat' ((first | refine AU ?_ | (refine IW (fun h => ?_) (fun h => ?_) <;> try (exfalso; omega))) <;> conv => whnf)
   refine FIN.here h0 (rc := .tup [.str s, .bool (decide (n ≠ 0))]) (Oc := [(0, Ux (i + n) (m - n) L E S R v x P)]) ?_ rfl rfl ⟨rfl, trivial⟩ ⟨n, s, by omega, by omega, rfl, rfl, rfl⟩
   show SV.tup [SV.str s, SV.bool (s != [])] = SV.tup [SV.str s, SV.bool (decide (n ≠ 0))]
   have : (s != []) = decide (n ≠ 0) := by rw [Bool.eq_iff_iff]; simp [h0s]
   rw [this]
theorem Z9K (g : Nat) (p : List UInt8 → Bool) (ps : List (List UInt8)) (hp : ∀ s ∈ ps, Does Tryz.prog tab g 0 [.str s] [] [] (Val (.bool (p s)))) (i m : Nat) (him : i + m = ps.length) (L E S R : List UInt8) (v x : Nat) (P : List UInt8) :
   Does Tryz.prog tab 179 4 [.ptr (.loc 0) 0 0 0, .fn (.func g) [] []] [] [(0, Wg i m L E S R v x P), (1, .rows 1 (ps.map Zb))] (ValK 4 (.bool (Yd p ps i))) := by
 refine Does.enter Z2 (g := 179) (fn := Tryz.f179) Tryz.call179 Tryz.func179 rfl 21 rfl rfl [.tmp 4] rfl ?_
 intro w0 F η0 h0
 conv => whnf
 repeat' ((first | (refine GET.at (row := Zb (ps[i]'(by omega))) (by rw [List.getElem?_map, show i + (0 : Int).toNat = i by simp, List.getElem?_eq_getElem (by omega)]; rfl) ?_; conv => whnf) | refine CALL.value (hp _ (List.getElem_mem (by omega))) rfl rfl ?_ | refine AU ?_ | (refine IW (fun h => ?_) (fun h => ?_) <;> try (exfalso; omega))) <;> conv => whnf)
 · refine FIN.valueK h0 rfl (congrArg SV.bool ?_)
   unfold Yd; rw [List.getElem?_eq_getElem (by omega)]; rfl
 · refine FIN.valueK h0 rfl (congrArg SV.bool ?_)
   unfold Yd; rw [List.getElem?_eq_none (by omega)]
theorem Z3r (least : Int) (ps : List (List UInt8)) (hp : ∀ s ∈ ps, Sm s) (i m : Nat) (him : i + m = ps.length) (L E S R : List UInt8) (v x : Nat) (P : List UInt8) :
   Does Tryz.prog tab 179 5 [.ptr (.loc 0) 0 0 0, .fn (.func 211) [] [.ptr (.loc 4) 0 0 0]] [] [(0, Wg i m L E S R v x P), (1, .rows 1 (ps.map Zb)), (4, .box [.int .i64 least])] (ValK 5 (.bool (Yd (fun s => ZH s least 8 false) ps i))) := by
 refine Does.enter Z2 (g := 179) (fn := Tryz.f179) Tryz.call179 Tryz.func179 rfl 21 rfl rfl [.tmp 4] rfl ?_
 intro w0 F η0 h0
 conv => whnf
 repeat' ((first | (refine GET.at (row := Zb (ps[i]'(by omega))) (by rw [List.getElem?_map, show i + (0 : Int).toNat = i by simp, List.getElem?_eq_getElem (by omega)]; rfl) ?_; conv => whnf) | (refine CALL.looks [4] (Z0z (ps[i]'(by omega)) least (hp _ (List.getElem_mem (by omega)))) rfl rfl rfl rfl ⟨⟨rfl, rfl, rfl⟩, trivial⟩ ?_; conv => whnf) | refine AU ?_ | (refine IW (fun h => ?_) (fun h => ?_) <;> try (exfalso; omega))) <;> conv => whnf)
 · refine FIN.valueK h0 rfl (congrArg SV.bool ?_)
   unfold Yd; rw [List.getElem?_eq_getElem (by omega)]; rfl
 · refine FIN.valueK h0 rfl (congrArg SV.bool ?_)
   unfold Yd; rw [List.getElem?_eq_none (by omega)]
theorem Wi (ps : List (List UInt8)) (i m : Nat) (him : i + (m + 1) = ps.length) (p : List UInt8) (hp : ps[i]? = some p) (L E S R : List UInt8) (v x : Nat) (P : List UInt8) :
   Does Tryz.prog tab 183 4 [.ptr (.loc 0) 0 0 0] [(0, Wg i (m + 1) L E S R v x P)] [(1, .rows 1 (ps.map Zb))] (fun r O nx => r = .str p ∧ O = [(0, Wg (i + 1) m L E S R v x P)] ∧ nx = 4) := by
 refine Does.enter Z2 (g := 183) (fn := Tryz.f183) Tryz.call183 Tryz.func183 rfl 19 rfl rfl [.tmp 2] rfl ?_
 intro w0 F η0 h0
 conv => whnf
 repeat' ((first | (refine GET.at (row := Zb p) (by rw [List.getElem?_map, show i + (0 : Int).toNat = i by simp, hp]; rfl) ?_; conv => whnf) | refine AU ?_ | (refine IW (fun h => ?_) (fun h => ?_) <;> try (exfalso; omega))) <;> conv => whnf)
 exact FIN.here h0 (Oc := [(0, Wg (i + 1) m L E S R v x P)]) rfl rfl rfl ⟨rfl, trivial⟩ ⟨rfl, rfl, rfl⟩
theorem Z9L (least : Int) (ps : List (List UInt8)) (hb : J8 ps + ps.length ≤ 1152921504606846976) (i m : Nat) (him : i + m = ps.length) (L E S R : List UInt8) (v x : Nat) (P : List UInt8) :
   Does Tryz.prog tab 184 4 [.ptr (.loc 0) 0 0 0, .int .i64 least] [(0, Wg i m L E S R v x P)] [(1, .rows 1 (ps.map Zb))]
     (fun r O nx => ∃ (n : Nat) (s : List UInt8), n = ZO (fun s => ZH s least 8 false) (ps.drop i) ∧ s.length ≤ J8 ps + ps.length ∧ r = .tup [.str s, .bool (decide (n ≠ 0))] ∧ O = [(0, Wg (i + n) (m - n) L E S R v x P)] ∧ nx = 4) := by
 have hsm : ∀ s ∈ ps, Sm s := by
   intro s hs
   obtain ⟨j, hj, rfl⟩ := List.getElem_of_mem hs
   have h1 := Wh (List.getElem?_eq_getElem hj)
   have h2 := Yp ps (j + 1)
   omega
 refine Does.enter Z2 (g := 184) (fn := Tryz.f184) Tryz.call184 Tryz.func184 rfl 18 rfl rfl [.tmp 4, .tmp 5] rfl ?_
 intro w0 F η0 h0
 conv => whnf
 refine LOOP.go Z2 [0, 3] (X := Nat × List UInt8) (fun y => y.1 ≤ m ∧ y.2.length ≤ ((ps.take (i + y.1)).map List.length).sum + (i + y.1) ∧ (y.1 = 0 ↔ y.2 = []) ∧ ZO (fun s => ZH s least 8 false) (ps.drop i) = y.1 + ZO (fun s => ZH s least 8 false) (ps.drop (i + y.1))) (fun y => [(6, .str y.2)]) (fun y => [(0, Wg (i + y.1) (m - y.1) L E S R v x P), (4, .box [.int .i64 least])]) 5 (fun y => m - y.1) (0, []) ⟨by simp, by simp, by simp, by simp⟩ ?_
 conv => whnf
 refine ⟨by exact GOES.cA h0, ?_⟩
 rintro ⟨n, s⟩ ⟨hn, hl, h0s, hspan⟩
 dsimp only at hn hl h0s hspan ⊢
 conv => whnf
 refine CALL.here (Z3r least ps hsm (i + n) (m - n) (by omega) L E S R v x P) rfl rfl (by first | rfl | (simp only [Z7, Z3, Z0 _ (Z1 _), Bool.and_self, Bool.and_true] <;> rfl)) (by first | rfl | (simp only [Z7, Z3, Z0 _ (Z1 _), Bool.and_self, Bool.and_true] <;> rfl)) (by repeat' (first | exact trivial | exact rfl | ((conv => whnf); refine ⟨?_, ?_⟩))) (by repeat' (first | exact trivial | exact rfl | ((conv => whnf); refine ⟨?_, ?_⟩))) rfl ?_ ?_
 · rintro r O' nx' ⟨rfl, rfl, rfl⟩; exact ⟨rfl, rfl, rfl⟩
 rintro r O' ⟨rfl, rfl, _⟩
 conv => whnf
 refine ⟨fun h => ?_, fun h => ?_⟩
 · obtain ⟨p, hp, hpm⟩ : ∃ p, ps[i + n]? = some p ∧ ZH p least 8 false = true := by
     unfold Yd at h
     cases hp : ps[i + n]? with
     | none => rw [hp] at h; cases h
     | some p => rw [hp] at h; exact ⟨p, rfl, h⟩
   have hlt := (List.getElem?_eq_some_iff.1 hp).1
   have hs1 := Wh hp
   have hs2 := Yp ps (i + n + 1)
   obtain ⟨k, hk⟩ : ∃ k, m - n = k + 1 := ⟨m - n - 1, by omega⟩
   rw [hk]
   conv => whnf
   refine CALL.here (Wi ps (i + n) k (by omega) p hp L E S R v x P) rfl rfl (by first | rfl | (simp only [Z7, Z3, Z0 _ (Z1 _), Bool.and_self, Bool.and_true] <;> rfl)) (by first | rfl | (simp only [Z7, Z3, Z0 _ (Z1 _), Bool.and_self, Bool.and_true] <;> rfl)) (by repeat' (first | exact trivial | exact rfl | ((conv => whnf); refine ⟨?_, ?_⟩))) (by repeat' (first | exact trivial | exact rfl | ((conv => whnf); refine ⟨?_, ?_⟩))) rfl ?_ ?_
   · rintro r O' nx' ⟨rfl, rfl, rfl⟩; exact ⟨rfl, rfl, rfl⟩
   rintro r O' ⟨rfl, rfl, _⟩
   conv => whnf
   repeat' ((first | refine AU ?_ | (refine IW (fun h => ?_) (fun h => ?_) <;> try (exfalso; omega))) <;> conv => whnf)
   have hsp : ZO (fun s => ZH s least 8 false) (ps.drop (i + n)) = ZO (fun s => ZH s least 8 false) (ps.drop (i + (n + 1))) + 1 := by
     rw [List.drop_eq_getElem_cons hlt]
     have : ps[i + n] = p := by
       have := List.getElem?_eq_getElem hlt
       rw [hp] at this; injection this with this; exact this.symm
     rw [this]
     simp only [ZO, hpm, if_true]
     rfl
   refine ⟨(n + 1, s ++ ([45] ++ p)), ⟨by simp only; omega, ?_, by simp, by simp only; omega⟩, by simp only; omega, ?_⟩
   · simp only [List.length_append, List.length_cons, List.length_nil]
     rw [show i + (n + 1) = i + n + 1 by omega, hs1]; omega
   · dsimp only
     rw [show i + (n + 1) = i + n + 1 by omega, show m - (n + 1) = k by omega]
     conv => whnf
     exact GOES.cA h0
 · have hsp : ZO (fun s => ZH s least 8 false) (ps.drop (i + n)) = 0 := by
     unfold Yd at h
     cases hp : ps[i + n]? with
     | none => rw [List.drop_eq_nil_of_le (by simpa using hp)]; rfl
     | some p =>
       rw [hp] at h
       have hlt := (List.getElem?_eq_some_iff.1 hp).1
       rw [List.drop_eq_getElem_cons hlt]
       have : ps[i + n] = p := by
         have := List.getElem?_eq_getElem hlt
         rw [hp] at this; injection this with this; exact this.symm
       rw [this]
       simp only [ZO]
       simp only at h
       simp [h]
   have hs2 := Yp ps (i + n)
   conv => whnf
   repeat' ((first | refine AU ?_ | (refine IW (fun h => ?_) (fun h => ?_) <;> try (exfalso; omega))) <;> conv => whnf)
   refine FIN.here h0 (rc := .tup [.str s, .bool (decide (n ≠ 0))]) (Oc := [(0, Wg (i + n) (m - n) L E S R v x P)]) ?_ rfl rfl ⟨rfl, trivial⟩ ⟨n, s, by omega, by omega, rfl, rfl, rfl⟩
   show SV.tup [SV.str s, SV.bool (s != [])] = SV.tup [SV.str s, SV.bool (decide (n ≠ 0))]
   have : (s != []) = decide (n ≠ 0) := by rw [Bool.eq_iff_iff]; simp [h0s]
   rw [this]
theorem Xm (g : Nat) (p : List UInt8 → Bool) (ps : List (List UInt8)) (hp : ∀ s ∈ ps, Does Tryz.prog tab g 0 [.str s] [] [] (Val (.bool (p s)))) (i m : Nat) (him : i + m = ps.length) (L E S R : List UInt8) (v x : Nat) (P : List UInt8) :
   Does Tryz.prog tab 179 7 [.ptr (.loc 0) 0 0 0, .fn (.func g) [] []] [] [(0, J7 i m L E S R v x P), (1, .rows 1 (ps.map Zb))] (ValK 7 (.bool (Yd p ps i))) := by
 refine Does.enter Z2 (g := 179) (fn := Tryz.f179) Tryz.call179 Tryz.func179 rfl 21 rfl rfl [.tmp 4] rfl ?_
 intro w0 F η0 h0
 conv => whnf
 repeat' ((first | (refine GET.at (row := Zb (ps[i]'(by omega))) (by rw [List.getElem?_map, show i + (0 : Int).toNat = i by simp, List.getElem?_eq_getElem (by omega)]; rfl) ?_; conv => whnf) | refine CALL.value (hp _ (List.getElem_mem (by omega))) rfl rfl ?_ | refine AU ?_ | (refine IW (fun h => ?_) (fun h => ?_) <;> try (exfalso; omega))) <;> conv => whnf)
 · refine FIN.valueK h0 rfl (congrArg SV.bool ?_)
   unfold Yd; rw [List.getElem?_eq_getElem (by omega)]; rfl
 · refine FIN.valueK h0 rfl (congrArg SV.bool ?_)
   unfold Yd; rw [List.getElem?_eq_none (by omega)]
theorem Z3s (least : Int) (ps : List (List UInt8)) (hp : ∀ s ∈ ps, Sm s) (i m : Nat) (him : i + m = ps.length) (L E S R : List UInt8) (v x : Nat) (P : List UInt8) :
   Does Tryz.prog tab 179 8 [.ptr (.loc 0) 0 0 0, .fn (.func 211) [] [.ptr (.loc 7) 0 0 0]] [] [(0, J7 i m L E S R v x P), (1, .rows 1 (ps.map Zb)), (7, .box [.int .i64 least])] (ValK 8 (.bool (Yd (fun s => ZH s least 8 false) ps i))) := by
 refine Does.enter Z2 (g := 179) (fn := Tryz.f179) Tryz.call179 Tryz.func179 rfl 21 rfl rfl [.tmp 4] rfl ?_
 intro w0 F η0 h0
 conv => whnf
 repeat' ((first | (refine GET.at (row := Zb (ps[i]'(by omega))) (by rw [List.getElem?_map, show i + (0 : Int).toNat = i by simp, List.getElem?_eq_getElem (by omega)]; rfl) ?_; conv => whnf) | (refine CALL.looks [7] (Z0z (ps[i]'(by omega)) least (hp _ (List.getElem_mem (by omega)))) rfl rfl rfl rfl ⟨⟨rfl, rfl, rfl⟩, trivial⟩ ?_; conv => whnf) | refine AU ?_ | (refine IW (fun h => ?_) (fun h => ?_) <;> try (exfalso; omega))) <;> conv => whnf)
 · refine FIN.valueK h0 rfl (congrArg SV.bool ?_)
   unfold Yd; rw [List.getElem?_eq_getElem (by omega)]; rfl
 · refine FIN.valueK h0 rfl (congrArg SV.bool ?_)
   unfold Yd; rw [List.getElem?_eq_none (by omega)]
theorem ZX (ps : List (List UInt8)) (i m : Nat) (him : i + (m + 1) = ps.length) (p : List UInt8) (hp : ps[i]? = some p) (L E S R : List UInt8) (v x : Nat) (P : List UInt8) :
   Does Tryz.prog tab 183 7 [.ptr (.loc 0) 0 0 0] [(0, J7 i (m + 1) L E S R v x P)] [(1, .rows 1 (ps.map Zb))] (fun r O nx => r = .str p ∧ O = [(0, J7 (i + 1) m L E S R v x P)] ∧ nx = 7) := by
 refine Does.enter Z2 (g := 183) (fn := Tryz.f183) Tryz.call183 Tryz.func183 rfl 19 rfl rfl [.tmp 2] rfl ?_
 intro w0 F η0 h0
 conv => whnf
 repeat' ((first | (refine GET.at (row := Zb p) (by rw [List.getElem?_map, show i + (0 : Int).toNat = i by simp, hp]; rfl) ?_; conv => whnf) | refine AU ?_ | (refine IW (fun h => ?_) (fun h => ?_) <;> try (exfalso; omega))) <;> conv => whnf)
 exact FIN.here h0 (Oc := [(0, J7 (i + 1) m L E S R v x P)]) rfl rfl rfl ⟨rfl, trivial⟩ ⟨rfl, rfl, rfl⟩
theorem W1 (least : Int) (ps : List (List UInt8)) (hb : J8 ps + ps.length ≤ 1152921504606846976) (i m : Nat) (him : i + m = ps.length) (L E S R : List UInt8) (v x : Nat) (P : List UInt8) :
   Does Tryz.prog tab 184 7 [.ptr (.loc 0) 0 0 0, .int .i64 least] [(0, J7 i m L E S R v x P)] [(1, .rows 1 (ps.map Zb))]
     (fun r O nx => ∃ (n : Nat) (s : List UInt8), n = ZO (fun s => ZH s least 8 false) (ps.drop i) ∧ s.length ≤ J8 ps + ps.length ∧ r = .tup [.str s, .bool (decide (n ≠ 0))] ∧ O = [(0, J7 (i + n) (m - n) L E S R v x P)] ∧ nx = 7) := by
 have hsm : ∀ s ∈ ps, Sm s := by
   intro s hs
   obtain ⟨j, hj, rfl⟩ := List.getElem_of_mem hs
   have h1 := Wh (List.getElem?_eq_getElem hj)
   have h2 := Yp ps (j + 1)
   omega
 refine Does.enter Z2 (g := 184) (fn := Tryz.f184) Tryz.call184 Tryz.func184 rfl 18 rfl rfl [.tmp 4, .tmp 5] rfl ?_
 intro w0 F η0 h0
 conv => whnf
 refine LOOP.go Z2 [0, 3] (X := Nat × List UInt8) (fun y => y.1 ≤ m ∧ y.2.length ≤ ((ps.take (i + y.1)).map List.length).sum + (i + y.1) ∧ (y.1 = 0 ↔ y.2 = []) ∧ ZO (fun s => ZH s least 8 false) (ps.drop i) = y.1 + ZO (fun s => ZH s least 8 false) (ps.drop (i + y.1))) (fun y => [(6, .str y.2)]) (fun y => [(0, J7 (i + y.1) (m - y.1) L E S R v x P), (7, .box [.int .i64 least])]) 8 (fun y => m - y.1) (0, []) ⟨by simp, by simp, by simp, by simp⟩ ?_
 conv => whnf
 refine ⟨by exact GOES.cA h0, ?_⟩
 rintro ⟨n, s⟩ ⟨hn, hl, h0s, hspan⟩
 dsimp only at hn hl h0s hspan ⊢
 conv => whnf
 refine CALL.here (Z3s least ps hsm (i + n) (m - n) (by omega) L E S R v x P) rfl rfl (by first | rfl | (simp only [Z7, Z3, Z0 _ (Z1 _), Bool.and_self, Bool.and_true] <;> rfl)) (by first | rfl | (simp only [Z7, Z3, Z0 _ (Z1 _), Bool.and_self, Bool.and_true] <;> rfl)) (by repeat' (first | exact trivial | exact rfl | ((conv => whnf); refine ⟨?_, ?_⟩))) (by repeat' (first | exact trivial | exact rfl | ((conv => whnf); refine ⟨?_, ?_⟩))) rfl ?_ ?_
 · rintro r O' nx' ⟨rfl, rfl, rfl⟩; exact ⟨rfl, rfl, rfl⟩
 rintro r O' ⟨rfl, rfl, _⟩
 conv => whnf
 refine ⟨fun h => ?_, fun h => ?_⟩
 · obtain ⟨p, hp, hpm⟩ : ∃ p, ps[i + n]? = some p ∧ ZH p least 8 false = true := by
     unfold Yd at h
     cases hp : ps[i + n]? with
     | none => rw [hp] at h; cases h
     | some p => rw [hp] at h; exact ⟨p, rfl, h⟩
   have hlt := (List.getElem?_eq_some_iff.1 hp).1
   have hs1 := Wh hp
   have hs2 := Yp ps (i + n + 1)
   obtain ⟨k, hk⟩ : ∃ k, m - n = k + 1 := ⟨m - n - 1, by omega⟩
   rw [hk]
   conv => whnf
   refine CALL.here (ZX ps (i + n) k (by omega) p hp L E S R v x P) rfl rfl (by first | rfl | (simp only [Z7, Z3, Z0 _ (Z1 _), Bool.and_self, Bool.and_true] <;> rfl)) (by first | rfl | (simp only [Z7, Z3, Z0 _ (Z1 _), Bool.and_self, Bool.and_true] <;> rfl)) (by repeat' (first | exact trivial | exact rfl | ((conv => whnf); refine ⟨?_, ?_⟩))) (by repeat' (first | exact trivial | exact rfl | ((conv => whnf); refine ⟨?_, ?_⟩))) rfl ?_ ?_
   · rintro r O' nx' ⟨rfl, rfl, rfl⟩; exact ⟨rfl, rfl, rfl⟩
   rintro r O' ⟨rfl, rfl, _⟩
   conv => whnf
   repeat' ((first | refine AU ?_ | (refine IW (fun h => ?_) (fun h => ?_) <;> try (exfalso; omega))) <;> conv => whnf)
   have hsp : ZO (fun s => ZH s least 8 false) (ps.drop (i + n)) = ZO (fun s => ZH s least 8 false) (ps.drop (i + (n + 1))) + 1 := by
     rw [List.drop_eq_getElem_cons hlt]
     have : ps[i + n] = p := by
       have := List.getElem?_eq_getElem hlt
       rw [hp] at this; injection this with this; exact this.symm
     rw [this]
     simp only [ZO, hpm, if_true]
     rfl
   refine ⟨(n + 1, s ++ ([45] ++ p)), ⟨by simp only; omega, ?_, by simp, by simp only; omega⟩, by simp only; omega, ?_⟩
   · simp only [List.length_append, List.length_cons, List.length_nil]
     rw [show i + (n + 1) = i + n + 1 by omega, hs1]; omega
   · dsimp only
     rw [show i + (n + 1) = i + n + 1 by omega, show m - (n + 1) = k by omega]
     conv => whnf
     exact GOES.cA h0
 · have hsp : ZO (fun s => ZH s least 8 false) (ps.drop (i + n)) = 0 := by
     unfold Yd at h
     cases hp : ps[i + n]? with
     | none => rw [List.drop_eq_nil_of_le (by simpa using hp)]; rfl
     | some p =>
       rw [hp] at h
       have hlt := (List.getElem?_eq_some_iff.1 hp).1
       rw [List.drop_eq_getElem_cons hlt]
       have : ps[i + n] = p := by
         have := List.getElem?_eq_getElem hlt
         rw [hp] at this; injection this with this; exact this.symm
       rw [this]
       simp only [ZO]
       simp only at h
       simp [h]
   have hs2 := Yp ps (i + n)
   conv => whnf
   repeat' ((first | refine AU ?_ | (refine IW (fun h => ?_) (fun h => ?_) <;> try (exfalso; omega))) <;> conv => whnf)
   refine FIN.here h0 (rc := .tup [.str s, .bool (decide (n ≠ 0))]) (Oc := [(0, J7 (i + n) (m - n) L E S R v x P)]) ?_ rfl rfl ⟨rfl, trivial⟩ ⟨n, s, by omega, by omega, rfl, rfl, rfl⟩
   show SV.tup [SV.str s, SV.bool (s != [])] = SV.tup [SV.str s, SV.bool (decide (n ≠ 0))]
   have : (s != []) = decide (n ≠ 0) := by rw [Bool.eq_iff_iff]; simp [h0s]
   rw [this]
def Z4O : Plan := (.take 0 1 (.take 1 1 (.take 2 1 (.take 3 1 (.take 5 1 (.fork 4 3 6 0 (Zj [(6, 0), (7, 1), (8, 1), (9, 1), (10, 1), (11, 0)]) (Zj [(4, 2), (7, 1), (8, 1), (9, 1), (10, 1), (11, 0)])))))))
theorem Wz {ps : List (List UInt8)} (hb : J8 ps + ps.length ≤ 1152921504606846976) : ∀ s ∈ ps, Sm s := by
 intro s hs
 obtain ⟨j, hj, rfl⟩ := List.getElem_of_mem hs
 have h1 := Wh (List.getElem?_eq_getElem hj)
 have h2 := Yp ps (j + 1)
 omega
theorem ZM {p : List UInt8 → Bool} {ps : List (List UInt8)} {i : Nat} (h : Yd p ps i = true) : ∃ s, ps[i]? = some s ∧ p s = true := by
 unfold Yd at h
 cases hp : ps[i]? with
 | none => rw [hp] at h; cases h
 | some s => rw [hp] at h; exact ⟨s, rfl, h⟩
theorem ZP {ps : List (List UInt8)} {i : Nat} {s : List UInt8} (h : ps[i]? = some s) : ps.drop i = s :: ps.drop (i + 1) := by
 obtain ⟨h1, rfl⟩ := List.getElem?_eq_some_iff.1 h
 exact List.drop_eq_getElem_cons h1
theorem Xg {p : List UInt8 → Bool} {ps : List (List UInt8)} {i : Nat} (h : Yd p ps i = false) : ps.drop i = [] ∨ ∃ s, ps[i]? = some s ∧ ps.drop i = s :: ps.drop (i + 1) ∧ p s = false := by
 unfold Yd at h
 cases hp : ps[i]? with
 | none => exact .inl (List.drop_eq_nil_of_le (by simpa using hp))
 | some s => rw [hp] at h; exact .inr ⟨s, rfl, ZP hp, h⟩
theorem Zdy {n : Nat} {ps : List (List UInt8)} {i : Nat} (h : Yd (fun s => ZH s 3 3 true) ps i = false) : extP n (ps.drop i) = ps.drop i := by
 rcases Xg h with h | ⟨s, _, h1, h2⟩
 · rw [h]; cases n <;> rfl
 · rw [h1]; cases n with
   | zero => rfl
   | succ n => simp only [extP]; simp [h2]
theorem XY {s : List UInt8} {a b : Int} {pure : Bool} (h : ZH s a b pure = true) : a ≤ s.length ∧ (s.length : Int) ≤ b := by
 unfold ZH at h; simp at h; omega
theorem Z4P (ps : List (List UInt8)) (hb : J8 ps + ps.length ≤ 1152921504606846976) (i m : Nat) (him : i + m = ps.length) (S R : List UInt8) (v x : Nat) (P : List UInt8) :
   Does Tryz.prog tab 181 4 [.ptr (.loc 0) 0 0 0] [(0, Ux i m [] [] S R v x P)] [(1, .rows 1 (ps.map Zb))]
     (fun r O nx => ∃ (i' m' : Nat) (L E : List UInt8), i' + m' = ps.length ∧ r = .bool (Jh (ps.drop i)).isSome ∧ (∀ l, Jh (ps.drop i) = some l → l = ps.drop i') ∧ O = [(0, Ux i' m' L E S R v x P)] ∧ nx = 4) := by
 have hsm := Wz hb
 refine Does.enter Z2 (g := 181) (fn := Tryz.f181) Tryz.call181 Tryz.func181 rfl 50 rfl rfl [.tmp 2] rfl ?_
 intro w0 F η0 h0
 conv => whnf
 refine CALL.here (JO 203 _ ps (fun s hs => Z9H s (hsm s hs)) i m him [] [] S R v x P) rfl rfl (by first | rfl | (simp only [Z7, Z3, Z0 _ (Z1 _), Bool.and_self, Bool.and_true] <;> rfl)) (by first | rfl | (simp only [Z7, Z3, Z0 _ (Z1 _), Bool.and_self, Bool.and_true] <;> rfl)) (by repeat' (first | exact trivial | exact rfl | ((conv => whnf); refine ⟨?_, ?_⟩))) (by repeat' (first | exact trivial | exact rfl | ((conv => whnf); refine ⟨?_, ?_⟩))) rfl ?_ ?_
 · rintro r O' nx' ⟨rfl, rfl, rfl⟩; exact ⟨rfl, rfl, rfl⟩
 rintro r O' ⟨rfl, rfl, _⟩
 conv => whnf
 refine IF.mk (fun h => ?_) (fun h => ?_)
 · conv => whnf
   have h : Yd (fun s => ZH s 2 8 true) ps i = false := by simpa using h
   have hn : Jh (ps.drop i) = none := by
     rcases Xg h with h | ⟨s, _, h1, h2⟩
     · rw [h]; rfl
     · rw [h1]; simp only [Jh]; simp [h2]
   exact FIN.here h0 (Oc := [(0, Ux i m [] [] S R v x P)]) rfl rfl rfl ⟨rfl, trivial⟩ ⟨i, m, [], [], him, by rw [hn]; rfl, by simp [hn], rfl, rfl⟩
 have h : Yd (fun s => ZH s 2 8 true) ps i = true := by simpa using h
 obtain ⟨p, hp, hpm⟩ := ZM h
 have hlt := (List.getElem?_eq_some_iff.1 hp).1
 have hd := ZP hp
 obtain ⟨k, rfl⟩ : ∃ k, m = k + 1 := ⟨m - 1, by omega⟩
 have hlen := XY hpm
 conv => whnf
 refine CALL.here (Ye ps i k him p hp [] [] S R v x P) rfl rfl (by first | rfl | (simp only [Z7, Z3, Z0 _ (Z1 _), Bool.and_self, Bool.and_true] <;> rfl)) (by first | rfl | (simp only [Z7, Z3, Z0 _ (Z1 _), Bool.and_self, Bool.and_true] <;> rfl)) (by repeat' (first | exact trivial | exact rfl | ((conv => whnf); refine ⟨?_, ?_⟩))) (by repeat' (first | exact trivial | exact rfl | ((conv => whnf); refine ⟨?_, ?_⟩))) rfl ?_ ?_
 · rintro r O' nx' ⟨rfl, rfl, rfl⟩; exact ⟨rfl, rfl, rfl⟩
 rintro r O' ⟨rfl, rfl, _⟩
 conv => whnf
 refine IF.mk (fun h => ?_) (fun h => ?_)
 · conv => whnf
   have h : 3 < p.length := by simp at h; omega
   exact FIN.here h0 (Oc := [(0, Ux (i + 1) k p [] S R v x P)]) rfl rfl rfl ⟨rfl, trivial⟩ ⟨i + 1, k, p, [], by omega, by rw [hd]; simp only [Jh]; simp [hpm, h], by rw [hd]; simp only [Jh]; simp [hpm, h], rfl, rfl⟩
 have h : ¬ 3 < p.length := by simp at h; omega
 have hL : Jh (ps.drop i) = some (extP 3 (ps.drop (i + 1))) := by rw [hd]; simp only [Jh]; rw [if_pos hpm, if_neg h]
 conv => whnf
 refine LOOP.go Z2 [0] (X := Nat × List UInt8 × Nat) (fun y => y.1 ≤ 3 ∧ y.2.1.length ≤ 4 * y.1 ∧ y.2.2 + (ps.length - y.2.2) = ps.length ∧ extP 3 (ps.drop (i + 1)) = extP (3 - y.1) (ps.drop y.2.2)) (fun y => [(3, .int .i64 (y.1 : Int))]) (fun y => [(0, Ux y.2.2 (ps.length - y.2.2) p y.2.1 S R v x P)]) 4 (fun y => 3 - y.1) (0, [], i + 1) ⟨by simp, by simp, by simp only; omega, rfl⟩ ?_
 conv => whnf
 rw [show ps.length - (i + 1) = k by omega]
 refine ⟨by exact GOES.cA h0, ?_⟩
 rintro ⟨c, E, a⟩ ⟨hc, hE, ha, hx⟩
 dsimp only at hc hE ha hx ⊢
 conv => whnf
 have fin : Yd (fun s => ZH s 3 3 true) ps a = false ∨ c = 3 → extP 3 (ps.drop (i + 1)) = ps.drop a := by
   rintro (h | h)
   · rw [hx, Zdy h]
   · subst h; rw [hx]; rfl
 refine IF.mk (fun h => ?_) (fun h => ?_)
 · have h : c < 3 := by simp at h; omega
   conv => whnf
   repeat' ((first | refine AU ?_ | (refine IW (fun h => ?_) (fun h => ?_) <;> try (exfalso; omega))) <;> conv => whnf)
   refine CALL.here (JO 205 _ ps (fun s hs => Z9I s (hsm s hs)) a (ps.length - a) ha p E S R v x P) rfl rfl (by first | rfl | (simp only [Z7, Z3, Z0 _ (Z1 _), Bool.and_self, Bool.and_true] <;> rfl)) (by first | rfl | (simp only [Z7, Z3, Z0 _ (Z1 _), Bool.and_self, Bool.and_true] <;> rfl)) (by repeat' (first | exact trivial | exact rfl | ((conv => whnf); refine ⟨?_, ?_⟩))) (by repeat' (first | exact trivial | exact rfl | ((conv => whnf); refine ⟨?_, ?_⟩))) rfl ?_ ?_
   · rintro r O' nx' ⟨rfl, rfl, rfl⟩; exact ⟨rfl, rfl, rfl⟩
   rintro r O' ⟨rfl, rfl, _⟩
   conv => whnf
   repeat' ((first | refine AU ?_ | (refine IW (fun h => ?_) (fun h => ?_) <;> try (exfalso; omega))) <;> conv => whnf)
   · obtain ⟨q, hq, hqm⟩ := ZM (by assumption)
     have hql := XY hqm
     obtain ⟨k', hk'⟩ : ∃ k', ps.length - a = k' + 1 := ⟨ps.length - a - 1, by have := (List.getElem?_eq_some_iff.1 hq).1; omega⟩
     rw [hk']
     repeat' ((first | refine DRAWN.of (id := 11) Z2 Z8 Z4O (by kernel_rfl) ?_ | refine ADD.mk (fun _ _ => ?_) | refine AD ?_ | refine FORK.mk ?_ ?_ | refine AU ?_ | (refine IW (fun h => ?_) (fun h => ?_) <;> try (exfalso; omega))) <;> conv => whnf)
     all_goals
       refine CALL.here (Ye ps a k' (by omega) q hq p (E ++ [45]) S R v x P) rfl rfl (by first | rfl | (simp only [Z7, Z3, Z0 _ (Z1 _), Bool.and_self, Bool.and_true] <;> rfl)) (by first | rfl | (simp only [Z7, Z3, Z0 _ (Z1 _), Bool.and_self, Bool.and_true] <;> rfl)) (by repeat' (first | exact trivial | exact rfl | ((conv => whnf); refine ⟨?_, ?_⟩))) (by repeat' (first | exact trivial | exact rfl | ((conv => whnf); refine ⟨?_, ?_⟩))) rfl ?_ ?_
       · rintro r O' nx' ⟨rfl, rfl, rfl⟩; exact ⟨rfl, rfl, rfl⟩
       rintro r O' ⟨rfl, rfl, _⟩
       conv => whnf
       repeat' ((first | refine DRAWN.of (id := 11) Z2 Z8 Z4O (by kernel_rfl) ?_ | refine ADD.mk (fun _ _ => ?_) | refine AD ?_ | refine FORK.mk ?_ ?_ | refine AU ?_ | (refine IW (fun h => ?_) (fun h => ?_) <;> try (exfalso; omega))) <;> conv => whnf)
       refine ⟨(c + 1, (E ++ [45]) ++ q, a + 1), ⟨by simp only; omega, by simp only [List.length_append, List.length_cons, List.length_nil]; omega, by simp only; omega, ?_⟩, by simp only; omega, ?_⟩
       · rw [hx, ZP hq, show 3 - c = (3 - (c + 1)) + 1 by omega]; simp only [extP]; rw [if_pos hqm]
       · dsimp only
         rw [show ps.length - (a + 1) = k' by omega]
         conv => whnf
         exact GOES.cA h0
   · obtain ⟨q, hq, hqm⟩ := ZM (by assumption)
     have hql := XY hqm
     obtain ⟨k', hk'⟩ : ∃ k', ps.length - a = k' + 1 := ⟨ps.length - a - 1, by have := (List.getElem?_eq_some_iff.1 hq).1; omega⟩
     rw [hk']
     have hc0 : c = 0 := by omega
     repeat' ((first | refine DRAWN.of (id := 11) Z2 Z8 Z4O (by kernel_rfl) ?_ | refine ADD.mk (fun _ _ => ?_) | refine AD ?_ | refine FORK.mk ?_ ?_ | refine AU ?_ | (refine IW (fun h => ?_) (fun h => ?_) <;> try (exfalso; omega))) <;> conv => whnf)
     all_goals
       refine CALL.here (Ye ps a k' (by omega) q hq p (E) S R v x P) rfl rfl (by first | rfl | (simp only [Z7, Z3, Z0 _ (Z1 _), Bool.and_self, Bool.and_true] <;> rfl)) (by first | rfl | (simp only [Z7, Z3, Z0 _ (Z1 _), Bool.and_self, Bool.and_true] <;> rfl)) (by repeat' (first | exact trivial | exact rfl | ((conv => whnf); refine ⟨?_, ?_⟩))) (by repeat' (first | exact trivial | exact rfl | ((conv => whnf); refine ⟨?_, ?_⟩))) rfl ?_ ?_
       · rintro r O' nx' ⟨rfl, rfl, rfl⟩; exact ⟨rfl, rfl, rfl⟩
       rintro r O' ⟨rfl, rfl, _⟩
       conv => whnf
       repeat' ((first | refine DRAWN.of (id := 11) Z2 Z8 Z4O (by kernel_rfl) ?_ | refine ADD.mk (fun _ _ => ?_) | refine AD ?_ | refine FORK.mk ?_ ?_ | refine AU ?_ | (refine IW (fun h => ?_) (fun h => ?_) <;> try (exfalso; omega))) <;> conv => whnf)
       refine ⟨(c + 1, (E) ++ q, a + 1), ⟨by simp only; omega, by simp only [List.length_append, List.length_cons, List.length_nil]; omega, by simp only; omega, ?_⟩, by simp only; omega, ?_⟩
       · rw [hx, ZP hq, show 3 - c = (3 - (c + 1)) + 1 by omega]; simp only [extP]; rw [if_pos hqm]
       · dsimp only
         rw [show ps.length - (a + 1) = k' by omega]
         conv => whnf
         exact GOES.cA h0
   · exact FIN.here h0 (Oc := [(0, Ux a (ps.length - a) p E S R v x P)]) rfl rfl rfl ⟨rfl, trivial⟩ ⟨a, ps.length - a, p, E, ha, by rw [hL]; rfl, by rw [hL]; rintro l ⟨⟩; exact fin (.inl (by assumption)), rfl, rfl⟩
 · have h : c = 3 := by simp at h; omega
   conv => whnf
   repeat' ((first | refine AU ?_ | (refine IW (fun h => ?_) (fun h => ?_) <;> try (exfalso; omega))) <;> conv => whnf)
   exact FIN.here h0 (Oc := [(0, Ux a (ps.length - a) p E S R v x P)]) rfl rfl rfl ⟨rfl, trivial⟩ ⟨a, ps.length - a, p, E, ha, by rw [hL]; rfl, by rw [hL]; rintro l ⟨⟩; exact fin (.inr h), rfl, rfl⟩
theorem Z0A {p : List UInt8 → Bool} {ps : List (List UInt8)} {i : Nat} (h : Yd p ps i = false) : XJ p (ps.drop i) = ps.drop i := by
 rcases Xg h with h | ⟨s, _, h1, h2⟩
 · rw [h]; rfl
 · rw [h1]; simp only [XJ]; rw [if_neg (by simp [h2])]
theorem V8 {p : List UInt8 → Bool} {ps : List (List UInt8)} {i : Nat} {s : List UInt8} (h : ps[i]? = some s) (hp : p s = true) : XJ p (ps.drop i) = ps.drop (i + 1) := by
 rw [ZP h]; simp only [XJ]; rw [if_pos hp]
theorem Z4Q (l : List (List UInt8)) (s : List UInt8) (hl : l.length ≤ 1152921504606846976) : Does Tryz.prog tab 221 1 [.sl (.loc 0) 0 1 l.length none, .str s] [] [(0, .rows 1 (l.map Zb))]
   (fun r O nx => ∃ n : Int, (0 ≤ n ↔ s ∈ l) ∧ r = .int .i64 n ∧ O = [] ∧ nx = 1) := by
 refine Does.enter Z2 (g := 221) (fn := Tryz.f221) Tryz.call221 Tryz.func221 rfl 19 rfl rfl [.tmp 4] rfl ?_
 intro w0 F η0 h0
 conv => whnf
 refine LOOP.go Z2 [0, 1, 7] (X := Nat) (fun i => i ≤ l.length ∧ s ∉ l.take i) (fun i => [(8, .int .i64 (i : Int))]) (fun i => []) 1 (fun i => l.length - i) 0 ⟨by omega, by simp⟩ ?_
 conv => whnf
 refine ⟨by exact GOES.cA h0, ?_⟩
 rintro i ⟨hi, hc⟩
 conv => whnf
 repeat' ((first | (refine GET.at (row := Zb (l[i]'(by omega))) (by rw [List.getElem?_map, show 0 + (i : Int).toNat = i by omega, List.getElem?_eq_getElem (by omega)]; rfl) ?_; conv => whnf) | refine AU ?_ | (refine IW (fun h => ?_) (fun h => ?_) <;> try (exfalso; omega))) <;> conv => whnf)
 · have hl : i < l.length := by omega
   exact FIN.val h0 rfl ⟨i, ⟨fun _ => by subst h; exact List.getElem_mem hl, fun _ => by omega⟩, rfl, rfl, rfl⟩
 · have hl : i < l.length := by omega
   refine ⟨i + 1, ⟨by omega, ?_⟩, by omega, ?_⟩
   · rw [List.take_succ_eq_append_getElem hl]
     simp only [List.mem_append, List.mem_singleton]
     rintro (h1 | h1)
     · exact hc h1
     · exact h h1
   · conv => whnf
     exact GOES.cA h0
 · refine FIN.val h0 rfl ⟨-1, ⟨fun h => by omega, fun h1 => ?_⟩, rfl, rfl, rfl⟩
   rw [List.take_of_length_le (by omega)] at hc
   exact (hc h1).elim
theorem Yf (l : List (List UInt8)) (s : List UInt8) (hl : l.length ≤ 1152921504606846976) : Does Tryz.prog tab 209 1 [.sl (.loc 0) 0 1 l.length none, .str s] [] [(0, .rows 1 (l.map Zb))] (ValK 1 (.bool (decide (s ∈ l)))) := by
 refine Does.enter Z2 (g := 209) (fn := Tryz.f209) Tryz.call209 Tryz.func209 rfl 9 rfl rfl [.tmp 4] rfl ?_
 intro w0 F η0 h0
 conv => whnf
 refine CALL.here (Z4Q l s hl) rfl rfl (by first | rfl | (simp only [Z7, Z3, Z0 _ (Z1 _), Bool.and_self, Bool.and_true] <;> rfl)) (by first | rfl | (simp only [Z7, Z3, Z0 _ (Z1 _), Bool.and_self, Bool.and_true] <;> rfl)) (by repeat' (first | exact trivial | exact rfl | ((conv => whnf); refine ⟨?_, ?_⟩))) (by repeat' (first | exact trivial | exact rfl | ((conv => whnf); refine ⟨?_, ?_⟩))) rfl ?_ ?_
 · rintro r O' nx' ⟨n, _, rfl, rfl, rfl⟩; exact ⟨rfl, rfl, rfl⟩
 rintro r O' ⟨n, hn, rfl, rfl, _⟩
 conv => whnf
 exact FIN.valueK h0 rfl (congrArg SV.bool (decide_eq_decide.2 hn))
def orE : List Int → Int
 | [] => 0
 | a :: l => if a ≠ 0 then a else orE l
def Zbw (a : Int) : List SV := [.int .i64 a]
theorem Z4R (xs : List Int) (hn : xs.length ≤ 1152921504606846976) : Does Tryz.prog tab 52 1 [.sl (.loc 0) 0 1 xs.length none] [] [(0, .rows 1 (xs.map Zbw))] (ValK 1 (.int .i64 (orE xs))) := by
 refine Does.enter Z2 (g := 52) (fn := Tryz.f52) Tryz.call52 Tryz.func52 rfl 18 rfl rfl [.tmp 2] rfl ?_
 intro w0 F η0 h0
 conv => whnf
 refine LOOP.go Z2 [3, 6, 7] (X := Nat) (fun i => i ≤ xs.length ∧ orE xs = orE (xs.drop i)) (fun i => [(8, .int .i64 (i : Int))]) (fun i => []) 1 (fun i => xs.length - i) 0 ⟨by omega, rfl⟩ ?_
 conv => whnf
 refine ⟨by exact GOES.cA h0, ?_⟩
 rintro i ⟨hi, ho⟩
 conv => whnf
 repeat' ((first | (refine GET.at (row := Zbw (xs[i]'(by omega))) (by rw [List.getElem?_map, show 0 + (i : Int).toNat = i by omega, List.getElem?_eq_getElem (by omega)]; rfl) ?_; conv => whnf) | refine AU ?_ | (refine IW (fun h => ?_) (fun h => ?_) <;> try (exfalso; omega))) <;> conv => whnf)
 · have hl : i < xs.length := by omega
   refine FIN.valueK h0 rfl (congrArg (SV.int _) ?_)
   rw [ho, List.drop_eq_getElem_cons hl]; simp only [orE]; rw [if_pos h]
 · have hl : i < xs.length := by omega
   refine ⟨i + 1, ⟨by omega, ?_⟩, by omega, ?_⟩
   · rw [ho, List.drop_eq_getElem_cons hl]; simp only [orE]; rw [if_neg (by simpa using h)]
   · conv => whnf
     exact GOES.cA h0
 · refine FIN.valueK h0 rfl (congrArg (SV.int _) ?_)
   rw [ho, List.drop_eq_nil_of_le (by omega)]; rfl
theorem Z13 (r : Int) : Does Tryz.prog tab 124 0 [.int .i64 r] [] [] (Val (.bool (decide (Us r)))) := by
 refine Does.enter Z2 (g := 124) (fn := Tryz.f124) Tryz.call124 Tryz.func124 rfl 9 rfl rfl [.tmp 2] rfl ?_
 intro w0 F η0 h0
 conv => whnf
 repeat' ((first | refine AU ?_ | (refine IW (fun h => ?_) (fun h => ?_) <;> try (exfalso; omega))) <;> conv => whnf)
 refine FIN.value h0 rfl (congrArg SV.bool ?_)
 rw [Bool.eq_iff_iff]
 simp only [Bool.cond_eq_ite, decide_eq_true_eq, Bool.if_false_right, Bool.if_true_left, Bool.and_eq_true, Bool.or_eq_true]
 rfl
def ZcK : List (List SV) := [65, 90, 97, 122, 192, 214, 216, 246, 248, 767, 880, 893, 895, 8191, 8204, 8205, 8304, 8591, 11264, 12271, 12289, 55295, 63744, 64975, 65008, 65533, 65536, 983039].map fun x => [SV.int .i64 x]
theorem Z6o : Does Tryz.prog tab 189 0 [] [] [] (Val (.arr 1 ZcK)) := by
 refine Does.enter Z2 (g := 189) (fn := Tryz.f189) Tryz.call189 Tryz.func189 rfl 2 rfl rfl [.cell 0 204] rfl ?_
 intro w0 F η0 h0
 conv => whnf
 repeat' ((first | refine AU ?_ | (refine IW (fun h => ?_) (fun h => ?_) <;> try (exfalso; omega))) <;> conv => whnf)
 exact FIN.value h0 rfl rfl
theorem Z7A (r : Int) : Does Tryz.prog tab 157 0 [.int .i64 r] [] [] (Val (.bool (decide (Z2J r)))) := by
 refine Does.enter Z2 (g := 157) (fn := Tryz.f157) Tryz.call157 Tryz.func157 rfl 23 rfl rfl [.tmp 2] rfl ?_
 intro w0 F η0 h0
 conv => whnf
 repeat' ((first | refine CALL.value (Z6o) rfl rfl ?_ | (refine LOOP.once Z2 ?_; conv => whnf) | (refine NEED.mk ⟨rfl, rfl, rfl, rfl, rfl⟩ ?_; conv => whnf) | refine AU ?_ | (refine IW (fun h => ?_) (fun h => ?_) <;> try (exfalso; omega))) <;> conv => whnf)
 all_goals
   refine FIN.value h0 rfl (congrArg SV.bool ?_)
   first
     | exact (decide_eq_true (by unfold Z2J; omega)).symm
     | exact (decide_eq_false (by unfold Z2J; omega)).symm
theorem Wj (r : Int) : Does Tryz.prog tab 123 0 [.int .i64 r] [] [] (Val (.bool (decide (WV r)))) := by
 refine Does.enter Z2 (g := 123) (fn := Tryz.f123) Tryz.call123 Tryz.func123 rfl 9 rfl rfl [.tmp 2] rfl ?_
 intro w0 F η0 h0
 conv => whnf
 repeat' ((first | refine CALL.value (Z7A _) rfl rfl ?_ | refine AU ?_ | (refine IW (fun h => ?_) (fun h => ?_) <;> try (exfalso; omega))) <;> conv => whnf)
 all_goals
   refine FIN.value h0 rfl (congrArg SV.bool ?_)
   rw [Bool.eq_iff_iff, decide_eq_true_iff]
   unfold WV
   simp
theorem Z2Y (r : Int) : Does Tryz.prog tab 158 0 [.int .i64 r] [] [] (Val (.bool (decide (Yw r)))) := by
 refine Does.enter Z2 (g := 158) (fn := Tryz.f158) Tryz.call158 Tryz.func158 rfl 33 rfl rfl [.tmp 2] rfl ?_
 intro w0 F η0 h0
 conv => whnf
 repeat' ((first | refine CALL.value (Wj _) rfl rfl ?_ | refine CALL.value (Z13 _) rfl rfl ?_ | refine AU ?_ | (refine IW (fun h => ?_) (fun h => ?_) <;> try (exfalso; omega))) <;> conv => whnf)
 all_goals
   refine FIN.value h0 rfl (congrArg SV.bool ?_)
   rw [Bool.eq_iff_iff]
   unfold Yw
   simp_all
   try omega
def V9 (x : Int) : List SV := [.int .i64 x]
theorem JP (l : List Int) : Zz (l.map V9) = true := Yi _ (fun _ => rfl) l
instance : PlF V9 := ⟨fun _ => rfl⟩
theorem Z2Z {l : List Int} {i : Nat} (h : i < l.length) : Xy (l.drop i) = if i + 1 = l.length then decide (Yw l[i]) else (decide (Yw l[i] ∨ l[i] = 46) && Xy (l.drop (i + 1))) := by
 rw [List.drop_eq_getElem_cons h]
 cases hd : l.drop (i + 1) with
 | nil =>
   have := congrArg List.length hd
   simp at this
   rw [if_pos (by omega)]; rfl
 | cons q t =>
   have := congrArg List.length hd
   simp at this
   rw [if_neg (by omega)]; rfl
theorem Z4S (l : List Int) (hl : l.length ≤ 1152921504606846976) : Does Tryz.prog tab 125 1 [.sl (.loc 0) 0 1 l.length none] [] [(0, .rows 1 (l.map V9))] (ValK 1 (.bool (Xy (l.drop 1)))) := by
 refine Does.enter Z2 (g := 125) (fn := Tryz.f125) Tryz.call125 Tryz.func125 rfl 30 rfl rfl [.tmp 2] rfl ?_
 intro w0 F η0 h0
 conv => whnf
 refine LOOP.go Z2 [0] (X := Nat) (fun i => 1 ≤ i ∧ Xy (l.drop i) = Xy (l.drop 1)) (fun i => [(3, .int .i64 (i : Int))]) (fun i => []) 1 (fun i => l.length - i) 1 ⟨by omega, rfl⟩ ?_
 conv => whnf
 refine ⟨by exact GOES.cA h0, ?_⟩
 rintro i ⟨hi, hc⟩
 conv => whnf
 repeat' ((first | refine CALL.value (Z2Y _) rfl rfl ?_ | (refine GET.map (by omega) ?_; conv => whnf) | (refine GETG.at (row := V9 (l[0 + (i : Int).toNat]'(by omega))) (by rw [List.getElem?_map, List.getElem?_eq_getElem (by omega)]; rfl) ?_; conv => whnf) | refine AU ?_ | (refine IW (fun h => ?_) (fun h => ?_) <;> try (exfalso; omega))) <;> conv => whnf)
 · rename_i h1
   have h1 : i < l.length := by omega
   have e : l[0 + (i : Int).toNat] = l[i] := by congr 1; omega
   rw [e] at h
   refine FIN.valueK h0 rfl (congrArg SV.bool ?_)
   rw [← hc, Z2Z h1]
   split
   · simp [h.1]
   · rcases h.2 with h2 | h2
     · simp [h.1, h2]
     · omega
 · rename_i h1
   have h1 : i < l.length := by omega
   have e : l[0 + (i : Int).toNat] = l[i] := by congr 1; omega
   rw [e] at h
   refine ⟨i + 1, ⟨by omega, ?_⟩, by omega, ?_⟩
   · rw [← hc, Z2Z h1]
     by_cases hf : Yw l[i]
     · split
       · rename_i h2; rw [List.drop_eq_nil_of_le (by omega)]; simp [hf, Xy]
       · simp [hf]
     · have := h hf
       rw [if_neg (by omega)]; simp [this.1]
   · conv => whnf
     exact GOES.cA h0
 · refine FIN.valueK h0 rfl (congrArg SV.bool ?_)
   rw [← hc, List.drop_eq_nil_of_le (by omega)]; rfl
def Z4T (o : Option (List Int)) : SV → Hps → Nat → Prop := fun r O nx => match o with
 | some l => r = .tup [.sl (.loc 0) 0 1 l.length none, .bool true] ∧ O = [(0, .rows 1 (l.map V9))] ∧ nx = 1
 | none => r = .tup [.val (.slice none 0 0), .bool false] ∧ O = [] ∧ nx = 0
theorem Wk (s : List UInt8) (hs : s.length ≤ 68719476736) : Does Tryz.prog tab 122 0 [.str s] [] [] (Z4T (scalarsM s 0)) := by
 refine Does.enter Z2 (g := 122) (fn := Tryz.f122) Tryz.call122 Tryz.func122 rfl 28 rfl rfl [.tmp 2, .tmp 3] rfl ?_
 intro w0 F η0 h0
 conv => whnf
 refine LOOP.nil 4 1 rfl ?_
 refine LOOP.go Z2 [0] (X := Nat × List Int) (fun x => x.1 ≤ s.length ∧ x.2.length ≤ x.1 ∧ scalarsM s 0 = (scalarsM s x.1).map (x.2 ++ ·)) (fun x => [(5, .int .i64 (x.1 : Int)), (4, .sl (.loc 0) 0 1 x.2.length none)]) (fun x => [(0, .rows 1 (x.2.map V9))]) 1 (fun x => s.length - x.1) (0, []) ⟨by simp, by simp, by cases scalarsM s 0 <;> simp⟩ ?_
 conv => whnf
 refine ⟨by exact GOES.cA h0, ?_⟩
 rintro ⟨i, l⟩ ⟨hi, hl, hc⟩
 simp only at hi hl hc
 have hn := Yv s i
 dsimp only
 conv => whnf
 repeat' ((first | refine CALL.value (Wf s _ (by omega)) rfl rfl ?_ | refine AU ?_ | (refine IW (fun h => ?_) (fun h => ?_) <;> try (exfalso; omega))) <;> conv => whnf)
 · rename_i h1
   refine FIN.val h0 rfl ?_
   have : scalarsM s i = none := by rw [scalarsM, dif_pos (by omega), dif_neg (by simpa using h)]
   rw [hc, this]
   exact ⟨rfl, rfl, rfl⟩
 · rename_i h1
   refine ⟨(i + (Zg s i).2.toNat, l ++ [(Zg s i).1]), ⟨by simp only; omega, by simp only [List.length_append, List.length_cons, List.length_nil]; omega, ?_⟩, by simp only; omega, ?_⟩
   · rw [hc]
     conv => lhs; rw [scalarsM, dif_pos (by omega), dif_pos (by simpa using h)]
     cases scalarsM s (i + (Zg s i).2.toNat) <;> simp
   · dsimp only
     conv => whnf
     (refine GOES.keeping h0 [2] rfl rfl rfl (by first | rfl | (simp only [Z7, Z3, Z0 _ (JP _), Bool.and_self, Bool.and_true] <;> rfl)) ?_ ?_ <;> (repeat' (first | (with_reducible rfl) | (exact Za (JP _) (Z6 _ (JP _))) | (exact Za (JP _) (by simp [V9, ZK, List.take_of_length_le])) | (exact Zu rfl (by first | (simp; done) | omega | (simp; omega))) | (exact congrArg (SV.int _) (by first | omega | (simp (disch := omega) only [lnB, Z5, Z9] <;> omega) | (simp; done) | (simp <;> omega))) | ((conv => whnf); refine ⟨?_, ?_⟩) | exact trivial | (simp only [ren, renB]; done) | rfl)))
 · refine FIN.rowsT h0 0 1 _ rfl rfl rfl (JP _) rfl ?_
   have : scalarsM s i = some [] := by rw [scalarsM, dif_neg (by omega)]
   rw [hc, this]
   simp [Z4T]
theorem Z7B (s : List UInt8) (i : Nat) : ∀ l, scalarsM s i = some l → l.length ≤ s.length - i := by
 induction i using scalarsM.induct s with
 | case1 i h h0 ih =>
   intro l hl
   have hn := Yv s i
   rw [scalarsM, dif_pos h, dif_pos h0] at hl
   cases hc : scalarsM s (i + (Zg s i).2.toNat) with
   | none => rw [hc] at hl; cases hl
   | some t =>
     rw [hc] at hl
     simp only [Option.map_some, Option.some.injEq] at hl
     subst hl
     have := ih t hc
     simp only [List.length_cons]; omega
 | case2 i h h0 => intro l hl; rw [scalarsM, dif_pos h, dif_neg h0] at hl; cases hl
 | case3 i h => intro l hl; rw [scalarsM, dif_neg h] at hl; injection hl with hl; subst hl; simp
theorem Z6p (s : List UInt8) (hs : s.length ≤ 68719476736) : Does Tryz.prog tab 106 0 [.str s] [] [] (Val (.int .i64 (Z8q s))) := by
 refine Does.enter Z2 (g := 106) (fn := Tryz.f106) Tryz.call106 Tryz.func106 rfl 36 rfl rfl [.tmp 2] rfl ?_
 intro w0 F η0 h0
 conv => whnf
 unfold Z8q
 cases hc : scalarsM s 0 with
 | none =>
   have sp := (Wk s hs).mono (Q' := Val (.tup [.val (.slice none 0 0), .bool false])) (fun r O nx hq => by rw [hc] at hq; exact hq)
   refine CALL.value sp rfl rfl ?_
   conv => whnf
   repeat' ((first | refine AU ?_ | (refine IW (fun h => ?_) (fun h => ?_) <;> try (exfalso; omega))) <;> conv => whnf)
   exact FIN.value h0 rfl rfl
 | some l =>
   have sp := (Wk s hs).mono (Q' := NewT 1 (l.map V9) [.bool true]) (fun r O nx hq => by rw [hc] at hq; simpa [NewT, Z4T] using hq)
   refine CALL.newT sp rfl (JP l) rfl ?_
   have hlen : (l.map V9).length = l.length := by simp
   rw [hlen]
   conv => whnf
   cases l with
   | nil =>
     repeat' ((first | refine AU ?_ | (refine IW (fun h => ?_) (fun h => ?_) <;> try (exfalso; omega))) <;> conv => whnf)
     exact FIN.value h0 rfl rfl
   | cons r l =>
     have hL : (r :: l).length ≤ 1152921504606846976 := by have := Z7B s 0 _ hc; omega
     repeat' ((first | (refine GET.at (row := V9 r) rfl ?_; conv => whnf) | refine CALL.value (Wj _) rfl rfl ?_ | refine CALL.value (Z13 _) rfl rfl ?_ | (refine CALL.look1 _ (Z4S (r :: l) hL) rfl rfl rfl rfl (JP _) rfl ?_; conv => whnf) | refine AU ?_ | (refine IW (fun h => ?_) (fun h => ?_) <;> try (exfalso; omega))) <;> conv => whnf)
     all_goals
       refine FIN.value h0 rfl (congrArg (SV.int _) ?_)
       try simp only [List.drop_succ_cons, List.drop_zero] at h
       unfold JI
       simp [*]
theorem Wl (s : List UInt8) (hs : Sm s) : Does Tryz.prog tab 192 0 [.str s] [] [] (Val (.bool (allB JJ s 0))) := by
 refine Does.enter Z2 (g := 192) (fn := Tryz.f192) Tryz.call192 Tryz.func192 rfl 29 rfl rfl [.tmp 2] rfl ?_
 intro w0 F η0 h0
 conv => whnf
 refine LOOP.go Z2 [0] (X := Nat) (fun i => i ≤ s.length ∧ allB JJ s i = allB JJ s 0) (fun i => [(3, .int .i64 (i : Int))]) (fun i => []) 0 (fun i => s.length - i) 0 ⟨by omega, rfl⟩ ?_
 conv => whnf
 refine ⟨by exact GOES.cA h0, ?_⟩
 rintro i ⟨hi, hc⟩
 conv => whnf
 repeat' ((first | refine AU ?_ | (refine IW (fun h => ?_) (fun h => ?_) <;> try (exfalso; omega))) <;> conv => whnf)
 · refine FIN.value h0 rfl (congrArg SV.bool ?_)
   rw [← hc, Jg (by omega), show JJ (Z4 s i) = false from decide_eq_false (by unfold Xx; omega)]; rfl
 · refine ⟨i + 1, ⟨by omega, ?_⟩, by omega, ?_⟩
   · rw [← hc, Jg (i := i) (by omega), show JJ (Z4 s i) = true from decide_eq_true (by unfold Xx; omega), Bool.true_and]
   · conv => whnf
     exact GOES.cA h0
 · refine FIN.value h0 rfl (congrArg SV.bool ?_)
   rw [← hc, UX (by omega)]
theorem JQ (s : List UInt8) (hs : Sm s) : Does Tryz.prog tab 191 0 [.str s] [] [] (Val (.bool (allB Xl s 0))) := by
 refine Does.enter Z2 (g := 191) (fn := Tryz.f191) Tryz.call191 Tryz.func191 rfl 20 rfl rfl [.tmp 2] rfl ?_
 intro w0 F η0 h0
 conv => whnf
 refine LOOP.go Z2 [0] (X := Nat) (fun i => i ≤ s.length ∧ allB Xl s i = allB Xl s 0) (fun i => [(3, .int .i64 (i : Int))]) (fun i => []) 0 (fun i => s.length - i) 0 ⟨by omega, rfl⟩ ?_
 conv => whnf
 refine ⟨by exact GOES.cA h0, ?_⟩
 rintro i ⟨hi, hc⟩
 conv => whnf
 repeat' ((first | refine AU ?_ | (refine IW (fun h => ?_) (fun h => ?_) <;> try (exfalso; omega))) <;> conv => whnf)
 · refine FIN.value h0 rfl (congrArg SV.bool ?_)
   rw [← hc, Jg (by omega), show Xl (Z4 s i) = false from decide_eq_false (by unfold Us; omega)]; rfl
 · refine ⟨i + 1, ⟨by omega, ?_⟩, by omega, ?_⟩
   · rw [← hc, Jg (i := i) (by omega), show Xl (Z4 s i) = true from decide_eq_true (by unfold Us; omega), Bool.true_and]
   · conv => whnf
     exact GOES.cA h0
 · refine FIN.value h0 rfl (congrArg SV.bool ?_)
   rw [← hc, UX (by omega)]
theorem cutB {s : List UInt8} {i : Nat} (h : i < s.length) : (s.drop (i : Int).toNat).take (((i : Int) + 1).toNat - (i : Int).toNat) = [s.getD i 0] := by
 rw [show ((i : Int) + 1).toNat - (i : Int).toNat = 1 by omega, Int.toNat_natCast, YO h]; rfl
theorem Zf8 (s : List UInt8) (i : Nat) : bn (s.getD i 0) = Z4 s i := rfl
theorem JR (s : List UInt8) (least most : Int) (hs : Sm s) : Does Tryz.prog tab 165 0 [.str s, .int .i64 least, .int .i64 most] [] [] (Val (.bool (ZH s least most false))) := by
 refine Does.enter Z2 (g := 165) (fn := Tryz.f165) Tryz.call165 Tryz.func165 rfl 40 rfl rfl [.tmp 6] rfl ?_
 intro w0 F η0 h0
 conv => whnf
 refine LOOP.go Z2 [0, 1, 2] (X := Nat) (fun i => i ≤ s.length ∧ allB (JK false) s i = allB (JK false) s 0) (fun i => [(7, .int .i64 (i : Int))]) (fun i => []) 0 (fun i => s.length - i) 0 ⟨by omega, rfl⟩ ?_
 conv => whnf
 refine ⟨by exact GOES.cA h0, ?_⟩
 rintro i ⟨hi, hc⟩
 conv => whnf
 have sm : ∀ n m, Sm ((s.drop n).take m) := fun n m => by simp; omega
 repeat' ((first | refine CALL.value (Wl _ (sm _ _)) rfl rfl ?_ | refine CALL.value (JQ _ (sm _ _)) rfl rfl ?_ | refine AU ?_ | (refine IW (fun h => ?_) (fun h => ?_) <;> try (exfalso; omega))) <;> conv => whnf)
 all_goals first
   | (have hl : i < s.length := by omega
      simp only [cutB hl, Z8r, Zf8] at *
      first
        | (refine FIN.value h0 rfl (congrArg SV.bool ?_)
           have h1 : JK false (Z4 s i) = false := by unfold JK; simp [*]
           unfold ZH; rw [← hc, Jg hl, h1]; rfl)
        | (have h1 : JK false (Z4 s i) = true := by unfold JK; simp [*]
           refine ⟨i + 1, ⟨by omega, ?_⟩, by omega, ?_⟩
           · rw [← hc, Jg (i := i) hl, h1, Bool.true_and]
           · conv => whnf
             exact GOES.cA h0))
   | (refine FIN.value h0 rfl (congrArg SV.bool ?_)
      unfold ZH; rw [← hc, UX (by omega), Bool.eq_iff_iff]
      simp [Bool.cond_eq_ite])
theorem Z3t (s : List UInt8) (hs : Sm s) : Does Tryz.prog tab 164 0 [.str s] [] [] (Val (.bool (XW s))) := by
 have hm : ZH s 4 4 false = true → s.length = 4 := by unfold ZH; simp; omega
 have sm : ∀ m, Sm (s.take m) := fun m => by simp; omega
 refine Does.enter Z2 (g := 164) (fn := Tryz.f164) Tryz.call164 Tryz.func164 rfl 14 rfl rfl [.tmp 2] rfl ?_
 intro w0 F η0 h0
 conv => whnf
 repeat' ((first | refine CALL.value (JR _ _ _ hs) rfl rfl ?_ | refine CALL.value (JQ _ (sm _)) rfl rfl ?_ | (refine NEED.mk (by have := hm (by assumption); omega) ?_; conv => whnf) | refine AU ?_ | (refine IW (fun h => ?_) (fun h => ?_) <;> try (exfalso; omega))) <;> conv => whnf)
 all_goals
   refine FIN.value h0 rfl (congrArg SV.bool ?_)
   unfold XW
   by_cases h4 : ZH s 4 4 false = true
   · have := hm h4
     cases s with
     | nil => simp at this
     | cons a t =>
       have ht : (a :: t).take (1 : Int).toNat = [a] := rfl
       have hb : bn a = Z4 (a :: t) 0 := rfl
       try simp only [ht, Z8r, hb] at *
       simp_all
   · simp_all
theorem Yg (s : List UInt8) (hs : Sm s) : Does Tryz.prog tab 160 0 [.str s] [] [] (Val (.str (Zd s))) := by
 refine Does.enter Z2 (g := 160) (fn := Tryz.f160) Tryz.call160 Tryz.func160 rfl 35 rfl rfl [.tmp 2] rfl ?_
 intro w0 F η0 h0
 conv => whnf
 repeat' ((first | refine AU ?_ | (refine IW (fun h => ?_) (fun h => ?_) <;> try (exfalso; omega))) <;> conv => whnf)
 refine LOOP.go Z2 [3] (X := Nat) (fun i => i ≤ s.length) (fun i => [(4, .int .i64 (i : Int))]) (fun i => [(0, .rows 1 ((curL s i).map Sx.bytesRow))]) 1 (fun i => s.length - i) 0 (by omega) ?_
 conv => whnf
 refine ⟨by (refine GOES.cutting h0 rfl rfl rfl (by first | rfl | (simp only [Z7, Z3, Z0 _ (ZD _), Bool.and_self, Bool.and_true] <;> rfl)) ?_ ?_ <;> (repeat' (first | (with_reducible rfl) | (exact Zu rfl (by first | (simp; done) | omega | (simp; omega))) | (exact congrArg (SV.int _) (by first | omega | (simp (disch := omega) only [lnB, Z5, Z9] <;> omega) | (simp; done) | (simp <;> omega))) | (exact congrArg (Hp.rows _) (by rw [Z60])) | ((conv => whnf); refine ⟨?_, ?_⟩) | exact trivial | rfl))), ?_⟩
 intro i hi
 have hlen := Z8s s i
 conv => whnf
 repeat' ((first | (refine GET.at (row := Sx.bytesRow (s[i]'(by omega))) (by rw [show 0 + (i : Int).toNat = i by omega]; exact Z4I (by omega)) ?_; conv => whnf) | (refine GETG.at (row := Sx.bytesRow (s[i]'(by omega))) (by rw [show 0 + (i : Int).toNat = i by omega]; exact Z4I (by omega)) ?_; conv => whnf) | refine AU ?_ | (refine IW (fun h => ?_) (fun h => ?_) <;> try (exfalso; omega))) <;> conv => whnf)
 · have hl : i < s.length := by omega
   refine ⟨i + 1, by omega, by omega, ?_⟩
   conv => whnf
   (refine GOES.cutting h0 rfl rfl rfl (by first | rfl | (simp only [Z7, Z3, Z0 _ (ZD _), Bool.and_self, Bool.and_true] <;> rfl)) ?_ ?_ <;> (repeat' (first | (with_reducible rfl) | (exact Zu rfl (by first | (simp; done) | omega | (simp; omega))) | (exact congrArg (SV.int _) (by first | omega | (simp (disch := omega) only [lnB, Z5, Z9] <;> omega) | (simp; done) | (simp <;> omega))) | (exact congrArg (Hp.rows _) (by rw [Zbd h, show 0 + (i : Int).toNat = i by omega, Z8u hl])) | ((conv => whnf); refine ⟨?_, ?_⟩) | exact trivial | rfl)))
 · have hl : i < s.length := by omega
   refine ⟨i + 1, by omega, by omega, ?_⟩
   conv => whnf
   (refine GOES.cutting h0 rfl rfl rfl (by first | rfl | (simp only [Z7, Z3, Z0 _ (ZD _), Bool.and_self, Bool.and_true] <;> rfl)) ?_ ?_ <;> (repeat' (first | (with_reducible rfl) | (exact Zu rfl (by first | (simp; done) | omega | (simp; omega))) | (exact congrArg (SV.int _) (by first | omega | (simp (disch := omega) only [lnB, Z5, Z9] <;> omega) | (simp; done) | (simp <;> omega))) | (exact congrArg (Hp.rows _) (by rw [Z61 hl (Z7k (by omega))])) | ((conv => whnf); refine ⟨?_, ?_⟩) | exact trivial | rfl)))
 · refine NEED.mk (U0 (by omega)) ?_
   conv => whnf
   refine FIN.value h0 rfl (congrArg SV.str ?_)
   have := Z79 (curL s i)
   rw [hlen] at this
   rw [this, Z8t (by omega)]
theorem Zbz {s : List UInt8} {i : Nat} {c : UInt8} (h : i < s.length) : Z4 s i = (c.toNat : Int) ↔ s[i]? = some c := by
 unfold Z4
 rw [Int.toNat_natCast, List.getD, List.getElem?_eq_getElem h]
 simp only [Option.getD_some, Option.some.injEq]
 constructor
 · intro h1; exact UInt8.toNat_inj.1 (by omega)
 · intro h1; rw [h1]
theorem Z6q (s : List UInt8) (hs : s.length ≤ 34359738368) : Does Tryz.prog tab 159 0 [.str s] [] [] (NewS 1 ((Zr s).map Zb)) := by
 have hlen := WX s
 refine Does.enter Z2 (g := 159) (fn := Tryz.f159) Tryz.call159 Tryz.func159 rfl 31 rfl rfl [.tmp 2] rfl ?_
 intro w0 F η0 h0
 conv => whnf
 refine LOOP.nil 3 1 rfl ?_
 refine LOOP.go Z2 [0] (X := List (List UInt8) × Nat × Nat) (fun y => y.2.1 ≤ y.2.2 ∧ y.2.2 ≤ s.length ∧ Zr s = y.1 ++ Zr (s.drop y.2.1) ∧ ∀ c ∈ (s.drop y.2.1).take (y.2.2 - y.2.1), c ≠ 45) (fun y => [(3, .sl (.loc 0) 0 1 y.1.length none), (4, .int .i64 (y.2.1 : Int)), (5, .int .i64 (y.2.2 : Int))]) (fun y => [(0, .rows 1 (y.1.map Zb))]) 1 (fun y => s.length - y.2.2) ([], 0, 0) ⟨by simp, by simp, by simp, by simp⟩ ?_
 conv => whnf
 refine ⟨by (refine GOES.keeping h0 [0] rfl rfl rfl (by first | rfl | (simp only [Z7, Z3, Z0 _ (Z1 _), Bool.and_self, Bool.and_true] <;> rfl)) ?_ ?_ <;> (repeat' (first | (with_reducible rfl) | (exact Za (Z1 _) (Z6 _ (Z1 _))) | (exact Za (Z1 _) (by simp [Zb, ZK, List.take_of_length_le])) | (exact Zu rfl (by first | (simp; done) | omega | (simp; omega))) | (exact congrArg (SV.int _) (by first | omega | (simp (disch := omega) only [lnB, Z5, Z9] <;> omega) | (simp; done) | (simp <;> omega))) | ((conv => whnf); refine ⟨?_, ?_⟩) | exact trivial | (simp only [ren, renB]; done) | rfl))), ?_⟩
 rintro ⟨l, f, i⟩ ⟨hf, hi, he, hn⟩
 dsimp only at hf hi he hn ⊢
 have hl : l.length + (Zr (s.drop f)).length = (Zr s).length := by rw [he, List.length_append]
 have hl1 : 1 ≤ (Zr (s.drop f)).length := by have := XT (s.drop f); omega
 conv => whnf
 repeat' ((first | refine AU ?_ | (refine IW (fun h => ?_) (fun h => ?_) <;> try (exfalso; omega))) <;> conv => whnf)
 · have h45 : (s.drop f)[i - f]? = some 45 := by rw [List.getElem?_drop, show f + (i - f) = i by omega]; exact (Zbz (c := 45) (by omega)).1 h
   have hc := Z63 _ _ hn h45
   rw [List.drop_drop, show f + (i - f + 1) = i + 1 by omega] at hc
   refine ⟨(l ++ [(s.drop f).take (i - f)], i + 1, i + 1), ⟨by simp only; omega, by simp only; omega, by simp only; rw [he, hc]; simp, by simp⟩, by simp only; omega, ?_⟩
   dsimp only
   rw [show (l ++ [(s.drop f).take (i - f)]).length = l.length + 1 by simp]
   conv => whnf
   (refine GOES.keeping h0 [2] rfl rfl rfl (by first | rfl | (simp only [Z7, Z3, Z0 _ (Z1 _), Bool.and_self, Bool.and_true] <;> rfl)) ?_ ?_ <;> (repeat' (first | (with_reducible rfl) | (exact Za (Z1 _) (Z6 _ (Z1 _))) | (exact Za (Z1 _) (by simp [Zb, ZK, List.take_of_length_le])) | (exact Zu rfl (by first | (simp; done) | omega | (simp; omega))) | (exact congrArg (SV.int _) (by first | omega | (simp (disch := omega) only [lnB, Z5, Z9] <;> omega) | (simp; done) | (simp <;> omega))) | ((conv => whnf); refine ⟨?_, ?_⟩) | exact trivial | (simp only [ren, renB]; done) | rfl)))
 · refine ⟨(l, f, i + 1), ⟨by simp only; omega, by simp only; omega, he, ?_⟩, by simp only; omega, ?_⟩
   · dsimp only
     intro c hc
     have hlt : i - f < (s.drop f).length := by rw [List.length_drop]; omega
     rw [show i + 1 - f = (i - f) + 1 by omega, List.take_succ_eq_append_getElem hlt] at hc
     rcases List.mem_append.1 hc with hc | hc
     · exact hn c hc
     · have hc := List.mem_singleton.1 hc
       rintro rfl
       refine h ((Zbz (c := 45) (by omega)).2 ?_)
       have h1 : (s.drop f)[i - f]? = some 45 := by rw [List.getElem?_eq_getElem hlt, ← hc]
       rwa [List.getElem?_drop, show f + (i - f) = i by omega] at h1
   · dsimp only
     conv => whnf
     (refine GOES.keeping h0 [0] rfl rfl rfl (by first | rfl | (simp only [Z7, Z3, Z0 _ (Z1 _), Bool.and_self, Bool.and_true] <;> rfl)) ?_ ?_ <;> (repeat' (first | (with_reducible rfl) | (exact Za (Z1 _) (Z6 _ (Z1 _))) | (exact Za (Z1 _) (by simp [Zb, ZK, List.take_of_length_le])) | (exact Zu rfl (by first | (simp; done) | omega | (simp; omega))) | (exact congrArg (SV.int _) (by first | omega | (simp (disch := omega) only [lnB, Z5, Z9] <;> omega) | (simp; done) | (simp <;> omega))) | ((conv => whnf); refine ⟨?_, ?_⟩) | exact trivial | (simp only [ren, renB]; done) | rfl)))
 · have hc : Zr (s.drop f) = [s.drop f] := by
     refine Z64 _ fun c hc => hn c ?_
     rwa [List.take_of_length_le (by rw [List.length_drop]; omega)]
   rw [he, hc] at *
   refine FIN.rows h0 2 1 (l.length + 1) rfl rfl rfl (by simp [Vd, Yi, Z1, Zz, Yz, plain, List.take_of_length_le]) ⟨by simp, ?_, rfl⟩
   simp [Zb, List.take_of_length_le]
theorem XC (ps : List (List UInt8)) (hb : J8 ps + ps.length ≤ 68719476736) (a m : Nat) (ham : a + m = ps.length) : Does Tryz.prog tab 190 1 [.sl (.loc 0) a 1 m none] [] [(0, .rows 1 (ps.map Zb))]
   (fun r O nx => ∃ s, s.length ≤ J8 ps + ps.length ∧ (∀ p, ps[a]? = some p → ∃ t, s = p ++ t) ∧ r = .str s ∧ O = [] ∧ nx = 1) := by
 refine Does.enter Z2 (g := 190) (fn := Tryz.f190) Tryz.call190 Tryz.func190 rfl 24 rfl rfl [.tmp 2] rfl ?_
 intro w0 F η0 h0
 conv => whnf
 refine LOOP.nil 3 1 rfl ?_
 refine LOOP.go Z2 [0] (X := Nat × List UInt8) (fun y => y.1 ≤ m ∧ y.2.length ≤ ((ps.take (a + y.1)).map List.length).sum + y.1 ∧ (y.1 ≠ 0 → ∀ p, ps[a]? = some p → ∃ t, y.2 = p ++ t) ∧ (y.1 = 0 → y.2 = [])) (fun y => [(3, .sl (.loc 1) 0 1 y.2.length none), (4, .int .i64 (y.1 : Int))]) (fun y => [(1, .rows 1 (y.2.map Sx.bytesRow))]) 2 (fun y => m - y.1) (0, []) ⟨by simp, by simp, by simp, by simp⟩ ?_
 conv => whnf
 refine ⟨by (refine GOES.keeping h0 [1] rfl rfl rfl (by first | rfl | (simp only [Z7, Z3, Z0 _ (ZD _), Bool.and_self, Bool.and_true] <;> rfl)) ?_ ?_ <;> (repeat' (first | (with_reducible rfl) | (exact Za (ZD _) (Z6 _ (ZD _))) | (exact Za (ZD _) (by simp [Sx.bytesRow, ZK, List.take_of_length_le])) | (exact Zu rfl (by first | (simp; done) | omega | (simp; omega))) | (exact congrArg (SV.int _) (by first | omega | (simp (disch := omega) only [lnB, Z5, Z9] <;> omega) | (simp; done) | (simp <;> omega))) | ((conv => whnf); refine ⟨?_, ?_⟩) | exact trivial | (simp only [ren, renB]; done) | rfl))), ?_⟩
 rintro ⟨c, b⟩ ⟨hc, hl, hp, h00⟩
 dsimp only at hc hl hp h00 ⊢
 have hbt := Yp ps (a + c)
 rcases Nat.lt_or_ge c m with hcm | hcm
 · have hlt : a + c < ps.length := by omega
   have hs1 := Wh (List.getElem?_eq_getElem hlt)
   have hs2 := Yp ps (a + c + 1)
   have key : ∀ b' : List UInt8, (c = 0 → b' = []) → (c ≠ 0 → ∃ t, b' = b ++ t) → ∀ p, ps[a]? = some p → ∃ t, b' ++ ps[a + c] = p ++ t := by
     intro b' h1 h2 p hpa
     by_cases h : c = 0
     · subst h
       obtain ⟨h3, h4⟩ := List.getElem?_eq_some_iff.1 hpa
       exact ⟨[], by rw [h1 rfl, ← h4]; simp⟩
     · obtain ⟨t, ht⟩ := hp h p hpa
       obtain ⟨t', ht'⟩ := h2 h
       exact ⟨t ++ t' ++ ps[a + c], by rw [ht', ht]; simp⟩
   conv => whnf
   repeat' ((first | (refine GET.at (row := Zb (ps[a + c]'(by omega))) (by rw [List.getElem?_map, show a + (c : Int).toNat = a + c by omega, List.getElem?_eq_getElem (by omega)]; rfl) ?_; conv => whnf) | refine AU ?_ | (refine IW (fun h => ?_) (fun h => ?_) <;> try (exfalso; omega))) <;> conv => whnf)
   · refine ⟨(c + 1, b ++ [45] ++ ps[a + c]), ⟨by simp only; omega, ?_, fun _ => key _ (fun h1 => by omega) (fun _ => ⟨[45], rfl⟩), by simp⟩, by simp only; omega, ?_⟩
     · simp only [List.length_append, List.length_cons, List.length_nil]
       rw [show a + (c + 1) = a + c + 1 by omega, hs1]; omega
     · dsimp only
       have e : (b ++ [45] ++ ps[a + c]).length = b.length + 1 + ps[a + c].length := by simp; omega
       rw [e]
       conv => whnf
       (refine GOES.keeping h0 [4] rfl rfl rfl (by first | rfl | (simp only [Z7, Z3, Z0 _ (ZD _), Bool.and_self, Bool.and_true] <;> rfl)) ?_ ?_ <;> (repeat' (first | (with_reducible rfl) | (exact Za (ZD _) (Z6 _ (ZD _))) | (exact Za (ZD _) (by simp [Sx.bytesRow, ZK, List.take_of_length_le])) | (exact Zu rfl (by first | (simp; done) | omega | (simp; omega))) | (exact congrArg (SV.int _) (by first | omega | (simp (disch := omega) only [lnB, Z5, Z9] <;> omega) | (simp; done) | (simp <;> omega))) | ((conv => whnf); refine ⟨?_, ?_⟩) | exact trivial | (simp only [ren, renB]; done) | rfl)))
   · refine ⟨(c + 1, b ++ ps[a + c]), ⟨by simp only; omega, ?_, fun _ => key _ (fun h1 => h00 h1) (fun h1 => by omega), by simp⟩, by simp only; omega, ?_⟩
     · simp only [List.length_append]
       rw [show a + (c + 1) = a + c + 1 by omega, hs1]; omega
     · dsimp only
       have e : (b ++ ps[a + c]).length = b.length + ps[a + c].length := by simp
       rw [e]
       conv => whnf
       (refine GOES.keeping h0 [2] rfl rfl rfl (by first | rfl | (simp only [Z7, Z3, Z0 _ (ZD _), Bool.and_self, Bool.and_true] <;> rfl)) ?_ ?_ <;> (repeat' (first | (with_reducible rfl) | (exact Za (ZD _) (Z6 _ (ZD _))) | (exact Za (ZD _) (by simp [Sx.bytesRow, ZK, List.take_of_length_le])) | (exact Zu rfl (by first | (simp; done) | omega | (simp; omega))) | (exact congrArg (SV.int _) (by first | omega | (simp (disch := omega) only [lnB, Z5, Z9] <;> omega) | (simp; done) | (simp <;> omega))) | ((conv => whnf); refine ⟨?_, ?_⟩) | exact trivial | (simp only [ren, renB]; done) | rfl)))
 · conv => whnf
   repeat' ((first | refine AU ?_ | (refine IW (fun h => ?_) (fun h => ?_) <;> try (exfalso; omega))) <;> conv => whnf)
   refine NEED.mk (U0 (by simp)) ?_
   conv => whnf
   refine FIN.val h0 rfl ⟨b, by omega, fun p hpa => ?_, by rw [Z79], rfl, rfl⟩
   have := (List.getElem?_eq_some_iff.1 hpa).1
   exact hp (by omega) p hpa
def rd6 (i m : Nat) : Hp := .box [.sl (.loc 1) i 1 m none]
def tg6 (L E S R : List UInt8) (jv v jx x : Nat) (P : List UInt8) : Hp := .box [.str L, .str E, .str S, .str R, .sl (.loc jv) 0 1 v none, .sl (.loc jx) 0 1 x none, .str P]
theorem J9 (least most : Int) (digits : Bool) (ps : List (List UInt8)) (hsm : ∀ s ∈ ps, Sm s) (i m : Nat) (him : i + m = ps.length) :
   Does Tryz.prog tab 162 2 [.ptr (.loc 0) 0 0 0, .int .i64 least, .int .i64 most, .bool digits] [] [(0, rd6 i m), (1, .rows 1 (ps.map Zb))] (ValK 2 (.bool (Yd (Z0v least most digits) ps i))) := by
 refine Does.enter Z2 (g := 162) (fn := Tryz.f162) Tryz.call162 Tryz.func162 rfl 52 rfl rfl [.tmp 8] rfl ?_
 intro w0 F η0 h0
 conv => whnf
 rcases Nat.eq_zero_or_pos m with hm | hm
 · subst hm
   repeat' ((first | (refine GETG.mk ⟨Zb [], fun h => (by simp at h), ?_⟩; conv => whnf) | refine AU ?_ | (refine IW (fun h => ?_) (fun h => ?_) <;> try (exfalso; omega))) <;> conv => whnf)
   all_goals first
     | (refine FIN.valueK h0 rfl (congrArg SV.bool ?_)
        unfold Yd; rw [List.getElem?_eq_none (by omega)])
     | (exfalso; simp_all; done)
 · have hlt : i < ps.length := by omega
   have hse : Yd (Z0v least most digits) ps i = Z0v least most digits ps[i] := by unfold Yd; rw [List.getElem?_eq_getElem hlt]
   have hs := hsm _ (List.getElem_mem hlt)
   repeat' ((first | (refine GET.at (row := Zb (ps[i]'(by omega))) (by rw [List.getElem?_map, show i + (0 : Int).toNat = i by simp, List.getElem?_eq_getElem (by omega)]; rfl) ?_; conv => whnf) | (refine GETG.at (row := Zb (ps[i]'(by omega))) (by rw [List.getElem?_map, show i + (0 : Int).toNat = i by simp, List.getElem?_eq_getElem (by omega)]; rfl) ?_; conv => whnf) | refine CALL.value (Wl _ hs) rfl rfl ?_ | refine CALL.value (JQ _ hs) rfl rfl ?_ | refine AU ?_ | (refine IW (fun h => ?_) (fun h => ?_) <;> try (exfalso; omega))) <;> conv => whnf)
   all_goals
     refine FIN.valueK h0 rfl (congrArg SV.bool ?_)
     rw [hse]; unfold Z0v
   · rw [show decide (least ≤ (ps[i].length : Int) ∧ (ps[i].length : Int) ≤ most) = false from decide_eq_false (by omega)]; rfl
   · rw [show decide (least ≤ (ps[i].length : Int) ∧ (ps[i].length : Int) ≤ most) = true from decide_eq_true (by omega)]; simp [h]
   · rw [show decide (least ≤ (ps[i].length : Int) ∧ (ps[i].length : Int) ≤ most) = true from decide_eq_true (by omega)]; simp [h]
theorem Yq (ps : List (List UInt8)) (i m : Nat) (him : i + (m + 1) = ps.length) (p : List UInt8) (hp : ps[i]? = some p) :
   Does Tryz.prog tab 163 2 [.ptr (.loc 0) 0 0 0] [(0, rd6 i (m + 1))] [(1, .rows 1 (ps.map Zb))] (fun r O nx => r = .str p ∧ O = [(0, rd6 (i + 1) m)] ∧ nx = 2) := by
 refine Does.enter Z2 (g := 163) (fn := Tryz.f163) Tryz.call163 Tryz.func163 rfl 19 rfl rfl [.tmp 2] rfl ?_
 intro w0 F η0 h0
 conv => whnf
 repeat' ((first | (refine GET.at (row := Zb p) (by rw [List.getElem?_map, show i + (0 : Int).toNat = i by simp, hp]; rfl) ?_; conv => whnf) | refine AU ?_ | (refine IW (fun h => ?_) (fun h => ?_) <;> try (exfalso; omega))) <;> conv => whnf)
 exact FIN.here h0 (Oc := [(0, rd6 (i + 1) m)]) rfl rfl rfl ⟨rfl, trivial⟩ ⟨rfl, rfl, rfl⟩
theorem ZbA {b : Nat} : ∀ {l : List (List UInt8)}, (∀ s ∈ l, s.length ≤ b) → J8 l ≤ b * l.length
 | [], _ => by simp [J8]
 | s :: l, h => by
   have h1 := h s (by simp)
   have h2 := ZbA (l := l) fun x hx => h x (by simp [hx])
   unfold J8 at *
   simp only [List.map_cons, List.sum_cons, List.length_cons, Nat.mul_add]; omega
theorem Zf9 : Z0v 3 3 false = fun s => ZH s 3 3 true := funext (Xz 3 3)
theorem Z3u (ps : List (List UInt8)) (hb : J8 ps + ps.length ≤ 68719476736) (i m : Nat) (him : i + m = ps.length) :
   Does Tryz.prog tab 161 5 [.ptr (.loc 0) 0 0 0, .ptr (.loc 2) 0 0 0] [(0, rd6 i m), (2, tg6 [] [] [] [] 3 0 4 0 [])] [(1, .rows 1 (ps.map Zb))]
     (fun r O nx => ∃ (i' m' : Nat) (L E : List UInt8), i' + m' = ps.length ∧ r = .bool (Jh (ps.drop i)).isSome ∧ (∀ l, Jh (ps.drop i) = some l → l = ps.drop i' ∧ L ≠ []) ∧ O = [(0, rd6 i' m'), (2, tg6 L E [] [] 3 0 4 0 [])] ∧ nx = 5) := by
 have hsm := Wz (ps := ps) (by omega)
 refine Does.enter Z2 (g := 161) (fn := Tryz.f161) Tryz.call161 Tryz.func161 rfl 41 rfl rfl [.tmp 4] rfl ?_
 intro w0 F η0 h0
 conv => whnf
 refine CALL.aA [0, 1] (J9 2 3 false ps hsm i m him) ?_
 rintro r O' nx' ⟨rfl, rfl, rfl⟩
 conv => whnf
 refine IF.mk (fun h1 => ?_) (fun h1 => ?_)
 · obtain ⟨w, hw, hwm⟩ := ZM h1
   rw [Xz] at hwm
   have hwl := XY hwm
   have hlt := (List.getElem?_eq_some_iff.1 hw).1
   obtain ⟨k, rfl⟩ : ∃ k, m = k + 1 := ⟨m - 1, by omega⟩
   have hne : w ≠ [] := by rintro rfl; simp at hwl
   have hL : Jh (ps.drop i) = some (extP 3 (ps.drop (i + 1))) := by
     rw [ZP hw]; simp only [Jh]
     rw [if_pos (by rw [Z2L, Xz, hwm]; rfl), if_neg (by omega)]
   conv => whnf
   refine CALL.aA [0, 1] (Yq ps i k him w hw) ?_
   rintro r O' nx' ⟨rfl, rfl, rfl⟩
   conv => whnf
   refine LOOP.nil 5 1 rfl ?_
   refine LOOP.go Z2 [0, 1] (X := List (List UInt8) × Nat) (fun y => y.1.length ≤ 3 ∧ (∀ s ∈ y.1, s.length ≤ 3) ∧ y.2 + (ps.length - y.2) = ps.length ∧ extP 3 (ps.drop (i + 1)) = extP (3 - y.1.length) (ps.drop y.2)) (fun y => [(5, .sl (.loc 5) 0 1 y.1.length none)]) (fun y => [(0, rd6 y.2 (ps.length - y.2)), (2, tg6 w [] [] [] 3 0 4 0 []), (5, .rows 1 (y.1.map Zb))]) 6 (fun y => 3 - y.1.length) ([], i + 1) ⟨by simp, by simp, by simp only; omega, rfl⟩ ?_
   conv => whnf
   rw [show ps.length - (i + 1) = k by omega]
   refine ⟨by (refine GOES.keeping h0 [5] rfl rfl rfl (by first | rfl | (simp only [Z7, Z3, Z0 _ (Z1 _), Bool.and_self, Bool.and_true] <;> rfl)) ?_ ?_ <;> (repeat' (first | (with_reducible rfl) | (exact Za (Z1 _) (Z6 _ (Z1 _))) | (exact Za (Z1 _) (by simp [Zb, ZK, List.take_of_length_le])) | (exact Zu rfl (by first | (simp; done) | omega | (simp; omega))) | (exact congrArg (SV.int _) (by first | omega | (simp (disch := omega) only [lnB, Z5, Z9] <;> omega) | (simp; done) | (simp <;> omega))) | ((conv => whnf); refine ⟨?_, ?_⟩) | exact trivial | (simp only [ren, renB]; done) | rfl))), ?_⟩
   rintro ⟨l, a⟩ ⟨hl, hls, ha, hx⟩
   dsimp only at hl hls ha hx ⊢
   have fin : Yd (fun s => ZH s 3 3 true) ps a = false ∨ l.length = 3 → extP 3 (ps.drop (i + 1)) = ps.drop a := by
     rintro (h | h)
     · rw [hx, Zdy h]
     · rw [hx, h]; rfl
   have hbl := ZbA hls
   conv => whnf
   refine IF.mk (fun h => ?_) (fun h => ?_)
   · have h : l.length < 3 := by simp at h; omega
     conv => whnf
     repeat' ((first | refine AU ?_ | (refine IW (fun h => ?_) (fun h => ?_) <;> try (exfalso; omega))) <;> conv => whnf)
     refine CALL.aA [0, 1] (J9 3 3 false ps hsm a (ps.length - a) ha) ?_
     rintro r O' nx' ⟨rfl, rfl, rfl⟩
     conv => whnf
     repeat' ((first | refine AU ?_ | (refine IW (fun h => ?_) (fun h => ?_) <;> try (exfalso; omega))) <;> conv => whnf)
     · obtain ⟨u, hu, hum⟩ := ZM h
       rw [Xz] at hum
       have hul := XY hum
       have hlt2 := (List.getElem?_eq_some_iff.1 hu).1
       obtain ⟨k', hk'⟩ : ∃ k', ps.length - a = k' + 1 := ⟨ps.length - a - 1, by omega⟩
       rw [hk']
       refine CALL.aA [0, 1] (Yq ps a k' (by omega) u hu) ?_
       rintro r O' nx' ⟨rfl, rfl, rfl⟩
       conv => whnf
       repeat' ((first | refine AU ?_ | (refine IW (fun h => ?_) (fun h => ?_) <;> try (exfalso; omega))) <;> conv => whnf)
       refine ⟨(l ++ [u], a + 1), ⟨by simp; omega, ?_, by simp only; omega, ?_⟩, by simp; omega, ?_⟩
       · intro x hx'
         rcases List.mem_append.1 hx' with h | h
         · exact hls x h
         · rw [List.mem_singleton.1 h]; omega
       · dsimp only
         rw [hx, ZP hu, show 3 - l.length = (3 - (l ++ [u]).length) + 1 by simp; omega]
         simp only [extP]; rw [if_pos hum]
       · dsimp only
         rw [show ps.length - (a + 1) = k' by omega, show (l ++ [u]).length = l.length + 1 by simp]
         conv => whnf
         (refine GOES.keeping h0 [7] rfl rfl rfl (by first | rfl | (simp only [Z7, Z3, Z0 _ (Z1 _), Bool.and_self, Bool.and_true] <;> rfl)) ?_ ?_ <;> (repeat' (first | (with_reducible rfl) | (exact Za (Z1 _) (Z6 _ (Z1 _))) | (exact Za (Z1 _) (by simp [Zb, ZK, List.take_of_length_le])) | (exact Zu rfl (by first | (simp; done) | omega | (simp; omega))) | (exact congrArg (SV.int _) (by first | omega | (simp (disch := omega) only [lnB, Z5, Z9] <;> omega) | (simp; done) | (simp <;> omega))) | ((conv => whnf); refine ⟨?_, ?_⟩) | exact trivial | (simp only [ren, renB]; done) | rfl)))
     · rw [Zf9] at h
       refine CALL.aA [5] (XC l (by omega) 0 l.length (by omega)) ?_
       rintro r O' nx' ⟨E, hE, _, rfl, rfl, rfl⟩
       conv => whnf
       exact FIN.here h0 (Oc := [(0, rd6 (a) (ps.length - a)), (2, tg6 (w) (E) [] [] 3 0 4 0 [])]) rfl rfl rfl ⟨rfl, rfl, trivial⟩ ⟨a, ps.length - a, w, E, by omega, by rw [hL]; rfl, by rw [hL]; rintro x ⟨⟩; exact ⟨fin (.inl h), hne⟩, rfl, rfl⟩
   · have h : l.length = 3 := by simp at h; omega
     conv => whnf
     repeat' ((first | refine AU ?_ | (refine IW (fun h => ?_) (fun h => ?_) <;> try (exfalso; omega))) <;> conv => whnf)
     refine CALL.aA [5] (XC l (by omega) 0 l.length (by omega)) ?_
     rintro r O' nx' ⟨E, hE, _, rfl, rfl, rfl⟩
     conv => whnf
     exact FIN.here h0 (Oc := [(0, rd6 (a) (ps.length - a)), (2, tg6 (w) (E) [] [] 3 0 4 0 [])]) rfl rfl rfl ⟨rfl, rfl, trivial⟩ ⟨a, ps.length - a, w, E, by omega, by rw [hL]; rfl, by rw [hL]; rintro x ⟨⟩; exact ⟨fin (.inr h), hne⟩, rfl, rfl⟩
 · conv => whnf
   refine CALL.aA [0, 1] (J9 4 8 false ps hsm i m him) ?_
   rintro r O' nx' ⟨rfl, rfl, rfl⟩
   conv => whnf
   refine IF.mk (fun h2 => ?_) (fun h2 => ?_)
   · obtain ⟨w, hw, hwm⟩ := ZM h2
     have hwm' := hwm
     rw [Xz] at hwm
     have hwl := XY hwm
     have hlt := (List.getElem?_eq_some_iff.1 hw).1
     obtain ⟨k, rfl⟩ : ∃ k, m = k + 1 := ⟨m - 1, by omega⟩
     have hne : w ≠ [] := by rintro rfl; simp at hwl
     have hL : Jh (ps.drop i) = some (ps.drop (i + 1)) := by
       rw [ZP hw]; simp only [Jh]
       rw [if_pos (by rw [Z2L, hwm', Bool.or_true]), if_pos (by omega)]
     conv => whnf
     refine CALL.aA [0, 1] (Yq ps i k him w hw) ?_
     rintro r O' nx' ⟨rfl, rfl, rfl⟩
     conv => whnf
     exact FIN.here h0 (Oc := [(0, rd6 (i + 1) (k)), (2, tg6 (w) ([]) [] [] 3 0 4 0 [])]) rfl rfl rfl ⟨rfl, rfl, trivial⟩ ⟨i + 1, k, w, [], by omega, by rw [hL]; rfl, by rw [hL]; rintro x ⟨⟩; exact ⟨rfl, hne⟩, rfl, rfl⟩
   · have hL : Jh (ps.drop i) = none := by
       rcases Xg h1 with h | ⟨s, hs, h3, h4⟩
       · rw [h]; rfl
       · rcases Xg h2 with h | ⟨s', hs', h5, h6⟩
         · rw [h] at h3; cases h3
         · rw [hs] at hs'; cases hs'
           rw [h3]; simp only [Jh]; rw [if_neg (by rw [Z2L, h4, h6]; simp)]
     conv => whnf
     exact FIN.here h0 (Oc := [(0, rd6 (i) (m)), (2, tg6 ([]) ([]) [] [] 3 0 4 0 [])]) rfl rfl rfl ⟨rfl, rfl, trivial⟩ ⟨i, m, [], [], by omega, by rw [hL]; rfl, by simp [hL], rfl, rfl⟩
def ZcY : Plan := (Zj [(0, 1), (1, 1), (2, 1), (3, 1), (5, 1), (6, 1), (7, 1), (4, 2), (8, 2), (9, 3), (10, 1)])
theorem YW {l z : List Qd} {i : Nat} (h : i < l.length) : ((l ++ z).map Zf)[i]? = some (Zf l[i]) := by
 rw [List.getElem?_map, List.getElem?_append_left h, List.getElem?_eq_getElem h]; rfl
theorem Z38 (l z : List Qd) {lim : Option Nat} (hl : Wx l) : Does Tryz.prog tab 47 1 [.sl (.loc 0) 0 16 l.length lim] [] [(0, .rows 16 ((l ++ z).map Zf))]
   (ValK 1 (.bool (Xk l 1))) := by
 refine Does.enter Z2 (g := 47) (fn := Tryz.f47) Tryz.call47 Tryz.func47 rfl 21 rfl rfl [.tmp 2] rfl ?_
 intro w0 F η0 h0
 conv => whnf
 refine LOOP.go Z2 [0] (X := Nat) (fun i => 1 ≤ i ∧ (i ≤ l.length ∨ i = 1) ∧ Xk l 1 = Xk l i) (fun i => [(3, .int .i64 (i : Int))]) (fun i => []) 1 (fun i => l.length - i) 1 ⟨by omega, by omega, rfl⟩ ?_
 conv => whnf
 refine ⟨by exact GOES.cA h0, ?_⟩
 rintro j ⟨hj1, hj, hf⟩
 conv => whnf
 rcases Nat.lt_or_ge j l.length with hjl | hjl
 · rw [Z4D hjl] at hf
   have hj' : (IntKind.i64.wrap ((j : Int) - 1)).toNat = j - 1 := by rw [Z5 (by omega) (by omega)]; omega
   repeat' ((first | refine DRAWN.of (id := 4) Z2 Z8 ZcY (by kernel_rfl) ?_ | refine ADD.mk (fun _ _ => ?_) | refine AD ?_ | refine FORK.mk ?_ ?_ | (refine GET.at (row := Zf (l[j]'(by omega))) (by rw [show 0 + (j : Int).toNat = j by omega]; exact YW (by omega)) ?_; conv => whnf) | (refine GET.at (row := Zf (l[j - 1]'(by omega))) (by rw [show 0 + (IntKind.i64.wrap ((j : Int) - 1)).toNat = j - 1 by omega]; exact YW (by omega)) ?_; conv => whnf) | refine CALL.value (Xf (l[j - 1]'(by omega)) (l[j]'(by omega))) rfl rfl ?_ | refine AU ?_ | (refine IW (fun h => ?_) (fun h => ?_) <;> try (exfalso; omega))) <;> conv => whnf)
   · refine FIN.valueK h0 rfl (congrArg SV.bool ?_)
     rw [hf, decide_eq_false (by omega)]; rfl
   · refine ⟨j + 1, ⟨by omega, by omega, by rw [hf, decide_eq_true (by omega)]; rfl⟩, by omega, ?_⟩
     conv => whnf
     exact GOES.cA h0
 · rw [Z5U hjl] at hf
   repeat' ((first | refine AU ?_ | (refine IW (fun h => ?_) (fun h => ?_) <;> try (exfalso; omega))) <;> conv => whnf)
   exact FIN.valueK h0 rfl (congrArg SV.bool hf.symm)
end Go.Proofs.YtjbbkimodgffiaaGreatDoor
