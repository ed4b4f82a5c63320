import PyProof.Rows.All
import Wide.All
import Open.Line
import OpenK.Peek
import OpenK.KDescr
import OpenK.KMake
import OpenK.KWalk
import KE.LcSums
import KE.KDictList
import KE.KTryMore
import KE.KIsAll
import KE.KEqDict
import Wide.FinOn
import Open.Boot
import PySem.Challenge.RW_uf030026_02
set_option Elab.async false
set_option maxHeartbeats 4000000
section
open PySem PySem.W PyProof.Rows
namespace Mine.hd
noncomputable def view_39 : Program := { PySem.Challenge.rw_uf030026_02.row.toRowW.1 with main := { PySem.Challenge.rw_uf030026_02.row.toRowW.1.main with body := PySem.Challenge.rw_uf030026_02.row.toRowW.1.main.body.filter fun s => match s with | .Assign [.Name x _] _ _ => !(x == Str.ofString "__name__") | _ => true } }
noncomputable def heap_39 : Params → Frag := fun P => [(2, { cls := Value.none, data := Data.dict #[] }), (3, { cls := Value.type "dict", data := Data.dict #[{ hash := PyData.keyHash P (Str.ofString "__name__"), key := Value.str (Str.ofString "__name__") 165, val := Value.str (Str.ofString "law_uf030026_02") 431 }, { hash := PyData.keyHash P (Str.ofString "__doc__"), key := Value.str (Str.ofString "__doc__") 166, val := Value.none }, { hash := PyData.keyHash P (Str.ofString "__package__"), key := Value.str (Str.ofString "__package__") 167, val := Value.none }, { hash := PyData.keyHash P (Str.ofString "__loader__"), key := Value.str (Str.ofString "__loader__") 168, val := Value.builtin "__main__.__loader__#opaque" }, { hash := PyData.keyHash P (Str.ofString "__spec__"), key := Value.str (Str.ofString "__spec__") 169, val := Value.none }, { hash := PyData.keyHash P (Str.ofString "__annotations__"), key := Value.str (Str.ofString "__annotations__") 170, val := Value.ref 6 }, { hash := PyData.keyHash P (Str.ofString "__builtins__"), key := Value.str (Str.ofString "__builtins__") 171, val := Value.ref 4 }, { hash := PyData.keyHash P (Str.ofString "__file__"), key := Value.str (Str.ofString "__file__") 173, val := Value.str (Str.ofString "/claim/cut.py") 172 }, { hash := PyData.keyHash P (Str.ofString "__cached__"), key := Value.str (Str.ofString "__cached__") 174, val := Value.none }, { hash := PyData.keyHash P (Str.ofString "StackError"), key := Value.str (Str.ofString "StackError") 206, val := Value.ref 24 }, { hash := PyData.keyHash P (Str.ofString "Empty"), key := Value.str (Str.ofString "Empty") 222, val := Value.ref 37 }, { hash := PyData.keyHash P (Str.ofString "WrongKind"), key := Value.str (Str.ofString "WrongKind") 238, val := Value.ref 49 }, { hash := PyData.keyHash P (Str.ofString "NoBlock"), key := Value.str (Str.ofString "NoBlock") 254, val := Value.ref 61 }, { hash := PyData.keyHash P (Str.ofString "Apart"), key := Value.str (Str.ofString "Apart") 270, val := Value.ref 73 }, { hash := PyData.keyHash P (Str.ofString "TAKES_kinds"), key := Value.str (Str.ofString "TAKES_kinds") 295, val := Value.ref 76 }, { hash := PyData.keyHash P (Str.ofString "PUTS"), key := Value.str (Str.ofString "PUTS") 314, val := Value.ref 83 }, { hash := PyData.keyHash P (Str.ofString "taken"), key := Value.str (Str.ofString "taken") 323, val := Value.ref 90 }, { hash := PyData.keyHash P (Str.ofString "block_of"), key := Value.str (Str.ofString "block_of") 331, val := Value.ref 97 }, { hash := PyData.keyHash P (Str.ofString "called"), key := Value.str (Str.ofString "called") 341, val := Value.ref 104 }, { hash := PyData.keyHash P (Str.ofString "moved"), key := Value.str (Str.ofString "moved") 351, val := Value.ref 111 }, { hash := PyData.keyHash P (Str.ofString "behind"), key := Value.str (Str.ofString "behind") 364, val := Value.ref 118 }, { hash := PyData.keyHash P (Str.ofString "BOUND"), key := Value.str (Str.ofString "BOUND") 368, val := Value.int 1000000000 367 }, { hash := PyData.keyHash P (Str.ofString "LONGEST"), key := Value.str (Str.ofString "LONGEST") 370, val := Value.int 60 369 }, { hash := PyData.keyHash P (Str.ofString "TAKES_rows"), key := Value.str (Str.ofString "TAKES_rows") 393, val := Value.ref 119 }, { hash := PyData.keyHash P (Str.ofString "kinds_of"), key := Value.str (Str.ofString "kinds_of") 402, val := Value.ref 132 }, { hash := PyData.keyHash P (Str.ofString "need"), key := Value.str (Str.ofString "need") 410, val := Value.ref 139 }, { hash := PyData.keyHash P (Str.ofString "reckoned"), key := Value.str (Str.ofString "reckoned") 418, val := Value.ref 146 }, { hash := PyData.keyHash P (Str.ofString "done"), key := Value.str (Str.ofString "done") 430, val := Value.ref 153 }, { hash := PyData.keyHash P (Str.ofString "_law_draw"), key := Value.str (Str.ofString "_law_draw") 443, val := Value.ref 160 }, { hash := PyData.keyHash P (Str.ofString "_law_words"), key := Value.str (Str.ofString "_law_words") 449, val := Value.ref 165 }, { hash := PyData.keyHash P (Str.ofString "_law_value"), key := Value.str (Str.ofString "_law_value") 460, val := Value.ref 172 }, { hash := PyData.keyHash P (Str.ofString "_law_wanted"), key := Value.str (Str.ofString "_law_wanted") 469, val := Value.ref 179 }, { hash := PyData.keyHash P (Str.ofString "_law_lack"), key := Value.str (Str.ofString "_law_lack") 479, val := Value.ref 186 }, { hash := PyData.keyHash P (Str.ofString "_law_plainly"), key := Value.str (Str.ofString "_law_plainly") 488, val := Value.ref 193 }, { hash := PyData.keyHash P (Str.ofString "_law_plain_row"), key := Value.str (Str.ofString "_law_plain_row") 498, val := Value.ref 200 }, { hash := PyData.keyHash P (Str.ofString "_law_stack"), key := Value.str (Str.ofString "_law_stack") 511, val := Value.ref 207 }, { hash := PyData.keyHash P (Str.ofString "_law_by_kinds"), key := Value.str (Str.ofString "_law_by_kinds") 519, val := Value.ref 214 }, { hash := PyData.keyHash P (Str.ofString "_law_by_values"), key := Value.str (Str.ofString "_law_by_values") 527, val := Value.ref 221 }, { hash := PyData.keyHash P (Str.ofString "_law_tuple"), key := Value.str (Str.ofString "_law_tuple") 536, val := Value.ref 228 }, { hash := PyData.keyHash P (Str.ofString "law"), key := Value.str (Str.ofString "law") 542, val := Value.ref 233 }] 40 }), (15, { cls := Value.type "tuple", data := Data.seq #[Value.type "ValueError"] }), (22, { cls := Value.type "tuple", data := Data.seq #[] }), (23, { cls := Value.type "dict", data := Data.dict #[{ hash := PyData.keyHash P (Str.ofString "__module__"), key := Value.str (Str.ofString "__module__") 196, val := Value.str (Str.ofString "stackproof.errors") 187 }, { hash := PyData.keyHash P (Str.ofString "__firstlineno__"), key := Value.str (Str.ofString "__firstlineno__") 200, val := Value.int 2 199 }, { hash := PyData.keyHash P (Str.ofString "__static_attributes__"), key := Value.str (Str.ofString "__static_attributes__") 201, val := Value.ref 22 }, { hash := PyData.keyHash P (Str.ofString "__weakref__"), key := Value.str (Str.ofString "__weakref__") 203, val := Value.ref 25 }, { hash := PyData.keyHash P (Str.ofString "__doc__"), key := Value.str (Str.ofString "__doc__") 204, val := Value.none }] 3 }), (24, { cls := Value.type "type", data := Data.cls { name := Str.ofString "StackError", bases := [Value.type "ValueError"], mro := [Value.ref 24, Value.type "ValueError", Value.type "Exception", Value.type "BaseException", Value.type "object"], ns := 23, qualname := Str.ofString "StackError", subclasses := [Value.ref 37, Value.ref 49, Value.ref 61, Value.ref 73] }, slots := #[some (Value.ref 15), none, some (Value.str (Str.ofString "StackError") 189), some (Value.str (Str.ofString "StackError") 197), some (Value.builtin "ValueError.__new__"), some (Value.bool true)] }), (25, { cls := Value.type "getset_descriptor", data := Data.fields #[Value.str (Str.ofString "__weakref__") 202, Value.ref 24, Value.builtin "ExceptionGroup.__weakref__", Value.none] }), (28, { cls := Value.type "tuple", data := Data.seq #[Value.ref 24] }), (35, { cls := Value.type "tuple", data := Data.seq #[] }), (36, { cls := Value.type "dict", data := Data.dict #[{ hash := PyData.keyHash P (Str.ofString "__module__"), key := Value.str (Str.ofString "__module__") 214, val := Value.str (Str.ofString "stackproof.errors") 187 }, { hash := PyData.keyHash P (Str.ofString "__firstlineno__"), key := Value.str (Str.ofString "__firstlineno__") 218, val := Value.int 4 217 }, { hash := PyData.keyHash P (Str.ofString "__static_attributes__"), key := Value.str (Str.ofString "__static_attributes__") 219, val := Value.ref 35 }, { hash := PyData.keyHash P (Str.ofString "__doc__"), key := Value.str (Str.ofString "__doc__") 220, val := Value.none }] 2 }), (37, { cls := Value.type "type", data := Data.cls { name := Str.ofString "Empty", bases := [Value.ref 24], mro := [Value.ref 37, Value.ref 24, Value.type "ValueError", Value.type "Exception", Value.type "BaseException", Value.type "object"], ns := 36, qualname := Str.ofString "Empty" }, slots := #[some (Value.ref 28), none, some (Value.str (Str.ofString "Empty") 207), some (Value.str (Str.ofString "Empty") 215), some (Value.builtin "ValueError.__new__"), some (Value.bool true)] }), (40, { cls := Value.type "tuple", data := Data.seq #[Value.ref 24] }), (47, { cls := Value.type "tuple", data := Data.seq #[] }), (48, { cls := Value.type "dict", data := Data.dict #[{ hash := PyData.keyHash P (Str.ofString "__module__"), key := Value.str (Str.ofString "__module__") 230, val := Value.str (Str.ofString "stackproof.errors") 187 }, { hash := PyData.keyHash P (Str.ofString "__firstlineno__"), key := Value.str (Str.ofString "__firstlineno__") 234, val := Value.int 6 233 }, { hash := PyData.keyHash P (Str.ofString "__static_attributes__"), key := Value.str (Str.ofString "__static_attributes__") 235, val := Value.ref 47 }, { hash := PyData.keyHash P (Str.ofString "__doc__"), key := Value.str (Str.ofString "__doc__") 236, val := Value.none }] 2 }), (49, { cls := Value.type "type", data := Data.cls { name := Str.ofString "WrongKind", bases := [Value.ref 24], mro := [Value.ref 49, Value.ref 24, Value.type "ValueError", Value.type "Exception", Value.type "BaseException", Value.type "object"], ns := 48, qualname := Str.ofString "WrongKind" }, slots := #[some (Value.ref 40), none, some (Value.str (Str.ofString "WrongKind") 223), some (Value.str (Str.ofString "WrongKind") 231), some (Value.builtin "ValueError.__new__"), some (Value.bool true)] }), (52, { cls := Value.type "tuple", data := Data.seq #[Value.ref 24] }), (59, { cls := Value.type "tuple", data := Data.seq #[] }), (60, { cls := Value.type "dict", data := Data.dict #[{ hash := PyData.keyHash P (Str.ofString "__module__"), key := Value.str (Str.ofString "__module__") 246, val := Value.str (Str.ofString "stackproof.errors") 187 }, { hash := PyData.keyHash P (Str.ofString "__firstlineno__"), key := Value.str (Str.ofString "__firstlineno__") 250, val := Value.int 8 249 }, { hash := PyData.keyHash P (Str.ofString "__static_attributes__"), key := Value.str (Str.ofString "__static_attributes__") 251, val := Value.ref 59 }, { hash := PyData.keyHash P (Str.ofString "__doc__"), key := Value.str (Str.ofString "__doc__") 252, val := Value.none }] 2 }), (61, { cls := Value.type "type", data := Data.cls { name := Str.ofString "NoBlock", bases := [Value.ref 24], mro := [Value.ref 61, Value.ref 24, Value.type "ValueError", Value.type "Exception", Value.type "BaseException", Value.type "object"], ns := 60, qualname := Str.ofString "NoBlock" }, slots := #[some (Value.ref 52), none, some (Value.str (Str.ofString "NoBlock") 239), some (Value.str (Str.ofString "NoBlock") 247), some (Value.builtin "ValueError.__new__"), some (Value.bool true)] }), (64, { cls := Value.type "tuple", data := Data.seq #[Value.ref 24] }), (71, { cls := Value.type "tuple", data := Data.seq #[] }), (72, { cls := Value.type "dict", data := Data.dict #[{ hash := PyData.keyHash P (Str.ofString "__module__"), key := Value.str (Str.ofString "__module__") 262, val := Value.str (Str.ofString "stackproof.errors") 187 }, { hash := PyData.keyHash P (Str.ofString "__firstlineno__"), key := Value.str (Str.ofString "__firstlineno__") 266, val := Value.int 10 265 }, { hash := PyData.keyHash P (Str.ofString "__static_attributes__"), key := Value.str (Str.ofString "__static_attributes__") 267, val := Value.ref 71 }, { hash := PyData.keyHash P (Str.ofString "__doc__"), key := Value.str (Str.ofString "__doc__") 268, val := Value.none }] 2 }), (73, { cls := Value.type "type", data := Data.cls { name := Str.ofString "Apart", bases := [Value.ref 24], mro := [Value.ref 73, Value.ref 24, Value.type "ValueError", Value.type "Exception", Value.type "BaseException", Value.type "object"], ns := 72, qualname := Str.ofString "Apart" }, slots := #[some (Value.ref 64), none, some (Value.str (Str.ofString "Apart") 255), some (Value.str (Str.ofString "Apart") 263), some (Value.builtin "ValueError.__new__"), some (Value.bool true)] }), (76, { cls := Value.type "dict", data := Data.dict #[{ hash := PyData.keyHash P (Str.ofString "add"), key := Value.str (Str.ofString "add") 273, val := Value.ref 77 }, { hash := PyData.keyHash P (Str.ofString "mul"), key := Value.str (Str.ofString "mul") 276, val := Value.ref 78 }, { hash := PyData.keyHash P (Str.ofString "less"), key := Value.str (Str.ofString "less") 279, val := Value.ref 79 }, { hash := PyData.keyHash P (Str.ofString "join"), key := Value.str (Str.ofString "join") 282, val := Value.ref 80 }, { hash := PyData.keyHash P (Str.ofString "long"), key := Value.str (Str.ofString "long") 285, val := Value.ref 81 }, { hash := PyData.keyHash P (Str.ofString "show"), key := Value.str (Str.ofString "show") 287, val := Value.ref 82 }] 6 }), (77, { cls := Value.type "tuple", data := Data.seq #[Value.str (Str.ofString "num") 274, Value.str (Str.ofString "num") 275] }), (78, { cls := Value.type "tuple", data := Data.seq #[Value.str (Str.ofString "num") 277, Value.str (Str.ofString "num") 278] }), (79, { cls := Value.type "tuple", data := Data.seq #[Value.str (Str.ofString "num") 280, Value.str (Str.ofString "num") 281] }), (80, { cls := Value.type "tuple", data := Data.seq #[Value.str (Str.ofString "text") 283, Value.str (Str.ofString "text") 284] }), (81, { cls := Value.type "tuple", data := Data.seq #[Value.str (Str.ofString "text") 286] }), (82, { cls := Value.type "tuple", data := Data.seq #[Value.str (Str.ofString "num") 288] }), (83, { cls := Value.type "dict", data := Data.dict #[{ hash := PyData.keyHash P (Str.ofString "add"), key := Value.str (Str.ofString "add") 296, val := Value.str (Str.ofString "num") 297 }, { hash := PyData.keyHash P (Str.ofString "mul"), key := Value.str (Str.ofString "mul") 298, val := Value.str (Str.ofString "num") 299 }, { hash := PyData.keyHash P (Str.ofString "less"), key := Value.str (Str.ofString "less") 300, val := Value.str (Str.ofString "num") 301 }, { hash := PyData.keyHash P (Str.ofString "join"), key := Value.str (Str.ofString "join") 302, val := Value.str (Str.ofString "text") 303 }, { hash := PyData.keyHash P (Str.ofString "long"), key := Value.str (Str.ofString "long") 304, val := Value.str (Str.ofString "num") 305 }, { hash := PyData.keyHash P (Str.ofString "show"), key := Value.str (Str.ofString "show") 306, val := Value.str (Str.ofString "text") 307 }] 6 }), (84, { cls := Value.type "tuple", data := Data.seq #[] }), (86, { cls := Value.type "tuple", data := Data.seq #[Value.str (Str.ofString "kinds") 318, Value.str (Str.ofString "takes") 319, Value.str (Str.ofString "left") 320] }), (87, { cls := Value.type "tuple", data := Data.seq #[] }), (89, { cls := Value.type "code", data := Data.fields #[Value.str (Str.ofString "taken") 315, Value.str (Str.ofString "taken") 316, Value.str (Str.ofString "/claim/cut.py") 317, Value.int 15 0, Value.int 2 0, Value.int 0 0, Value.int 0 0, Value.int 3 0, Value.ref 84, Value.bool true, Value.int 181 0, Value.ref 85, Value.none, Value.ref 86, Value.ref 87, Value.ref 88, Value.int 321 0, Value.int 15 0, Value.str (Str.ofString "/claim/cut.py") 322] }), (91, { cls := Value.type "tuple", data := Data.seq #[] }), (93, { cls := Value.type "tuple", data := Data.seq #[Value.str (Str.ofString "program") 327, Value.str (Str.ofString "name") 328] }), (94, { cls := Value.type "tuple", data := Data.seq #[] }), (96, { cls := Value.type "code", data := Data.fields #[Value.str (Str.ofString "block_of") 324, Value.str (Str.ofString "block_of") 325, Value.str (Str.ofString "/claim/cut.py") 326, Value.int 22 0, Value.int 2 0, Value.int 0 0, Value.int 0 0, Value.int 3 0, Value.ref 91, Value.bool true, Value.int 181 0, Value.ref 92, Value.none, Value.ref 93, Value.ref 94, Value.ref 95, Value.int 329 0, Value.int 22 0, Value.str (Str.ofString "/claim/cut.py") 330] }), (98, { cls := Value.type "tuple", data := Data.seq #[] }), (100, { cls := Value.type "tuple", data := Data.seq #[Value.str (Str.ofString "program") 335, Value.str (Str.ofString "kinds") 336, Value.str (Str.ofString "name") 337, Value.str (Str.ofString "block") 338] }), (101, { cls := Value.type "tuple", data := Data.seq #[] }), (103, { cls := Value.type "code", data := Data.fields #[Value.str (Str.ofString "called") 332, Value.str (Str.ofString "called") 333, Value.str (Str.ofString "/claim/cut.py") 334, Value.int 26 0, Value.int 3 0, Value.int 0 0, Value.int 0 0, Value.int 3 0, Value.ref 98, Value.bool true, Value.int 181 0, Value.ref 99, Value.none, Value.ref 100, Value.ref 101, Value.ref 102, Value.int 339 0, Value.int 26 0, Value.str (Str.ofString "/claim/cut.py") 340] }), (105, { cls := Value.type "tuple", data := Data.seq #[] }), (107, { cls := Value.type "tuple", data := Data.seq #[Value.str (Str.ofString "kinds") 345, Value.str (Str.ofString "row") 346, Value.str (Str.ofString "size") 347, Value.str (Str.ofString "wants") 348] }), (108, { cls := Value.type "tuple", data := Data.seq #[] }), (110, { cls := Value.type "code", data := Data.fields #[Value.str (Str.ofString "moved") 342, Value.str (Str.ofString "moved") 343, Value.str (Str.ofString "/claim/cut.py") 344, Value.int 29 0, Value.int 2 0, Value.int 0 0, Value.int 0 0, Value.int 3 0, Value.ref 105, Value.bool true, Value.int 181 0, Value.ref 106, Value.none, Value.ref 107, Value.ref 108, Value.ref 109, Value.int 349 0, Value.int 29 0, Value.str (Str.ofString "/claim/cut.py") 350] }), (112, { cls := Value.type "tuple", data := Data.seq #[] }), (114, { cls := Value.type "tuple", data := Data.seq #[Value.str (Str.ofString "program") 355, Value.str (Str.ofString "kinds") 356, Value.str (Str.ofString "row") 357, Value.str (Str.ofString "word") 358, Value.str (Str.ofString "left") 359, Value.str (Str.ofString "yes") 360, Value.str (Str.ofString "no") 361] }), (115, { cls := Value.type "tuple", data := Data.seq #[] }), (117, { cls := Value.type "code", data := Data.fields #[Value.str (Str.ofString "behind") 352, Value.str (Str.ofString "behind") 353, Value.str (Str.ofString "/claim/cut.py") 354, Value.int 41 0, Value.int 3 0, Value.int 0 0, Value.int 0 0, Value.int 3 0, Value.ref 112, Value.bool true, Value.int 181 0, Value.ref 113, Value.none, Value.ref 114, Value.ref 115, Value.ref 116, Value.int 362 0, Value.int 41 0, Value.str (Str.ofString "/claim/cut.py") 363] }), (119, { cls := Value.type "dict", data := Data.dict #[{ hash := PyData.keyHash P (Str.ofString "add"), key := Value.str (Str.ofString "add") 371, val := Value.ref 120 }, { hash := PyData.keyHash P (Str.ofString "mul"), key := Value.str (Str.ofString "mul") 374, val := Value.ref 121 }, { hash := PyData.keyHash P (Str.ofString "less"), key := Value.str (Str.ofString "less") 377, val := Value.ref 122 }, { hash := PyData.keyHash P (Str.ofString "join"), key := Value.str (Str.ofString "join") 380, val := Value.ref 123 }, { hash := PyData.keyHash P (Str.ofString "long"), key := Value.str (Str.ofString "long") 383, val := Value.ref 124 }, { hash := PyData.keyHash P (Str.ofString "show"), key := Value.str (Str.ofString "show") 385, val := Value.ref 125 }] 6 }), (120, { cls := Value.type "tuple", data := Data.seq #[Value.str (Str.ofString "num") 372, Value.str (Str.ofString "num") 373] }), (121, { cls := Value.type "tuple", data := Data.seq #[Value.str (Str.ofString "num") 375, Value.str (Str.ofString "num") 376] }), (122, { cls := Value.type "tuple", data := Data.seq #[Value.str (Str.ofString "num") 378, Value.str (Str.ofString "num") 379] }), (123, { cls := Value.type "tuple", data := Data.seq #[Value.str (Str.ofString "text") 381, Value.str (Str.ofString "text") 382] }), (124, { cls := Value.type "tuple", data := Data.seq #[Value.str (Str.ofString "text") 384] }), (125, { cls := Value.type "tuple", data := Data.seq #[Value.str (Str.ofString "num") 386] }), (126, { cls := Value.type "tuple", data := Data.seq #[] }), (128, { cls := Value.type "tuple", data := Data.seq #[Value.str (Str.ofString "stack") 397, Value.str (Str.ofString "kinds") 398, Value.str (Str.ofString "value") 399] }), (129, { cls := Value.type "tuple", data := Data.seq #[] }), (131, { cls := Value.type "code", data := Data.fields #[Value.str (Str.ofString "kinds_of") 394, Value.str (Str.ofString "kinds_of") 395, Value.str (Str.ofString "/claim/cut.py") 396, Value.int 61 0, Value.int 1 0, Value.int 0 0, Value.int 0 0, Value.int 3 0, Value.ref 126, Value.bool true, Value.int 181 0, Value.ref 127, Value.none, Value.ref 128, Value.ref 129, Value.ref 130, Value.int 400 0, Value.int 61 0, Value.str (Str.ofString "/claim/cut.py") 401] }), (133, { cls := Value.type "tuple", data := Data.seq #[] }), (135, { cls := Value.type "tuple", data := Data.seq #[Value.str (Str.ofString "stack") 406, Value.str (Str.ofString "count") 407] }), (136, { cls := Value.type "tuple", data := Data.seq #[] }), (138, { cls := Value.type "code", data := Data.fields #[Value.str (Str.ofString "need") 403, Value.str (Str.ofString "need") 404, Value.str (Str.ofString "/claim/cut.py") 405, Value.int 69 0, Value.int 2 0, Value.int 0 0, Value.int 0 0, Value.int 3 0, Value.ref 133, Value.bool true, Value.int 181 0, Value.ref 134, Value.none, Value.ref 135, Value.ref 136, Value.ref 137, Value.int 408 0, Value.int 69 0, Value.str (Str.ofString "/claim/cut.py") 409] }), (140, { cls := Value.type "tuple", data := Data.seq #[] }), (142, { cls := Value.type "tuple", data := Data.seq #[Value.str (Str.ofString "word") 414, Value.str (Str.ofString "values") 415] }), (143, { cls := Value.type "tuple", data := Data.seq #[] }), (145, { cls := Value.type "code", data := Data.fields #[Value.str (Str.ofString "reckoned") 411, Value.str (Str.ofString "reckoned") 412, Value.str (Str.ofString "/claim/cut.py") 413, Value.int 72 0, Value.int 2 0, Value.int 0 0, Value.int 0 0, Value.int 3 0, Value.ref 140, Value.bool true, Value.int 181 0, Value.ref 141, Value.none, Value.ref 142, Value.ref 143, Value.ref 144, Value.int 416 0, Value.int 72 0, Value.str (Str.ofString "/claim/cut.py") 417] }), (147, { cls := Value.type "tuple", data := Data.seq #[] }), (149, { cls := Value.type "tuple", data := Data.seq #[Value.str (Str.ofString "stack") 422, Value.str (Str.ofString "row") 423, Value.str (Str.ofString "word") 424, Value.str (Str.ofString "size") 425, Value.str (Str.ofString "takes") 426, Value.str (Str.ofString "values") 427] }), (150, { cls := Value.type "tuple", data := Data.seq #[] }), (152, { cls := Value.type "code", data := Data.fields #[Value.str (Str.ofString "done") 419, Value.str (Str.ofString "done") 420, Value.str (Str.ofString "/claim/cut.py") 421, Value.int 84 0, Value.int 2 0, Value.int 0 0, Value.int 0 0, Value.int 3 0, Value.ref 147, Value.bool true, Value.int 181 0, Value.ref 148, Value.none, Value.ref 149, Value.ref 150, Value.ref 151, Value.int 428 0, Value.int 84 0, Value.str (Str.ofString "/claim/cut.py") 429] }), (154, { cls := Value.type "tuple", data := Data.seq #[] }), (156, { cls := Value.type "tuple", data := Data.seq #[Value.str (Str.ofString "_law_script") 436, Value.str (Str.ofString "_law_tape") 437, Value.str (Str.ofString "_law_many") 438, Value.str (Str.ofString "_law_seed") 439, Value.str (Str.ofString "_law_cell") 440] }), (157, { cls := Value.type "tuple", data := Data.seq #[] }), (159, { cls := Value.type "code", data := Data.fields #[Value.str (Str.ofString "_law_draw") 433, Value.str (Str.ofString "_law_draw") 434, Value.str (Str.ofString "/claim/cut.py") 435, Value.int 105 0, Value.int 3 0, Value.int 0 0, Value.int 0 0, Value.int 3 0, Value.ref 154, Value.bool true, Value.int 181 0, Value.ref 155, Value.none, Value.ref 156, Value.ref 157, Value.ref 158, Value.int 441 0, Value.int 105 0, Value.str (Str.ofString "/claim/cut.py") 442] }), (161, { cls := Value.type "tuple", data := Data.seq #[] }), (164, { cls := Value.type "code", data := Data.fields #[Value.str (Str.ofString "_law_words") 444, Value.str (Str.ofString "_law_words") 445, Value.str (Str.ofString "/claim/cut.py") 446, Value.int 113 0, Value.int 2 0, Value.int 0 0, Value.int 0 0, Value.int 3 0, Value.ref 161, Value.bool true, Value.int 181 0, Value.ref 162, Value.none, Value.none, Value.none, Value.ref 163, Value.int 447 0, Value.int 113 0, Value.str (Str.ofString "/claim/cut.py") 448] }), (166, { cls := Value.type "tuple", data := Data.seq #[] }), (168, { cls := Value.type "tuple", data := Data.seq #[Value.str (Str.ofString "_law_script") 453, Value.str (Str.ofString "_law_tape") 454, Value.str (Str.ofString "_law_kind") 455, Value.str (Str.ofString "_law_cell") 456, Value.str (Str.ofString "_law_way") 457] }), (169, { cls := Value.type "tuple", data := Data.seq #[] }), (171, { cls := Value.type "code", data := Data.fields #[Value.str (Str.ofString "_law_value") 450, Value.str (Str.ofString "_law_value") 451, Value.str (Str.ofString "/claim/cut.py") 452, Value.int 117 0, Value.int 3 0, Value.int 0 0, Value.int 0 0, Value.int 3 0, Value.ref 166, Value.bool true, Value.int 181 0, Value.ref 167, Value.none, Value.ref 168, Value.ref 169, Value.ref 170, Value.int 458 0, Value.int 117 0, Value.str (Str.ofString "/claim/cut.py") 459] }), (173, { cls := Value.type "tuple", data := Data.seq #[] }), (175, { cls := Value.type "tuple", data := Data.seq #[Value.str (Str.ofString "_law_row") 464, Value.str (Str.ofString "_law_two") 465, Value.str (Str.ofString "_law_one") 466] }), (176, { cls := Value.type "tuple", data := Data.seq #[] }), (178, { cls := Value.type "code", data := Data.fields #[Value.str (Str.ofString "_law_wanted") 461, Value.str (Str.ofString "_law_wanted") 462, Value.str (Str.ofString "/claim/cut.py") 463, Value.int 129 0, Value.int 1 0, Value.int 0 0, Value.int 0 0, Value.int 3 0, Value.ref 173, Value.bool true, Value.int 181 0, Value.ref 174, Value.none, Value.ref 175, Value.ref 176, Value.ref 177, Value.int 467 0, Value.int 129 0, Value.str (Str.ofString "/claim/cut.py") 468] }), (180, { cls := Value.type "tuple", data := Data.seq #[] }), (182, { cls := Value.type "tuple", data := Data.seq #[Value.str (Str.ofString "_law_kinds") 473, Value.str (Str.ofString "_law_wanted_here") 474, Value.str (Str.ofString "_law_low") 475, Value.str (Str.ofString "_law_k") 476] }), (183, { cls := Value.type "tuple", data := Data.seq #[] }), (185, { cls := Value.type "code", data := Data.fields #[Value.str (Str.ofString "_law_lack") 470, Value.str (Str.ofString "_law_lack") 471, Value.str (Str.ofString "/claim/cut.py") 472, Value.int 139 0, Value.int 2 0, Value.int 0 0, Value.int 0 0, Value.int 3 0, Value.ref 180, Value.bool true, Value.int 181 0, Value.ref 181, Value.none, Value.ref 182, Value.ref 183, Value.ref 184, Value.int 477 0, Value.int 139 0, Value.str (Str.ofString "/claim/cut.py") 478] }), (187, { cls := Value.type "tuple", data := Data.seq #[] }), (189, { cls := Value.type "tuple", data := Data.seq #[Value.str (Str.ofString "_law_kinds") 483, Value.str (Str.ofString "_law_row") 484, Value.str (Str.ofString "_law_left") 485] }), (190, { cls := Value.type "tuple", data := Data.seq #[] }), (192, { cls := Value.type "code", data := Data.fields #[Value.str (Str.ofString "_law_plainly") 480, Value.str (Str.ofString "_law_plainly") 481, Value.str (Str.ofString "/claim/cut.py") 482, Value.int 147 0, Value.int 2 0, Value.int 0 0, Value.int 0 0, Value.int 3 0, Value.ref 187, Value.bool true, Value.int 181 0, Value.ref 188, Value.none, Value.ref 189, Value.ref 190, Value.ref 191, Value.int 486 0, Value.int 147 0, Value.str (Str.ofString "/claim/cut.py") 487] }), (194, { cls := Value.type "tuple", data := Data.seq #[] }), (196, { cls := Value.type "tuple", data := Data.seq #[Value.str (Str.ofString "_law_script") 492, Value.str (Str.ofString "_law_tape") 493, Value.str (Str.ofString "_law_some") 494, Value.str (Str.ofString "_law_word") 495] }), (197, { cls := Value.type "tuple", data := Data.seq #[] }), (199, { cls := Value.type "code", data := Data.fields #[Value.str (Str.ofString "_law_plain_row") 489, Value.str (Str.ofString "_law_plain_row") 490, Value.str (Str.ofString "/claim/cut.py") 491, Value.int 158 0, Value.int 2 0, Value.int 0 0, Value.int 0 0, Value.int 3 0, Value.ref 194, Value.bool true, Value.int 181 0, Value.ref 195, Value.none, Value.ref 196, Value.ref 197, Value.ref 198, Value.int 496 0, Value.int 158 0, Value.str (Str.ofString "/claim/cut.py") 497] }), (201, { cls := Value.type "tuple", data := Data.seq #[] }), (203, { cls := Value.type "tuple", data := Data.seq #[Value.str (Str.ofString "_law_script") 502, Value.str (Str.ofString "_law_tape") 503, Value.str (Str.ofString "_law_row") 504, Value.str (Str.ofString "_law_size") 505, Value.str (Str.ofString "_law_stack_here") 506, Value.str (Str.ofString "_law_k") 507, Value.str (Str.ofString "_law_kind") 508] }), (204, { cls := Value.type "tuple", data := Data.seq #[] }), (206, { cls := Value.type "code", data := Data.fields #[Value.str (Str.ofString "_law_stack") 499, Value.str (Str.ofString "_law_stack") 500, Value.str (Str.ofString "/claim/cut.py") 501, Value.int 166 0, Value.int 3 0, Value.int 0 0, Value.int 0 0, Value.int 3 0, Value.ref 201, Value.bool true, Value.int 181 0, Value.ref 202, Value.none, Value.ref 203, Value.ref 204, Value.ref 205, Value.int 509 0, Value.int 166 0, Value.str (Str.ofString "/claim/cut.py") 510] }), (208, { cls := Value.type "tuple", data := Data.seq #[] }), (210, { cls := Value.type "tuple", data := Data.seq #[Value.str (Str.ofString "_law_kinds") 515, Value.str (Str.ofString "_law_row") 516] }), (211, { cls := Value.type "tuple", data := Data.seq #[] }), (213, { cls := Value.type "code", data := Data.fields #[Value.str (Str.ofString "_law_by_kinds") 512, Value.str (Str.ofString "_law_by_kinds") 513, Value.str (Str.ofString "/claim/cut.py") 514, Value.int 184 0, Value.int 2 0, Value.int 0 0, Value.int 0 0, Value.int 3 0, Value.ref 208, Value.bool true, Value.int 181 0, Value.ref 209, Value.none, Value.ref 210, Value.ref 211, Value.ref 212, Value.int 517 0, Value.int 184 0, Value.str (Str.ofString "/claim/cut.py") 518] }), (215, { cls := Value.type "tuple", data := Data.seq #[] }), (217, { cls := Value.type "tuple", data := Data.seq #[Value.str (Str.ofString "_law_stack_here") 523, Value.str (Str.ofString "_law_row") 524] }), (218, { cls := Value.type "tuple", data := Data.seq #[] }), (220, { cls := Value.type "code", data := Data.fields #[Value.str (Str.ofString "_law_by_values") 520, Value.str (Str.ofString "_law_by_values") 521, Value.str (Str.ofString "/claim/cut.py") 522, Value.int 191 0, Value.int 2 0, Value.int 0 0, Value.int 0 0, Value.int 3 0, Value.ref 215, Value.bool true, Value.int 181 0, Value.ref 216, Value.none, Value.ref 217, Value.ref 218, Value.ref 219, Value.int 525 0, Value.int 191 0, Value.str (Str.ofString "/claim/cut.py") 526] }), (222, { cls := Value.type "tuple", data := Data.seq #[] }), (224, { cls := Value.type "tuple", data := Data.seq #[Value.str (Str.ofString "_law_found") 531, Value.str (Str.ofString "_law_due") 532, Value.str (Str.ofString "_law_k") 533] }), (225, { cls := Value.type "tuple", data := Data.seq #[] }), (227, { cls := Value.type "code", data := Data.fields #[Value.str (Str.ofString "_law_tuple") 528, Value.str (Str.ofString "_law_tuple") 529, Value.str (Str.ofString "/claim/cut.py") 530, Value.int 198 0, Value.int 2 0, Value.int 0 0, Value.int 0 0, Value.int 3 0, Value.ref 222, Value.bool true, Value.int 181 0, Value.ref 223, Value.none, Value.ref 224, Value.ref 225, Value.ref 226, Value.int 534 0, Value.int 198 0, Value.str (Str.ofString "/claim/cut.py") 535] }), (229, { cls := Value.type "tuple", data := Data.seq #[] }), (232, { cls := Value.type "code", data := Data.fields #[Value.str (Str.ofString "law") 537, Value.str (Str.ofString "law") 538, Value.str (Str.ofString "/claim/cut.py") 539, Value.int 205 0, Value.int 1 0, Value.int 0 0, Value.int 0 0, Value.int 3 0, Value.ref 229, Value.bool true, Value.int 181 0, Value.ref 230, Value.none, Value.none, Value.none, Value.ref 231, Value.int 540 0, Value.int 205 0, Value.str (Str.ofString "/claim/cut.py") 541] })]
noncomputable def adrs : List Addr := [2, 3, 15, 22, 23, 24, 25, 28, 35, 36, 37, 40, 47, 48, 49, 52, 59, 60, 61, 64, 71, 72, 73, 76, 77, 78, 79, 80, 81, 82, 83, 84, 86, 87, 89, 91, 93, 94, 96, 98, 100, 101, 103, 105, 107, 108, 110, 112, 114, 115, 117, 119, 120, 121, 122, 123, 124, 125, 126, 128, 129, 131, 133, 135, 136, 138, 140, 142, 143, 145, 147, 149, 150, 152, 154, 156, 157, 159, 161, 164, 166, 168, 169, 171, 173, 175, 176, 178, 180, 182, 183, 185, 187, 189, 190, 192, 194, 196, 197, 199, 201, 203, 204, 206, 208, 210, 211, 213, 215, 217, 218, 220, 222, 224, 225, 227, 229, 232]
abbrev loos : List Str := ["TAKES_kinds", "PUTS", "TAKES_rows"]
noncomputable abbrev hook : Hook := kHook heap_39 adrs (fun _ => by kernel_rfl)
noncomputable abbrev xt : Shared → Bool := fun s => xlAt view_39 [] s && recOk PySem.Challenge.rw_uf030026_02.row.records s
set_option maxRecDepth 1000000
set_option maxHeartbeats 0
theorem bo : ∀ w : World, (fencedOpening treeTable PySem.Challenge.rw_uf030026_02.row.toRowW.1 w 4284).map (fun s => (s.heap, s.gens, s.drawn, s.toks)) = some (boot_heap w.params, Array.mk [], boot_drawn, boot_toks) := boot_open (by kernel_rfl) (by decide) (fun s => by kernel_rfl)
theorem use_boot {o : Option Shared} {h : Heap} {g : Array GenState} {d : Drawn} {t : Nat} (b : o.map (fun s => (s.heap, s.gens, s.drawn, s.toks)) = some (h, g, d, t)) {X : Type} {F : Shared → X} {x : X} (k : ∀ os, F ⟨h, g, d, t, os⟩ = x) : o.map F = some x := by
  obtain ⟨⟨h', g', d', t', os⟩, e, c⟩ := Option.map_eq_some_iff.mp b
  cases c
  rw [e]; exact congrArg some (k os)
noncomputable abbrev topr (w : World) (os : OsState) (x : Bool) : Option Shared := topFrom treeTable PySem.Challenge.rw_uf030026_02.row.toRowW.1 (w.withFollow "special-get-raises" x) 4284 ⟨boot_heap w.params, Array.mk [], boot_drawn, boot_toks, os⟩
theorem lw : looseW view_39 loos = loos := by kernel_rfl
noncomputable abbrev fC (L : List Str) (s : Shared) := ((seen ((recsOf view_39).map (·.name)) (ownsOf view_39) [] { s with gens := #[] }, s.heap.bltView, s.heap.keysOk L ((recsOf view_39).map (·.name)) ((litsOf view_39).map (·.1)) ((clssOf view_39 L).map (·.name)) && s.heap.accountedOkI (importedModules PySem.Challenge.rw_uf030026_02.row.toRowW.1.main.body) && s.heap.isNs mainGlobals && s.heap.isNs builtinsNs && tablesOk view_39 s.heap && xt s && (if true then s.gens.size == 0 else !leftWithCleanup s.gens), tabsOk view_39 s, pinSeenD view_39 (drecsOf view_39) s, plainSeenE view_39 L s, plainSeenD view_39 loos s, wideSeen view_39 s, clsSeenW view_39 loos s), hook.obs s)
noncomputable abbrev gC (L : List Str) (w : World) := ((expectedOf view_39, bltViewBooted, true, true, pinGoodD (drecsOf view_39), plainGoodE view_39 L, plainGoodD view_39 loos, wideGood view_39, clsGoodW view_39 loos), hook.val w)
theorem half (w : World) (os : OsState) : (topr w os false).map (fC loos) = some (gC loos (w.withFollow "special-get-raises" false)) := by kernel_rfl
theorem half' (w : World) (os : OsState) : (topr w os true).map (fC loos) = some (gC loos (w.withFollow "special-get-raises" true)) := by kernel_rfl
theorem whol (w : World) (os : OsState) (x : Bool) (h : (topr w os x).map (fC loos) = some (gC loos (w.withFollow "special-get-raises" x))) : (topr w os x).map (fun s => (openSeen view_39 loos (importedModules PySem.Challenge.rw_uf030026_02.row.toRowW.1.main.body) xt true s, hook.obs s)) = some (openGood view_39 loos, hook.val (w.withFollow "special-get-raises" x)) := by
  replace h : (topr w os x).map (fC (looseW view_39 loos)) = some (gC (looseW view_39 loos) (w.withFollow "special-get-raises" x)) := by rw [lw]; exact h
  exact h
theorem left : LeftO PySem.Challenge.rw_uf030026_02.row.toRowW.1 view_39 loos xt hook.obs hook.val 4284 := LeftO.of_split "special-get-raises" fun w => use_boot (bo w) fun os => congr (congrArg Prod.mk (whol w os false (half w os))) (whol w os true (half' w os))
end Mine.hd
end
section
open PySem
namespace Mine
set_option autoImplicit false

/-- abstract values -/
inductive PV where
  | none
  | bool (b : Bool)
  | int (i : Int)
  | str (s : Str)
  | tup (xs : List PV)
  | obj (a : Addr)
  | exc (c : Nat)
  | fls (xs : List Int)
  | fdt (kvs : List (Str × PV))
  | rng (n : Int)

/-- abstract objects -/
inductive AObj where
  | list (xs : List PV)
  | dict (kvs : List (Str × PV))
  | tape (n : Nat)
  | inst (c : Nat) (d : Addr)

abbrev AHeap := Addr → Option AObj
abbrev Loc := List (Option PV)
abbrev Post := PV → AHeap → Prop
abbrev BPost := Bool → AHeap → Prop
abbrev XPost := Nat → AHeap → Prop
abbrev CallSpec := Str → List PV → AHeap → Post → XPost → Prop

noncomputable def Ext (H H' : AHeap) : Prop := ∀ b o, H b = some o → H' b = some o
noncomputable def ExtB (a : Addr) (H H' : AHeap) : Prop := ∀ b o, b ≠ a → H b = some o → H' b = some o

inductive Blt where
  | len | list | tuple | range | max | min | int | str | all | any | abs
noncomputable def Blt.name : Blt → String
  | .len => "len" | .list => "list" | .tuple => "tuple" | .range => "range" | .max => "max" | .min => "min" | .int => "int" | .str => "str" | .all => "all" | .any => "any" | .abs => "abs"

inductive Meth where
  | append | pop | dpop | insert | count | join
noncomputable def Meth.name : Meth → String
  | .append => "append" | .pop => "pop" | .dpop => "pop" | .insert => "insert" | .count => "count" | .join => "join"

inductive ICls where
  | str | list | tuple | bool | int | intstr | value | own (c : Nat) (x : Str)

set_option genSizeOf false
set_option genInjectivity false
mutual
inductive AE where
  | lit (c : Const) (k : Nat) (p : Pos)
  | var (i : Nat) (p : Pos)
  | glob (x : Str) (p : Pos)
  | bin (l : AE) (o : Operator) (r : AE) (p : Pos)
  | neg (e : AE) (p : Pos)
  | not (e : AE) (p : Pos)
  | bop (o : BoolOp) (es : AEs) (p : Pos)
  | cmp (l : AE) (o : CmpOp) (r : AE) (p : Pos)
  | sub (e i : AE) (p : Pos)
  | sfrom (e i : AE) (ps p : Pos)
  | sto (e i : AE) (ps p : Pos)
  | srev (e : AE) (c ps p : Pos) (cu : Pos)
  | tup (es : AEs) (k : Nat) (p : Pos)
  | list (es : AEs) (p : Pos)
  | tape (pc p : Pos)
  | dict (ks : List (Str × Pos)) (vs : AEs) (p : Pos)
  | call (f : Str) (es : AEs) (pf p : Pos)
  | blt (b : Blt) (es : AEs) (pf p : Pos)
  | isi (e : AE) (c : ICls) (pf p1 p2 p3 p : Pos)
  | meth (o : AE) (nm : Meth) (es : AEs) (pa p : Pos)
  | umeth (o : AE) (c : Str) (nm : Str) (es : AEs) (pa p : Pos)
  | attr (o : AE) (nm : Str) (p : Pos)
  | comp (elt : AE) (x : Nat) (px : Pos) (it : AE) (cs : AEs) (sc : Scope) (p : Pos)
inductive AEs where
  | nil
  | cons (e : AE) (es : AEs)
end

mutual
inductive AS where
  | expr (e : AE) (p : Pos)
  | assign (x : Nat) (px : Pos) (e : AE) (p : Pos)
  | assignT (xs : List (Nat × Pos)) (k : Nat) (pt : Pos) (e : AE) (p : Pos)
  | store (o i : AE) (ps : Pos) (e : AE) (p : Pos)
  | sattr (o : AE) (nm : Str) (pa : Pos) (e : AE) (p : Pos)
  | ite (c : AE) (a b : ASs) (p : Pos)
  | for (x : Nat) (px : Pos) (it : AE) (b : ASs) (p : Pos)
  | while (c : AE) (b : ASs) (p : Pos)
  | ret (e : AE) (p : Pos)
  | ret0 (p : Pos)
  | raise (c : Nat) (x : Str) (msg : Str) (k : Nat) (pc pm pk p : Pos)
  | try (b : ASs) (hs : AHs) (p : Pos)
inductive ASs where
  | nil
  | cons (s : AS) (ss : ASs)
inductive AHs where
  | nil
  | cons (c : Nat) (x : Str) (px : Pos) (y : Option Nat) (b : ASs) (p : Pos) (hs : AHs)
end

set_option genSizeOf true
set_option genInjectivity true
section toSyntax
variable (nm : List Str)
noncomputable def slot (i : Nat) : Str := nm.getD i Str.empty
noncomputable def ICls.expr (p1 p2 p3 : Pos) : ICls → Expr
  | .str => .Name "str" p1
  | .list => .Name "list" p1
  | .tuple => .Name "tuple" p1
  | .bool => .Name "bool" p1
  | .int => .Name "int" p1
  | .intstr => .Tuple [.Name "int" p2, .Name "str" p3] 0 p1
  | .value => .Name "ValueError" p1
  | .own _ x => .Name x p1
mutual
noncomputable def AE.toE : AE → Expr
  | .lit c k p => .Constant c k p
  | .var i p => .Name (slot nm i) p
  | .glob x p => .Name x p
  | .bin l o r p => .BinOp l.toE o r.toE p
  | .neg e p => .UnaryOp .USub e.toE p
  | .not e p => .UnaryOp .Not e.toE p
  | .bop o es p => .BoolOp o es.toEs p
  | .cmp l o r p => .Compare l.toE [o] [r.toE] p
  | .sub e i p => .Subscript e.toE i.toE p
  | .sfrom e i ps p => .Subscript e.toE (.Slice (some i.toE) none none ps) p
  | .sto e i ps p => .Subscript e.toE (.Slice none (some i.toE) none ps) p
  | .srev e c ps p cu => .Subscript e.toE (.Slice none none (some (.UnaryOp .USub (.Constant (.int 1) 0 c) cu)) ps) p
  | .tup es k p => .Tuple es.toEs k p
  | .list es p => .List es.toEs p
  | .tape pc p => .List [.Constant (.int 0) 0 pc] p
  | .dict ks vs p => .Dict (ks.map fun x => some (.Constant (.str x.1) 0 x.2)) vs.toEs p
  | .call f es pf p => .Call (.Name f pf) es.toEs [] p
  | .blt b es pf p => .Call (.Name b.name pf) es.toEs [] p
  | .isi e c pf p1 p2 p3 p => .Call (.Name "isinstance" pf) [e.toE, c.expr p1 p2 p3] [] p
  | .meth o m es pa p => .Call (.Attribute o.toE m.name pa) es.toEs [] p
  | .umeth o _ m es pa p => .Call (.Attribute o.toE m pa) es.toEs [] p
  | .attr o m p => .Attribute o.toE m p
  | .comp elt x px it cs sc p => .ListComp elt.toE [{ target := .Name (slot nm x) px, iter := it.toE, ifs := cs.toEs, is_async := 0 }] sc p
noncomputable def AEs.toEs : AEs → List Expr
  | .nil => []
  | .cons e es => e.toE :: es.toEs
end
mutual
noncomputable def AS.toS : AS → Stmt
  | .expr e p => .Expr (e.toE nm) p
  | .assign x px e p => .Assign [.Name (slot nm x) px] (e.toE nm) p
  | .assignT xs k pt e p => .Assign [.Tuple (xs.map fun x => .Name (slot nm x.1) x.2) k pt] (e.toE nm) p
  | .store o i ps e p => .Assign [.Subscript (o.toE nm) (i.toE nm) ps] (e.toE nm) p
  | .sattr o n pa e p => .Assign [.Attribute (o.toE nm) n pa] (e.toE nm) p
  | .ite c a b p => .If (c.toE nm) a.toSs b.toSs p
  | .for x px it b p => .For (.Name (slot nm x) px) (it.toE nm) b.toSs [] p
  | .while c b p => .While (c.toE nm) b.toSs [] p
  | .ret e p => .Return (some (e.toE nm)) p
  | .ret0 p => .Return none p
  | .raise _ x msg k pc pm pk p => .Raise (some (.Call (.Name x pc) [.Constant (.str msg) k pm] [] pk)) none p
  | .try b hs p => .Try b.toSs hs.toHs [] [] p
noncomputable def ASs.toSs : ASs → List Stmt
  | .nil => []
  | .cons s ss => s.toS :: ss.toSs
noncomputable def AHs.toHs : AHs → List ExceptHandler
  | .nil => []
  | .cons _ x px y b p hs => .ExceptHandler (some (.Name x px)) (y.map (slot nm)) b.toSs p :: hs.toHs
end
end toSyntax

/-! the abstract semantics -/
noncomputable def LIM : Nat := 1048576
noncomputable def getO (H : AHeap) (a : Addr) (K : AObj → Prop) : Prop := ∃ o, H a = some o ∧ K o
noncomputable def alloc (o : AObj) (Q : Post) (H : AHeap) : Prop := ∀ a H', H a = none → H' a = some o → Ext H H' → Q (.obj a) H'
noncomputable def mutate (a : Addr) (o : AObj) (K : AHeap → Prop) (H : AHeap) : Prop := ∀ H', H' a = some o → ExtB a H H' → K H'

noncomputable def dget {α : Type} (kvs : List (Str × α)) (k : Str) : Option α := (kvs.find? fun p => decide (p.1 = k)).map (·.2)
noncomputable def dset {α : Type} (kvs : List (Str × α)) (k : Str) (v : α) : List (Str × α) :=
  if kvs.any (fun p => decide (p.1 = k)) then kvs.map (fun p => if p.1 = k then (p.1, v) else p) else kvs ++ [(k, v)]

inductive EqA : PV → PV → Bool → Prop
  | bool (a b : Bool) : EqA (.bool a) (.bool b) (a == b)
  | int (a b : Int) : EqA (.int a) (.int b) (a == b)
  | str (a b : Str) : EqA (.str a) (.str b) (a == b)
  | intstr (a : Int) (b : Str) : EqA (.int a) (.str b) false
  | strint (a : Str) (b : Int) : EqA (.str a) (.int b) false
mutual
inductive EqV (H : AHeap) : Nat → PV → PV → Bool → Prop
  | atom {n : Nat} {p q : PV} {b : Bool} : EqA p q b → EqV H n p q b
  | tup {n : Nat} {xs ys : List PV} {b : Bool} : EqL H n xs ys b → EqV H (n + 1) (.tup xs) (.tup ys) b
  | list {n : Nat} {a b : Addr} {xs ys : List PV} {r : Bool} : H a = some (.list xs) → H b = some (.list ys) → EqL H n xs ys r → EqV H (n + 1) (.obj a) (.obj b) r
inductive EqL (H : AHeap) : Nat → List PV → List PV → Bool → Prop
  | nil {n : Nat} : EqL H n [] [] true
  | l {n : Nat} (x : PV) (xs : List PV) : EqL H n (x :: xs) [] false
  | r {n : Nat} (y : PV) (ys : List PV) : EqL H n [] (y :: ys) false
  | c {n : Nat} {x y : PV} {xs ys : List PV} {a b : Bool} : EqV H n x y a → EqL H n xs ys b → EqL H n (x :: xs) (y :: ys) (a && b)
end
theorem EqV.bool {H : AHeap} {n : Nat} (a b : Bool) : EqV H n (.bool a) (.bool b) (a == b) := .atom (.bool a b)
theorem EqV.int {H : AHeap} {n : Nat} (a b : Int) : EqV H n (.int a) (.int b) (a == b) := .atom (.int a b)
theorem EqV.str {H : AHeap} {n : Nat} (a b : Str) : EqV H n (.str a) (.str b) (a == b) := .atom (.str a b)
inductive EqD (H : AHeap) : List (Str × PV) → List (Str × PV) → Bool → Prop
  | nil {ys : List (Str × PV)} : EqD H ys [] true
  | miss {ys xs : List (Str × PV)} {k : Str} {v : PV} : dget ys k = none → EqD H ys ((k, v) :: xs) false
  | c {ys xs : List (Str × PV)} {k : Str} {v w : PV} {a b : Bool} : dget ys k = some w → EqV H 40 v w a → EqD H ys xs b → EqD H ys ((k, v) :: xs) (a && b)
inductive EqT (H : AHeap) : PV → PV → Bool → Prop
  | val {v w : PV} {b : Bool} : EqV H 40 v w b → EqT H v w b
  | dict {a b : Addr} {xs ys : List (Str × PV)} {r : Bool} : H a = some (.dict xs) → H b = some (.dict ys) → xs.length = ys.length → EqD H ys xs r → EqT H (.obj a) (.obj b) r
  | dictlen {a b : Addr} {xs ys : List (Str × PV)} : H a = some (.dict xs) → H b = some (.dict ys) → xs.length ≠ ys.length → EqT H (.obj a) (.obj b) false

noncomputable def litW (c : Const) (Q : Post) (H : AHeap) : Prop :=
  match c with
  | .none => Q .none H
  | .bool b => Q (.bool b) H
  | .int i => Q (.int i) H
  | .str s => Q (.str s) H
  | _ => False
noncomputable def varW (v : Option PV) (Q : Post) (H : AHeap) : Prop :=
  match v with
  | some v => Q v H
  | none => False
noncomputable def truthW (v : PV) (K : Bool → Prop) : Prop :=
  match v with
  | .bool b => K b
  | _ => False
noncomputable def repL (n : Int) (xs : List PV) : List PV := (List.replicate n.toNat xs).flatten
inductive BinW (Q : Post) (H : AHeap) : Operator → PV → PV → Prop
  | addI (a b : Int) (h : Q (.int (a + b)) H) : BinW Q H .Add (.int a) (.int b)
  | subI (a b : Int) (h : Q (.int (a - b)) H) : BinW Q H .Sub (.int a) (.int b)
  | mulI (a b : Int) (k : a.natAbs < 2 ^ 60 ∨ b.natAbs < 2 ^ 60) (h : Q (.int (a * b)) H) : BinW Q H .Mult (.int a) (.int b)
  | modI (a b : Int) (k : 0 < b) (h : Q (.int (a % b)) H) : BinW Q H .Mod (.int a) (.int b)
  | divI (a b : Int) (k : 0 < b) (k' : b < 1073741824) (h : Q (.int (a / b)) H) : BinW Q H .FloorDiv (.int a) (.int b)
  | powI (h : Q (.int 1000000000) H) : BinW Q H .Pow (.int 10) (.int 9)
  | addS (a b : Str) (k : a.length + b.length ≤ LIM) (h : Q (.str (a ++ b)) H) : BinW Q H .Add (.str a) (.str b)
  | addT (a b : List PV) (k : a.length + b.length ≤ LIM) (h : Q (.tup (a ++ b)) H) : BinW Q H .Add (.tup a) (.tup b)
  | addL (a b : Addr) (xs ys : List PV) (ha : H a = some (.list xs)) (hb : H b = some (.list ys)) (k : xs.length + ys.length ≤ LIM) (h : alloc (.list (xs ++ ys)) Q H) : BinW Q H .Add (.obj a) (.obj b)
  | mulL (a : Addr) (n : Int) (xs : List PV) (ha : H a = some (.list xs)) (k1 : n ≤ LIM) (k2 : -LIM ≤ n) (k3 : xs.length * n.toNat ≤ LIM) (h : alloc (.list (repL n xs)) Q H) : BinW Q H .Mult (.obj a) (.int n)
/-- a told value, or a rule -/
noncomputable def pureOr {α : Type} (f : Option α) (K : α → Prop) (R : Prop) : Prop := match f with
  | some a => K a
  | none => R
theorem pureOr.to {α : Type} {f : Option α} {K : α → Prop} {R : Prop} (h : pureOr f K R) (k : ∀ a, f = some a → K a → R) : R := by
  cases f with
  | none => exact h
  | some a => exact k a rfl h
noncomputable def intF (op : Operator) (a b : Int) : Option Int := match op with
  | .Add => some (a + b)
  | .Sub => some (a - b)
  | .Mod => if 0 < b then some (a % b) else none
  | .FloorDiv => if 0 < b then if b < 1073741824 then some (a / b) else none else none
  | _ => none
noncomputable def binF (op : Operator) (v w : PV) : Option PV := match v with
  | .int a => (match w with
    | .int b => (match intF op a b with | some i => some (.int i) | none => none)
    | _ => none)
  | _ => none
noncomputable def binW (op : Operator) (v w : PV) (Q : Post) (H : AHeap) : Prop := pureOr (binF op v w) (fun u => Q u H) (BinW Q H op v w)
noncomputable def hasKey (kvs : List (Str × PV)) (k : Str) : Bool := (dget kvs k).isSome
inductive CmpW (K : Bool → Prop) (H : AHeap) : CmpOp → PV → PV → Prop
  | eq {v w : PV} {b : Bool} (e : EqT H v w b) (h : K b) : CmpW K H .Eq v w
  | ne {v w : PV} {b : Bool} (e : EqT H v w b) (h : K (!b)) : CmpW K H .NotEq v w
  | lt (a b : Int) (h : K (decide (a < b))) : CmpW K H .Lt (.int a) (.int b)
  | le (a b : Int) (h : K (decide (a ≤ b))) : CmpW K H .LtE (.int a) (.int b)
  | gt (a b : Int) (h : K (decide (b < a))) : CmpW K H .Gt (.int a) (.int b)
  | inD {k : Str} {a : Addr} {kvs : List (Str × PV)} (ha : H a = some (.dict kvs)) (h : K (hasKey kvs k)) : CmpW K H .In (.str k) (.obj a)
  | niD {k : Str} {a : Addr} {kvs : List (Str × PV)} (ha : H a = some (.dict kvs)) (h : K (!hasKey kvs k)) : CmpW K H .NotIn (.str k) (.obj a)
  | inL {k : Str} {a : Addr} {ks : List Str} (ha : H a = some (.list (ks.map .str))) (h : K (decide (k ∈ ks))) : CmpW K H .In (.str k) (.obj a)
  | niL {k : Str} {a : Addr} {ks : List Str} (ha : H a = some (.list (ks.map .str))) (h : K (!decide (k ∈ ks))) : CmpW K H .NotIn (.str k) (.obj a)
noncomputable def cmpI (op : CmpOp) (a b : Int) : Option Bool := match op with
  | .Eq => some (a == b)
  | .NotEq => some (!(a == b))
  | .Lt => some (decide (a < b))
  | .LtE => some (decide (a ≤ b))
  | .Gt => some (decide (b < a))
  | _ => none
noncomputable def cmpS (op : CmpOp) (a b : Str) : Option Bool := match op with
  | .Eq => some (a == b)
  | .NotEq => some (!(a == b))
  | _ => none
noncomputable def cmpF (op : CmpOp) (v w : PV) : Option Bool := match v with
  | .int a => (match w with | .int b => cmpI op a b | _ => none)
  | .str a => (match w with | .str b => cmpS op a b | _ => none)
  | _ => none
noncomputable def cmpW (op : CmpOp) (v w : PV) (Q : BPost) (H : AHeap) : Prop := pureOr (cmpF op v w) (fun b => Q b H) (CmpW (fun b => Q b H) H op v w)
noncomputable def itemAt {α : Type} (xs : List α) (k : Int) : Option α :=
  if 0 ≤ k then xs[k.toNat]? else if 0 ≤ k + xs.length then xs[(k + xs.length).toNat]? else none
noncomputable def signAt (s : Str) (k : Int) : Option Str := (itemAt s.cps.toList k).map fun c => ⟨#[c]⟩
inductive SubW (Q : Post) (H : AHeap) : PV → PV → Prop
  | tup {xs : List PV} {k : Int} {x : PV} (e : itemAt xs k = some x) (h : Q x H) : SubW Q H (.tup xs) (.int k)
  | str {s x : Str} {k : Int} (l : s.length ≤ LIM) (e : signAt s k = some x) (h : Q (.str x) H) : SubW Q H (.str s) (.int k)
  | fls {xs : List Int} {k x : Int} (e : itemAt xs k = some x) (h : Q (.int x) H) : SubW Q H (.fls xs) (.int k)
  | fdt {kvs : List (Str × PV)} {k : Str} {x : PV} (e : dget kvs k = some x) (h : Q x H) : SubW Q H (.fdt kvs) (.str k)
  | list {a : Addr} {xs : List PV} {k : Int} {x : PV} (ha : H a = some (.list xs)) (e : itemAt xs k = some x) (h : Q x H) : SubW Q H (.obj a) (.int k)
  | dict {a : Addr} {kvs : List (Str × PV)} {k : Str} {x : PV} (ha : H a = some (.dict kvs)) (e : dget kvs k = some x) (h : Q x H) : SubW Q H (.obj a) (.str k)
  | tape {a : Addr} {n : Nat} (ha : H a = some (.tape n)) (h : Q (.int n) H) : SubW Q H (.obj a) (.int 0)
noncomputable def subF (v i : PV) : Option PV := match v with
  | .tup xs => (match i with | .int k => itemAt xs k | _ => none)
  | _ => none
noncomputable def subW (v i : PV) (Q : Post) (H : AHeap) : Prop := pureOr (subF v i) (fun u => Q u H) (SubW Q H v i)
/-- where a cut falls in a row of n -/
noncomputable def cutAt (n : Nat) (k : Int) : Nat := if 0 ≤ k then min k.toNat n else (k + n).toNat
inductive FromW (Q : Post) (H : AHeap) : PV → PV → Prop
  | tup {xs : List PV} {k : Int} (h : Q (.tup (xs.drop (cutAt xs.length k))) H) : FromW Q H (.tup xs) (.int k)
  | str {s : Str} {k : Int} (l : s.length ≤ LIM) (h : Q (.str ⟨(s.cps.toList.drop (cutAt s.length k)).toArray⟩) H) : FromW Q H (.str s) (.int k)
  | list {a : Addr} {xs : List PV} {k : Int} (ha : H a = some (.list xs)) (h : alloc (.list (xs.drop (cutAt xs.length k))) Q H) : FromW Q H (.obj a) (.int k)
inductive ToW (Q : Post) (H : AHeap) : PV → PV → Prop
  | tup {xs : List PV} {k : Int} (h : Q (.tup (xs.take (cutAt xs.length k))) H) : ToW Q H (.tup xs) (.int k)
  | str {s : Str} {k : Int} (l : s.length ≤ LIM) (h : Q (.str ⟨(s.cps.toList.take (cutAt s.length k)).toArray⟩) H) : ToW Q H (.str s) (.int k)
  | fls {xs : List Int} {k : Int} (h : alloc (.list ((xs.take (cutAt xs.length k)).map .int)) Q H) : ToW Q H (.fls xs) (.int k)
  | list {a : Addr} {xs : List PV} {k : Int} (ha : H a = some (.list xs)) (h : alloc (.list (xs.take (cutAt xs.length k))) Q H) : ToW Q H (.obj a) (.int k)
inductive RevW (Q : Post) (H : AHeap) : PV → Prop
  | list {a : Addr} {xs : List PV} (ha : H a = some (.list xs)) (h : alloc (.list xs.reverse) Q H) : RevW Q H (.obj a)
noncomputable def dictOf (ks : List Str) (vs : List PV) : List (Str × PV) := (ks.zip vs).foldl (fun d p => dset d p.1 p.2) []
inductive BltW (Q : Post) (H : AHeap) : Blt → List PV → Prop
  | lenT (xs : List PV) (h : Q (.int xs.length) H) : BltW Q H .len [.tup xs]
  | lenS (s : Str) (l : s.length ≤ LIM) (h : Q (.int s.length) H) : BltW Q H .len [.str s]
  | lenF (xs : List Int) (h : Q (.int xs.length) H) : BltW Q H .len [.fls xs]
  | lenL (a : Addr) (xs : List PV) (ha : H a = some (.list xs)) (h : Q (.int xs.length) H) : BltW Q H .len [.obj a]
  | lenD (a : Addr) (kvs : List (Str × PV)) (ha : H a = some (.dict kvs)) (h : Q (.int kvs.length) H) : BltW Q H .len [.obj a]
  | listT (xs : List PV) (h : alloc (.list xs) Q H) : BltW Q H .list [.tup xs]
  | listL (a : Addr) (xs : List PV) (ha : H a = some (.list xs)) (h : alloc (.list xs) Q H) : BltW Q H .list [.obj a]
  | listD (a : Addr) (kvs : List (Str × PV)) (ha : H a = some (.dict kvs)) (h : alloc (.list (kvs.map fun x => .str x.1)) Q H) : BltW Q H .list [.obj a]
  | tupT (xs : List PV) (h : Q (.tup xs) H) : BltW Q H .tuple [.tup xs]
  | tupL (a : Addr) (xs : List PV) (ha : H a = some (.list xs)) (h : Q (.tup xs) H) : BltW Q H .tuple [.obj a]
  | range (n : Int) (k : n.natAbs ≤ LIM) (h : Q (.rng n) H) : BltW Q H .range [.int n]
  | max (a b : Int) (h : Q (.int (if a < b then b else a)) H) : BltW Q H .max [.int a, .int b]
  | min (a b : Int) (h : Q (.int (if b < a then b else a)) H) : BltW Q H .min [.int a, .int b]
  | intB (b : Bool) (h : Q (.int (if b then 1 else 0)) H) : BltW Q H .int [.bool b]
  | intI (i : Int) (h : Q (.int i) H) : BltW Q H .int [.int i]
  | strI (i : Int) (k : i.natAbs < 10 ^ 18) (h : Q (.str (Str.ofString (toString i))) H) : BltW Q H .str [.int i]
  | abs (i : Int) (h : Q (.int i.natAbs) H) : BltW Q H .abs [.int i]
noncomputable def blt1 (b : Blt) (v : PV) : Option PV := match v with
  | .tup xs => (match b with | .len => some (.int xs.length) | .tuple => some (.tup xs) | _ => none)
  | .fls xs => (match b with | .len => some (.int xs.length) | _ => none)
  | .bool c => (match b with | .int => some (.int (if c then 1 else 0)) | _ => none)
  | _ => none
noncomputable def blt2 (b : Blt) (v w : PV) : Option PV := match v with
  | .int x => (match w with
    | .int y => (match b with | .max => some (.int (if x < y then y else x)) | .min => some (.int (if y < x then y else x)) | _ => none)
    | _ => none)
  | _ => none
noncomputable def bltF (b : Blt) (vs : List PV) : Option PV := match vs with
  | [v] => blt1 b v
  | [v, w] => blt2 b v w
  | _ => none
noncomputable def bltW (b : Blt) (vs : List PV) (Q : Post) (H : AHeap) : Prop := pureOr (bltF b vs) (fun u => Q u H) (BltW Q H b vs)
noncomputable def isSub (k c : Nat) : Bool := k == c || c == 0
noncomputable def ICls.basic : ICls → Bool
  | .str | .list | .tuple | .bool | .int => true
  | _ => false
noncomputable def ICls.hits (c : ICls) (t : Nat) : Bool := match c with
  | .bool => t == 1
  | .int => t == 1 || t == 2
  | .str => t == 3
  | .tuple => t == 4
  | .list => t == 5
  | _ => false
noncomputable def tagOf : PV → Option Nat
  | .none => some 0
  | .bool _ => some 1
  | .int _ => some 2
  | .str _ => some 3
  | .tup _ => some 4
  | _ => none
inductive IsiW (K : Bool → Prop) (H : AHeap) : ICls → PV → Prop
  | val {c : ICls} {v : PV} {t : Nat} (b : c.basic = true) (e : tagOf v = some t) (h : K (c.hits t)) : IsiW K H c v
  | list {c : ICls} {a : Addr} {xs : List PV} (b : c.basic = true) (ha : H a = some (.list xs)) (h : K (c.hits 5)) : IsiW K H c (.obj a)
  | own {j k : Nat} {x : Str} (h : K (isSub k j)) : IsiW K H (.own j x) (.exc k)
  | value {k : Nat} (h : K true) : IsiW K H .value (.exc k)
noncomputable def isiF (c : ICls) (v : PV) : Option Bool := match v with
  | .exc k => (match c with | .own j _ => some (isSub k j) | .value => some true | _ => none)
  | v => (match c.basic with | true => (match tagOf v with | some t => some (c.hits t) | none => none) | false => none)
noncomputable def isiW (c : ICls) (v : PV) (K : Bool → Prop) (H : AHeap) : Prop := pureOr (isiF c v) K (IsiW K H c v)
inductive MethW (Q : Post) (H : AHeap) : Meth → PV → List PV → Prop
  | append (a : Addr) (xs : List PV) (x : PV) (ha : H a = some (.list xs)) (k : xs.length < LIM) (h : mutate a (.list (xs ++ [x])) (fun H' => Q .none H') H) : MethW Q H .append (.obj a) [x]
  | pop (a : Addr) (ys : List PV) (x : PV) (ha : H a = some (.list (ys ++ [x]))) (h : mutate a (.list ys) (fun H' => Q x H') H) : MethW Q H .pop (.obj a) []
  | insert (a : Addr) (xs : List PV) (k : Int) (x : PV) (ha : H a = some (.list xs)) (k0 : 0 ≤ k) (k1 : k ≤ xs.length) (k2 : xs.length < LIM) (h : mutate a (.list (xs.take k.toNat ++ x :: xs.drop k.toNat)) (fun H' => Q .none H') H) : MethW Q H .insert (.obj a) [.int k, x]
  | count (a : Addr) (bs : List Bool) (b : Bool) (ha : H a = some (.list (bs.map .bool))) (h : Q (.int (bs.count b)) H) : MethW Q H .count (.obj a) [.bool b]
  | join (s : Str) (a : Addr) (ss : List Str) (ha : H a = some (.list (ss.map .str))) (e : s.length = 0) (k : (ss.map (·.length)).sum ≤ LIM) (h : Q (.str (Str.join s ss)) H) : MethW Q H .join (.str s) [.obj a]
noncomputable def methW (m : Meth) (v : PV) (vs : List PV) (Q : Post) (H : AHeap) : Prop := MethW Q H m v vs
noncomputable def Meth.onL : Meth → Bool
  | .append | .pop | .insert | .count => true
  | _ => false
inductive RecvW (P : Prop) (H : AHeap) : Meth → PV → Prop
  | list {m : Meth} {a : Addr} {xs : List PV} (ha : H a = some (.list xs)) (k : m.onL = true) (h : P) : RecvW P H m (.obj a)
  | str {s : Str} (h : P) : RecvW P H .join (.str s)
/-- what a loop goes over, and what must stay so -/
inductive ItemsW (K : List PV → (AHeap → Prop) → Prop) (H : AHeap) : PV → Prop
  | tup {xs : List PV} (h : K xs fun _ => True) : ItemsW K H (.tup xs)
  | rng {n : Int} (h : K ((List.range n.toNat).map fun (i : Nat) => .int i) fun _ => True) : ItemsW K H (.rng n)
  | list {a : Addr} {xs : List PV} (ha : H a = some (.list xs)) (h : K xs fun H' => H' a = some (.list xs)) : ItemsW K H (.obj a)
noncomputable def itemsF (v : PV) : Option (List PV) := match v with
  | .tup xs => some xs
  | .rng n => some ((List.range n.toNat).map fun (i : Nat) => .int i)
  | _ => none
noncomputable def itemsW (v : PV) (K : List PV → (AHeap → Prop) → Prop) (H : AHeap) : Prop := pureOr (itemsF v) (fun xs => K xs fun _ => True) (ItemsW K H v)
noncomputable def compW (src : AHeap → Prop) (el : PV → (List PV → AHeap → Prop) → AHeap → Prop) (Q : List PV → AHeap → Prop) : List PV → List PV → AHeap → Prop
  | [], acc, H => src H ∧ Q acc H
  | x :: xs, acc, H => src H ∧ el x (fun vs H' => compW src el Q xs (acc ++ vs) H') H
noncomputable def forW (src : AHeap → Prop) (st : PV → (Loc → AHeap → Prop) → Loc → AHeap → Prop) (N : Loc → AHeap → Prop) : List PV → Loc → AHeap → Prop
  | [], m, H => src H ∧ N m H
  | x :: xs, m, H => src H ∧ st x (fun m' H' => forW src st N xs m' H') m H

noncomputable def boolW (o : BoolOp) (b : Bool) (stop go : Prop) : Prop := match o with
  | .And => if b then go else stop
  | .Or => if b then stop else go
structure Gl where
  C : CallSpec
  G : Str → Option PV

section
variable (g : Gl)
mutual
noncomputable def awpE : AE → Post → XPost → Loc → AHeap → Prop
  | .lit c _ _, Q, _, _, H => litW c Q H
  | .var i _, Q, _, m, H => varW (m.getD i none) Q H
  | .glob x _, Q, _, _, H => varW (g.G x) Q H
  | .bin l o r _, Q, X, m, H => awpE l (fun v H => awpE r (fun w H => binW o v w Q H) X m H) X m H
  | .neg e _, Q, X, m, H => awpE e (fun v H => match v with | .int i => Q (.int (-i)) H | _ => False) X m H
  | .not e _, Q, X, m, H => awpE e (fun v H => truthW v fun b => Q (.bool !b) H) X m H
  | .bop o es _, Q, X, m, H => awpV o es Q X m H
  | .cmp l o r _, Q, X, m, H => awpE l (fun v H => awpE r (fun w H => cmpW o v w (fun b H => Q (.bool b) H) H) X m H) X m H
  | .sub e i _, Q, X, m, H => awpE e (fun v H => awpE i (fun w H => subW v w Q H) X m H) X m H
  | .sfrom e i _ _, Q, X, m, H => awpE e (fun v H => awpE i (fun w H => FromW Q H v w) X m H) X m H
  | .sto e i _ _, Q, X, m, H => awpE e (fun v H => awpE i (fun w H => ToW Q H v w) X m H) X m H
  | .srev e _ _ _ _, Q, X, m, H => awpE e (fun v H => RevW Q H v) X m H
  | .tup es _ _, Q, X, m, H => awpL es (fun vs H => Q (.tup vs) H) X m H
  | .list es _, Q, X, m, H => awpL es (fun vs H => alloc (.list vs) Q H) X m H
  | .tape _ _, Q, _, _, H => alloc (.tape 0) Q H
  | .dict ks es _, Q, X, m, H => awpL es (fun vs H => alloc (.dict (dictOf (ks.map (·.1)) vs)) Q H) X m H
  | .call f es _ _, Q, X, m, H => awpL es (fun vs H => g.C f vs H Q X) X m H
  | .blt b es _ _, Q, X, m, H => awpL es (fun vs H => bltW b vs Q H) X m H
  | .isi e c _ _ _ _ _, Q, X, m, H => awpE e (fun v H => isiW c v (fun b => Q (.bool b) H) H) X m H
  | .meth e n es _ _, Q, X, m, H => awpE e (fun v H => RecvW (awpL es (fun vs H => methW n v vs Q H) X m H) H n v) X m H
  | .umeth _ _ _ _ _ _, _, _, _, _ => False
  | .attr _ _ _, _, _, _, _ => False
  | .comp e x _ it cs _ _, Q, X, m, H => awpE it (fun v H => itemsW v (fun xs src =>
      compW src (fun y K H => awpC cs (fun b H => if b then awpE e (fun v H => K [v] H) (fun _ _ => False) (m.set x (some y)) H else K [] H) (fun _ _ => False) (m.set x (some y)) H)
        (fun vs H => alloc (.list vs) Q H) xs [] H) H) X m H
noncomputable def awpL : AEs → (List PV → AHeap → Prop) → XPost → Loc → AHeap → Prop
  | .nil, Q, _, _, H => Q [] H
  | .cons e es, Q, X, m, H => awpE e (fun v H => awpL es (fun vs H => Q (v :: vs) H) X m H) X m H
noncomputable def awpV : BoolOp → AEs → Post → XPost → Loc → AHeap → Prop
  | _, .nil, _, _, _, _ => False
  | _, .cons e .nil, Q, X, m, H => awpE e Q X m H
  | o, .cons e es, Q, X, m, H => awpE e (fun v H => truthW v fun b => boolW o b (Q v H) (awpV o es Q X m H)) X m H
noncomputable def awpB : AE → (Post → XPost → Loc → AHeap → Prop) → BPost → XPost → Loc → AHeap → Prop
  | .not e _, _, Q, X, m, H => awpB e (awpE e) (fun b H => Q (!b) H) X m H
  | .bop o es _, _, Q, X, m, H => awpBs o es Q X m H
  | .cmp l o r _, _, Q, X, m, H => awpE l (fun v H => awpE r (fun w H => cmpW o v w Q H) X m H) X m H
  | _, W, Q, X, m, H => W (fun v H => truthW v fun b => Q b H) X m H
noncomputable def awpBs : BoolOp → AEs → BPost → XPost → Loc → AHeap → Prop
  | o, .nil, Q, _, _, H => Q (o == .And) H
  | o, .cons e es, Q, X, m, H => awpB e (awpE e) (fun b H => boolW o b (Q (match o with | .And => false | .Or => true) H) (awpBs o es Q X m H)) X m H
noncomputable def awpC : AEs → BPost → XPost → Loc → AHeap → Prop
  | .nil, Q, _, _, H => Q true H
  | .cons e _, Q, X, m, H => awpB e (awpE e) Q X m H
end

abbrev NPost := Loc → AHeap → Prop
abbrev SXPost := Nat → Loc → AHeap → Prop
noncomputable def unpackW (v : PV) (n : Nat) (K : List PV → Prop) : Prop :=
  match v with
  | .tup xs => xs.length = n ∧ K xs
  | _ => False
noncomputable def setAll : List (Nat × Pos) → List PV → Loc → Loc
  | x :: xs, v :: vs, m => setAll xs vs (m.set x.1 (some v))
  | _, _, m => m
inductive StoreW (K : AHeap → Prop) (H : AHeap) : PV → PV → PV → Prop
  | list {a : Addr} {xs : List PV} {k : Int} {x : PV} (ha : H a = some (.list xs)) (k0 : 0 ≤ k) (k1 : k < xs.length) (h : mutate a (.list (xs.set k.toNat x)) K H) : StoreW K H (.obj a) (.int k) x
  | dict {a : Addr} {kvs : List (Str × PV)} {k : Str} {x : PV} (ha : H a = some (.dict kvs)) (l : kvs.length < LIM) (h : mutate a (.dict (dset kvs k x)) K H) : StoreW K H (.obj a) (.str k) x
  | tape {a : Addr} {n : Nat} {j : Int} (ha : H a = some (.tape n)) (j0 : 0 ≤ j) (h : mutate a (.tape j.toNat) K H) : StoreW K H (.obj a) (.int 0) (.int j)
mutual
noncomputable def awpS : AS → NPost → Post → SXPost → Loc → AHeap → Prop
  | .expr e _, N, _, X, m, H => awpE g e (fun _ H => N m H) (fun c H => X c m H) m H
  | .assign x _ e _, N, _, X, m, H => awpE g e (fun v H => N (m.set x (some v)) H) (fun c H => X c m H) m H
  | .assignT xs _ _ e _, N, _, X, m, H => awpE g e (fun v H => unpackW v xs.length fun vs => N (setAll xs vs m) H) (fun c H => X c m H) m H
  | .store o i _ e _, N, _, X, m, H => awpE g e (fun x H => awpE g o (fun v H => awpE g i (fun w H => StoreW (fun H => N m H) H v w x) (fun c H => X c m H) m H) (fun c H => X c m H) m H) (fun c H => X c m H) m H
  | .sattr _ _ _ _ _, _, _, _, _, _ => False
  | .ite c a b _, N, R, X, m, H => awpB g c (awpE g c) (fun t H => if t then awpSs a N R X m H else awpSs b N R X m H) (fun c H => X c m H) m H
  | .for x _ it b _, N, R, X, m, H => awpE g it (fun v H => itemsW v (fun xs src => forW src (fun y K m H => awpSs b K R X (m.set x (some y)) H) N xs m H) H) (fun c H => X c m H) m H
  | .while c b _, N, R, X, m, H => ∃ I : Nat → Loc → AHeap → Prop, (∃ k, I k m H) ∧ ∀ k m H, I k m H →
      awpB g c (awpE g c) (fun t H => if t then awpSs b (fun m H => ∃ j, j < k ∧ I j m H) R X m H else N m H) (fun c H => X c m H) m H
  | .ret e _, _, R, X, m, H => awpE g e R (fun c H => X c m H) m H
  | .ret0 _, _, R, _, _, H => R .none H
  | .raise c _ _ _ _ _ _ _, _, _, X, m, H => X c m H
  | .try b hs _, N, R, _, m, H => awpSs b N R (fun c m H => awpHs hs c N R m H) m H
noncomputable def awpSs : ASs → NPost → Post → SXPost → Loc → AHeap → Prop
  | .nil, N, _, _, m, H => N m H
  | .cons s ss, N, R, X, m, H => awpS s (fun m H => awpSs ss N R X m H) R X m H
noncomputable def awpHs : AHs → Nat → NPost → Post → Loc → AHeap → Prop
  | .nil, _, _, _, _, _ => False
  | .cons k _ _ y b _ hs, c, N, R, m, H =>
    if isSub c k then (match y with
      | none => awpSs b N R (fun _ _ _ => False) m H
      | some y => awpSs b (fun m H => N (m.set y none) H) R (fun _ _ _ => False) (m.set y (some (.exc c))) H)
    else awpHs hs c N R m H
end
end
end Mine
end
section
open PySem PySem.Calls PyProof.Rows
namespace Mine
set_option autoImplicit false

structure Cx where
  prog : Program
  w : World
  B : Heap
  cls : Nat → Option Addr
  icls : Nat → Option Addr
  ga : Addr
  ba : Addr
abbrev Cx.M (cx : Cx) : Model := model cx.prog cx.w
abbrev Cx.sk (cx : Cx) : KeyKind cx.prog cx.w Str := PySem.strKind cx.prog cx.w

noncomputable def tupObj (items : Array Value) (n : Nat) : Obj := { cls := .type "tuple", data := .seq items n }
noncomputable def lstObj (items : Array Value) (n : Nat) : Obj := { cls := .type "list", data := .seq items n }
noncomputable def rngObj (n : Int) (t u v : Tok) : Obj := { cls := .type "range", dict := none, data := .fields #[.int 0 t, .int n u, .int 1 v], slots := #[] }
noncomputable def insObj (C d : Addr) : Obj := { cls := .ref C, dict := some d }

mutual
inductive Rep (cx : Cx) (h : Heap) : Value → PV → Prop
  | none : Rep cx h .none .none
  | bool (b : Bool) : Rep cx h (.bool b) (.bool b)
  | int (i : Int) (t : Tok) : Rep cx h (.int i t) (.int i)
  | str (x : Str) (t : Tok) : Rep cx h (.str x t) (.str x)
  | tup {a : Addr} {items : Array Value} {n : Nat} {xs : List PV} : h.get? a = some (tupObj items n) → xs.length ≤ LIM → RepL cx h items.toList xs → Rep cx h (.ref a) (.tup xs)
  | obj (a : Addr) : Rep cx h (.ref a) (.obj a)
  | exc {e : Addr} {o : Obj} {vs : Array Value} {c : Nat} {C : Addr} : h.get? e = some o → o.cls = .ref C → o.data = .fields vs → cx.cls c = some C → o.dict = none → Rep cx h (.ref e) (.exc c)
  | fls {a : Addr} {items : Array Value} {ns : List Int} : cx.B.IsList a items → IntsAre items.toList ns → ns.length ≤ LIM → Rep cx h (.ref a) (.fls ns)
  | fdt {a : Addr} {vs : List (Str × Value)} {kvs : List (Str × PV)} : cx.B.DictOf cx.sk a vs → RepK cx h vs kvs → Rep cx h (.ref a) (.fdt kvs)
  | rng {a : Addr} {n : Int} {t u v : Tok} : h.get? a = some (rngObj n t u v) → n.natAbs ≤ LIM → Rep cx h (.ref a) (.rng n)
inductive RepL (cx : Cx) (h : Heap) : List Value → List PV → Prop
  | nil : RepL cx h [] []
  | cons {v : Value} {p : PV} {vs : List Value} {ps : List PV} : Rep cx h v p → RepL cx h vs ps → RepL cx h (v :: vs) (p :: ps)
inductive RepK (cx : Cx) (h : Heap) : List (Str × Value) → List (Str × PV) → Prop
  | nil : RepK cx h [] []
  | cons {k : Str} {v : Value} {p : PV} {vs : List (Str × Value)} {ps : List (Str × PV)} : Rep cx h v p → RepK cx h vs ps → RepK cx h ((k, v) :: vs) ((k, p) :: ps)
end

noncomputable def RepO (cx : Cx) (h : Heap) (a : Addr) : AObj → Prop
  | .list xs => ∃ items n, h.get? a = some (lstObj items n) ∧ RepL cx h items.toList xs ∧ xs.length ≤ LIM
  | .tape k => ∃ t n, h.get? a = some (lstObj #[.int k t] n)
  | .dict kvs => ∃ vs, h.DictOf cx.sk a vs ∧ RepK cx h vs kvs ∧ kvs.length ≤ LIM ∧ (a == sysModules) = false
  | .inst c d => ∃ C, cx.icls c = some C ∧ h.get? a = some (insObj C d)

/-- the objects that values hang on -/
noncomputable def Solid (o : Obj) : Prop := (∃ items n, o = tupObj items n) ∨ (∃ n t u v, o = rngObj n t u v) ∨ ((∃ C, o.cls = .ref C) ∧ ∃ vs, o.data = .fields vs)
noncomputable def Holds (cx : Cx) (h : Heap) (H : AHeap) : Prop := ∀ a o, H a = some o → RepO cx h a o

theorem RepO.get {cx : Cx} {h : Heap} {a : Addr} {o : AObj} (r : RepO cx h a o) : ∃ ob, h.get? a = some ob ∧ ¬ Solid ob ∧ ∀ vs, ob.data ≠ .fields vs := by
  cases o with
  | list xs =>
    obtain ⟨items, n, e, _⟩ := r
    exact ⟨_, e, by rintro (⟨i, n, q⟩ | ⟨n, t, u, v, q⟩ | ⟨⟨C, q⟩, _⟩) <;> simp [lstObj, tupObj, rngObj] at q, by simp [lstObj]⟩
  | tape k =>
    obtain ⟨t, n, e⟩ := r
    exact ⟨_, e, by rintro (⟨i, n, q⟩ | ⟨n, t, u, v, q⟩ | ⟨⟨C, q⟩, _⟩) <;> simp [lstObj, tupObj, rngObj] at q, by simp [lstObj]⟩
  | dict kvs =>
    obtain ⟨vs, ⟨o, es, ep, e, ⟨hc, _⟩, hd, _⟩, _⟩ := r
    refine ⟨_, e, ?_, by simp [hd]⟩
    rintro (⟨i, n, q⟩ | ⟨n, t, u, v, q⟩ | ⟨⟨C, q⟩, _⟩)
    · rw [q] at hc; simp [tupObj] at hc
    · rw [q] at hc; simp [rngObj] at hc
    · rw [q] at hc; simp at hc
  | inst c d =>
    obtain ⟨C, _, e⟩ := r
    refine ⟨_, e, ?_, by simp [insObj]⟩
    rintro (⟨i, n, q⟩ | ⟨n, t, u, v, q⟩ | ⟨_, vs, q⟩) <;> simp [insObj, tupObj, rngObj] at q

mutual
theorem Rep.mono' {cx : Cx} {h h' : Heap} (k : ∀ b o, h.get? b = some o → Solid o → h'.get? b = some o ∨ ((∃ C, o.cls = .ref C) ∧ ∃ o' vs', h'.get? b = some o' ∧ (o'.cls = o.cls ∧ o'.dict = o.dict) ∧ o'.data = .fields vs')) : ∀ {v : Value} {p : PV}, Rep cx h v p → Rep cx h' v p
  | _, _, .none => .none
  | _, _, .bool b => .bool b
  | _, _, .int i t => .int i t
  | _, _, .str x t => .str x t
  | _, _, .tup e l r => by
    rcases k _ _ e (.inl ⟨_, _, rfl⟩) with e' | ⟨⟨C, q⟩, _⟩
    · exact .tup e' l (RepL.mono' k r)
    · cases q
  | _, _, .obj a => .obj a
  | _, _, .exc e c d x y => by
    rcases k _ _ e (.inr (.inr ⟨⟨_, c⟩, _, d⟩)) with e' | ⟨_, o', vs', e', c', d'⟩
    · exact .exc e' c d x y
    · exact .exc e' (c'.1.trans c) d' x (c'.2.trans y)
  | _, _, .fls e i l => .fls e i l
  | _, _, .fdt d r => .fdt d (RepK.mono' k r)
  | _, _, .rng e l => by
    rcases k _ _ e (.inr (.inl ⟨_, _, _, _, rfl⟩)) with e' | ⟨⟨C, q⟩, _⟩
    · exact .rng e' l
    · cases q
theorem RepL.mono' {cx : Cx} {h h' : Heap} (k : ∀ b o, h.get? b = some o → Solid o → h'.get? b = some o ∨ ((∃ C, o.cls = .ref C) ∧ ∃ o' vs', h'.get? b = some o' ∧ (o'.cls = o.cls ∧ o'.dict = o.dict) ∧ o'.data = .fields vs')) : ∀ {vs : List Value} {ps : List PV}, RepL cx h vs ps → RepL cx h' vs ps
  | _, _, .nil => .nil
  | _, _, .cons r rs => .cons (Rep.mono' k r) (RepL.mono' k rs)
theorem RepK.mono' {cx : Cx} {h h' : Heap} (k : ∀ b o, h.get? b = some o → Solid o → h'.get? b = some o ∨ ((∃ C, o.cls = .ref C) ∧ ∃ o' vs', h'.get? b = some o' ∧ (o'.cls = o.cls ∧ o'.dict = o.dict) ∧ o'.data = .fields vs')) : ∀ {vs : List (Str × Value)} {ps : List (Str × PV)}, RepK cx h vs ps → RepK cx h' vs ps
  | _, _, .nil => .nil
  | _, _, .cons r rs => .cons (Rep.mono' k r) (RepK.mono' k rs)
end
theorem Rep.mono {cx : Cx} {h h' : Heap} (k : ∀ b o, h.get? b = some o → Solid o → h'.get? b = some o) {v : Value} {p : PV} (r : Rep cx h v p) : Rep cx h' v p := Rep.mono' (fun b o e s => .inl (k b o e s)) r
theorem RepL.mono {cx : Cx} {h h' : Heap} (k : ∀ b o, h.get? b = some o → Solid o → h'.get? b = some o) {vs : List Value} {ps : List PV} (r : RepL cx h vs ps) : RepL cx h' vs ps := RepL.mono' (fun b o e s => .inl (k b o e s)) r
theorem RepK.mono {cx : Cx} {h h' : Heap} (k : ∀ b o, h.get? b = some o → Solid o → h'.get? b = some o) {vs : List (Str × Value)} {ps : List (Str × PV)} (r : RepK cx h vs ps) : RepK cx h' vs ps := RepK.mono' (fun b o e s => .inl (k b o e s)) r

theorem RepL.length {cx : Cx} {h : Heap} : ∀ {vs : List Value} {ps : List PV}, RepL cx h vs ps → vs.length = ps.length
  | _, _, .nil => rfl
  | _, _, .cons _ rs => by simp [RepL.length rs]
theorem RepK.length {cx : Cx} {h : Heap} : ∀ {vs : List (Str × Value)} {ps : List (Str × PV)}, RepK cx h vs ps → vs.length = ps.length
  | _, _, .nil => rfl
  | _, _, .cons _ rs => by simp [RepK.length rs]

noncomputable def SameO (o o' : Obj) : Prop := o' = o ∨ ((∃ es ep, o.data = .dict es ep) ∧ ∃ sl, o' = { o with slots := sl })
theorem SameO.refl (o : Obj) : SameO o o := .inl rfl
theorem SameO.cls {o o' : Obj} (h : SameO o o') : o'.cls = o.cls := by rcases h with rfl | ⟨_, sl, rfl⟩ <;> rfl
theorem SameO.data {o o' : Obj} (h : SameO o o') : o'.data = o.data := by rcases h with rfl | ⟨_, sl, rfl⟩ <;> rfl
theorem SameO.trans {a b c : Obj} (h : SameO a b) (k : SameO b c) : SameO a c := by
  rcases k with rfl | ⟨hc, sl, rfl⟩
  · exact h
  · rcases h with rfl | ⟨hb, sl', rfl⟩
    · exact .inr ⟨hc, sl, rfl⟩
    · exact .inr ⟨hb, sl, rfl⟩
theorem SameO.eq {o o' : Obj} (h : SameO o o') (n : ∀ es ep, o.data ≠ .dict es ep) : o' = o := h.resolve_right fun ⟨⟨es, ep, q⟩, _⟩ => n es ep q

/-- what a piece of a run leaves as it was -/
structure Kp (cx : Cx) (S : List Addr) (H : AHeap) (s : Shared) (H' : AHeap) (s' : Shared) : Prop where
  same : ∃ h' tk, s' = { s with heap := h', toks := tk }
  keep : ∀ b o, s.heap.get? b = some o → b ∉ S → H b = none → H' b = none ∧ ∃ o', s'.heap.get? b = some o' ∧ SameO o o'
  alive : ∀ b o, s.heap.get? b = some o → ∃ o', s'.heap.get? b = some o'
  base : ∀ b o, cx.B.get? b = some o → s.heap.get? b = some o → s'.heap.get? b = some o

theorem Kp.refl (cx : Cx) (S : List Addr) (H : AHeap) (s : Shared) : Kp cx S H s H s :=
  ⟨⟨s.heap, s.toks, rfl⟩, fun _ o e _ h => ⟨h, o, e, .refl o⟩, fun _ o e => ⟨o, e⟩, fun _ _ _ e => e⟩
theorem Kp.trans {cx : Cx} {S : List Addr} {H H₁ H₂ : AHeap} {s s₁ s₂ : Shared} (a : Kp cx S H s H₁ s₁) (b : Kp cx S H₁ s₁ H₂ s₂) : Kp cx S H s H₂ s₂ where
  same := by obtain ⟨h, t, rfl⟩ := a.same; obtain ⟨h', t', rfl⟩ := b.same; exact ⟨h', t', rfl⟩
  keep := fun x o e n hn => by
    obtain ⟨h1, o1, e1, s1⟩ := a.keep x o e n hn
    obtain ⟨h2, o2, e2, s2⟩ := b.keep x o1 e1 n h1
    exact ⟨h2, o2, e2, s1.trans s2⟩
  alive := fun x o e => let ⟨o1, e1⟩ := a.alive x o e; b.alive x o1 e1
  base := fun x o e e' => b.base x o e (a.base x o e e')
theorem Kp.sub {cx : Cx} {S S' : List Addr} {H H' : AHeap} {s s' : Shared} (a : Kp cx S H s H' s') (k : ∀ b o, s.heap.get? b = some o → b ∈ S → b ∈ S') : Kp cx S' H s H' s' :=
  ⟨a.same, fun b o e n hn => a.keep b o e (fun q => n (k b o e q)) hn, a.alive, a.base⟩
theorem Kp.nil {cx : Cx} {S : List Addr} {H H' : AHeap} {s s' : Shared} (a : Kp cx [] H s H' s') : Kp cx S H s H' s' := a.sub fun _ _ _ q => nomatch q
/-- every object stays, the abstract heap is the same or larger by new ones -/
theorem Kp.grow {cx : Cx} {S : List Addr} {H H' : AHeap} {s : Shared} {h' : Heap} {tk : Nat} (k : ∀ b o, s.heap.get? b = some o → h'.get? b = some o)
    (hH : ∀ b o, s.heap.get? b = some o → H b = none → H' b = none) : Kp cx S H s H' { s with heap := h', toks := tk } :=
  ⟨⟨h', tk, rfl⟩, fun b o e _ hn => ⟨hH b o e hn, o, k b o e, .refl o⟩, fun b o e => ⟨o, k b o e⟩, fun b o _ e => k b o e⟩

structure Fm where
  A : Around
  env : Env
  fs : List Env
  nm : List Str
  vis : Nat → Bool

inductive FrAt (cx : Cx) (H : AHeap) (h : Heap) (env : Env) : Prop
  | mk (hk : env.scope.kind ≠ .module) (L : Addr) (o : Obj) (es : Array DictEntry) (ep : Nat) (hf : env.frame = some L) (hH : H L = none) (hb : cx.B.get? L = none) (ho : h.get? L = some o) (hd : o.data = .dict es ep) : FrAt cx H h env
inductive VarsAt (cx : Cx) (F : Fm) (m : Loc) (h : Heap) : Prop
  | mk (o : Obj) (es : Array DictEntry) (ep : Nat) (mc : Str → Option Value) (ho : h.get? F.env.locals = some o) (hd : o.data = .dict es ep) (ns : h.Ns F.env.locals mc)
    (hv : ∀ i v, F.vis i = true → F.env.kindOf (slot F.nm i) = some .local → m.getD i none = some v → ∃ x, mc (slot F.nm i) = some x ∧ Rep cx h x v) : VarsAt cx F m h
inductive CellAt (cx : Cx) (F : Fm) (m : Loc) (H : AHeap) (h : Heap) (n : Str) (c : Addr) : Prop
  | mk (h1 : H c = none) (h2 : cx.B.get? c = none) (o : Obj) (x : Option Value) (ho : h.get? c = some o) (hd : o.data = .cell x)
    (hv : ∀ i v, F.vis i = true → slot F.nm i = n → F.env.kindOf n ≠ some .local → m.getD i none = some v → ∃ y, x = some y ∧ Rep cx h y v) : CellAt cx F m H h n c

structure St (cx : Cx) (F : Fm) (m : Loc) (H : AHeap) (h : Heap) : Prop where
  base : cx.B.StaysIn h
  off : ∀ b o, cx.B.get? b = some o → H b = none
  heap : Holds cx h H
  frames : ∀ env ∈ F.fs, FrAt cx H h env
  own : H F.env.locals = none ∧ cx.B.get? F.env.locals = none
  vars : VarsAt cx F m h
  cells : ∀ n c, F.env.cells.lookup n = some c → CellAt cx F m H h n c

theorem Solid.notLoc {o : Obj} (h : Solid o) : (∀ es ep, o.data ≠ .dict es ep) ∧ ∀ x, o.data ≠ .cell x := by
  rcases h with ⟨i, n, rfl⟩ | ⟨n, t, u, v, rfl⟩ | ⟨_, vs, q⟩
  · exact ⟨fun _ _ q => (nomatch q), fun _ q => (nomatch q)⟩
  · exact ⟨fun _ _ q => (nomatch q), fun _ q => (nomatch q)⟩
  · exact ⟨fun _ _ q' => by rw [q] at q'; exact (nomatch q'), fun _ q' => by rw [q] at q'; exact (nomatch q')⟩
theorem Holds.none_of_solid {cx : Cx} {h : Heap} {H : AHeap} (k : Holds cx h H) {b : Addr} {o : Obj} (e : h.get? b = some o) (s : Solid o) : H b = none := by
  cases q : H b with
  | none => rfl
  | some x => obtain ⟨ob, e', n, _⟩ := (k b x q).get; rw [e] at e'; cases e'; exact absurd s n
theorem Holds.fresh {cx : Cx} {h : Heap} {H : AHeap} (k : Holds cx h H) {b : Addr} (e : h.get? b = none) : H b = none := by
  cases q : H b with
  | none => rfl
  | some x => obtain ⟨ob, e', _⟩ := (k b x q).get; rw [e] at e'; cases e'

/-- values stay, S holding names' places alone -/
theorem Kp.solid {cx : Cx} {S : List Addr} {H H' : AHeap} {s s' : Shared} (k : Kp cx S H s H' s') (hh : Holds cx s.heap H)
    (hS : ∀ b ∈ S, ∀ o, s.heap.get? b = some o → (∃ es ep, o.data = .dict es ep) ∨ ∃ x, o.data = .cell x) : ∀ b o, s.heap.get? b = some o → Solid o → s'.heap.get? b = some o := fun b o e so => by
  obtain ⟨_, o', e', sm⟩ := k.keep b o e (fun q => by
    rcases hS b q o e with ⟨es, ep, d⟩ | ⟨x, d⟩
    · exact so.notLoc.1 _ _ d
    · exact so.notLoc.2 _ d) (hh.none_of_solid e so)
  rw [sm.eq so.notLoc.1] at e'; exact e'
theorem Kp.solid0 {cx : Cx} {H H' : AHeap} {s s' : Shared} (k : Kp cx [] H s H' s') (hh : Holds cx s.heap H) : ∀ b o, s.heap.get? b = some o → Solid o → s'.heap.get? b = some o :=
  k.solid hh fun _ q => nomatch q

theorem FrAt.step {cx : Cx} {H H' : AHeap} {S : List Addr} {s s' : Shared} (k : Kp cx S H s H' s') {env : Env} (f : FrAt cx H s.heap env) (n : ∀ L, env.frame = some L → L ∉ S) : FrAt cx H' s'.heap env := by
  obtain ⟨hk, L, o, es, ep, hf, hH, hb, ho, hd⟩ := f
  obtain ⟨hH', o', e', sm⟩ := k.keep L o ho (n L hf) hH
  exact ⟨hk, L, o', es, ep, hf, hH', hb, e', sm.data.trans hd⟩

/-- an expression's step leaves the frame's state -/
theorem St.step {cx : Cx} {F : Fm} {m : Loc} {H H' : AHeap} {s s' : Shared} (t : St cx F m H s.heap) (k : Kp cx [] H s H' s') (hh : Holds cx s'.heap H') : St cx F m H' s'.heap := by
  have so := k.solid0 t.heap
  refine ⟨fun b o e => k.base b o e (t.base b o e), fun b o e => ?_, hh, (fun env he => (t.frames env he).step k (fun L _ q => nomatch q)), ?_, ?_, fun n c hc => ?_⟩
  · exact (k.keep b o (t.base b o e) (fun q => nomatch q) (t.off b o e)).1
  · obtain ⟨o, es, ep, mc, ho, _⟩ := t.vars
    exact ⟨(k.keep _ o ho (fun q => nomatch q) t.own.1).1, t.own.2⟩
  · obtain ⟨o, es, ep, mc, ho, hd, ⟨o1, es1, ep1, ho1, hd1, hk1, hm1⟩, hv⟩ := t.vars
    obtain ⟨_, o', e', sm⟩ := k.keep _ o ho (fun q => nomatch q) t.own.1
    rw [ho] at ho1; cases ho1
    exact ⟨o', es, ep, mc, e', sm.data.trans hd, ⟨o', es1, ep1, e', sm.data.trans hd1, hk1, hm1⟩, fun i v h1 h2 h3 => let ⟨x, q, r⟩ := hv i v h1 h2 h3; ⟨x, q, r.mono so⟩⟩
  · obtain ⟨h1, h2, o, x, ho, hd, hv⟩ := t.cells n c hc
    obtain ⟨h3, o', e', sm⟩ := k.keep c o ho (fun q => nomatch q) h1
    exact ⟨h3, h2, o', x, e', sm.data.trans hd, fun i v a b c d => let ⟨y, q, r⟩ := hv i v a b c d; ⟨y, q, r.mono so⟩⟩

noncomputable def upd (H : AHeap) (a : Addr) (o : AObj) : AHeap := fun b => if b = a then some o else H b
theorem upd_self (H : AHeap) (a : Addr) (o : AObj) : upd H a o a = some o := by simp [upd]
theorem upd_ne {H : AHeap} {a b : Addr} {o : AObj} (n : b ≠ a) : upd H a o b = H b := by simp [upd, n]
theorem upd_ext {H : AHeap} {a : Addr} {o : AObj} (e : H a = none) : Ext H (upd H a o) := fun b x hb => by
  rw [upd_ne]; exact hb
  rintro rfl; rw [e] at hb; cases hb
theorem upd_extB (H : AHeap) (a : Addr) (o : AObj) : ExtB a H (upd H a o) := fun _ _ n hb => by rw [upd_ne n]; exact hb

theorem Holds.grow {cx : Cx} {h h' : Heap} {H : AHeap} (k : Holds cx h H) (g : ∀ b o, h.get? b = some o → h'.get? b = some o) : Holds cx h' H := fun a o e => by
  have r := k a o e
  have so : ∀ b o, h.get? b = some o → Solid o → h'.get? b = some o := fun b o e _ => g b o e
  cases o with
  | list xs => obtain ⟨items, n, e, r, l⟩ := r; exact ⟨items, n, g _ _ e, r.mono so, l⟩
  | tape k => obtain ⟨t, n, e⟩ := r; exact ⟨t, n, g _ _ e⟩
  | dict kvs => obtain ⟨vs, d, r, l⟩ := r; exact ⟨vs, d.keep g, r.mono so, l⟩
  | inst c d => obtain ⟨C, x, e⟩ := r; exact ⟨C, x, g _ _ e⟩
/-- one object put anew -/
theorem Holds.put {cx : Cx} {h h' : Heap} {H : AHeap} {a : Addr} {o : AObj} (k : Holds cx h H) (g : ∀ b o, b ≠ a → h.get? b = some o → h'.get? b = some o)
    (ha : ∀ o, h.get? a = some o → ¬ Solid o) (r : RepO cx h' a o) : Holds cx h' (upd H a o) := fun b x e => by
  by_cases q : b = a
  · subst q; rw [upd_self] at e; cases e; exact r
  · rw [upd_ne q] at e
    have r := k b x e
    have so : ∀ b o, h.get? b = some o → Solid o → h'.get? b = some o := fun b o e s => g b o (by rintro rfl; exact ha o e s) e
    cases x with
    | list xs => obtain ⟨items, n, e, r, l⟩ := r; exact ⟨items, n, g _ _ q e, r.mono so, l⟩
    | tape k => obtain ⟨t, n, e⟩ := r; exact ⟨t, n, g _ _ q e⟩
    | dict kvs => obtain ⟨vs, d, r, l⟩ := r; exact ⟨vs, (let ⟨o, es, ep, ho, y⟩ := d; ⟨o, es, ep, g _ _ q ho, y⟩), r.mono so, l⟩
    | inst c d => obtain ⟨C, x, e⟩ := r; exact ⟨C, x, g _ _ q e⟩

/-! what an evaluation gives -/
inductive ExcTb (fr : Option Addr) (h₀ h : Heap) (e : Addr) (vs : Array Value) : Prop
  | mk (T : Addr) (oT : Obj) (ts : Array Value) (b1 : vs[1]? = some (.ref T)) (b2 : h₀.get? T = none) (b3 : T ≠ e) (b4 : h.get? T = some oT) (b5 : oT.cls = .type "traceback") (b6 : oT.data = .fields ts) (b7 : ts[3]? = some .none ∨ ∃ L, fr = some L ∧ ts[3]? = some (rawInt L)) : ExcTb fr h₀ h e vs
inductive Exc (cx : Cx) (fr : Option Addr) (h₀ h : Heap) (e : Addr) (c : Nat) : Prop
  | mk (n : h₀.get? e = none) (oe : Obj) (vs : Array Value) (C : Addr) (a0 : Value) (g : h.get? e = some oe) (k : oe.cls = .ref C) (x : cx.cls c = some C ∧ oe.dict = none) (d : oe.data = .fields vs) (z : vs[0]? = some a0) (y : vs[1]? = some .none ∨ ExcTb fr h₀ h e vs) : Exc cx fr h₀ h e c
inductive OkG {α β : Type} (R : Heap → α → β → Prop) (cx : Cx) (F : Fm) (m : Loc) (H : AHeap) (s : Shared) (Q : β → AHeap → Prop) (a : α) (s' : Shared) : Prop
  | mk (b : β) (H' : AHeap) (r : R s'.heap a b) (t : St cx F m H' s'.heap) (k : Kp cx [] H s H' s') (q : Q b H') : OkG R cx F m H s Q a s'
inductive ErP (cx : Cx) (F : Fm) (m : Loc) (H : AHeap) (s : Shared) (X : XPost) (v : Value) (s' : Shared) : Prop
  | mk (e : Addr) (c : Nat) (H' : AHeap) (hv : v = .ref e) (x : Exc cx F.env.frame s.heap s'.heap e c) (t : St cx F m H' s'.heap) (k : Kp cx [] H s H' s') (q : X c H') : ErP cx F m H s X v s'
noncomputable def Ev {α β : Type} (R : Heap → α → β → Prop) (cx : Cx) (F : Fm) (t : Sem α) (m : Loc) (H : AHeap) (s : Shared) (Q : β → AHeap → Prop) (X : XPost) : Prop :=
  wpAny cx.M F.A t (OkG R cx F m H s Q) (ErP cx F m H s X) s

theorem Exc.older {cx : Cx} {fr : Option Addr} {h₀ h₁ h : Heap} {e : Addr} {c : Nat} (x : Exc cx fr h₁ h e c) (al : ∀ b o, h₀.get? b = some o → ∃ o', h₁.get? b = some o') : Exc cx fr h₀ h e c := by
  have f : ∀ b, h₁.get? b = none → h₀.get? b = none := fun b q => by
    cases e : h₀.get? b with
    | none => rfl
    | some o => obtain ⟨o', e'⟩ := al b o e; rw [q] at e'; cases e'
  obtain ⟨n, oe, vs, C, a0, a1, a2, a3, a4, a5, a6⟩ := x
  refine ⟨f _ n, oe, vs, C, a0, a1, a2, a3, a4, a5, a6.imp id ?_⟩
  rintro ⟨T, oT, ts, b1, b2, b3, b4, b5, b6, b7⟩
  exact ⟨T, oT, ts, b1, f _ b2, b3, b4, b5, b6, b7⟩
theorem OkG.older {α β : Type} {R : Heap → α → β → Prop} {cx : Cx} {F : Fm} {m : Loc} {H H₁ : AHeap} {s s₁ : Shared} {Q : β → AHeap → Prop} (k : Kp cx [] H s H₁ s₁) {a : α} {s' : Shared}
    (x : OkG R cx F m H₁ s₁ Q a s') : OkG R cx F m H s Q a s' := let ⟨b, H', r, t, k', q⟩ := x; ⟨b, H', r, t, k.trans k', q⟩
theorem ErP.older {cx : Cx} {F : Fm} {m : Loc} {H H₁ : AHeap} {s s₁ : Shared} {X : XPost} (k : Kp cx [] H s H₁ s₁) {v : Value} {s' : Shared}
    (x : ErP cx F m H₁ s₁ X v s') : ErP cx F m H s X v s' := let ⟨e, c, H', r, y, t, k', q⟩ := x; ⟨e, c, H', r, y.older k.alive, t, k.trans k', q⟩
theorem Ev.older {α β : Type} {R : Heap → α → β → Prop} {cx : Cx} {F : Fm} {m : Loc} {H H₁ : AHeap} {s s₁ : Shared} {Q : β → AHeap → Prop} {X : XPost} {t : Sem α} (k : Kp cx [] H s H₁ s₁)
    (x : Ev R cx F t m H₁ s₁ Q X) : wpAny cx.M F.A t (OkG R cx F m H s Q) (ErP cx F m H s X) s₁ := wpAny_mono x (fun _ _ y => y.older k) fun _ _ y => y.older k
theorem Ev.bind {α β γ δ : Type} {R : Heap → α → β → Prop} {R' : Heap → γ → δ → Prop} {cx : Cx} {F : Fm} {m : Loc} {H : AHeap} {s : Shared} {Q₁ : β → AHeap → Prop} {Q : δ → AHeap → Prop} {X : XPost} {t : Sem α} {f : α → Sem γ}
    (h : Ev R cx F t m H s Q₁ X) (k : ∀ a b s₁ H₁, R s₁.heap a b → St cx F m H₁ s₁.heap → Kp cx [] H s H₁ s₁ → Q₁ b H₁ → Ev R' cx F (f a) m H₁ s₁ Q X) : Ev R' cx F (t >>= f) m H s Q X :=
  wpAny_bind (wpAny_mono h (fun a s₁ ⟨b, H₁, r, st, kp, q⟩ => (k a b s₁ H₁ r st kp q).older kp) fun _ _ y => y)
theorem Ev.pure {α β : Type} {R : Heap → α → β → Prop} {cx : Cx} {F : Fm} {m : Loc} {H : AHeap} {s : Shared} {Q : β → AHeap → Prop} {X : XPost} {a : α} {b : β} (r : R s.heap a b) (t : St cx F m H s.heap) (q : Q b H) :
    Ev R cx F (pure a) m H s Q X := wpAny_pure ⟨b, H, r, t, .refl _ _ _ _, q⟩
theorem Ev.holding {α β : Type} {R : Heap → α → β → Prop} {cx : Cx} {F : Fm} {m : Loc} {H : AHeap} {s : Shared} {Q : β → AHeap → Prop} {X : XPost} {t : Sem α} {vs : List Value} (h : Ev R cx F t m H s Q X) : Ev R cx F (holding vs t) m H s Q X := wpAny_holding h
theorem Ev.stand {α β : Type} {R : Heap → α → β → Prop} {cx : Cx} {F : Fm} {m : Loc} {H : AHeap} {s : Shared} {Q : β → AHeap → Prop} {X : XPost} {p : Pos} {f : Unit → Sem α} (h : Ev R cx F (f ()) m H s Q X) : Ev R cx F (standAt p >>= f) m H s Q X :=
  wpAny_bind (wpAny_standAt h)
/-- the same state, tokens spent -/
theorem OkG.toks {α β : Type} {R : Heap → α → β → Prop} {cx : Cx} {F : Fm} {m : Loc} {H : AHeap} {s : Shared} {Q : β → AHeap → Prop} {a : α} {b : β} (tk : Nat) (r : R s.heap a b) (t : St cx F m H s.heap) (q : Q b H) :
    OkG R cx F m H s Q a { s with toks := tk } := ⟨b, H, r, t, .grow (fun _ _ e => e) (fun _ _ _ e => e), q⟩
/-- new objects, no abstract one -/
theorem OkG.grow {α β : Type} {R : Heap → α → β → Prop} {cx : Cx} {F : Fm} {m : Loc} {H : AHeap} {s : Shared} {Q : β → AHeap → Prop} {a : α} {b : β} {h' : Heap} {tk : Nat} (g : ∀ b o, s.heap.get? b = some o → h'.get? b = some o)
    (r : R h' a b) (t : St cx F m H s.heap) (q : Q b H) : OkG R cx F m H s Q a { s with heap := h', toks := tk } :=
  have k : Kp cx [] H s H { s with heap := h', toks := tk } := .grow g fun _ _ _ e => e
  ⟨b, H, r, t.step k (t.heap.grow g), k, q⟩
/-- a new abstract object at an address that was free -/
theorem OkG.alloc {α β : Type} {R : Heap → α → β → Prop} {cx : Cx} {F : Fm} {m : Loc} {H : AHeap} {s : Shared} {Q : β → AHeap → Prop} {v : α} {b : β} {h' : Heap} {tk : Nat} {a : Addr} {o : AObj} (g : ∀ b o, s.heap.get? b = some o → h'.get? b = some o)
    (fr : s.heap.get? a = none) (r : R h' v b) (ro : RepO cx h' a o) (t : St cx F m H s.heap) (q : Q b (upd H a o)) : OkG R cx F m H s Q v { s with heap := h', toks := tk } :=
  have k : Kp cx [] H s (upd H a o) { s with heap := h', toks := tk } := .grow g fun b ob e hn => by rw [upd_ne (by rintro rfl; rw [fr] at e; cases e)]; exact hn
  ⟨b, _, r, t.step k (t.heap.put (fun b o _ e => g b o e) (fun o e => by rw [fr] at e; cases e) ro), k, q⟩
theorem alloc_use {o : AObj} {Q : Post} {H : AHeap} {a : Addr} (h : alloc o Q H) (e : H a = none) : Q (.obj a) (upd H a o) := h a _ e (upd_self ..) (upd_ext e)
/-- an abstract object put anew -/
theorem OkG.put {α β : Type} {R : Heap → α → β → Prop} {cx : Cx} {F : Fm} {m : Loc} {H : AHeap} {s : Shared} {Q : β → AHeap → Prop} {v : α} {b : β} {h' : Heap} {tk : Nat} {a : Addr} {o o' : AObj} (ha : H a = some o)
    (g : ∀ b o, b ≠ a → s.heap.get? b = some o → h'.get? b = some o) (r : R h' v b) (ro : RepO cx h' a o') (t : St cx F m H s.heap) (q : Q b (upd H a o')) : OkG R cx F m H s Q v { s with heap := h', toks := tk } := by
  have na : ∀ x, s.heap.get? a = some x → ¬ Solid x := fun x e => by
    obtain ⟨ob, e', n, _⟩ := (t.heap a o ha).get; rw [e] at e'; cases e'; exact n
  have k : Kp cx [] H s (upd H a o') { s with heap := h', toks := tk } := by
    refine ⟨⟨h', tk, rfl⟩, fun b ob e _ hn => ?_, fun b ob e => ?_, fun b ob eb e => ?_⟩
    · have n : b ≠ a := by rintro rfl; rw [ha] at hn; cases hn
      exact ⟨by rw [upd_ne n]; exact hn, ob, g b ob n e, .refl _⟩
    · by_cases n : b = a
      · subst n; obtain ⟨ob', e', _⟩ := ro.get; exact ⟨ob', e'⟩
      · exact ⟨ob, g b ob n e⟩
    · exact g b ob (by rintro rfl; rw [t.off _ _ eb] at ha; cases ha) e
  exact ⟨b, _, r, t.step k (t.heap.put g na ro), k, q⟩
theorem mutate_use {o : AObj} {K : AHeap → Prop} {H : AHeap} {a : Addr} (h : mutate a o K H) : K (upd H a o) := h _ (upd_self ..) (upd_extB H a o)
end Mine
end
section
open PySem PySem.Calls PyProof.Rows
namespace Mine
set_option autoImplicit false

theorem RepL.append {cx : Cx} {h : Heap} : ∀ {vs ws : List Value} {ps qs : List PV}, RepL cx h vs ps → RepL cx h ws qs → RepL cx h (vs ++ ws) (ps ++ qs)
  | _, _, _, _, .nil, r => r
  | _, _, _, _, .cons a r, r' => .cons a (RepL.append r r')
theorem RepL.rep {cx : Cx} {h : Heap} {vs : List Value} {ps : List PV} (r : RepL cx h vs ps) : ∀ n : Nat, RepL cx h (List.replicate n vs).flatten (List.replicate n ps).flatten
  | 0 => .nil
  | n + 1 => by rw [List.replicate_succ, List.replicate_succ, List.flatten_cons, List.flatten_cons]; exact r.append (r.rep n)
theorem RepL.get {cx : Cx} {h : Heap} : ∀ {vs : List Value} {ps : List PV}, RepL cx h vs ps → ∀ {i : Nat} {p : PV}, ps[i]? = some p → ∃ v, vs[i]? = some v ∧ Rep cx h v p
  | _, _, .cons a _, 0, _, e => by simp at e; subst e; exact ⟨_, rfl, a⟩
  | _, _, .cons _ r, i + 1, _, e => by simp at e; simpa using r.get e
theorem RepL.drop {cx : Cx} {h : Heap} : ∀ {vs : List Value} {ps : List PV}, RepL cx h vs ps → ∀ n : Nat, RepL cx h (vs.drop n) (ps.drop n)
  | _, _, r, 0 => r
  | _, _, .nil, _ + 1 => .nil
  | _, _, .cons _ r, n + 1 => r.drop n
theorem RepL.take {cx : Cx} {h : Heap} : ∀ {vs : List Value} {ps : List PV}, RepL cx h vs ps → ∀ n : Nat, RepL cx h (vs.take n) (ps.take n)
  | _, _, _, 0 => .nil
  | _, _, .nil, _ + 1 => .nil
  | _, _, .cons a r, n + 1 => .cons a (r.take n)
theorem RepL.reverse {cx : Cx} {h : Heap} : ∀ {vs : List Value} {ps : List PV}, RepL cx h vs ps → RepL cx h vs.reverse ps.reverse
  | _, _, .nil => .nil
  | _, _, .cons a r => by rw [List.reverse_cons, List.reverse_cons]; exact r.reverse.append (.cons a .nil)
theorem RepL.set {cx : Cx} {h : Heap} : ∀ {vs : List Value} {ps : List PV}, RepL cx h vs ps → ∀ (n : Nat) {v : Value} {p : PV}, Rep cx h v p → RepL cx h (vs.set n v) (ps.set n p)
  | _, _, .nil, _, _, _, _ => .nil
  | _, _, .cons _ r, 0, _, _, a => .cons a r
  | _, _, .cons b r, n + 1, _, _, a => .cons b (r.set n a)

theorem Rep.tupI {cx : Cx} {h : Heap} {v : Value} {xs : List PV} (r : Rep cx h v (.tup xs)) : ∃ a items n, v = .ref a ∧ h.get? a = some (tupObj items n) ∧ xs.length ≤ LIM ∧ RepL cx h items.toList xs := by
  cases r with | tup e l r => exact ⟨_, _, _, rfl, e, l, r⟩
theorem RepL.one {cx : Cx} {h : Heap} {vs : List Value} {p : PV} (r : RepL cx h vs [p]) : ∃ v, vs = [v] ∧ Rep cx h v p := by
  obtain _ | ⟨rv, _ | _⟩ := r
  exact ⟨_, rfl, rv⟩
theorem RepL.two {cx : Cx} {h : Heap} {vs : List Value} {p q : PV} (r : RepL cx h vs [p, q]) : ∃ v w, vs = [v, w] ∧ Rep cx h v p ∧ Rep cx h w q := by
  obtain _ | ⟨rv, _ | ⟨rw', _ | _⟩⟩ := r
  exact ⟨_, _, rfl, rv, rw'⟩
theorem RepL.zero {cx : Cx} {h : Heap} {vs : List Value} (r : RepL cx h vs []) : vs = [] := by cases r; rfl
theorem Rep.objI {cx : Cx} {h : Heap} {v : Value} {a : Addr} (r : Rep cx h v (.obj a)) : v = .ref a := by cases r; rfl
theorem Rep.intI {cx : Cx} {h : Heap} {v : Value} {i : Int} (r : Rep cx h v (.int i)) : ∃ t, v = .int i t := by cases r; exact ⟨_, rfl⟩
theorem Rep.strI {cx : Cx} {h : Heap} {v : Value} {i : Str} (r : Rep cx h v (.str i)) : ∃ t, v = .str i t := by cases r; exact ⟨_, rfl⟩
theorem Rep.boolI {cx : Cx} {h : Heap} {v : Value} {b : Bool} (r : Rep cx h v (.bool b)) : v = .bool b := by cases r; rfl
theorem Rep.noneI {cx : Cx} {h : Heap} {v : Value} (r : Rep cx h v .none) : v = .none := by cases r; rfl
theorem Rep.flsI {cx : Cx} {h : Heap} {v : Value} {ns : List Int} (r : Rep cx h v (.fls ns)) : ∃ a items, v = .ref a ∧ cx.B.IsList a items ∧ IntsAre items.toList ns ∧ ns.length ≤ LIM := by
  cases r with | fls e i l => exact ⟨_, _, rfl, e, i, l⟩
theorem Rep.fdtI {cx : Cx} {h : Heap} {v : Value} {kvs : List (Str × PV)} (r : Rep cx h v (.fdt kvs)) : ∃ a vs, v = .ref a ∧ cx.B.DictOf cx.sk a vs ∧ RepK cx h vs kvs := by
  cases r with | fdt e r => exact ⟨_, _, rfl, e, r⟩
theorem Rep.rngI {cx : Cx} {h : Heap} {v : Value} {n : Int} (r : Rep cx h v (.rng n)) : ∃ a t u x, v = .ref a ∧ h.get? a = some (rngObj n t u x) ∧ n.natAbs ≤ LIM := by
  cases r with | rng e l => exact ⟨_, _, _, _, rfl, e, l⟩

section
variable {cx : Cx} {F : Fm} {m : Loc} {H : AHeap} {s : Shared} {Q : Post} {X : XPost}

theorem St.list {a : Addr} {xs : List PV} (t : St cx F m H s.heap) (e : H a = some (.list xs)) : ∃ items n, s.heap.get? a = some (lstObj items n) ∧ RepL cx s.heap items.toList xs ∧ xs.length ≤ LIM := t.heap a _ e
theorem isList_of {h : Heap} {a : Addr} {items : Array Value} {n : Nat} (e : h.get? a = some (lstObj items n)) : h.IsList a items := ⟨_, e, rfl, n, rfl⟩
theorem isList_up {h h' : Heap} {a : Addr} {items : Array Value} (x : h.IsList a items) (k : h.StaysIn h') : h'.IsList a items := let ⟨o, e, r⟩ := x; ⟨o, k _ _ e, r⟩
theorem isTup_of {h : Heap} {a : Addr} {items : Array Value} {n : Nat} (e : h.get? a = some (tupObj items n)) : IsTup h a items := ⟨_, e, rfl, n, rfl⟩
theorem get_size_none (h : Heap) : h.get? h.objs.size = none := by
  cases e : h.get? h.objs.size with
  | none => rfl
  | some o => exact absurd (Heap.lt_size e) (Nat.lt_irrefl _)
theorem get_ge_none {h : Heap} {a : Addr} (l : h.objs.size ≤ a) : h.get? a = none := by
  cases e : h.get? a with
  | none => rfl
  | some o => exact absurd (Heap.lt_size e) (Nat.not_lt.mpr l)

theorem arr_len {cx : Cx} {h : Heap} {items : Array Value} {xs : List PV} (r : RepL cx h items.toList xs) : items.size = xs.length := by rw [← r.length]; simp

/-- a new list -/
theorem new_list {vs : Array Value} {xs : List PV} {c tk : Nat} {h' : Heap} {a : Addr} (t : St cx F m H s.heap) (g : ∀ b o, s.heap.get? b = some o → h'.get? b = some o) (fr : s.heap.get? a = none)
    (e : h'.get? a = some (lstObj vs c)) (r : RepL cx s.heap vs.toList xs) (l : xs.length ≤ LIM) (q : alloc (.list xs) Q H) : OkG (Rep cx) cx F m H s Q (.ref a) { s with heap := h', toks := tk } :=
  .alloc (o := .list xs) g fr (.obj a) ⟨vs, c, e, r.mono (fun b o e _ => g b o e), l⟩ t (alloc_use q (t.heap.fresh fr))
/-- a new tuple -/
theorem new_tup {vs : Array Value} {xs : List PV} {c tk : Nat} {h' : Heap} {a : Addr} (t : St cx F m H s.heap) (g : ∀ b o, s.heap.get? b = some o → h'.get? b = some o)
    (e : h'.get? a = some (tupObj vs c)) (r : RepL cx s.heap vs.toList xs) (l : xs.length ≤ LIM) (q : Q (.tup xs) H) : OkG (Rep cx) cx F m H s Q (.ref a) { s with heap := h', toks := tk } :=
  .grow g (.tup e l (r.mono (fun b o e _ => g b o e))) t q
theorem push_keeps {h : Heap} {o : Obj} : ∀ b x, h.get? b = some x → (h.push o).get? b = some x := fun _ _ e => Heap.get?_push_of_some o e

theorem LIM_le : LIM ≤ sizeLine := by decide
theorem bits_le {a : Int} (h : a.natAbs < 2 ^ 60) : Builtin.Int.intBits a ≤ 64 := by
  unfold Builtin.Int.intBits
  split
  · omega
  · rename_i q
    have : a.natAbs.log2 < 60 := (Nat.log2_lt (by simpa using q)).mpr h
    omega
theorem mulOk {a b : Int} (h : a.natAbs < 2 ^ 60 ∨ b.natAbs < 2 ^ 60) : IntMulOk a b := h.elim (fun h => .of_left (bits_le h)) fun h => .of_right (bits_le h)

theorem add_tup0 {t b : Addr} {items items2 : Array Value} {n n2 : Nat} {A : Around} {E : Value → Shared → Prop} {s : Shared} {Q : Value → Shared → Prop} {prog : Program} {w : World} (ht : s.heap.get? t = some (tupObj items n)) (hb : s.heap.get? b = some (tupObj items2 n2)) (hsz : items.size + items2.size ≤ sizeLine)
    (h0 : items.isEmpty = true → Q (.ref b) s) (h1 : ¬ items.isEmpty = true → items2.isEmpty = true → Q (.ref t) s)
    (h2 : Q (.ref s.heap.objs.size) { s with heap := s.heap.push (tupObj (items ++ items2) 0) }) :
    wpAny (model prog w) A (binaryOp .Add (.ref t) (.ref b)) Q E s := by
  by_cases a : items.isEmpty = true
  · exact concat_meets ⟨_, ht, rfl⟩ ⟨_, hb, rfl⟩ noFill_tuple_add seq_tuple_add F.slot_tuple_add F.entry_tuple_add (F.args_tuple_add_2 _ _) (AutoSeq1.tuple___add___tuple_tuple_0 t items n b items2 n2 a) ⟨ht, hb, h0 a⟩
  · by_cases c : items2.isEmpty = true
    · exact concat_meets ⟨_, ht, rfl⟩ ⟨_, hb, rfl⟩ noFill_tuple_add seq_tuple_add F.slot_tuple_add F.entry_tuple_add (F.args_tuple_add_2 _ _) (AutoSeq1.tuple___add___tuple_tuple_1 t items n b items2 n2 a c) ⟨ht, hb, h1 a c⟩
    · exact P.add_tuple ht hb a c h2 hsz

theorem mul_lst0 {l : Addr} {items : Array Value} {k : Nat} {x : Int} {u : Tok} {A : Around} {E : Value → Shared → Prop} {s : Shared} {Q : Value → Shared → Prop} {prog : Program} {w : World}
    (hl : s.heap.get? l = some (lstObj items k)) (hlo : -(2 ^ 63 : Int) ≤ x) (hhi : x < 2 ^ 63) (hsz : items.size * x.toNat ≤ 2 ^ 24)
    (h : Q (.ref s.heap.objs.size) { s with heap := s.heap.push (lstObj (List.foldl (fun x1 x2 => x1 ++ x2) #[] (List.replicate (if items.isEmpty = true then 0 else x.toNat) items)) 0) }) :
    wpAny (model prog w) A (binaryOp .Mult (.ref l) (.int x u)) Q E s :=
  wpAny_binaryOp_repeat_ref (T := "list") (U := "int") (by decide) ⟨_, hl, rfl⟩ (fun s' => typeIs_int s' x u) noFill_list_mul PySem.F.fills_int_mul PySem.F.slot_int_rmul repeat_list PySem.F.slot_int_index.lookup
    (call_meets PySem.F.slot_int_rmul (typeIs_int s x u) PySem.F.entry_int_rmul (PySem.F.args_int_rmul_2 _ _) (int___rmul___int_list x u l items k)
      ⟨hl, rfl, ⟨_, hl, rfl⟩, call_meets PySem.F.slot_list_mul ⟨_, hl, rfl⟩ PySem.F.entry_list_mul (PySem.F.args_list_mul_2 _ _)
        (AutoListH.list___mul___list_int_3 l items k x u (by simp [Builtin.List.listFitsIndex]; omega) (by omega) (by simp [Builtin.List.listTooLong, sizeLine]; omega))
        ⟨hl, h⟩⟩)

theorem foldl_arrays (items : Array Value) : ∀ (n : Nat) (acc : Array Value), (List.foldl (fun x1 x2 => x1 ++ x2) acc (List.replicate n items)).toList = acc.toList ++ (List.replicate n items.toList).flatten
  | 0, acc => by simp
  | n + 1, acc => by
    rw [List.replicate_succ, List.foldl_cons, foldl_arrays items n, List.replicate_succ, List.flatten_cons]
    simp

theorem binW_to {op : Operator} {pv pw : PV} (h : binW op pv pw Q H) : BinW Q H op pv pw := h.to fun u e q => by
  unfold binF at e
  split at e
  · split at e
    · split at e
      · rename_i a b i hi
        cases e
        unfold intF at hi
        split at hi
        · cases hi; exact .addI _ _ q
        · cases hi; exact .subI _ _ q
        · split at hi
          · cases hi; exact .modI _ _ (by assumption) q
          · cases hi
        · split at hi
          · split at hi
            · cases hi; exact .divI _ _ (by assumption) (by assumption) q
            · cases hi
          · cases hi
        · cases hi
      · cases e
    · cases e
  · cases e
theorem bin_ok {op : Operator} {v w : Value} {pv pw : PV} (rv : Rep cx s.heap v pv) (rw' : Rep cx s.heap w pw) (t : St cx F m H s.heap) (h : binW op pv pw Q H) :
    Ev (Rep cx) cx F (binaryOp op v w) m H s Q X := by
  replace h := binW_to h
  cases h with
  | addI a b h =>
    (first | (obtain ⟨_, rfl⟩ := Rep.intI rv) | (obtain ⟨_, rfl⟩ := Rep.strI rv) | (obtain rfl := Rep.objI rv) | (obtain rfl := Rep.boolI rv) | (obtain rfl := Rep.noneI rv)); (first | (obtain ⟨_, rfl⟩ := Rep.intI rw') | (obtain ⟨_, rfl⟩ := Rep.strI rw') | (obtain rfl := Rep.objI rw') | (obtain rfl := Rep.boolI rw') | (obtain rfl := Rep.noneI rw')); exact add_int (.toks _ (.int _ _) t h)
  | subI a b h =>
    (first | (obtain ⟨_, rfl⟩ := Rep.intI rv) | (obtain ⟨_, rfl⟩ := Rep.strI rv) | (obtain rfl := Rep.objI rv) | (obtain rfl := Rep.boolI rv) | (obtain rfl := Rep.noneI rv)); (first | (obtain ⟨_, rfl⟩ := Rep.intI rw') | (obtain ⟨_, rfl⟩ := Rep.strI rw') | (obtain rfl := Rep.objI rw') | (obtain rfl := Rep.boolI rw') | (obtain rfl := Rep.noneI rw')); exact sub_int (.toks _ (.int _ _) t h)
  | mulI a b hk h =>
    (first | (obtain ⟨_, rfl⟩ := Rep.intI rv) | (obtain ⟨_, rfl⟩ := Rep.strI rv) | (obtain rfl := Rep.objI rv) | (obtain rfl := Rep.boolI rv) | (obtain rfl := Rep.noneI rv)); (first | (obtain ⟨_, rfl⟩ := Rep.intI rw') | (obtain ⟨_, rfl⟩ := Rep.strI rw') | (obtain rfl := Rep.objI rw') | (obtain rfl := Rep.boolI rw') | (obtain rfl := Rep.noneI rw')); exact mul_int (.toks _ (.int _ _) t h) (mulOk hk)
  | modI a b hk h =>
    (first | (obtain ⟨_, rfl⟩ := Rep.intI rv) | (obtain ⟨_, rfl⟩ := Rep.strI rv) | (obtain rfl := Rep.objI rv) | (obtain rfl := Rep.boolI rv) | (obtain rfl := Rep.noneI rv)); (first | (obtain ⟨_, rfl⟩ := Rep.intI rw') | (obtain ⟨_, rfl⟩ := Rep.strI rw') | (obtain rfl := Rep.objI rw') | (obtain rfl := Rep.boolI rw') | (obtain rfl := Rep.noneI rw'))
    refine mod_int' (by omega) (.toks _ (.int _ _) t ?_)
    rw [Int.fmod_eq_emod_of_nonneg _ (by omega)]; exact h
  | divI a b hk hk2 h =>
    (first | (obtain ⟨_, rfl⟩ := Rep.intI rv) | (obtain ⟨_, rfl⟩ := Rep.strI rv) | (obtain rfl := Rep.objI rv) | (obtain rfl := Rep.boolI rv) | (obtain rfl := Rep.noneI rv)); (first | (obtain ⟨_, rfl⟩ := Rep.intI rw') | (obtain ⟨_, rfl⟩ := Rep.strI rw') | (obtain rfl := Rep.objI rw') | (obtain rfl := Rep.boolI rw') | (obtain rfl := Rep.noneI rw'))
    refine floordiv_int (by omega) (.toks _ (.int _ _) t ?_) (.inl (PyProof.noPylong_small (by omega)))
    rw [Int.fdiv_eq_ediv_of_nonneg _ (by omega)]; exact h
  | powI h =>
    (first | (obtain ⟨_, rfl⟩ := Rep.intI rv) | (obtain ⟨_, rfl⟩ := Rep.strI rv) | (obtain rfl := Rep.objI rv) | (obtain rfl := Rep.boolI rv) | (obtain rfl := Rep.noneI rv)); (first | (obtain ⟨_, rfl⟩ := Rep.intI rw') | (obtain ⟨_, rfl⟩ := Rep.strI rw') | (obtain rfl := Rep.objI rw') | (obtain rfl := Rep.boolI rw') | (obtain rfl := Rep.noneI rw'))
    exact pow_int (by decide) (by decide) (.toks _ (.int _ _) t h)
  | addS a b hk h =>
    (first | (obtain ⟨_, rfl⟩ := Rep.intI rv) | (obtain ⟨_, rfl⟩ := Rep.strI rv) | (obtain rfl := Rep.objI rv) | (obtain rfl := Rep.boolI rv) | (obtain rfl := Rep.noneI rv)); (first | (obtain ⟨_, rfl⟩ := Rep.intI rw') | (obtain ⟨_, rfl⟩ := Rep.strI rw') | (obtain rfl := Rep.objI rw') | (obtain rfl := Rep.boolI rw') | (obtain rfl := Rep.noneI rw')); exact add_str (fun t' tk => .toks tk (.str _ _) t h) (Nat.le_trans hk LIM_le)
  | addT xs ys hk h =>
    obtain ⟨a, i1, n1, rfl, e1, l1, r1⟩ := rv.tupI
    obtain ⟨b, i2, n2, rfl, e2, l2, r2⟩ := rw'.tupI
    have k1 := arr_len r1
    have k2 := arr_len r2
    have hl := LIM_le
    refine add_tup0 e1 e2 (by omega) (fun c => ?_) (fun _ c => ?_) ?_
    · have z : xs = [] := by
        have : i1.size = 0 := by simpa using c
        rw [k1] at this; exact List.length_eq_zero_iff.mp this
      subst z
      exact .toks s.toks (.tup e2 l2 r2) t h
    · have z : ys = [] := by
        have : i2.size = 0 := by simpa using c
        rw [k2] at this; exact List.length_eq_zero_iff.mp this
      subst z
      refine .toks s.toks (.tup e1 l1 r1) t ?_
      simpa using h
    · refine new_tup (tk := s.toks) (c := 0) t push_keeps (Heap.get?_push_size _ rfl) ?_ ?_ h
      · rw [Array.toList_append]; exact r1.append r2
      · simpa using hk
  | addL a b xs ys ha hb hk h =>
    obtain rfl := Rep.objI rv
    obtain rfl := Rep.objI rw'
    obtain ⟨i1, n1, e1, r1, l1⟩ := t.list ha
    obtain ⟨i2, n2, e2, r2, l2⟩ := t.list hb
    have k1 := arr_len r1
    have k2 := arr_len r2
    have hl := LIM_le
    refine P.add_list e1 e2 ?_ (by omega)
    refine new_list (tk := s.toks) (c := 0) t push_keeps (get_size_none _) (Heap.get?_push_size _ rfl) ?_ ?_ h
    · rw [Array.toList_append]; exact r1.append r2
    · simpa using hk
  | mulL a x xs ha u1 u2 u3 h =>
    obtain rfl := Rep.objI rv
    obtain ⟨_, rfl⟩ := Rep.intI rw'
    obtain ⟨items, n1, e1, r1, l1⟩ := t.list ha
    have k1 := arr_len r1
    have hl : LIM = 1048576 := rfl
    refine mul_lst0 e1 (by omega) (by omega) (by rw [k1]; omega) ?_
    refine new_list (tk := s.toks) (c := 0) t push_keeps (get_size_none _) (Heap.get?_push_size _ rfl) ?_ ?_ h
    · rw [foldl_arrays]
      cases z : items.isEmpty with
      | false => simpa [repL] using r1.rep x.toNat
      | true =>
        have z' : xs = [] := by
          have : items.size = 0 := by simpa using z
          rw [k1] at this; exact List.length_eq_zero_iff.mp this
        subst z'
        have : repL x [] = [] := by simp [repL]
        rw [this]; exact .nil
    · rw [repL, List.length_flatten]; simp; rw [Nat.mul_comm]; exact u3
end
end Mine
end
section
open PySem PySem.Calls PyProof.Rows
namespace Mine
set_option autoImplicit false
open SeqAt (EqAt RcAt RcNeAt)

section
variable {cx : Cx} {s : Shared} {H : AHeap}
theorem EqA.same {h : Heap} {p q : PV} {b : Bool} (e : EqA p q b) {v : Value} (r : Rep cx h v p) (r' : Rep cx h v q) : b = true := by
  cases e with
  | bool a b => obtain rfl := Rep.boolI r; cases Rep.boolI r'; simp
  | int a b => obtain ⟨_, rfl⟩ := Rep.intI r; obtain ⟨_, q⟩ := Rep.intI r'; cases q; simp
  | str a b => obtain ⟨_, rfl⟩ := Rep.strI r; obtain ⟨_, q⟩ := Rep.strI r'; cases q; simp
  | intstr a b => obtain ⟨_, rfl⟩ := Rep.intI r; obtain ⟨_, q⟩ := Rep.strI r'; cases q
  | strint a b => obtain ⟨_, rfl⟩ := Rep.strI r; obtain ⟨_, q⟩ := Rep.intI r'; cases q
mutual
/-- one and the same value -/
theorem EqV.same (t : Holds cx s.heap H) : ∀ {n : Nat} {p q : PV} {b : Bool}, EqV H n p q b → ∀ {v : Value}, Rep cx s.heap v p → Rep cx s.heap v q → b = true
  | _, _, _, _, .atom e, _, r, r' => e.same r r'
  | _, _, _, _, .tup e, _, r, r' => by
    obtain ⟨a, i, n, rfl, e1, _, r1⟩ := r.tupI
    obtain ⟨a', i', n', q, e2, _, r2⟩ := r'.tupI
    cases q
    rw [e1] at e2
    have : i = i' := by simp [tupObj] at e2; exact e2.1
    subst this
    exact EqL.same t e r1 r2
  | _, _, _, _, .list ha hb e, _, r, r' => by
    obtain rfl := r.objI
    cases r'.objI
    rw [ha] at hb; cases hb
    obtain ⟨i, n, _, r1, _⟩ := t _ _ ha
    exact EqL.same t e r1 r1
theorem EqL.same (t : Holds cx s.heap H) : ∀ {n : Nat} {ps qs : List PV} {b : Bool}, EqL H n ps qs b → ∀ {vs : List Value}, RepL cx s.heap vs ps → RepL cx s.heap vs qs → b = true
  | _, _, _, _, .nil, _, _, _ => rfl
  | _, _, _, _, .l x xs, _, r, r' => by have h := r.length; rw [r'.length] at h; simp at h
  | _, _, _, _, .r y ys, _, r, r' => by have h := r.length; rw [r'.length] at h; simp at h
  | _, _, _, _, .c e es, _, .cons a r, .cons a' r' => by rw [EqV.same t e a a', EqL.same t es r r']; rfl
end

theorem EqL.all {n : Nat} : ∀ {ps qs : List PV} {b : Bool}, EqL H n ps qs b → ∃ f : Nat → Bool, (∀ j x y, ps[j]? = some x → qs[j]? = some y → EqV H n x y (f j)) ∧ b = ((List.range (min ps.length qs.length)).all f && ps.length == qs.length)
  | _, _, _, .nil => ⟨fun _ => true, fun j x y e => (by simp at e), rfl⟩
  | _, _, _, .l x xs => ⟨fun _ => true, fun j x y _ e => (by simp at e), by simp⟩
  | _, _, _, .r x xs => ⟨fun _ => true, fun j x y e => (by simp at e), by simp⟩
  | _, _, _, .c (a := a) e es => by
    obtain ⟨f, h1, h2⟩ := es.all
    refine ⟨fun j => match j with | 0 => a | j + 1 => f j, fun j x y ex ey => ?_, ?_⟩
    · cases j with
      | zero => simp at ex ey; subst ex ey; exact e
      | succ j => simp at ex ey; exact h1 j x y ex ey
    · rw [h2]
      simp only [List.length_cons, Nat.add_min_add_right, List.range_succ_eq_map, List.all_cons, List.all_map, Bool.and_assoc]
      simp [Function.comp_def]

theorem isTuple_of {h : Heap} {a : Addr} {items : Array Value} {n : Nat} (e : h.get? a = some (tupObj items n)) : h.IsTuple a items := ⟨_, e, rfl, n, rfl⟩

theorem RepL.at {h : Heap} {items : Array Value} {xs : List PV} (r : RepL cx h items.toList xs) {j : Nat} (hj : j < items.size) : ∃ p, xs[j]? = some p ∧ Rep cx h items[j] p := by
  have hl := arr_len r
  have e : xs[j]? = some (xs[j]'(by omega)) := by simp
  obtain ⟨v, ev, rv⟩ := r.get e
  refine ⟨_, e, ?_⟩
  have : items[j] = v := by
    rw [Array.getElem?_toList] at ev
    rw [Array.getElem?_eq_getElem hj] at ev
    exact Option.some.inj ev
  rw [this]; exact rv

theorem atom_at {p q : PV} {b : Bool} (e : EqA p q b) {v w : Value} (rv : Rep cx s.heap v p) (rw' : Rep cx s.heap w q) (A : Around) : EqAt A s v w b ∧ RcAt A s v w b ∧ RcNeAt A s v w (!b) := by
  cases e with
  | bool a b => obtain rfl := Rep.boolI rv; obtain rfl := Rep.boolI rw'; exact ⟨.bool_bool _ _, .bool_bool _ _, .bool_bool _ _⟩
  | int a b => obtain ⟨_, rfl⟩ := Rep.intI rv; obtain ⟨_, rfl⟩ := Rep.intI rw'; exact ⟨.int_int _ _ _ _, .int_int _ _ _ _, .int_int _ _ _ _⟩
  | str a b => obtain ⟨_, rfl⟩ := Rep.strI rv; obtain ⟨_, rfl⟩ := Rep.strI rw'; exact ⟨.str_str _ _ _ _, .str_str _ _ _ _, .str_str _ _ _ _⟩
  | intstr a b => obtain ⟨_, rfl⟩ := Rep.intI rv; obtain ⟨_, rfl⟩ := Rep.strI rw'; exact ⟨.int_str _ _ _ _, .int_str _ _ _ _, .int_str _ _ _ _⟩
  | strint a b => obtain ⟨_, rfl⟩ := Rep.strI rv; obtain ⟨_, rfl⟩ := Rep.intI rw'; exact ⟨.str_int _ _ _ _, .str_int _ _ _ _, .str_int _ _ _ _⟩
/-- == told by item, of two made rows -/
theorem eqv_at (t : Holds cx s.heap H) : ∀ (n : Nat) {p q : PV} {b : Bool}, EqV H n p q b → ∀ {v w : Value}, Rep cx s.heap v p → Rep cx s.heap w q → ∀ (A : Around), A.units + n < cLine →
    EqAt A s v w b ∧ RcAt A s v w b ∧ RcNeAt A s v w (!b) := by
  intro n
  induction n with
  | zero =>
    intro p q b e v w rv rw' A hu
    cases e with
    | atom e => exact atom_at e rv rw' A
  | succ n ih =>
    intro p q b e v w rv rw' A hu
    have e0 := e
    cases e with
    | atom e => exact atom_at e rv rw' A
    | tup el =>
      obtain ⟨a1, i1, n1, rfl, e1, _, r1⟩ := rv.tupI
      obtain ⟨a2, i2, n2, rfl, e2, _, r2⟩ := rw'.tupI
      obtain ⟨f, hf, hb⟩ := el.all
      have hi : ∀ j (h1 : j < i1.size) (h2 : j < i2.size), EqAt A.in1 s i1[j] i2[j] (f j) := fun j h1 h2 => by
        obtain ⟨p1, q1, s1⟩ := r1.at h1
        obtain ⟨p2, q2, s2⟩ := r2.at h2
        exact (ih (hf j p1 p2 q1 q2) s1 s2 A.in1 (by show A.units + 1 + n < cLine; omega)).1
      rw [← arr_len r1, ← arr_len r2] at hb
      have rc : RcAt A s (.ref a1) (.ref a2) b := by rw [hb]; exact RcAt.tuples (isTuple_of e1) (isTuple_of e2) (by omega) hi
      have rn : RcNeAt A s (.ref a1) (.ref a2) (!b) := by rw [hb]; exact RcNeAt.tuples (isTuple_of e1) (isTuple_of e2) (by omega) hi
      refine ⟨?_, rc, rn⟩
      by_cases q : a1 = a2
      · subst q; rw [EqV.same t e0 rv rw']; exact .same _
      · exact .of_refs q rc
    | list ha hb' el =>
      rename_i a1 a2 _ _
      obtain rfl := rv.objI
      obtain rfl := rw'.objI
      obtain ⟨i1, n1, e1, r1, _⟩ := t _ _ ha
      obtain ⟨i2, n2, e2, r2, _⟩ := t _ _ hb'
      obtain ⟨f, hf, hb⟩ := el.all
      have hi : ∀ j (h1 : j < i1.size) (h2 : j < i2.size), EqAt A.in1 s i1[j] i2[j] (f j) := fun j h1 h2 => by
        obtain ⟨p1, q1, s1⟩ := r1.at h1
        obtain ⟨p2, q2, s2⟩ := r2.at h2
        exact (ih (hf j p1 p2 q1 q2) s1 s2 A.in1 (by show A.units + 1 + n < cLine; omega)).1
      rw [← arr_len r1, ← arr_len r2] at hb
      have both : RcAt A s (.ref a1) (.ref a2) b ∧ RcNeAt A s (.ref a1) (.ref a2) (!b) := by
        by_cases hs : i1.size = i2.size
        · rw [hb, ← hs, Nat.min_self, beq_self_eq_true, Bool.and_true]
          exact ⟨RcAt.lists (isList_of e1) (isList_of e2) hs (by omega) hi, RcNeAt.lists (isList_of e1) (isList_of e2) hs (by omega) hi⟩
        · have hz : (i1.size == i2.size) = false := by simpa using hs
          rw [hb, hz, Bool.and_false]
          exact ⟨RcAt.lists_lengths (isList_of e1) (isList_of e2) (by simpa using hs) (by omega), RcNeAt.lists_lengths (isList_of e1) (isList_of e2) (by simpa using hs) (by omega)⟩
      refine ⟨?_, both.1, both.2⟩
      by_cases q : a1 = a2
      · subst q; rw [EqV.same t e0 (.obj _) (.obj _)]; exact .same _
      · exact .of_refs q both.1
end
end Mine
end
section
open PySem PySem.Calls PyProof.Rows
namespace Mine
set_option autoImplicit false
open SeqAt (EqAt RcAt RcNeAt)

section
variable {cx : Cx}
theorem RepK.get {h : Heap} : ∀ {vs : List (Str × Value)} {ps : List (Str × PV)}, RepK cx h vs ps → ∀ {k : Str} {p : PV}, dget ps k = some p → ∃ v, valueAt vs k = some v ∧ Rep cx h v p
  | _, _, .nil, k, p, e => by simp [dget] at e
  | _, _, .cons (k := k') (ps := qs) a r, k, p, e => by
    by_cases q : k' = k
    · subst q; simp [dget] at e; subst e; exact ⟨_, by simp [valueAt], a⟩
    · have e' : dget qs k = some p := by simpa [dget, q] using e
      obtain ⟨v, e1, r1⟩ := r.get e'
      exact ⟨v, by simpa [valueAt, q] using e1, r1⟩
theorem RepK.miss {h : Heap} : ∀ {vs : List (Str × Value)} {ps : List (Str × PV)}, RepK cx h vs ps → ∀ {k : Str}, dget ps k = none → valueAt vs k = none
  | _, _, .nil, k, e => by simp [valueAt]
  | _, _, .cons (k := k') (ps := qs) a r, k, e => by
    by_cases q : k' = k
    · subst q; simp [dget] at e
    · have e' : dget qs k = none := by simpa [dget, q] using e
      have := r.miss e'
      simpa [valueAt, q] using this
theorem RepK.isSome {h : Heap} {vs : List (Str × Value)} {ps : List (Str × PV)} (r : RepK cx h vs ps) (k : Str) : (valueAt vs k).isSome = hasKey ps k := by
  unfold hasKey
  cases e : dget ps k with
  | none => rw [r.miss e]; rfl
  | some p => obtain ⟨v, q, _⟩ := r.get e; rw [q]; rfl
theorem RepK.keys {h : Heap} : ∀ {vs : List (Str × Value)} {ps : List (Str × PV)}, RepK cx h vs ps → vs.map (·.1) = ps.map (·.1)
  | _, _, .nil => rfl
  | _, _, .cons _ r => by simp [r.keys]

theorem beq_bv (a b : Bool) : (Value.bool a == Value.bool b) = (a == b) := by cases a <;> cases b <;> decide
noncomputable def eqStr (k : Str) : Value → Bool
  | .str z _ => z == k
  | _ => false
theorem RepL.strs {h : Heap} : ∀ {vs : List Value} {ks : List Str}, RepL cx h vs (ks.map .str) → (∀ y ∈ vs, ∃ z t, y = .str z t) ∧ ∀ k, vs.any (eqStr k) = decide (k ∈ ks)
  | [], [], _ => ⟨fun _ q => (nomatch q), fun k => by simp⟩
  | v :: vs, z :: ks, .cons a r => by
    obtain ⟨t, rfl⟩ := a.strI
    obtain ⟨h1, h2⟩ := r.strs
    refine ⟨fun y hy => ?_, fun k => ?_⟩
    · rcases List.mem_cons.mp hy with rfl | hy
      · exact ⟨z, t, rfl⟩
      · exact h1 y hy
    · rw [List.any_cons, h2 k]
      by_cases q : z = k
      · subst q; simp [eqStr]
      · have q' : ¬ k = z := fun e => q e.symm
        simp [eqStr, q, q', List.mem_cons]
end

section
variable {cx : Cx} {F : Fm} {m : Loc} {H : AHeap} {s : Shared} {Q : BPost} {X : XPost}
abbrev IsB : Heap → Value → Bool → Prop := fun _ v b => v = .bool b

theorem St.dict {a : Addr} {xs : List (Str × PV)} (t : St cx F m H s.heap) (e : H a = some (.dict xs)) : ∃ vs, s.heap.DictOf cx.sk a vs ∧ RepK cx s.heap vs xs ∧ xs.length ≤ LIM ∧ (a == sysModules) = false := t.heap a _ e
theorem Rep.fdt_at {a : Addr} {vs : List (Str × Value)} (d : cx.B.DictOf cx.sk a vs) (t : St cx F m H s.heap) : s.heap.DictOf cx.sk a vs := d.keep t.base

theorem eqd_hits (t : Holds cx s.heap H) {vb : List (Str × Value)} {ys : List (Str × PV)} (rb : RepK cx s.heap vb ys) : ∀ {xs : List (Str × PV)} {r : Bool}, EqD H ys xs r → ∀ {va : List (Str × Value)}, RepK cx s.heap va xs → ∀ A : Around, A.units + 40 < cLine →
    PySem.W.KeqHits A s vb va r
  | _, _, .nil, _, .nil, _, _ => .nil
  | _, _, .miss e, _, .cons _ _, _, _ => .miss (rb.miss e)
  | _, _, .c e ev es, _, .cons a r, A, hu => by
    obtain ⟨v, q, rv⟩ := rb.get e
    exact .hit q (eqv_at t 40 ev a rv A hu).1 (eqd_hits t rb es r A hu)

theorem eq_ok {v w : Value} {p q : PV} {b : Bool} (hu : F.A.units + 100 < cLine) (rv : Rep cx s.heap v p) (rw' : Rep cx s.heap w q) (t : St cx F m H s.heap) (e : EqT H p q b) (Q' : Value → Shared → Prop) (E : Value → Shared → Prop) :
    (Q' (.bool b) s → wpAny cx.M F.A (compareOp .Eq v w) Q' E s) ∧ (Q' (.bool (!b)) s → wpAny cx.M F.A (compareOp .NotEq v w) Q' E s) := by
  cases e with
  | val e =>
    obtain ⟨_, h2, h3⟩ := eqv_at t.heap 40 e rv rw' F.A (by omega)
    exact ⟨fun h => h2 _ _ E Q' h, fun h => h3 _ _ E Q' h⟩
  | dict ha hb hl hd =>
    obtain rfl := Rep.objI rv; obtain rfl := Rep.objI rw'
    obtain ⟨va, da, ra, _, na⟩ := t.dict ha
    obtain ⟨vb, db, rb, _, nb⟩ := t.dict hb
    have hh := eqd_hits t.heap rb hd ra F.A.in1 (by show F.A.units + 1 + 40 < cLine; omega)
    have hlen : (va.length == vb.length) = true := by rw [ra.length, rb.length, hl]; simp
    exact ⟨fun h => PySem.W.keq_eq na nb da db (by omega) (fun _ => hh) (by rw [hlen, Bool.true_and]; exact h), fun h => PySem.W.keq_ne na nb da db (by omega) (fun _ => hh) (by rw [hlen, Bool.true_and]; exact h)⟩
  | dictlen ha hb hl =>
    obtain rfl := Rep.objI rv; obtain rfl := Rep.objI rw'
    obtain ⟨va, da, ra, _, na⟩ := t.dict ha
    obtain ⟨vb, db, rb, _, nb⟩ := t.dict hb
    have hne : ¬ va.length = vb.length := by rw [ra.length, rb.length]; exact hl
    have hlen : (va.length == vb.length) = false := by simpa using hne
    exact ⟨fun h => PySem.W.keq_eq (r := true) na nb da db (by omega) (fun e => absurd e hne) (by rw [hlen, Bool.false_and]; exact h), fun h => PySem.W.keq_ne (r := true) na nb da db (by omega) (fun e => absurd e hne) (by rw [hlen, Bool.false_and]; exact h)⟩

theorem cmpW_to {op : CmpOp} {p q : PV} (h : cmpW op p q Q H) : CmpW (fun b => Q b H) H op p q := h.to fun b e k => by
  unfold cmpF at e
  split at e
  · split at e
    · unfold cmpI at e
      split at e <;> cases e
      · exact .eq (.val (.int _ _)) k
      · exact .ne (.val (.int _ _)) k
      · exact .lt _ _ k
      · exact .le _ _ k
      · exact .gt _ _ k
    · cases e
  · split at e
    · unfold cmpS at e
      split at e <;> cases e
      · exact .eq (.val (.str _ _)) k
      · exact .ne (.val (.str _ _)) k
    · cases e
  · cases e
theorem cmp_ok {op : CmpOp} {v w : Value} {p q : PV} (hu : F.A.units + 100 < cLine) (rv : Rep cx s.heap v p) (rw' : Rep cx s.heap w q) (t : St cx F m H s.heap) (h : cmpW op p q Q H) :
    Ev IsB cx F (compareOp op v w) m H s Q X := by
  replace h := cmpW_to h
  cases h with
  | eq e k => exact (eq_ok hu rv rw' t e _ _).1 (.toks s.toks rfl t k)
  | ne e k => exact (eq_ok hu rv rw' t e _ _).2 (.toks s.toks rfl t k)
  | lt a b k => obtain ⟨_, rfl⟩ := Rep.intI rv; obtain ⟨_, rfl⟩ := Rep.intI rw'; exact lt_int (.toks s.toks rfl t k)
  | le a b k => obtain ⟨_, rfl⟩ := Rep.intI rv; obtain ⟨_, rfl⟩ := Rep.intI rw'; exact le_int (.toks s.toks rfl t k)
  | gt a b k => obtain ⟨_, rfl⟩ := Rep.intI rv; obtain ⟨_, rfl⟩ := Rep.intI rw'; exact gt_int (.toks s.toks rfl t k)
  | inD ha h =>
    obtain ⟨tk, rfl⟩ := rv.strI
    obtain rfl := Rep.objI rw'
    obtain ⟨vs, d, r, _, hn⟩ := t.dict ha
    refine wpAny_in_of (knd := cx.sk) (strKind_is _ _ _ _) hn d.mapOf ?_
    rw [r.isSome]; exact .toks _ rfl t h
  | niD ha h =>
    obtain ⟨tk, rfl⟩ := rv.strI
    obtain rfl := Rep.objI rw'
    obtain ⟨vs, d, r, _, hn⟩ := t.dict ha
    refine wpAny_notIn_of (knd := cx.sk) (strKind_is _ _ _ _) hn d.mapOf ?_
    rw [r.isSome]; exact .toks _ rfl t h
  | inL ha h =>
    rename_i k a ks
    obtain ⟨tk, rfl⟩ := rv.strI
    obtain rfl := Rep.objI rw'
    obtain ⟨items, n, e, r, _⟩ := t.list ha
    obtain ⟨h1, h2⟩ := r.strs
    refine SeqAt.in_listAt (eqStr k) (isList_of e) (fun y hy => ?_) ?_
    · obtain ⟨z, u, rfl⟩ := h1 y (by simpa using hy)
      exact EqAt.str_str _ _ _ _
    · rw [← Array.any_toList, h2]; exact .toks s.toks rfl t h
  | niL ha h =>
    rename_i k a ks
    obtain ⟨tk, rfl⟩ := rv.strI
    obtain rfl := Rep.objI rw'
    obtain ⟨items, n, e, r, _⟩ := t.list ha
    obtain ⟨h1, h2⟩ := r.strs
    refine SeqAt.notIn_listAt (eqStr k) (isList_of e) (fun y hy => ?_) ?_
    · obtain ⟨z, u, rfl⟩ := h1 y (by simpa using hy)
      exact EqAt.str_str _ _ _ _
    · rw [← Array.any_toList, h2]; exact .toks s.toks rfl t h
end
end Mine
end
section
open PySem PySem.Calls PyProof.Rows
namespace Mine
set_option autoImplicit false

section
variable {prog : Program} {w : World} {A : Around} {E : Value → Shared → Prop} {s : Shared}
theorem tail_at {value slice : Expr} {o i : Value} {T id : String} {ops : List Value} {Q : Value → Shared → Prop} (hT : s.TypeIs o T)
    (hl : typeLookup (.type T) "__getitem__" = pure (some (.builtin id))) (h : wpAny (model prog w) A (getItem o i) Q E s)
    (hs : subscripted slice false o i = operate ops (getItem o i)) :
    wpAny (model prog w) A (subscriptTail value slice o i) Q E s := by
  unfold subscriptTail
  refine wpAny_bind ?_
  rw [getitemInPython_of_ne hT.not_modules]
  refine wpAny_bind (wpAny_specialOf hT hl ?_)
  have fin : wpAny (model prog w) A (subscripted slice false o i) (fun r s₃ => wpAny (model prog w) A (letTemporaryGo value o r >>= fun _ => pure r) Q E s₃) E s := by
    rw [hs]
    exact wpAny_operating (wpAny_mono h (fun r s₃ h₃ => wpAny_bind (wpAny_letTemporaryGo (wpAny_pure h₃))) fun _ _ x => x)
  first
    | exact wpAny_pure (wpAny_bind fin)
    | exact wpAny_bind (wpAny_pure (wpAny_bind fin))
    | exact wpAny_bind fin

theorem getItem_lst {l : Addr} {items : Array Value} {k : Int} {t : Tok} {x : Value} {Q : Value → Shared → Prop} (hl : s.heap.IsList l items) (hsz : items.size ≤ LIM) (hx : itemAt items.toList k = some x) (h : Q x s) :
    wpAny (model prog w) A (getItem (.ref l) (.int k t)) Q E s := by
  unfold itemAt at hx
  have hL : LIM = 1048576 := rfl
  simp only [Array.length_toList, Array.getElem?_toList] at hx
  split at hx
  · rename_i h0
    have : k.toNat < items.size := (Array.getElem?_eq_some_iff.mp hx).1
    exact wpAny_getItem_list hl h0 (by omega) hx h
  · split at hx
    · exact wpAny_getItem_list_neg hl (by omega) (by omega) (by omega) hx h
    · cases hx
theorem seqIdx {k : Int} {n : Nat} {α : Type} {xs : List α} {x : α} (hn : xs.length = n) (hx : itemAt xs k = some x) : ∃ j, seqIndex? k n = some j ∧ xs[j]? = some x := by
  unfold itemAt at hx
  split at hx
  · rename_i h0
    have : k.toNat < xs.length := (List.getElem?_eq_some_iff.mp hx).1
    exact ⟨_, seqIndex_of h0 (by omega), hx⟩
  · split at hx
    · rename_i h0 h1
      refine ⟨_, seqIndex_neg (by omega) (by omega), ?_⟩
      rw [← hn]; exact hx
    · cases hx
theorem itemAt_range {k : Int} {α : Type} {xs : List α} {x : α} (hx : itemAt xs k = some x) : -(xs.length : Int) ≤ k ∧ k < xs.length := by
  unfold itemAt at hx
  split at hx
  · have : k.toNat < xs.length := (List.getElem?_eq_some_iff.mp hx).1
    omega
  · split at hx
    · have : (k + xs.length).toNat < xs.length := (List.getElem?_eq_some_iff.mp hx).1
      omega
    · cases hx
end

theorem RepL.item {cx : Cx} {h : Heap} {vs : List Value} {ps : List PV} (r : RepL cx h vs ps) {k : Int} {p : PV} (e : itemAt ps k = some p) : ∃ v, itemAt vs k = some v ∧ Rep cx h v p := by
  unfold itemAt at e ⊢
  rw [r.length]
  split at e
  · rw [if_pos (by assumption)]; exact r.get e
  · rw [if_neg (by assumption)]
    split at e
    · rw [if_pos (by assumption)]; exact r.get e
    · cases e
theorem ints_item {vs : List Value} {ns : List Int} (r : IntsAre vs ns) {k : Int} {n : Int} (e : itemAt ns k = some n) : ∃ t, itemAt vs k = some (.int n t) := by
  have g : ∀ {vs : List Value} {ns : List Int}, IntsAre vs ns → ∀ {j : Nat} {n : Int}, ns[j]? = some n → ∃ t, vs[j]? = some (.int n t) := by
    intro vs ns r
    induction r with
    | nil => intro j n e; simp at e
    | cons a t _ ih =>
      intro j n e
      cases j with
      | zero => simp at e; subst e; exact ⟨t, rfl⟩
      | succ j => simp at e; simpa using ih e
  unfold itemAt at e ⊢
  rw [r.length]
  split at e
  · rw [if_pos (by assumption)]; exact g r e
  · rw [if_neg (by assumption)]
    split at e
    · rw [if_pos (by assumption)]; exact g r e
    · cases e

section
variable {cx : Cx} {F : Fm} {m : Loc} {H : AHeap} {s : Shared} {Q : Post} {X : XPost}

theorem St.tape {a : Addr} {n : Nat} (t : St cx F m H s.heap) (e : H a = some (.tape n)) : ∃ u k, s.heap.get? a = some (lstObj #[.int n u] k) := t.heap a _ e
theorem ints_len {vs : List Value} {ns : List Int} (r : IntsAre vs ns) : vs.length = ns.length := r.length

theorem subW_to {p q : PV} (h : subW p q Q H) : SubW Q H p q := h.to fun u e k => by
  unfold subF at e
  split at e
  · split at e
    · exact .tup e k
    · cases e
  · cases e
theorem sub_ok {value slice : Expr} {v i : Value} {p q : PV} (hs : ∀ o i, subscripted slice false o i = operate [o, i] (getItem o i)) (rv : Rep cx s.heap v p) (ri : Rep cx s.heap i q) (t : St cx F m H s.heap) (h : subW p q Q H) :
    Ev (Rep cx) cx F (subscriptTail value slice v i) m H s Q X := by
  have hL : LIM = 1048576 := rfl
  replace h := subW_to h
  cases h with
  | tup e h =>
    obtain ⟨a, items, n, rfl, g, l, r⟩ := rv.tupI
    obtain ⟨u, rfl⟩ := ri.intI
    obtain ⟨y, ey, ry⟩ := r.item e
    obtain ⟨j, h1, h2⟩ := seqIdx (n := items.size) (by simp) ey
    have := itemAt_range e
    refine tail_at (T := "tuple") ⟨_, g, rfl⟩ slot_tuple_getitem.lookup (P.getItem_tuple g (by omega) (by omega) h1 (by simpa using h2) (.toks s.toks ry t h)) (hs _ _)
  | str hz e h =>
    rename_i y x k
    obtain ⟨u, rfl⟩ := rv.strI
    obtain ⟨u, rfl⟩ := ri.intI
    unfold signAt at e
    obtain ⟨c, ec, rfl⟩ := Option.map_eq_some_iff.mp e
    have hl : y.cps.toList.length = y.length := by simp [Str.length]
    obtain ⟨j, h1, h2⟩ := seqIdx hl ec
    have := itemAt_range ec
    refine tail_at (T := "str") (typeIs_str _ _ _) PySem.F.slot_str_getitem.lookup (getItem_str (i := k) (c := c) ?_ ?_ (.toks _ (.str _ _) t h)) (hs _ _)
    · simp; omega
    · rw [h1]; simpa using h2
  | fls e h =>
    obtain ⟨a, items, rfl, g, ii, l⟩ := rv.flsI
    obtain ⟨u, rfl⟩ := ri.intI
    obtain ⟨y, ey⟩ := ints_item ii e
    have hk := ints_len ii
    have g' := isList_up g t.base
    refine tail_at (T := "list") g'.typeIs slot_list_getitem.lookup (getItem_lst g' (by simp at hk; omega) ey (.toks s.toks (.int _ _) t h)) (hs _ _)
  | fdt e h =>
    obtain ⟨a, vs, rfl, d, r⟩ := rv.fdtI
    obtain ⟨u, rfl⟩ := ri.strI
    obtain ⟨y, ey, ry⟩ := r.get e
    have d' := d.keep t.base
    exact tail_at (T := "dict") d'.typeIs slot_dict_getitem.lookup (wpAny_getItem_of (knd := cx.sk) (strKind_is _ _ _ _) d'.mapOf ey (.toks _ ry t h)) (hs _ _)
  | list ha e h =>
    obtain rfl := Rep.objI rv
    obtain ⟨u, rfl⟩ := ri.intI
    obtain ⟨items, n, g, r, l⟩ := t.list ha
    obtain ⟨y, ey, ry⟩ := r.item e
    have hk := arr_len r
    refine tail_at (T := "list") ⟨_, g, rfl⟩ slot_list_getitem.lookup (getItem_lst (isList_of g) (by omega) ey (.toks s.toks ry t h)) (hs _ _)
  | dict ha e h =>
    obtain rfl := Rep.objI rv
    obtain ⟨u, rfl⟩ := ri.strI
    obtain ⟨vs, d, r, _⟩ := t.dict ha
    obtain ⟨y, ey, ry⟩ := r.get e
    exact tail_at (T := "dict") d.typeIs slot_dict_getitem.lookup (wpAny_getItem_of (knd := cx.sk) (strKind_is _ _ _ _) d.mapOf ey (.toks _ ry t h)) (hs _ _)
  | tape ha h =>
    obtain rfl := Rep.objI rv
    obtain ⟨u, rfl⟩ := ri.intI
    obtain ⟨u, k, g⟩ := t.tape ha
    exact tail_at (T := "list") ⟨_, g, rfl⟩ slot_list_getitem.lookup (getItem_lst (isList_of g) (by simp [LIM]) rfl (.toks s.toks (.int _ _) t h)) (hs _ _)
end
end Mine
end
section
open PySem PySem.Calls PyProof.Rows
namespace Mine
set_option autoImplicit false
open PySem.Builtin.Str (strSliceIndices)

theorem cutAt_le (n : Nat) (k : Int) : cutAt n k ≤ n := by unfold cutAt; split <;> omega
theorem clip_cut (n : Nat) (k : Int) : max 0 (min (if k < 0 then k + (n : Int) else k) (n : Int)) = (cutAt n k : Int) := by
  unfold cutAt
  by_cases h : 0 ≤ k
  · rw [if_neg (by omega), if_pos h]; omega
  · rw [if_pos (by omega), if_neg h]; omega
theorem bounds_from (n : Nat) (k : Int) : sliceBounds (some k) none none n = ((cutAt n k : Int), (n : Int), 1) := by
  show (max 0 (min (if k < 0 then k + (n : Int) else k) (n : Int)), (n : Int), (1 : Int)) = _
  rw [clip_cut]
theorem bounds_to (n : Nat) (k : Int) : sliceBounds none (some k) none n = ((0 : Int), (cutAt n k : Int), 1) := by
  show ((0 : Int), max 0 (min (if k < 0 then k + (n : Int) else k) (n : Int)), (1 : Int)) = _
  rw [clip_cut]
theorem pick_from' (items : Array Value) (k : Int) : (slicePick items (some k) none none).toList = items.toList.drop (cutAt items.size k) := by
  unfold slicePick
  rw [bounds_from]
  simp only
  rw [sliceRange_one, pick_run, List.take_of_length_le (by simp)]
theorem pick_to' (items : Array Value) (k : Int) : (slicePick items none (some k) none).toList = items.toList.take (cutAt items.size k) := by
  unfold slicePick
  rw [bounds_to]
  simp only
  rw [show (0 : Int) = ((0 : Nat) : Int) from rfl, sliceRange_one, pick_run, List.drop_zero, Nat.sub_zero]
theorem str_from (x : Str) (k : Int) : Txt.slice x (some k) none = ⟨(x.cps.toList.drop (cutAt x.length k)).toArray⟩ := by
  have e : strSliceIndices (some k) none 1 x.length = (List.range (x.length - cutAt x.length k)).map (cutAt x.length k + ·) := by
    show sliceRange (max 0 (min (if k < 0 then k + (x.length : Int) else k) (x.length : Int))) (x.length : Int) 1 = _
    rw [clip_cut, sliceRange_one]
  unfold Txt.slice
  rw [e, pick_run]
  split
  · rename_i h
    simp at h
    have hc := cutAt_le x.length k
    have z : cutAt x.length k = 0 ∨ x.length = 0 := by omega
    rcases z with z | z
    · rw [z]; simp
    · have : x.cps.toList = [] := by
        have : x.cps.size = 0 := z
        simpa using this
      rw [this]; cases x; simp_all
  · rw [List.take_of_length_le (by simp [Str.length])]
theorem str_to (x : Str) (k : Int) : Txt.slice x none (some k) = ⟨(x.cps.toList.take (cutAt x.length k)).toArray⟩ := by
  have e : strSliceIndices none (some k) 1 x.length = (List.range (cutAt x.length k - 0)).map (0 + ·) := by
    show sliceRange 0 (max 0 (min (if k < 0 then k + (x.length : Int) else k) (x.length : Int))) 1 = _
    rw [clip_cut, show (0 : Int) = ((0 : Nat) : Int) from rfl, sliceRange_one]
  unfold Txt.slice
  rw [e, pick_run]
  split
  · rename_i h
    simp at h
    rw [h, List.take_of_length_le (by simp [Str.length])]
  · rw [List.drop_zero, Nat.sub_zero]

section
variable {prog : Program} {w : World} {A : Around} {E : Value → Shared → Prop} {s : Shared}
theorem slicePart_of {v : Value} {k : Option Int} {Q : Option Int → Shared → Prop} (p : IsPart v k) (h : Q k s) : wpAny (model prog w) A (Builtin.Slice.slicePartIndex v) Q E s := by
  cases p with
  | none => exact slicePart_none h
  | int i t => exact slicePart_int h
theorem sliceApplied_of {sl : Addr} {vl vu : Value} {lo hi : Option Int} {n : Nat} {a b : Nat} {Q : Int × Int × Nat → Shared → Prop} (hs : s.heap.IsSliceOf sl vl vu .none) (pl : IsPart vl lo) (pu : IsPart vu hi)
    (e : Builtin.Slice.sliceAdjust lo hi 1 (n : Int) = ((a : Int), (b : Int))) (h : Q ((a : Int), 1, b - a) s) :
    wpAny (model prog w) A (Builtin.Slice.sliceApplied (.ref sl) (pure (n : Int))) Q E s := by
  obtain ⟨os, hos, hcs, hds⟩ := id hs
  unfold Builtin.Slice.sliceApplied Builtin.Slice.sliceFields
  refine wpAny_bind (wpAny_bind (wpAny_field hos hds (x := vl) rfl (wpAny_bind (wpAny_field hos hds (x := vu) rfl (wpAny_bind (wpAny_field hos hds (x := .none) rfl (wpAny_pure ?_)))))))
  refine wpAny_bind (slicePart_none ?_)
  show wpAny _ _ (if ((1 : Int) == 0) = true then _ else _) _ _ s
  rw [if_neg (by decide)]
  refine wpAny_bind (slicePart_of pl (wpAny_bind (slicePart_of pu (wpAny_bind (wpAny_pure ?_)))))
  show wpAny _ _ (match Builtin.Slice.sliceAdjust lo hi 1 (n : Int) with | (lo, hi) => pure (lo, (1 : Int), Builtin.Slice.slicePlaces lo hi 1)) _ _ s
  rw [e]
  show wpAny _ _ (pure ((a : Int), (1 : Int), Builtin.Slice.slicePlaces (a : Int) (b : Int) 1)) _ _ s
  have : Builtin.Slice.slicePlaces (a : Int) (b : Int) 1 = b - a := by
    unfold Builtin.Slice.slicePlaces
    have h1 : (1 : Int) > 0 := by omega
    simp only [h1, if_true, Int.ediv_one]
    split <;> omega
  rw [this]
  exact wpAny_pure h
theorem pick_cut (xs : Array Value) (a b : Nat) : ((List.range (b - a)).filterMap fun (k : Nat) => xs[((a : Int) + (k : Int) * 1).toNat]?).toArray = ((xs.toList.drop a).take (b - a)).toArray := by
  have e : (fun (k : Nat) => xs[((a : Int) + (k : Int) * 1).toNat]?) = fun k => xs[a + k]? := by
    funext k
    have : ((a : Int) + (k : Int) * 1).toNat = a + k := by omega
    rw [this]
  rw [e]
  have := pick_run xs a (b - a)
  rw [List.filterMap_map] at this
  have e2 : ((fun x => xs[x]?) ∘ fun x => a + x) = fun k => xs[a + k]? := rfl
  rw [e2] at this
  rw [this]
theorem getItem_tup_cut {t sl : Addr} {items : Array Value} {k : Nat} {vl vu : Value} {lo hi : Option Int} {a b : Nat} {Q : Value → Shared → Prop} (ht : s.heap.get? t = some (tupObj items k)) (hs : s.heap.IsSliceOf sl vl vu .none)
    (pl : IsPart vl lo) (pu : IsPart vu hi) (e : Builtin.Slice.sliceAdjust lo hi 1 (items.size : Int) = ((a : Int), (b : Int))) (hb : b ≤ items.size) (hsz : items.size ≤ sizeLine)
    (h0 : a = 0 → b - a = items.size → Q (.ref t) s)
    (h : Q (.ref s.heap.objs.size) { s with heap := s.heap.push (tupObj ((items.toList.drop a).take (b - a)).toArray 0) }) : wpAny (model prog w) A (getItem (.ref t) (.ref sl)) Q E s := by
  have hit : IsTup s.heap t items := isTup_of ht
  have hdrop : sizeOk (.seq ((items.toList.drop a).take (b - a)).toArray) := by
    show ((items.toList.drop a).take (b - a)).toArray.size ≤ sizeLine
    rw [List.size_toArray, List.length_take, List.length_drop, Array.length_toList]
    omega
  obtain ⟨os, hos, hcs, hds⟩ := id hs
  have hTs : s.TypeIs (.ref sl) "slice" := ⟨os, hos, hcs⟩
  unfold getItem
  try with_reducible refine wpAny_holding ?_
  first | refine wpAny_bind (wpAny_pure ?_) | skip
  refine wpAny_bind (wpAny_sequenceKey hit.typeIs (by decide) ?_)
  refine wpAny_bind (wpAny_callSpecial?_slot (name := Str.ofString "__getitem__") hit.typeIs slot_tuple_getitem
    (wpAny_call_entry slot_tuple_getitem hit.typeIs entry_tuple_getitem ?_ (args_tuple_getitem _ _)))
  show wpAny _ _ (Builtin.Tuple.tupleItemsOf (.ref t) >>= _) _ _ s
  refine wpAny_bind (tupleItemsOf_ hit ?_)
  refine wpAny_bind (wpAny_typeOf hTs ?_)
  rw [if_pos (by decide)]
  refine wpAny_bind (sliceApplied_of hs pl pu e ?_)
  show wpAny _ _ (if ((a : Int) == 0 && (1 : Int) == 1 && (b - a) == items.size) = true then _ else _) _ _ s
  by_cases hc : ((a : Int) == 0 && (1 : Int) == 1 && (b - a) == items.size) = true
  · rw [if_pos hc]
    simp at hc
    have hq := h0 (by omega) (by omega)
    unfold Builtin.Tuple.tupleIsExact
    refine wpAny_bind (wpAny_bind (wpAny_typeOf hit.typeIs (wpAny_pure ?_)))
    first
      | exact wpAny_bind (wpAny_rule (wpAny_pure ⟨_, rfl, wpAny_pure hq⟩))
      | exact wpAny_bind (wpAny_rule (wpAny_bind (wpAny_pure (wpAny_pure ⟨_, rfl, wpAny_pure hq⟩))))
  · rw [if_neg hc, pick_cut items a b]
    first
      | exact wpAny_bind (m := Builtin.Tuple.tupleExact _) (wpAny_newObj_type (wpAny_pure ⟨_, rfl, wpAny_pure h⟩) hdrop)
      | exact wpAny_bind (m := Builtin.Tuple.tupleExact _) (wpAny_newObj_type (wpAny_bind (wpAny_pure (wpAny_pure ⟨_, rfl, wpAny_pure h⟩))) hdrop)
      | exact wpAny_bind (wpAny_bind (m := Builtin.Tuple.tupleExact _) (wpAny_newObj_type (wpAny_pure (wpAny_pure ⟨_, rfl, wpAny_pure h⟩)) hdrop))
      | exact wpAny_bind (wpAny_bind (m := Builtin.Tuple.tupleExact _) (wpAny_newObj_type (wpAny_pure ⟨_, rfl, wpAny_pure h⟩) hdrop))
end
section
variable {cx : Cx} {F : Fm} {m : Loc} {H : AHeap} {s : Shared} {Q : Post} {X : XPost}
theorem adj_from (n : Nat) (k : Int) : Builtin.Slice.sliceAdjust (some k) none 1 (n : Int) = ((cutAt n k : Int), (n : Int)) := by
  unfold Builtin.Slice.sliceAdjust cutAt
  simp only [show ¬ ((1 : Int) < 0) by omega, if_false]
  congr 1
  split <;> split <;> omega
theorem adj_to (n : Nat) (k : Int) : Builtin.Slice.sliceAdjust none (some k) 1 (n : Int) = (((0 : Nat) : Int), (cutAt n k : Int)) := by
  unfold Builtin.Slice.sliceAdjust cutAt
  simp only [show ¬ ((1 : Int) < 0) by omega, if_false]
  congr 1
  split <;> split <;> omega

theorem repl_ints {cx : Cx} {h : Heap} : ∀ {vs : List Value} {ns : List Int}, IntsAre vs ns → RepL cx h vs (ns.map .int)
  | _, _, .nil => .nil
  | _, _, .cons _ _ r => .cons (.int _ _) (repl_ints r)
noncomputable def slObj (l u st : Value) : Obj := { cls := .type "slice", data := .fields #[l, u, st] }
theorem St.push {o : Obj} (t : St cx F m H s.heap) : St cx F m H (s.heap.push o) :=
  t.step (s := s) (s' := { s with heap := s.heap.push o }) (.grow (tk := s.toks) push_keeps fun _ _ _ e => e) (t.heap.grow push_keeps)
theorem slice_made {l u st : Value} {f : Value → Sem Value}
    (h : Ev (Rep cx) cx F (f (.ref s.heap.objs.size)) m H { s with heap := s.heap.push (slObj l u st) } Q X) : Ev (Rep cx) cx F (newFields "slice" [l, u, st] >>= f) m H s Q X := by
  refine wpAny_bind (wpAny_newObj_type ?_)
  exact h.older (.grow (tk := s.toks) push_keeps fun _ _ _ e => e)

theorem sfrom_ok {value slice : Expr} {v i : Value} {p q : PV} (hs : ∀ o i, subscripted slice false o i = operate [i, o] (getItem o i)) (rv : Rep cx s.heap v p) (ri : Rep cx s.heap i q) (t : St cx F m H s.heap) (h : FromW Q H p q) :
    Ev (Rep cx) cx F (subscriptTail value slice v (.ref s.heap.objs.size)) m H { s with heap := s.heap.push (slObj i .none .none) } Q X := by
  have hL : LIM = 1048576 := rfl
  have hL' := LIM_le
  have so : ∀ b o, s.heap.get? b = some o → Solid o → (s.heap.push (slObj i .none .none)).get? b = some o := fun b o e _ => push_keeps b o e
  have t' := t.push (o := slObj i .none .none)
  have hsl := Heap.IsSliceOf.new s.heap i .none .none
  replace rv := rv.mono so
  cases h with
  | tup h =>
    rename_i xs k
    obtain ⟨a, items, n, rfl, g, l, r⟩ := rv.tupI
    obtain ⟨u, rfl⟩ := ri.intI
    have hk := arr_len r
    refine tail_at (T := "tuple") ⟨_, g, rfl⟩ slot_tuple_getitem.lookup (getItem_tup_cut g hsl (.int _ _) .none (adj_from _ _) (Nat.le_refl _) (by omega) (fun h1 h2 => ?_) ?_) (hs _ _)
    · refine .toks s.toks (.tup (xs := _) g l r) t' ?_
      rw [← hk, h1] at h; exact h
    · refine new_tup (tk := s.toks) (c := 0) t' push_keeps (Heap.get?_push_size _ rfl) ?_ ?_ h
      · rw [List.take_of_length_le (by simp), ← hk]; exact r.drop _
      · simp; omega
  | str hz h =>
    rename_i x k
    obtain ⟨u, rfl⟩ := rv.strI
    obtain ⟨u, rfl⟩ := ri.intI
    refine tail_at (T := "str") (typeIs_str _ _ _) PySem.F.slot_str_getitem.lookup (wpAny_getItem_str_slice (l := some (k, u)) (u := none) (st := none) ⟨_, Heap.get?_push_size _ rfl, rfl, rfl⟩ rfl
      (post_val_or_str ⟨Nat.le_trans (Txt.slice_le x _ _) (by omega), fun t'' k' => ?_⟩)) (hs _ _)
    show OkG _ _ _ _ _ _ _ (Value.str (Txt.slice x (some k) none) t'') _
    rw [str_from]; exact .toks _ (.str _ _) t' h
  | list ha h =>
      obtain rfl := Rep.objI rv
      obtain ⟨u, rfl⟩ := ri.intI
      obtain ⟨items, n, g, r, l⟩ := t'.list (s := { s with heap := _ }) ha
      have hk := arr_len r
      refine tail_at (T := "list") ⟨_, g, rfl⟩ slot_list_getitem.lookup (wpAny_getItem_list_slice (isList_of g) hsl (.int _ _) .none .none (by simp) ?_ (by omega)) (hs _ _)
      refine new_list (tk := s.toks) (c := 0) t' push_keeps (get_size_none _) (Heap.get?_push_size _ rfl) ?_ ?_ h
      · rw [pick_from', hk]; exact r.drop _
      · simp; omega

theorem sto_ok {value slice : Expr} {v i : Value} {p q : PV} (hs : ∀ o i, subscripted slice false o i = operate [i, o] (getItem o i)) (rv : Rep cx s.heap v p) (ri : Rep cx s.heap i q) (t : St cx F m H s.heap) (h : ToW Q H p q) :
    Ev (Rep cx) cx F (subscriptTail value slice v (.ref s.heap.objs.size)) m H { s with heap := s.heap.push (slObj .none i .none) } Q X := by
  have hL : LIM = 1048576 := rfl
  have hL' := LIM_le
  have so : ∀ b o, s.heap.get? b = some o → Solid o → (s.heap.push (slObj .none i .none)).get? b = some o := fun b o e _ => push_keeps b o e
  have t' := t.push (o := slObj .none i .none)
  have hsl := Heap.IsSliceOf.new s.heap .none i .none
  replace rv := rv.mono so
  cases h with
  | tup h =>
    rename_i xs k
    obtain ⟨a, items, n, rfl, g, l, r⟩ := rv.tupI
    obtain ⟨u, rfl⟩ := ri.intI
    have hk := arr_len r
    have hc := cutAt_le items.size k
    refine tail_at (T := "tuple") ⟨_, g, rfl⟩ slot_tuple_getitem.lookup (getItem_tup_cut g hsl .none (.int _ _) (adj_to _ _) hc (by omega) (fun h1 h2 => ?_) ?_) (hs _ _)
    · refine .toks s.toks (.tup (xs := _) g l r) t' ?_
      rw [List.take_of_length_le (by rw [← hk]; omega)] at h; exact h
    · refine new_tup (tk := s.toks) (c := 0) t' push_keeps (Heap.get?_push_size _ rfl) ?_ ?_ h
      · rw [List.drop_zero, Nat.sub_zero, hk]; exact r.take _
      · simp; omega
  | str hz h =>
    rename_i x k
    obtain ⟨u, rfl⟩ := rv.strI
    obtain ⟨u, rfl⟩ := ri.intI
    refine tail_at (T := "str") (typeIs_str _ _ _) PySem.F.slot_str_getitem.lookup (wpAny_getItem_str_slice (l := none) (u := some (k, u)) (st := none) ⟨_, Heap.get?_push_size _ rfl, rfl, rfl⟩ rfl
      (post_val_or_str ⟨Nat.le_trans (Txt.slice_le x _ _) (by omega), fun t'' k' => ?_⟩)) (hs _ _)
    show OkG _ _ _ _ _ _ _ (Value.str (Txt.slice x none (some k)) t'') _
    rw [str_to]; exact .toks _ (.str _ _) t' h
  | fls h =>
    obtain ⟨a, items, rfl, g, ii, l⟩ := rv.flsI
    obtain ⟨u, rfl⟩ := ri.intI
    have hk := ints_len ii
    rw [Array.length_toList] at hk
    have g' := isList_up g t'.base
    refine tail_at (T := "list") g'.typeIs slot_list_getitem.lookup (wpAny_getItem_list_slice g' hsl .none (.int _ _) .none (by simp) ?_ (by omega)) (hs _ _)
    refine new_list (tk := s.toks) (c := 0) t' push_keeps (get_size_none _) (Heap.get?_push_size _ rfl) ?_ ?_ h
    · rw [pick_to', hk]; exact repl_ints (ii.take _)
    · simp; omega
  | list ha h =>
      obtain rfl := Rep.objI rv
      obtain ⟨u, rfl⟩ := ri.intI
      obtain ⟨items, n, g, r, l⟩ := t'.list (s := { s with heap := _ }) ha
      have hk := arr_len r
      refine tail_at (T := "list") ⟨_, g, rfl⟩ slot_list_getitem.lookup (wpAny_getItem_list_slice (isList_of g) hsl .none (.int _ _) .none (by simp) ?_ (by omega)) (hs _ _)
      refine new_list (tk := s.toks) (c := 0) t' push_keeps (get_size_none _) (Heap.get?_push_size _ rfl) ?_ ?_ h
      · rw [pick_to', hk]; exact r.take _
      · simp; omega
end
end Mine
end
section
open PySem PySem.Calls PyProof.Rows
namespace Mine
set_option autoImplicit false

noncomputable def Blt.val : Blt → Value
  | .len => .builtin "len" | .list => .type "list" | .tuple => .type "tuple" | .range => .type "range" | .max => .builtin "max" | .min => .builtin "min" | .int => .type "int" | .str => .type "str"
  | .all => .builtin "all" | .any => .builtin "any" | .abs => .builtin "abs"

section
variable {cx : Cx} {F : Fm} {m : Loc} {H : AHeap} {s : Shared} {Q : Post} {X : XPost}

theorem list_ok {a : Addr} {T : String} {o : Obj} {items : Array Value} {n : Nat} {xs : List PV} (hT : T = "list" ∨ T = "tuple") (g : s.heap.get? a = some o) (hc : o.cls = .type T) (hd : o.data = .seq items n) (r : RepL cx s.heap items.toList xs) (l : xs.length ≤ LIM)
    (t : St cx F m H s.heap) (h : alloc (.list xs) Q H) : Ev (Rep cx) cx F (call (.type "list") [.ref a]) m H s Q X := by
  have hk := arr_len r
  have hL' := LIM_le
  exact call_list_seq a hT g hc hd (fun h' c' gr e => new_list (tk := s.toks) t gr (get_size_none _) e r l h) (by omega)

theorem strs_of_keys {h : Heap} : ∀ {vs : List (Str × Value)} {ps : List (Str × PV)} {zs : List Value}, RepK cx h vs ps → zs.length = vs.length →
    (∀ (j : Nat) v, zs[j]? = some v → ∃ k x, vs[j]? = some (k, x) ∧ cx.sk.is k v = true) → RepL cx h zs (ps.map fun x => .str x.1)
  | _, _, [], .nil, _, _ => .nil
  | _, _, [], .cons _ _, e, _ => by simp at e
  | _, _, z :: zs, .nil, e, _ => by simp at e
  | _, _, z :: zs, .cons a r, e, f => by
    refine .cons ?_ (strs_of_keys r (by simpa using e) fun j v q => by simpa using f (j + 1) v (by simpa using q))
    obtain ⟨k, x, h1, h2⟩ := f 0 z rfl
    simp at h1
    obtain ⟨rfl, rfl⟩ := h1
    obtain ⟨t, rfl⟩ := Value.isStrOf_shape h2
    exact .str _ _

theorem bltW_to {b : Blt} {ps : List PV} (h : bltW b ps Q H) : BltW Q H b ps := h.to fun u e k => by
  unfold bltF at e
  split at e
  · unfold blt1 at e
    split at e
    · split at e <;> cases e
      · exact .lenT _ k
      · exact .tupT _ k
    · split at e <;> cases e
      exact .lenF _ k
    · split at e <;> cases e
      exact .intB _ k
    · cases e
  · unfold blt2 at e
    split at e
    · split at e
      · split at e <;> cases e
        · exact .max _ _ k
        · exact .min _ _ k
      · cases e
    · cases e
  · cases e
theorem blt_ok {b : Blt} {vs : List Value} {ps : List PV} (hh : F.A.handled = none) (r : RepL cx s.heap vs ps) (t : St cx F m H s.heap) (h : bltW b ps Q H) : Ev (Rep cx) cx F (call b.val vs []) m H s Q X := by
  have hL : LIM = 1048576 := rfl
  have hL' := LIM_le
  replace h := bltW_to h
  cases h with
  | lenT xs h =>
    obtain ⟨_, rfl, rv⟩ := r.one
    obtain ⟨a, items, n, rfl, g, l, r⟩ := rv.tupI
    have hk := arr_len r
    refine P.len_tuple g (by omega) (.toks _ ?_ t h)
    rw [hk]; exact .int _ _
  | lenS x l h =>
    obtain ⟨_, rfl, rv⟩ := r.one
    obtain ⟨u, rfl⟩ := rv.strI
    exact PyProof.Rows.len_str (by omega) (.toks _ (.int _ _) t h)
  | lenF xs h =>
    obtain ⟨_, rfl, rv⟩ := r.one
    obtain ⟨a, items, rfl, g, ii, l⟩ := rv.flsI
    have hk := ints_len ii
    rw [Array.length_toList] at hk
    refine call_len_list (isList_up g t.base) (by omega) (.toks _ ?_ t h)
    rw [hk]; exact .int _ _
  | lenL a xs ha h =>
    obtain ⟨_, rfl, rv⟩ := r.one
    obtain rfl := Rep.objI rv
    obtain ⟨items, n, g, r, l⟩ := t.list ha
    have hk := arr_len r
    refine call_len_list (isList_of g) (by omega) (.toks _ ?_ t h)
    rw [hk]; exact .int _ _
  | lenD a kvs ha h =>
    obtain ⟨_, rfl, rv⟩ := r.one
    obtain rfl := Rep.objI rv
    obtain ⟨vs, d, r, l, hn⟩ := t.dict ha
    have hk := r.length
    refine call_len_dict hn d (by omega) (.toks _ ?_ t h)
    rw [hk]; exact .int _ _
  | listT xs h =>
    obtain ⟨_, rfl, rv⟩ := r.one
    obtain ⟨a, items, n, rfl, g, l, r⟩ := rv.tupI
    exact list_ok (.inr rfl) g rfl rfl r l t h
  | listL a xs ha h =>
    obtain ⟨_, rfl, rv⟩ := r.one
    obtain rfl := Rep.objI rv
    obtain ⟨items, n, g, r, l⟩ := t.list ha
    exact list_ok (.inl rfl) g rfl rfl r l t h
  | listD a kvs ha h =>
    obtain ⟨_, rfl, rv⟩ := r.one
    obtain rfl := Rep.objI rv
    obtain ⟨vs, d, r, l, hn⟩ := t.dict ha
    obtain ⟨ep, d'⟩ := d.dictAt
    have hk := r.length
    refine PySem.W.kdl_call (PySem.W.kdl_dict (knd := cx.sk) hn) hh d' (by omega) fun h' tk acc c gr e it => ?_
    refine new_list t gr (get_size_none _) e (strs_of_keys r ?_ fun j v q => ?_) (by simpa using l) h
    · rw [Array.length_toList]; exact it.1
    · exact it.2 j v (by rw [← Array.getElem?_toList]; exact q)
  | tupT xs h =>
    obtain ⟨_, rfl, rv⟩ := r.one
    obtain ⟨a, items, n, rfl, g, l, r⟩ := rv.tupI
    exact call_tuple_same (isTuple_of g) (.toks s.toks (.tup g l r) t h)
  | tupL a xs ha h =>
    obtain ⟨_, rfl, rv⟩ := r.one
    obtain rfl := Rep.objI rv
    obtain ⟨items, n, g, r, l⟩ := t.list ha
    have hk := arr_len r
    refine call_tuple_list (isList_of g) (fun h' gr => ?_) (by omega)
    exact new_tup (tk := s.toks) (c := 0) t (fun b o e => push_keeps b o (gr b o e)) (Heap.get?_push_size _ rfl) r l h
  | range n k h =>
    obtain ⟨_, rfl, rv⟩ := r.one
    obtain ⟨u, rfl⟩ := rv.intI
    exact call_range_1 (.grow push_keeps (.rng (Heap.get?_push_size _ rfl) k) t h)
  | max a b h =>
    obtain ⟨_, _, rfl, ra, rb⟩ := r.two
    obtain ⟨u, rfl⟩ := ra.intI
    obtain ⟨v, rfl⟩ := rb.intI
    refine max_two_ints hh fun h' tk g => ?_
    refine .grow g ?_ t h
    split <;> exact .int _ _
  | min a b h =>
    obtain ⟨_, _, rfl, ra, rb⟩ := r.two
    obtain ⟨u, rfl⟩ := ra.intI
    obtain ⟨v, rfl⟩ := rb.intI
    refine min_two_ints hh fun h' tk g => ?_
    refine .grow g ?_ t h
    split <;> exact .int _ _
  | intB b h =>
    obtain ⟨_, rfl, rv⟩ := r.one
    obtain rfl := Rep.boolI rv
    exact call_int_bool (.toks _ (.int _ _) t h)
  | intI i h =>
    obtain ⟨_, rfl, rv⟩ := r.one
    obtain ⟨u, rfl⟩ := rv.intI
    exact call_int_int (.toks s.toks (.int _ _) t h)
  | strI i k h =>
    obtain ⟨_, rfl, rv⟩ := r.one
    obtain ⟨u, rfl⟩ := rv.intI
    refine P.str_of_int ?_ (.toks _ (.str _ _) t h)
    by_cases z : i.natAbs = 0
    · rw [z]; decide
    · exact Nat.lt_of_lt_of_le ((Nat.log2_lt z).mpr (Nat.lt_of_lt_of_le k (by decide : (10 : Nat) ^ 18 ≤ 2 ^ 60))) (by decide)
  | abs i h =>
    obtain ⟨_, rfl, rv⟩ := r.one
    obtain ⟨u, rfl⟩ := rv.intI
    refine call_abs_int fun u' tk => .toks _ ?_ t h
    rw [show (if i < 0 then -i else i) = (i.natAbs : Int) by split <;> omega]
    exact .int _ _
end
end Mine
end
section
open PySem PySem.Calls PyProof.Rows
namespace Mine
set_option autoImplicit false

noncomputable def ICls.T : ICls → Option String
  | .str => some "str" | .list => some "list" | .tuple => some "tuple" | .bool => some "bool" | .int => some "int" | _ => none

section
variable {cx : Cx} {F : Fm} {m : Loc} {H : AHeap} {s : Shared} {K : Bool → Prop} {X : XPost}
theorem inEmpty (h : Heap) : PySem.W.Frag.In [] h := fun _ _ e => nomatch e

theorem isiW_to {c : ICls} {p : PV} (h : isiW c p K H) : IsiW K H c p := h.to fun b e k => by
  unfold isiF at e
  split at e
  · split at e <;> cases e
    · exact .own k
    · exact .value k
  · split at e
    · split at e
      · cases e; exact .val (by assumption) (by assumption) k
      · cases e
    · cases e
theorem isi_val {c : ICls} {T : String} {v : Value} {p : PV} {n : Nat} {Q : Post} (hT : c.T = some T) (rv : Rep cx s.heap v p) (t : St cx F m H s.heap) (e : tagOf p = some n) (h : Q (.bool (c.hits n)) H) :
    Ev (Rep cx) cx F (call (.builtin "isinstance") [v, .type T]) m H s Q X := by
  cases rv <;> cases e
  · cases c <;> cases hT <;> exact PySem.W.kia_one PySem.W.kitx_none (inEmpty _) trivial (by decide +kernel) (by simp) fun tk => .toks tk (.bool _) t h
  · cases c <;> cases hT <;> exact PySem.W.kia_one PySem.W.kitx_bool (inEmpty _) trivial (by decide +kernel) (by simp) fun tk => .toks tk (.bool _) t h
  · cases c <;> cases hT <;> exact PySem.W.kia_one PySem.W.kitx_int (inEmpty _) trivial (by decide +kernel) (by simp) fun tk => .toks tk (.bool _) t h
  · cases c <;> cases hT <;> exact PySem.W.kia_one PySem.W.kitx_str (inEmpty _) trivial (by decide +kernel) (by simp) fun tk => .toks tk (.bool _) t h
  · cases c <;> cases hT <;> exact PySem.W.kia_one PySem.W.kitx_tuple (inEmpty _) ⟨_, by assumption, rfl⟩ (by decide +kernel) (by simp) fun tk => .toks tk (.bool _) t h
theorem isi_list {c : ICls} {T : String} {a : Addr} {xs : List PV} {Q : Post} (hT : c.T = some T) (t : St cx F m H s.heap) (ha : H a = some (.list xs)) (h : Q (.bool (c.hits 5)) H) :
    Ev (Rep cx) cx F (call (.builtin "isinstance") [.ref a, .type T]) m H s Q X := by
  obtain ⟨items, n, g, r, l⟩ := t.list ha
  cases c <;> cases hT <;> exact PySem.W.kia_one PySem.W.kitx_list (inEmpty _) ⟨_, g, rfl⟩ (by decide +kernel) (by simp) fun tk => .toks tk (.bool _) t h
end
end Mine
end
section
open PySem PySem.Calls PyProof.Rows
namespace Mine
set_option autoImplicit false
open SeqAt (EqAt RcAt RcNeAt)

noncomputable def Meth.id : Meth → String
  | .append => "list.append" | .pop => "list.pop" | .dpop => "dict.pop" | .insert => "list.insert" | .count => "list.count" | .join => "str.join"
noncomputable def Meth.ty : Meth → String
  | .append => "list" | .pop => "list" | .dpop => "dict" | .insert => "list" | .count => "list" | .join => "str"

section
variable {cx : Cx} {F : Fm} {m : Loc} {H : AHeap} {s : Shared} {Q : Post} {X : XPost}

theorem lst_update {h : Heap} {l : Addr} {items : Array Value} {n : Nat} (x : h.get? l = some (lstObj items n)) (f : Array Value → Array Value) :
    ∃ n', (h.update l (Obj.mapSeq f)).get? l = some (lstObj (f items) n') := ⟨_, Heap.get?_update_self _ x rfl⟩
theorem upd_keeps {h : Heap} {l : Addr} {f : Obj → Obj} : ∀ b o, b ≠ l → h.get? b = some o → (h.update l f).get? b = some o := fun _ _ n e => (Heap.get?_update_other h f (Ne.symm n)).trans e

/-- a list's row put anew -/
theorem put_list {α β : Type} {R : Heap → α → β → Prop} {Q : β → AHeap → Prop} {l : Addr} {items : Array Value} {n : Nat} {xs ys : List PV} {f : Array Value → Array Value} {v : α} {p : β} {tk : Nat} (t : St cx F m H s.heap) (ha : H l = some (.list xs)) (g : s.heap.get? l = some (lstObj items n))
    (r : RepL cx s.heap (f items).toList ys) (ly : ys.length ≤ LIM) (rv : ∀ h', (∀ b o, s.heap.get? b = some o → Solid o → h'.get? b = some o) → R h' v p) (q : Q p (upd H l (.list ys))) :
    OkG R cx F m H s Q v { s with heap := s.heap.update l (Obj.mapSeq f), toks := tk } := by
  have so : ∀ b o, s.heap.get? b = some o → Solid o → (s.heap.update l (Obj.mapSeq f)).get? b = some o := fun b o e so => upd_keeps b o (by
    rintro rfl; rw [g] at e; cases e
    rcases so with ⟨i, n, q⟩ | ⟨n, t, u, v, q⟩ | ⟨⟨C, q⟩, _⟩ <;> simp [lstObj, tupObj, rngObj] at q) e
  obtain ⟨n', g'⟩ := lst_update g f
  have ro : RepO cx (s.heap.update l (Obj.mapSeq f)) l (.list ys) := ⟨f items, n', g', r.mono so, ly⟩
  exact .put ha upd_keeps (rv _ so) ro t q

theorem bools_rep {h : Heap} : ∀ {vs : List Value} {bs : List Bool}, RepL cx h vs (bs.map .bool) → vs = bs.map .bool
  | _, [], r => by cases r; rfl
  | _, b :: bs, r => by
    cases r with
    | cons a r => rw [a.boolI, bools_rep r]; rfl
theorem strs_rep {h : Heap} : ∀ {vs : List Value} {ss : List Str}, RepL cx h vs (ss.map .str) → StrsAre vs ss
  | _, [], r => by cases r; exact .nil
  | _, b :: bs, r => by
    cases r with
    | cons a r => obtain ⟨t, rfl⟩ := a.strI; exact .cons _ _ (strs_rep r)

noncomputable def isB (b : Bool) : Value → Bool
  | .bool c => c == b
  | _ => false
theorem count_isB (b : Bool) : ∀ bs : List Bool, (bs.map Value.bool).countP (isB b) = bs.count b
  | [] => rfl
  | c :: bs => by rw [List.map_cons, List.countP_cons, count_isB b bs, List.count_cons]; rfl

theorem meth_ok {k : Meth} {v : Value} {p : PV} {vs : List Value} {ps : List PV} (rv : Rep cx s.heap v p) (r : RepL cx s.heap vs ps) (t : St cx F m H s.heap) (h : methW k p ps Q H) : Ev (Rep cx) cx F (call (.builtin k.id) (v :: vs) []) m H s Q X := by
  have hL : LIM = 1048576 := rfl
  have hL' := LIM_le
  cases h with
  | append a xs x ha hlt h =>
    obtain ⟨_, rfl, rx⟩ := r.one
    (first | (obtain ⟨_, rfl⟩ := Rep.intI rv) | (obtain ⟨_, rfl⟩ := Rep.strI rv) | (obtain rfl := Rep.objI rv) | (obtain rfl := Rep.boolI rv) | (obtain rfl := Rep.noneI rv))
    obtain ⟨items, n, g, r, l⟩ := t.list ha
    have hk := arr_len r
    refine call_meets PySem.F.slot_list_append ⟨_, g, rfl⟩ PySem.F.entry_list_append (PySem.F.args_list_append_2 _ _) (list_append _ items n _ (by omega)) ⟨g, ?_⟩
    exact put_list (R := Rep cx) (f := fun xs => xs.push _) t ha g (by simpa using r.append (.cons rx .nil)) (by simp; omega) (fun _ _ => .none) (mutate_use h)
  | pop a ys x ha h =>
    obtain rfl := r.zero
    (first | (obtain ⟨_, rfl⟩ := Rep.intI rv) | (obtain ⟨_, rfl⟩ := Rep.strI rv) | (obtain rfl := Rep.objI rv) | (obtain rfl := Rep.boolI rv) | (obtain rfl := Rep.noneI rv))
    obtain ⟨items, n, g, r, l⟩ := t.list ha
    have hk := arr_len r
    simp only [List.length_append, List.length_cons, List.length_nil] at hk l
    obtain ⟨y, hy, ry⟩ := r.get (i := ys.length) (p := x) (by simp)
    rw [Array.getElem?_toList] at hy
    refine call_meets PySem.F.slot_list_pop ⟨_, g, rfl⟩ PySem.F.entry_list_pop (PySem.F.args_list_pop_1 _) (MeetsSeq.list_pop_last _ items n y (by rw [hk]; simpa using hy) (by omega)) ⟨g, ?_⟩
    refine put_list (R := Rep cx) (f := fun xs => xs.eraseIdxIfInBounds (items.size - 1)) t ha g ?_ (by omega) (fun _ so => ry.mono so) (mutate_use h)
    have e : (items.eraseIdxIfInBounds (items.size - 1)).toList = items.toList.take ys.length := by
      rw [Array.toList_eraseIdxIfInBounds, hk]
      rw [List.eraseIdx_eq_take_drop_succ]
      simp [List.drop_eq_nil_of_le, hk]
    rw [e]
    have := r.take ys.length
    simpa using this
  | insert a xs i x ha h0 h1 h2 h =>
    obtain ⟨_, _, rfl, ri, rx⟩ := r.two
    (first | (obtain ⟨_, rfl⟩ := Rep.intI rv) | (obtain ⟨_, rfl⟩ := Rep.strI rv) | (obtain rfl := Rep.objI rv) | (obtain rfl := Rep.boolI rv) | (obtain rfl := Rep.noneI rv))
    obtain ⟨u, rfl⟩ := ri.intI
    obtain ⟨items, n, g, r, l⟩ := t.list ha
    have hk := arr_len r
    refine call_meets PySem.F.slot_list_insert ⟨_, g, rfl⟩ PySem.F.entry_list_insert (PySem.F.args_list_insert_3 _ _ _) (AutoSeq1.list_insert_list_int_val_1 _ items n _ u _ ?_ (by omega)) ⟨g, ?_⟩
    · unfold Builtin.List.listFitsIndex
      simp
      omega
    refine put_list (R := Rep cx) (f := fun xs => have k := if i < 0 then (i + (xs.size : Int)).toNat else min i.toNat xs.size; (xs.extract 0 k).push _ ++ xs.extract k) t ha g ?_ (by simp; omega) (fun _ _ => .none) (mutate_use h)
    have e : (if i < 0 then (i + (items.size : Int)).toNat else min i.toNat items.size) = i.toNat := by rw [if_neg (by omega)]; omega
    simp only [e]
    simp only [Array.toList_append, Array.toList_push, Array.toList_extract, List.extract_eq_take_drop]
    simp only [Nat.sub_zero, List.drop_zero, List.append_assoc, List.singleton_append]
    rw [show (List.drop i.toNat items.toList).take (items.size - i.toNat) = List.drop i.toNat items.toList by rw [List.take_of_length_le]; simp]
    exact (r.take _).append (.cons rx (r.drop _))
  | count a bs b ha h =>
    obtain ⟨_, rfl, rx⟩ := r.one
    (first | (obtain ⟨_, rfl⟩ := Rep.intI rv) | (obtain ⟨_, rfl⟩ := Rep.strI rv) | (obtain rfl := Rep.objI rv) | (obtain rfl := Rep.boolI rv) | (obtain rfl := Rep.noneI rv)); (first | (obtain ⟨_, rfl⟩ := Rep.intI rx) | (obtain ⟨_, rfl⟩ := Rep.strI rx) | (obtain rfl := Rep.objI rx) | (obtain rfl := Rep.boolI rx) | (obtain rfl := Rep.noneI rx))
    obtain ⟨items, n, g, r, l⟩ := t.list ha
    have hv := bools_rep r
    refine call_meets PySem.F.slot_list_count ⟨_, g, rfl⟩ PySem.F.entry_list_count (PySem.F.args_list_count_2 _ _) (SeqAt.list_countAt _ items n none #[] (.bool b) (isB b)) ⟨g, fun y hy => ?_, ?_⟩
    · have : y ∈ bs.map Value.bool := by rw [← hv]; simpa using hy
      obtain ⟨c, _, rfl⟩ := List.mem_map.mp this
      exact EqAt.bool_bool c b
    · rw [hv, count_isB]
      exact .toks _ (.int _ _) t h
  | join sep a ss ha h0 hs h =>
    obtain ⟨_, rfl, rx⟩ := r.one
    obtain ⟨u, rfl⟩ := rv.strI
    (first | (obtain ⟨_, rfl⟩ := Rep.intI rx) | (obtain ⟨_, rfl⟩ := Rep.strI rx) | (obtain rfl := Rep.objI rx) | (obtain rfl := Rep.boolI rx) | (obtain rfl := Rep.noneI rx))
    obtain ⟨items, n, g, r, l⟩ := t.list ha
    refine join_list (isList_of g) (strs_rep r) (by rw [h0]; omega) fun t' k => ?_
    rw [show Txt.join _ ss = Str.join _ ss from StrLaws.glued_eq_join _ _]
    exact .toks _ (.str _ _) t h
end
end Mine
end
section
open PySem PySem.Calls PyProof.Rows
namespace Mine
set_option autoImplicit false

section
variable {prog : Program} {w : World} {A : Around} {E : Value → Shared → Prop} {s : Shared}
theorem set_lst0 {l : Addr} {items : Array Value} {n : Nat} {k : Int} {t : Tok} {v : Value} {Q : Unit → Shared → Prop} (g : s.heap.get? l = some (lstObj items n))
    (h0 : 0 ≤ k) (hfit : k < 2 ^ 63) (hn : k < items.size) (hQ : Q () { s with heap := s.heap.update l (Obj.mapSeq (·.setIfInBounds k.toNat v)) }) :
    wpAny (model prog w) A (setItem (.ref l) (.int k t) v) Q E s := by
  have hl := isList_of g
  unfold setItem
  try with_reducible refine wpAny_holding ?_
  first | refine wpAny_bind (wpAny_pure ?_) | skip
  refine wpAny_bind (wpAny_sequenceKey hl.typeIs (by decide) ?_)
  refine wpAny_bind (wpAny_callSpecial?_slot (name := Str.ofString "__setitem__") hl.typeIs slot_list_setitem
    (wpAny_call_entry slot_list_setitem hl.typeIs entry_list_setitem ?_ (args_list_setitem _ _ _)))
  show wpAny _ _ (Builtin.List.listSubscript? (.int k t) >>= _) _ _ s
  refine wpAny_bind (wpAny_listSubscript_int (fitsIndex_of h0 hfit) ?_)
  clear hfit
  obtain ⟨j, rfl⟩ := Int.eq_ofNat_of_zero_le h0
  have hn : j < items.size := by omega
  show wpAny _ _ ((seqItemAt l j >>= fun r => pure (r.map (j, ·))) >>= _) _ _ s
  refine wpAny_bind (wpAny_bind (wpAny_seqItemAt g rfl (wpAny_pure ?_)))
  rw [show items[j]? = some items[j] from Array.getElem?_eq_getElem hn]
  show wpAny _ _ (setSeqItemAt l j v >>= _) _ _ s
  refine wpAny_bind (wpAny_setSeqItemAt g rfl ?_)
  first
    | exact wpAny_bind (wpAny_pure (wpAny_pure ⟨.none, rfl, wpAny_pure hQ⟩))
    | exact wpAny_pure ⟨.none, rfl, wpAny_pure hQ⟩
end

section
variable {cx : Cx} {F : Fm} {m : Loc} {H : AHeap} {s : Shared} {Q : Post} {X : XPost}

theorem RepK.any {h : Heap} {k : Str} : ∀ {vs : List (Str × Value)} {ps : List (Str × PV)}, RepK cx h vs ps → vs.any (fun kv => decide (kv.1 = k)) = ps.any (fun kv => decide (kv.1 = k))
  | _, _, .nil => rfl
  | _, _, .cons _ r => by simp only [List.any_cons]; rw [RepK.any r]
theorem RepK.map {h : Heap} {k : Str} {v : Value} {p : PV} (r : Rep cx h v p) : ∀ {vs : List (Str × Value)} {ps : List (Str × PV)}, RepK cx h vs ps →
    RepK cx h (vs.map fun kv => if kv.1 = k then (kv.1, v) else kv) (ps.map fun kv => if kv.1 = k then (kv.1, p) else kv)
  | _, _, .nil => .nil
  | _, _, .cons (k := k') a rs => by
    simp only [List.map_cons]
    by_cases q : k' = k
    · simp only [q, if_true]; exact .cons r (RepK.map r rs)
    · simp only [q, if_false]; exact .cons a (RepK.map r rs)
theorem RepK.snoc {h : Heap} {k : Str} {v : Value} {p : PV} (r : Rep cx h v p) : ∀ {vs : List (Str × Value)} {ps : List (Str × PV)}, RepK cx h vs ps → RepK cx h (vs ++ [(k, v)]) (ps ++ [(k, p)])
  | _, _, .nil => .cons r .nil
  | _, _, .cons a rs => .cons a (RepK.snoc r rs)
theorem RepK.dset {h : Heap} {k : Str} {v : Value} {p : PV} {vs : List (Str × Value)} {ps : List (Str × PV)} (rs : RepK cx h vs ps) (r : Rep cx h v p) : RepK cx h (stored vs k v) (dset ps k p) := by
  unfold stored Mine.dset
  rw [RepK.any rs]
  split
  · exact RepK.map r rs
  · exact RepK.snoc r rs
theorem dset_length_le {α : Type} (kvs : List (Str × α)) (k : Str) (v : α) : (dset kvs k v).length ≤ kvs.length + 1 := by
  unfold dset; split <;> simp

theorem SameBut.keeps {h h' : Heap} {a : Addr} (x : Heap.SameBut a h h') : ∀ b o, b ≠ a → h.get? b = some o → h'.get? b = some o := fun b o n e => by
  have := x.2 b n
  rw [this]; exact e

theorem store_ok {v i x : Value} {p q y : PV} {K : AHeap → Prop} (rv : Rep cx s.heap v p) (ri : Rep cx s.heap i q) (rx : Rep cx s.heap x y) (t : St cx F m H s.heap) (h : StoreW K H p q y) :
    Ev (fun _ (_ : Unit) (_ : Unit) => True) cx F (setItem v i x) m H s (fun _ H => K H) X := by
  have hL : LIM = 1048576 := rfl
  have hL' := LIM_le
  cases h with
  | list ha h0 h1 h =>
    rename_i a xs k
    obtain rfl := Rep.objI rv
    obtain ⟨u, rfl⟩ := ri.intI
    obtain ⟨items, n, g, r, l⟩ := t.list ha
    have hk := arr_len r
    refine set_lst0 g h0 (by omega) (by omega) ?_
    exact put_list (p := ()) (tk := s.toks) (f := (·.setIfInBounds k.toNat x)) t ha g (by simpa using r.set k.toNat rx) (by simp; omega) (fun _ _ => trivial) (mutate_use h)
  | dict ha h1 h =>
    rename_i a kvs k
    obtain rfl := Rep.objI rv
    obtain ⟨u, rfl⟩ := ri.strI
    obtain ⟨vs, d, r, l, hn⟩ := t.dict ha
    have hk := r.length
    refine wpAny_setItem_pairs (knd := cx.sk) (k := k) (by simp [Cx.sk, PySem.strKind, Value.isStrOf]) d (fun h' d' sb => ?_) (by omega)
    have hs := SameBut.keeps sb
    have so : ∀ b o, s.heap.get? b = some o → Solid o → h'.get? b = some o := fun b o e so => hs b o (by
      rintro rfl
      obtain ⟨ob, e', n, _⟩ := (t.heap _ _ ha).get; rw [e] at e'; cases e'; exact n so) e
    have ro : RepO cx h' a (.dict (dset kvs k y)) := ⟨_, d', (r.dset rx).mono so, Nat.le_trans (dset_length_le ..) (by omega), hn⟩
    exact .put (b := ()) ha hs trivial ro t (mutate_use h)
  | tape ha h0 h =>
    rename_i a n0 j
    obtain rfl := Rep.objI rv
    obtain ⟨u, rfl⟩ := ri.intI
    obtain ⟨u', rfl⟩ := rx.intI
    obtain ⟨tt, n, g⟩ := t.heap _ _ ha
    obtain ⟨j, rfl⟩ := Int.eq_ofNat_of_zero_le h0
    refine set_lst0 g (by omega) (by omega) (by simp) ?_
    obtain ⟨n', g'⟩ := lst_update g (·.setIfInBounds 0 (.int j u'))
    have ro : RepO cx (s.heap.update a (Obj.mapSeq (·.setIfInBounds 0 (.int j u')))) a (.tape j) := ⟨u', n', by simpa using g'⟩
    exact .put (b := ()) (tk := s.toks) ha upd_keeps trivial ro t (mutate_use h)
end
end Mine
end
section
open PySem PySem.Calls PyProof.Rows
namespace Mine
set_option autoImplicit false

/-! static facts -/
abbrev Kd := Str → Option NameKind
noncomputable def onms : List (Str × Nat) := [("StackError", 0), ("Empty", 1), ("WrongKind", 2), ("NoBlock", 3), ("Apart", 4)]
noncomputable def onm (x : Str) : Option Nat := onms.lookup x
noncomputable def relab (kd : Kd) (sc : Scope) : Kd := fun x => (sc.names.map fun (n, k) => if (k == .free && kd n == some .cell) then (n, .cell) else (n, k)).lookup x
noncomputable def isVar (kd : Kd) (x : Str) : Bool := kd x == some .local || kd x == some .cell || kd x == some .free
noncomputable def isGlob (kd : Kd) (x : Str) : Bool := kd x == some .globalImplicit && !(x == ("__debug__" : Str))
noncomputable def visC (kd' : Kd) (nm : List Str) (vis : Nat → Bool) (x : Nat) : Nat → Bool := fun i => i == x || (vis i && (kd' (slot nm i) == some .cell || kd' (slot nm i) == some .free))
noncomputable def scOk (kd kd' : Kd) (sc : Scope) (x : Str) : Bool := decide (sc.kind = .function) && !sc.isGenerator && !sc.isCoroutine && sc.names.all (fun p => p.2 != .cell) && sc.names.all (fun p => p.2 != .local || sc.names.lookup p.1 == some .local)
  && sc.names.all (fun p => p.2 != .free || kd p.1 == some .cell || kd p.1 == some .free) && kd' x == some .local && !(x == ("__debug__" : Str))
noncomputable def blbase : AE → Bool
  | .call _ .nil _ _ => false
  | .blt _ .nil _ _ => false
  | _ => true
noncomputable def iclsOk (kd : Kd) : ICls → Bool
  | .str => isGlob kd "str" | .list => isGlob kd "list" | .tuple => isGlob kd "tuple" | .bool => isGlob kd "bool" | .int => isGlob kd "int"
  | .intstr => isGlob kd "int" && isGlob kd "str" | .value => isGlob kd "ValueError" | .own c x => isGlob kd x && onm x == some c
noncomputable def AEs.len : AEs → Nat
  | .nil => 0
  | .cons _ es => es.len + 1
noncomputable def AEs.lits : AEs → Bool
  | .nil => true
  | .cons (.lit _ _ _) es => es.lits
  | .cons _ _ => false
section
variable (fl : List Str) (nm : List Str)
mutual
noncomputable def okE (q : Bool) (vis : Nat → Bool) (kd : Kd) : AE → Bool
  | .lit _ _ _ => true
  | .var i _ => vis i && isVar kd (slot nm i) && !(slot nm i == ("__debug__" : Str)) && !(slot nm i == ("__classdict__" : Str))
  | .glob x _ => isGlob kd x
  | .bin l _ r _ => okE q vis kd l && okE q vis kd r
  | .neg e _ => okE q vis kd e
  | .not e _ => okE q vis kd e
  | .bop _ es _ => okEs q vis kd es
  | .cmp l _ r _ => okE q vis kd l && okE q vis kd r
  | .sub e i _ => okE q vis kd e && okE q vis kd i
  | .sfrom e i _ _ => okE q vis kd e && okE q vis kd i
  | .sto e i _ _ => okE q vis kd e && okE q vis kd i
  | .srev _ _ _ _ _ => false
  | .tup es _ _ => okEs q vis kd es && decide (es.len ≤ 100)
  | .list es _ => okEs q vis kd es && decide (es.len ≤ 100)
  | .tape _ _ => true
  | .dict ks vs _ => vs.lits && decide (ks.length = vs.len) && decide (vs.len ≤ 15)
  | .call f es _ _ => q && isGlob kd f && fl.contains f && okEs q vis kd es
  | .blt b es _ _ => q && isGlob kd b.name && okEs q vis kd es
  | .isi e c _ _ _ _ _ => isGlob kd "isinstance" && iclsOk kd c && okE q vis kd e
  | .meth o _ es pa p => okE q vis kd o && okEs q vis kd es && (pa.endLine == p.line) && decide (es.len ≤ 3) && blbase o
  | .umeth _ _ _ _ _ _ => false
  | .attr _ _ _ => false
  | .comp e x _ it cs sc _ => okE q vis kd it && scOk kd (relab kd sc) sc (slot nm x) && okE q (visC (relab kd sc) nm vis x) (relab kd sc) e && okEs q (visC (relab kd sc) nm vis x) (relab kd sc) cs && decide (cs.len ≤ 1) && q
noncomputable def okEs (q : Bool) (vis : Nat → Bool) (kd : Kd) : AEs → Bool
  | .nil => true
  | .cons e es => okE q vis kd e && okEs q vis kd es
end
end

structure Fok (cx : Cx) (n : Nat) (q : Bool) (kd : Kd) (F : Fm) : Prop where
  fr : F.A.frames = some F.fs
  kind : F.env.scope.kind = .function
  kdo : F.env.kindOf = kd
  glob : F.env.globals = cx.ga
  bltn : F.env.builtins = cx.ba
  quiet : q = true → F.A.handled = none
  depth : F.A.depth + n ≤ 900
  units : F.A.units + 4 * n + 200 ≤ cLine
  cells : ∀ x, (kd x = some .cell ∨ kd x = some .free) → ∃ c, F.env.cells.lookup x = some c
  apart : ∀ x y c, F.env.cells.lookup x = some c → F.env.cells.lookup y = some c → x = y
  inj : ∀ i j, F.vis i = true → F.vis j = true → slot F.nm i = slot F.nm j → i = j

structure Cok (cx : Cx) (g : Gl) (fl : List Str) (mg mb : Str → Option Value) (n : Nat) : Prop where
  gns : cx.B.Ns cx.ga mg
  mods : ∃ a o, sysModules < a ∧ cx.B.get? a = some o
  bns : cx.B.Ns cx.ba mb
  consts : ∀ x p, g.G x = some p → ∃ v, mg x = some v ∧ Rep cx cx.B v p
  blts : ∀ b : Blt, mg b.name = none ∧ mb b.name = some b.val
  isi : mg "isinstance" = none ∧ mb "isinstance" = some (.builtin "isinstance")
  bty : ∀ T ∈ ["str", "list", "tuple", "bool", "int", "ValueError"], mg (Str.ofString T) = none ∧ mb (Str.ofString T) = some (.type T)
  own : ∀ x c, onm x = some c → ∃ C, cx.cls c = some C ∧ mg x = some (.ref C)
  isx : ∀ {F : Fm} {m : Loc} {H : AHeap} {s : Shared} {Q : Post} {X : XPost} {e : Value} {k c : Nat} {C : Addr}, Rep cx s.heap e (.exc k) → St cx F m H s.heap → cx.cls c = some C → Q (.bool (isSub k c)) H →
    Ev (Rep cx) cx F (call (.builtin "isinstance") [e, .ref C]) m H s Q X
  isv : ∀ {F : Fm} {m : Loc} {H : AHeap} {s : Shared} {Q : Post} {X : XPost} {e : Value} {k : Nat}, Rep cx s.heap e (.exc k) → St cx F m H s.heap → Q (.bool true) H →
    Ev (Rep cx) cx F (call (.builtin "isinstance") [e, .type "ValueError"]) m H s Q X
  rais : ∀ {F : Fm} {kd : Kd} {m : Loc} {H : AHeap} {s : Shared} {c : Nat} {x msg : Str} {k : Nat} {pc pm pk p : Pos} {QQ : Flow → Shared → Prop} {E : Value → Shared → Prop}, Fok cx n true kd F → isGlob kd x = true → onm x = some c → St cx F m H s.heap →
    (∀ e s', Exc cx F.env.frame s.heap s'.heap e c → St cx F m H s'.heap → Kp cx [] H s H s' → E (.ref e) s') → wpAny cx.M F.A (exec (.Raise (some (.Call (.Name x pc) [.Constant (.str msg) k pm] [] pk)) none p) F.env) QQ E s
  mats : ∀ {A : Around} {s : Shared} {e : Value} {k c : Nat} {C : Addr} {QQ : Bool → Shared → Prop} {E : Value → Shared → Prop}, cx.B.StaysIn s.heap → Rep cx s.heap e (.exc k) → cx.cls c = some C → (∀ tk, QQ (isSub k c) { s with toks := tk }) → wpAny cx.M A (excMatches e (.ref C)) QQ E s
  fns : ∀ f, fl.contains f = true → ∃ a o fd, mg f = some (.ref a) ∧ cx.B.get? a = some o ∧ o.data = .func fd
  calls : ∀ f, fl.contains f = true → ∀ {ps : List PV} {H : AHeap} {Q : Post} {X : XPost}, g.C f ps H Q X → ∀ {F : Fm} {kd : Kd} {m : Loc} {s : Shared} {vs : List Value} {a : Addr}, Fok cx n true kd F → mg f = some (.ref a) →
    RepL cx s.heap vs ps → St cx F m H s.heap → Ev (Rep cx) cx F (call (.ref a) vs []) m H s Q X
end Mine
end
section
open PySem PySem.Calls PyProof.Rows
namespace Mine
set_option autoImplicit false

section
variable {cx : Cx} {F : Fm} {m : Loc} {H H' : AHeap} {s s' : Shared} {I : Addr}

/-- nothing but I's record changes -/
noncomputable def Tch (I : Addr) (s s' : Shared) : Prop := ∃ h' tk, s' = { s with heap := h', toks := tk } ∧ ∀ b o, b ≠ I → s.heap.get? b = some o → h'.get? b = some o
noncomputable def Clean (cx : Cx) (H : AHeap) (h : Heap) (I : Addr) : Prop := H I = none ∧ cx.B.get? I = none ∧ ∃ o T vs, h.get? I = some o ∧ o.cls = .type T ∧ T ≠ "range" ∧ o.data = .fields vs

theorem notSolid_of {o : Obj} {T : String} {vs : Array Value} (hc : o.cls = .type T) (hT : T ≠ "range") (hd : o.data = .fields vs) : ¬ Solid o := by
  rintro (⟨i, n, rfl⟩ | ⟨n, t, u, v, rfl⟩ | ⟨⟨C, q⟩, _⟩)
  · cases hd
  · simp [rngObj] at hc; exact hT hc.symm
  · rw [hc] at q; cases q

theorem Holds.keepBut {h h' : Heap} (k : Holds cx h H) (hI : H I = none) (g : ∀ b o, b ≠ I → h.get? b = some o → h'.get? b = some o) (ns : ∀ o, h.get? I = some o → ¬ Solid o) : Holds cx h' H := fun b x e => by
  have q : b ≠ I := by rintro rfl; rw [hI] at e; cases e
  have r := k b x e
  have so : ∀ b o, h.get? b = some o → Solid o → h'.get? b = some o := fun b o e s => g b o (by rintro rfl; exact ns o e s) e
  cases x with
  | list xs => obtain ⟨items, n, e, r, l⟩ := r; exact ⟨items, n, g _ _ q e, r.mono so, l⟩
  | tape k => obtain ⟨t, n, e⟩ := r; exact ⟨t, n, g _ _ q e⟩
  | dict kvs => obtain ⟨vs, d, r, l⟩ := r; exact ⟨vs, (let ⟨o, es, ep, ho, y⟩ := d; ⟨o, es, ep, g _ _ q ho, y⟩), r.mono so, l⟩
  | inst c d => obtain ⟨C, x, e⟩ := r; exact ⟨C, x, g _ _ q e⟩

theorem St.touch {h h' : Heap} (t : St cx F m H h) (c : Clean cx H h I) (k : ∀ b o, b ≠ I → h.get? b = some o → h'.get? b = some o) : St cx F m H h' := by
  obtain ⟨hI, hB, oI, T, vs, gI, hc, hT, hd⟩ := c
  have ns : ∀ o, h.get? I = some o → ¬ Solid o := fun o e => by rw [gI] at e; cases e; exact notSolid_of hc hT hd
  have so : ∀ b o, h.get? b = some o → Solid o → h'.get? b = some o := fun b o e s => k b o (by rintro rfl; exact ns o e s) e
  have nd : ∀ b o es ep, h.get? b = some o → o.data = .dict es ep → b ≠ I := fun b o es ep e q => by rintro rfl; rw [gI] at e; cases e; rw [hd] at q; cases q
  refine ⟨fun b o e => k b o (by rintro rfl; rw [hB] at e; cases e) (t.base b o e), t.off, t.heap.keepBut hI k ns, fun env he => ?_, t.own, ?_, fun n c hc' => ?_⟩
  · obtain ⟨hk, L, o, es, ep, hf, hH, hb, ho, hd'⟩ := t.frames env he
    exact ⟨hk, L, o, es, ep, hf, hH, hb, k L o (nd L o es ep ho hd') ho, hd'⟩
  · obtain ⟨o, es, ep, mc, ho, hd', ⟨o1, es1, ep1, ho1, hd1, hk1, hm1⟩, hv⟩ := t.vars
    have n := nd _ o es ep ho hd'
    exact ⟨o, es, ep, mc, k _ o n ho, hd', ⟨o1, es1, ep1, k _ o1 n ho1, hd1, hk1, hm1⟩, fun i v h1 h2 h3 => let ⟨x, q, r⟩ := hv i v h1 h2 h3; ⟨x, q, r.mono so⟩⟩
  · obtain ⟨h1, h2, o, x, ho, hd', hv⟩ := t.cells n c hc'
    exact ⟨h1, h2, o, x, k c o (by rintro rfl; rw [gI] at ho; cases ho; rw [hd] at hd'; cases hd') ho, hd', fun i v a b c d => let ⟨y, q, r⟩ := hv i v a b c d; ⟨y, q, r.mono so⟩⟩

theorem Kp.touch {S : List Addr} {H₁ : AHeap} {s₁ s₂ : Shared} (k : Kp cx S H s H₁ s₁) (f : s.heap.get? I = none) (tc : Tch I s₁ s₂) (hB : cx.B.get? I = none) : Kp cx S H s H₁ s₂ := by
  obtain ⟨h', tk, rfl, g⟩ := tc
  have n : ∀ b o, s.heap.get? b = some o → b ≠ I := fun b o e => by rintro rfl; rw [f] at e; cases e
  refine ⟨?_, fun b o e hS hH => ?_, fun b o e => ?_, fun b o e e' => ?_⟩
  · obtain ⟨h, t, rfl⟩ := k.same; exact ⟨h', tk, rfl⟩
  · obtain ⟨h1, o', e', sm⟩ := k.keep b o e hS hH; exact ⟨h1, o', g b o' (n b o e) e', sm⟩
  · obtain ⟨o', e'⟩ := k.alive b o e; exact ⟨o', g b o' (n b o e) e'⟩
  · exact g b o (by rintro rfl; rw [hB] at e; cases e) (k.base b o e e')

noncomputable def Src (p : PV) (xs : List PV) (H : AHeap) : Prop :=
  match p with
  | .obj a => H a = some (.list xs)
  | _ => True
noncomputable def Itr (cx : Cx) (h : Heap) (I : Addr) (i : Nat) (xs : List PV) : PV → Prop
  | .obj a => h.IsListIter I a i ∧ a ≠ I
  | .tup _ => ∃ t items n, h.IsTupleIter I t i ∧ h.get? t = some (tupObj items n) ∧ RepL cx h items.toList xs ∧ t ≠ I
  | .rng n => IsRangeIter h I i ((n.toNat : Int) - i) 1 ∧ xs = (List.range n.toNat).map fun i => .int i
  | _ => False

theorem Itr.clean {h : Heap} {i : Nat} {xs : List PV} {p : PV} (it : Itr cx h I i xs p) : ∃ o T vs, h.get? I = some o ∧ o.cls = .type T ∧ T ≠ "range" ∧ o.data = .fields vs := by
  cases p <;> try exact it.elim
  · obtain ⟨t, items, n, ⟨o, ho, hc, hd⟩, _⟩ := it; exact ⟨o, _, _, ho, hc, by decide, hd⟩
  · obtain ⟨⟨o, ho, hc, hd⟩, _⟩ := it; exact ⟨o, _, _, ho, hc, by decide, hd⟩
  · exact ⟨_, _, _, it.1, rfl, by decide, rfl⟩
theorem Itr.keep {h h' : Heap} {i : Nat} {xs : List PV} {p : PV} (it : Itr cx h I i xs p) (so : ∀ b o, h.get? b = some o → Solid o → h'.get? b = some o) (kI : ∀ o, h.get? I = some o → h'.get? I = some o) : Itr cx h' I i xs p := by
  cases p <;> try exact it.elim
  · obtain ⟨t, items, n, ⟨o, ho, hc, hd⟩, ht, r, ne⟩ := it
    exact ⟨t, items, n, ⟨o, kI o ho, hc, hd⟩, so _ _ ht (.inl ⟨_, _, rfl⟩), r.mono so, ne⟩
  · obtain ⟨⟨o, ho, hc, hd⟩, ne⟩ := it
    exact ⟨⟨o, kI o ho, hc, hd⟩, ne⟩
  · exact ⟨kI _ it.1, it.2⟩

theorem itemsW_to {p : PV} {K : List PV → (AHeap → Prop) → Prop} (h : itemsW p K H) : ItemsW K H p := h.to fun xs e k => by
  unfold itemsF at e
  split at e <;> cases e
  · exact .tup k
  · exact .rng k
theorem iter_ok {v : Value} {p : PV} {K : List PV → (AHeap → Prop) → Prop} {Q : Value → Shared → Prop} {E : Value → Shared → Prop} (rv : Rep cx s.heap v p) (t : St cx F m H s.heap) (h : itemsW p K H)
    (hQ : ∀ I xs h', s.heap.get? I = none → (∀ b o, s.heap.get? b = some o → h'.get? b = some o) → Itr cx h' I 0 xs p → Clean cx H h' I → Src p xs H → xs.length ≤ LIM → K xs (Src p xs) → Q (.ref I) { s with heap := h' }) :
    wpAny cx.M F.A (pyIter v) Q E s := by
  have hL : LIM = 1048576 := rfl
  have fr := get_size_none s.heap
  have hH : H s.heap.objs.size = none := t.heap.fresh fr
  have hB : cx.B.get? s.heap.objs.size = none := by
    cases e : cx.B.get? s.heap.objs.size with
    | none => rfl
    | some o => have := t.base _ _ e; rw [fr] at this; cases this
  replace h := itemsW_to h
  cases h with
  | tup h =>
    obtain ⟨a, items, n, rfl, g, l, r⟩ := rv.tupI
    refine wpAny_pyIter_tuple (isTuple_of g) (hQ _ _ _ fr push_keeps ⟨a, items, n, ⟨_, Heap.get?_push_size _ rfl, rfl, rfl⟩, push_keeps _ _ g, r.mono fun b o e _ => push_keeps b o e, ?_⟩ ⟨hH, hB, _, _, _, Heap.get?_push_size _ rfl, rfl, by decide, rfl⟩ trivial l h)
    rintro rfl; rw [fr] at g; cases g
  | rng h =>
    rename_i n
    obtain ⟨a, t1, u1, v1, rfl, g, l⟩ := rv.rngI
    have e : Builtin.Range.rangeSize 0 n 1 = n.toNat := by unfold Builtin.Range.rangeSize; simp; split <;> omega
    refine wpAny_pyIter_range g ?_ (hQ _ _ _ fr push_keeps ⟨?_, rfl⟩ ⟨hH, hB, _, _, _, Heap.get?_push_size _ rfl, rfl, by decide, rfl⟩ trivial ?_ h)
    · unfold Builtin.Range.small Builtin.Range.rangeFitsLong
      rw [e]
      simp
      omega
    · rw [e]
      show _ = some _
      rw [Heap.get?_push_size _ rfl]
      simp
    · simp; omega
  | list ha h =>
      obtain rfl := Rep.objI rv
      obtain ⟨items, n, g, r, l⟩ := t.list ha
      refine wpAny_pyIter_list (isList_of g) (hQ _ _ _ fr push_keeps ⟨⟨_, Heap.get?_push_size _ rfl, rfl, rfl⟩, ?_⟩ ⟨hH, hB, _, _, _, Heap.get?_push_size _ rfl, rfl, by decide, rfl⟩ ha l h)
      rintro rfl; rw [fr] at g; cases g

theorem next_ok {i : Nat} {xs : List PV} {p x : PV} {Q : Option Value → Shared → Prop} {E : Value → Shared → Prop} (t : St cx F m H s.heap) (it : Itr cx s.heap I i xs p) (sr : Src p xs H) (cl : Clean cx H s.heap I) (xi : xs[i]? = some x)
    (hQ : ∀ v s', Rep cx s'.heap v x → Itr cx s'.heap I (i + 1) xs p → Clean cx H s'.heap I → Tch I s s' → Q (some v) s') : wpAny cx.M F.A (pyNext (.ref I)) Q E s := by
  obtain ⟨hI, hB, oI, T, vs, gI, hc, hT, hd⟩ := cl
  have so : ∀ h', Heap.SameBut I s.heap h' → ∀ b o, s.heap.get? b = some o → Solid o → h'.get? b = some o := fun h' sb b o e so => by
    rw [sb.2 b (by rintro rfl; rw [gI] at e; cases e; exact notSolid_of hc hT hd so)]; exact e
  have fin : ∀ v h' tk, Heap.SameBut I s.heap h' → Rep cx s.heap v x → Itr cx h' I (i + 1) xs p → Q (some v) { s with heap := h', toks := tk } := fun v h' tk sb r it' =>
    hQ v _ (r.mono (so h' sb)) it' ⟨hI, hB, it'.clean⟩ ⟨h', tk, rfl, fun b o n e => by rw [sb.2 b n]; exact e⟩
  cases p <;> try exact it.elim
  · obtain ⟨tt, items, n, hit, g, r, ne⟩ := it
    obtain ⟨v, ev, rv⟩ := r.get xi
    rw [Array.getElem?_toList] at ev
    refine wpAny_pyNext_tuple_item hit (isTuple_of g) ev fun h' hit' sb => fin v h' s.toks sb rv ⟨tt, items, n, hit', ?_, r.mono (so h' sb), ne⟩
    rw [sb.2 _ ne]; exact g
  · obtain ⟨hit, ne⟩ := it
    obtain ⟨items, n, g, r, l⟩ := t.list sr
    obtain ⟨v, ev, rv⟩ := r.get xi
    rw [Array.getElem?_toList] at ev
    exact wpAny_pyNext_list_item hit (isList_of g) ev fun h' hit' sb => fin v h' s.toks sb rv ⟨hit', ne⟩
  · obtain ⟨hit, rfl⟩ := it
    simp only [List.getElem?_map] at xi
    obtain ⟨j, hj, rfl⟩ := Option.map_eq_some_iff.mp xi
    have hlt := (List.getElem?_eq_some_iff.mp hj).1
    simp at hlt
    have hj' : j = i := by simpa [hlt] using hj.symm
    subst hj'
    refine wpAny_pyNext_range_item hit (by omega) fun h' hit' sb => fin _ h' _ sb (.int _ _) ⟨?_, rfl⟩
    have e1 : ((j + 1 : Nat) : Int) = (j : Int) + 1 := by omega
    have e2 : ∀ n : Nat, (n : Int) - ((j + 1 : Nat) : Int) = (n : Int) - (j : Int) - 1 := by intro n; omega
    rw [e2, e1]; exact hit'

theorem end_ok {i : Nat} {xs : List PV} {p : PV} {Q : Option Value → Shared → Prop} {E : Value → Shared → Prop} (hh : F.A.handled = none) (t : St cx F m H s.heap) (it : Itr cx s.heap I i xs p) (sr : Src p xs H) (xi : xs[i]? = none)
    (hQ : ∀ s', Tch I s s' → Q none s') : wpAny cx.M F.A (pyNext (.ref I)) Q E s := by
  have hle := List.getElem?_eq_none_iff.mp xi
  cases p <;> try exact it.elim
  · obtain ⟨tt, items, n, hit, g, r, ne⟩ := it
    have hk := arr_len r
    exact wpAny_pyNext_tuple_end hh hit (isTuple_of g) (by simp; omega) fun h' sb => hQ _ ⟨h', s.toks, rfl, fun b o n e => sb b o n e⟩
  · obtain ⟨hit, ne⟩ := it
    obtain ⟨items, n, g, r, l⟩ := t.list sr
    have hk := arr_len r
    exact wpAny_pyNext_list_end hh hit (isList_of g) (by simp; omega) fun h' sb => hQ _ ⟨h', s.toks, rfl, fun b o n e => sb b o n e⟩
  · obtain ⟨hit, rfl⟩ := it
    simp at hle
    exact wpAny_pyNext_range_end hh hit (by omega) fun h' sb => hQ _ ⟨h', s.toks, rfl, fun b o n e => sb b o n e⟩
theorem self_ok {A : Around} {i : Nat} {xs : List PV} {p : PV} {Q : Value → Shared → Prop} {E : Value → Shared → Prop} (it : Itr cx s.heap I i xs p) (hQ : Q (.ref I) s) : wpAny cx.M A (pyIter (.ref I)) Q E s := by
  cases p <;> try exact it.elim
  · obtain ⟨t, items, n, hit, _⟩ := it; exact wpAny_pyIter_tupleiter hit hQ
  · exact wpAny_pyIter_listiter it.1 hQ
  · exact wpAny_pyIter_rangeiter it.1 hQ
end
end Mine
end
section
open PySem PySem.Calls PyProof.Rows
namespace Mine
set_option autoImplicit false

section
variable {cx : Cx} {F : Fm} {m : Loc} {H H' : AHeap} {s s' : Shared} {I : Addr}

theorem Loc.get_set {m : Loc} {x i : Nat} {p v : PV} (h : (m.set x (some p)).getD i none = some v) : (i = x ∧ v = p) ∨ (i ≠ x ∧ m.getD i none = some v) := by
  by_cases q : i = x
  · subst q
    by_cases l : i < m.length
    · left; simp [List.getD, l] at h; exact ⟨rfl, h.symm⟩
    · simp [List.getD, l] at h
  · right
    refine ⟨q, ?_⟩
    simpa [List.getD, List.getElem?_set, Ne.symm q] using h
theorem Loc.get_set0 {m : Loc} {x i : Nat} {v : PV} (h : (m.set x none).getD i none = some v) : i ≠ x ∧ m.getD i none = some v := by
  by_cases q : i = x
  · subst q
    by_cases l : i < m.length
    · simp [List.getD, l] at h
    · simp [List.getD, l] at h
  · refine ⟨q, ?_⟩
    simpa [List.getD, List.getElem?_set, Ne.symm q] using h

theorem notSolid_dict {o : Obj} {es : Array DictEntry} {ep : Nat} (hd : o.data = .dict es ep) : ¬ Solid o := fun h => h.notLoc.1 _ _ hd
theorem notSolid_cell {o : Obj} {x : Option Value} (hd : o.data = .cell x) : ¬ Solid o := fun h => h.notLoc.2 _ hd

/-- a name put anew in the frame's own row -/
theorem St.setLocal {h h' : Heap} {x : Nat} {v : Value} {p : PV} {mc mc' : Str → Option Value} (t : St cx F m H h) (inj : ∀ i j, F.vis i = true → F.vis j = true → slot F.nm i = slot F.nm j → i = j) (vx : F.vis x = true) (kl : F.env.kindOf (slot F.nm x) = some .local)
    (ns : h.Ns F.env.locals mc) (ns' : h'.Ns F.env.locals mc') (hm : mc' = fun z => if z = slot F.nm x then some v else mc z) (sb : Heap.SameBut F.env.locals h h') (rv : Rep cx h v p) : St cx F (m.set x (some p)) H h' := by
  obtain ⟨o, es, ep, mc₀, ho, hd, ns₀, hv⟩ := t.vars
  have e0 : mc₀ = mc := funext (ns₀.agree ns)
  subst e0
  have ns1 : ∀ o, h.get? F.env.locals = some o → ¬ Solid o := fun o' e => by rw [ho] at e; cases e; exact notSolid_dict hd
  have k : ∀ b o, b ≠ F.env.locals → h.get? b = some o → h'.get? b = some o := fun b o n e => by rw [sb.2 b n]; exact e
  have so : ∀ b o, h.get? b = some o → Solid o → h'.get? b = some o := fun b o e s => k b o (by rintro rfl; exact ns1 o e s) e
  obtain ⟨o', es', ep', ho', hd', r'⟩ := id ns'
  refine ⟨fun b o e => k b o (by rintro rfl; rw [t.own.2] at e; cases e) (t.base b o e), t.off, t.heap.keepBut t.own.1 k ns1, fun env he => ?_, t.own, ⟨o', es', ep', mc', ho', hd', ns', fun i w h1 h2 h3 => ?_⟩, fun n c hc' => ?_⟩
  · obtain ⟨hk, L, o1, es1, ep1, hf, hH, hb, ho1, hd1⟩ := t.frames env he
    by_cases q : L = F.env.locals
    · subst q; exact ⟨hk, _, o', es', ep', hf, hH, hb, ho', hd'⟩
    · exact ⟨hk, L, o1, es1, ep1, hf, hH, hb, k L o1 q ho1, hd1⟩
  · rcases Loc.get_set h3 with ⟨rfl, rfl⟩ | ⟨n, h3⟩
    · exact ⟨v, by simp [hm], rv.mono so⟩
    · obtain ⟨y, e, r⟩ := hv i w h1 h2 h3
      refine ⟨y, ?_, r.mono so⟩
      rw [hm]
      simp only
      rw [if_neg (fun q => n (inj i x h1 vx q))]; exact e
  · obtain ⟨h1, h2, oc, y, hoc, hdc, hvc⟩ := t.cells n c hc'
    have nc : c ≠ F.env.locals := by rintro rfl; rw [ho] at hoc; cases hoc; rw [hd] at hdc; cases hdc
    refine ⟨h1, h2, oc, y, k c oc nc hoc, hdc, fun i w a b c' d => ?_⟩
    rcases Loc.get_set d with ⟨rfl, rfl⟩ | ⟨ne, d⟩
    · subst b; exact absurd kl c'
    · obtain ⟨z, q, r⟩ := hvc i w a b c' d
      exact ⟨z, q, r.mono so⟩

theorem St.forget {h : Heap} (x : Nat) (t : St cx F m H h) : St cx F (m.set x none) H h := by
  refine ⟨t.base, t.off, t.heap, t.frames, t.own, ?_, fun n c hc => ?_⟩
  · obtain ⟨o, es, ep, mc, ho, hd, ns, hv⟩ := t.vars
    exact ⟨o, es, ep, mc, ho, hd, ns, fun i v h1 h2 h3 => hv i v h1 h2 (Loc.get_set0 h3).2⟩
  · obtain ⟨h1, h2, o, y, ho, hd, hv⟩ := t.cells n c hc
    exact ⟨h1, h2, o, y, ho, hd, fun i v a b c' d => hv i v a b c' (Loc.get_set0 d).2⟩

theorem St.solidNow {h : Heap} (_ : St cx F m H h) : True := trivial

/-- the comprehension's own frame -/
noncomputable def compF (F : Fm) (sc : Scope) (cl : List (Str × Addr)) (C : Addr) (x : Nat) (kd' : Kd) : Fm := { F with env := compEnvC sc cl C F.env, vis := visC kd' F.nm F.vis x }

theorem relab_eq {kd : Kd} {n : Nat} {q : Bool} {sc : Scope} {cl : List (Str × Addr)} {C : Addr} (fo : Fok cx n q kd F) : (compEnvC sc cl C F.env).kindOf = relab kd sc := by
  funext x
  show List.lookup x (List.map _ sc.names) = _
  unfold relab
  have e1 : (F.env.scope.kind == ScopeKind.function) = true := by rw [fo.kind]; rfl
  simp only [e1, fo.kdo, Bool.and_true]

theorem closure_lookup {env : Env} {kd : Kd} (hc : ∀ x, (kd x = some .cell ∨ kd x = some .free) → ∃ c, env.cells.lookup x = some c) :
    ∀ (names : List (Str × NameKind)) (acc : List (Str × Addr)), (names.all fun p => p.2 != .free || kd p.1 == some .cell || kd p.1 == some .free) = true → (∀ n c, acc.lookup n = some c → env.cells.lookup n = some c) →
      ∃ cl, (forIn names acc (fun x cs => if x.2 == .free then (do let c ← cellOf env x.1; pure (ForInStep.yield ((x.1, c) :: cs))) else pure (ForInStep.yield cs)) : Sem (List (Str × Addr))) = pure cl ∧
        (∀ n c, cl.lookup n = some c → env.cells.lookup n = some c) ∧ (∀ n, (acc.lookup n).isSome = true → (cl.lookup n).isSome = true) ∧ ∀ n, (n, NameKind.free) ∈ names → (cl.lookup n).isSome = true
  | [], acc, _, ha => ⟨acc, by simp, ha, fun _ h => h, fun _ h => by simp at h⟩
  | (y, k) :: r, acc, hall, ha => by
    simp only [List.all_cons, Bool.and_eq_true] at hall
    rw [List.forIn_cons]
    by_cases hk : k = .free
    · subst hk
      have hy : kd y = some .cell ∨ kd y = some .free := by
        have := hall.1; simp at this; exact this
      obtain ⟨c, hc'⟩ := hc y hy
      obtain ⟨cl, e, h1, h2, h3⟩ := closure_lookup hc r ((y, c) :: acc) hall.2 (fun n d h => by
        rw [List.lookup_cons] at h
        by_cases q : n = y
        · subst q; simp at h; subst h; exact hc'
        · rw [show (n == y) = false by simpa using q] at h; exact ha n d h)
      refine ⟨cl, ?_, h1, fun n h => h2 n ?_, fun n h => ?_⟩
      · simp only [cellOf, hc']
        exact e
      · rw [List.lookup_cons]; split <;> simp_all
      · rcases List.mem_cons.mp h with q | q
        · cases q; exact h2 _ (by simp)
        · exact h3 n q
    · obtain ⟨cl, e, h1, h2, h3⟩ := closure_lookup hc r acc hall.2 ha
      refine ⟨cl, ?_, h1, h2, fun n h => ?_⟩
      · have : (k == NameKind.free) = false := by simpa using hk
        simp only [this]
        exact e
      · rcases List.mem_cons.mp h with q | q
        · cases q; exact absurd rfl hk
        · exact h3 n q
theorem closure_ok {env : Env} {kd : Kd} {sc : Scope} (hc : ∀ x, (kd x = some .cell ∨ kd x = some .free) → ∃ c, env.cells.lookup x = some c)
    (hall : (sc.names.all fun p => p.2 != .free || kd p.1 == some .cell || kd p.1 == some .free) = true) : ∃ cl, closureFor sc env = pure cl ∧ (∀ n c, cl.lookup n = some c → env.cells.lookup n = some c) ∧ ∀ n, (n, NameKind.free) ∈ sc.names → (cl.lookup n).isSome = true := by
  obtain ⟨cl, e, h1, _, h3⟩ := closure_lookup hc sc.names [] hall (fun _ _ h => by simp at h)
  refine ⟨cl, ?_, h1, h3⟩
  unfold closureFor
  rw [← e]
  simp only [bind_pure]
end
end Mine
end
section
open PySem PySem.Calls PyProof.Rows
namespace Mine
set_option autoImplicit false

section
variable {cx : Cx} {F : Fm} {m : Loc} {H H' : AHeap} {s s' : Shared} {I : Addr} {kd : Kd} {sc : Scope} {x n : Nat} {q : Bool} {cl : List (Str × Addr)} {C : Addr}

theorem lookup_map_free {kd : Kd} {y : Str} {k : NameKind} : ∀ {names : List (Str × NameKind)}, (names.map fun (n, k) => if (k == .free && kd n == some .cell) then (n, .cell) else (n, k)).lookup y = some k →
    ∃ k₀, (y, k₀) ∈ names ∧ k = if (k₀ == .free && kd y == some .cell) then .cell else k₀
  | [], h => by simp at h
  | (z, k₀) :: r, h => by
    have hs : ∀ p : Str × NameKind, (if (k₀ == NameKind.free && kd z == some .cell) = true then (z, NameKind.cell) else (z, k₀)) = p → p.1 = z := fun p e => by rw [← e]; split <;> rfl
    rw [List.map_cons] at h
    simp only at h
    generalize hp : (if (k₀ == NameKind.free && kd z == some .cell) = true then (z, NameKind.cell) else (z, k₀)) = p at h
    have h1 := hs p hp
    obtain ⟨p1, p2⟩ := p
    simp only at h1
    subst h1
    rw [List.lookup_cons] at h
    by_cases e : y = p1
    · subst e
      simp at h
      subst h
      refine ⟨k₀, List.mem_cons_self, ?_⟩
      split at hp <;> simp_all
    · rw [show (y == p1) = false by simpa using e] at h
      obtain ⟨k₁, h2, h3⟩ := lookup_map_free h
      exact ⟨k₁, List.mem_cons_of_mem _ h2, h3⟩

theorem relab_free (hsc : scOk kd (relab kd sc) sc (slot F.nm x) = true) {y : Str} (h : relab kd sc y = some .cell ∨ relab kd sc y = some .free) : (y, NameKind.free) ∈ sc.names ∧ (kd y = some .cell ∨ kd y = some .free) := by
  unfold scOk at hsc
  simp only [Bool.and_eq_true] at hsc
  obtain ⟨⟨⟨⟨⟨⟨⟨_, _⟩, _⟩, hnc⟩, _⟩, hfr⟩, _⟩, _⟩ := hsc
  have key : ∀ k, relab kd sc y = some k → k = .cell ∨ k = .free → (y, NameKind.free) ∈ sc.names := fun k e hk => by
    obtain ⟨k₀, h1, h2⟩ := lookup_map_free e
    have h3 := List.all_eq_true.mp hnc _ h1
    simp at h3
    cases k₀ <;> simp_all
  have hm : (y, NameKind.free) ∈ sc.names := h.elim (fun e => key _ e (.inl rfl)) fun e => key _ e (.inr rfl)
  have := List.all_eq_true.mp hfr _ hm
  simp at this
  exact ⟨hm, this⟩

theorem compF_ok (fo : Fok cx n q kd F) (hsc : scOk kd (relab kd sc) sc (slot F.nm x) = true) (hcl1 : ∀ n c, cl.lookup n = some c → F.env.cells.lookup n = some c) (hcl : ∀ n, (n, NameKind.free) ∈ sc.names → (cl.lookup n).isSome = true) :
    Fok cx n q (relab kd sc) (compF F sc cl C x (relab kd sc)) where
  fr := fo.fr
  kind := by
    unfold scOk at hsc
    simp only [Bool.and_eq_true, decide_eq_true_eq] at hsc
    exact hsc.1.1.1.1.1.1.1
  kdo := relab_eq fo
  glob := fo.glob
  bltn := fo.bltn
  quiet := fo.quiet
  depth := fo.depth
  units := fo.units
  cells := fun y h => Option.isSome_iff_exists.mp (hcl y (relab_free hsc h).1)
  apart := fun x y c h1 h2 => fo.apart x y c (hcl1 x c h1) (hcl1 y c h2)
  inj := fun i j hi hj e => by
    have hx : relab kd sc (slot F.nm x) = some .local := by
      unfold scOk at hsc
      simp only [Bool.and_eq_true, beq_iff_eq] at hsc
      exact hsc.1.2
    simp only [compF, visC, Bool.or_eq_true, Bool.and_eq_true, beq_iff_eq] at hi hj e
    rcases hi with rfl | ⟨hi, ki⟩ <;> rcases hj with rfl | ⟨hj, kj⟩
    · rfl
    · rw [← e, hx] at kj; simp at kj
    · rw [e, hx] at ki; simp at ki
    · exact fo.inj i j hi hj e

theorem comp_start {h' : Heap} {mc : Str → Option Value} (fo : Fok cx n q kd F) (hsc : scOk kd (relab kd sc) sc (slot F.nm x) = true) (hcl : ∀ n c, cl.lookup n = some c → F.env.cells.lookup n = some c)
    (t : St cx F m H s.heap) (fr : s.heap.get? C = none) (g : ∀ b o, s.heap.get? b = some o → h'.get? b = some o) (ns : h'.Ns C mc) : St cx (compF F sc cl C x (relab kd sc)) (m.set x none) H h' := by
  have hx : relab kd sc (slot F.nm x) = some .local := by
    unfold scOk at hsc
    simp only [Bool.and_eq_true, beq_iff_eq] at hsc
    exact hsc.1.2
  have so : ∀ b o, s.heap.get? b = some o → Solid o → h'.get? b = some o := fun b o e _ => g b o e
  obtain ⟨o, es, ep, ho, hd, r⟩ := id ns
  refine ⟨fun b o e => g b o (t.base b o e), t.off, t.heap.grow g, fun env he => ?_, ⟨t.heap.fresh fr, ?_⟩, ⟨o, es, ep, mc, ho, hd, ns, fun i v h1 h2 h3 => ?_⟩, fun y c hc => ?_⟩
  · obtain ⟨hk, L, o, es, ep, hf, hH, hb, ho, hd'⟩ := t.frames env he
    exact ⟨hk, L, o, es, ep, hf, hH, hb, g L o ho, hd'⟩
  · show cx.B.get? C = none
    cases e : cx.B.get? C with
    | none => rfl
    | some o => rw [t.base _ _ e] at fr; cases fr
  · exfalso
    rw [show (compF F sc cl C x (relab kd sc)).env.kindOf = relab kd sc from relab_eq fo] at h2
    obtain ⟨ne, h3⟩ := Loc.get_set0 h3
    simp only [compF, visC, Bool.or_eq_true, Bool.and_eq_true, beq_iff_eq] at h1 h2
    rcases h1 with rfl | ⟨_, hk⟩
    · exact ne rfl
    · rw [h2] at hk; simp at hk
  · obtain ⟨h1, h2, o, w, ho, hd, hv⟩ := t.cells y c (hcl y c hc)
    refine ⟨h1, h2, o, w, g c o ho, hd, fun i v a b c' d => ?_⟩
    obtain ⟨ne, d⟩ := Loc.get_set0 d
    simp only [compF, visC, Bool.or_eq_true, Bool.and_eq_true, beq_iff_eq] at a b
    rcases a with rfl | ⟨a, hk⟩
    · exact absurd rfl ne
    · obtain ⟨z, e, r⟩ := hv i v a b (by
        rw [fo.kdo]
        rw [b] at hk
        rcases (relab_free hsc hk).2 with q | q <;> rw [q] <;> decide) d
      exact ⟨z, e, r.mono so⟩
end
end Mine
end
section
open PySem PySem.Calls PyProof.Rows
namespace Mine
set_option autoImplicit false

abbrev testsSem (ifs : List Expr) (env : Env) : Sem Bool := forIn ifs true fun c r => if r = true then do let ok ← isTrue c env (eval c env); pure (ForInStep.yield ok) else pure (ForInStep.yield r)
abbrev IsBB : Heap → Bool → Bool → Prop := fun _ a b => a = b

inductive CompI (cx : Cx) (F' : Fm) (m0 : Loc) (H : AHeap) (s₀ : Shared) (I D : Addr) (xs : List PV) (p : PV) (W : List PV → List PV → AHeap → Prop) (k : Nat) (s' : Shared) : Prop
  | mk (i : Nat) (acc : List PV) (Hk : AHeap) (ys : Array Value) (c : Nat) (hi : i ≤ xs.length) (hk : k = xs.length - i) (ti : St cx F' m0 Hk s'.heap) (ki : Kp cx [] H s₀ Hk s') (iti : Itr cx s'.heap I i xs p) (ci : Clean cx Hk s'.heap I)
    (hDi : s'.heap.get? D = some (lstObj ys c)) (ri : RepL cx s'.heap ys.toList acc) (hHD : Hk D = none) (hacc : acc.length ≤ i) (hw : W (xs.drop i) acc Hk) : CompI cx F' m0 H s₀ I D xs p W k s'
section
variable {cx : Cx} {F : Fm} {m : Loc} {H H' : AHeap} {s s' : Shared} {I : Addr} {kd : Kd} {sc : Scope} {x n : Nat} {q : Bool} {cl : List (Str × Addr)}

/-- what no name or list holds stays -/
theorem Kp.same1 {s₁ s₂ : Shared} {H₁ H₂ : AHeap} (k : Kp cx [] H₁ s₁ H₂ s₂) {b : Addr} {o : Obj} (e : s₁.heap.get? b = some o) (hb : H₁ b = none) (hd : ∀ es ep, o.data ≠ .dict es ep) : H₂ b = none ∧ s₂.heap.get? b = some o := by
  obtain ⟨h, o', e', sm⟩ := k.keep b o e (fun q => nomatch q) hb
  rw [sm.eq hd] at e'; exact ⟨h, e'⟩

theorem comp_block {elt iter : Expr} {ifs : List Expr} {px pos : Pos} {xs : List PV} {p : PV} {aT : BPost → Loc → AHeap → Prop} {aE : Post → Loc → AHeap → Prop} {QF : List PV → AHeap → Prop}
    {RR : Value → Addr → Result → Shared → Prop} {E : Value → Shared → Prop} {s₀ s₂ : Shared} {h₂ : Heap} (fo : Fok cx n true kd F) (hsc : scOk kd (relab kd sc) sc (slot F.nm x) = true)
    (hcl1 : ∀ n c, cl.lookup n = some c → F.env.cells.lookup n = some c) (hcl2 : ∀ n, (n, NameKind.free) ∈ sc.names → (cl.lookup n).isSome = true)
    (hT : ∀ {C : Addr} {m' : Loc} {H : AHeap} {s : Shared} {Q : BPost}, Fok cx n true (relab kd sc) (compF F sc cl C x (relab kd sc)) → St cx (compF F sc cl C x (relab kd sc)) m' H s.heap → aT Q m' H →
      Ev IsBB cx (compF F sc cl C x (relab kd sc)) (testsSem ifs (compEnvC sc cl C F.env)) m' H s Q fun _ _ => False)
    (hE : ∀ {C : Addr} {m' : Loc} {H : AHeap} {s : Shared} {Q : Post}, Fok cx n true (relab kd sc) (compF F sc cl C x (relab kd sc)) → St cx (compF F sc cl C x (relab kd sc)) m' H s.heap → aE Q m' H →
      Ev (Rep cx) cx (compF F sc cl C x (relab kd sc)) (eval elt (compEnvC sc cl C F.env)) m' H s Q fun _ _ => False)
    (t : St cx F m H s₀.heap) (hs₂ : s₂ = { s₀ with heap := h₂ }) (g₂ : ∀ b o, s₀.heap.get? b = some o → h₂.get? b = some o) (fI : s₀.heap.get? I = none) (it : Itr cx h₂ I 0 xs p) (cI : Clean cx H h₂ I) (hl : xs.length ≤ LIM)
    (h : compW (Src p xs) (fun y K H => aT (fun b H => if b then aE (fun v H => K [v] H) (m.set x (some y)) H else K [] H) (m.set x (some y)) H) QF xs [] H)
    (hRR : ∀ D C s' H' vs mc, s₀.heap.get? C = none → s₀.heap.get? D = none → D ≠ C → s'.heap.Ns C mc → (∃ ys k, s'.heap.get? D = some (lstObj ys k) ∧ RepL cx s'.heap ys.toList vs ∧ vs.length ≤ LIM) → H' D = none → H' C = none → Holds cx s'.heap H' →
      Kp cx [] H s₀ H' s' → QF vs H' → RR (.ref D) C (.ok .next) s') :
    wpAny cx.M F.A (newList []) (fun acc s₃ => wpAny cx.M F.A (newFunctionEnv sc F.env.globals cl [] F.env.qual none .none (some F.env)) (fun cenv s₄ =>
      codeAny cx.M F.A (.compStart (.ListComp elt [⟨.Name (slot F.nm x) px, iter, ifs, 0⟩] sc pos) 0 (.ref I) acc { cenv with scope := relabel sc F.env }) (RR acc cenv.locals) s₄) E s₃) E s₂ := by
  have hL : LIM = 1048576 := rfl
  have hL' := LIM_le
  have hsc' := hsc
  unfold scOk at hsc'
  simp only [Bool.and_eq_true, beq_iff_eq, decide_eq_true_eq] at hsc'
  obtain ⟨⟨⟨⟨⟨⟨⟨hkind, _⟩, _⟩, hnc⟩, hloc⟩, hfr⟩, hx⟩, _⟩ := hsc'
  have hcell : ∀ y ∈ sc.names, y.2 ≠ .cell := fun y hy => by have := List.all_eq_true.mp hnc y hy; simpa using this
  subst hs₂
  refine wpAny_newObj_type (wpAny_newFunctionEnv hcell (by intro y hy; simp at hy) (fun h₁ hns₁ hsb₁ => ?_) hkind)
  dsimp only at hns₁ hsb₁ ⊢
  generalize hH2 : h₂.push { cls := .type "list", dict := none, data := .seq ([] : List Value).toArray } = H2 at hns₁ hsb₁ ⊢
  have hC : H2.objs.size = h₂.objs.size + 1 := by rw [← hH2, Heap.size_push]
  have hDC : h₂.objs.size ≠ H2.objs.size := by rw [hC]; exact Nat.ne_of_lt (Nat.lt_succ_self _)
  have below : ∀ b, b < h₂.objs.size → b ≠ H2.objs.size ∧ b ≠ h₂.objs.size := fun b hb => ⟨by rw [hC]; exact Nat.ne_of_lt (Nat.lt_succ_of_lt hb), Nat.ne_of_lt hb⟩
  have old : ∀ b o, h₂.get? b = some o → h₁.get? b = some o := fun b o e => hsb₁.extBut b o (below b (Heap.lt_size e)).1 (Heap.get?_push_of_some _ (hH2 ▸ Heap.get?_push_of_some _ e))
  have hD₁ : h₁.get? h₂.objs.size = some (lstObj #[] 0) := hsb₁.extBut _ _ hDC (Heap.get?_push_of_some _ (hH2 ▸ Heap.get?_push_size _ rfl))
  have fresh : ∀ a, h₂.objs.size ≤ a → s₀.heap.get? a = none := fun a ha => by
    cases e : s₀.heap.get? a with
    | none => rfl
    | some o' => exact absurd (Heap.lt_size (g₂ _ _ e)) (Nat.not_lt.mpr ha)
  have fC : s₀.heap.get? H2.objs.size = none := fresh _ (by rw [hC]; exact Nat.le_succ _)
  have fD : s₀.heap.get? h₂.objs.size = none := fresh _ (Nat.le_refl _)
  have bnone : ∀ a, s₀.heap.get? a = none → cx.B.get? a = none := fun a f => by
    cases e : cx.B.get? a with
    | none => rfl
    | some o => rw [t.base _ _ e] at f; cases f
  generalize hCg : H2.objs.size = C at *
  generalize hDg : h₂.objs.size = D at *
  clear hH2
  have hID : I ≠ D := by obtain ⟨_, _, oI, _, _, gI, _⟩ := cI; exact Nat.ne_of_lt (hDg ▸ Heap.lt_size gI)
  have fo' := compF_ok (C := C) fo hsc hcl1 hcl2
  have keep₁ : ∀ b o, s₀.heap.get? b = some o → h₁.get? b = some o := fun b o e => old b o (g₂ b o e)
  have t₁ : St cx (compF F sc cl C x (relab kd sc)) (m.set x none) H h₁ := comp_start fo hsc hcl1 t fC keep₁ hns₁
  have it₁ : Itr cx h₁ I 0 xs p := it.keep (fun b o e _ => old b o e) fun o e => old _ o e
  have cI₁ : Clean cx H h₁ I := ⟨cI.1, cI.2.1, it₁.clean⟩
  have hp : ((compEnvC sc cl C F.env).scope.kind == .class || ((compEnvC sc cl C F.env).scope.kind == .module && (compEnvC sc cl C F.env).locals != (compEnvC sc cl C F.env).globals)) = false := by
    simp [compEnvC, relabel, hkind]
  have hkx : (compEnvC sc cl C F.env).kindOf (slot F.nm x) = some .local := by rw [relab_eq fo]; exact hx
  have loop : ∀ s₃ : Shared, s₃ = { s₀ with heap := h₁, toks := s₀.toks + ([] : List (Str × Value)).length } →
      codeAny cx.M F.A (.compLoop (.ListComp elt [⟨.Name (slot F.nm x) px, iter, ifs, 0⟩] sc pos) 0 (.ref I) (.ref D) (compEnvC sc cl C F.env)) (RR (.ref D) C) s₃ := by
    rintro s₃ rfl
    refine codeAny_compLoop_tests (CompI cx (compF F sc cl C x (relab kd sc)) (m.set x none) H s₀ I D xs p (compW (Src p xs) (fun y K H => aT (fun b H => if b then aE (fun v H => K [v] H) (m.set x (some y)) H else K [] H) (m.set x (some y)) H) QF)) ?_ xs.length
      ⟨0, [], H, #[], 0, Nat.zero_le _, rfl, t₁, .grow keep₁ (fun _ _ _ e => e), it₁, cI₁, hD₁, .nil, t.heap.fresh fD, Nat.le_refl _, h⟩
    rintro k s' ⟨i, acc, Hk, ys, c, hi, rfl, ti, ki, iti, ci, hDi, ri, hHD, hacc, hw⟩
    by_cases hlt : i < xs.length
    · have hx1 : xs[i]? = some xs[i] := List.getElem?_eq_getElem hlt
      rw [List.drop_eq_getElem_cons hlt] at hw
      obtain ⟨sr, hw⟩ := hw
      refine next_ok (F := compF F sc cl C x (relab kd sc)) ti iti sr ci hx1 fun v s₄ rv it₄ c₄ tc₄ => ?_
      obtain ⟨h₄, tk₄, rfl, k₄⟩ := id tc₄
      have t₄ : St cx (compF F sc cl C x (relab kd sc)) (m.set x none) Hk h₄ := ti.touch ci k₄
      have kp₄ := ki.touch fI tc₄ ci.2.1
      have hD₄ : h₄.get? D = some (lstObj ys c) := k₄ D _ (Ne.symm hID) hDi
      have so₄ : ∀ b o, s'.heap.get? b = some o → Solid o → h₄.get? b = some o := fun b o e so => k₄ b o (by
        rintro rfl; obtain ⟨_, _, oI, T, vs, gI, hc, hT, hd⟩ := ci; rw [gI] at e; cases e; exact notSolid_of hc hT hd so) e
      obtain ⟨oC, esC, epC, mc, hoC, hdC, nsC, _⟩ := t₄.vars
      refine wpAny_assign_Name (wpAny_storeName_local hkx nsC (fun h₅ ns₅ sb₅ => ?_) hp)
      have nsC' : h₄.Ns C mc := nsC
      have sb₅' : Heap.SameBut C h₄ h₅ := sb₅
      have t₅ : St cx (compF F sc cl C x (relab kd sc)) (m.set x (some xs[i])) Hk h₅ := by
        have := t₄.setLocal (x := x) fo'.inj (by simp [compF, visC]) hkx nsC ns₅ rfl sb₅ rv
        rw [List.set_set] at this; exact this
      have hCD : C ≠ D := Ne.symm hDC
      have kk₅ : ∀ b o, b ≠ C → h₄.get? b = some o → h₅.get? b = some o := fun b o n e => by rw [sb₅'.2 b n]; exact e
      have so₅ : ∀ b o, h₄.get? b = some o → Solid o → h₅.get? b = some o := fun b o e so => kk₅ b o (by rintro rfl; rw [show h₄.get? b = some oC from hoC] at e; cases e; exact notSolid_dict hdC so) e
      have kp₅ : Kp cx [] H s₀ Hk { s' with heap := h₅, toks := tk₄ + 1 } := kp₄.touch (I := C) fC ⟨h₅, tk₄ + 1, rfl, kk₅⟩ (bnone _ fC)
      have hIC : I ≠ C := by
        obtain ⟨_, _, oI, _, _, gI, _, _, hd⟩ := c₄
        rintro rfl
        rw [show h₄.get? I = some oC from hoC] at gI; cases gI; rw [hdC] at hd; cases hd
      have it₅ : Itr cx h₅ I (i + 1) xs p := it₄.keep so₅ fun o e => kk₅ _ o hIC e
      have c₅ : Clean cx Hk h₅ I := ⟨c₄.1, c₄.2.1, it₅.clean⟩
      have hD₅ : h₅.get? D = some (lstObj ys c) := kk₅ D _ hDC hD₄
      have r₅ : RepL cx h₅ ys.toList acc := (ri.mono so₄).mono so₅
      refine wpAny_mono (hT fo' t₅ hw) (fun ok s₆ h₆ => ?_) fun _ _ ⟨_, _, _, _, _, _, _, f⟩ => f.elim
      obtain ⟨b, H₆, rfl, t₆, kp₆, hb⟩ := h₆
      have nd : ∀ es ep, (lstObj ys c).data ≠ .dict es ep := fun _ _ q => nomatch q
      have so₆ : ∀ b o, h₅.get? b = some o → Solid o → s₆.heap.get? b = some o := kp₆.solid0 t₅.heap
      have hD₆ := kp₆.same1 (b := D) hD₅ hHD nd
      have stepI : ∀ {sa sb : Shared} {Ha Hb : AHeap} {ma : Loc}, Kp cx [] Ha sa Hb sb → St cx (compF F sc cl C x (relab kd sc)) ma Ha sa.heap → Itr cx sa.heap I (i + 1) xs p → Clean cx Ha sa.heap I → Itr cx sb.heap I (i + 1) xs p ∧ Clean cx Hb sb.heap I := fun {sa sb Ha Hb ma} kp ta ita ca => by
        obtain ⟨hI, hB, oI, T, vs, gI, hc, hT, hd⟩ := ca
        have e1 := kp.same1 gI hI (fun _ _ q => by rw [hd] at q; cases q)
        have itb := ita.keep (kp.solid0 ta.heap) fun o e => by rw [gI] at e; cases e; exact e1.2
        exact ⟨itb, e1.1, hB, itb.clean⟩
      obtain ⟨it₆, c₆⟩ := stepI kp₆ t₅ it₅ c₅
      cases ok with
      | false =>
        rw [if_neg (by decide)] at hb ⊢
        exact ⟨xs.length - (i + 1), by omega, i + 1, acc, H₆, ys, c, hlt, rfl, by have := t₆.forget x; rw [List.set_set] at this; exact this, kp₅.trans kp₆, it₆, c₆, hD₆.2, r₅.mono so₆, hD₆.1, Nat.le_succ_of_le hacc, by simpa using hb⟩
      | true =>
        rw [if_pos rfl] at hb ⊢
        refine wpAny_mono (hE fo' t₆ hb) (fun v₇ s₇ h₇ => ?_) fun _ _ ⟨_, _, _, _, _, _, _, f⟩ => f.elim
        obtain ⟨y, H₇, r₇, t₇, kp₇, hy⟩ := h₇
        have hD₇ := kp₇.same1 (b := D) hD₆.2 hD₆.1 nd
        have so₇ := kp₇.solid0 t₆.heap
        obtain ⟨it₇, c₇⟩ := stepI kp₇ t₆ it₆ c₆
        have ry : RepL cx s₇.heap ys.toList acc := (r₅.mono so₆).mono so₇
        have hsz := arr_len ry
        refine call_meets PySem.F.slot_list_append ⟨_, hD₇.2, rfl⟩ PySem.F.entry_list_append (PySem.F.args_list_append_2 _ _) (list_append _ ys c _ (by omega)) ⟨hD₇.2, ?_⟩
        obtain ⟨c', g'⟩ := lst_update hD₇.2 (fun z => z.push v₇)
        have nsD : ∀ o, s₇.heap.get? D = some o → ¬ Solid o := fun o e => by
          rw [hD₇.2] at e; cases e
          rintro (⟨i, n, q⟩ | ⟨n, t, u, v, q⟩ | ⟨⟨C, q⟩, _⟩) <;> simp [lstObj, tupObj, rngObj] at q
        have so₈ : ∀ b o, s₇.heap.get? b = some o → Solid o → (s₇.heap.update D (Obj.mapSeq fun z => z.push v₇)).get? b = some o := fun b o e so => upd_keeps b o (by rintro rfl; exact nsD o e so) e
        have bD := bnone _ fD
        have t₈ : St cx (compF F sc cl C x (relab kd sc)) (m.set x (some xs[i])) H₇ (s₇.heap.update D (Obj.mapSeq fun z => z.push v₇)) := by
          have ndl : ∀ b o es ep, s₇.heap.get? b = some o → o.data = .dict es ep → b ≠ D := fun b o es ep e q => by rintro rfl; rw [hD₇.2] at e; cases e; cases q
          refine ⟨fun b o e => upd_keeps b o (by rintro rfl; rw [bD] at e; cases e) (t₇.base b o e), t₇.off, t₇.heap.keepBut hD₇.1 upd_keeps nsD, fun env he => ?_, t₇.own, ?_, fun nn cc hc' => ?_⟩
          · obtain ⟨hk, L, o, es, ep, hf, hH, hb, ho, hd'⟩ := t₇.frames env he
            exact ⟨hk, L, o, es, ep, hf, hH, hb, upd_keeps L o (ndl L o es ep ho hd') ho, hd'⟩
          · obtain ⟨o, es, ep, mc, ho, hd', ns, hv⟩ := t₇.vars
            have nn := ndl _ o es ep ho hd'
            exact ⟨o, es, ep, mc, upd_keeps _ o nn ho, hd', ns.at fun o e => upd_keeps _ o nn e, fun i v h1 h2 h3 => let ⟨x, q, r⟩ := hv i v h1 h2 h3; ⟨x, q, r.mono so₈⟩⟩
          · obtain ⟨h1, h2, o, xx, ho, hd', hv⟩ := t₇.cells nn cc hc'
            exact ⟨h1, h2, o, xx, upd_keeps cc o (by rintro rfl; rw [hD₇.2] at ho; cases ho; cases hd') ho, hd', fun i v a b c d => let ⟨y, q, r⟩ := hv i v a b c d; ⟨y, q, r.mono so₈⟩⟩
        have kp₈ : Kp cx [] H s₀ H₇ { s₇ with heap := s₇.heap.update D (Obj.mapSeq fun z => z.push v₇), toks := s₇.toks } := ((kp₅.trans kp₆).trans kp₇).touch (I := D) fD ⟨_, s₇.toks, rfl, upd_keeps⟩ bD
        have it₈ : Itr cx (s₇.heap.update D (Obj.mapSeq fun z => z.push v₇)) I (i + 1) xs p := it₇.keep so₈ fun o e => upd_keeps _ o hID e
        refine ⟨xs.length - (i + 1), by omega, i + 1, acc ++ [y], H₇, ys.push v₇, c', hlt, rfl, by have := t₈.forget x; rw [List.set_set] at this; exact this, kp₈, it₈, ⟨c₇.1, c₇.2.1, it₈.clean⟩, g', ?_, hD₇.1, by simp; omega, hy⟩
        have := (ry.append (.cons r₇ .nil)).mono so₈
        simpa using this
    · have hi' : i = xs.length := by omega
      subst hi'
      rw [List.drop_length] at hw
      obtain ⟨sr, hw⟩ := hw
      refine end_ok (F := compF F sc cl C x (relab kd sc)) (fo'.quiet rfl) ti iti sr (by simp) fun s₄ tc₄ => ?_
      obtain ⟨h₄, tk₄, rfl, k₄⟩ := id tc₄
      have t₄ : St cx (compF F sc cl C x (relab kd sc)) (m.set x none) Hk h₄ := ti.touch ci k₄
      obtain ⟨oC, esC, epC, mc, hoC, hdC, nsC, _⟩ := t₄.vars
      have so₄ : ∀ b o, s'.heap.get? b = some o → Solid o → h₄.get? b = some o := fun b o e so => k₄ b o (by
        rintro rfl; obtain ⟨_, _, oI, T, vs, gI, hc, hT, hd⟩ := ci; rw [gI] at e; cases e; exact notSolid_of hc hT hd so) e
      exact hRR D C _ Hk acc mc fC fD hDC nsC ⟨ys, c, k₄ D _ (Ne.symm hID) hDi, ri.mono so₄, by omega⟩ hHD t₄.own.1 t₄.heap (ki.touch fI tc₄ ci.2.1) hw
  exact codeAny_compStart_list (loop _ rfl) (self_ok it₁ (loop _ rfl))
end
end Mine
end
section
open PySem PySem.Calls PyProof.Rows
namespace Mine
set_option autoImplicit false

section
variable {cx : Cx} {F : Fm} {m : Loc} {H H' : AHeap} {s s' : Shared} {I : Addr} {kd : Kd} {sc : Scope} {x n : Nat} {q : Bool} {cl : List (Str × Addr)} {Q : Post} {X : XPost}

abbrev RepLs (cx : Cx) (k : Nat) : Heap → List Value → List PV → Prop := fun h vs ps => RepL cx h vs ps ∧ ps.length = k

theorem comp_fin' {vs : List PV} {D C : Addr} {mc : Str → Option Value} (t : St cx F m H s.heap) (fC : s.heap.get? C = none) (fD : s.heap.get? D = none) (hDC : D ≠ C) (ns : s'.heap.Ns C mc)
    (hD : ∃ ys k, s'.heap.get? D = some (lstObj ys k) ∧ RepL cx s'.heap ys.toList vs ∧ vs.length ≤ LIM) (hHD : H' D = none) (hHC : H' C = none) (hh : Holds cx s'.heap H') (k : Kp cx [] H s H' s') (h : alloc (.list vs) Q H')
    {h' : Heap} (sb : Heap.SameBut C s'.heap h') : St cx F m (upd H' D (.list vs)) h' ∧ Kp cx [] H s (upd H' D (.list vs)) { s' with heap := h' } ∧ Q (.obj D) (upd H' D (.list vs)) := by
  obtain ⟨ys, c, gD, r, l⟩ := hD
  obtain ⟨oC, es, ep, hoC, hdC, _⟩ := ns
  have bC : cx.B.get? C = none := by
    cases e : cx.B.get? C with
    | none => rfl
    | some o => rw [t.base _ _ e] at fC; cases fC
  have g : ∀ b o, b ≠ C → s'.heap.get? b = some o → h'.get? b = some o := fun b o n e => by rw [sb.2 b n]; exact e
  have nsC : ∀ o, s'.heap.get? C = some o → ¬ Solid o := fun o e => by rw [hoC] at e; cases e; exact notSolid_dict hdC
  have so : ∀ b o, s'.heap.get? b = some o → Solid o → h'.get? b = some o := fun b o e s => g b o (by rintro rfl; exact nsC o e s) e
  have hh' : Holds cx h' H' := hh.keepBut hHC g nsC
  have gD' := g D _ hDC gD
  have hu : Holds cx h' (upd H' D (.list vs)) := hh'.put (fun b o _ e => e) (fun o e => by
    rw [gD'] at e; cases e
    rintro (⟨i, n, q⟩ | ⟨n, t, u, v, q⟩ | ⟨⟨C, q⟩, _⟩) <;> simp [lstObj, tupObj, rngObj] at q) ⟨ys, c, gD', r.mono so, l⟩
  have k₁ : Kp cx [] H s H' { s' with heap := h' } := k.touch fC ⟨h', s'.toks, rfl, g⟩ bC
  have k₂ : Kp cx [] H s (upd H' D (.list vs)) { s' with heap := h' } := ⟨k₁.same, fun b o e nS hn => by
      obtain ⟨h1, o', e', sm⟩ := k₁.keep b o e nS hn
      exact ⟨by rw [upd_ne (by rintro rfl; rw [fD] at e; cases e)]; exact h1, o', e', sm⟩, k₁.alive, k₁.base⟩
  exact ⟨t.step k₂ hu, k₂, alloc_use h hHD⟩
theorem comp_fin {vs : List PV} {D C : Addr} {mc : Str → Option Value} (t : St cx F m H s.heap) (fC : s.heap.get? C = none) (fD : s.heap.get? D = none) (hDC : D ≠ C) (ns : s'.heap.Ns C mc)
    (hD : ∃ ys k, s'.heap.get? D = some (lstObj ys k) ∧ RepL cx s'.heap ys.toList vs ∧ vs.length ≤ LIM) (hHD : H' D = none) (hHC : H' C = none) (hh : Holds cx s'.heap H') (k : Kp cx [] H s H' s') (h : alloc (.list vs) Q H')
    {h' : Heap} (sb : Heap.SameBut C s'.heap h') : OkG (Rep cx) cx F m H s Q (.ref D) { s' with heap := h' } :=
  let ⟨a, b, c⟩ := comp_fin' t fC fD hDC ns hD hHD hHC hh k h sb; ⟨_, _, .obj D, a, b, c⟩

theorem comp_ok {elt iter : Expr} {ifs : List Expr} {px pos : Pos} {aT : BPost → Loc → AHeap → Prop} {aE : Post → Loc → AHeap → Prop}
    (fo : Fok cx n true kd F) (hsc : scOk kd (relab kd sc) sc (slot F.nm x) = true)
    (hIt : Ev (Rep cx) cx F (eval iter F.env) m H s (fun v H => itemsW v (fun xs src => compW src (fun y K H => aT (fun b H => if b then aE (fun v H => K [v] H) (m.set x (some y)) H else K [] H) (m.set x (some y)) H)
      (fun vs H => alloc (.list vs) Q H) xs [] H) H) X)
    (hT : ∀ {cl : List (Str × Addr)} {C : Addr} {m' : Loc} {H : AHeap} {s : Shared} {Q : BPost}, Fok cx n true (relab kd sc) (compF F sc cl C x (relab kd sc)) → St cx (compF F sc cl C x (relab kd sc)) m' H s.heap → aT Q m' H →
      Ev IsBB cx (compF F sc cl C x (relab kd sc)) (testsSem ifs (compEnvC sc cl C F.env)) m' H s Q fun _ _ => False)
    (hE : ∀ {cl : List (Str × Addr)} {C : Addr} {m' : Loc} {H : AHeap} {s : Shared} {Q : Post}, Fok cx n true (relab kd sc) (compF F sc cl C x (relab kd sc)) → St cx (compF F sc cl C x (relab kd sc)) m' H s.heap → aE Q m' H →
      Ev (Rep cx) cx (compF F sc cl C x (relab kd sc)) (eval elt (compEnvC sc cl C F.env)) m' H s Q fun _ _ => False)
    (hs : ∀ x, foldedSetIterable iter F.env x = pure x) :
    Ev (Rep cx) cx F (eval (.ListComp elt [⟨.Name (slot F.nm x) px, iter, ifs, 0⟩] sc pos) F.env) m H s Q X := by
  have hsc' := hsc
  unfold scOk at hsc'
  simp only [Bool.and_eq_true, beq_iff_eq, decide_eq_true_eq] at hsc'
  obtain ⟨⟨⟨⟨⟨⟨⟨hkind, _⟩, _⟩, hnc⟩, hloc⟩, hfr⟩, hx⟩, _⟩ := hsc'
  obtain ⟨cl, hclos, hcl1, hcl2⟩ := closure_ok fo.cells hfr
  have hnames : ∀ y ∈ sc.names, y.2 = .local → sc.names.lookup y.1 = some .local := fun y hy hl => by
    have := List.all_eq_true.mp hloc y hy
    simp [hl] at this; exact this
  unfold Ev
  rw [eval_ListComp]
  refine wpAny_comprehension_free (use := none) rfl hs hclos hkind hnames (wpAny_mono hIt (fun xv s₁ h₁ => ?_) fun _ _ e => e)
  obtain ⟨p, H₁, rv, t₁, k₁, hw⟩ := h₁
  refine iter_ok (F := F) rv t₁ hw fun I xs h' fI g it cI sr hl hc => ?_
  refine comp_block (RR := fun acc C => compPost cx.M F.A _ none _ acc C) fo hsc hcl1 hcl2 hT hE t₁ rfl g fI it cI hl hc ?_
  intro D C s' H' vs mc fC fD hDC ns hD hHD hHC hh k hq
  exact ⟨mc, ns, fun h'' sb => (comp_fin t₁ fC fD hDC ns hD hHD hHC hh k hq sb).older k₁⟩

theorem args_sem {f : Value} {k : Nat} {trees : List (Bool × Sem Value)} {Q : List PV → AHeap → Prop} (hp : ∀ x ∈ trees, x.1 = false) (h : Ev (RepLs cx k) cx F (spliced trees) m H s Q X) {QQ : Args → Shared → Prop}
    (hk : ∀ vs s', OkG (RepLs cx k) cx F m H s Q vs s' → QQ ⟨vs, []⟩ s') : wpAny cx.M F.A (evalArgs f true trees []) QQ (ErP cx F m H s X) s := by
  cases trees with
  | nil =>
    unfold evalArgs
    show wpAny cx.M F.A (spliced [] >>= _) QQ _ s
    refine wpAny_bind (wpAny_mono h (fun vs s' h' => ?_) fun _ _ x => x)
    refine wpAny_holding ?_
    exact wpAny_bind (wpAny_pure (wpAny_bind (wpAny_pure (wpAny_pure (hk vs s' h')))))
  | cons a r =>
    obtain ⟨b, x⟩ := a
    have := hp (b, x) List.mem_cons_self
    simp only at this
    subst this
    exact evalArgs_plain (wpAny_mono h (fun vs s' h' => hk vs s' h') fun _ _ e => e)

noncomputable def litV : Const → Option PV
  | .none => some .none
  | .bool b => some (.bool b)
  | .int i => some (.int i)
  | .str s => some (.str s)
  | _ => none
theorem litW_iff {c : Const} {Q : Post} (h : litW c Q H) : ∃ v, litV c = some v ∧ Q v H := by
  unfold litW at h
  split at h <;> first | exact ⟨_, rfl, h⟩ | exact h.elim
theorem lit_ok {c : Const} {k : Nat} {p : Pos} {v : PV} {A : Around} {env : Env} {QQ : Value → Shared → Prop} {E : Value → Shared → Prop} (hv : litV c = some v)
    (hQ : ∀ x tk, (∀ h, Rep cx h x v) → QQ x { s with toks := tk }) : wpAny cx.M A (eval (.Constant c k p) env) QQ E s := by
  unfold litV at hv
  split at hv <;> cases hv
  · exact wpAny_pure (hQ _ s.toks fun _ => .none)
  · exact wpAny_pure (hQ _ s.toks fun _ => .bool _)
  · exact fun _ _ _ => hQ _ _ fun _ => .int _ _
  · exact fun _ _ _ => hQ _ _ fun _ => .str _ _

theorem pairs_ok {g : Gl} {env : Env} {A : Around} {pos : Pos} : ∀ (ks : List (Str × Pos)) (es : AEs) {nm : List Str} {m : Loc} {Q : List PV → AHeap → Prop} {X : XPost} {s : Shared} {QQ : List (Value × Value) → Shared → Prop} {E : Value → Shared → Prop}, es.lits = true → ks.length = es.len →
    awpL g es Q X m H → (∀ prs tk kvs ps, Carries cx.sk prs kvs → kvs.map (·.1) = ks.map (·.1) → (∀ h, RepL cx h (kvs.map (·.2)) ps) → Q ps H → QQ prs { s with toks := tk }) →
    wpAny cx.M A (evalPairs (pairTrees (ks.map fun x => some (.Constant (.str x.1) 0 x.2)) (es.toEs nm) env pos)) QQ E s
  | [], .nil, _, _, _, _, s, _, _, _, _, h, hQ => pairTrees_nil_walk (hQ [] s.toks [] [] trivial rfl (fun _ => .nil) h)
  | [], .cons _ _, _, _, _, _, _, _, _, _, hl, _, _ => by simp [AEs.len] at hl
  | _ :: _, .nil, _, _, _, _, _, _, _, _, hl, _, _ => by simp [AEs.len] at hl
  | k :: ks, .cons e es, nm, m, Q, X, s, QQ, E, hlit, hl, h, hQ => by
    obtain ⟨c, kk, pp, rfl⟩ : ∃ c kk pp, e = .lit c kk pp := by
      cases e with
      | lit c kk pp => exact ⟨c, kk, pp, rfl⟩
      | _ => simp [AEs.lits] at hlit
    have hlit' : es.lits = true := hlit
    have hw : litW c (fun v H => awpL g es (fun vs H => Q (v :: vs) H) X m H) H := h
    obtain ⟨v, hv, hw⟩ := litW_iff hw
    refine pairTrees_cons_walk ?_
    refine Constant_str ?_
    refine lit_ok hv fun y tk ry => ?_
    refine pairs_ok ks es hlit' (by simpa [AEs.len] using hl) hw fun prs tk' kvs ps c1 c2 c3 c4 => ?_
    refine hQ _ tk' ((k.1, y) :: kvs) (v :: ps) ⟨by simp [Cx.sk, PySem.strKind, Value.isStrOf], rfl, c1⟩ (by simp [c2]) (fun h => .cons (ry h) (c3 h)) c4

theorem merged_rep {h : Heap} : ∀ {kvs : List (Str × Value)} {ks : List Str} {ps : List PV} {acc : List (Str × Value)} {pcc : List (Str × PV)}, kvs.map (·.1) = ks → RepL cx h (kvs.map (·.2)) ps → RepK cx h acc pcc →
    RepK cx h (merged acc kvs) ((ks.zip ps).foldl (fun d p => dset d p.1 p.2) pcc)
  | [], _, _, _, _, rfl, .nil, r => r
  | (k, v) :: kvs, _, _, acc, pcc, rfl, .cons a rs, r => by
    simp only [List.map_cons, List.zip_cons_cons, List.foldl_cons]
    exact merged_rep (acc := stored acc k v) rfl rs (r.dset a)
theorem dictOf_len (ks : List Str) (ps : List PV) : (dictOf ks ps).length ≤ ks.length := by
  unfold dictOf
  have : ∀ (l : List (Str × PV)) (acc : List (Str × PV)), (l.foldl (fun d p => dset d p.1 p.2) acc).length ≤ acc.length + l.length := by
    intro l
    induction l with
    | nil => intro acc; simp
    | cons a l ih =>
      intro acc
      have h1 := ih (dset acc a.1 a.2)
      have h2 := dset_length_le acc a.1 a.2
      simp only [List.foldl_cons, List.length_cons]
      omega
  have h := this (ks.zip ps) []
  have : (ks.zip ps).length ≤ ks.length := by simp [List.length_zip]; exact Nat.min_le_left _ _
  simp at h; simp at this; omega

theorem dict_ok {g : Gl} {ks : List (Str × Pos)} {es : AEs} {pos : Pos} (hm : ∃ a o, sysModules < a ∧ cx.B.get? a = some o) (hlit : es.lits = true) (hl : ks.length = es.len) (hn : es.len ≤ 15) (t : St cx F m H s.heap)
    (h : awpL g es (fun vs H => alloc (.dict (dictOf (ks.map (·.1)) vs)) Q H) X m H) :
    Ev (Rep cx) cx F (eval (.Dict (ks.map fun x => some (.Constant (.str x.1) 0 x.2)) (es.toEs F.nm) pos) F.env) m H s Q X := by
  have hL : LIM = 1048576 := rfl
  have lenE : ∀ es : AEs, (es.toEs F.nm).length = es.len := fun es => by
    have : ∀ k (es : AEs), es.len = k → (es.toEs F.nm).length = k := by
      intro k
      induction k with
      | zero => intro es h; cases es <;> simp_all [AEs.len, AEs.toEs]
      | succ k ih => intro es h; cases es <;> simp_all [AEs.len, AEs.toEs]
    exact this _ es rfl
  have fr := get_size_none s.heap
  have nm : (s.heap.objs.size == sysModules) = false := by
    obtain ⟨a, o, la, e⟩ := hm
    have := Heap.lt_size (t.base _ _ e)
    simp only [beq_eq_false_iff_ne]
    intro q; rw [← q] at la; exact absurd (Nat.lt_trans la this) (Nat.lt_irrefl _)
  cases ks with
  | nil =>
    cases es with
    | cons _ _ => simp [AEs.len] at hl
    | nil =>
      refine wpAny_Dict_empty (M := cx.M) ?_
      refine .alloc (tk := s.toks) (a := s.heap.objs.size) push_keeps fr (.obj _) ?_ t (alloc_use h (t.heap.fresh fr))
      exact ⟨[], Heap.DictOf.new _, .nil, by simp [dictOf], nm⟩
  | cons k ks =>
    refine wpAny_Dict_walk (knd := cx.sk) (by simp) (by rw [lenE]; simpa using hl) (by simp) (by rw [List.length_map]; omega) ?_
    refine pairs_ok (H := H) (cx := cx) (k :: ks) es hlit hl h fun prs tk kvs ps c1 c2 c3 c4 => ?_
    have hD : (s.heap.push { cls := .type "dict", data := .dict #[] }).DictOf cx.sk s.heap.objs.size [] := Heap.DictOf.new _
    refine ⟨kvs, c1, hD, fun h' hm' sb => ?_⟩
    have keep : ∀ b o, s.heap.get? b = some o → h'.get? b = some o := fun b o e => by
      rw [sb.2 b (by rintro rfl; rw [fr] at e; cases e)]; exact push_keeps b o e
    have hk2 : kvs.length = ks.length + 1 := by have := congrArg List.length c2; simpa using this
    refine .alloc (a := s.heap.objs.size) keep fr (.obj _) ?_ t (alloc_use c4 (t.heap.fresh fr))
    refine ⟨_, hm', ?_, ?_, nm⟩
    · exact merged_rep c2 (c3 _) .nil
    · have := dictOf_len ((k :: ks).map (·.1)) ps
      simp only [List.length_map] at this
      simp only [List.length_cons] at this hl
      omega
end
end Mine
end
section
open PySem PySem.Calls PyProof.Rows
namespace Mine
set_option autoImplicit false

section
variable {cx : Cx} {g : Gl} {fl : List Str} {mg mb : Str → Option Value} {n : Nat}

theorem St.ns_g {F : Fm} {m : Loc} {H : AHeap} {h : Heap} {a : Addr} {mm : Str → Option Value} (t : St cx F m H h) (x : cx.B.Ns a mm) : h.Ns a mm := x.keeps t.base

theorem glob_ok {F : Fm} {kd : Kd} {q : Bool} {m : Loc} {H : AHeap} {s : Shared} {x : Str} {p : Pos} {v : Value} {QQ : Value → Shared → Prop} {E : Value → Shared → Prop} (fo : Fok cx n q kd F) (gk : isGlob kd x = true) (t : St cx F m H s.heap) (gns : cx.B.Ns cx.ga mg)
    (hv : mg x = some v) (hQ : QQ v s) : wpAny cx.M F.A (eval (.Name x p) F.env) QQ E s := by
  unfold isGlob at gk
  simp only [Bool.and_eq_true, beq_iff_eq, Bool.not_eq_true'] at gk
  refine Name_function_global fo.kind (by rw [fo.kdo]; exact gk.1) ?_ gk.2
  exact loadGlobal_global (by rw [fo.glob]; exact t.ns_g gns) hv hQ
theorem bglob_ok {F : Fm} {kd : Kd} {q : Bool} {m : Loc} {H : AHeap} {s : Shared} {x : Str} {p : Pos} {v : Value} {QQ : Value → Shared → Prop} {E : Value → Shared → Prop} (fo : Fok cx n q kd F) (gk : isGlob kd x = true) (t : St cx F m H s.heap) (gns : cx.B.Ns cx.ga mg) (bns : cx.B.Ns cx.ba mb)
    (hm : mg x = none) (hv : mb x = some v) (hQ : QQ v s) : wpAny cx.M F.A (eval (.Name x p) F.env) QQ E s := by
  unfold isGlob at gk
  simp only [Bool.and_eq_true, beq_iff_eq, Bool.not_eq_true'] at gk
  refine Name_function_global fo.kind (by rw [fo.kdo]; exact gk.1) ?_ gk.2
  exact loadGlobal_builtin (by rw [fo.glob]; exact t.ns_g gns) hm (by rw [fo.bltn]; exact t.ns_g bns) hv hQ

theorem var_ok {F : Fm} {kd : Kd} {q : Bool} {m : Loc} {H : AHeap} {s : Shared} {i : Nat} {p : Pos} {Q : Post} {X : XPost} (fo : Fok cx n q kd F) (hv : F.vis i = true) (hk : isVar kd (slot F.nm i) = true) (hd : (slot F.nm i == ("__debug__" : Str)) = false) (hcd : (slot F.nm i == ("__classdict__" : Str)) = false)
    (t : St cx F m H s.heap) (h : varW (m.getD i none) Q H) : Ev (Rep cx) cx F (eval (.Name (slot F.nm i) p) F.env) m H s Q X := by
  unfold varW at h
  split at h
  · rename_i v hm
    refine wpAny_Name ?_ hd
    unfold isVar at hk
    simp only [Bool.or_eq_true, beq_iff_eq] at hk
    have cellCase : F.env.kindOf (slot F.nm i) ≠ some .local → ∀ c, F.env.cells.lookup (slot F.nm i) = some c → ∃ y, s.heap.IsCell c (some y) ∧ Rep cx s.heap y v := fun nl c hc => by
      obtain ⟨_, _, o, x, ho, hd, hv'⟩ := t.cells _ c hc
      obtain ⟨y, rfl, r⟩ := hv' i v hv rfl nl hm
      exact ⟨y, ⟨o, ho, hd⟩, r⟩
    rcases hk with (hk | hk) | hk
    · obtain ⟨o, es, ep, mc, ho, hd, ns, hv'⟩ := t.vars
      have hl : F.env.kindOf (slot F.nm i) = some .local := by rw [fo.kdo]; exact hk
      obtain ⟨x, hx, r⟩ := hv' i v hv hl hm
      exact wpAny_loadName_local fo.kind hl ns hx (.toks s.toks r t h)
    · have hl : F.env.kindOf (slot F.nm i) = some .cell := by rw [fo.kdo]; exact hk
      obtain ⟨c, hc⟩ := fo.cells _ (.inl hk)
      obtain ⟨y, hy, r⟩ := cellCase (by rw [hl]; decide) c hc
      exact wpAny_loadName_cell fo.kind hl hc hy (.toks s.toks r t h)
    · have hl : F.env.kindOf (slot F.nm i) = some .free := by rw [fo.kdo]; exact hk
      obtain ⟨c, hc⟩ := fo.cells _ (.inr hk)
      obtain ⟨y, hy, r⟩ := cellCase (by rw [hl]; decide) c hc
      exact wpAny_loadName_free fo.kind hl hc hy (.toks s.toks r t h) hcd
  · exact h.elim

noncomputable def semL (nm : List Str) (env : Env) : AEs → List (Bool × Sem Value)
  | .nil => []
  | .cons e es => (false, eval (e.toE nm) env) :: semL nm env es
theorem starEach_toEs (nm : List Str) (env : Env) : ∀ es : AEs, starEach (es.toEs nm) env = semL nm env es
  | .nil => rfl
  | .cons e es => by
    show starEach (e.toE nm :: es.toEs nm) env = _
    rw [show starEach (e.toE nm :: es.toEs nm) env = (false, eval (e.toE nm) env) :: starEach (es.toEs nm) env by cases e <;> rfl, starEach_toEs nm env es]
    rfl
theorem backTo_sem (nm : List Str) (env : Env) (pos : Pos) : ∀ es : AEs, backTo pos (semL nm env es) = semL nm env es
  | .nil => rfl
  | .cons e es => by
    have := backTo_sem nm env pos es
    unfold backTo at this ⊢
    simp only [semL, List.map_cons, this]
    rfl
theorem semL_plain (nm : List Str) (env : Env) : ∀ es : AEs, ∀ x ∈ semL nm env es, x.1 = false
  | .nil, x, h => by simp [semL] at h
  | .cons e es, x, h => by
    rcases List.mem_cons.mp h with rfl | h
    · rfl
    · exact semL_plain nm env es x h
theorem len_toEs (nm : List Str) : ∀ es : AEs, (es.toEs nm).length = es.len
  | .nil => rfl
  | .cons e es => by simp [AEs.toEs, AEs.len, len_toEs nm es]
theorem folded_ok (nm : List Str) (env : Env) (e : AE) (x : Value) : foldedSetIterable (e.toE nm) env x = pure x := by cases e <;> rfl
theorem marked_ok (nm : List Str) (o : CmpOp) (e : AE) (t : Sem Value) : markedBehindIn o (e.toE nm) t = t := by cases e <;> rfl
theorem isTrue_plain (nm : List Str) (env : Env) (e : AE) (w : Sem Value) (h1 : ∀ x p, e ≠ .not x p) (h2 : ∀ o es p, e ≠ .bop o es p) (h3 : ∀ l o r p, e ≠ .cmp l o r p) :
    isTrue (e.toE nm) env w = (do let v ← w; standAt (e.toE nm).pos; holding [v] (truthy v)) := by
  cases e with
  | not x p => exact absurd rfl (h1 x p)
  | bop o es p => exact absurd rfl (h2 o es p)
  | cmp l o r p => exact absurd rfl (h3 l o r p)
  | _ => rfl
theorem subscripted_plain (nm : List Str) (e : AE) : ∀ o i, subscripted (e.toE nm) false o i = operate [o, i] (getItem o i) := fun _ _ => by cases e <;> rfl
theorem base_ok (nm : List Str) (env : Env) (e : AE) (a : Str) (w : Sem Value) (h : blbase e = true) : attributeBase (e.toE nm) a env w = w := by
  cases e with
  | call f es pf p =>
    cases es with
    | nil => simp [blbase] at h
    | cons e es => rfl
  | blt b es pf p =>
    cases es with
    | nil => simp [blbase] at h
    | cons e es => rfl
  | _ => rfl
end
end Mine
end
section
open PySem PySem.Calls PyProof.Rows
namespace Mine
set_option autoImplicit false

section
variable {cx : Cx} {g : Gl} {fl : List Str} {mg mb : Str → Option Value} {n : Nat}

/-- carry a value over a later step -/
theorem Ev.two {F : Fm} {m : Loc} {H : AHeap} {s : Shared} {X : XPost} {Q : Post} {α : Type} {β : Type} {R : Heap → α → β → Prop} {QQ : β → AHeap → Prop} {t : Sem α} {f : α → Sem Value}
    (h : Ev R cx F t m H s QQ X) (k : ∀ a b s₁ H₁, R s₁.heap a b → St cx F m H₁ s₁.heap → (∀ x o, s.heap.get? x = some o → Solid o → s₁.heap.get? x = some o) → QQ b H₁ → Ev (Rep cx) cx F (f a) m H₁ s₁ Q X) (t₀ : St cx F m H s.heap) :
    Ev (Rep cx) cx F (t >>= f) m H s Q X := Ev.bind h fun a b s₁ H₁ r st kp q => k a b s₁ H₁ r st (kp.solid0 t₀.heap) q

theorem Ev.mono_rep {F : Fm} {m : Loc} {H : AHeap} {s : Shared} {X : XPost} {Q : BPost} {t : Sem Value} (h : Ev IsB cx F t m H s Q X) : Ev (Rep cx) cx F t m H s (fun v H => ∃ b, v = .bool b ∧ Q b H) X :=
  wpAny_mono h (fun _ _ ⟨b, H', r, st, k, q⟩ => ⟨.bool b, H', by subst r; exact .bool b, st, k, b, rfl, q⟩) fun _ _ e => e
theorem Ev.weaken {α β : Type} {R : Heap → α → β → Prop} {F : Fm} {m : Loc} {H : AHeap} {s : Shared} {X : XPost} {Q Q' : β → AHeap → Prop} {t : Sem α} (h : Ev R cx F t m H s Q X) (k : ∀ b H, Q b H → Q' b H) : Ev R cx F t m H s Q' X :=
  wpAny_mono h (fun _ _ ⟨b, H', r, st, kp, q⟩ => ⟨b, H', r, st, kp, k b H' q⟩) fun _ _ e => e

theorem meth_case {F : Fm} {m : Loc} {H : AHeap} {s : Shared} {Q : Post} {X : XPost} {k : Meth} {o : AE} {es : AEs} {pa p : Pos}
    (hline : (pa.endLine == p.line) = true) (hlen : es.len ≤ 3) (hb : blbase o = true)
    (ho : Ev (Rep cx) cx F (eval (o.toE F.nm) F.env) m H s (fun v H => RecvW (awpL g es (fun vs H => methW k v vs Q H) X m H) H k v) X)
    (hes : ∀ {H : AHeap} {s : Shared} {QQ : List PV → AHeap → Prop}, St cx F m H s.heap → awpL g es QQ X m H → Ev (RepLs cx es.len) cx F (spliced (semL F.nm F.env es)) m H s QQ X) :
    Ev (Rep cx) cx F (eval (.Call (.Attribute (o.toE F.nm) k.name pa) (es.toEs F.nm) [] p) F.env) m H s Q X := by
  have hst : backTo p (starEach (es.toEs F.nm) F.env) = semL F.nm F.env es := by rw [starEach_toEs, backTo_sem]
  refine wpAny_Call_method_late (trees := semL F.nm F.env es) (base_ok _ _ _ _ _ hb) ?_ hline hst ?_
  · rw [hst]
    have : (semL F.nm F.env es).all (fun x => !x.1) = true := List.all_eq_true.mpr fun x hx => by rw [semL_plain _ _ _ x hx]; rfl
    rw [this, len_toEs]
    simp only [List.length_nil, List.isEmpty_nil, if_true]
    have : decide (es.len + 0 + 0 < 30) = true := by simp; omega
    rw [this]; rfl
  · refine wpAny_mono ho (fun ov s₁ h₁ => ?_) fun _ _ e => e
    obtain ⟨v, H₁, rv, t₁, k₁, hr⟩ := h₁
    have fin : awpL g es (fun vs H => methW k v vs Q H) X m H₁ → wpAny cx.M F.A (callWith p (.builtin k.id) [ov] (semL F.nm F.env es) []) (OkG (Rep cx) cx F m H s Q) (ErP cx F m H s X) s₁ := fun hw => by
      refine callWith_builtin ?_ ?_
      · rw [List.any_eq_false]; intro x hx; rw [semL_plain _ _ _ x hx]; decide
      · refine wpAny_mono (args_sem (semL_plain _ _ _) (hes t₁ hw) (QQ := fun a s₂ => wpAny cx.M F.A (call (.builtin k.id) ([ov] ++ a.pos) a.kw) (OkG (Rep cx) cx F m H s Q) (ErP cx F m H s X) s₂) fun vs s₂ h₂ => ?_) (fun _ _ h => h) fun _ _ e => e.older k₁
        obtain ⟨ps, H₂, rs, t₂, k₂, hm⟩ := h₂
        exact Ev.older (k₁.trans k₂) (meth_ok (rv.mono (k₂.solid0 t₁.heap)) rs.1 t₂ hm)
    cases hr with
    | list ha hk hw =>
      rename_i a xs
      obtain rfl := Rep.objI rv
      obtain ⟨items, nn, gg, _⟩ := t₁.list ha
      have e2 : ∀ b, Value.ref a = .ref b → ∃ ob, s₁.heap.get? b = some ob ∧ ob.dict = none := fun b e => by cases e; exact ⟨_, gg, rfl⟩
      cases k <;> cases hk
      · exact ⟨"list", _, PySem.F.plainAttrs_list, PySem.F.slot_list_append, PySem.F.type_list_append, ⟨_, gg, rfl⟩, e2, fin hw⟩
      · exact ⟨"list", _, PySem.F.plainAttrs_list, PySem.F.slot_list_pop, PySem.F.type_list_pop, ⟨_, gg, rfl⟩, e2, fin hw⟩
      · exact ⟨"list", _, PySem.F.plainAttrs_list, PySem.F.slot_list_insert, PySem.F.type_list_insert, ⟨_, gg, rfl⟩, e2, fin hw⟩
      · exact ⟨"list", _, PySem.F.plainAttrs_list, PySem.F.slot_list_count, PySem.F.type_list_count, ⟨_, gg, rfl⟩, e2, fin hw⟩
    | str hw =>
      obtain ⟨u, rfl⟩ := rv.strI
      exact ⟨"str", _, PySem.F.plainAttrs_str, PySem.F.slot_str_join, PySem.F.type_str_join, typeIs_str _ _ _, (fun _ e => nomatch e), fin hw⟩

variable (ck : Cok cx g fl mg mb n)
include ck

theorem call_case {F : Fm} {kd : Kd} {m : Loc} {H : AHeap} {s : Shared} {Q : Post} {X : XPost} {f : Str} {es : AEs} {pf p : Pos} (fo : Fok cx n true kd F) (t : St cx F m H s.heap)
    (hg : isGlob kd f = true) (hf : fl.contains f = true) (hw : awpL g es (fun vs H => g.C f vs H Q X) X m H)
    (hes : ∀ {H : AHeap} {s : Shared} {QQ : List PV → AHeap → Prop}, St cx F m H s.heap → awpL g es QQ X m H → Ev (RepLs cx es.len) cx F (spliced (semL F.nm F.env es)) m H s QQ X) :
    Ev (Rep cx) cx F (eval (.Call (.Name f pf) (es.toEs F.nm) [] p) F.env) m H s Q X := by
  obtain ⟨a, o, fd, hm, ho, hd⟩ := ck.fns f hf
  unfold Ev
  rw [arm_eval_Call_Name', starEach_toEs, backTo_sem]
  refine wpAny_bind (glob_ok fo hg t ck.gns hm ?_)
  refine callWith_function (o := o) (fd := fd) (first := []) ?_
  refine args_sem (semL_plain _ _ _) (hes t hw) fun vs s₂ h₂ => ?_
  obtain ⟨ps, H₂, rs, t₂, k₂, hc⟩ := h₂
  exact ⟨⟨t₂.base _ _ ho, hd⟩, Ev.older k₂ (ck.calls f hf hc fo hm rs.1 t₂)⟩

theorem blt_case {F : Fm} {kd : Kd} {q : Bool} {m : Loc} {H : AHeap} {s : Shared} {Q : Post} {X : XPost} {b : Blt} {es : AEs} {pf p : Pos} (fo : Fok cx n q kd F) (t : St cx F m H s.heap) (hh : F.A.handled = none)
    (hg : isGlob kd b.name = true) (hw : awpL g es (fun vs H => bltW b vs Q H) X m H)
    (hes : ∀ {H : AHeap} {s : Shared} {QQ : List PV → AHeap → Prop}, St cx F m H s.heap → awpL g es QQ X m H → Ev (RepLs cx es.len) cx F (spliced (semL F.nm F.env es)) m H s QQ X) :
    Ev (Rep cx) cx F (eval (.Call (.Name b.name pf) (es.toEs F.nm) [] p) F.env) m H s Q X := by
  obtain ⟨h1, h2⟩ := ck.blts b
  unfold Ev
  rw [arm_eval_Call_Name', starEach_toEs, backTo_sem]
  refine wpAny_bind (bglob_ok fo hg t ck.gns ck.bns h1 h2 ?_)
  have hany : (semL F.nm F.env es).any (·.1) = false := by rw [List.any_eq_false]; intro x hx; rw [semL_plain _ _ _ x hx]; decide
  have key : ∀ {f : Value}, f = b.val → wpAny cx.M F.A (evalArgs f true (semL F.nm F.env es) []) (fun a s₁ => wpAny cx.M F.A (call f ([] ++ a.pos) a.kw) (OkG (Rep cx) cx F m H s Q) (ErP cx F m H s X) s₁) (ErP cx F m H s X) s := by
    rintro f rfl
    refine args_sem (semL_plain _ _ _) (hes t hw) fun vs s₂ h₂ => ?_
    obtain ⟨ps, H₂, rs, t₂, k₂, hc⟩ := h₂
    exact Ev.older k₂ (blt_ok hh rs.1 t₂ hc)
  have hk := key rfl
  have hb : (∃ id, b.val = .builtin id) ∨ ∃ T, b.val = .type T := by cases b <;> first | exact .inl ⟨_, rfl⟩ | exact .inr ⟨_, rfl⟩
  generalize b.val = f at hk hb ⊢
  rcases hb with ⟨id, rfl⟩ | ⟨T, rfl⟩
  · exact callWith_builtin hany hk
  · exact PySem.callWith_type hany hk
end
end Mine
end
section
open PySem PySem.Calls PyProof.Rows
namespace Mine
set_option autoImplicit false
set_option linter.unusedSectionVars false
set_option linter.unusedVariables false

section
variable {cx : Cx} {g : Gl} {fl : List Str} {mg mb : Str → Option Value} {n : Nat}
variable (ck : Cok cx g fl mg mb n)

theorem tup_made {F : Fm} {m : Loc} {H : AHeap} {s : Shared} {vs : List Value} {ps : List PV} {Q : Post} {X : XPost} (r : RepL cx s.heap vs ps) (l : ps.length ≤ LIM) (t : St cx F m H s.heap) (h : Q (.tup ps) H) : Ev (Rep cx) cx F (newTuple vs) m H s Q X := by
  have hl := r.length
  have := LIM_le
  refine wpAny_newTuple ?_ (by omega)
  exact new_tup (tk := s.toks) (c := 0) t push_keeps (Heap.get?_push_size _ rfl) (by simpa using r) l h
theorem list_made {F : Fm} {m : Loc} {H : AHeap} {s : Shared} {vs : List Value} {ps : List PV} {Q : Post} {X : XPost} (r : RepL cx s.heap vs ps) (l : ps.length ≤ LIM) (t : St cx F m H s.heap) (h : alloc (.list ps) Q H) : Ev (Rep cx) cx F (newList vs) m H s Q X := by
  have hl := r.length
  have := LIM_le
  refine wpAny_newList ?_ (by omega)
  exact new_list (tk := s.toks) (c := 0) t push_keeps (get_size_none _) (Heap.get?_push_size _ rfl) (by simpa using r) l h

theorem truth_ok {F : Fm} {m : Loc} {H : AHeap} {s : Shared} {v : Value} {p : PV} {Q : BPost} {X : XPost} (r : Rep cx s.heap v p) (t : St cx F m H s.heap) (h : truthW p fun b => Q b H) : Ev IsBB cx F (truthy v) m H s Q X := by
  unfold truthW at h
  split at h
  · (first | (obtain ⟨_, rfl⟩ := Rep.intI r) | (obtain ⟨_, rfl⟩ := Rep.strI r) | (obtain rfl := Rep.objI r) | (obtain rfl := Rep.boolI r) | (obtain rfl := Rep.noneI r)); exact wpAny_truthy_bool (.toks s.toks rfl t h)
  · exact h.elim
theorem neg_ok {F : Fm} {m : Loc} {H : AHeap} {s : Shared} {i : Int} {u : Tok} {Q : Post} {X : XPost} (t : St cx F m H s.heap) (h : Q (.int (-i)) H) : Ev (Rep cx) cx F (unaryOp .USub (.int i u)) m H s Q X :=
  PyProof.Rows.neg_int (.toks _ (.int _ _) t h)
theorem not_ok {F : Fm} {m : Loc} {H : AHeap} {s : Shared} {b : Bool} {Q : Post} {X : XPost} (t : St cx F m H s.heap) (h : Q (.bool (!b)) H) : Ev (Rep cx) cx F (unaryOp .Not (.bool b)) m H s Q X :=
  PyProof.Rows.not_of (wpAny_truthy_bool (.toks s.toks (.bool _) t h))
theorem soundW {F : Fm} {m : Loc} {H : AHeap} {s : Shared} {Q : BPost} {X : XPost} (e : AE) (h1 : ∀ x p, e ≠ .not x p) (h2 : ∀ o es p, e ≠ .bop o es p) (h3 : ∀ l o r p, e ≠ .cmp l o r p)
    (h : Ev (Rep cx) cx F (eval (e.toE F.nm) F.env) m H s (fun v H => truthW v fun b => Q b H) X) : Ev IsBB cx F (isTrue (e.toE F.nm) F.env (eval (e.toE F.nm) F.env)) m H s Q X := by
  rw [isTrue_plain _ _ _ _ h1 h2 h3]
  exact Ev.bind h fun a pa s₁ H₁ ra t₁ k₁ h₁ => Ev.stand (Ev.holding (truth_ok ra t₁ h₁))

noncomputable def evalEachL (nm : List Str) (env : Env) : AEs → List (Sem Value)
  | .nil => []
  | .cons e es => eval (e.toE nm) env :: evalEachL nm env es
theorem evalEach_toEs (nm : List Str) (env : Env) : ∀ es : AEs, evalEach (es.toEs nm) env = evalEachL nm env es
  | .nil => rfl
  | .cons e es => by
    show eval (e.toE nm) env :: evalEach (es.toEs nm) env = _
    rw [evalEach_toEs nm env es]; rfl

include ck
theorem isi_case {F : Fm} {kd : Kd} {q : Bool} {m : Loc} {H : AHeap} {s : Shared} {Q : Post} {X : XPost} {e : AE} {c : ICls} {pf p1 p2 p3 p : Pos} (fo : Fok cx n q kd F) (hi : isGlob kd "isinstance" = true) (hc : iclsOk kd c = true) (t : St cx F m H s.heap)
    (h : Ev (Rep cx) cx F (eval (e.toE F.nm) F.env) m H s (fun v H => isiW c v (fun b => Q (.bool b) H) H) X) : Ev (Rep cx) cx F (eval ((AE.isi e c pf p1 p2 p3 p).toE F.nm) F.env) m H s Q X := by
  have hst : starEach [e.toE F.nm, c.expr p1 p2 p3] F.env = [(false, eval (e.toE F.nm) F.env), (false, eval (c.expr p1 p2 p3) F.env)] := by
    have h1 : ∀ r, starEach (e.toE F.nm :: r) F.env = (false, eval (e.toE F.nm) F.env) :: starEach r F.env := fun r => by cases e <;> rfl
    rw [h1]
    cases c <;> rfl
  show wpAny cx.M F.A (eval (.Call (.Name "isinstance" pf) [e.toE F.nm, c.expr p1 p2 p3] [] p) F.env) _ _ s
  rw [arm_eval_Call_Name', hst]
  refine wpAny_bind (bglob_ok fo hi t ck.gns ck.bns ck.isi.1 ck.isi.2 ?_)
  refine callWith_builtin rfl (evalArgs_plain (spliced_cons (wpAny_mono h (fun v s₁ h₁ => ?_) fun _ _ e => e)))
  obtain ⟨pv, H₁, rv, t₁, k₁, h₁⟩ := h₁
  have bt : ∀ (T : String), T ∈ ["str", "list", "tuple", "bool", "int", "ValueError"] → isGlob kd (Str.ofString T) = true → Ev (Rep cx) cx F (call (.builtin "isinstance") [v, .type T]) m H₁ s₁ Q X →
      wpAny cx.M F.A (spliced [(false, eval (.Name (Str.ofString T) p1) F.env)]) (fun vs s₂ => wpAny cx.M F.A (call (.builtin "isinstance") ([] ++ v :: vs) []) (OkG (Rep cx) cx F m H s Q) (ErP cx F m H s X) s₂) (ErP cx F m H s X) s₁ := fun T hT hg hw =>
    spliced_cons (bglob_ok fo hg t₁ ck.gns ck.bns (ck.bty T hT).1 (ck.bty T hT).2 (spliced_nil (Ev.older k₁ hw)))
  have bas : c.basic = true → (∀ T, c.T = some T → Ev (Rep cx) cx F (call (.builtin "isinstance") [v, .type T]) m H₁ s₁ Q X) →
      wpAny cx.M F.A (spliced [(false, eval (c.expr p1 p2 p3) F.env)]) (fun vs s₂ => wpAny cx.M F.A (call (.builtin "isinstance") ([] ++ v :: vs) []) (OkG (Rep cx) cx F m H s Q) (ErP cx F m H s X) s₂) (ErP cx F m H s X) s₁ := fun hb hT => by
    cases c <;> cases hb
    · exact bt "str" (by decide) hc (hT _ rfl)
    · exact bt "list" (by decide) hc (hT _ rfl)
    · exact bt "tuple" (by decide) hc (hT _ rfl)
    · exact bt "bool" (by decide) hc (hT _ rfl)
    · exact bt "int" (by decide) hc (hT _ rfl)
  cases isiW_to h₁ with
  | val b e q => exact bas b fun T hT => isi_val hT rv t₁ e q
  | list b ha q => obtain rfl := Rep.objI rv; exact bas b fun T hT => isi_list hT t₁ ha q
  | own q =>
    simp only [iclsOk, Bool.and_eq_true, beq_iff_eq] at hc
    obtain ⟨C, h3, h4⟩ := ck.own _ _ hc.2
    refine spliced_cons (glob_ok fo hc.1 t₁ ck.gns h4 (spliced_nil ?_))
    exact Ev.older k₁ (ck.isx rv t₁ h3 q)
  | value q => exact bt "ValueError" (by decide) hc (ck.isv rv t₁ q)

mutual
theorem soundE : ∀ (e : AE) {F : Fm} {kd : Kd} {q : Bool} {m : Loc} {H : AHeap} {s : Shared} {Q : Post} {X : XPost}, Fok cx n q kd F → okE fl F.nm q F.vis kd e = true → St cx F m H s.heap → awpE g e Q X m H →
    Ev (Rep cx) cx F (eval (e.toE F.nm) F.env) m H s Q X
  | .lit c k p, F, kd, q, m, H, s, Q, X, fo, ok, t, h => by
    obtain ⟨v, hv, h⟩ := litW_iff h
    exact lit_ok (cx := cx) hv fun x tk r => .toks tk (r _) t h
  | .var i p, F, kd, q, m, H, s, Q, X, fo, ok, t, h => by
    replace ok := (show (_ && _) = true from ok); simp only [Bool.and_eq_true, Bool.not_eq_true'] at ok
    exact var_ok fo ok.1.1.1 ok.1.1.2 ok.1.2 ok.2 t h
  | .glob x p, F, kd, q, m, H, s, Q, X, fo, ok, t, h => by
    have h' : varW (g.G x) Q H := h
    unfold varW at h'
    split at h'
    · rename_i v hv
      obtain ⟨w, hw, r⟩ := ck.consts x v hv
      exact glob_ok fo ok t ck.gns hw (.toks s.toks (r.mono fun b o e _ => t.base b o e) t h')
    · exact h'.elim
  | .bin l o r p, F, kd, q, m, H, s, Q, X, fo, ok, t, h => by
    replace ok := (show (_ && _) = true from ok); simp only [Bool.and_eq_true] at ok
    refine Ev.two (soundE l fo ok.1 t h) (fun a pa s₁ H₁ ra t₁ _ h₁ => ?_) t
    refine Ev.two (Ev.holding (soundE r fo ok.2 t₁ h₁)) (fun b pb s₂ H₂ rb t₂ so h₂ => ?_) t₁
    exact Ev.stand (wpAny_operating (bin_ok (ra.mono so) rb t₂ h₂))
  | .neg e p, F, kd, q, m, H, s, Q, X, fo, ok, t, h => by
    refine Ev.two (soundE e fo ok t h) (fun a pa s₁ H₁ ra t₁ _ h₁ => ?_) t
    refine Ev.stand (Ev.holding ?_)
    split at h₁
    · obtain ⟨u, rfl⟩ := ra.intI; exact neg_ok t₁ h₁
    · exact h₁.elim
  | .not e p, F, kd, q, m, H, s, Q, X, fo, ok, t, h => by
    refine Ev.two (soundE e fo ok t h) (fun a pa s₁ H₁ ra t₁ _ h₁ => ?_) t
    refine Ev.stand (Ev.holding ?_)
    unfold truthW at h₁
    split at h₁
    · cases ra; exact not_ok t₁ h₁
    · exact h₁.elim
  | .bop o es p, F, kd, q, m, H, s, Q, X, fo, ok, t, h => by
    show Ev (Rep cx) cx F (boolOp p o (evalEach (es.toEs F.nm) F.env)) m H s Q X
    rw [evalEach_toEs]
    exact soundV o p es fo ok t h
  | .cmp l o r p, F, kd, q, m, H, s, Q, X, fo, ok, t, h => by
    replace ok := (show (_ && _) = true from ok); simp only [Bool.and_eq_true] at ok
    refine Ev.two (soundE l fo ok.1 t h) (fun a pa s₁ H₁ ra t₁ _ h₁ => ?_) t
    show Ev (Rep cx) cx F (compareChain p a [o] [markedBehindIn o (r.toE F.nm) (eval (r.toE F.nm) F.env)]) m H₁ s₁ Q X
    rw [marked_ok]
    refine Ev.two (Ev.holding (soundE r fo ok.2 t₁ h₁)) (fun b pb s₂ H₂ rb t₂ so h₂ => ?_) t₁
    refine Ev.stand (wpAny_operating ?_)
    have hu := fo.units
    exact (Ev.mono_rep (cmp_ok (by omega) (ra.mono so) rb t₂ h₂)).weaken fun v H ⟨b, e, q⟩ => by subst e; exact q
  | .sub e i p, F, kd, q, m, H, s, Q, X, fo, ok, t, h => by
    replace ok := (show (_ && _) = true from ok); simp only [Bool.and_eq_true] at ok
    refine Ev.two (soundE e fo ok.1 t h) (fun a pa s₁ H₁ ra t₁ _ h₁ => ?_) t
    refine Ev.two (Ev.holding (soundE i fo ok.2 t₁ h₁)) (fun b pb s₂ H₂ rb t₂ so h₂ => ?_) t₁
    exact Ev.stand (sub_ok (subscripted_plain _ _) (ra.mono so) rb t₂ h₂)
  | .sfrom e i ps p, F, kd, q, m, H, s, Q, X, fo, ok, t, h => by
    replace ok := (show (_ && _) = true from ok); simp only [Bool.and_eq_true] at ok
    refine Subscript_ (wpAny_mono (soundE e fo ok.1 t h) (fun a s₁ h₁ => ?_) fun _ _ e => e)
    obtain ⟨pa, H₁, ra, t₁, k₁, h₁⟩ := h₁
    refine wpAny_bind (wpAny_mono (soundE i fo ok.2 t₁ h₁) (fun b s₂ h₂ => ?_) fun _ _ e => e.older k₁)
    obtain ⟨pb, H₂, rb, t₂, k₂, h₂⟩ := h₂
    refine wpAny_bind (wpAny_holding (wpAny_pure (wpAny_bind (wpAny_holding (wpAny_pure (wpAny_newObj_type ?_))))))
    exact Ev.older (((k₁.trans k₂)).trans (.grow (tk := s₂.toks) push_keeps fun _ _ _ e => e)) (sfrom_ok (fun _ _ => rfl) (ra.mono (k₂.solid0 t₁.heap)) rb t₂ h₂)
  | .sto e i ps p, F, kd, q, m, H, s, Q, X, fo, ok, t, h => by
    replace ok := (show (_ && _) = true from ok); simp only [Bool.and_eq_true] at ok
    refine Subscript_ (wpAny_mono (soundE e fo ok.1 t h) (fun a s₁ h₁ => ?_) fun _ _ e => e)
    obtain ⟨pa, H₁, ra, t₁, k₁, h₁⟩ := h₁
    refine wpAny_bind (wpAny_pure (wpAny_bind (wpAny_holding (wpAny_mono (soundE i fo ok.2 t₁ h₁) (fun b s₂ h₂ => ?_) fun _ _ e => e.older k₁))))
    obtain ⟨pb, H₂, rb, t₂, k₂, h₂⟩ := h₂
    refine wpAny_bind (wpAny_holding (wpAny_pure (wpAny_newObj_type ?_)))
    exact Ev.older (((k₁.trans k₂)).trans (.grow (tk := s₂.toks) push_keeps fun _ _ _ e => e)) (sto_ok (fun _ _ => rfl) (ra.mono (k₂.solid0 t₁.heap)) rb t₂ h₂)
  | .srev e c ps p cu, F, kd, q, m, H, s, Q, X, fo, ok, t, h => absurd (show false = true from ok) (by decide)
  | .tup es k p, F, kd, q, m, H, s, Q, X, fo, ok, t, h => by
    replace ok := (show (_ && _) = true from ok); simp only [Bool.and_eq_true, decide_eq_true_eq] at ok
    show Ev (Rep cx) cx F (do standAt p; newTuple (← spliced (backTo p (starEach (es.toEs F.nm) F.env)))) m H s Q X
    rw [starEach_toEs, backTo_sem]
    refine Ev.stand (Ev.two (soundL es fo ok.1 t h) (fun a ps s₁ H₁ ra t₁ _ h₁ => ?_) t)
    have hL : LIM = 1048576 := rfl
    have hl := ra.2
    exact tup_made ra.1 (by omega) t₁ h₁
  | .list es p, F, kd, q, m, H, s, Q, X, fo, ok, t, h => by
    replace ok := (show (_ && _) = true from ok); simp only [Bool.and_eq_true, decide_eq_true_eq] at ok
    show Ev (Rep cx) cx F (do standAt p; newList (← spliced (backTo p (starEach (es.toEs F.nm) F.env)))) m H s Q X
    rw [starEach_toEs, backTo_sem]
    refine Ev.stand (Ev.two (soundL es fo ok.1 t h) (fun a ps s₁ H₁ ra t₁ _ h₁ => ?_) t)
    have hL : LIM = 1048576 := rfl
    have hl := ra.2
    exact list_made ra.1 (by omega) t₁ h₁
  | .tape pc p, F, kd, q, m, H, s, Q, X, fo, ok, t, h => by
    refine Ev.stand (f := fun _ => spliced [(false, eval (.Constant (.int 0) 0 pc) F.env)] >>= fun vs => newList vs) ?_
    refine wpAny_bind (spliced_cons (lit_ok (cx := cx) (v := .int 0) rfl fun x tk r => spliced_nil ?_))
    obtain ⟨u, rfl⟩ := (r s.heap).intI
    refine wpAny_newList ?_ (by rw [sizeLine_eq]; simp)
    have fr := get_size_none s.heap
    have ro : RepO cx (s.heap.push (lstObj #[.int 0 u] 0)) s.heap.objs.size (.tape 0) := ⟨u, 0, Heap.get?_push_size _ rfl⟩
    exact .alloc (a := s.heap.objs.size) push_keeps fr (.obj _) ro t (alloc_use h (t.heap.fresh fr))
  | .dict ks vs p, F, kd, q, m, H, s, Q, X, fo, ok, t, h => by
    replace ok := (show (_ && _) = true from ok); simp only [Bool.and_eq_true, decide_eq_true_eq] at ok
    exact dict_ok ck.mods ok.1.1 ok.1.2 ok.2 t h
  | .call f es pf p, F, kd, q, m, H, s, Q, X, fo, ok, t, h => by
    replace ok := (show (_ && _) = true from ok); simp only [Bool.and_eq_true] at ok
    obtain ⟨⟨⟨rfl, hg⟩, hf⟩, hes⟩ := ok
    exact call_case ck fo t hg hf h fun t' h' => soundL es fo hes t' h'
  | .blt b es pf p, F, kd, q, m, H, s, Q, X, fo, ok, t, h => by
    replace ok := (show (_ && _) = true from ok); simp only [Bool.and_eq_true] at ok
    exact blt_case ck fo t (fo.quiet ok.1.1) ok.1.2 h fun t' h' => soundL es fo ok.2 t' h'
  | .isi e c pf p1 p2 p3 p, F, kd, q, m, H, s, Q, X, fo, ok, t, h => by
    replace ok := (show (_ && _) = true from ok); simp only [Bool.and_eq_true] at ok
    exact isi_case ck fo ok.1.1 ok.1.2 t (soundE e fo ok.2 t h)
  | .meth o k es pa p, F, kd, q, m, H, s, Q, X, fo, ok, t, h => by
    replace ok := (show (_ && _) = true from ok); simp only [Bool.and_eq_true, decide_eq_true_eq] at ok
    exact meth_case ok.1.1.2 ok.1.2 ok.2 (soundE o fo ok.1.1.1.1 t h) fun t' h' => soundL es fo ok.1.1.1.2 t' h'
  | .umeth .., F, kd, q, m, H, s, Q, X, fo, ok, t, h => absurd (show false = true from ok) (by decide)
  | .attr .., F, kd, q, m, H, s, Q, X, fo, ok, t, h => absurd (show false = true from ok) (by decide)
  | .comp e x px it cs sc p, F, kd, q, m, H, s, Q, X, fo, ok, t, h => by
    replace ok := (show (_ && _) = true from ok); simp only [Bool.and_eq_true, decide_eq_true_eq] at ok
    obtain ⟨⟨⟨⟨⟨hit, hsc⟩, he⟩, hcs⟩, hlen⟩, rfl⟩ := ok
    refine comp_ok (aT := fun Q m H => awpC g cs Q (fun _ _ => False) m H) (aE := fun Q m H => awpE g e Q (fun _ _ => False) m H) fo hsc (soundE it fo hit t h) (fun {cl C m' H s Q} fo' t' h' => ?_) (fun {cl C m' H s Q} fo' t' h' => ?_) (folded_ok _ _ _)
    · exact soundC cs fo' hcs hlen t' h'
    · exact soundE e fo' he t' h'
theorem soundL : ∀ (es : AEs) {F : Fm} {kd : Kd} {q : Bool} {m : Loc} {H : AHeap} {s : Shared} {Q : List PV → AHeap → Prop} {X : XPost}, Fok cx n q kd F → okEs fl F.nm q F.vis kd es = true → St cx F m H s.heap → awpL g es Q X m H →
    Ev (RepLs cx es.len) cx F (spliced (semL F.nm F.env es)) m H s Q X
  | .nil, F, kd, q, m, H, s, Q, X, fo, ok, t, h => spliced_nil (.toks s.toks ⟨.nil, rfl⟩ t h)
  | .cons e es, F, kd, q, m, H, s, Q, X, fo, ok, t, h => by
    replace ok := (show (_ && _) = true from ok); simp only [Bool.and_eq_true] at ok
    refine spliced_cons (wpAny_mono (soundE e fo ok.1 t h) (fun v s₁ h₁ => ?_) fun _ _ x => x)
    obtain ⟨pv, H₁, rv, t₁, k₁, h₁⟩ := h₁
    refine wpAny_mono (soundL es fo ok.2 t₁ h₁) (fun vs s₂ h₂ => ?_) fun _ _ x => x.older k₁
    obtain ⟨ps, H₂, rs, t₂, k₂, h₂⟩ := h₂
    exact ⟨pv :: ps, H₂, ⟨.cons (rv.mono (k₂.solid0 t₁.heap)) rs.1, by simp [AEs.len, rs.2]⟩, t₂, k₁.trans k₂, h₂⟩
theorem soundV : ∀ (o : BoolOp) (p : Pos) (es : AEs) {F : Fm} {kd : Kd} {q : Bool} {m : Loc} {H : AHeap} {s : Shared} {Q : Post} {X : XPost}, Fok cx n q kd F → okEs fl F.nm q F.vis kd es = true → St cx F m H s.heap → awpV g o es Q X m H →
    Ev (Rep cx) cx F (boolOp p o (evalEachL F.nm F.env es)) m H s Q X
  | _, _, .nil, _, _, _, _, _, _, _, _, _, _, _, h => by simp [awpV] at h
  | o, p, .cons e .nil, F, kd, q, m, H, s, Q, X, fo, ok, t, h => by
    replace ok := (show (_ && _) = true from ok); simp only [Bool.and_eq_true] at ok
    have h' : awpE g e Q X m H := by simpa [awpV] using h
    exact soundE e fo ok.1 t h'
  | o, p, .cons e (.cons e' es), F, kd, q, m, H, s, Q, X, fo, ok, t, h => by
    replace ok := (show (_ && _) = true from ok); simp only [Bool.and_eq_true] at ok
    have ok' : okEs fl F.nm q F.vis kd (.cons e' es) = true := ok.2
    refine Ev.two (soundE e fo ok.1 t h) (fun a pa s₁ H₁ ra t₁ _ h₁ => ?_) t
    unfold truthW at h₁
    split at h₁
    · rename_i b
      cases ra
      refine Ev.stand (wpAny_bind (wpAny_holding (wpAny_truthy_bool ?_)))
      cases o <;> cases b
      · exact Ev.pure (.bool _) t₁ h₁
      · exact soundV .And p (.cons e' es) fo ok' t₁ h₁
      · exact soundV .Or p (.cons e' es) fo ok' t₁ h₁
      · exact Ev.pure (.bool _) t₁ h₁
    · exact h₁.elim
theorem soundB : ∀ (e : AE) {F : Fm} {kd : Kd} {q : Bool} {m : Loc} {H : AHeap} {s : Shared} {Q : BPost} {X : XPost}, Fok cx n q kd F → okE fl F.nm q F.vis kd e = true →
    (∀ {m : Loc} {H : AHeap} {s : Shared} {Q : Post} {X : XPost}, St cx F m H s.heap → awpE g e Q X m H → Ev (Rep cx) cx F (eval (e.toE F.nm) F.env) m H s Q X) → St cx F m H s.heap → awpB g e (awpE g e) Q X m H →
    Ev IsBB cx F (isTrue (e.toE F.nm) F.env (eval (e.toE F.nm) F.env)) m H s Q X
  | .not e p, F, kd, q, m, H, s, Q, X, fo, ok, hW, t, h => by
    refine Ev.bind (soundB e fo ok (fun t h => soundE e fo ok t h) t h) fun b b' s₁ H₁ rb t₁ k₁ h₁ => ?_
    have rb : b = b' := rb
    subst rb
    exact Ev.pure rfl t₁ h₁
  | .bop o es p, F, kd, q, m, H, s, Q, X, fo, ok, hW, t, h => soundBs o es fo ok t h
  | .cmp l o r p, F, kd, q, m, H, s, Q, X, fo, ok, hW, t, h => by
    replace ok := (show (_ && _) = true from ok); simp only [Bool.and_eq_true] at ok
    refine Ev.bind (soundE l fo ok.1 t h) fun a pa s₁ H₁ ra t₁ k₁ h₁ => ?_
    show Ev IsBB cx F (testChain p a [o] [markedBehindIn o (r.toE F.nm) (eval (r.toE F.nm) F.env)]) m H₁ s₁ Q X
    rw [marked_ok]
    refine Ev.bind (Ev.holding (soundE r fo ok.2 t₁ h₁)) fun b pb s₂ H₂ rb t₂ k₂ h₂ => ?_
    have hu := fo.units
    refine Ev.stand (Ev.bind (wpAny_operating (cmp_ok (by omega) (ra.mono (k₂.solid0 t₁.heap)) rb t₂ h₂)) fun c c' s₃ H₃ rc t₃ k₃ h₃ => ?_)
    have rc : c = .bool c' := rc
    subst rc
    exact Ev.holding (wpAny_truthy_bool (.toks s₃.toks rfl t₃ h₃))
  | .lit c k p, F, kd, q, m, H, s, Q, X, fo, ok, hW, t, h => soundW _ (fun _ _ => (nomatch ·)) (fun _ _ _ => (nomatch ·)) (fun _ _ _ _ => (nomatch ·)) (hW t h)
  | .var i p, F, kd, q, m, H, s, Q, X, fo, ok, hW, t, h => soundW _ (fun _ _ => (nomatch ·)) (fun _ _ _ => (nomatch ·)) (fun _ _ _ _ => (nomatch ·)) (hW t h)
  | .glob x p, F, kd, q, m, H, s, Q, X, fo, ok, hW, t, h => soundW _ (fun _ _ => (nomatch ·)) (fun _ _ _ => (nomatch ·)) (fun _ _ _ _ => (nomatch ·)) (hW t h)
  | .bin l o r p, F, kd, q, m, H, s, Q, X, fo, ok, hW, t, h => soundW _ (fun _ _ => (nomatch ·)) (fun _ _ _ => (nomatch ·)) (fun _ _ _ _ => (nomatch ·)) (hW t h)
  | .neg e p, F, kd, q, m, H, s, Q, X, fo, ok, hW, t, h => soundW _ (fun _ _ => (nomatch ·)) (fun _ _ _ => (nomatch ·)) (fun _ _ _ _ => (nomatch ·)) (hW t h)
  | .sub e i p, F, kd, q, m, H, s, Q, X, fo, ok, hW, t, h => soundW _ (fun _ _ => (nomatch ·)) (fun _ _ _ => (nomatch ·)) (fun _ _ _ _ => (nomatch ·)) (hW t h)
  | .sfrom e i ps p, F, kd, q, m, H, s, Q, X, fo, ok, hW, t, h => soundW _ (fun _ _ => (nomatch ·)) (fun _ _ _ => (nomatch ·)) (fun _ _ _ _ => (nomatch ·)) (hW t h)
  | .sto e i ps p, F, kd, q, m, H, s, Q, X, fo, ok, hW, t, h => soundW _ (fun _ _ => (nomatch ·)) (fun _ _ _ => (nomatch ·)) (fun _ _ _ _ => (nomatch ·)) (hW t h)
  | .srev e c ps p cu, F, kd, q, m, H, s, Q, X, fo, ok, hW, t, h => soundW _ (fun _ _ => (nomatch ·)) (fun _ _ _ => (nomatch ·)) (fun _ _ _ _ => (nomatch ·)) (hW t h)
  | .tup es k p, F, kd, q, m, H, s, Q, X, fo, ok, hW, t, h => soundW _ (fun _ _ => (nomatch ·)) (fun _ _ _ => (nomatch ·)) (fun _ _ _ _ => (nomatch ·)) (hW t h)
  | .list es p, F, kd, q, m, H, s, Q, X, fo, ok, hW, t, h => soundW _ (fun _ _ => (nomatch ·)) (fun _ _ _ => (nomatch ·)) (fun _ _ _ _ => (nomatch ·)) (hW t h)
  | .tape pc p, F, kd, q, m, H, s, Q, X, fo, ok, hW, t, h => soundW _ (fun _ _ => (nomatch ·)) (fun _ _ _ => (nomatch ·)) (fun _ _ _ _ => (nomatch ·)) (hW t h)
  | .dict ks vs p, F, kd, q, m, H, s, Q, X, fo, ok, hW, t, h => soundW _ (fun _ _ => (nomatch ·)) (fun _ _ _ => (nomatch ·)) (fun _ _ _ _ => (nomatch ·)) (hW t h)
  | .call f es pf p, F, kd, q, m, H, s, Q, X, fo, ok, hW, t, h => soundW _ (fun _ _ => (nomatch ·)) (fun _ _ _ => (nomatch ·)) (fun _ _ _ _ => (nomatch ·)) (hW t h)
  | .blt b es pf p, F, kd, q, m, H, s, Q, X, fo, ok, hW, t, h => soundW _ (fun _ _ => (nomatch ·)) (fun _ _ _ => (nomatch ·)) (fun _ _ _ _ => (nomatch ·)) (hW t h)
  | .isi e c pf p1 p2 p3 p, F, kd, q, m, H, s, Q, X, fo, ok, hW, t, h => soundW _ (fun _ _ => (nomatch ·)) (fun _ _ _ => (nomatch ·)) (fun _ _ _ _ => (nomatch ·)) (hW t h)
  | .meth o k es pa p, F, kd, q, m, H, s, Q, X, fo, ok, hW, t, h => soundW _ (fun _ _ => (nomatch ·)) (fun _ _ _ => (nomatch ·)) (fun _ _ _ _ => (nomatch ·)) (hW t h)
  | .umeth .., F, kd, q, m, H, s, Q, X, fo, ok, hW, t, h => absurd (show false = true from ok) (by decide)
  | .attr .., F, kd, q, m, H, s, Q, X, fo, ok, hW, t, h => absurd (show false = true from ok) (by decide)
  | .comp e x px it cs sc p, F, kd, q, m, H, s, Q, X, fo, ok, hW, t, h => soundW _ (fun _ _ => (nomatch ·)) (fun _ _ _ => (nomatch ·)) (fun _ _ _ _ => (nomatch ·)) (hW t h)
theorem soundBs : ∀ (o : BoolOp) (es : AEs) {F : Fm} {kd : Kd} {q : Bool} {m : Loc} {H : AHeap} {s : Shared} {Q : BPost} {X : XPost}, Fok cx n q kd F → okEs fl F.nm q F.vis kd es = true → St cx F m H s.heap → awpBs g o es Q X m H →
    Ev IsBB cx F (allTrue o (es.toEs F.nm) F.env) m H s Q X
  | o, .nil, F, kd, q, m, H, s, Q, X, fo, ok, t, h => Ev.pure rfl t h
  | o, .cons e es, F, kd, q, m, H, s, Q, X, fo, ok, t, h => by
    replace ok := (show (_ && _) = true from ok); simp only [Bool.and_eq_true] at ok
    refine Ev.bind (soundB e fo ok.1 (fun t h => soundE e fo ok.1 t h) t h) fun b b' s₁ H₁ rb t₁ k₁ h₁ => ?_
    have rb : b = b' := rb
    subst rb
    cases o <;> cases b
    · exact Ev.pure rfl t₁ h₁
    · exact soundBs .And es fo ok.2 t₁ h₁
    · exact soundBs .Or es fo ok.2 t₁ h₁
    · exact Ev.pure rfl t₁ h₁
theorem soundC : ∀ (cs : AEs) {F : Fm} {kd : Kd} {q : Bool} {m : Loc} {H : AHeap} {s : Shared} {Q : BPost} {X : XPost}, Fok cx n q kd F → okEs fl F.nm q F.vis kd cs = true → cs.len ≤ 1 → St cx F m H s.heap → awpC g cs Q X m H →
    Ev IsBB cx F (testsSem (cs.toEs F.nm) F.env) m H s Q X
  | .nil, F, kd, q, m, H, s, Q, X, fo, ok, hl, t, h => wpAny_tests_nil (.toks s.toks rfl t h)
  | .cons c .nil, F, kd, q, m, H, s, Q, X, fo, ok, hl, t, h => by
    replace ok := (show (_ && _) = true from ok); simp only [Bool.and_eq_true] at ok
    exact wpAny_tests_one (soundB c fo ok.1 (fun t h => soundE c fo ok.1 t h) t h)
  | .cons c (.cons d ds), F, kd, q, m, H, s, Q, X, fo, ok, hl, t, h => by simp [AEs.len] at hl
end
end
end Mine
end
section
open PySem PySem.Calls PyProof.Rows
namespace Mine
set_option autoImplicit false


/-- the error's own record and its traceback change, of frames the slots alone -/
structure Fly (F : Fm) (e : Addr) (P : Addr → Prop) (h h' : Heap) : Prop where
  oth : ∀ b o, h.get? b = some o → b ≠ e → ¬ P b → h'.get? b = some o ∨ ((∃ env ∈ F.fs, env.frame = some b) ∧ ∃ sl, h'.get? b = some { o with slots := sl })
  exc : ∀ o vs, h.get? e = some o → o.data = .fields vs → ∃ o' vs', h'.get? e = some o' ∧ (o'.cls = o.cls ∧ o'.dict = o.dict) ∧ o'.data = .fields vs'
  tb : ∀ b, P b → b ≠ e ∧ ∃ o ts, h.get? b = some o ∧ o.cls = .type "traceback" ∧ o.data = .fields ts

theorem dict_mapFields (f : Array Value → Array Value) (o : Obj) : (Obj.mapFields f o).dict = o.dict := by
  obtain ⟨c, d, dt, sl⟩ := o
  cases dt <;> rfl

section
variable {cx : Cx} {F : Fm} {m : Loc} {H H₁ : AHeap} {s s₁ : Shared} {e : Addr} {P : Addr → Prop}

theorem St.fly {h h' : Heap} (t : St cx F m H h) (f : Fly F e P h h') (he : ∃ o C vs, h.get? e = some o ∧ o.cls = .ref C ∧ o.data = .fields vs) (hB : cx.B.get? e = none) (hP : ∀ b, P b → cx.B.get? b = none) : St cx F m H h' := by
  obtain ⟨oe, C, vs, ge, hc, hd⟩ := he
  obtain ⟨oe', vs', ge', hc', hd'⟩ := f.exc oe vs ge hd
  have nP : ∀ b o, h.get? b = some o → (∀ ts, o.data ≠ .fields ts) → b ≠ e ∧ ¬ P b := fun b o g n => ⟨by rintro rfl; rw [ge] at g; cases g; exact n _ hd, fun p => by
    obtain ⟨_, ob, ts, g', _, d⟩ := f.tb b p; rw [g] at g'; cases g'; exact n _ d⟩
  have frame : ∀ b, (∃ env ∈ F.fs, env.frame = some b) → H b = none ∧ cx.B.get? b = none ∧ ∃ o es ep, h.get? b = some o ∧ o.data = .dict es ep := fun b ⟨env, hm, hf⟩ => by
    obtain ⟨_, L, o, es, ep, hf', hH, hb, ho, hd⟩ := t.frames env hm
    rw [hf] at hf'; cases hf'
    exact ⟨hH, hb, o, es, ep, ho, hd⟩
  have notF : ∀ b o, h.get? b = some o → (∀ es ep, o.data ≠ .dict es ep) → ¬ ∃ env ∈ F.fs, env.frame = some b := fun b o g n q => by
    obtain ⟨_, _, o', es, ep, g', d⟩ := frame b q; rw [g] at g'; cases g'; exact n _ _ d
  have so : ∀ b o, h.get? b = some o → Solid o → h'.get? b = some o ∨ ((∃ C, o.cls = .ref C) ∧ ∃ o' vs', h'.get? b = some o' ∧ (o'.cls = o.cls ∧ o'.dict = o.dict) ∧ o'.data = .fields vs') := fun b o g sl => by
    by_cases q : b = e
    · subst q; rw [ge] at g; cases g; exact .inr ⟨⟨C, hc⟩, oe', vs', ge', hc', hd'⟩
    · by_cases p : P b
      · obtain ⟨_, ob, ts, g', c', d⟩ := f.tb b p
        rw [g] at g'; cases g'
        exact absurd sl (notSolid_of c' (by decide) d)
      · exact .inl ((f.oth b o g q p).resolve_right fun x => notF b o g sl.notLoc.1 x.1)
  have keepA : ∀ b o, H b = some o → ∀ ob, h.get? b = some ob → h'.get? b = some ob := fun b o hb ob g => by
    obtain ⟨ob', g', ns, nf⟩ := (t.heap b o hb).get
    rw [g] at g'; cases g'
    obtain ⟨n1, n2⟩ := nP b ob g nf
    exact (f.oth b ob g n1 n2).resolve_right fun x => by have := (frame b x.1).1; rw [hb] at this; cases this
  have upto : ∀ b o, h.get? b = some o → (∀ ts, o.data ≠ .fields ts) → ∃ sl, h'.get? b = some { o with slots := sl } := fun b o g n => by
    obtain ⟨n1, n2⟩ := nP b o g n
    rcases f.oth b o g n1 n2 with g' | ⟨_, sl, g'⟩
    · exact ⟨o.slots, g'⟩
    · exact ⟨sl, g'⟩
  refine ⟨fun b o g => ?_, t.off, fun a o ha => ?_, fun env hm => ?_, t.own, ?_, fun n c hc' => ?_⟩
  · have g1 := t.base b o g
    refine (f.oth b o g1 (by rintro rfl; rw [hB] at g; cases g) (fun p => by rw [hP b p] at g; cases g)).resolve_right fun x => ?_
    have := (frame b x.1).2.1; rw [g] at this; cases this
  · have r := t.heap a o ha
    cases o with
    | list xs => obtain ⟨items, n, e, r, l⟩ := r; exact ⟨items, n, keepA _ _ ha _ e, r.mono' so, l⟩
    | tape k => obtain ⟨t, n, e⟩ := r; exact ⟨t, n, keepA _ _ ha _ e⟩
    | dict kvs => obtain ⟨vs, d, r, l⟩ := r; exact ⟨vs, (let ⟨o, es, ep, ho, y⟩ := d; ⟨o, es, ep, keepA _ _ ha _ ho, y⟩), r.mono' so, l⟩
    | inst c d => obtain ⟨C, x, e⟩ := r; exact ⟨C, x, keepA _ _ ha _ e⟩
  · obtain ⟨hk, L, o, es, ep, hf, hH, hb, ho, hd⟩ := t.frames env hm
    obtain ⟨sl, g'⟩ := upto L o ho (fun ts q => by rw [hd] at q; cases q)
    exact ⟨hk, L, _, es, ep, hf, hH, hb, g', hd⟩
  · obtain ⟨o, es, ep, mc, ho, hd, ⟨o1, es1, ep1, ho1, hd1, hk1, hm1⟩, hv⟩ := t.vars
    rw [ho] at ho1; cases ho1
    obtain ⟨sl, g'⟩ := upto _ o ho (fun ts q => by rw [hd] at q; cases q)
    exact ⟨_, es, ep, mc, g', hd, ⟨_, es1, ep1, g', hd1, hk1, hm1⟩, fun i v h1 h2 h3 => let ⟨x, q, r⟩ := hv i v h1 h2 h3; ⟨x, q, r.mono' so⟩⟩
  · obtain ⟨h1, h2, o, x, ho, hd, hv⟩ := t.cells n c hc'
    have n0 : ∀ ts, o.data ≠ .fields ts := fun ts q => by rw [hd] at q; cases q
    obtain ⟨n1, n2⟩ := nP c o ho n0
    have g' := (f.oth c o ho n1 n2).resolve_right fun x => notF c o ho (fun _ _ q => by rw [hd] at q; cases q) x.1
    exact ⟨h1, h2, o, x, g', hd, fun i v a b c d => let ⟨y, q, r⟩ := hv i v a b c d; ⟨y, q, r.mono' so⟩⟩

theorem Kp.fly {S : List Addr} {h' : Heap} (k : Kp cx S H s H₁ s₁) (t : St cx F m H₁ s₁.heap) (f : Fly F e P s₁.heap h') (fe : s.heap.get? e = none) (fP : ∀ b, P b → s.heap.get? b = none) (hB : cx.B.get? e = none) (hP : ∀ b, P b → cx.B.get? b = none) :
    Kp cx S H s H₁ { s₁ with heap := h' } := by
  have frame : ∀ b, (∃ env ∈ F.fs, env.frame = some b) → cx.B.get? b = none ∧ ∃ o es ep, s₁.heap.get? b = some o ∧ o.data = .dict es ep := fun b ⟨env, hm, hf⟩ => by
    obtain ⟨_, L, o, es, ep, hf', hH, hb, ho, hd⟩ := t.frames env hm
    rw [hf] at hf'; cases hf'
    exact ⟨hb, o, es, ep, ho, hd⟩
  have step : ∀ b o, s.heap.get? b = some o → ∀ o₁, s₁.heap.get? b = some o₁ → ∃ o', h'.get? b = some o' ∧ SameO o₁ o' := fun b o g o₁ g₁ => by
    rcases f.oth b o₁ g₁ (by rintro rfl; rw [fe] at g; cases g) (fun p => by rw [fP b p] at g; cases g) with g' | ⟨fr, sl, g'⟩
    · exact ⟨o₁, g', .refl _⟩
    · obtain ⟨_, o2, es, ep, g2, d⟩ := frame b fr
      rw [g₁] at g2; cases g2
      exact ⟨_, g', .inr ⟨⟨es, ep, d⟩, sl, rfl⟩⟩
  refine ⟨?_, fun b o g nS hn => ?_, fun b o g => ?_, fun b o gB g => ?_⟩
  · obtain ⟨h, tk, e⟩ := k.same; exact ⟨h', tk, by rw [e]⟩
  · obtain ⟨h1, o₁, g₁, sm⟩ := k.keep b o g nS hn
    obtain ⟨o', g', sm'⟩ := step b o g o₁ g₁
    exact ⟨h1, o', g', sm.trans sm'⟩
  · obtain ⟨o₁, g₁⟩ := k.alive b o g
    obtain ⟨o', g', _⟩ := step b o g o₁ g₁
    exact ⟨o', g'⟩
  · have g₁ := k.base b o gB g
    refine (f.oth b o g₁ (by rintro rfl; rw [hB] at gB; cases gB) (fun p => by rw [hP b p] at gB; cases gB)).resolve_right fun x => ?_
    have := (frame b x.1).1; rw [gB] at this; cases this

/-- an error in flight, its traceback's top entry standing in the frame -/
inductive ExcAt (cx : Cx) (h₀ h : Heap) (e : Addr) (c : Nat) (v3 : Value) : Prop
  | mk (n : h₀.get? e = none) (oe : Obj) (vs : Array Value) (C : Addr) (a0 : Value) (g : h.get? e = some oe) (k : oe.cls = .ref C) (x : cx.cls c = some C ∧ oe.dict = none) (d : oe.data = .fields vs) (z : vs[0]? = some a0)
    (T : Addr) (oT : Obj) (ts : Array Value) (b1 : vs[1]? = some (.ref T)) (b2 : h₀.get? T = none) (b3 : T ≠ e) (b4 : h.get? T = some oT) (b5 : oT.cls = .type "traceback") (b6 : oT.data = .fields ts) (b7 : ts[3]? = some v3) : ExcAt cx h₀ h e c v3
abbrev ExcIn (cx : Cx) (L : Addr) (h₀ h : Heap) (e : Addr) (c : Nat) : Prop := ExcAt cx h₀ h e c (rawInt L)
theorem ExcIn.exc {L : Addr} {h₀ h : Heap} {c : Nat} (x : ExcIn cx L h₀ h e c) : Exc cx (some L) h₀ h e c := by
  obtain ⟨a, oe, vs, C, a0, b, c, d, f, g, T, oT, ts, h1, h2, h3, h4, h5, h6, h7⟩ := x
  exact ⟨a, oe, vs, C, a0, b, c, d, f, g, .inr ⟨T, oT, ts, h1, h2, h3, h4, h5, h6, .inr ⟨L, rfl, h7⟩⟩⟩

theorem funFrames_of {h : Heap} (hh : ∀ env ∈ F.fs, FrAt cx H h env) : ∀ l : List Env, (∀ env ∈ l, env ∈ F.fs) → h.FunFrames cx.B l
  | [], _ => trivial
  | env :: r, hl => by
    obtain ⟨hk, L, o, es, ep, hf, _, hb, ho, hd⟩ := hh env (hl env List.mem_cons_self)
    exact ⟨hk, ⟨L, o, hf, hb, ho, fun vs q => by rw [hd] at q; cases q⟩, funFrames_of hh r fun x hx => hl x (List.mem_cons_of_mem _ hx)⟩

theorem entry_own {A : Around} {outer : List Env} {L : Addr} {oe : Obj} {vs : Array Value} {head : Value} {hadNext : Bool} {Q : Unit → Shared → Prop} {E : Value → Shared → Prop}
    (hfr : A.frames = some F.fs) (hfs : F.fs = F.env :: outer) (t : St cx F m H s.heap) (hf : F.env.frame = some L) (he : s.heap.get? e = some oe) (hd : oe.data = .fields vs) (hsz : 1 < vs.size)
    (h : ∀ h' T oT ts oe' vs', (∀ b o, s.heap.get? b = some o → b ≠ e → h'.get? b = some o ∨ ((∃ env ∈ F.fs, env.frame = some b) ∧ ∃ sl, h'.get? b = some { o with slots := sl })) → s.heap.get? T = none → T ≠ e →
      h'.get? e = some oe' → (oe'.cls = oe.cls ∧ oe'.dict = oe.dict) → oe'.data = .fields vs' → vs'[0]? = vs[0]? → vs'[1]? = some (.ref T) → h'.get? T = some oT → oT.cls = .type "traceback" → oT.data = .fields ts → ts[3]? = some (rawInt L) → Q () { s with heap := h' }) :
    wpAny cx.M A (do let a ← frameOf F.env; let pl ← entryPlaceOf L hadNext; let b ← EntryCells.newEntry head a .none (rawInt L) .none pl; setField (.ref e) 1 b) Q E s := by
  have hl : s.heap.FunFrames cx.B (F.env :: outer) := funFrames_of t.frames _ fun env hm => hfs ▸ hm
  have hene : e ∉ (F.env :: outer).filterMap (·.frame) := fun hm => by
    obtain ⟨_, o, ho, hnf⟩ := hl.mem hm
    rw [he] at ho; injection ho with ho; subst ho; exact hnf vs hd
  refine wpAny_bind (wpAny_frameOf_fun (by rw [hfr, hfs]) hl hf fun h₁ hs₁ => ?_)
  refine wpAny_bind (wpAny_entryPlaceOf fun pl hpl => ?_)
  unfold EntryCells.newEntry newFields
  refine wpAny_bind (wpAny_newObj_type ?_ (hpl.sizeOk5 _ _ _ _ _))
  have he₁ : h₁.get? e = some oe := (hs₁.2.1 e hene).trans he
  have he₂ := Heap.get?_push_of_some (h := h₁) { cls := .type "traceback", dict := none, data := .fields ([head, .ref L, .none, rawInt L, .none] ++ (if pl.isEmpty then List.replicate 6 Value.none else pl)).toArray } he₁
  have hTe : h₁.objs.size ≠ e := Nat.ne_of_gt (Heap.lt_size he₁)
  have hd₃ := Obj.data_mapFields hd (·.setIfInBounds 1 (Value.ref h₁.objs.size))
  have he₃ := Heap.get?_update_self (Obj.mapFields (·.setIfInBounds 1 (Value.ref h₁.objs.size))) he₂ (Obj.isFreed_of_fields hd₃)
  have hT₃ := (Heap.get?_update_other (h₁.push { cls := .type "traceback", dict := none, data := .fields ([head, .ref L, .none, rawInt L, .none] ++ (if pl.isEmpty then List.replicate 6 Value.none else pl)).toArray })
    (Obj.mapFields (·.setIfInBounds 1 (Value.ref h₁.objs.size))) (Ne.symm hTe)).trans (Heap.get?_push_size h₁ rfl)
  refine wpAny_setField he₂ hd hsz (h _ h₁.objs.size _ _ _ _ (fun b o g n => ?_) ?_ hTe he₃ ⟨Obj.cls_mapFields _ _, dict_mapFields _ _⟩ hd₃ ?_ ?_ hT₃ rfl rfl ?_)
  · by_cases hm : b ∈ (F.env :: outer).filterMap (·.frame)
    · right
      obtain ⟨env, h1, h2⟩ := List.mem_filterMap.mp hm
      refine ⟨⟨env, hfs ▸ h1, h2⟩, ?_⟩
      obtain ⟨sl, g'⟩ := hs₁.2.2 b o g
      exact ⟨sl, by rw [Heap.get?_update_other _ _ (Ne.symm n)]; exact Heap.get?_push_of_some _ g'⟩
    · left
      rw [Heap.get?_update_other _ _ (Ne.symm n)]; exact Heap.get?_push_of_some _ ((hs₁.2.1 b hm).trans g)
  · cases q : s.heap.get? h₁.objs.size with
    | none => rfl
    | some o => have := Heap.lt_size q; rw [hs₁.1] at this; exact absurd this (Nat.lt_irrefl _)
  · rw [Array.getElem?_setIfInBounds_ne (by decide)]
  · simp [hsz]
  · first | (simp; done) | (rcases hpl with rfl | ⟨_, _, _, _, _, _, _, rfl⟩ <;> simp)

theorem note_ok {S : List Addr} {outer : List Env} {L : Addr} {c : Nat} {Q : Unit → Shared → Prop} {E : Value → Shared → Prop} {A : Around} (hfr : A.frames = some F.fs) (hfs : F.fs = F.env :: outer) (hf : F.env.frame = some L) (t : St cx F m H₁ s₁.heap) (k : Kp cx S H s H₁ s₁)
    (t₀ : cx.B.StaysIn s.heap) (x : Exc cx F.env.frame s.heap s₁.heap e c) (hQ : ∀ s₂, St cx F m H₁ s₂.heap → Kp cx S H s H₁ s₂ → ExcIn cx L s.heap s₂.heap e c → Q () s₂) : wpAny cx.M A (noteFrame (.ref e) F.env) Q E s₁ := by
  obtain ⟨fe, oe, vs, C, a0, ge, hc, hC, hd, h0, hx⟩ := x
  have hBn : ∀ b, s.heap.get? b = none → cx.B.get? b = none := fun b f => by
    cases q : cx.B.get? b with
    | none => rfl
    | some o => rw [t₀ _ _ q] at f; cases f
  have he : ∃ o C vs, s₁.heap.get? e = some o ∧ o.cls = .ref C ∧ o.data = .fields vs := ⟨oe, C, vs, ge, hc, hd⟩
  unfold noteFrame
  simp only [hf]
  rcases hx with h1 | ⟨T, oT, ts, h1, fT, hTe, gT, cT, dT, h3⟩
  · refine wpAny_bind (wpAny_field ge hd h1 ?_)
    rw [if_neg (by decide)]
    refine entry_own hfr hfs t hf ge hd (Array.getElem?_eq_some_iff.mp h1).1 fun h' T oT ts oe' vs' oth fT hTe ge' ce' de' h0' h1' gT' cT dT h3 => ?_
    have f : Fly F e (fun _ => False) s₁.heap h' := ⟨fun b o g n _ => oth b o g n, fun o vs g d => by rw [ge] at g; cases g; exact ⟨oe', vs', ge', ce', de'⟩, fun _ q => q.elim⟩
    have fT0 : s.heap.get? T = none := by
      cases q : s.heap.get? T with
      | none => rfl
      | some o => obtain ⟨o', e'⟩ := k.alive T o q; rw [fT] at e'; cases e'
    exact hQ { s₁ with heap := h' } (t.fly f he (hBn _ fe) fun _ q => q.elim) (k.fly t f fe (fun _ q => q.elim) (hBn _ fe) fun _ q => q.elim)
      ⟨fe, oe', vs', C, a0, ge', ce'.1.trans hc, ⟨hC.1, ce'.2.trans hC.2⟩, de', h0'.trans h0, T, oT, ts, h1', fT0, hTe, gT', cT, dT, h3⟩
  · refine wpAny_bind (wpAny_field ge hd h1 ?_)
    rw [if_pos (show (Value.ref T != Value.none) = true from by simp)]
    rcases h3 with h3 | ⟨L', hL', h3⟩
    · refine wpAny_bind (wpAny_field gT dT h3 ?_)
      rw [if_neg (show ¬ ((Value.none == rawInt L) = true) from by simp [rawInt])]
      refine wpAny_bind (wpAny_setField gT dT (Array.getElem?_eq_some_iff.mp h3).1 ?_)
      have dT' := Obj.data_mapFields dT (·.setIfInBounds 3 Value.none)
      have gT' := Heap.get?_update_self (Obj.mapFields (·.setIfInBounds 3 Value.none)) gT (Obj.isFreed_of_fields dT')
      have f : Fly F e (fun b => b = T) s₁.heap (s₁.heap.update T (Obj.mapFields (·.setIfInBounds 3 Value.none))) :=
        ⟨fun b o g n q => .inl (upd_keeps b o q g), fun o vs' g d => ⟨o, vs', upd_keeps e o (Ne.symm hTe) g, ⟨rfl, rfl⟩, d⟩, fun b q => by subst q; exact ⟨hTe, oT, ts, gT, cT, dT⟩⟩
      have t₂ := t.fly f he (hBn _ fe) fun b q => by subst q; exact hBn _ fT
      have k₂ := k.fly t f fe (fun b q => by subst q; exact fT) (hBn _ fe) fun b q => by subst q; exact hBn _ fT
      have ge₂ := upd_keeps (f := Obj.mapFields (·.setIfInBounds 3 Value.none)) e oe (Ne.symm hTe) ge
      refine entry_own (s := { s₁ with heap := s₁.heap.update T (Obj.mapFields (·.setIfInBounds 3 Value.none)) }) hfr hfs t₂ hf ge₂ hd (Array.getElem?_eq_some_iff.mp h1).1 fun h' T₂ oT₂ ts₂ oe' vs' oth fT₂ hTe₂ ge' ce' de' h0' h1' gT₂ cT₂ dT₂ h3₂ => ?_
      have f₂ : Fly F e (fun _ => False) (s₁.heap.update T (Obj.mapFields (·.setIfInBounds 3 Value.none))) h' := ⟨fun b o g n _ => oth b o g n, fun o vs g d => by rw [ge₂] at g; cases g; exact ⟨oe', vs', ge', ce', de'⟩, fun _ q => q.elim⟩
      have fT0 : s.heap.get? T₂ = none := by
        cases q : s.heap.get? T₂ with
        | none => rfl
        | some o => obtain ⟨o', e'⟩ := k₂.alive T₂ o q; rw [fT₂] at e'; cases e'
      exact hQ { s₁ with heap := h' } (t₂.fly f₂ ⟨oe, C, vs, ge₂, hc, hd⟩ (hBn _ fe) fun _ q => q.elim) (k₂.fly (s₁ := { s₁ with heap := s₁.heap.update T (Obj.mapFields (·.setIfInBounds 3 Value.none)) }) t₂ f₂ fe (fun _ q => q.elim) (hBn _ fe) fun _ q => q.elim)
        ⟨fe, oe', vs', C, a0, ge', ce'.1.trans hc, ⟨hC.1, ce'.2.trans hC.2⟩, de', h0'.trans h0, T₂, oT₂, ts₂, h1', fT0, hTe₂, gT₂, cT₂, dT₂, h3₂⟩
    · rw [hf] at hL'; cases hL'
      refine wpAny_bind (wpAny_field gT dT h3 ?_)
      rw [if_pos (show (rawInt L == rawInt L) = true from by simp)]
      exact wpAny_pure (hQ s₁ t k ⟨fe, oe, vs, C, a0, ge, hc, hC, hd, h0, T, oT, ts, h1, fT, hTe, gT, cT, dT, h3⟩)

/-- the flight ends: the record lies still -/
abbrev ExcOut (cx : Cx) (h₀ h : Heap) (e : Addr) (c : Nat) : Prop := ExcAt cx h₀ h e c .none
theorem ExcOut.exc {fr : Option Addr} {h₀ h : Heap} {c : Nat} (x : ExcOut cx h₀ h e c) : Exc cx fr h₀ h e c := by
  obtain ⟨a, oe, vs, C, a0, b, c, d, f, g, T, oT, ts, h1, h2, h3, h4, h5, h6, h7⟩ := x
  exact ⟨a, oe, vs, C, a0, b, c, d, f, g, .inr ⟨T, oT, ts, h1, h2, h3, h4, h5, h6, .inl h7⟩⟩
theorem ExcOut.rep {h₀ h : Heap} {c : Nat} (x : ExcOut cx h₀ h e c) : Rep cx h (.ref e) (.exc c) := by
  obtain ⟨a, oe, vs, C, a0, b, c, d, f, _⟩ := x
  exact .exc b c f d.1 d.2

theorem unflight_ok {S : List Addr} {c : Nat} {Q : Unit → Shared → Prop} {E : Value → Shared → Prop} {A : Around} {v3 : Value} (t : St cx F m H₁ s₁.heap) (k : Kp cx S H s H₁ s₁) (t₀ : cx.B.StaysIn s.heap)
    (x : ExcAt cx s.heap s₁.heap e c v3)
    (hQ : ∀ s₂, St cx F m H₁ s₂.heap → Kp cx S H s H₁ s₂ → ExcOut cx s.heap s₂.heap e c → Q () s₂) : wpAny cx.M A (setFlight (.ref e) none) Q E s₁ := by
  obtain ⟨fe, oe, vs, C, a0, ge, hc, hC, hd, h0, T, oT, ts, h1, fT, hTe, gT, cT, dT, h3⟩ := x
  have hBn : ∀ b, s.heap.get? b = none → cx.B.get? b = none := fun b f => by
    cases q : cx.B.get? b with
    | none => rfl
    | some o => rw [t₀ _ _ q] at f; cases f
  have hsz := (Array.getElem?_eq_some_iff.mp h3).1
  refine wpAny_setFlight_none ge hd h1 gT dT hsz ?_
  have dT' := Obj.data_mapFields dT (·.setIfInBounds 3 Value.none)
  have gT' := Heap.get?_update_self (Obj.mapFields (·.setIfInBounds 3 Value.none)) gT (Obj.isFreed_of_fields dT')
  have f : Fly F e (fun b => b = T) s₁.heap (s₁.heap.update T (Obj.mapFields (·.setIfInBounds 3 Value.none))) :=
    ⟨fun b o g n q => .inl (upd_keeps b o q g), fun o vs' g d => ⟨o, vs', upd_keeps e o (Ne.symm hTe) g, ⟨rfl, rfl⟩, d⟩, fun b q => by subst q; exact ⟨hTe, oT, ts, gT, cT, dT⟩⟩
  have t₂ := t.fly f ⟨oe, C, vs, ge, hc, hd⟩ (hBn _ fe) fun b q => by subst q; exact hBn _ fT
  have k₂ := k.fly t f fe (fun b q => by subst q; exact fT) (hBn _ fe) fun b q => by subst q; exact hBn _ fT
  exact hQ { s₁ with heap := _ } t₂ k₂ ⟨fe, oe, vs, C, a0, upd_keeps e oe (Ne.symm hTe) ge, hc, hC, hd, h0, T, _, _, h1, fT, hTe, gT', (Obj.cls_mapFields _ _).trans cT, dT', by simp [hsz]⟩
end
end Mine
end
section
open PySem PySem.Calls PyProof.Rows
namespace Mine
set_option autoImplicit false

noncomputable def plc (F : Fm) : List Addr := F.env.locals :: F.env.cells.filterMap fun p => F.env.cells.lookup p.1
theorem mem_plc_cell {F : Fm} {x : Str} {c : Addr} (h : F.env.cells.lookup x = some c) : c ∈ plc F := List.mem_cons_of_mem _ (List.mem_filterMap.mpr ⟨(x, c), mem_of_lookup h, h⟩)

section
variable {cx : Cx} {F : Fm} {m : Loc} {H H₁ : AHeap} {s s₁ : Shared} {kd : Kd} {n : Nat} {q : Bool}

theorem St.setCell {h h' : Heap} {x : Nat} {v : Value} {p : PV} {c : Addr} (t : St cx F m H h) (fo : Fok cx n q kd F) (vx : F.vis x = true) (kl : F.env.kindOf (slot F.nm x) ≠ some .local)
    (hc : F.env.cells.lookup (slot F.nm x) = some c) (hc' : h'.IsCell c (some v)) (sb : Heap.SameBut c h h') (rv : Rep cx h v p) : St cx F (m.set x (some p)) H h' := by
  obtain ⟨hHc, hBc, oc, y, goc, dc, _⟩ := t.cells _ c hc
  have ns1 : ∀ o, h.get? c = some o → ¬ Solid o := fun o' e => by rw [goc] at e; cases e; exact notSolid_cell dc
  have k : ∀ b o, b ≠ c → h.get? b = some o → h'.get? b = some o := fun b o n e => by rw [sb.2 b n]; exact e
  have so : ∀ b o, h.get? b = some o → Solid o → h'.get? b = some o := fun b o e s => k b o (by rintro rfl; exact ns1 o e s) e
  have nd : ∀ b o es ep, h.get? b = some o → o.data = .dict es ep → b ≠ c := fun b o es ep e q => by rintro rfl; rw [goc] at e; cases e; rw [dc] at q; cases q
  refine ⟨fun b o e => k b o (by rintro rfl; rw [hBc] at e; cases e) (t.base b o e), t.off, t.heap.keepBut hHc k ns1, fun env he => ?_, t.own, ?_, fun nn c₂ hc₂ => ?_⟩
  · obtain ⟨hk, L, o, es, ep, hf, hH, hb, ho, hd'⟩ := t.frames env he
    exact ⟨hk, L, o, es, ep, hf, hH, hb, k L o (nd L o es ep ho hd') ho, hd'⟩
  · obtain ⟨o, es, ep, mc, ho, hd', ns, hv⟩ := t.vars
    have n := nd _ o es ep ho hd'
    refine ⟨o, es, ep, mc, k _ o n ho, hd', ns.at fun o e => k _ o n e, fun i w h1 h2 h3 => ?_⟩
    rcases Loc.get_set h3 with ⟨rfl, rfl⟩ | ⟨_, h3⟩
    · exact absurd h2 kl
    · obtain ⟨x, q, r⟩ := hv i w h1 h2 h3; exact ⟨x, q, r.mono so⟩
  · obtain ⟨h1, h2, o, w, ho, hd', hv⟩ := t.cells nn c₂ hc₂
    by_cases qc : c₂ = c
    · subst qc
      have e1 : nn = slot F.nm x := fo.apart _ _ _ hc₂ hc
      subst e1
      obtain ⟨o', go', do'⟩ := hc'
      refine ⟨h1, h2, o', some v, go', do', fun i w a b _ d => ?_⟩
      have : i = x := fo.inj i x a vx b
      subst this
      rcases Loc.get_set d with ⟨_, rfl⟩ | ⟨ne, _⟩
      · exact ⟨v, rfl, rv.mono so⟩
      · exact absurd rfl ne
    · refine ⟨h1, h2, o, w, k c₂ o qc ho, hd', fun i w' a b c' d => ?_⟩
      rcases Loc.get_set d with ⟨rfl, rfl⟩ | ⟨_, d⟩
      · subst b; rw [hc] at hc₂; cases hc₂; exact absurd rfl qc
      · obtain ⟨z, q, r⟩ := hv i w' a b c' d; exact ⟨z, q, r.mono so⟩

theorem Kp.one {h' : Heap} {tk : Nat} {a : Addr} (ha : a ∈ plc F) (hB : cx.B.get? a = none) (ga : ∃ o, h'.get? a = some o) (k : ∀ b o, b ≠ a → s.heap.get? b = some o → h'.get? b = some o) : Kp cx (plc F) H s H { s with heap := h', toks := tk } := by
  refine ⟨⟨h', tk, rfl⟩, fun b o e nS hn => ⟨hn, o, k b o (by rintro rfl; exact nS ha) e, .refl _⟩, fun b o e => ?_, fun b o eB e => k b o (by rintro rfl; rw [hB] at eB; cases eB) e⟩
  by_cases q : b = a
  · subst q; exact ga
  · exact ⟨o, k b o q e⟩

theorem store_name {x : Nat} {v : Value} {p : PV} {QQ : Unit → Shared → Prop} {E : Value → Shared → Prop} {A : Around} (fo : Fok cx n q kd F) (vx : F.vis x = true) (hk : kd (slot F.nm x) = some .local ∨ kd (slot F.nm x) = some .cell) (t : St cx F m H s.heap) (rv : Rep cx s.heap v p)
    (hQ : ∀ s', St cx F (m.set x (some p)) H s'.heap → Kp cx (plc F) H s H s' → (∀ b o, s.heap.get? b = some o → Solid o → s'.heap.get? b = some o) → QQ () s') : wpAny cx.M A (storeName F.env (slot F.nm x) v) QQ E s := by
  rcases hk with hk | hk
  · have hl : F.env.kindOf (slot F.nm x) = some .local := by rw [fo.kdo]; exact hk
    obtain ⟨o, es, ep, mc, ho, hd, ns, _⟩ := t.vars
    refine wpAny_storeName_local hl ns (fun h' ns' sb => ?_) (by rw [fo.kind]; rfl)
    have kk : ∀ b o, b ≠ F.env.locals → s.heap.get? b = some o → h'.get? b = some o := fun b o n e => by rw [sb.2 b n]; exact e
    refine hQ _ (t.setLocal fo.inj vx hl ns ns' rfl sb rv) (Kp.one (List.mem_cons_self ..) t.own.2 (let ⟨o, _, _, g, _⟩ := ns'; ⟨o, g⟩) kk) fun b o e so => kk b o ?_ e
    rintro rfl; rw [ho] at e; cases e; exact notSolid_dict hd so
  · have hl : F.env.kindOf (slot F.nm x) = some .cell := by rw [fo.kdo]; exact hk
    obtain ⟨c, hc⟩ := fo.cells _ (.inl hk)
    obtain ⟨hHc, hBc, oc, y, goc, dc, _⟩ := t.cells _ c hc
    refine wpAny_storeName_cell fo.kind hl hc ⟨oc, goc, dc⟩ fun h' hc' sb => ?_
    have kk : ∀ b o, b ≠ c → s.heap.get? b = some o → h'.get? b = some o := fun b o n e => by rw [sb.2 b n]; exact e
    refine hQ _ (t.setCell fo vx (by rw [hl]; decide) hc hc' sb rv) (Kp.one (tk := s.toks) (mem_plc_cell hc) hBc (let ⟨o, g, _⟩ := hc'; ⟨o, g⟩) kk) fun b o e so => kk b o ?_ e
    rintro rfl; rw [goc] at e; cases e; exact notSolid_cell dc so

/-! statements -/
inductive OkN (cx : Cx) (F : Fm) (H : AHeap) (s : Shared) (N : NPost) (s' : Shared) : Prop
  | mk (m' : Loc) (H' : AHeap) (t : St cx F m' H' s'.heap) (k : Kp cx (plc F) H s H' s') (q : N m' H') : OkN cx F H s N s'
inductive OkR (cx : Cx) (F : Fm) (H : AHeap) (s : Shared) (R : Post) (v : Value) (s' : Shared) : Prop
  | mk (p : PV) (m' : Loc) (H' : AHeap) (r : Rep cx s'.heap v p) (t : St cx F m' H' s'.heap) (k : Kp cx (plc F) H s H' s') (q : R p H') : OkR cx F H s R v s'
noncomputable def OkS (cx : Cx) (F : Fm) (H : AHeap) (s : Shared) (N : NPost) (R : Post) : Flow → Shared → Prop := fun f s' => match f with
  | .next => OkN cx F H s N s'
  | .ret v => OkR cx F H s R v s'
  | _ => False
inductive ErS (cx : Cx) (F : Fm) (H : AHeap) (s : Shared) (X : SXPost) (v : Value) (s' : Shared) : Prop
  | mk (e : Addr) (c : Nat) (m' : Loc) (H' : AHeap) (hv : v = .ref e) (x : Exc cx F.env.frame s.heap s'.heap e c) (t : St cx F m' H' s'.heap) (k : Kp cx (plc F) H s H' s') (q : X c m' H') : ErS cx F H s X v s'
noncomputable def EvS (cx : Cx) (F : Fm) (t : Sem Flow) (H : AHeap) (s : Shared) (N : NPost) (R : Post) (X : SXPost) : Prop := wpAny cx.M F.A t (OkS cx F H s N R) (ErS cx F H s X) s

theorem OkS.older {N : NPost} {R : Post} {f : Flow} {s' : Shared} (k : Kp cx (plc F) H s H₁ s₁) (x : OkS cx F H₁ s₁ N R f s') : OkS cx F H s N R f s' := by
  cases f with
  | next => obtain ⟨m', H', t, k', h⟩ := x; exact ⟨m', H', t, k.trans k', h⟩
  | ret v => obtain ⟨p, m', H', r, t, k', h⟩ := x; exact ⟨p, m', H', r, t, k.trans k', h⟩
  | _ => exact x.elim
theorem ErS.older {X : SXPost} {v : Value} {s' : Shared} (k : Kp cx (plc F) H s H₁ s₁) (x : ErS cx F H₁ s₁ X v s') : ErS cx F H s X v s' := by
  obtain ⟨e, c, m', H', r, y, t, k', h⟩ := x
  exact ⟨e, c, m', H', r, y.older k.alive, t, k.trans k', h⟩
theorem EvS.older {N : NPost} {R : Post} {X : SXPost} {t : Sem Flow} (k : Kp cx (plc F) H s H₁ s₁) (x : EvS cx F t H₁ s₁ N R X) : wpAny cx.M F.A t (OkS cx F H s N R) (ErS cx F H s X) s₁ :=
  wpAny_mono x (fun _ _ y => y.older k) fun _ _ y => y.older k
theorem ErP.toS {X : SXPost} {v : Value} {s' : Shared} (x : ErP cx F m H s (fun c H => X c m H) v s') : ErS cx F H s X v s' := by
  obtain ⟨e, c, H', r, y, t, k, h⟩ := x; exact ⟨e, c, m, H', r, y, t, k.nil, h⟩
/-- an expression, then the rest of the statement -/
theorem EvS.after {α β : Type} {RR : Heap → α → β → Prop} {Q : β → AHeap → Prop} {N : NPost} {R : Post} {X : SXPost} {t : Sem α} {f : α → Sem Flow} (h : Ev RR cx F t m H s Q fun c H => X c m H)
    (k : ∀ a b s₁ H₁, RR s₁.heap a b → St cx F m H₁ s₁.heap → Kp cx [] H s H₁ s₁ → Q b H₁ → EvS cx F (f a) H₁ s₁ N R X) : EvS cx F (t >>= f) H s N R X :=
  wpAny_bind (wpAny_mono h (fun a s₁ ⟨b, H₁, r, st, kp, q⟩ => (k a b s₁ H₁ r st kp q).older kp.nil) fun _ _ y => y.toS)
theorem OkS.toks {N : NPost} {R : Post} (tk : Nat) (t : St cx F m H s.heap) (h : N m H) : OkS cx F H s N R .next { s with toks := tk } := ⟨m, H, t, .grow (fun _ _ e => e) (fun _ _ _ e => e), h⟩
theorem EvS.seq {N N₁ : NPost} {R : Post} {X : SXPost} {st : Stmt} {rest : List Stmt} (h : EvS cx F (exec st F.env) H s N₁ R X)
    (k : ∀ m₁ s₁ H₁, St cx F m₁ H₁ s₁.heap → N₁ m₁ H₁ → EvS cx F (execs rest F.env) H₁ s₁ N R X) : EvS cx F (execs (st :: rest) F.env) H s N R X := by
  refine wpAny_execs_cons (wpAny_mono h (fun f s' h' => ?_) fun _ _ e => e)
  cases f with
  | next => obtain ⟨m', H', t, kp, hn⟩ := h'; exact (k m' s' H' t hn).older kp
  | ret v => exact h'
  | brk => exact h'
  | cont => exact h'
end
end Mine
end
section
open PySem PySem.Calls PyProof.Rows
namespace Mine
set_option autoImplicit false

noncomputable def isComp : AE → Bool
  | .comp .. => true
  | _ => false
noncomputable def isTup : AE → Bool
  | .tup .. => true
  | _ => false
noncomputable def ASs.isNil : ASs → Bool
  | .nil => true
  | _ => false
noncomputable def AHs.isNil : AHs → Bool
  | .nil => true
  | _ => false
section
variable (fl : List Str) (nm : List Str) (vis : Nat → Bool) (kd : Kd)
noncomputable def stOk (x : Nat) : Bool := vis x && (kd (slot nm x) == some .local || kd (slot nm x) == some .cell)
mutual
noncomputable def okS (q : Bool) : AS → Bool
  | .expr e _ => okE fl nm q vis kd e && !isComp e
  | .assign x _ e _ => okE fl nm q vis kd e && stOk nm vis kd x
  | .assignT xs _ _ e _ => q && okE fl nm q vis kd e && !isComp e && !isTup e && xs.all fun x => stOk nm vis kd x.1
  | .store o i _ e _ => okE fl nm q vis kd o && okE fl nm q vis kd i && okE fl nm q vis kd e && !isComp e
  | .sattr .. => false
  | .ite c a b _ => okE fl nm q vis kd c && okSs q a && okSs q b
  | .for x _ it b _ => q && okE fl nm q vis kd it && stOk nm vis kd x && okSs q b
  | .while c b _ => q && okE fl nm q vis kd c && okSs q b
  | .ret e _ => okE fl nm q vis kd e
  | .ret0 _ => true
  | .raise c x _ _ _ _ _ _ => q && isGlob kd x && onm x == some c
  | .try b hs _ => q && okSs q b && okHs hs && !hs.isNil
noncomputable def okSs (q : Bool) : ASs → Bool
  | .nil => true
  | .cons s ss => okS q s && okSs q ss
noncomputable def okHs : AHs → Bool
  | .nil => true
  | .cons c x _ y b _ hs => isGlob kd x && onm x == some c && (match y with | none => true | some y => vis y && kd (slot nm y) == some .local) && okSs false b && !b.isNil && okHs hs
end
end

inductive ForI (cx : Cx) (F : Fm) (H₁ : AHeap) (s₁ : Shared) (I : Addr) (xs : List PV) (p : PV) (W : List PV → Loc → AHeap → Prop) (k : Nat) (s' : Shared) : Prop
  | mk (i : Nat) (mk : Loc) (Hk : AHeap) (hi : i ≤ xs.length) (hk : k = xs.length - i) (ti : St cx F mk Hk s'.heap) (ki : Kp cx (plc F) H₁ s₁ Hk s') (iti : Itr cx s'.heap I i xs p) (ci : Clean cx Hk s'.heap I) (hw : W (xs.drop i) mk Hk) : ForI cx F H₁ s₁ I xs p W k s'
section
variable {cx : Cx} {F : Fm} {m : Loc} {H H₁ : AHeap} {s s₁ : Shared} {kd : Kd} {n : Nat} {q : Bool} {e : Addr}

theorem St.plcData {h : Heap} (t : St cx F m H h) : ∀ b ∈ plc F, ∀ o, h.get? b = some o → (∃ es ep, o.data = .dict es ep) ∨ ∃ x, o.data = .cell x := fun b hb o g => by
  rcases List.mem_cons.mp hb with rfl | hb
  · obtain ⟨o', es, ep, _, g', d, _⟩ := t.vars; rw [g] at g'; cases g'; exact .inl ⟨es, ep, d⟩
  · obtain ⟨p, _, hl⟩ := List.mem_filterMap.mp hb
    obtain ⟨_, _, o', x, g', d, _⟩ := t.cells _ b hl
    rw [g] at g'; cases g'; exact .inr ⟨x, d⟩
theorem Kp.solidP (k : Kp cx (plc F) H s H₁ s₁) (t : St cx F m H s.heap) : ∀ b o, s.heap.get? b = some o → Solid o → s₁.heap.get? b = some o := k.solid t.heap t.plcData
/-- a record that no name holds stays -/
theorem Kp.sameP (k : Kp cx (plc F) H s H₁ s₁) (t : St cx F m H s.heap) {b : Addr} {o : Obj} {vs : Array Value} (g : s.heap.get? b = some o) (hb : H b = none) (hd : o.data = .fields vs) : H₁ b = none ∧ s₁.heap.get? b = some o := by
  obtain ⟨h, o', e', sm⟩ := k.keep b o g (fun q => by
    rcases t.plcData b q o g with ⟨es, ep, d⟩ | ⟨x, d⟩ <;> rw [hd] at d <;> cases d) hb
  rw [sm.eq fun _ _ q => by rw [hd] at q; cases q] at e'; exact ⟨h, e'⟩
theorem Itr.over {I : Addr} {i : Nat} {xs : List PV} {p : PV} (it : Itr cx s.heap I i xs p) (k : Kp cx (plc F) H s H₁ s₁) (t : St cx F m H s.heap) (c : Clean cx H s.heap I) : Itr cx s₁.heap I i xs p ∧ Clean cx H₁ s₁.heap I := by
  obtain ⟨hI, hB, oI, T, vs, gI, hc, hT, hd⟩ := c
  have e1 := k.sameP t gI hI hd
  have itb := it.keep (k.solidP t) fun o e => by rw [gI] at e; cases e; exact e1.2
  exact ⟨itb, e1.1, hB, itb.clean⟩

theorem flight_ok {S : List Addr} {c : Nat} {L : Addr} {Q : Unit → Shared → Prop} {E : Value → Shared → Prop} {A : Around} (hf : F.env.frame = some L) (t : St cx F m H₁ s₁.heap) (k : Kp cx S H s H₁ s₁) (t₀ : cx.B.StaysIn s.heap) (x : ExcIn cx L s.heap s₁.heap e c)
    (hQ : ∀ s₂, St cx F m H₁ s₂.heap → Kp cx S H s H₁ s₂ → ExcIn cx L s.heap s₂.heap e c → Q () s₂) : wpAny cx.M A (do
      if (← field (.ref e) 1) == .none then unsupported "frame.own-activation:exception-without-traceback"
      setFlight (.ref e) F.env.frame) Q E s₁ := by
  obtain ⟨fe, oe, vs, C, a0, ge, hc, hC, hd, h0, T, oT, ts, h1, fT, hTe, gT, cT, dT, h3⟩ := x
  have hBn : ∀ b, s.heap.get? b = none → cx.B.get? b = none := fun b f => by
    cases q : cx.B.get? b with
    | none => rfl
    | some o => rw [t₀ _ _ q] at f; cases f
  have hsz := (Array.getElem?_eq_some_iff.mp h3).1
  refine wpAny_bind (wpAny_field ge hd h1 ?_)
  rw [if_neg (show ¬ ((Value.ref T == Value.none) = true) from by simp)]
  unfold setFlight
  refine wpAny_bind (wpAny_field ge hd h1 ?_)
  rw [if_pos (show (Value.ref T != Value.none) = true from by simp), hf]
  refine wpAny_setField gT dT hsz ?_
  show Q () { s₁ with heap := s₁.heap.update T (Obj.mapFields (·.setIfInBounds 3 (rawInt L))) }
  have dT' := Obj.data_mapFields dT (·.setIfInBounds 3 (rawInt L))
  have gT' := Heap.get?_update_self (Obj.mapFields (·.setIfInBounds 3 (rawInt L))) gT (Obj.isFreed_of_fields dT')
  have f : Fly F e (fun b => b = T) s₁.heap (s₁.heap.update T (Obj.mapFields (·.setIfInBounds 3 (rawInt L)))) :=
    ⟨fun b o g n q => .inl (upd_keeps b o q g), fun o vs' g d => ⟨o, vs', upd_keeps e o (Ne.symm hTe) g, ⟨rfl, rfl⟩, d⟩, fun b q => by subst q; exact ⟨hTe, oT, ts, gT, cT, dT⟩⟩
  have t₂ := t.fly f ⟨oe, C, vs, ge, hc, hd⟩ (hBn _ fe) fun b q => by subst q; exact hBn _ fT
  have k₂ := k.fly t f fe (fun b q => by subst q; exact fT) (hBn _ fe) fun b q => by subst q; exact hBn _ fT
  exact hQ { s₁ with heap := _ } t₂ k₂ ⟨fe, oe, vs, C, a0, upd_keeps e oe (Ne.symm hTe) ge, hc, hC, hd, h0, T, _, _, h1, fT, hTe, gT', (Obj.cls_mapFields _ _).trans cT, dT', by simp [hsz]⟩

/-- an error out of a loop of the frame's own -/
theorem noted_ok {outer : List Env} {L : Addr} {X : SXPost} {v : Value} (hfr : F.A.frames = some F.fs) (hfs : F.fs = F.env :: outer) (hf : F.env.frame = some L) (t₀ : cx.B.StaysIn s.heap) (x : ErS cx F H s X v s₁) :
    notedBy cx.M F.A F.env (fun e s' => cameBackBy cx.M F.A F.env (ErS cx F H s X) e s') v s₁ := by
  obtain ⟨e, c, m', H', rfl, y, t, k, h⟩ := x
  refine note_ok hfr hfs hf t k t₀ y fun s₂ t₂ k₂ x₂ => ?_
  exact flight_ok hf t₂ k₂ t₀ x₂ fun s₃ t₃ k₃ x₃ => ⟨e, c, m', H', rfl, by rw [hf]; exact x₃.exc, t₃, k₃, h⟩

theorem names_ok {A : Around} {E : Value → Shared → Prop} (fo : Fok cx n q kd F) : ∀ (xs : List (Nat × Pos)) (ys : List PV) (vs : List Value) {m : Loc} {H : AHeap} {s : Shared} {QQ : Unit → Shared → Prop}, xs.length = ys.length →
    (∀ x ∈ xs, F.vis x.1 = true ∧ (kd (slot F.nm x.1) = some .local ∨ kd (slot F.nm x.1) = some .cell)) → RepL cx s.heap vs ys → St cx F m H s.heap →
    (∀ s', St cx F (setAll xs ys m) H s'.heap → Kp cx (plc F) H s H s' → QQ () s') → wpAny cx.M A (assignInOrder ((assignEach (xs.map fun x => Expr.Name (slot F.nm x.1) x.2) F.env).map (·.2)) vs) QQ E s
  | [], [], _, m, H, s, QQ, _, _, rs, t, hQ => by
    cases rs
    exact wpAny_assignInOrder_none (hQ s t (.refl _ _ _ _))
  | x :: xs, y :: ys, _, m, H, s, QQ, hl, hx, rs, t, hQ => by
    cases rs with
    | cons r rs =>
      have h1 := hx x (List.mem_cons_self ..)
      refine wpAny_assignInOrder_more (wpAny_assign_Name (store_name fo h1.1 h1.2 t r fun s' t' k' so => ?_))
      exact names_ok fo xs ys _ (by simpa using hl) (fun z hz => hx z (List.mem_cons_of_mem _ hz)) (rs.mono so) t' fun s'' t'' k'' => hQ s'' t'' (k'.trans k'')
  | [], _ :: _, _, _, _, _, _, hl, _, _, _, _ => by simp at hl
  | _ :: _, [], _, _, _, _, _, hl, _, _, _, _ => by simp at hl
theorem names_len (nm : List Str) (env : Env) : ∀ xs : List (Nat × Pos), (assignEach (xs.map fun x => Expr.Name (slot nm x.1) x.2) env).length = xs.length ∧ (assignEach (xs.map fun x => Expr.Name (slot nm x.1) x.2) env).findIdx? (·.1) = none
  | [] => ⟨rfl, rfl⟩
  | x :: xs => by
    have ih := names_len nm env xs
    refine ⟨?_, ?_⟩
    · show (assignEach (Expr.Name (slot nm x.1) x.2 :: xs.map fun x => Expr.Name (slot nm x.1) x.2) env).length = _
      simp only [assignEach, List.length_cons, ih.1]
    · show (assignEach (Expr.Name (slot nm x.1) x.2 :: xs.map fun x => Expr.Name (slot nm x.1) x.2) env).findIdx? (·.1) = none
      simp only [assignEach, List.findIdx?_cons, Bool.false_eq_true, if_false, ih.2, Option.map_none]

theorem for_ok {outer : List Env} {L : Addr} {x : Nat} {px pos : Pos} {iter : Expr} {body : List Stmt} {N : NPost} {R : Post} {X : SXPost} {st : PV → (Loc → AHeap → Prop) → Loc → AHeap → Prop} (fo : Fok cx n true kd F) (hfs : F.fs = F.env :: outer) (hf : F.env.frame = some L)
    (vx : F.vis x = true) (hk : kd (slot F.nm x) = some .local ∨ kd (slot F.nm x) = some .cell) (t : St cx F m H s.heap)
    (hIt : Ev (Rep cx) cx F (eval iter F.env) m H s (fun v H => itemsW v (fun xs src => forW src st N xs m H) H) fun c H => X c m H)
    (hB : ∀ {y : PV} {K : NPost} {m' : Loc} {H : AHeap} {s : Shared}, St cx F (m'.set x (some y)) H s.heap → st y K m' H → EvS cx F (execs body F.env) H s K R X)
    (hs : ∀ x, foldedSetIterable iter F.env x = pure x) :
    EvS cx F (exec (.For (.Name (slot F.nm x) px) iter body [] pos) F.env) H s N R X := by
  refine wpAny_For (wpAny_mono hIt (fun xv s₁ h₁ => ?_) fun _ _ e => e.toS) hs
  obtain ⟨p, H₁, rv, t₁, k₁, hw⟩ := h₁
  have t₀ : cx.B.StaysIn s.heap := t.base
  refine iter_ok (F := F) rv t₁ hw fun I xs h' fI g it cI sr hl hc => ?_
  refine codeAny_forLoop (ForI cx F H₁ s₁ I xs p (forW (Src p xs) st N)) ?_ xs.length
    ⟨0, m, H₁, Nat.zero_le _, rfl, t₁.step (s' := { s₁ with heap := h' }) (.grow (tk := s₁.toks) g fun _ _ _ e => e) (t₁.heap.grow g), .grow (tk := s₁.toks) g (fun _ _ _ e => e), it, cI, hc⟩
  rintro k s' ⟨i, mk, Hk, hi, rfl, ti, ki, iti, ci, hw⟩
  by_cases hlt : i < xs.length
  · have hx1 : xs[i]? = some xs[i] := List.getElem?_eq_getElem hlt
    rw [List.drop_eq_getElem_cons hlt] at hw
    obtain ⟨sr, hw⟩ := hw
    refine next_ok ti iti sr ci hx1 fun v s₄ rv it₄ c₄ tc₄ => ?_
    obtain ⟨h₄, tk₄, rfl, k₄⟩ := id tc₄
    have t₄ : St cx F mk Hk h₄ := ti.touch ci k₄
    have kp₄ := ki.touch fI tc₄ ci.2.1
    refine wpAny_assign_Name (store_name (s := { s' with heap := h₄, toks := tk₄ }) fo vx hk t₄ rv fun s₅ t₅ kp₅ so₅ => ?_)
    obtain ⟨it₅, c₅⟩ := it₄.over kp₅ t₄ c₄
    refine wpAny_mono (hB t₅ hw) (fun f s₆ h₆ => ?_) fun v s₆ h₆ => ?_
    · cases f with
      | next =>
        obtain ⟨m₆, H₆, t₆, kp₆, h₆⟩ := h₆
        obtain ⟨it₆, c₆⟩ := it₅.over kp₆ t₅ c₅
        exact ⟨xs.length - (i + 1), by omega, i + 1, m₆, H₆, hlt, rfl, t₆, (kp₄.trans kp₅).trans kp₆, it₆, c₆, h₆⟩
      | ret v => exact OkS.older (f := .ret v) ((k₁.nil.trans kp₄).trans kp₅) h₆
      | brk => exact h₆.elim
      | cont => exact h₆.elim
    · exact noted_ok fo.fr hfs hf t₀ (h₆.older ((k₁.nil.trans kp₄).trans kp₅))
  · have hi' : i = xs.length := by omega
    subst hi'
    rw [List.drop_length] at hw
    obtain ⟨sr, hw⟩ := hw
    refine end_ok (fo.quiet rfl) ti iti sr (by simp) fun s₄ tc₄ => ?_
    obtain ⟨h₄, tk₄, rfl, k₄⟩ := id tc₄
    exact wpAny_execs_nil ⟨mk, Hk, ti.touch ci k₄, k₁.nil.trans (ki.touch fI tc₄ ci.2.1), hw⟩

noncomputable def Fm.mark (F : Fm) (e : Value) : Fm := { F with A := F.A.mark (some e) }
theorem St.mark {h : Heap} {v : Value} (t : St cx F m H h) : St cx (F.mark v) m H h := ⟨t.base, t.off, t.heap, t.frames, t.own, (let ⟨o, es, ep, mc, a, b, c, d⟩ := t.vars; ⟨o, es, ep, mc, a, b, c, d⟩), fun n c h => let ⟨a, b, o, x, d, e, f⟩ := t.cells n c h; ⟨a, b, o, x, d, e, f⟩⟩
theorem St.unmark {h : Heap} {v : Value} (t : St cx (F.mark v) m H h) : St cx F m H h := ⟨t.base, t.off, t.heap, t.frames, t.own, (let ⟨o, es, ep, mc, a, b, c, d⟩ := t.vars; ⟨o, es, ep, mc, a, b, c, d⟩), fun n c h => let ⟨a, b, o, x, d, e, f⟩ := t.cells n c h; ⟨a, b, o, x, d, e, f⟩⟩
theorem Fok.mark {v : Value} (fo : Fok cx n q kd F) : Fok cx n false kd (F.mark v) := ⟨fo.fr, fo.kind, fo.kdo, fo.glob, fo.bltn, fun q => (nomatch q), fo.depth, fo.units, fo.cells, fo.apart, fo.inj⟩
theorem OkS.unmark {v : Value} {N : NPost} {R : Post} {f : Flow} {s' : Shared} (x : OkS cx (F.mark v) H s N R f s') : OkS cx F H s N R f s' := by
  cases f with
  | next => obtain ⟨m', H', t, k', h⟩ := x; exact ⟨m', H', t.unmark, k', h⟩
  | ret v => obtain ⟨p, m', H', r, t, k', h⟩ := x; exact ⟨p, m', H', r, t.unmark, k', h⟩
  | _ => exact x.elim

/-- the caught error's name goes -/
theorem unbind_ok {y : Nat} {pos : Pos} {QQ : Unit → Shared → Prop} {E : Value → Shared → Prop} {A : Around} (fo : Fok cx n q kd F) (vy : F.vis y = true) (hk : kd (slot F.nm y) = some .local) (t : St cx F m H s.heap)
    (hQ : ∀ s', St cx F (m.set y none) H s'.heap → Kp cx (plc F) H s H s' → (∀ b o, s.heap.get? b = some o → Solid o → s'.heap.get? b = some o) → QQ () s') : wpAny cx.M A (do bindName F.env (slot F.nm y) .none; unbindBehindTheSuite F.env (slot F.nm y) pos) QQ E s := by
  have hl : F.env.kindOf (slot F.nm y) = some .local := by rw [fo.kdo]; exact hk
  obtain ⟨o, es, ep, mc, ho, hd, ns, _⟩ := t.vars
  have hp : (F.env.scope.kind == .class || (F.env.scope.kind == .module && F.env.locals != F.env.globals)) = false := by rw [fo.kind]; rfl
  refine wpAny_bind (wpAny_bindName (wpAny_storeName_local hl ns (fun h' ns' sb => ?_) hp))
  unfold unbindBehindTheSuite
  refine wpAny_onRaise ?_
  refine wpAny_unbindName_local hl ns' (v := .none) (by simp) hp fun h'' u ns'' sb' => ?_
  have kk : ∀ b o, b ≠ F.env.locals → s.heap.get? b = some o → h''.get? b = some o := fun b o n e => by rw [sb'.2 b n, sb.2 b n]; exact e
  have t' : St cx F (m.set y (some .none)) H h' := t.setLocal fo.inj vy hl ns ns' rfl sb .none
  have nsl : ∀ o, s.heap.get? F.env.locals = some o → ¬ Solid o := fun o' e => by rw [ho] at e; cases e; exact notSolid_dict hd
  have so : ∀ b o, s.heap.get? b = some o → Solid o → h''.get? b = some o := fun b o e so => kk b o (by rintro rfl; exact nsl o e so) e
  refine hQ _ ?_ (Kp.one (tk := s.toks + 1) (List.mem_cons_self ..) t.own.2 (let ⟨o, _, _, g, _⟩ := ns''; ⟨o, g⟩) kk) so
  have t₁ := t.forget y
  obtain ⟨o₁, es₁, ep₁, mc₁, ho₁, hd₁, ns₁, hv₁⟩ := t₁.vars
  have e0 : mc₁ = mc := funext (ns₁.agree ns)
  subst e0
  obtain ⟨o', es', ep', ho', hd', r'⟩ := id ns''
  refine ⟨fun b o e => kk b o (by rintro rfl; rw [t.own.2] at e; cases e) (t.base b o e), t.off, t.heap.keepBut t.own.1 kk nsl, fun env he => ?_, t.own, ⟨o', es', ep', _, ho', hd', ns'', fun i w h1 h2 h3 => ?_⟩, fun nn c hc' => ?_⟩
  · obtain ⟨hk, L, o1, es1, ep1, hf, hH, hb, ho1, hd1⟩ := t.frames env he
    by_cases q : L = F.env.locals
    · subst q; exact ⟨hk, _, o', es', ep', hf, hH, hb, ho', hd'⟩
    · exact ⟨hk, L, o1, es1, ep1, hf, hH, hb, kk L o1 q ho1, hd1⟩
  · obtain ⟨x, q, r⟩ := hv₁ i w h1 h2 h3
    have ne := (Loc.get_set0 h3).1
    have nn : slot F.nm i ≠ slot F.nm y := fun q => ne (fo.inj i y h1 vy q)
    exact ⟨x, by simp only [nn, if_false]; exact q, r.mono so⟩
  · obtain ⟨h1, h2, oc, z, hoc, hdc, hvc⟩ := t₁.cells nn c hc'
    have nc : c ≠ F.env.locals := by rintro rfl; rw [ho] at hoc; cases hoc; rw [hd] at hdc; cases hdc
    exact ⟨h1, h2, oc, z, kk c oc nc hoc, hdc, fun i w a b c' d => let ⟨z', q, r⟩ := hvc i w a b c' d; ⟨z', q, r.mono so⟩⟩
end
end Mine
end
section
open PySem PySem.Calls PyProof.Rows
namespace Mine
set_option autoImplicit false

section
variable {cx : Cx} {F : Fm} {m : Loc} {H H₁ : AHeap} {s s₁ : Shared} {kd : Kd} {n : Nat} {q : Bool} {e : Addr} {sc : Scope}

theorem St.touchAt {h h' : Heap} {I : Addr} (t : St cx F m H h) (hI : H I = none) (hB : cx.B.get? I = none) (ns : ∀ o, h.get? I = some o → ¬ Solid o) (nf : ∀ env ∈ F.fs, env.frame ≠ some I) (nl : F.env.locals ≠ I) (nc : ∀ n c, F.env.cells.lookup n = some c → c ≠ I)
    (k : ∀ b o, b ≠ I → h.get? b = some o → h'.get? b = some o) : St cx F m H h' := by
  have so : ∀ b o, h.get? b = some o → Solid o → h'.get? b = some o := fun b o e s => k b o (by rintro rfl; exact ns o e s) e
  refine ⟨fun b o e => k b o (by rintro rfl; rw [hB] at e; cases e) (t.base b o e), t.off, t.heap.keepBut hI k ns, fun env he => ?_, t.own, ?_, fun n c hc' => ?_⟩
  · obtain ⟨hk, L, o, es, ep, hf, hH, hb, ho, hd'⟩ := t.frames env he
    exact ⟨hk, L, o, es, ep, hf, hH, hb, k L o (by rintro rfl; exact nf env he hf) ho, hd'⟩
  · obtain ⟨o, es, ep, mc, ho, hd', ns', hv⟩ := t.vars
    exact ⟨o, es, ep, mc, k _ o nl ho, hd', ns'.at fun o e => k _ o nl e, fun i v h1 h2 h3 => let ⟨x, q, r⟩ := hv i v h1 h2 h3; ⟨x, q, r.mono so⟩⟩
  · obtain ⟨h1, h2, o, x, ho, hd', hv⟩ := t.cells n c hc'
    exact ⟨h1, h2, o, x, k c o (nc n c hc') ho, hd', fun i v a b c d => let ⟨y, q, r⟩ := hv i v a b c d; ⟨y, q, r.mono so⟩⟩

theorem assign_comp {elt iter : Expr} {ifs : List Expr} {x y : Nat} {px py pc pos : Pos} {N : NPost} {R : Post} {X : SXPost} {aT : BPost → Loc → AHeap → Prop} {aE : Post → Loc → AHeap → Prop}
    (fo : Fok cx n true kd F) (hsc : scOk kd (relab kd sc) sc (slot F.nm x) = true) (vy : F.vis y = true) (hky : kd (slot F.nm y) = some .local ∨ kd (slot F.nm y) = some .cell)
    (hIt : Ev (Rep cx) cx F (eval iter F.env) m H s (fun v H => itemsW v (fun xs src => compW src (fun y K H => aT (fun b H => if b then aE (fun v H => K [v] H) (m.set x (some y)) H else K [] H) (m.set x (some y)) H)
      (fun vs H => alloc (.list vs) (fun v H => N (m.set y (some v)) H) H) xs [] H) H) fun c H => X c m H)
    (hT : ∀ {cl : List (Str × Addr)} {C : Addr} {m' : Loc} {H : AHeap} {s : Shared} {Q : BPost}, Fok cx n true (relab kd sc) (compF F sc cl C x (relab kd sc)) → St cx (compF F sc cl C x (relab kd sc)) m' H s.heap → aT Q m' H →
      Ev IsBB cx (compF F sc cl C x (relab kd sc)) (testsSem ifs (compEnvC sc cl C F.env)) m' H s Q fun _ _ => False)
    (hE : ∀ {cl : List (Str × Addr)} {C : Addr} {m' : Loc} {H : AHeap} {s : Shared} {Q : Post}, Fok cx n true (relab kd sc) (compF F sc cl C x (relab kd sc)) → St cx (compF F sc cl C x (relab kd sc)) m' H s.heap → aE Q m' H →
      Ev (Rep cx) cx (compF F sc cl C x (relab kd sc)) (eval elt (compEnvC sc cl C F.env)) m' H s Q fun _ _ => False)
    (hs : ∀ x, foldedSetIterable iter F.env x = pure x) :
    EvS cx F (exec (.Assign [.Name (slot F.nm y) py] (.ListComp elt [⟨.Name (slot F.nm x) px, iter, ifs, 0⟩] sc pc) pos) F.env) H s N R X := by
  obtain ⟨b, hb⟩ : ∃ b, swapsWith (.ListComp elt [⟨.Name (slot F.nm x) px, iter, ifs, 0⟩] sc pc) (some (.Name (slot F.nm y) py)) pos.line F.env = pure b := ⟨_, rfl⟩
  cases b with
  | false =>
    refine wpAny_Assign_Name (wpAny_mono (comp_ok fo hsc hIt hT hE hs) (fun v s₁ h₁ => ?_) fun _ _ e => e.toS) hb
    obtain ⟨p, H₁, rv, t₁, k₁, hN⟩ := h₁
    exact store_name fo vy hky t₁ rv fun s' t' kp' _ => ⟨_, _, t', k₁.nil.trans kp', hN⟩
  | true =>
    have hsc' := hsc
    unfold scOk at hsc'
    simp only [Bool.and_eq_true, beq_iff_eq, decide_eq_true_eq] at hsc'
    obtain ⟨⟨⟨⟨⟨⟨⟨hkind, _⟩, _⟩, hnc⟩, hloc⟩, hfr⟩, hx⟩, _⟩ := hsc'
    obtain ⟨cl, hclos, hcl1, hcl2⟩ := closure_ok fo.cells hfr
    have hnames : ∀ y ∈ sc.names, y.2 = .local → sc.names.lookup y.1 = some .local := fun y hy hl => by
      have := List.all_eq_true.mp hloc y hy
      simp [hl] at this; exact this
    unfold EvS
    rw [exec_Assign_Name_used _ _ _ _ hb]
    refine wpAny_bind (wpAny_standAt (wpAny_bind ?_))
    show wpAny _ F.A (do let _ ← comprehension (.ListComp elt [⟨.Name (slot F.nm x) px, iter, ifs, 0⟩] sc pc) sc F.env _ (newList []) false (eval iter F.env) (some (assign (.Name (slot F.nm y) py) F.env))) _ _ s
    refine wpAny_bind (wpAny_mono (wpAny_comprehension_free (use := some (assign (.Name (slot F.nm y) py) F.env)) (Q := fun _ s' => OkS cx F H s N R .next s') rfl hs hclos hkind hnames
      (wpAny_mono hIt (fun xv s₁ h₁ => ?_) fun _ _ e => e.toS)) (fun _ s' hq => wpAny_pure (wpAny_pure hq)) fun _ _ e => e)
    obtain ⟨p, H₁, rv, t₁, k₁, hw⟩ := h₁
    refine iter_ok (F := F) rv t₁ hw fun I xs h' fI g it cI sr hl hc => ?_
    refine comp_block (RR := fun acc C => compPost cx.M F.A _ (some (assign (.Name (slot F.nm y) py) F.env)) _ acc C) fo hsc hcl1 hcl2 hT hE t₁ rfl g fI it cI hl hc ?_
    intro D C s' H' vs mc fC fD hDC ns hD hHD hHC hh k hq
    obtain ⟨t₂, k₂, hN⟩ := comp_fin' t₁ fC fD hDC ns hD hHD hHC hh k hq (Heap.SameBut.refl C s'.heap)
    refine wpAny_assign_Name (store_name fo vy hky t₂ (.obj D) fun s'' t'' kp'' _ => ?_)
    have bC : cx.B.get? C = none := by
      cases e : cx.B.get? C with
      | none => rfl
      | some o => rw [t₁.base _ _ e] at fC; cases fC
    have hH₂C : upd H' D (.list vs) C = none := by rw [upd_ne (Ne.symm hDC)]; exact hHC
    obtain ⟨oC, es, ep, gC, dC, rC⟩ := ns
    have npl : C ∉ plc F := fun hm => by
      rcases List.mem_cons.mp hm with q | hm
      · obtain ⟨o, _, _, _, g, _⟩ := t₁.vars; rw [← q, fC] at g; cases g
      · obtain ⟨p, _, hl⟩ := List.mem_filterMap.mp hm
        obtain ⟨_, _, o, _, g, _⟩ := t₁.cells _ C hl; rw [fC] at g; cases g
    obtain ⟨hC'', oC'', gC'', sm⟩ := kp''.keep C oC gC npl hH₂C
    refine ⟨mc, ⟨oC'', es, ep, gC'', sm.data.trans dC, rC⟩, fun h'' sb => ?_⟩
    have kk : ∀ b o, b ≠ C → s''.heap.get? b = some o → h''.get? b = some o := fun b o n e => by rw [sb.2 b n]; exact e
    have kp₀ : Kp cx (plc F) H s (upd H' D (.list vs)) { s'' with heap := h'' } := by
      have a : Kp cx (plc F) H₁ s₁ (upd H' D (.list vs)) s'' := k₂.nil.trans kp''
      exact k₁.nil.trans (a.touch (I := C) fC ⟨h'', s''.toks, rfl, kk⟩ bC)
    refine ⟨_, _, t''.touchAt (I := C) hC'' bC (fun o e => ?_) (fun env he hf => ?_) (fun q => ?_) (fun nn c hl q => ?_) kk, kp₀, hN⟩
    · rw [gC''] at e; cases e; exact notSolid_dict (sm.data.trans dC)
    · obtain ⟨_, L, o, _, _, hf', _, _, g, _⟩ := t₁.frames env he
      rw [hf] at hf'; cases hf'; rw [fC] at g; cases g
    · exact npl (by rw [← q]; exact List.mem_cons_self ..)
    · exact npl (by rw [← q]; exact mem_plc_cell hl)
end
end Mine
end
section
open PySem PySem.Calls PyProof.Rows
namespace Mine
set_option autoImplicit false
set_option linter.unusedSectionVars false
set_option linter.unusedVariables false

section
variable {cx : Cx} {g : Gl} {fl : List Str} {mg mb : Str → Option Value} {n : Nat}

theorem swaps_none (nm : List Str) (e : AE) (t : Option Expr) (l : Nat) (env : Env) (h : isComp e = false) : swapsWith (e.toE nm) t l env = pure false := by
  cases e with
  | comp => simp [isComp] at h
  | _ => rfl
theorem stores_none (nm : List Str) (e : AE) (xs : List Expr) (k : Nat) (p : Pos) (env : Env) (h : isTup e = false) : swappedStores [.Tuple xs k p] (e.toE nm) env = pure none := by
  cases e with
  | tup => simp [isTup] at h
  | _ => rfl
theorem noninter {F : Fm} {kd : Kd} {q : Bool} (fo : Fok cx n q kd F) : interactive F.env = false := by unfold interactive; rw [fo.kind]; rfl
theorem stOk_of {nm : List Str} {vis : Nat → Bool} {kd : Kd} {x : Nat} (h : stOk nm vis kd x = true) : vis x = true ∧ (kd (slot nm x) = some .local ∨ kd (slot nm x) = some .cell) := by
  simpa [stOk] using h

variable (ck : Cok cx g fl mg mb n)
include ck
mutual
theorem soundS : ∀ (st : AS) {F : Fm} {kd : Kd} {q : Bool} {m : Loc} {H : AHeap} {s : Shared} {N : NPost} {R : Post} {X : SXPost} {outer : List Env} {L : Addr}, Fok cx n q kd F → F.fs = F.env :: outer → F.env.frame = some L → okS fl F.nm F.vis kd q st = true → St cx F m H s.heap →
    awpS g st N R X m H → EvS cx F (exec (st.toS F.nm) F.env) H s N R X
  | .expr e p, F, kd, q, m, H, s, N, R, X, outer, L, fo, hfs, hf, ok, t, h => by
    replace ok := (show (_ && _) = true from ok); simp only [Bool.and_eq_true, Bool.not_eq_true'] at ok
    refine wpAny_Expr_any (wpAny_mono (soundE ck e fo ok.1 t h) (fun v s₁ h₁ => ?_) fun _ _ e => e.toS) (noninter fo) (swaps_none _ _ _ _ _ ok.2)
    obtain ⟨p, H₁, rv, t₁, k₁, h₁⟩ := h₁
    exact ⟨m, H₁, t₁, k₁.nil, h₁⟩
  | .assign x px e p, F, kd, q, m, H, s, N, R, X, outer, L, fo, hfs, hf, ok, t, h => by
    replace ok := (show (_ && _) = true from ok); simp only [Bool.and_eq_true] at ok
    obtain ⟨vx, hk⟩ := stOk_of ok.2
    by_cases hc : isComp e = true
    · cases e with
      | comp elt y py it cs sc pc =>
        have ok1 := ok.1
        replace ok1 := (show (_ && _) = true from ok1); simp only [Bool.and_eq_true, decide_eq_true_eq] at ok1
        obtain ⟨⟨⟨⟨⟨hit, hsc⟩, he⟩, hcs⟩, hlen⟩, rfl⟩ := ok1
        refine assign_comp (aT := fun Q m H => awpC g cs Q (fun _ _ => False) m H) (aE := fun Q m H => awpE g elt Q (fun _ _ => False) m H) fo hsc vx hk (soundE ck it fo hit t h) (fun {cl C m' H s Q} fo' t' h' => ?_) (fun {cl C m' H s Q} fo' t' h' => ?_) (folded_ok _ _ _)
        · exact soundC ck cs fo' hcs hlen t' h'
        · exact soundE ck elt fo' he t' h'
      | _ => simp [isComp] at hc
    · refine wpAny_Assign_Name (wpAny_mono (soundE ck e fo ok.1 t h) (fun v s₁ h₁ => ?_) fun _ _ e => e.toS) (swaps_none _ _ _ _ _ (by simpa using hc))
      obtain ⟨p, H₁, rv, t₁, k₁, hN⟩ := h₁
      exact store_name fo vx hk t₁ rv fun s' t' kp' _ => ⟨_, _, t', k₁.nil.trans kp', hN⟩
  | .assignT xs k pt e p, F, kd, q, m, H, s, N, R, X, outer, L, fo, hfs, hf, ok, t, h => by
    replace ok := (show (_ && _) = true from ok); simp only [Bool.and_eq_true, Bool.not_eq_true'] at ok
    obtain ⟨⟨⟨⟨rfl, he⟩, hc⟩, htp⟩, hxs⟩ := ok
    refine wpAny_Assign_stores (wpAny_mono (soundE ck e fo he t h) (fun v s₁ h₁ => ?_) fun _ _ e => e.toS) (by rw [show swapsWithSole [Expr.Tuple (xs.map fun x => Expr.Name (slot F.nm x.1) x.2) k pt] (AE.toE F.nm e) p.line F.env = swapsWith (AE.toE F.nm e) (some (Expr.Tuple (xs.map fun x => Expr.Name (slot F.nm x.1) x.2) k pt)) p.line F.env by unfold swapsWithSole; rfl]; exact swaps_none _ _ _ _ _ hc) (stores_none _ _ _ _ _ _ htp)
    obtain ⟨pv, H₁, rv, t₁, k₁, hu⟩ := h₁
    cases pv with
    | tup ys =>
      obtain ⟨hyl, hN⟩ := hu
      cases rv with
      | tup ge hle rs =>
        have nl := names_len F.nm F.env xs
        refine wpAny_assign_Tuple (x1 := k) (fo.quiet rfl) ⟨_, ge, rfl, _, rfl⟩ (by rw [nl.1, ← hyl, ← rs.length]; simp) nl.2 fun h' ex => ?_
        have g : ∀ b o, s₁.heap.get? b = some o → h'.get? b = some o := fun b o e => ex b o (Nat.ne_of_lt (Heap.lt_size e)) e
        have kp : Kp cx (plc F) H₁ s₁ H₁ { s₁ with heap := h' } := .grow (tk := s₁.toks) g fun _ _ _ e => e
        have kp0 : Kp cx [] H₁ s₁ H₁ { s₁ with heap := h' } := .grow (tk := s₁.toks) g fun _ _ _ e => e
        refine names_ok (s := { s₁ with heap := h' }) fo xs ys _ hyl.symm (fun x hx => stOk_of (List.all_eq_true.mp hxs x hx)) (rs.mono fun b o e _ => g b o e) (t₁.step kp0 (t₁.heap.grow g)) fun s' t' k' => ?_
        exact ⟨_, _, t', (k₁.nil.trans kp).trans k', hN⟩
    | _ => exact hu.elim
  | .store o i ps e p, F, kd, q, m, H, s, N, R, X, outer, L, fo, hfs, hf, ok, t, h => by
    replace ok := (show (_ && _) = true from ok); simp only [Bool.and_eq_true, Bool.not_eq_true'] at ok
    obtain ⟨⟨⟨ho, hi⟩, he⟩, hc⟩ := ok
    refine wpAny_Assign_Subscript (wpAny_mono (soundE ck e fo he t h) (fun v s₁ h₁ => ?_) fun _ _ e => e.toS) (swaps_none _ _ _ _ _ hc)
    obtain ⟨pv, H₁, rv, t₁, k₁, h₁⟩ := h₁
    refine wpAny_mono (soundE ck o fo ho t₁ h₁) (fun ov s₂ h₂ => ?_) fun _ _ e => (e.older k₁).toS
    obtain ⟨po, H₂, ro, t₂, k₂, h₂⟩ := h₂
    refine wpAny_mono (soundE ck i fo hi t₂ h₂) (fun iv s₃ h₃ => ?_) fun _ _ e => (e.older (k₁.trans k₂)).toS
    obtain ⟨pi, H₃, ri, t₃, k₃, h₃⟩ := h₃
    have so₂ := k₂.solid0 t₁.heap
    have so₃ := k₃.solid0 t₂.heap
    refine wpAny_mono (store_ok (X := fun c H => X c m H) (ro.mono so₃) ri ((rv.mono so₂).mono so₃) t₃ h₃) (fun _ s₄ h₄ => ?_) fun _ _ e => (e.older ((k₁.trans k₂).trans k₃)).toS
    obtain ⟨_, H₄, _, t₄, k₄, h₄⟩ := h₄
    exact ⟨m, H₄, t₄, (((k₁.trans k₂).trans k₃).trans k₄).nil, h₄⟩
  | .sattr .., F, kd, q, m, H, s, N, R, X, outer, L, fo, hfs, hf, ok, t, h => absurd (show false = true from ok) (by decide)
  | .ite c a b p, F, kd, q, m, H, s, N, R, X, outer, L, fo, hfs, hf, ok, t, h => by
    replace ok := (show (_ && _) = true from ok); simp only [Bool.and_eq_true] at ok
    obtain ⟨⟨hc, ha⟩, hb⟩ := ok
    refine wpAny_bind (wpAny_standAt ?_)
    refine EvS.after (soundB ck c fo hc (fun t h => soundE ck c fo hc t h) t h) fun v b' s₁ H₁ rv t₁ k₁ h₁ => ?_
    have rv : v = b' := rv
    subst rv
    cases v with
    | true => exact soundSs a fo hfs hf ha t₁ (by simpa using h₁)
    | false => exact soundSs b fo hfs hf hb t₁ (by simpa using h₁)
  | .for x px it b p, F, kd, q, m, H, s, N, R, X, outer, L, fo, hfs, hf, ok, t, h => by
    replace ok := (show (_ && _) = true from ok); simp only [Bool.and_eq_true] at ok
    obtain ⟨⟨⟨rfl, hit⟩, hx⟩, hb⟩ := ok
    obtain ⟨vx, hk⟩ := stOk_of hx
    exact for_ok (st := fun y K m H => awpSs g b K R X (m.set x (some y)) H) fo hfs hf vx hk t (soundE ck it fo hit t h) (fun t' h' => soundSs b fo hfs hf hb t' h') (folded_ok _ _ _)
  | .while c b p, F, kd, q, m, H, s, N, R, X, outer, L, fo, hfs, hf, ok, t, h => by
    replace ok := (show (_ && _) = true from ok); simp only [Bool.and_eq_true] at ok
    obtain ⟨⟨rfl, hc⟩, hb⟩ := ok
    obtain ⟨I, ⟨k, hI⟩, hstep⟩ := h
    refine wpAny_While (codeAny_whileLoop (fun k s' => ∃ m' H', St cx F m' H' s'.heap ∧ Kp cx (plc F) H s H' s' ∧ I k m' H') ?_ k ⟨m, H, t, .refl _ _ _ _, hI⟩)
    rintro k s' ⟨m', H', t', k', hI'⟩
    refine wpAny_mono (soundB ck c fo hc (fun t h => soundE ck c fo hc t h) t' (hstep k m' H' hI')) (fun v s₁ h₁ => ?_) fun v s₁ h₁ => ?_
    · obtain ⟨b', H₁, rv, t₁, k₁, h₁⟩ := h₁
      have rv : v = b' := rv
      subst rv
      cases v with
      | true =>
        simp only [if_true] at h₁ ⊢
        refine wpAny_mono (soundSs b fo hfs hf hb t₁ h₁) (fun f s₂ h₂ => ?_) fun v s₂ h₂ => ?_
        · have h₂ := OkS.older (k'.trans k₁.nil) h₂
          cases f with
          | next => obtain ⟨m₂, H₂, t₂, k₂, j, hj, hI₂⟩ := h₂; exact ⟨j, hj, m₂, H₂, t₂, k₂, hI₂⟩
          | ret v => exact h₂
          | brk => exact h₂.elim
          | cont => exact h₂.elim
        · exact noted_ok fo.fr hfs hf t.base (ErS.older (k'.trans k₁.nil) h₂)
      | false =>
        simp only [Bool.false_eq_true, if_false] at h₁ ⊢
        exact wpAny_execs_nil ⟨m', H₁, t₁, k'.trans k₁.nil, h₁⟩
    · exact noted_ok fo.fr hfs hf t.base (ErS.older k' (ErP.toS h₁))
  | .ret e p, F, kd, q, m, H, s, N, R, X, outer, L, fo, hfs, hf, ok, t, h => by
    refine wpAny_Return_some (wpAny_mono (soundE ck e fo ok t h) (fun v s₁ h₁ => ?_) fun _ _ e => e.toS)
    obtain ⟨p, H₁, rv, t₁, k₁, h₁⟩ := h₁
    exact ⟨p, m, H₁, rv, t₁, k₁.nil, h₁⟩
  | .ret0 p, F, kd, q, m, H, s, N, R, X, outer, L, fo, hfs, hf, ok, t, h => wpAny_Return_none ⟨.none, m, H, .none, t, .refl _ _ _ _, h⟩
  | .raise c x msg k pc pm pk p, F, kd, q, m, H, s, N, R, X, outer, L, fo, hfs, hf, ok, t, h => by
    replace ok := (show (_ && _) = true from ok); simp only [Bool.and_eq_true, beq_iff_eq] at ok
    obtain ⟨⟨rfl, hx⟩, ho⟩ := ok
    exact ck.rais fo hx ho t fun e s' y t' k' => ⟨e, c, m, H, rfl, y, t', k'.nil, h⟩
  | .try b hs p, F, kd, q, m, H, s, N, R, X, outer, L, fo, hfs, hf, ok, t, h => by
    replace ok := (show (_ && _) = true from ok); simp only [Bool.and_eq_true, Bool.not_eq_true'] at ok
    obtain ⟨⟨⟨rfl, hb⟩, hh⟩, hnil⟩ := ok
    cases hs with
    | nil => simp [AHs.isNil] at hnil
    | cons k x px y b' p' hs' =>
      have hsb : EvS cx F (execs (b.toSs F.nm) F.env) H s N R (fun c m H => awpHs g (.cons k x px y b' p' hs') c N R m H) := soundSs b fo hfs hf hb t h
      refine wpAny_Try_except (wpAny_mono hsb (fun f s₁ h₁ => ?_) fun v s₁ h₁ => ?_)
      · cases f with
        | next => exact wpAny_execs_nil h₁
        | ret v => exact h₁
        | brk => exact h₁
        | cont => exact h₁
      · obtain ⟨e, c, m', H', rfl, y', t', k', h'⟩ := h₁
        refine note_ok fo.fr hfs hf t' k' t.base y' fun s₂ t₂ k₂ x₂ => ?_
        refine unflight_ok t₂ k₂ t.base x₂ fun s₃ t₃ k₃ x₃ => ?_
        exact soundHs (.cons k x px y b' p' hs') fo hfs hf hh t₃ t.base k₃ x₃ h'
theorem soundSs : ∀ (ss : ASs) {F : Fm} {kd : Kd} {q : Bool} {m : Loc} {H : AHeap} {s : Shared} {N : NPost} {R : Post} {X : SXPost} {outer : List Env} {L : Addr}, Fok cx n q kd F → F.fs = F.env :: outer → F.env.frame = some L → okSs fl F.nm F.vis kd q ss = true → St cx F m H s.heap →
    awpSs g ss N R X m H → EvS cx F (execs (ss.toSs F.nm) F.env) H s N R X
  | .nil, F, kd, q, m, H, s, N, R, X, outer, L, fo, hfs, hf, ok, t, h => wpAny_execs_nil ⟨m, H, t, .refl _ _ _ _, h⟩
  | .cons st ss, F, kd, q, m, H, s, N, R, X, outer, L, fo, hfs, hf, ok, t, h => by
    replace ok := (show (_ && _) = true from ok); simp only [Bool.and_eq_true] at ok
    exact EvS.seq (soundS st fo hfs hf ok.1 t h) fun m₁ s₁ H₁ t₁ h₁ => soundSs ss fo hfs hf ok.2 t₁ h₁
theorem soundHs : ∀ (hs : AHs) {F : Fm} {kd : Kd} {m : Loc} {H H₀ : AHeap} {s s₀ : Shared} {N : NPost} {R : Post} {outer : List Env} {L e : Addr} {c : Nat} {E : Value → Shared → Prop}, Fok cx n true kd F → F.fs = F.env :: outer → F.env.frame = some L → okHs fl F.nm F.vis kd hs = true → St cx F m H s.heap →
    cx.B.StaysIn s₀.heap → Kp cx (plc F) H₀ s₀ H s → ExcOut cx s₀.heap s.heap e c → awpHs g hs c N R m H → wpAny cx.M F.A (handleBy (.ref e) F.env (hs.toHs F.nm)) (OkS cx F H₀ s₀ N R) E s
  | .nil, F, kd, m, H, H₀, s, s₀, N, R, outer, L, e, c, E, fo, hfs, hf, ok, t, t₀, k, x, h => by simp [awpHs] at h
  | .cons kc xn px y b p hs, F, kd, m, H, H₀, s, s₀, N, R, outer, L, e, c, E, fo, hfs, hf, ok, t, t₀, k, x, h => by
    replace ok := (show (_ && _) = true from ok); simp only [Bool.and_eq_true, beq_iff_eq, Bool.not_eq_true'] at ok
    obtain ⟨⟨⟨⟨⟨hg, ho⟩, hy⟩, hb⟩, hnil⟩, hhs⟩ := ok
    obtain ⟨C, hC, hm⟩ := ck.own xn kc ho
    have fo' : Fok cx n false kd (F.mark (.ref e)) := fo.mark
    refine wpAny_handleBy_cons (codeAny_handlers_test (glob_ok (F := F.mark (.ref e)) fo' hg t.mark ck.gns hm ?_)) (by intro q; cases q)
    refine ck.mats t.base x.rep hC fun tk => ?_
    have k' : Kp cx (plc F) H₀ s₀ H { s with toks := tk } := k.trans (.grow (fun _ _ e => e) fun _ _ _ e => e)
    have h' := h
    simp only [awpHs] at h'
    cases hsub : isSub c kc with
    | false =>
      rw [hsub] at h'
      simp only [Bool.false_eq_true, if_false] at h'
      exact soundHs hs (s := { s with toks := tk }) fo hfs hf hhs t t₀ k' x h'
    | true =>
      rw [hsub] at h'
      simp only [if_true] at h'
      cases b with
      | nil => simp [ASs.isNil] at hnil
      | cons b₀ bs =>
        cases y with
        | none =>
          refine codeAny_handlers_suite ?_
          refine unflight_ok (s₁ := { s with toks := tk }) t k' t₀ x fun s₂ t₂ k₂ x₂ => ?_
          have := soundSs (.cons b₀ bs) (F := F.mark (.ref e)) fo' hfs hf hb t₂.mark h'
          exact wpAny_mono this (fun f s₃ h₃ => (OkS.unmark h₃).older k₂) fun _ _ ⟨_, _, _, _, _, _, _, _, f⟩ => f.elim
        | some y =>
          simp only [Bool.and_eq_true, beq_iff_eq] at hy
          refine codeAny_handlers_suite_as ?_
          refine unflight_ok (s₁ := { s with toks := tk }) t k' t₀ x fun s₂ t₂ k₂ x₂ => ?_
          refine store_name fo hy.1 (.inl hy.2) t₂ x₂.rep fun s₃ t₃ k₃ _ => ?_
          have := soundSs (.cons b₀ bs) (F := F.mark (.ref e)) fo' hfs hf hb t₃.mark h'
          refine wpAny_mono this (fun f s₄ h₄ => ?_) fun _ _ ⟨_, _, _, _, _, _, _, _, f⟩ => f.elim
          have h₅ := (OkS.unmark h₄).older (k₂.trans k₃)
          cases f with
          | next =>
            obtain ⟨m₅, H₅, t₅, k₅, hN⟩ := h₅
            exact unbind_ok fo hy.1 hy.2 t₅ fun s₆ t₆ k₆ _ => ⟨_, _, t₆, k₅.trans k₆, hN⟩
          | ret v =>
            obtain ⟨p, m₅, H₅, r₅, t₅, k₅, hR⟩ := h₅
            exact unbind_ok fo hy.1 hy.2 t₅ fun s₆ t₆ k₆ so => ⟨p, _, _, r₅.mono so, t₆, k₅.trans k₆, hR⟩
          | brk => exact h₅.elim
          | cont => exact h₅.elim
end
end
end Mine
end
section
open PySem PySem.Calls PyProof.Rows
namespace Mine
set_option autoImplicit false

structure FnOk (cx : Cx) (fl : List Str) (fd : FuncData) (nm : List Str) (np k : Nat) (kd : Kd) (body : ASs) : Prop where
  glob : fd.globals = cx.ga
  bltn : fd.builtins = cx.ba
  clo : fd.closure = []
  co : fd.scope.isCoroutine = false
  gen : fd.scope.isGenerator = false
  kind : fd.scope.kind = .function
  kdo : kd = fun x => fd.scope.names.lookup x
  nofree : (fd.scope.names.all fun p => p.2 != .free) = true
  bdy : fd.body = .stmts (body.toSs nm)
  bind : ∀ vals : List Value, vals.length = np → bindArgs fd ⟨vals, []⟩ = pure ((nm.take np).zip vals)
  nodup : (nm.take k).Nodup
  le : np ≤ k ∧ k ≤ nm.length
  pkind : ((nm.take np).all fun x => fd.scope.names.lookup x == some .local || fd.scope.names.lookup x == some .cell) = true
  okb : okSs fl nm (fun i => decide (i < k)) (fun x => fd.scope.names.lookup x) true body = true

section
variable {kindOf : Str → Option NameKind}
theorem bindL_other {y : Str} : ∀ (bs : List (Str × Value)) (m : Str → Option Value), y ∉ bs.map (·.1) → bindL kindOf bs m y = m y
  | [], _, _ => rfl
  | (x, v) :: r, m, h => by
    simp only [List.map_cons, List.mem_cons, not_or] at h
    unfold bindL
    rw [bindL_other r _ h.2]
    split
    · simp [h.1]
    · rfl
theorem bindC_other {y : Str} : ∀ (bs : List (Str × Value)) (m : Str → Option Value), y ∉ bs.map (·.1) → bindC kindOf bs m y = m y
  | [], _, _ => rfl
  | (x, v) :: r, m, h => by
    simp only [List.map_cons, List.mem_cons, not_or] at h
    unfold bindC
    rw [bindC_other r _ h.2]
    split
    · rfl
    · simp [h.1]
theorem bindL_at {y : Str} {v : Value} (hk : kindOf y = some .local) : ∀ (bs : List (Str × Value)) (m : Str → Option Value), (bs.map (·.1)).Nodup → (y, v) ∈ bs → bindL kindOf bs m y = some v
  | [], _, _, h => by simp at h
  | (x, w) :: r, m, hn, h => by
    simp only [List.map_cons, List.nodup_cons] at hn
    unfold bindL
    rcases List.mem_cons.mp h with e | h
    · cases e
      rw [bindL_other r _ hn.1, if_pos hk]; simp
    · exact bindL_at hk r _ hn.2 h
theorem bindC_at {y : Str} {v : Value} (hk : kindOf y ≠ some .local) : ∀ (bs : List (Str × Value)) (m : Str → Option Value), (bs.map (·.1)).Nodup → (y, v) ∈ bs → bindC kindOf bs m y = some v
  | [], _, _, h => by simp at h
  | (x, w) :: r, m, hn, h => by
    simp only [List.map_cons, List.nodup_cons] at hn
    unfold bindC
    rcases List.mem_cons.mp h with e | h
    · cases e
      rw [bindC_other r _ hn.1, if_neg hk]; simp
    · exact bindC_at hk r _ hn.2 h
end

theorem cellsFrom_has {x : Str} : ∀ (names : List (Str × NameKind)) (n : Nat) (acc : List (Str × Addr)), ((x, NameKind.cell) ∈ names ∨ (acc.lookup x).isSome = true) → ((cellsFrom n names acc).lookup x).isSome = true
  | [], _, acc, h => by rcases h with h | h; simp at h; exact h
  | (y, k) :: r, n, acc, h => by
    unfold cellsFrom
    split
    · refine cellsFrom_has r _ _ ?_
      rcases h with h | h
      · rcases List.mem_cons.mp h with e | h
        · cases e; right; simp
        · exact .inl h
      · right; rw [List.lookup_cons]; split <;> simp_all
    · rename_i hk
      refine cellsFrom_has r _ _ ?_
      rcases h with h | h
      · rcases List.mem_cons.mp h with e | h
        · cases e; simp at hk
        · exact .inl h
      · exact .inr h
theorem lookup_mem {α : Type} {l : List (Str × α)} {x : Str} {k : α} (h : l.lookup x = some k) : (x, k) ∈ l := mem_of_lookup h

noncomputable def initL (nm : List Str) (np : Nat) (ps : List PV) : Loc := ps.map some ++ List.replicate (nm.length - np) none

section
variable {cx : Cx} {g : Gl} {fl : List Str} {mg mb : Str → Option Value} {n : Nat}

theorem core_fn (ck : Cok cx g fl mg mb n) {fd : FuncData} {nm : List Str} {np k : Nat} {kd : Kd} {body : ASs} {a : Addr} {o : Obj} (fn : FnOk cx fl fd nm np k kd body) (lim : cx.B.NoLimit) (ho : cx.B.get? a = some o) (hd : o.data = .func fd) (hcd : cx.B.CodeRec fd.code fd.qualname)
    {A : Around} {fs : List Env} {H : AHeap} {s : Shared} {vs : List Value} {ps : List PV} {Q : Post} {X : XPost} {R : Result → Shared → Prop} (hfr : A.frames = some fs) (hqu : A.handled = none) (hdep : A.depth + (n + 1) ≤ 900) (huni : A.units + 4 * (n + 1) + 200 ≤ cLine)
    (tb : cx.B.StaysIn s.heap) (toff : ∀ b o, cx.B.get? b = some o → H b = none) (th : Holds cx s.heap H) (tfr : ∀ env ∈ fs, FrAt cx H s.heap env) (rs : RepL cx s.heap vs ps) (hlen : ps.length = np)
    (h : awpSs g body (fun _ H => Q .none H) Q (fun c _ H => X c H) (initL nm np ps) H)
    (hR : ∀ v p H' s', Rep cx s'.heap v p → Kp cx [] H s H' s' → Holds cx s'.heap H' → Q p H' → R (.ok (.ret v)) s')
    (hX : ∀ e c H' s', ExcOut cx s.heap s'.heap e c → Kp cx [] H s H' s' → Holds cx s'.heap H' → X c H' → R (.error (.ref e)) s') : codeAny cx.M A (.call (.ref a) ⟨vs, []⟩) R s := by
  have hvl : vs.length = np := by rw [rs.length]; exact hlen
  have fresh : ∀ b, s.heap.objs.size ≤ b → s.heap.get? b = none := fun b hb => get_ge_none hb
  have bnone : ∀ b, s.heap.objs.size ≤ b → cx.B.get? b = none := fun b hb => by
    cases e : cx.B.get? b with
    | none => rfl
    | some o => have := fresh b hb; rw [tb _ _ e] at this; cases this
  have hnd : ((nm.take np).Nodup) := by
    have h1 : nm.take np = (nm.take k).take np := by rw [List.take_take, Nat.min_eq_left fn.le.1]
    rw [h1]; exact fn.nodup.sublist (List.take_sublist _ _)
  have htl : (nm.take np).length = np := by rw [List.length_take]; have := fn.le; omega
  have hmapz : ((nm.take np).zip vs).map (·.1) = nm.take np := by rw [List.map_fst_zip]; omega
  refine (codeAny_call_cells (binds := (nm.take np).zip vs) (by show _ < 1000; omega) (tb _ _ ho) hd (lim.keeps tb) (hcd.keeps tb) fn.bdy (fn.bind vs hvl) fn.clo (fun x hx => ?_) (fun s₁ ic => ?_) fn.co fn.gen fn.kind)
  · have hx1 : x.1 ∈ nm.take np := by rw [← hmapz]; exact List.mem_map_of_mem hx
    have := List.all_eq_true.mp fn.pkind x.1 hx1
    simp only [Bool.or_eq_true, beq_iff_eq] at this
    rcases this with h1 | h1
    · exact .inl h1
    · exact .inr ⟨h1, cellsFrom_has _ _ _ (.inl (lookup_mem h1))⟩
  · generalize hEnv : callEnvC fd s.heap.objs.size a = env at ic ⊢
    have eL : env.locals = s.heap.objs.size := by rw [← hEnv]; rfl
    have eF : env.frame = some s.heap.objs.size := by rw [← hEnv]; rfl
    have eK : env.kindOf = fun x => fd.scope.names.lookup x := by rw [← hEnv]; rfl
    have eC : env.cells = cellsFrom (s.heap.objs.size + 1) fd.scope.names [] := by rw [← hEnv]; rfl
    have eG : env.globals = cx.ga := by rw [← hEnv, ← fn.glob]; rfl
    have eB : env.builtins = cx.ba := by rw [← hEnv, ← fn.bltn]; rfl
    have eS : env.scope.kind = .function := by rw [← hEnv]; exact fn.kind
    have eD : fd.scope.names = env.scope.names := by rw [← hEnv]; rfl
    clear hEnv
    have keep := ic.toInCall.keep
    have so : ∀ b o, s.heap.get? b = some o → Solid o → s₁.heap.get? b = some o := fun b o e _ => keep b o e
    let F' : Fm := { A := A.deeper env, env := env, fs := env :: fs, nm := nm, vis := fun i => decide (i < k) }
    have memz : ∀ i v, i < k → (initL nm np ps).getD i none = some v → ∃ x, (slot nm i, x) ∈ (nm.take np).zip vs ∧ Rep cx s₁.heap x v := fun i v hi hv => by
      have hlt : i < np := by
        apply Classical.byContradiction
        intro hge
        have : (initL nm np ps).getD i none = none := by
          unfold initL
          rw [List.getD_eq_getElem?_getD, List.getElem?_append_right (by simp; omega)]
          cases e : (List.replicate (nm.length - np) (none : Option PV))[i - (ps.map some).length]? with
          | none => rfl
          | some o => rw [List.getElem?_replicate] at e; split at e <;> simp_all
        rw [this] at hv; cases hv
      have hp : ps[i]? = some v := by
        unfold initL at hv
        rw [List.getD_eq_getElem?_getD, List.getElem?_append_left (by simp; omega)] at hv
        rw [List.getElem?_map] at hv
        cases e : ps[i]? with
        | none => rw [e] at hv; simp at hv
        | some w => rw [e] at hv; simp at hv; rw [hv]
      obtain ⟨x, ex, rx⟩ := rs.get hp
      refine ⟨x, ?_, rx.mono so⟩
      have hin : i < nm.length := by have := fn.le; omega
      have e1 : (nm.take np)[i]? = some (slot nm i) := by
        rw [List.getElem?_take, if_pos hlt]
        unfold slot
        rw [List.getD_eq_getElem?_getD, List.getElem?_eq_getElem hin]; rfl
      have : ((nm.take np).zip vs)[i]? = some (slot nm i, x) := by rw [List.getElem?_zip_eq_some]; exact ⟨e1, ex⟩
      exact List.mem_of_getElem? this
    have fo' : Fok cx n true kd F' := by
      refine ⟨?_, eS, by rw [fn.kdo]; exact eK, eG, eB, fun _ => hqu, ?_, ?_, fun x hx => ?_, fun x y c h1 h2 => ?_, fun i j hi hj e => ?_⟩
      · show (A.deeper env).frames = some (env :: fs)
        unfold Around.deeper; rw [hfr]; rfl
      · show A.depth + 1 + n ≤ 900; omega
      · show A.units + 3 + 4 * n + 200 ≤ cLine; omega
      · rw [fn.kdo] at hx
        rcases hx with hx | hx
        · exact Option.isSome_iff_exists.mp (by show (env.cells.lookup x).isSome = true; rw [eC]; exact cellsFrom_has _ _ _ (.inl (lookup_mem hx)))
        · have := List.all_eq_true.mp fn.nofree _ (lookup_mem hx)
          simp at this
      · exact name_of_addr ic.apart (mem_of_lookup h1) (mem_of_lookup h2)
      · have hi' : i < k := of_decide_eq_true hi
        have hj' : j < k := of_decide_eq_true hj
        have hl := fn.le.2
        have ei : (nm.take k)[i]? = some (slot nm i) := by
          rw [List.getElem?_take, if_pos hi']; unfold slot; rw [List.getD_eq_getElem?_getD, List.getElem?_eq_getElem (by omega)]; rfl
        have ej : (nm.take k)[j]? = some (slot nm j) := by
          rw [List.getElem?_take, if_pos hj']; unfold slot; rw [List.getD_eq_getElem?_getD, List.getElem?_eq_getElem (by omega)]; rfl
        have e' : slot nm i = slot nm j := e
        rw [e'] at ei
        exact (List.getElem?_inj (by rw [List.length_take]; omega) fn.nodup).mp (by rw [ei, ej])
    have st' : St cx F' (initL nm np ps) H s₁.heap := by
      obtain ⟨oL, es, ep, gL, dL, rL⟩ := id ic.toInCall.ns
      rw [eL] at gL
      refine ⟨fun b o e => keep b o (tb b o e), toff, th.grow keep, fun env' he => ?_, ⟨?_, ?_⟩, ⟨oL, es, ep, _, by rw [← eL] at gL; exact gL, dL, ic.toInCall.ns, fun i v h1 h2 h3 => ?_⟩, fun nn c hc => ?_⟩
      · rcases List.mem_cons.mp he with rfl | he
        · exact ⟨by rw [eS]; decide, s.heap.objs.size, oL, es, ep, eF, th.fresh (fresh _ (Nat.le_refl _)), bnone _ (Nat.le_refl _), gL, dL⟩
        · obtain ⟨hk, L, o, es, ep, hf, hH, hb, ho, hd'⟩ := tfr env' he
          exact ⟨hk, L, o, es, ep, hf, hH, hb, keep L o ho, hd'⟩
      · show H env.locals = none
        rw [eL]; exact th.fresh (fresh _ (Nat.le_refl _))
      · show cx.B.get? env.locals = none
        rw [eL]; exact bnone _ (Nat.le_refl _)
      · obtain ⟨x, hx, rx⟩ := memz i v (of_decide_eq_true h1) h3
        exact ⟨x, bindL_at h2 _ _ (by rw [hmapz]; exact hnd) hx, rx⟩
      · obtain ⟨oc, gc, dc⟩ := ic.cell nn c hc
        have hlt := ic.above nn c (mem_of_lookup hc)
        rw [eL] at hlt
        refine ⟨th.fresh (fresh _ (Nat.le_of_lt hlt)), bnone _ (Nat.le_of_lt hlt), oc, _, gc, dc, fun i v h1 h2 h3 h4 => ?_⟩
        obtain ⟨x, hx, rx⟩ := memz i v (of_decide_eq_true h1) h4
        subst h2
        exact ⟨x, bindC_at h3 _ _ (by rw [hmapz]; exact hnd) hx, rx⟩
    have kp₁ : Kp cx (plc F') H s H s₁ := by
      obtain ⟨h', tk, e⟩ := ic.toInCall.same
      rw [e]
      exact .grow (fun b o q => by have := keep b o q; rw [e] at this; exact this) fun _ _ _ q => q
    have down : ∀ {H' : AHeap} {s' : Shared}, Kp cx (plc F') H s H' s' → Kp cx [] H s H' s' := fun {H' s'} kp => kp.sub fun b o e hb => by
      exfalso
      rcases List.mem_cons.mp hb with q | hb
      · rw [q] at e; have : s.heap.get? env.locals = none := by rw [eL]; exact fresh _ (Nat.le_refl _)
        rw [show F'.env.locals = env.locals from rfl, this] at e; cases e
      · obtain ⟨p, _, hl⟩ := List.mem_filterMap.mp hb
        have hlt := ic.above p.1 b (mem_of_lookup hl)
        rw [eL] at hlt
        rw [fresh b (Nat.le_of_lt hlt)] at e; cases e
    have body := soundSs ck body (F := F') (outer := fs) (L := s.heap.objs.size) fo' rfl eF (by rw [fn.kdo]; exact fn.okb) st' h
    refine wpAny_mono body (fun f s' h' => ?_) fun e s' h' => ?_
    · cases f with
      | next =>
        obtain ⟨m', H', t', kp', hq⟩ := h'
        exact hR .none .none H' _ .none (down (kp₁.trans kp')) t'.heap hq
      | ret v =>
        obtain ⟨p, m', H', rv, t', kp', hq⟩ := h'
        exact hR v p H' _ rv (down (kp₁.trans kp')) t'.heap hq
      | brk => exact h'.elim
      | cont => exact h'.elim
    · obtain ⟨e, c, m', H', rfl, x', t', kp', hx⟩ := h'
      have kpp := kp₁.trans kp'
      have x₀ := x'.older kp₁.alive
      unfold leaving
      refine wpAny_bind (note_ok (F := F') (outer := fs) fo'.fr rfl eF t' kpp tb x₀ fun s₂ t₂ k₂ x₂ => ?_)
      refine unflight_ok t₂ k₂ tb x₂ fun s₃ t₃ k₃ x₃ => ?_
      exact hX e c H' _ x₃ (down k₃) t₃.heap hx
theorem call_fn (ck : Cok cx g fl mg mb n) {fd : FuncData} {nm : List Str} {np k : Nat} {kd : Kd} {body : ASs} {a : Addr} {o : Obj} (fn : FnOk cx fl fd nm np k kd body) (lim : cx.B.NoLimit) (ho : cx.B.get? a = some o) (hd : o.data = .func fd) (hcd : cx.B.CodeRec fd.code fd.qualname)
    {F : Fm} {kdF : Kd} {m : Loc} {H : AHeap} {s : Shared} {vs : List Value} {ps : List PV} {Q : Post} {X : XPost} (fF : Fok cx (n + 1) true kdF F) (rs : RepL cx s.heap vs ps) (hlen : ps.length = np) (t : St cx F m H s.heap)
    (h : awpSs g body (fun _ H => Q .none H) Q (fun c _ H => X c H) (initL nm np ps) H) : Ev (Rep cx) cx F (call (.ref a) vs []) m H s Q X :=
  wpAny_call (core_fn ck fn lim ho hd hcd fF.fr (fF.quiet rfl) fF.depth fF.units t.base t.off t.heap t.frames rs hlen h (fun v p H' s' rv kp hh q => ⟨p, H', rv, t.step kp hh, kp, q⟩) fun e c H' s' x kp hh q => ⟨e, c, H', rfl, x.exc, t.step kp hh, kp, q⟩)
end
end Mine
end
section
open PySem PySem.W PySem.Calls PyProof.Rows
namespace Mine
set_option autoImplicit false
set_option maxRecDepth 100000

/-! the program's globals, told from its laid heap -/
noncomputable def kmg (K : Frag) (x : Str) : Option Value := match K.lookup mainGlobals with
  | some o => (match o.data with | .dict es _ => nsFind es x | _ => none)
  | none => none
theorem kmg_eq {K : Frag} {h : Heap} {mg : Str → Option Value} (X : K.In h) (hs : (K.lookup mainGlobals).isSome = true) (hn : h.Ns mainGlobals mg) : mg = kmg K := by
  obtain ⟨o, e⟩ := Option.isSome_iff_exists.mp hs
  rw [hn.eq_nsMap]
  funext x
  unfold Heap.nsMap kmg
  rw [X _ _ e, e]
  cases o.data <;> rfl

noncomputable def ownChk (K : Frag) (cs : List Addr) : Bool := onms.all fun p => kmg K p.1 == (cs[p.2]?).map Value.ref && (cs[p.2]?).isSome
noncomputable def clsChk (K : Frag) (D : Addr) : Bool := ((findIn K (.ref D) "__getattribute__" == some (some (.builtin "BaseException.__getattribute__"))) && (findIn K (.ref D) "__getattr__" == some none) && (subIn K (.ref D) (.type "BaseException") == some true)) && (clsIn K D).isSome && (findIn K (.ref D) "__class__" == some (some (.builtin "object.__class__")))
  && (specialIn K (.builtin "object.__class__") "__get__" == some (some (.builtin "getset_descriptor.__get__"))) && (takesIn K (.builtin "object.__class__") == some true) && (mroIn K D (.type "object") == some true)
  && (kitOne K (.ref D) (.type "ValueError") == some true)
noncomputable def excChk (K : Frag) (cs : List Addr) : Bool := cs.all (clsChk K) && (List.range cs.length).all fun k => (List.range cs.length).all fun c =>
  match cs[k]?, cs[c]? with
  | some A, some B => (kitOne K (.ref A) (.ref B) == some (isSub k c)) && (exmOne K (.ref A) (.ref B) == some (isSub k c))
  | _, _ => false
noncomputable def bltNames : List Str := ["len", "list", "tuple", "range", "max", "min", "int", "str", "all", "any", "abs", "isinstance", "bool", "ValueError"]
noncomputable def bltChk (K : Frag) : Bool := bltNames.all fun x => kmg K x == none

theorem excChk_at {K : Frag} {cs : List Addr} (h : excChk K cs = true) {k c : Nat} {A B : Addr} (hk : cs[k]? = some A) (hc : cs[c]? = some B) : clsChk K A = true ∧ kitOne K (.ref A) (.ref B) = some (isSub k c) ∧ exmOne K (.ref A) (.ref B) = some (isSub k c) := by
  unfold excChk at h
  simp only [Bool.and_eq_true] at h
  have h1 := List.all_eq_true.mp h.1 A (List.mem_of_getElem? hk)
  have kl : k < cs.length := (List.getElem?_eq_some_iff.mp hk).1
  have cl : c < cs.length := (List.getElem?_eq_some_iff.mp hc).1
  have h2 := List.all_eq_true.mp (List.all_eq_true.mp h.2 k (List.mem_range.mpr kl)) c (List.mem_range.mpr cl)
  rw [hk, hc] at h2
  simp only [Bool.and_eq_true, beq_iff_eq] at h2
  exact ⟨h1, h2.1, h2.2⟩

section
variable {K : Frag} {x D : Addr} {ox : Obj} {prog : Program} {w : World} {A : Around} {E : Value → Shared → Prop} {s : Shared}
theorem exc_class {Q : Option Value → Shared → Prop} (X : K.In s.heap) (I : InstAt s.heap x ox D none) (hga : findIn K (.ref D) "__getattribute__" = some (some (.builtin "BaseException.__getattribute__")))
    (hgr : findIn K (.ref D) "__getattr__" = some none) (hf : findObj K D none "__class__" = some (.bind (.builtin "getset_descriptor.__get__") (.builtin "object.__class__"))) (hsub : subIn K (.ref D) (.type "BaseException") = some true) (hm : mroIn K D (.type "object") = some true)
    (h : Q (some (.ref D)) { s with toks := s.toks + 1 }) : wpAny (model prog w) A (getAttr? (.ref x) "__class__") Q E s := by
  obtain ⟨hh, g, d, t, os⟩ := s
  have L0 := I.type (M := model prog w)
  have L1 := looks_findIn (M := model prog w) X hga
  have L2 := looks_findIn (M := model prog w) X hgr
  have L3 := looks_find (M := model prog w) X I hf
  have L4 := looks_subIn (M := model prog w) X hsub
  have hx2 : (Value.builtin "BaseException.__getattribute__" == Value.builtin "object.__getattribute__") = false := by decide +kernel
  have hx1 : (onTheHeap (Value.ref D) && Value.builtin "BaseException.__getattribute__" == Value.builtin "object.__getattribute__") = false := by rw [hx2]; rfl
  have f3 := PySem.F.attr_ValueError.ga.bind (.ref x)
  unfold getAttr? getAttrBy? getAttrBy
  refine wpAny_bind (wpAny_mkText (wpAny_bind (wpAny_attempt (wpAny_holding (wpAny_bind (L0.at (wpAny_bind (L1.at ?_))))))))
  simp only [hx1, Bool.false_eq_true, if_false]
  unfold getAttrByItsOwn hookBefore
  rw [if_pos (show onTheHeap (Value.ref D) = true from rfl)]
  refine wpAny_bind (L2.at ?_)
  refine wpAny_bind (wpAny_attempt (wpAny_holding ?_))
  unfold callGetattribute
  rw [if_neg (by simp)]
  unfold boundAndCalled
  rw [f3]
  refine wpAny_bind (wpAny_pure (wpAny_call (codeAny_call_builtin PySem.F.attr_ValueError.ga.plain PySem.F.entry_bexc_ga ?_)))
  have hk : builtinKind "BaseException.__getattribute__" = some .slot := by decide +kernel
  have hsplit : splitId "BaseException.__getattribute__" = some ("BaseException", "__getattribute__") := by decide +kernel
  have ha := PySem.F.args_bexc_ga (.ref x) (.str "__class__" t)
  have L5 : Looks (model prog w) hh (isInstance (.ref x) (.type "BaseException")) true := L0.andThen L4
  simp only [checkBuiltinCall, hk, hsplit]
  refine wpAny_bind (L5.at ?_)
  rw [if_neg (by simp)]
  have body : wpAny (model prog w) A.in1 (Builtin.«object.__getattribute__» { pos := [Value.ref x] ++ [Value.str (Str.ofString "__class__") t] })
      (fun fin s' => fin = .done (.ret (.ref D)) ∧ s' = ⟨hh, g, d, t + 1, os⟩) (fun _ _ => False) ⟨hh, g, d, t + 1, os⟩ := by
    unfold Builtin.«object.__getattribute__»
    repeat (any_goals (first | assumption | lk | wp_step))
    refine wpAny_run (class_get (s := ⟨hh, g, d, t + 1, os⟩) X I hm ?_)
    exact wpAny_pure (wpAny_pure ⟨rfl, rfl⟩)
  have fin : wpAny (model prog w) A.in1 (Builtin.«object.__getattribute__» { pos := [Value.ref x] ++ [Value.str (Str.ofString "__class__") t] })
      (fun fin s' => match fin with
        | .done f => (match (Except.ok f : Result) with
          | .ok (.ret v) => wpAny (model prog w) A (handedOut v) (fun a s' => wpAny (model prog w) A (pure (some a)) Q E s') (fun e s' => wpAny (model prog w) A (do if ← isInstance e (.type "AttributeError") then pure none else throw e) Q E s') s'
          | .ok _ => False
          | .error e => False)
        | .again c' => False) (fun _ _ => False) ⟨hh, g, d, t + 1, os⟩ := wpAny_mono body (fun f s' hs => by
      obtain ⟨rfl, rfl⟩ := hs
      exact handed_on rfl (wpAny_pure h)) fun _ _ f => f
  cases hsig : Manifest.signature? "BaseException.__getattribute__" with
  | none =>
    refine wpAny_pure (wpAny_mono fin (fun f s' hs => ?_) fun _ _ f => f.elim)
    rcases f with (_ | _ | _ | _) | _ <;> first | exact hs | exact hs.elim
  | some sig =>
    simp only [argsOk, hsig] at ha
    have h2 : Bind.checkArgs "BaseException.__getattribute__" sig { pos := [Value.ref x] ++ [Value.str (Str.ofString "__class__") t] } = pure () := ha
    simp only [h2]
    refine wpAny_pure (wpAny_mono fin (fun f s' hs => ?_) fun _ _ f => f.elim)
    rcases f with (_ | _ | _ | _) | _ <;> first | exact hs | exact hs.elim
end

section
variable {K : Frag} {x D : Addr} {ox : Obj}
theorem findObj_none {g a : Value} {name : Str} (hc : (clsIn K D).isSome = true) (ha : findIn K (.ref D) name = some (some a)) (hg : specialIn K a "__get__" = some (some g)) (ht : takesIn K a = some true) : findObj K D none name = some (.bind g a) := by
  obtain ⟨cd, hc⟩ := Option.isSome_iff_exists.mp hc
  unfold findObj
  rw [hc, Option.bind_some, ha, Option.bind_some]
  simp [hg, ht]

theorem kitx_exc (hk : clsChk K D = true) : KitX K (.ref x) (.ref D) (fun h => InstAt h x ox D none) := by
  unfold clsChk at hk
  simp only [Bool.and_eq_true, beq_iff_eq] at hk
  obtain ⟨⟨⟨⟨⟨⟨hg, hc⟩, ha⟩, hn⟩, htk⟩, hm⟩, _⟩ := hk
  obtain ⟨cd, hcD⟩ := Option.isSome_iff_exists.mp hc
  refine ⟨fun _ _ _ I => I.type, fun _ _ X _ => ?_, fun h tp dd its n sl X htp => ?_, fun {prog w A E Q s} X I k => ?_⟩
  · unfold clsIn at hcD
    split at hcD
    · rename_i c' d' cd' sl' ho
      intro A' Q' E' s' k q
      unfold isType loadHead
      exact wpAny_bind (wpAny_loadPart (k _ _ (X _ _ ho)) (wpAny_pure q))
    · cases hcD
  · refine Bool.eq_false_iff.mpr fun q => ?_
    have e : D = tp := Value.ref.inj (beq_iff_eq.mp q)
    subst e
    unfold clsIn at hcD
    split at hcD
    · rename_i c' d' cd' sl' ho
      have z := (X _ _ ho).symm.trans htp
      cases z
    · cases hcD
  · exact exc_class X I hg.1.1 hg.1.2 (findObj_none hc ha hn htk) hg.2 hm k
end

section
variable {cx : Cx} {K : Frag} {cs : List Addr} {mg mb : Str → Option Value}

theorem Rep.excI {h : Heap} {v : Value} {k : Nat} (r : Rep cx h v (.exc k)) : ∃ e o vs C, v = .ref e ∧ h.get? e = some o ∧ o.cls = .ref C ∧ o.data = .fields vs ∧ cx.cls k = some C ∧ o.dict = Option.none := by
  cases r with | exc e c d x y => exact ⟨_, _, _, _, rfl, e, c, d, x, y⟩
theorem instAt_of {h : Heap} {e C : Addr} {o : Obj} {vs : Array Value} (g : h.get? e = some o) (c : o.cls = .ref C) (d : o.data = .fields vs) (y : o.dict = none) : InstAt h e o C none :=
  ⟨g, c, by unfold notCls; rw [d], by rw [y]; trivial⟩

theorem isx_ok (X : K.In cx.B) (hcs : cx.cls = fun c => cs[c]?) (hk : excChk K cs = true) {F : Fm} {m : Loc} {H : AHeap} {s : Shared} {Q : Post} {XX : XPost} {e : Value} {k c : Nat} {C : Addr} (r : Rep cx s.heap e (.exc k)) (t : St cx F m H s.heap) (hc : cx.cls c = some C) (hQ : Q (.bool (isSub k c)) H) :
    Ev (Rep cx) cx F (call (.builtin "isinstance") [e, .ref C]) m H s Q XX := by
  obtain ⟨a, o, vs, D, rfl, g, hcl, hd, hD, hy⟩ := r.excI
  rw [hcs] at hc hD
  obtain ⟨h1, h2, _⟩ := excChk_at hk hD hc
  exact kia_one (kitx_exc h1) (X.keeps t.base) (instAt_of g hcl hd hy) h2 (by simp) fun tk => .toks tk (.bool _) t hQ
theorem isv_ok (X : K.In cx.B) (hcs : cx.cls = fun c => cs[c]?) (hk : excChk K cs = true) {F : Fm} {m : Loc} {H : AHeap} {s : Shared} {Q : Post} {XX : XPost} {e : Value} {k : Nat} (r : Rep cx s.heap e (.exc k)) (t : St cx F m H s.heap) (hQ : Q (.bool true) H) :
    Ev (Rep cx) cx F (call (.builtin "isinstance") [e, .type "ValueError"]) m H s Q XX := by
  obtain ⟨a, o, vs, D, rfl, g, hcl, hd, hD, hy⟩ := r.excI
  rw [hcs] at hD
  obtain ⟨h1, _, _⟩ := excChk_at hk hD hD
  have h3 : kitOne K (.ref D) (.type "ValueError") = some true := by
    unfold clsChk at h1; simp only [Bool.and_eq_true, beq_iff_eq] at h1; exact h1.2
  exact kia_one (kitx_exc h1) (X.keeps t.base) (instAt_of g hcl hd hy) h3 (by simp) fun tk => .toks tk (.bool _) t hQ
theorem mats_ok (X : K.In cx.B) (hcs : cx.cls = fun c => cs[c]?) (hk : excChk K cs = true) {A : Around} {s : Shared} {e : Value} {k c : Nat} {C : Addr} {QQ : Bool → Shared → Prop} {E : Value → Shared → Prop} (t : cx.B.StaysIn s.heap) (r : Rep cx s.heap e (.exc k)) (hc : cx.cls c = some C)
    (hQ : ∀ tk, QQ (isSub k c) { s with toks := tk }) : wpAny cx.M A (excMatches e (.ref C)) QQ E s := by
  obtain ⟨a, o, vs, D, rfl, g, hcl, hd, hD, hy⟩ := r.excI
  rw [hcs] at hc hD
  obtain ⟨_, _, h2⟩ := excChk_at hk hD hc
  exact exm_one (M := cx.M) (X.keeps t) (instAt_of g hcl hd hy).type h2 _ _ _ _ (fun _ _ e => e) (hQ s.toks)

theorem rais_ok {n : Nat} (gns : cx.B.Ns cx.ga mg) {F : Fm} {kd : Kd} {m : Loc} {H : AHeap} {s : Shared} {c : Nat} {x msg : Str} {k : Nat} {pc pm pk p : Pos} {QQ : Flow → Shared → Prop} {E : Value → Shared → Prop} {C : Addr} {bm : List Value} {newId initId B : String}
    (O : OwnCls x C bm newId mg cx.B) (FB : ExcBaseFacts B newId initId bm) (hC : cx.cls c = some C)
    (fo : Fok cx n true kd F) (gk : isGlob kd x = true) (t : St cx F m H s.heap) (hE : ∀ e s', Exc cx F.env.frame s.heap s'.heap e c → St cx F m H s'.heap → Kp cx [] H s H s' → E (.ref e) s') :
    wpAny cx.M F.A (exec (.Raise (some (.Call (.Name x pc) [.Constant (.str msg) k pm] [] pk)) none p) F.env) QQ E s := by
  obtain ⟨tl, N, nm, q, bs, hdct, sn, sub, ab, col, dd, k0, k1, k2, k3, k5, mN, gC, hN, hni, T⟩ := O.obj
  refine wpAny_Raise_call_subT (C := C) (nm := nm) (q := q) (N := N) (bs := bs) (bm := tl) (hdct := hdct) (sn := sn) (sub := sub) (ab := ab) (col := col) (dd := dd) (k0 := k0) (k1 := k1) (k2 := k2) (k3 := k3) (k5 := k5)
    FB (mN := mN) (T.hasType FB.hasBase) (fo.quiet rfl) rfl hni (glob_ok fo gk t gns O.bound ⟨rfl, ?_⟩)
  refine evalArgs_plain (spliced_cons (Constant_str (k := k) (pos := pm) (spliced_nil ⟨rfl, by rw [sizeLine_eq]; simp, t.base _ _ gC, hN.keeps t.base, T.keeps t.base, fun h' e hm => ?_⟩)))
  obtain ⟨tt, ge, _, _⟩ := hm.there
  have kp : Kp cx [] H s H { s with heap := h', toks := s.toks + 1 } := .grow hm.keeps fun _ _ _ q => q
  exact hE e _ ⟨hm.new, _, _, C, _, ge, rfl, ⟨hC, rfl⟩, rfl, rfl, .inl rfl⟩ (t.step kp (t.heap.grow hm.keeps)) kp

theorem boot_blt : ∀ b : Blt, bootBuiltins b.name = some b.val := by intro b; cases b <;> decide +kernel
theorem boot_isi : bootBuiltins "isinstance" = some (.builtin "isinstance") := by decide +kernel
theorem boot_bty : ∀ T ∈ ["str", "list", "tuple", "bool", "int", "ValueError"], bootBuiltins (Str.ofString T) = some (.type T) := by decide +kernel
end
end Mine
end
section
open PySem PySem.W PySem.Calls PyProof.Rows
namespace Mine
set_option autoImplicit false

noncomputable def bmVE : List Value := [.type "ValueError", .type "Exception", .type "BaseException", .type "object"]
noncomputable def ownsChk (p : Program) : Bool := onms.all fun q => (ownsOf p).any fun o => o.name == q.1 && o.newId == "ValueError.__new__" && o.bm == bmVE

theorem lookup_in {x : Str} {c : Nat} (h : onm x = some c) : (x, c) ∈ onms := mem_of_lookup h

section
variable {cx : Cx} {K : Frag} {cs : List Addr} {mg mb : Str → Option Value} {g : Gl} {p : Program} {loose : List Str} {mean : ExcName → Option Value}

theorem cok_base (X : K.In cx.B) (hs : (K.lookup mainGlobals).isSome = true) (T : Top p loose mean mg mb cx.B) (hga : cx.ga = mainGlobals) (hba : cx.ba = builtinsNs) (hcs : cx.cls = fun c => cs[c]?) (hk : excChk K cs = true) (how : ownChk K cs = true) (hbl : bltChk K = true) (hoc : ownsChk p = true)
    (consts : ∀ x q, g.G x = some q → ∃ v, mg x = some v ∧ Rep cx cx.B v q) : Cok cx g [] mg mb 0 := by
  have hmg := kmg_eq X hs T.g
  have free : ∀ x ∈ bltNames, mg x = none := fun x hx => by
    rw [hmg]
    have := List.all_eq_true.mp hbl x hx
    simpa using this
  have nn : ∀ x ∈ bltNames, x ≠ Str.ofString "__name__" := by decide +kernel
  have own : ∀ x c, onm x = some c → ∃ C, cx.cls c = some C ∧ mg x = some (.ref C) := fun x c hx => by
    have := List.all_eq_true.mp how (x, c) (lookup_in hx)
    simp only [Bool.and_eq_true, beq_iff_eq] at this
    obtain ⟨C, hC⟩ := Option.isSome_iff_exists.mp this.2
    refine ⟨C, by rw [hcs]; exact hC, ?_⟩
    rw [hmg, this.1, hC]; rfl
  refine ⟨by rw [hga]; exact T.g, ?_, by rw [hba]; exact T.b, consts, fun b => ?_, ⟨free _ (by decide +kernel), (T.builtins _ (by decide +kernel)).trans boot_isi⟩, fun t ht => ?_, own, ?_, ?_, ?_, ?_, fun f hf => ?_, fun f hf => ?_⟩
  · obtain ⟨o, e⟩ := Option.isSome_iff_exists.mp hs
    exact ⟨mainGlobals, o, by decide, X _ _ e⟩
  · have hb : Str.ofString b.name ∈ bltNames := by cases b <;> decide +kernel
    exact ⟨free _ hb, (T.builtins _ (nn _ hb)).trans (boot_blt b)⟩
  · have hb : ∀ t ∈ ["str", "list", "tuple", "bool", "int", "ValueError"], Str.ofString t ∈ bltNames := by decide +kernel
    exact ⟨free _ (hb t ht), (T.builtins _ (nn _ (hb t ht))).trans (boot_bty t ht)⟩
  · exact fun r t hc hQ => isx_ok X hcs hk r t hc hQ
  · exact fun r t hQ => isv_ok X hcs hk r t hQ
  · intro F kd m H s c x msg k pc pm pk pp QQ E fo gk ho t hE
    have := List.all_eq_true.mp hoc (x, c) (lookup_in ho)
    obtain ⟨o, hom, hoo⟩ := List.any_eq_true.mp this
    simp only [Bool.and_eq_true, beq_iff_eq] at hoo
    obtain ⟨⟨h1, h2⟩, h3⟩ := hoo
    obtain ⟨C, O, _⟩ := T.own o hom
    obtain ⟨C', hC', hb'⟩ := own x c ho
    have O' := O.own
    rw [h1, h2, h3] at O'
    have : C = C' := by have := O'.bound; rw [hb'] at this; cases this; rfl
    subst this
    exact rais_ok (by rw [hga]; exact T.g) O' PySem.F.excBase_ValueError hC' fo gk t hE
  · exact fun t r hc hQ => mats_ok X hcs hk t r hc hQ
  · simp at hf
  · simp at hf
end

section
variable {cx : Cx} {mg mb : Str → Option Value} {g : Gl} {fl : List Str} {n : Nat}
theorem Fok.less {q : Bool} {kd : Kd} {F : Fm} (fo : Fok cx (n + 1) q kd F) : Fok cx n q kd F := ⟨fo.fr, fo.kind, fo.kdo, fo.glob, fo.bltn, fo.quiet, by have := fo.depth; omega, by have := fo.units; omega, fo.cells, fo.apart, fo.inj⟩

theorem Cok.add (ck : Cok cx g fl mg mb n) {f : Str} {fd : FuncData} {nm : List Str} {np k : Nat} {kd : Kd} {body : ASs} {a : Addr} {o : Obj} (hf : mg f = some (.ref a)) (fn : FnOk cx fl fd nm np k kd body) (lim : cx.B.NoLimit) (ho : cx.B.get? a = some o) (hd : o.data = .func fd) (hcd : cx.B.CodeRec fd.code fd.qualname)
    (spec : ∀ {ps : List PV} {H : AHeap} {Q : Post} {X : XPost}, g.C f ps H Q X → ps.length = np ∧ awpSs g body (fun _ H => Q .none H) Q (fun c _ H => X c H) (initL nm np ps) H) : Cok cx g (f :: fl) mg mb (n + 1) := by
  refine ⟨ck.gns, ck.mods, ck.bns, ck.consts, ck.blts, ck.isi, ck.bty, ck.own, ck.isx, ck.isv, fun fo gk ho t hE => ck.rais fo.less gk ho t hE, ck.mats, fun f' h' => ?_, fun f' h' {ps H Q X} hc {F kd' m s vs a'} fo hm rs t => ?_⟩
  · rw [List.contains_cons, Bool.or_eq_true] at h'
    rcases h' with h' | h'
    · rw [beq_iff_eq.mp h']; exact ⟨a, o, fd, hf, ho, hd⟩
    · exact ck.fns f' h'
  · by_cases e : f' = f
    · subst e
      rw [hf] at hm; cases hm
      obtain ⟨h1, h2⟩ := spec hc
      exact call_fn ck fn lim ho hd hcd fo rs h1 t h2
    · rw [List.contains_cons, Bool.or_eq_true] at h'
      exact ck.calls f' (h'.resolve_left fun q => e (beq_iff_eq.mp q)) hc fo.less hm rs t

noncomputable def fnChk (fl : List Str) (nm : List Str) (np k : Nat) (sc : Scope) (body : ASs) : Bool :=
  !sc.isCoroutine && !sc.isGenerator && decide (sc.kind = .function) && (sc.names.all fun p => p.2 != .free) && decide ((nm.take k).Nodup) && decide (np ≤ k) && decide (k ≤ nm.length)
    && ((nm.take np).all fun x => sc.names.lookup x == some .local || sc.names.lookup x == some .cell) && okSs fl nm (fun i => decide (i < k)) (fun x => sc.names.lookup x) true body

theorem Cok.addT {p : Program} {loose : List Str} {mean : ExcName → Option Value} (ck : Cok cx g fl mg mb n) (T : Top p loose mean mg mb cx.B) (hga : cx.ga = mainGlobals) (hba : cx.ba = builtinsNs) {f : Str} {d : DefRec} {nm : List Str} {np k : Nat} {sc : Scope} {body : ASs}
    (hd : d ∈ recsOf p) (h1 : d.name = f) (h2 : d.body = body.toSs nm) (h3 : d.scope = sc) (hb : ∀ (pm code doc : Value) (vals : List Value), vals.length = np → bindArgs (docDef d.name d.params d.body d.scope pm code doc) ⟨vals, []⟩ = pure ((nm.take np).zip vals))
    (hc : fnChk fl nm np k sc body = true)
    (spec : ∀ {ps : List PV} {H : AHeap} {Q : Post} {X : XPost}, g.C f ps H Q X → ps.length = np ∧ awpSs g body (fun _ H => Q .none H) Q (fun c _ H => X c H) (initL nm np ps) H) : Cok cx g (f :: fl) mg mb (n + 1) := by
  obtain ⟨a, o, pm, code, doc, hm, ho, hdat, hcd⟩ := T.fn d hd
  unfold fnChk at hc
  simp only [Bool.and_eq_true, Bool.not_eq_true', decide_eq_true_eq] at hc
  obtain ⟨⟨⟨⟨⟨⟨⟨⟨c1, c2⟩, c3⟩, c4⟩, c5⟩, c6⟩, c7⟩, c8⟩, c9⟩ := hc
  rw [h1] at hm
  subst h3
  exact ck.add (kd := fun x => d.scope.names.lookup x) hm ⟨hga.symm, hba.symm, rfl, c1, c2, c3, rfl, c4, by show FuncBody.stmts d.body = _; rw [h2], hb pm code doc, c5, ⟨c6, c7⟩, c8, c9⟩ T.nolimit ho hdat hcd spec
end
end Mine
end
section
open PySem PySem.W PySem.Calls PyProof.Rows
namespace Mine
set_option autoImplicit false

noncomputable def strOf? : Value → Option Str
  | .str x _ => some x
  | _ => none
noncomputable def tupChk (K : Frag) (b : Addr) (ss : List Str) : Bool := match K.lookup b with
  | some ⟨.type "tuple", none, .seq items _, sl⟩ => (sl.size == 0) && (items.toList.map strOf? == ss.map some) && decide (ss.length ≤ 100)
  | _ => false
noncomputable def strChk (K : Frag) (P : Str → Option Value) (x s : Str) : Bool := false
noncomputable def fdtEntries (P : Params) (l : List (Str × Tok × Addr)) : Array DictEntry := (l.map fun e => ({ hash := PyData.keyHash P e.1, key := .str e.1 e.2.1, val := .ref e.2.2 } : DictEntry)).toArray

section
variable {cx : Cx} {K : Frag}
theorem strs_repl {h : Heap} : ∀ {vs : List Value} {ss : List Str}, vs.map strOf? = ss.map some → RepL cx h vs (ss.map .str)
  | [], [], _ => .nil
  | [], _ :: _, e => by simp at e
  | _ :: _, [], e => by simp at e
  | v :: vs, s :: ss, e => by
    simp only [List.map_cons, List.cons.injEq] at e
    refine .cons ?_ (strs_repl e.2)
    cases v <;> simp [strOf?] at e
    obtain ⟨rfl, _⟩ := e
    exact .str _ _
theorem tup_of {h : Heap} (X : K.In h) {b : Addr} {ss : List Str} (hk : tupChk K b ss = true) : Rep cx h (.ref b) (.tup (ss.map .str)) := by
  have hL : LIM = 1048576 := rfl
  unfold tupChk at hk
  split at hk
  · rename_i items n sl e
    simp only [Bool.and_eq_true, beq_iff_eq, decide_eq_true_eq] at hk
    have hsl : sl = #[] := Array.eq_empty_of_size_eq_zero hk.1.1
    subst hsl
    exact .tup (X _ _ e) (by simp; omega) (strs_repl hk.1.2)
  · cases hk

theorem fdt_pairs {P : Params} {h : Heap} (X : K.In h) : ∀ {l : List (Str × Tok × Addr)} {kvs : List (Str × List Str)}, l.map (·.1) = kvs.map (·.1) → ((l.zip kvs).all fun e => tupChk K e.1.2.2 e.2.2) = true →
    RepK cx h (l.map fun e => (e.1, Value.ref e.2.2)) (kvs.map fun e => (e.1, .tup (e.2.map .str)))
  | [], [], _, _ => .nil
  | [], _ :: _, e, _ => by simp at e
  | _ :: _, [], e, _ => by simp at e
  | (k, t, a) :: l, (k', ss) :: kvs, e, hk => by
    simp only [List.map_cons, List.cons.injEq] at e
    simp only [List.zip_cons_cons, List.all_cons, Bool.and_eq_true] at hk
    obtain ⟨rfl, e⟩ := e
    exact .cons (tup_of X hk.1) (fdt_pairs (P := P) X e hk.2)

theorem fdt_of {h : Heap} (X : K.In cx.B) {a : Addr} {l : List (Str × Tok × Addr)} {ep : Nat} {kvs : List (Str × List Str)} (hl : K.lookup a = some { cls := .type "dict", data := .dict (fdtEntries cx.w.params l) ep })
    (hn : (l.map (·.1)).Nodup) (hkv : l.map (·.1) = kvs.map (·.1)) (hk : ((l.zip kvs).all fun e => tupChk K e.1.2.2 e.2.2) = true) (hh : cx.B.StaysIn h) : Rep cx h (.ref a) (.fdt (kvs.map fun e => (e.1, .tup (e.2.map .str)))) := by
  refine .fdt (vs := l.map fun e => (e.1, Value.ref e.2.2)) ⟨_, _, ep, X _ _ hl, ⟨rfl, rfl, rfl⟩, rfl, ?_, ?_, ?_⟩ (fdt_pairs (P := cx.w.params) (X.keeps hh) hkv hk)
  · intro e he
    unfold fdtEntries at he
    simp only [List.mem_toArray, List.mem_map] at he
    obtain ⟨x, _, rfl⟩ := he
    exact ⟨x.1, by simp [Cx.sk, PySem.strKind, Value.isStrOf], rfl⟩
  · unfold fdtEntries
    simp only [List.toList_toArray]
    clear hl hn hkv hk
    induction l with
    | nil => exact .nil
    | cons x l ih => exact .cons (by simp [Cx.sk, PySem.strKind, Value.isStrOf]) rfl ih
  · rw [List.map_map]; exact hn
end
end Mine
end
section
open PySem PySem.W PySem.Calls PyProof.Rows
namespace Mine
set_option autoImplicit false

/-! steps of the abstract walk: what the definitions do not tell by themselves -/
section
variable {g : Gl} {N : NPost} {R : Post} {X : SXPost} {E : XPost} {m : Loc} {H : AHeap} {Q : Post} {QB : BPost}
theorem O_ite {c A B : Prop} [Decidable c] (a : c → A) (b : ¬ c → B) : if c then A else B := by
  split
  · rename_i h; exact a h
  · rename_i h; exact b h
theorem O_glob {x : Str} {v : PV} (e : g.G x = some v) (h : Q v H) : varW (g.G x) Q H := by rw [e]; exact h
theorem O_mulI {a b : Int} (k : a.natAbs < 2 ^ 60 ∨ b.natAbs < 2 ^ 60) (h : Q (.int (a * b)) H) : BinW Q H .Mult (.int a) (.int b) := .mulI a b k h
theorem O_modI {a b : Int} {K : PV → Prop} {R : Prop} (k : 0 < b) (h : K (.int (a % b))) : pureOr (binF .Mod (.int a) (.int b)) K R := by
  show pureOr (match (if 0 < b then some (a % b) else none) with | some i => some (PV.int i) | none => none) _ _
  rw [if_pos k]; exact h
theorem O_divI {a b : Int} {K : PV → Prop} {R : Prop} (k : 0 < b) (k' : b < 1073741824) (h : K (.int (a / b))) : pureOr (binF .FloorDiv (.int a) (.int b)) K R := by
  show pureOr (match (if 0 < b then if b < 1073741824 then some (a / b) else none else none) with | some i => some (PV.int i) | none => none) _ _
  rw [if_pos k, if_pos k']; exact h
theorem O_recvS {s : Str} {P : Prop} (h : P) : RecvW P H .join (.str s) := .str h
theorem O_powI (h : Q (.int 1000000000) H) : BinW Q H .Pow (.int 10) (.int 9) := .powI h
theorem O_addS {a b : Str} (k : a.length + b.length ≤ LIM) (h : Q (.str (a ++ b)) H) : BinW Q H .Add (.str a) (.str b) := .addS a b k h
theorem O_addT {a b : List PV} (k : a.length + b.length ≤ LIM) (h : Q (.tup (a ++ b)) H) : BinW Q H .Add (.tup a) (.tup b) := .addT a b k h
theorem O_addL {a b : Addr} {xs ys : List PV} (ha : H a = some (.list xs)) (hb : H b = some (.list ys)) (k : xs.length + ys.length ≤ LIM) (h : ∀ c H', H c = none → H' c = some (.list (xs ++ ys)) → Ext H H' → Q (.obj c) H') : BinW Q H .Add (.obj a) (.obj b) := .addL a b xs ys ha hb k h
theorem O_mulL {a : Addr} {n : Int} {xs : List PV} (ha : H a = some (.list xs)) (k1 : n ≤ LIM) (k2 : -LIM ≤ n) (k3 : xs.length * n.toNat ≤ LIM) (h : ∀ c H', H c = none → H' c = some (.list (repL n xs)) → Ext H H' → Q (.obj c) H') : BinW Q H .Mult (.obj a) (.int n) := .mulL a n xs ha k1 k2 k3 h
theorem cmpF_eqT {v w : PV} {b c : Bool} (e : EqT H v w b) (h : cmpF .Eq v w = some c) : c = b := by
  unfold cmpF at h
  split at h
  · split at h
    · cases e with | val e => cases e with | atom e => cases e; exact (Option.some.inj h).symm
    · cases h
  · split at h
    · cases e with | val e => cases e with | atom e => cases e; exact (Option.some.inj h).symm
    · cases h
  · cases h
theorem cmpF_not (v w : PV) : cmpF .NotEq v w = (cmpF .Eq v w).map (!·) := by
  unfold cmpF
  split
  · split <;> rfl
  · split <;> rfl
  · rfl
theorem O_eqT {v w : PV} {b : Bool} {K : Bool → Prop} (e : EqT H v w b) (h : K b) : pureOr (cmpF .Eq v w) K (CmpW K H .Eq v w) := by
  cases q : cmpF .Eq v w with
  | none => exact .eq e h
  | some c => rw [cmpF_eqT e q]; exact h
theorem O_neT {v w : PV} {b : Bool} {K : Bool → Prop} (e : EqT H v w b) (h : K (!b)) : pureOr (cmpF .NotEq v w) K (CmpW K H .NotEq v w) := by
  rw [cmpF_not]
  cases q : cmpF .Eq v w with
  | none => exact .ne e h
  | some c => rw [cmpF_eqT e q]; exact h
theorem O_inD {K : Bool → Prop} {k : Str} {a : Addr} {kvs : List (Str × PV)} (ha : H a = some (.dict kvs)) (h : K (hasKey kvs k)) : CmpW K H .In (.str k) (.obj a) := .inD ha h
theorem O_niD {K : Bool → Prop} {k : Str} {a : Addr} {kvs : List (Str × PV)} (ha : H a = some (.dict kvs)) (h : K (!hasKey kvs k)) : CmpW K H .NotIn (.str k) (.obj a) := .niD ha h
theorem O_subT {xs : List PV} {k : Int} {x : PV} {K : PV → Prop} {R : Prop} (e : itemAt xs k = some x) (h : K x) : pureOr (subF (.tup xs) (.int k)) K R := by
  show pureOr (itemAt xs k) _ _
  rw [e]; exact h
theorem O_subL {a : Addr} {xs : List PV} {k : Int} {x : PV} (ha : H a = some (.list xs)) (e : itemAt xs k = some x) (h : Q x H) : SubW Q H (.obj a) (.int k) := .list ha e h
theorem O_subTape {a : Addr} {n : Nat} (ha : H a = some (.tape n)) (h : Q (.int n) H) : SubW Q H (.obj a) (.int 0) := .tape ha h
theorem O_subD {a : Addr} {kvs : List (Str × PV)} {k : Str} {x : PV} (ha : H a = some (.dict kvs)) (e : dget kvs k = some x) (h : Q x H) : SubW Q H (.obj a) (.str k) := .dict ha e h
theorem O_subF {kvs : List (Str × PV)} {k : Str} {x : PV} (e : dget kvs k = some x) (h : Q x H) : SubW Q H (.fdt kvs) (.str k) := .fdt e h
theorem O_subFls {xs : List Int} {k x : Int} (e : itemAt xs k = some x) (h : Q (.int x) H) : SubW Q H (.fls xs) (.int k) := .fls e h
theorem O_subS {s x : Str} {k : Int} (l : s.length ≤ LIM) (e : signAt s k = some x) (h : Q (.str x) H) : SubW Q H (.str s) (.int k) := .str l e h
theorem O_fromL {a : Addr} {xs : List PV} {k : Int} (ha : H a = some (.list xs)) (h : ∀ c H', H c = none → H' c = some (.list (xs.drop (cutAt xs.length k))) → Ext H H' → Q (.obj c) H') : FromW Q H (.obj a) (.int k) := .list ha h
theorem O_toL {a : Addr} {xs : List PV} {k : Int} (ha : H a = some (.list xs)) (h : ∀ c H', H c = none → H' c = some (.list (xs.take (cutAt xs.length k))) → Ext H H' → Q (.obj c) H') : ToW Q H (.obj a) (.int k) := .list ha h
theorem O_toF {xs : List Int} {k : Int} (h : ∀ c H', H c = none → H' c = some (.list ((xs.take (cutAt xs.length k)).map .int)) → Ext H H' → Q (.obj c) H') : ToW Q H (.fls xs) (.int k) := .fls h
theorem O_toS {s : Str} {k : Int} (l : s.length ≤ LIM) (h : Q (.str ⟨(s.cps.toList.take (cutAt s.length k)).toArray⟩) H) : ToW Q H (.str s) (.int k) := .str l h
theorem O_fromT {xs ys : List PV} {k : Int} (e : xs.drop (cutAt xs.length k) = ys) (h : Q (.tup ys) H) : FromW Q H (.tup xs) (.int k) := .tup (by rw [e]; exact h)
theorem O_toT {xs ys : List PV} {k : Int} (e : xs.take (cutAt xs.length k) = ys) (h : Q (.tup ys) H) : ToW Q H (.tup xs) (.int k) := .tup (by rw [e]; exact h)
theorem O_alloc {o : AObj} (h : ∀ c H', H c = none → H' c = some o → Ext H H' → Q (.obj c) H') : alloc o Q H := h
theorem O_lenL {a : Addr} {xs : List PV} (ha : H a = some (.list xs)) (h : Q (.int xs.length) H) : BltW Q H .len [.obj a] := .lenL a xs ha h
theorem O_lenD {a : Addr} {kvs : List (Str × PV)} (ha : H a = some (.dict kvs)) (h : Q (.int kvs.length) H) : BltW Q H .len [.obj a] := .lenD a kvs ha h
theorem O_lenS {s : Str} (l : s.length ≤ LIM) (h : Q (.int s.length) H) : BltW Q H .len [.str s] := .lenS s l h
theorem O_listL {a : Addr} {xs : List PV} (ha : H a = some (.list xs)) (h : ∀ c H', H c = none → H' c = some (.list xs) → Ext H H' → Q (.obj c) H') : BltW Q H .list [.obj a] := .listL a xs ha h
theorem O_listT {xs : List PV} (h : ∀ c H', H c = none → H' c = some (.list xs) → Ext H H' → Q (.obj c) H') : BltW Q H .list [.tup xs] := .listT xs h
theorem O_tupL {a : Addr} {xs : List PV} (ha : H a = some (.list xs)) (h : Q (.tup xs) H) : BltW Q H .tuple [.obj a] := .tupL a xs ha h
theorem O_range {n : Int} (k : n.natAbs ≤ LIM) (h : Q (.rng n) H) : BltW Q H .range [.int n] := .range n k h
theorem O_strI {i : Int} (k : i.natAbs < 10 ^ 18) (h : Q (.str (Str.ofString (toString i))) H) : BltW Q H .str [.int i] := .strI i k h
theorem O_recv {m : Meth} {a : Addr} {xs : List PV} {P : Prop} (ha : H a = some (.list xs)) (k : m.onL = true) (h : P) : RecvW P H m (.obj a) := .list ha k h
theorem O_append {a : Addr} {xs : List PV} {x : PV} (ha : H a = some (.list xs)) (k : xs.length < LIM) (h : ∀ H', H' a = some (.list (xs ++ [x])) → ExtB a H H' → Q .none H') : MethW Q H .append (.obj a) [x] := .append a xs x ha k h
theorem O_pop {a : Addr} {ys : List PV} {x : PV} (ha : H a = some (.list (ys ++ [x]))) (h : ∀ H', H' a = some (.list ys) → ExtB a H H' → Q x H') : MethW Q H .pop (.obj a) [] := .pop a ys x ha h
theorem O_insert {a : Addr} {xs : List PV} {k : Int} {x : PV} (ha : H a = some (.list xs)) (k0 : 0 ≤ k) (k1 : k ≤ xs.length) (k2 : xs.length < LIM) (h : ∀ H', H' a = some (.list (xs.take k.toNat ++ x :: xs.drop k.toNat)) → ExtB a H H' → Q .none H') : MethW Q H .insert (.obj a) [.int k, x] := .insert a xs k x ha k0 k1 k2 h
theorem O_count {a : Addr} {bs : List Bool} {b : Bool} (ha : H a = some (.list (bs.map .bool))) (h : Q (.int (bs.count b)) H) : MethW Q H .count (.obj a) [.bool b] := .count a bs b ha h
theorem O_join {s : Str} {a : Addr} {ss : List Str} (ha : H a = some (.list (ss.map .str))) (e : s.length = 0) (k : (ss.map (·.length)).sum ≤ LIM) (h : Q (.str (Str.join s ss)) H) : MethW Q H .join (.str s) [.obj a] := .join s a ss ha e k h
theorem O_storeL {a : Addr} {xs : List PV} {k : Int} {x : PV} {K : AHeap → Prop} (ha : H a = some (.list xs)) (k0 : 0 ≤ k) (k1 : k < xs.length) (h : ∀ H', H' a = some (.list (xs.set k.toNat x)) → ExtB a H H' → K H') : StoreW K H (.obj a) (.int k) x := .list ha k0 k1 h
theorem O_storeD {a : Addr} {kvs : List (Str × PV)} {k : Str} {x : PV} {K : AHeap → Prop} (ha : H a = some (.dict kvs)) (l : kvs.length < LIM) (h : ∀ H', H' a = some (.dict (dset kvs k x)) → ExtB a H H' → K H') : StoreW K H (.obj a) (.str k) x := .dict ha l h
theorem O_storeT {a : Addr} {n : Nat} {j : Int} {K : AHeap → Prop} (ha : H a = some (.tape n)) (j0 : 0 ≤ j) (h : ∀ H', H' a = some (.tape j.toNat) → ExtB a H H' → K H') : StoreW K H (.obj a) (.int 0) (.int j) := .tape ha j0 h
theorem O_isL {c : ICls} {a : Addr} {xs : List PV} {K : Bool → Prop} (ha : H a = some (.list xs)) (b : c.basic = true) (h : K (c.hits 5)) : IsiW K H c (.obj a) := .list b ha h
theorem O_itL {a : Addr} {xs : List PV} {K : List PV → (AHeap → Prop) → Prop} (ha : H a = some (.list xs)) (h : K xs fun H' => H' a = some (.list xs)) : ItemsW K H (.obj a) := .list ha h
end

theorem forW_ind {src : AHeap → Prop} {st : PV → (Loc → AHeap → Prop) → Loc → AHeap → Prop} {N : Loc → AHeap → Prop} (I : List PV → Loc → AHeap → Prop) (h0 : ∀ m H, I [] m H → src H ∧ N m H)
    (h1 : ∀ x xs m H, I (x :: xs) m H → src H ∧ ∀ K : Loc → AHeap → Prop, (∀ m' H', I xs m' H' → K m' H') → st x K m H) : ∀ xs m H, I xs m H → forW src st N xs m H
  | [], m, H, h => h0 m H h
  | x :: xs, m, H, h => ⟨(h1 x xs m H h).1, (h1 x xs m H h).2 _ fun m' H' h' => forW_ind I h0 h1 xs m' H' h'⟩
theorem compW_ind {src : AHeap → Prop} {el : PV → (List PV → AHeap → Prop) → AHeap → Prop} {Q : List PV → AHeap → Prop} (I : List PV → List PV → AHeap → Prop) (h0 : ∀ acc H, I [] acc H → src H ∧ Q acc H)
    (h1 : ∀ x xs acc H, I (x :: xs) acc H → src H ∧ ∀ K : List PV → AHeap → Prop, (∀ vs H', I xs (acc ++ vs) H' → K vs H') → el x K H) : ∀ xs acc H, I xs acc H → compW src el Q xs acc H
  | [], acc, H, h => h0 acc H h
  | x :: xs, acc, H, h => ⟨(h1 x xs acc H h).1, (h1 x xs acc H h).2 _ fun vs H' h' => compW_ind I h0 h1 xs (acc ++ vs) H' h'⟩

theorem mod_lt {a k : Int} (h : 0 < k) : 0 ≤ a % k ∧ a % k < k := ⟨Int.emod_nonneg _ (by omega), Int.emod_lt_of_pos _ h⟩
theorem Ext.at {H H' : AHeap} {a : Addr} {o : AObj} (e : Ext H H') (h : H a = some o) : H' a = some o := e a o h
theorem ExtB.at {H H' : AHeap} {a b : Addr} {o : AObj} (e : ExtB a H H') (n : b ≠ a) (h : H b = some o) : H' b = some o := e b o n h
theorem ne_of {H : AHeap} {a b : Addr} {o : AObj} (h : H a = some o) (h' : H b = none) : a ≠ b := by rintro rfl; rw [h] at h'; cases h'
theorem Ext.refl (H : AHeap) : Ext H H := fun _ _ e => e
theorem Ext.trans {H H₁ H₂ : AHeap} (a : Ext H H₁) (b : Ext H₁ H₂) : Ext H H₂ := fun x o e => b x o (a x o e)
theorem ExtB.trans {H H₁ H₂ : AHeap} {t : Addr} (a : ExtB t H H₁) (b : ExtB t H₁ H₂) : ExtB t H H₂ := fun x o n e => b x o n (a x o n e)
theorem Ext.toB {H H' : AHeap} (e : Ext H H') (t : Addr) : ExtB t H H' := fun x o _ h => e x o h
/-- a new list that was changed is still new -/
theorem ExtB.fresh {H H₁ H₂ : AHeap} {a : Addr} (n : H a = none) (e : Ext H H₁) (b : ExtB a H₁ H₂) : Ext H H₂ := fun x o h => b x o (ne_of h n) (e x o h)
theorem itemAt_nat {α : Type} {xs : List α} {n : Nat} {x : α} {i : Int} (hi : i = n) (h : xs[n]? = some x) : itemAt xs i = some x := by
  subst hi; unfold itemAt; rw [if_pos (by omega)]; simpa using h
theorem O_addS' {H : AHeap} {Q : Post} {a b : Str} (k : a.length + b.length ≤ LIM) (h : ∀ S, S = a ++ b → Q (.str S) H) : BinW Q H .Add (.str a) (.str b) := .addS a b k (h _ rfl)
theorem str_len_append (a b : Str) : (a ++ b).length = a.length + b.length := by
  show (a.cps ++ b.cps).size = a.cps.size + b.cps.size
  simp
theorem join_len {e : Str} (he : e.length = 0) : ∀ ss : List Str, (∀ s ∈ ss, s.length = 1) → (Str.join e ss).length = ss.length
  | [], _ => rfl
  | [x], h => by simpa [Str.join] using h x (by simp)
  | x :: y :: r, h => by
    have ih := join_len he (y :: r) fun s hs => h s (List.mem_cons_of_mem _ hs)
    show (x ++ e ++ Str.join e (y :: r)).length = _
    rw [str_len_append, str_len_append, ih, he, h x (by simp)]
    simp; omega
theorem sum_ones : ∀ ss : List Str, (∀ s ∈ ss, s.length = 1) → (ss.map (·.length)).sum = ss.length
  | [], _ => rfl
  | x :: r, h => by
    rw [List.map_cons, List.sum_cons, sum_ones r fun s hs => h s (List.mem_cons_of_mem _ hs), h x (by simp), List.length_cons]; omega
theorem sign_at {s : Str} {i : Int} (h0 : 0 ≤ i) (h1 : i < s.length) : ∃ x, signAt s i = some x ∧ x.length = 1 := by
  obtain ⟨n, rfl⟩ := Int.eq_ofNat_of_zero_le h0
  have hn : n < s.cps.toList.length := by
    have : n < s.length := by omega
    simpa [Str.length] using this
  refine ⟨⟨#[s.cps.toList[n]]⟩, ?_, rfl⟩
  unfold signAt
  rw [itemAt_nat rfl (List.getElem?_eq_getElem hn)]
  rfl
theorem I_pos {c : Prop} [Decidable c] {A B : Prop} (h : c) (a : A) : if c then A else B := by rw [if_pos h]; exact a
theorem I_neg {c : Prop} [Decidable c] {A B : Prop} (h : ¬ c) (b : B) : if c then A else B := by rw [if_neg h]; exact b
theorem EqL.strs {H : AHeap} {n : Nat} : ∀ ss tt : List Str, EqL H n (ss.map .str) (tt.map .str) (decide (ss = tt))
  | [], [] => .nil
  | [], t :: tt => by simpa using EqL.r (H := H) (n := n) (.str t) (tt.map .str)
  | s :: ss, [] => by simpa using EqL.l (H := H) (n := n) (.str s) (ss.map .str)
  | s :: ss, t :: tt => by
    have := EqL.c (EqV.str (H := H) (n := n) s t) (EqL.strs ss tt)
    have e : decide (s :: ss = t :: tt) = ((s == t) && decide (ss = tt)) := by
      by_cases h1 : s = t <;> by_cases h2 : ss = tt <;> simp [h1, h2]
    rw [e]; exact this
theorem eq_strs {H : AHeap} (ss tt : List Str) : EqT H (.tup (ss.map .str)) (.tup (tt.map .str)) (decide (ss = tt)) := .val (.tup (n := 39) (EqL.strs ss tt))
end Mine
end
section
open PySem PySem.W PySem.Calls PyProof.Rows
namespace Mine
set_option autoImplicit false
/-! the call from outside -/
section
variable {cx : Cx} {g : Gl} {fl : List Str} {mg mb : Str → Option Value} {n : Nat}
theorem top_fn (ck : Cok cx g fl mg mb n) {fd : FuncData} {nm : List Str} {np k : Nat} {kd : Kd} {body : ASs} {a : Addr} {o : Obj} (fn : FnOk cx fl fd nm np k kd body) (lim : cx.B.NoLimit) (ho : cx.B.get? a = some o) (hd : o.data = .func fd) (hcd : cx.B.CodeRec fd.code fd.qualname)
    {A : Around} {s : Shared} {vs : List Value} {ps : List PV} {Q : Post} {R : Result → Shared → Prop} (hfr : A.frames = some []) (hqu : A.handled = none) (hdep : A.depth + (n + 1) ≤ 900) (huni : A.units + 4 * (n + 1) + 200 ≤ cLine)
    (tb : cx.B.StaysIn s.heap) (rs : RepL cx s.heap vs ps) (hlen : ps.length = np)
    (h : awpSs g body (fun _ H => Q .none H) Q (fun _ _ _ => False) (initL nm np ps) (fun _ => none))
    (hR : ∀ v p H' s', Rep cx s'.heap v p → Kp cx [] (fun _ => none) s H' s' → Q p H' → R (.ok (.ret v)) s') : codeAny cx.M A (.call (.ref a) ⟨vs, []⟩) R s :=
  core_fn (X := fun _ _ => False) ck fn lim ho hd hcd hfr hqu hdep huni tb (fun _ _ _ => rfl) (fun _ _ e => nomatch e) (fun _ he => nomatch he) rs hlen h (fun v p H' s' rv kp _ q => hR v p H' s' rv kp q) fun _ _ _ _ _ _ _ f => f.elim

theorem law_top {p : Program} {loose : List Str} {mean : ExcName → Option Value} (ck : Cok cx g fl mg mb n) (T : Top p loose mean mg mb cx.B) (hga : cx.ga = mainGlobals) (hba : cx.ba = builtinsNs) {d : DefRec} {nm : List Str} {k : Nat} {sc : Scope} {body : ASs}
    (hd : d ∈ recsOf p) (h1 : d.name = "law") (h2 : d.body = body.toSs nm) (h3 : d.scope = sc) (hb : ∀ (pm code doc : Value) (vals : List Value), vals.length = 1 → bindArgs (docDef d.name d.params d.body d.scope pm code doc) ⟨vals, []⟩ = pure ((nm.take 1).zip vals))
    (hc : fnChk fl nm 1 k sc body = true) {s : Shared} (hs : cx.B = s.heap) {fa l : Addr} {items : Array Value} {ns : List Int} (hmg : mg "law" = some (.ref fa)) (il : s.heap.IsList l items) (ia : IntsAre items.toList ns) (hl : ns.length ≤ LIM) (hn : n ≤ 500)
    (spec : ∀ {Q : Post}, (∀ H, Q (.bool true) H) → awpSs g body (fun _ H => Q .none H) Q (fun _ _ _ => False) (initL nm 1 [.fls ns]) (fun _ => none))
    {R : Result → Shared → Prop} (hR : ∀ h' tk, (∀ b o, s.heap.get? b = some o → h'.get? b = some o) → R (.ok (.ret (.bool true))) { s with heap := h', toks := tk }) : codeAny cx.M callerA (.call (.ref fa) ⟨[.ref l], []⟩) R s := by
  obtain ⟨a, o, pm, code, doc, hm, ho, hdat, hcd⟩ := T.fn d hd
  unfold fnChk at hc
  simp only [Bool.and_eq_true, Bool.not_eq_true', decide_eq_true_eq] at hc
  obtain ⟨⟨⟨⟨⟨⟨⟨⟨c1, c2⟩, c3⟩, c4⟩, c5⟩, c6⟩, c7⟩, c8⟩, c9⟩ := hc
  rw [h1, hmg] at hm
  cases hm
  subst h3
  have hB : cx.B.StaysIn s.heap := by rw [hs]; exact fun _ _ e => e
  refine top_fn (Q := fun p _ => p = .bool true) (kd := fun x => d.scope.names.lookup x) ck ⟨hga.symm, hba.symm, rfl, c1, c2, c3, rfl, c4, by show FuncBody.stmts d.body = _; rw [h2], hb pm code doc, c5, ⟨c6, c7⟩, c8, c9⟩ T.nolimit ho hdat hcd
    (A := callerA) rfl rfl ?_ ?_ hB (.cons (.fls (by rw [hs]; exact il) ia hl) .nil) rfl (spec (Q := fun p _ => p = .bool true) fun _ => rfl) fun v p H' s' rv kp hq => ?_
  · have : callerA.depth = 301 := by decide +kernel
    omega
  · have : callerA.units = 4 := rfl
    have : 4 + 4 * 501 + 200 ≤ cLine := by decide +kernel
    omega
  · subst hq
    cases rv
    obtain ⟨h', tk, rfl⟩ := kp.same
    exact hR h' tk fun b o e => kp.base b o (by rw [hs]; exact e) e
end
end Mine
end
section
open PySem PySem.W PySem.Calls PyProof.Rows
namespace Mine
set_option autoImplicit false

/-! the program's constants, told from its laid heap -/
noncomputable def refAt (K : Frag) (x : Str) : Addr := match kmg K x with
  | some (.ref a) => a
  | _ => 0
noncomputable def dictL (K : Frag) (a : Addr) : List (Str × Tok × Value) := match K.lookup a with
  | some o => (match o.data with
    | .dict es _ => es.toList.filterMap fun e => match e.key with | .str s t => some (s, t, e.val) | _ => none
    | _ => [])
  | none => []
noncomputable def dictEp (K : Frag) (a : Addr) : Nat := match K.lookup a with
  | some o => (match o.data with | .dict _ n => n | _ => 0)
  | none => 0
noncomputable def entV (P : Params) (l : List (Str × Tok × Value)) : Array DictEntry := (l.map fun e => ({ hash := PyData.keyHash P e.1, key := .str e.1 e.2.1, val := e.2.2 } : DictEntry)).toArray
noncomputable def intChk (K : Frag) (x : Str) (i : Int) : Bool := match kmg K x with
  | some (.int j _) => j == i
  | _ => false
noncomputable def valChk (K : Frag) (v : Value) : PV → Bool
  | .str s => strOf? v == some s
  | .tup xs => (match v with
    | .ref b => (match xs.mapM fun x => (match x with | .str s => some s | _ => none) with | some ss => tupChk K b ss | none => false)
    | _ => false)
  | _ => false

section
variable {cx : Cx} {K : Frag}
theorem int_of {x : Str} {i : Int} {mg : Str → Option Value} {h : Heap} (hm : mg = kmg K) (hk : intChk K x i = true) : ∃ v, mg x = some v ∧ Rep cx h v (.int i) := by
  unfold intChk at hk
  split at hk
  · rename_i j t e
    rw [beq_iff_eq] at hk
    subst hk
    exact ⟨_, by rw [hm]; exact e, .int _ _⟩
  · cases hk
theorem mapM_strs : ∀ {xs : List PV} {ss : List Str}, (xs.mapM fun x => (match x with | .str s => some s | _ => none : Option Str)) = some ss → xs = ss.map .str
  | [], ss, h => by simp at h; subst h; rfl
  | x :: xs, ss, h => by
    rw [List.mapM_cons] at h
    cases x with
    | str s =>
      cases q : xs.mapM (fun x => (match x with | .str s => some s | _ => none : Option Str)) with
      | none => rw [q] at h; simp at h
      | some tt =>
        rw [q] at h
        simp at h
        subst h
        rw [mapM_strs q]; rfl
    | _ => simp at h
theorem val_of {h : Heap} (X : K.In h) {v : Value} {q : PV} (hk : valChk K v q = true) : Rep cx h v q := by
  cases q with
  | str s =>
    cases v <;> simp [valChk, strOf?] at hk
    subst hk
    exact .str _ _
  | tup xs =>
    cases v with
    | ref b =>
      simp only [valChk] at hk
      split at hk
      · rename_i ss e
        rw [mapM_strs e]
        exact tup_of X hk
      · cases hk
    | _ => simp [valChk] at hk
  | _ => simp [valChk] at hk
theorem fdt_pairsV {h : Heap} (X : K.In h) : ∀ {l : List (Str × Tok × Value)} {kvs : List (Str × PV)}, l.map (·.1) = kvs.map (·.1) → ((l.zip kvs).all fun e => valChk K e.1.2.2 e.2.2) = true → RepK cx h (l.map fun e => (e.1, e.2.2)) kvs
  | [], [], _, _ => .nil
  | [], _ :: _, e, _ => by simp at e
  | _ :: _, [], e, _ => by simp at e
  | (k, t, a) :: l, (k', q) :: kvs, e, hk => by
    simp only [List.map_cons, List.cons.injEq] at e
    simp only [List.zip_cons_cons, List.all_cons, Bool.and_eq_true] at hk
    obtain ⟨rfl, e⟩ := e
    exact .cons (val_of X hk.1) (fdt_pairsV X e hk.2)
theorem fdt_ofV {h : Heap} (X : K.In cx.B) {x : Str} {mg : Str → Option Value} {kvs : List (Str × PV)} (hm : mg = kmg K) (h1 : kmg K x = some (.ref (refAt K x)))
    (hl : K.lookup (refAt K x) = some { cls := .type "dict", data := .dict (entV cx.w.params (dictL K (refAt K x))) (dictEp K (refAt K x)) })
    (hkv : (dictL K (refAt K x)).map (·.1) = kvs.map (·.1)) (hn : (kvs.map (·.1)).Nodup) (hk : (((dictL K (refAt K x)).zip kvs).all fun e => valChk K e.1.2.2 e.2.2) = true) (hh : cx.B.StaysIn h) : ∃ v, mg x = some v ∧ Rep cx h v (.fdt kvs) := by
  refine ⟨_, by rw [hm]; exact h1, ?_⟩
  generalize hla : dictL K (refAt K x) = l at hl hkv hk
  refine .fdt (vs := l.map fun e => (e.1, e.2.2)) ⟨_, _, _, X _ _ hl, ⟨rfl, rfl, rfl⟩, rfl, ?_, ?_, ?_⟩ (fdt_pairsV (X.keeps hh) hkv hk)
  · intro e he
    unfold entV at he
    simp only [List.mem_toArray, List.mem_map] at he
    obtain ⟨x, _, rfl⟩ := he
    exact ⟨x.1, by simp [Cx.sk, PySem.strKind, Value.isStrOf], rfl⟩
  · unfold entV
    simp only [List.toList_toArray]
    clear hl hla hn hkv hk h1
    induction l with
    | nil => exact .nil
    | cons x l ih => exact .cons (by simp [Cx.sk, PySem.strKind, Value.isStrOf]) rfl ih
  · rw [List.map_map]
    show (l.map (·.1)).Nodup
    rw [hkv]; exact hn
end
end Mine
end
section
open PySem PySem.W PySem.Calls PyProof.Rows
namespace Mine
set_option autoImplicit false
noncomputable def N_taken : List Str := ["kinds", "takes", "left"]
noncomputable def B_taken : ASs :=
    (.cons (.assign 2 ⟨16, 4, 16, 8⟩ (.bin (.blt .len (.cons (.var 0 ⟨16, 15, 16, 20⟩) .nil) ⟨16, 11, 16, 14⟩ ⟨16, 11, 16, 21⟩) .Sub (.blt .len (.cons (.var 1 ⟨16, 28, 16, 33⟩) .nil) ⟨16, 24, 16, 27⟩ ⟨16, 24, 16, 34⟩) ⟨16, 11, 16, 34⟩) ⟨16, 4, 16, 34⟩)
    (.cons (.ite (.cmp (.var 2 ⟨17, 7, 17, 11⟩) .Lt (.lit (.int 0) 0 ⟨17, 14, 17, 15⟩) ⟨17, 7, 17, 15⟩) (.cons (.raise 1 "Empty" "too few kinds" 0 ⟨18, 14, 18, 19⟩ ⟨18, 20, 18, 35⟩ ⟨18, 14, 18, 36⟩ ⟨18, 8, 18, 36⟩)
    .nil) .nil ⟨17, 4, 18, 36⟩)
    (.cons (.ite (.cmp (.sfrom (.var 0 ⟨19, 7, 19, 12⟩) (.var 2 ⟨19, 13, 19, 17⟩) ⟨19, 13, 19, 18⟩ ⟨19, 7, 19, 19⟩) .NotEq (.var 1 ⟨19, 23, 19, 28⟩) ⟨19, 7, 19, 28⟩) (.cons (.raise 2 "WrongKind" "another kind is wanted" 0 ⟨20, 14, 20, 23⟩ ⟨20, 24, 20, 48⟩ ⟨20, 14, 20, 49⟩ ⟨20, 8, 20, 49⟩)
    .nil) .nil ⟨19, 4, 20, 49⟩)
    (.cons (.ret (.sto (.var 0 ⟨21, 11, 21, 16⟩) (.var 2 ⟨21, 18, 21, 22⟩) ⟨21, 17, 21, 22⟩ ⟨21, 11, 21, 23⟩) ⟨21, 4, 21, 23⟩)
    .nil))))
noncomputable def S_taken : Scope := {
              kind := PySem.ScopeKind.function,
              names := [
                (PySem.Str.ofString "kinds", PySem.NameKind.local),
                (PySem.Str.ofString "takes", PySem.NameKind.local),
                (PySem.Str.ofString "left", PySem.NameKind.local),
                (PySem.Str.ofString "len", PySem.NameKind.globalImplicit),
                (PySem.Str.ofString "Empty", PySem.NameKind.globalImplicit),
                (PySem.Str.ofString "WrongKind", PySem.NameKind.globalImplicit)],
              isGenerator := false,
              isCoroutine := false,
              more := [] : PySem.Scope }

noncomputable def N_block_of : List Str := ["program", "name"]
noncomputable def B_block_of : ASs :=
    (.cons (.ite (.cmp (.var 1 ⟨23, 7, 23, 11⟩) .NotIn (.var 0 ⟨23, 19, 23, 26⟩) ⟨23, 7, 23, 26⟩) (.cons (.raise 3 "NoBlock" "no such block" 0 ⟨24, 14, 24, 21⟩ ⟨24, 22, 24, 37⟩ ⟨24, 14, 24, 38⟩ ⟨24, 8, 24, 38⟩)
    .nil) .nil ⟨23, 4, 24, 38⟩)
    (.cons (.ret (.sub (.var 0 ⟨25, 11, 25, 18⟩) (.var 1 ⟨25, 19, 25, 23⟩) ⟨25, 11, 25, 24⟩) ⟨25, 4, 25, 24⟩)
    .nil))
noncomputable def S_block_of : Scope := {
              kind := PySem.ScopeKind.function,
              names := [
                (PySem.Str.ofString "program", PySem.NameKind.local),
                (PySem.Str.ofString "name", PySem.NameKind.local),
                (PySem.Str.ofString "NoBlock", PySem.NameKind.globalImplicit)],
              isGenerator := false,
              isCoroutine := false,
              more := [] : PySem.Scope }

noncomputable def N_called : List Str := ["program", "kinds", "name", "block"]
noncomputable def B_called : ASs :=
    (.cons (.assign 3 ⟨27, 4, 27, 9⟩ (.call "block_of" (.cons (.var 0 ⟨27, 21, 27, 28⟩) (.cons (.var 2 ⟨27, 30, 27, 34⟩) .nil)) ⟨27, 12, 27, 20⟩ ⟨27, 12, 27, 35⟩) ⟨27, 4, 27, 35⟩)
    (.cons (.ret (.bin (.call "taken" (.cons (.var 1 ⟨28, 17, 28, 22⟩) (.cons (.blt .tuple (.cons (.sub (.var 3 ⟨28, 30, 28, 35⟩) (.lit (.int 0) 0 ⟨28, 36, 28, 37⟩) ⟨28, 30, 28, 38⟩) .nil) ⟨28, 24, 28, 29⟩ ⟨28, 24, 28, 39⟩) .nil)) ⟨28, 11, 28, 16⟩ ⟨28, 11, 28, 40⟩) .Add (.blt .tuple (.cons (.sub (.var 3 ⟨28, 49, 28, 54⟩) (.lit (.int 1) 0 ⟨28, 55, 28, 56⟩) ⟨28, 49, 28, 57⟩) .nil) ⟨28, 43, 28, 48⟩ ⟨28, 43, 28, 58⟩) ⟨28, 11, 28, 58⟩) ⟨28, 4, 28, 58⟩)
    .nil))
noncomputable def S_called : Scope := {
              kind := PySem.ScopeKind.function,
              names := [
                (PySem.Str.ofString "program", PySem.NameKind.local),
                (PySem.Str.ofString "kinds", PySem.NameKind.local),
                (PySem.Str.ofString "name", PySem.NameKind.local),
                (PySem.Str.ofString "block", PySem.NameKind.local),
                (PySem.Str.ofString "block_of", PySem.NameKind.globalImplicit),
                (PySem.Str.ofString "taken", PySem.NameKind.globalImplicit),
                (PySem.Str.ofString "tuple", PySem.NameKind.globalImplicit)],
              isGenerator := false,
              isCoroutine := false,
              more := [] : PySem.Scope }

noncomputable def N_moved : List Str := ["kinds", "row", "size", "wants"]
noncomputable def B_moved : ASs :=
    (.cons (.assign 2 ⟨30, 4, 30, 8⟩ (.blt .len (.cons (.var 0 ⟨30, 15, 30, 20⟩) .nil) ⟨30, 11, 30, 14⟩ ⟨30, 11, 30, 21⟩) ⟨30, 4, 30, 21⟩)
    (.cons (.assign 3 ⟨31, 4, 31, 9⟩ (.dict [("swap", ⟨31, 13, 31, 19⟩), ("drop", ⟨31, 24, 31, 30⟩)] (.cons (.lit (.int 2) 0 ⟨31, 21, 31, 22⟩) (.cons (.lit (.int 1) 0 ⟨31, 32, 31, 33⟩) .nil)) ⟨31, 12, 31, 34⟩) ⟨31, 4, 31, 34⟩)
    (.cons (.ite (.cmp (.sub (.var 1 ⟨32, 7, 32, 10⟩) (.lit (.int 0) 0 ⟨32, 11, 32, 12⟩) ⟨32, 7, 32, 13⟩) .Eq (.lit (.str "copy") 0 ⟨32, 17, 32, 23⟩) ⟨32, 7, 32, 23⟩) (.cons (.ite (.cmp (.var 2 ⟨33, 11, 33, 15⟩) .Lt (.bin (.sub (.var 1 ⟨33, 18, 33, 21⟩) (.lit (.int 1) 0 ⟨33, 22, 33, 23⟩) ⟨33, 18, 33, 24⟩) .Add (.lit (.int 1) 0 ⟨33, 27, 33, 28⟩) ⟨33, 18, 33, 28⟩) ⟨33, 11, 33, 28⟩) (.cons (.raise 1 "Empty" "too few kinds" 0 ⟨34, 18, 34, 23⟩ ⟨34, 24, 34, 39⟩ ⟨34, 18, 34, 40⟩ ⟨34, 12, 34, 40⟩)
    .nil) .nil ⟨33, 8, 34, 40⟩)
    (.cons (.ret (.bin (.var 0 ⟨35, 15, 35, 20⟩) .Add (.tup (.cons (.sub (.var 0 ⟨35, 24, 35, 29⟩) (.bin (.bin (.var 2 ⟨35, 30, 35, 34⟩) .Sub (.lit (.int 1) 0 ⟨35, 37, 35, 38⟩) ⟨35, 30, 35, 38⟩) .Sub (.sub (.var 1 ⟨35, 41, 35, 44⟩) (.lit (.int 1) 0 ⟨35, 45, 35, 46⟩) ⟨35, 41, 35, 47⟩) ⟨35, 30, 35, 47⟩) ⟨35, 24, 35, 48⟩) .nil) 0 ⟨35, 23, 35, 50⟩) ⟨35, 15, 35, 50⟩) ⟨35, 8, 35, 50⟩)
    .nil)) .nil ⟨32, 4, 35, 50⟩)
    (.cons (.ite (.cmp (.var 2 ⟨36, 7, 36, 11⟩) .Lt (.sub (.var 3 ⟨36, 14, 36, 19⟩) (.sub (.var 1 ⟨36, 20, 36, 23⟩) (.lit (.int 0) 0 ⟨36, 24, 36, 25⟩) ⟨36, 20, 36, 26⟩) ⟨36, 14, 36, 27⟩) ⟨36, 7, 36, 27⟩) (.cons (.raise 1 "Empty" "too few kinds" 0 ⟨37, 14, 37, 19⟩ ⟨37, 20, 37, 35⟩ ⟨37, 14, 37, 36⟩ ⟨37, 8, 37, 36⟩)
    .nil) .nil ⟨36, 4, 37, 36⟩)
    (.cons (.ite (.cmp (.sub (.var 1 ⟨38, 7, 38, 10⟩) (.lit (.int 0) 0 ⟨38, 11, 38, 12⟩) ⟨38, 7, 38, 13⟩) .Eq (.lit (.str "swap") 0 ⟨38, 17, 38, 23⟩) ⟨38, 7, 38, 23⟩) (.cons (.ret (.bin (.sto (.var 0 ⟨39, 15, 39, 20⟩) (.bin (.var 2 ⟨39, 22, 39, 26⟩) .Sub (.lit (.int 2) 0 ⟨39, 29, 39, 30⟩) ⟨39, 22, 39, 30⟩) ⟨39, 21, 39, 30⟩ ⟨39, 15, 39, 31⟩) .Add (.tup (.cons (.sub (.var 0 ⟨39, 35, 39, 40⟩) (.bin (.var 2 ⟨39, 41, 39, 45⟩) .Sub (.lit (.int 1) 0 ⟨39, 48, 39, 49⟩) ⟨39, 41, 39, 49⟩) ⟨39, 35, 39, 50⟩) (.cons (.sub (.var 0 ⟨39, 52, 39, 57⟩) (.bin (.var 2 ⟨39, 58, 39, 62⟩) .Sub (.lit (.int 2) 0 ⟨39, 65, 39, 66⟩) ⟨39, 58, 39, 66⟩) ⟨39, 52, 39, 67⟩) .nil)) 0 ⟨39, 34, 39, 68⟩) ⟨39, 15, 39, 68⟩) ⟨39, 8, 39, 68⟩)
    .nil) .nil ⟨38, 4, 39, 68⟩)
    (.cons (.ret (.sto (.var 0 ⟨40, 11, 40, 16⟩) (.bin (.var 2 ⟨40, 18, 40, 22⟩) .Sub (.lit (.int 1) 0 ⟨40, 25, 40, 26⟩) ⟨40, 18, 40, 26⟩) ⟨40, 17, 40, 26⟩ ⟨40, 11, 40, 27⟩) ⟨40, 4, 40, 27⟩)
    .nil))))))
noncomputable def S_moved : Scope := {
              kind := PySem.ScopeKind.function,
              names := [
                (PySem.Str.ofString "kinds", PySem.NameKind.local),
                (PySem.Str.ofString "row", PySem.NameKind.local),
                (PySem.Str.ofString "size", PySem.NameKind.local),
                (PySem.Str.ofString "wants", PySem.NameKind.local),
                (PySem.Str.ofString "len", PySem.NameKind.globalImplicit),
                (PySem.Str.ofString "Empty", PySem.NameKind.globalImplicit)],
              isGenerator := false,
              isCoroutine := false,
              more := [] : PySem.Scope }

noncomputable def N_behind : List Str := ["program", "kinds", "row", "word", "left", "yes", "no"]
noncomputable def B_behind : ASs :=
    (.cons (.assign 3 ⟨42, 4, 42, 8⟩ (.sub (.var 2 ⟨42, 11, 42, 14⟩) (.lit (.int 0) 0 ⟨42, 15, 42, 16⟩) ⟨42, 11, 42, 17⟩) ⟨42, 4, 42, 17⟩)
    (.cons (.ite (.bop .Or (.cons (.cmp (.var 3 ⟨43, 7, 43, 11⟩) .Eq (.lit (.str "num") 0 ⟨43, 15, 43, 20⟩) ⟨43, 7, 43, 20⟩) (.cons (.cmp (.var 3 ⟨43, 24, 43, 28⟩) .Eq (.lit (.str "text") 0 ⟨43, 32, 43, 38⟩) ⟨43, 24, 43, 38⟩) .nil)) ⟨43, 7, 43, 38⟩) (.cons (.ret (.bin (.var 1 ⟨44, 15, 44, 20⟩) .Add (.tup (.cons (.var 3 ⟨44, 24, 44, 28⟩) .nil) 0 ⟨44, 23, 44, 30⟩) ⟨44, 15, 44, 30⟩) ⟨44, 8, 44, 30⟩)
    .nil) .nil ⟨43, 4, 44, 30⟩)
    (.cons (.ite (.bop .Or (.cons (.cmp (.var 3 ⟨45, 7, 45, 11⟩) .Eq (.lit (.str "copy") 0 ⟨45, 15, 45, 21⟩) ⟨45, 7, 45, 21⟩) (.cons (.cmp (.var 3 ⟨45, 25, 45, 29⟩) .Eq (.lit (.str "swap") 0 ⟨45, 33, 45, 39⟩) ⟨45, 25, 45, 39⟩) (.cons (.cmp (.var 3 ⟨45, 43, 45, 47⟩) .Eq (.lit (.str "drop") 0 ⟨45, 51, 45, 57⟩) ⟨45, 43, 45, 57⟩) .nil))) ⟨45, 7, 45, 57⟩) (.cons (.ret (.call "moved" (.cons (.var 1 ⟨46, 21, 46, 26⟩) (.cons (.var 2 ⟨46, 28, 46, 31⟩) .nil)) ⟨46, 15, 46, 20⟩ ⟨46, 15, 46, 32⟩) ⟨46, 8, 46, 32⟩)
    .nil) .nil ⟨45, 4, 46, 32⟩)
    (.cons (.ite (.cmp (.var 3 ⟨47, 7, 47, 11⟩) .Eq (.lit (.str "call") 0 ⟨47, 15, 47, 21⟩) ⟨47, 7, 47, 21⟩) (.cons (.ret (.call "called" (.cons (.var 0 ⟨48, 22, 48, 29⟩) (.cons (.var 1 ⟨48, 31, 48, 36⟩) (.cons (.sub (.var 2 ⟨48, 38, 48, 41⟩) (.lit (.int 1) 0 ⟨48, 42, 48, 43⟩) ⟨48, 38, 48, 44⟩) .nil))) ⟨48, 15, 48, 21⟩ ⟨48, 15, 48, 45⟩) ⟨48, 8, 48, 45⟩)
    .nil) .nil ⟨47, 4, 48, 45⟩)
    (.cons (.ite (.cmp (.var 3 ⟨49, 7, 49, 11⟩) .Eq (.lit (.str "if") 0 ⟨49, 15, 49, 19⟩) ⟨49, 7, 49, 19⟩) (.cons (.assign 4 ⟨50, 8, 50, 12⟩ (.call "taken" (.cons (.var 1 ⟨50, 21, 50, 26⟩) (.cons (.tup (.cons (.lit (.str "num") 0 ⟨50, 29, 50, 34⟩) .nil) 0 ⟨50, 28, 50, 36⟩) .nil)) ⟨50, 15, 50, 20⟩ ⟨50, 15, 50, 37⟩) ⟨50, 8, 50, 37⟩)
    (.cons (.assign 5 ⟨51, 8, 51, 11⟩ (.call "block_of" (.cons (.var 0 ⟨51, 23, 51, 30⟩) (.cons (.sub (.var 2 ⟨51, 32, 51, 35⟩) (.lit (.int 1) 0 ⟨51, 36, 51, 37⟩) ⟨51, 32, 51, 38⟩) .nil)) ⟨51, 14, 51, 22⟩ ⟨51, 14, 51, 39⟩) ⟨51, 8, 51, 39⟩)
    (.cons (.assign 6 ⟨52, 8, 52, 10⟩ (.call "block_of" (.cons (.var 0 ⟨52, 22, 52, 29⟩) (.cons (.sub (.var 2 ⟨52, 31, 52, 34⟩) (.lit (.int 2) 0 ⟨52, 35, 52, 36⟩) ⟨52, 31, 52, 37⟩) .nil)) ⟨52, 13, 52, 21⟩ ⟨52, 13, 52, 38⟩) ⟨52, 8, 52, 38⟩)
    (.cons (.ite (.bop .Or (.cons (.cmp (.blt .tuple (.cons (.sub (.var 5 ⟨53, 17, 53, 20⟩) (.lit (.int 0) 0 ⟨53, 21, 53, 22⟩) ⟨53, 17, 53, 23⟩) .nil) ⟨53, 11, 53, 16⟩ ⟨53, 11, 53, 24⟩) .NotEq (.blt .tuple (.cons (.sub (.var 6 ⟨53, 34, 53, 36⟩) (.lit (.int 0) 0 ⟨53, 37, 53, 38⟩) ⟨53, 34, 53, 39⟩) .nil) ⟨53, 28, 53, 33⟩ ⟨53, 28, 53, 40⟩) ⟨53, 11, 53, 40⟩) (.cons (.cmp (.blt .tuple (.cons (.sub (.var 5 ⟨53, 50, 53, 53⟩) (.lit (.int 1) 0 ⟨53, 54, 53, 55⟩) ⟨53, 50, 53, 56⟩) .nil) ⟨53, 44, 53, 49⟩ ⟨53, 44, 53, 57⟩) .NotEq (.blt .tuple (.cons (.sub (.var 6 ⟨53, 67, 53, 69⟩) (.lit (.int 1) 0 ⟨53, 70, 53, 71⟩) ⟨53, 67, 53, 72⟩) .nil) ⟨53, 61, 53, 66⟩ ⟨53, 61, 53, 73⟩) ⟨53, 44, 53, 73⟩) .nil)) ⟨53, 11, 53, 73⟩) (.cons (.raise 4 "Apart" "both blocks tell unlike kinds" 0 ⟨54, 18, 54, 23⟩ ⟨54, 24, 54, 55⟩ ⟨54, 18, 54, 56⟩ ⟨54, 12, 54, 56⟩)
    .nil) .nil ⟨53, 8, 54, 56⟩)
    (.cons (.ret (.call "called" (.cons (.var 0 ⟨55, 22, 55, 29⟩) (.cons (.var 4 ⟨55, 31, 55, 35⟩) (.cons (.sub (.var 2 ⟨55, 37, 55, 40⟩) (.lit (.int 1) 0 ⟨55, 41, 55, 42⟩) ⟨55, 37, 55, 43⟩) .nil))) ⟨55, 15, 55, 21⟩ ⟨55, 15, 55, 44⟩) ⟨55, 8, 55, 44⟩)
    .nil))))) .nil ⟨49, 4, 55, 44⟩)
    (.cons (.ret (.bin (.call "taken" (.cons (.var 1 ⟨56, 17, 56, 22⟩) (.cons (.sub (.glob "TAKES_kinds" ⟨56, 24, 56, 35⟩) (.var 3 ⟨56, 36, 56, 40⟩) ⟨56, 24, 56, 41⟩) .nil)) ⟨56, 11, 56, 16⟩ ⟨56, 11, 56, 42⟩) .Add (.tup (.cons (.sub (.glob "PUTS" ⟨56, 46, 56, 50⟩) (.var 3 ⟨56, 51, 56, 55⟩) ⟨56, 46, 56, 56⟩) .nil) 0 ⟨56, 45, 56, 58⟩) ⟨56, 11, 56, 58⟩) ⟨56, 4, 56, 58⟩)
    .nil))))))
noncomputable def S_behind : Scope := {
              kind := PySem.ScopeKind.function,
              names := [
                (PySem.Str.ofString "program", PySem.NameKind.local),
                (PySem.Str.ofString "kinds", PySem.NameKind.local),
                (PySem.Str.ofString "row", PySem.NameKind.local),
                (PySem.Str.ofString "word", PySem.NameKind.local),
                (PySem.Str.ofString "left", PySem.NameKind.local),
                (PySem.Str.ofString "yes", PySem.NameKind.local),
                (PySem.Str.ofString "no", PySem.NameKind.local),
                (PySem.Str.ofString "moved", PySem.NameKind.globalImplicit),
                (PySem.Str.ofString "called", PySem.NameKind.globalImplicit),
                (PySem.Str.ofString "taken", PySem.NameKind.globalImplicit),
                (PySem.Str.ofString "block_of", PySem.NameKind.globalImplicit),
                (PySem.Str.ofString "tuple", PySem.NameKind.globalImplicit),
                (PySem.Str.ofString "Apart", PySem.NameKind.globalImplicit),
                (PySem.Str.ofString "TAKES_kinds", PySem.NameKind.globalImplicit),
                (PySem.Str.ofString "PUTS", PySem.NameKind.globalImplicit)],
              isGenerator := false,
              isCoroutine := false,
              more := [] : PySem.Scope }

noncomputable def N_kinds_of : List Str := ["stack", "kinds", "value"]
noncomputable def B_kinds_of : ASs :=
    (.cons (.assign 1 ⟨62, 4, 62, 9⟩ (.list .nil ⟨62, 12, 62, 14⟩) ⟨62, 4, 62, 14⟩)
    (.cons (.for 2 ⟨63, 8, 63, 13⟩ (.var 0 ⟨63, 17, 63, 22⟩) (.cons (.ite (.isi (.var 2 ⟨64, 22, 64, 27⟩) .str ⟨64, 11, 64, 21⟩ ⟨64, 29, 64, 32⟩ default default ⟨64, 11, 64, 33⟩) (.cons (.expr (.meth (.var 1 ⟨65, 12, 65, 17⟩) .append (.cons (.lit (.str "text") 0 ⟨65, 25, 65, 31⟩) .nil) ⟨65, 12, 65, 24⟩ ⟨65, 12, 65, 32⟩) ⟨65, 12, 65, 32⟩)
    .nil) (.cons (.expr (.meth (.var 1 ⟨67, 12, 67, 17⟩) .append (.cons (.lit (.str "num") 0 ⟨67, 25, 67, 30⟩) .nil) ⟨67, 12, 67, 24⟩ ⟨67, 12, 67, 31⟩) ⟨67, 12, 67, 31⟩)
    .nil) ⟨64, 8, 67, 31⟩)
    .nil) ⟨63, 4, 67, 31⟩)
    (.cons (.ret (.blt .tuple (.cons (.var 1 ⟨68, 17, 68, 22⟩) .nil) ⟨68, 11, 68, 16⟩ ⟨68, 11, 68, 23⟩) ⟨68, 4, 68, 23⟩)
    .nil)))
noncomputable def S_kinds_of : Scope := {
              kind := PySem.ScopeKind.function,
              names := [
                (PySem.Str.ofString "stack", PySem.NameKind.local),
                (PySem.Str.ofString "kinds", PySem.NameKind.local),
                (PySem.Str.ofString "value", PySem.NameKind.local),
                (PySem.Str.ofString "isinstance", PySem.NameKind.globalImplicit),
                (PySem.Str.ofString "str", PySem.NameKind.globalImplicit),
                (PySem.Str.ofString "tuple", PySem.NameKind.globalImplicit)],
              isGenerator := false,
              isCoroutine := false,
              more := [] : PySem.Scope }

noncomputable def N_need : List Str := ["stack", "count"]
noncomputable def B_need : ASs :=
    (.cons (.ite (.cmp (.blt .len (.cons (.var 0 ⟨70, 11, 70, 16⟩) .nil) ⟨70, 7, 70, 10⟩ ⟨70, 7, 70, 17⟩) .Lt (.var 1 ⟨70, 20, 70, 25⟩) ⟨70, 7, 70, 25⟩) (.cons (.raise 1 "Empty" "too few values" 0 ⟨71, 14, 71, 19⟩ ⟨71, 20, 71, 36⟩ ⟨71, 14, 71, 37⟩ ⟨71, 8, 71, 37⟩)
    .nil) .nil ⟨70, 4, 71, 37⟩)
    .nil)
noncomputable def S_need : Scope := {
              kind := PySem.ScopeKind.function,
              names := [
                (PySem.Str.ofString "stack", PySem.NameKind.local),
                (PySem.Str.ofString "count", PySem.NameKind.local),
                (PySem.Str.ofString "len", PySem.NameKind.globalImplicit),
                (PySem.Str.ofString "Empty", PySem.NameKind.globalImplicit)],
              isGenerator := false,
              isCoroutine := false,
              more := [] : PySem.Scope }

noncomputable def N_reckoned : List Str := ["word", "values"]
noncomputable def B_reckoned : ASs :=
    (.cons (.ite (.cmp (.var 0 ⟨73, 7, 73, 11⟩) .Eq (.lit (.str "add") 0 ⟨73, 15, 73, 20⟩) ⟨73, 7, 73, 20⟩) (.cons (.ret (.bin (.bin (.sub (.var 1 ⟨74, 16, 74, 22⟩) (.lit (.int 0) 0 ⟨74, 23, 74, 24⟩) ⟨74, 16, 74, 25⟩) .Add (.sub (.var 1 ⟨74, 28, 74, 34⟩) (.lit (.int 1) 0 ⟨74, 35, 74, 36⟩) ⟨74, 28, 74, 37⟩) ⟨74, 16, 74, 37⟩) .Mod (.glob "BOUND" ⟨74, 41, 74, 46⟩) ⟨74, 15, 74, 46⟩) ⟨74, 8, 74, 46⟩)
    .nil) .nil ⟨73, 4, 74, 46⟩)
    (.cons (.ite (.cmp (.var 0 ⟨75, 7, 75, 11⟩) .Eq (.lit (.str "mul") 0 ⟨75, 15, 75, 20⟩) ⟨75, 7, 75, 20⟩) (.cons (.ret (.bin (.bin (.sub (.var 1 ⟨76, 15, 76, 21⟩) (.lit (.int 0) 0 ⟨76, 22, 76, 23⟩) ⟨76, 15, 76, 24⟩) .Mult (.sub (.var 1 ⟨76, 27, 76, 33⟩) (.lit (.int 1) 0 ⟨76, 34, 76, 35⟩) ⟨76, 27, 76, 36⟩) ⟨76, 15, 76, 36⟩) .Mod (.glob "BOUND" ⟨76, 39, 76, 44⟩) ⟨76, 15, 76, 44⟩) ⟨76, 8, 76, 44⟩)
    .nil) .nil ⟨75, 4, 76, 44⟩)
    (.cons (.ite (.cmp (.var 0 ⟨77, 7, 77, 11⟩) .Eq (.lit (.str "less") 0 ⟨77, 15, 77, 21⟩) ⟨77, 7, 77, 21⟩) (.cons (.ret (.blt .int (.cons (.cmp (.sub (.var 1 ⟨78, 19, 78, 25⟩) (.lit (.int 0) 0 ⟨78, 26, 78, 27⟩) ⟨78, 19, 78, 28⟩) .Lt (.sub (.var 1 ⟨78, 31, 78, 37⟩) (.lit (.int 1) 0 ⟨78, 38, 78, 39⟩) ⟨78, 31, 78, 40⟩) ⟨78, 19, 78, 40⟩) .nil) ⟨78, 15, 78, 18⟩ ⟨78, 15, 78, 41⟩) ⟨78, 8, 78, 41⟩)
    .nil) .nil ⟨77, 4, 78, 41⟩)
    (.cons (.ite (.cmp (.var 0 ⟨79, 7, 79, 11⟩) .Eq (.lit (.str "join") 0 ⟨79, 15, 79, 21⟩) ⟨79, 7, 79, 21⟩) (.cons (.ret (.sto (.bin (.sub (.var 1 ⟨80, 16, 80, 22⟩) (.lit (.int 0) 0 ⟨80, 23, 80, 24⟩) ⟨80, 16, 80, 25⟩) .Add (.sub (.var 1 ⟨80, 28, 80, 34⟩) (.lit (.int 1) 0 ⟨80, 35, 80, 36⟩) ⟨80, 28, 80, 37⟩) ⟨80, 16, 80, 37⟩) (.glob "LONGEST" ⟨80, 40, 80, 47⟩) ⟨80, 39, 80, 47⟩ ⟨80, 15, 80, 48⟩) ⟨80, 8, 80, 48⟩)
    .nil) .nil ⟨79, 4, 80, 48⟩)
    (.cons (.ite (.cmp (.var 0 ⟨81, 7, 81, 11⟩) .Eq (.lit (.str "long") 0 ⟨81, 15, 81, 21⟩) ⟨81, 7, 81, 21⟩) (.cons (.ret (.blt .len (.cons (.sub (.var 1 ⟨82, 19, 82, 25⟩) (.lit (.int 0) 0 ⟨82, 26, 82, 27⟩) ⟨82, 19, 82, 28⟩) .nil) ⟨82, 15, 82, 18⟩ ⟨82, 15, 82, 29⟩) ⟨82, 8, 82, 29⟩)
    .nil) .nil ⟨81, 4, 82, 29⟩)
    (.cons (.ret (.blt .str (.cons (.sub (.var 1 ⟨83, 15, 83, 21⟩) (.lit (.int 0) 0 ⟨83, 22, 83, 23⟩) ⟨83, 15, 83, 24⟩) .nil) ⟨83, 11, 83, 14⟩ ⟨83, 11, 83, 25⟩) ⟨83, 4, 83, 25⟩)
    .nil))))))
noncomputable def S_reckoned : Scope := {
              kind := PySem.ScopeKind.function,
              names := [
                (PySem.Str.ofString "word", PySem.NameKind.local),
                (PySem.Str.ofString "values", PySem.NameKind.local),
                (PySem.Str.ofString "BOUND", PySem.NameKind.globalImplicit),
                (PySem.Str.ofString "int", PySem.NameKind.globalImplicit),
                (PySem.Str.ofString "LONGEST", PySem.NameKind.globalImplicit),
                (PySem.Str.ofString "len", PySem.NameKind.globalImplicit),
                (PySem.Str.ofString "str", PySem.NameKind.globalImplicit)],
              isGenerator := false,
              isCoroutine := false,
              more := [] : PySem.Scope }

noncomputable def N_done : List Str := ["stack", "row", "word", "size", "takes", "values"]
noncomputable def B_done : ASs :=
    (.cons (.assign 2 ⟨85, 4, 85, 8⟩ (.sub (.var 1 ⟨85, 11, 85, 14⟩) (.lit (.int 0) 0 ⟨85, 15, 85, 16⟩) ⟨85, 11, 85, 17⟩) ⟨85, 4, 85, 17⟩)
    (.cons (.assign 3 ⟨86, 4, 86, 8⟩ (.blt .len (.cons (.var 0 ⟨86, 15, 86, 20⟩) .nil) ⟨86, 11, 86, 14⟩ ⟨86, 11, 86, 21⟩) ⟨86, 4, 86, 21⟩)
    (.cons (.ite (.bop .Or (.cons (.cmp (.var 2 ⟨87, 7, 87, 11⟩) .Eq (.lit (.str "num") 0 ⟨87, 15, 87, 20⟩) ⟨87, 7, 87, 20⟩) (.cons (.cmp (.var 2 ⟨87, 24, 87, 28⟩) .Eq (.lit (.str "text") 0 ⟨87, 32, 87, 38⟩) ⟨87, 24, 87, 38⟩) .nil)) ⟨87, 7, 87, 38⟩) (.cons (.ret (.bin (.blt .list (.cons (.var 0 ⟨88, 20, 88, 25⟩) .nil) ⟨88, 15, 88, 19⟩ ⟨88, 15, 88, 26⟩) .Add (.list (.cons (.sub (.var 1 ⟨88, 30, 88, 33⟩) (.lit (.int 1) 0 ⟨88, 34, 88, 35⟩) ⟨88, 30, 88, 36⟩) .nil) ⟨88, 29, 88, 37⟩) ⟨88, 15, 88, 37⟩) ⟨88, 8, 88, 37⟩)
    .nil) .nil ⟨87, 4, 88, 37⟩)
    (.cons (.ite (.cmp (.var 2 ⟨89, 7, 89, 11⟩) .Eq (.lit (.str "copy") 0 ⟨89, 15, 89, 21⟩) ⟨89, 7, 89, 21⟩) (.cons (.expr (.call "need" (.cons (.var 0 ⟨90, 13, 90, 18⟩) (.cons (.bin (.sub (.var 1 ⟨90, 20, 90, 23⟩) (.lit (.int 1) 0 ⟨90, 24, 90, 25⟩) ⟨90, 20, 90, 26⟩) .Add (.lit (.int 1) 0 ⟨90, 29, 90, 30⟩) ⟨90, 20, 90, 30⟩) .nil)) ⟨90, 8, 90, 12⟩ ⟨90, 8, 90, 31⟩) ⟨90, 8, 90, 31⟩)
    (.cons (.ret (.bin (.blt .list (.cons (.var 0 ⟨91, 20, 91, 25⟩) .nil) ⟨91, 15, 91, 19⟩ ⟨91, 15, 91, 26⟩) .Add (.list (.cons (.sub (.var 0 ⟨91, 30, 91, 35⟩) (.bin (.bin (.var 3 ⟨91, 36, 91, 40⟩) .Sub (.lit (.int 1) 0 ⟨91, 43, 91, 44⟩) ⟨91, 36, 91, 44⟩) .Sub (.sub (.var 1 ⟨91, 47, 91, 50⟩) (.lit (.int 1) 0 ⟨91, 51, 91, 52⟩) ⟨91, 47, 91, 53⟩) ⟨91, 36, 91, 53⟩) ⟨91, 30, 91, 54⟩) .nil) ⟨91, 29, 91, 55⟩) ⟨91, 15, 91, 55⟩) ⟨91, 8, 91, 55⟩)
    .nil)) .nil ⟨89, 4, 91, 55⟩)
    (.cons (.ite (.cmp (.var 2 ⟨92, 7, 92, 11⟩) .Eq (.lit (.str "swap") 0 ⟨92, 15, 92, 21⟩) ⟨92, 7, 92, 21⟩) (.cons (.expr (.call "need" (.cons (.var 0 ⟨93, 13, 93, 18⟩) (.cons (.lit (.int 2) 0 ⟨93, 20, 93, 21⟩) .nil)) ⟨93, 8, 93, 12⟩ ⟨93, 8, 93, 22⟩) ⟨93, 8, 93, 22⟩)
    (.cons (.ret (.bin (.blt .list (.cons (.sto (.var 0 ⟨94, 20, 94, 25⟩) (.bin (.var 3 ⟨94, 27, 94, 31⟩) .Sub (.lit (.int 2) 0 ⟨94, 34, 94, 35⟩) ⟨94, 27, 94, 35⟩) ⟨94, 26, 94, 35⟩ ⟨94, 20, 94, 36⟩) .nil) ⟨94, 15, 94, 19⟩ ⟨94, 15, 94, 37⟩) .Add (.list (.cons (.sub (.var 0 ⟨94, 41, 94, 46⟩) (.bin (.var 3 ⟨94, 47, 94, 51⟩) .Sub (.lit (.int 1) 0 ⟨94, 54, 94, 55⟩) ⟨94, 47, 94, 55⟩) ⟨94, 41, 94, 56⟩) (.cons (.sub (.var 0 ⟨94, 58, 94, 63⟩) (.bin (.var 3 ⟨94, 64, 94, 68⟩) .Sub (.lit (.int 2) 0 ⟨94, 71, 94, 72⟩) ⟨94, 64, 94, 72⟩) ⟨94, 58, 94, 73⟩) .nil)) ⟨94, 40, 94, 74⟩) ⟨94, 15, 94, 74⟩) ⟨94, 8, 94, 74⟩)
    .nil)) .nil ⟨92, 4, 94, 74⟩)
    (.cons (.ite (.cmp (.var 2 ⟨95, 7, 95, 11⟩) .Eq (.lit (.str "drop") 0 ⟨95, 15, 95, 21⟩) ⟨95, 7, 95, 21⟩) (.cons (.expr (.call "need" (.cons (.var 0 ⟨96, 13, 96, 18⟩) (.cons (.lit (.int 1) 0 ⟨96, 20, 96, 21⟩) .nil)) ⟨96, 8, 96, 12⟩ ⟨96, 8, 96, 22⟩) ⟨96, 8, 96, 22⟩)
    (.cons (.ret (.blt .list (.cons (.sto (.var 0 ⟨97, 20, 97, 25⟩) (.bin (.var 3 ⟨97, 27, 97, 31⟩) .Sub (.lit (.int 1) 0 ⟨97, 34, 97, 35⟩) ⟨97, 27, 97, 35⟩) ⟨97, 26, 97, 35⟩ ⟨97, 20, 97, 36⟩) .nil) ⟨97, 15, 97, 19⟩ ⟨97, 15, 97, 37⟩) ⟨97, 8, 97, 37⟩)
    .nil)) .nil ⟨95, 4, 97, 37⟩)
    (.cons (.assign 4 ⟨98, 4, 98, 9⟩ (.sub (.glob "TAKES_rows" ⟨98, 12, 98, 22⟩) (.var 2 ⟨98, 23, 98, 27⟩) ⟨98, 12, 98, 28⟩) ⟨98, 4, 98, 28⟩)
    (.cons (.expr (.call "need" (.cons (.var 0 ⟨99, 9, 99, 14⟩) (.cons (.blt .len (.cons (.var 4 ⟨99, 20, 99, 25⟩) .nil) ⟨99, 16, 99, 19⟩ ⟨99, 16, 99, 26⟩) .nil)) ⟨99, 4, 99, 8⟩ ⟨99, 4, 99, 27⟩) ⟨99, 4, 99, 27⟩)
    (.cons (.assign 5 ⟨100, 4, 100, 10⟩ (.blt .list (.cons (.sfrom (.var 0 ⟨100, 18, 100, 23⟩) (.bin (.var 3 ⟨100, 24, 100, 28⟩) .Sub (.blt .len (.cons (.var 4 ⟨100, 35, 100, 40⟩) .nil) ⟨100, 31, 100, 34⟩ ⟨100, 31, 100, 41⟩) ⟨100, 24, 100, 41⟩) ⟨100, 24, 100, 42⟩ ⟨100, 18, 100, 43⟩) .nil) ⟨100, 13, 100, 17⟩ ⟨100, 13, 100, 44⟩) ⟨100, 4, 100, 44⟩)
    (.cons (.ite (.cmp (.call "kinds_of" (.cons (.var 5 ⟨101, 16, 101, 22⟩) .nil) ⟨101, 7, 101, 15⟩ ⟨101, 7, 101, 23⟩) .NotEq (.var 4 ⟨101, 27, 101, 32⟩) ⟨101, 7, 101, 32⟩) (.cons (.raise 2 "WrongKind" "a value of another kind is wanted" 0 ⟨102, 14, 102, 23⟩ ⟨102, 24, 102, 59⟩ ⟨102, 14, 102, 60⟩ ⟨102, 8, 102, 60⟩)
    .nil) .nil ⟨101, 4, 102, 60⟩)
    (.cons (.ret (.bin (.blt .list (.cons (.sto (.var 0 ⟨103, 16, 103, 21⟩) (.bin (.var 3 ⟨103, 23, 103, 27⟩) .Sub (.blt .len (.cons (.var 4 ⟨103, 34, 103, 39⟩) .nil) ⟨103, 30, 103, 33⟩ ⟨103, 30, 103, 40⟩) ⟨103, 23, 103, 40⟩) ⟨103, 22, 103, 40⟩ ⟨103, 16, 103, 41⟩) .nil) ⟨103, 11, 103, 15⟩ ⟨103, 11, 103, 42⟩) .Add (.list (.cons (.call "reckoned" (.cons (.var 2 ⟨103, 55, 103, 59⟩) (.cons (.var 5 ⟨103, 61, 103, 67⟩) .nil)) ⟨103, 46, 103, 54⟩ ⟨103, 46, 103, 68⟩) .nil) ⟨103, 45, 103, 69⟩) ⟨103, 11, 103, 69⟩) ⟨103, 4, 103, 69⟩)
    .nil)))))))))))
noncomputable def S_done : Scope := {
              kind := PySem.ScopeKind.function,
              names := [
                (PySem.Str.ofString "stack", PySem.NameKind.local),
                (PySem.Str.ofString "row", PySem.NameKind.local),
                (PySem.Str.ofString "word", PySem.NameKind.local),
                (PySem.Str.ofString "size", PySem.NameKind.local),
                (PySem.Str.ofString "takes", PySem.NameKind.local),
                (PySem.Str.ofString "values", PySem.NameKind.local),
                (PySem.Str.ofString "len", PySem.NameKind.globalImplicit),
                (PySem.Str.ofString "list", PySem.NameKind.globalImplicit),
                (PySem.Str.ofString "need", PySem.NameKind.globalImplicit),
                (PySem.Str.ofString "TAKES_rows", PySem.NameKind.globalImplicit),
                (PySem.Str.ofString "kinds_of", PySem.NameKind.globalImplicit),
                (PySem.Str.ofString "WrongKind", PySem.NameKind.globalImplicit),
                (PySem.Str.ofString "reckoned", PySem.NameKind.globalImplicit)],
              isGenerator := false,
              isCoroutine := false,
              more := [] : PySem.Scope }

noncomputable def N_law_draw : List Str := ["_law_script", "_law_tape", "_law_many", "_law_seed", "_law_cell"]
noncomputable def B_law_draw : ASs :=
    (.cons (.store (.var 1 ⟨106, 4, 106, 13⟩) (.lit (.int 0) 0 ⟨106, 14, 106, 15⟩) ⟨106, 4, 106, 16⟩ (.bin (.sub (.var 1 ⟨106, 19, 106, 28⟩) (.lit (.int 0) 0 ⟨106, 29, 106, 30⟩) ⟨106, 19, 106, 31⟩) .Add (.lit (.int 1) 0 ⟨106, 34, 106, 35⟩) ⟨106, 19, 106, 35⟩) ⟨106, 4, 106, 35⟩)
    (.cons (.ite (.cmp (.sub (.var 1 ⟨107, 7, 107, 16⟩) (.lit (.int 0) 0 ⟨107, 17, 107, 18⟩) ⟨107, 7, 107, 19⟩) .LtE (.blt .len (.cons (.var 0 ⟨107, 27, 107, 38⟩) .nil) ⟨107, 23, 107, 26⟩ ⟨107, 23, 107, 39⟩) ⟨107, 7, 107, 39⟩) (.cons (.ret (.bin (.sub (.var 0 ⟨108, 15, 108, 26⟩) (.bin (.sub (.var 1 ⟨108, 27, 108, 36⟩) (.lit (.int 0) 0 ⟨108, 37, 108, 38⟩) ⟨108, 27, 108, 39⟩) .Sub (.lit (.int 1) 0 ⟨108, 42, 108, 43⟩) ⟨108, 27, 108, 43⟩) ⟨108, 15, 108, 44⟩) .Mod (.var 2 ⟨108, 47, 108, 56⟩) ⟨108, 15, 108, 56⟩) ⟨108, 8, 108, 56⟩)
    .nil) .nil ⟨107, 4, 108, 56⟩)
    (.cons (.assign 3 ⟨109, 4, 109, 13⟩ (.blt .len (.cons (.var 0 ⟨109, 20, 109, 31⟩) .nil) ⟨109, 16, 109, 19⟩ ⟨109, 16, 109, 32⟩) ⟨109, 4, 109, 32⟩)
    (.cons (.for 4 ⟨110, 8, 110, 17⟩ (.sto (.var 0 ⟨110, 21, 110, 32⟩) (.lit (.int 4) 0 ⟨110, 34, 110, 35⟩) ⟨110, 33, 110, 35⟩ ⟨110, 21, 110, 36⟩) (.cons (.assign 3 ⟨111, 8, 111, 17⟩ (.bin (.bin (.bin (.var 3 ⟨111, 21, 111, 30⟩) .Mult (.lit (.int 131) 0 ⟨111, 33, 111, 36⟩) ⟨111, 21, 111, 36⟩) .Add (.var 4 ⟨111, 39, 111, 48⟩) ⟨111, 21, 111, 48⟩) .Mod (.lit (.int 1000003) 0 ⟨111, 52, 111, 59⟩) ⟨111, 20, 111, 59⟩) ⟨111, 8, 111, 59⟩)
    .nil) ⟨110, 4, 111, 59⟩)
    (.cons (.ret (.bin (.bin (.bin (.bin (.var 3 ⟨112, 12, 112, 21⟩) .Add (.lit (.int 7) 0 ⟨112, 24, 112, 25⟩) ⟨112, 12, 112, 25⟩) .Mult (.bin (.bin (.sub (.var 1 ⟨112, 30, 112, 39⟩) (.lit (.int 0) 0 ⟨112, 40, 112, 41⟩) ⟨112, 30, 112, 42⟩) .Mult (.sub (.var 1 ⟨112, 45, 112, 54⟩) (.lit (.int 0) 0 ⟨112, 55, 112, 56⟩) ⟨112, 45, 112, 57⟩) ⟨112, 30, 112, 57⟩) .Add (.lit (.int 48271) 0 ⟨112, 60, 112, 65⟩) ⟨112, 30, 112, 65⟩) ⟨112, 11, 112, 66⟩) .Mod (.lit (.int 1000003) 0 ⟨112, 69, 112, 76⟩) ⟨112, 11, 112, 76⟩) .Mod (.var 2 ⟨112, 79, 112, 88⟩) ⟨112, 11, 112, 88⟩) ⟨112, 4, 112, 88⟩)
    .nil)))))
noncomputable def S_law_draw : Scope := {
              kind := PySem.ScopeKind.function,
              names := [
                (PySem.Str.ofString "_law_script", PySem.NameKind.local),
                (PySem.Str.ofString "_law_tape", PySem.NameKind.local),
                (PySem.Str.ofString "_law_many", PySem.NameKind.local),
                (PySem.Str.ofString "_law_seed", PySem.NameKind.local),
                (PySem.Str.ofString "_law_cell", PySem.NameKind.local),
                (PySem.Str.ofString "len", PySem.NameKind.globalImplicit)],
              isGenerator := false,
              isCoroutine := false,
              more := [] : PySem.Scope }

noncomputable def N_law_words : List Str := ["_law_cell", "_law_size", "_law_signs", "_law_k"]
noncomputable def B_law_words : ASs :=
    (.cons (.assign 2 ⟨114, 4, 114, 14⟩ (.lit (.str "abcdefghijklmnopqrstuvwxyzABCDEFGHIJKLMNOPQRSTUVWXYZ0123456789") 0 ⟨114, 17, 114, 81⟩) ⟨114, 4, 114, 81⟩)
    (.cons (.assign 2 ⟨115, 4, 115, 14⟩ (.bin (.var 2 ⟨115, 17, 115, 27⟩) .Add (.lit (.str " .,;:!?'\"()[]{}<>+-*/=&|^~_#$@\\`") 0 ⟨115, 30, 115, 66⟩) ⟨115, 17, 115, 66⟩) ⟨115, 4, 115, 66⟩)
    (.cons (.ret (.meth (.lit (.str "") 0 ⟨116, 11, 116, 13⟩) .join (.cons (.comp (.sub (.var 2 ⟨116, 20, 116, 30⟩) (.bin (.bin (.bin (.var 0 ⟨116, 32, 116, 41⟩) .FloorDiv (.bin (.var 3 ⟨116, 46, 116, 52⟩) .Add (.lit (.int 1) 0 ⟨116, 55, 116, 56⟩) ⟨116, 46, 116, 56⟩) ⟨116, 32, 116, 57⟩) .Add (.bin (.lit (.int 5) 0 ⟨116, 60, 116, 61⟩) .Mult (.var 3 ⟨116, 64, 116, 70⟩) ⟨116, 60, 116, 70⟩) ⟨116, 32, 116, 70⟩) .Mod (.lit (.int 94) 0 ⟨116, 74, 116, 76⟩) ⟨116, 31, 116, 76⟩) ⟨116, 20, 116, 77⟩) 3 ⟨116, 82, 116, 88⟩ (.blt .range (.cons (.var 1 ⟨116, 98, 116, 107⟩) .nil) ⟨116, 92, 116, 97⟩ ⟨116, 92, 116, 108⟩) .nil {                           kind := PySem.ScopeKind.function,                           names := [                             (PySem.Str.ofString ".0", PySem.NameKind.local),                             (PySem.Str.ofString "_law_k", PySem.NameKind.local),                             (PySem.Str.ofString "_law_cell", PySem.NameKind.free),                             (PySem.Str.ofString "_law_signs", PySem.NameKind.free)],                           isGenerator := false,                           isCoroutine := false,                           more := [] : PySem.Scope } ⟨116, 19, 116, 109⟩) .nil) ⟨116, 11, 116, 18⟩ ⟨116, 11, 116, 110⟩) ⟨116, 4, 116, 110⟩)
    .nil)))
noncomputable def S_law_words : Scope := {
              kind := PySem.ScopeKind.function,
              names := [
                (PySem.Str.ofString "_law_cell", PySem.NameKind.cell),
                (PySem.Str.ofString "_law_size", PySem.NameKind.local),
                (PySem.Str.ofString "_law_signs", PySem.NameKind.cell),
                (PySem.Str.ofString "range", PySem.NameKind.globalImplicit)],
              isGenerator := false,
              isCoroutine := false,
              more := [
                (PySem.Str.ofString "fast", (PySem.Const.str "_law_cell")),
                (PySem.Str.ofString "fast", (PySem.Const.str "_law_size")),
                (PySem.Str.ofString "fast", (PySem.Const.str "_law_signs")),
                (PySem.Str.ofString "fast", (PySem.Const.str "_law_k"))] : PySem.Scope }

noncomputable def N_law_value : List Str := ["_law_script", "_law_tape", "_law_kind", "_law_cell", "_law_way"]
noncomputable def B_law_value : ASs :=
    (.cons (.assign 3 ⟨118, 4, 118, 13⟩ (.call "_law_draw" (.cons (.var 0 ⟨118, 26, 118, 37⟩) (.cons (.var 1 ⟨118, 39, 118, 48⟩) (.cons (.lit (.int 1000000000) 0 ⟨118, 50, 118, 60⟩) .nil))) ⟨118, 16, 118, 25⟩ ⟨118, 16, 118, 61⟩) ⟨118, 4, 118, 61⟩)
    (.cons (.assign 4 ⟨119, 4, 119, 12⟩ (.call "_law_draw" (.cons (.var 0 ⟨119, 25, 119, 36⟩) (.cons (.var 1 ⟨119, 38, 119, 47⟩) (.cons (.lit (.int 6) 0 ⟨119, 49, 119, 50⟩) .nil))) ⟨119, 15, 119, 24⟩ ⟨119, 15, 119, 51⟩) ⟨119, 4, 119, 51⟩)
    (.cons (.ite (.cmp (.var 2 ⟨120, 7, 120, 16⟩) .Eq (.lit (.str "text") 0 ⟨120, 20, 120, 26⟩) ⟨120, 7, 120, 26⟩) (.cons (.ite (.cmp (.var 4 ⟨121, 11, 121, 19⟩) .Eq (.lit (.int 0) 0 ⟨121, 23, 121, 24⟩) ⟨121, 11, 121, 24⟩) (.cons (.ret (.call "_law_words" (.cons (.var 3 ⟨122, 30, 122, 39⟩) (.cons (.bin (.lit (.int 58) 0 ⟨122, 41, 122, 43⟩) .Add (.bin (.var 3 ⟨122, 46, 122, 55⟩) .Mod (.lit (.int 3) 0 ⟨122, 58, 122, 59⟩) ⟨122, 46, 122, 59⟩) ⟨122, 41, 122, 59⟩) .nil)) ⟨122, 19, 122, 29⟩ ⟨122, 19, 122, 60⟩) ⟨122, 12, 122, 60⟩)
    .nil) .nil ⟨121, 8, 122, 60⟩)
    (.cons (.ret (.call "_law_words" (.cons (.var 3 ⟨123, 26, 123, 35⟩) (.cons (.bin (.bin (.var 3 ⟨123, 37, 123, 46⟩) .FloorDiv (.lit (.int 94) 0 ⟨123, 50, 123, 52⟩) ⟨123, 37, 123, 52⟩) .Mod (.lit (.int 8) 0 ⟨123, 55, 123, 56⟩) ⟨123, 37, 123, 56⟩) .nil)) ⟨123, 15, 123, 25⟩ ⟨123, 15, 123, 57⟩) ⟨123, 8, 123, 57⟩)
    .nil)) .nil ⟨120, 4, 123, 57⟩)
    (.cons (.ite (.cmp (.var 4 ⟨124, 7, 124, 15⟩) .Eq (.lit (.int 0) 0 ⟨124, 19, 124, 20⟩) ⟨124, 7, 124, 20⟩) (.cons (.ret (.bin (.lit (.int 999999999) 0 ⟨125, 15, 125, 24⟩) .Sub (.bin (.var 3 ⟨125, 27, 125, 36⟩) .Mod (.lit (.int 3) 0 ⟨125, 39, 125, 40⟩) ⟨125, 27, 125, 40⟩) ⟨125, 15, 125, 40⟩) ⟨125, 8, 125, 40⟩)
    .nil) .nil ⟨124, 4, 125, 40⟩)
    (.cons (.ite (.cmp (.var 4 ⟨126, 7, 126, 15⟩) .Lt (.lit (.int 3) 0 ⟨126, 18, 126, 19⟩) ⟨126, 7, 126, 19⟩) (.cons (.ret (.bin (.var 3 ⟨127, 15, 127, 24⟩) .Mod (.lit (.int 4) 0 ⟨127, 27, 127, 28⟩) ⟨127, 15, 127, 28⟩) ⟨127, 8, 127, 28⟩)
    .nil) .nil ⟨126, 4, 127, 28⟩)
    (.cons (.ret (.var 3 ⟨128, 11, 128, 20⟩) ⟨128, 4, 128, 20⟩)
    .nil))))))
noncomputable def S_law_value : Scope := {
              kind := PySem.ScopeKind.function,
              names := [
                (PySem.Str.ofString "_law_script", PySem.NameKind.local),
                (PySem.Str.ofString "_law_tape", PySem.NameKind.local),
                (PySem.Str.ofString "_law_kind", PySem.NameKind.local),
                (PySem.Str.ofString "_law_cell", PySem.NameKind.local),
                (PySem.Str.ofString "_law_way", PySem.NameKind.local),
                (PySem.Str.ofString "_law_draw", PySem.NameKind.globalImplicit),
                (PySem.Str.ofString "_law_words", PySem.NameKind.globalImplicit)],
              isGenerator := false,
              isCoroutine := false,
              more := [] : PySem.Scope }

noncomputable def N_law_wanted : List Str := ["_law_row", "_law_two", "_law_one"]
noncomputable def B_law_wanted : ASs :=
    (.cons (.ite (.cmp (.sub (.var 0 ⟨130, 7, 130, 15⟩) (.lit (.int 0) 0 ⟨130, 16, 130, 17⟩) ⟨130, 7, 130, 18⟩) .Eq (.lit (.str "copy") 0 ⟨130, 22, 130, 28⟩) ⟨130, 7, 130, 28⟩) (.cons (.ret (.bin (.list (.cons (.lit (.str "") 0 ⟨131, 16, 131, 18⟩) .nil) ⟨131, 15, 131, 19⟩) .Mult (.bin (.sub (.var 0 ⟨131, 23, 131, 31⟩) (.lit (.int 1) 0 ⟨131, 32, 131, 33⟩) ⟨131, 23, 131, 34⟩) .Add (.lit (.int 1) 0 ⟨131, 37, 131, 38⟩) ⟨131, 23, 131, 38⟩) ⟨131, 15, 131, 39⟩) ⟨131, 8, 131, 39⟩)
    .nil) .nil ⟨130, 4, 131, 39⟩)
    (.cons (.assign 1 ⟨132, 4, 132, 12⟩ (.dict [("add", ⟨132, 16, 132, 21⟩), ("mul", ⟨132, 30, 132, 35⟩), ("less", ⟨132, 44, 132, 50⟩), ("join", ⟨132, 59, 132, 65⟩), ("swap", ⟨132, 75, 132, 81⟩)] (.cons (.lit (.str "num") 0 ⟨132, 23, 132, 28⟩) (.cons (.lit (.str "num") 0 ⟨132, 37, 132, 42⟩) (.cons (.lit (.str "num") 0 ⟨132, 52, 132, 57⟩) (.cons (.lit (.str "text") 0 ⟨132, 67, 132, 73⟩) (.cons (.lit (.str "") 0 ⟨132, 83, 132, 85⟩) .nil))))) ⟨132, 15, 132, 86⟩) ⟨132, 4, 132, 86⟩)
    (.cons (.assign 2 ⟨133, 4, 133, 12⟩ (.dict [("long", ⟨133, 16, 133, 22⟩), ("show", ⟨133, 32, 133, 38⟩), ("drop", ⟨133, 47, 133, 53⟩)] (.cons (.lit (.str "text") 0 ⟨133, 24, 133, 30⟩) (.cons (.lit (.str "num") 0 ⟨133, 40, 133, 45⟩) (.cons (.lit (.str "") 0 ⟨133, 55, 133, 57⟩) .nil))) ⟨133, 15, 133, 58⟩) ⟨133, 4, 133, 58⟩)
    (.cons (.ite (.cmp (.sub (.var 0 ⟨134, 7, 134, 15⟩) (.lit (.int 0) 0 ⟨134, 16, 134, 17⟩) ⟨134, 7, 134, 18⟩) .In (.var 1 ⟨134, 22, 134, 30⟩) ⟨134, 7, 134, 30⟩) (.cons (.ret (.list (.cons (.sub (.var 1 ⟨135, 16, 135, 24⟩) (.sub (.var 0 ⟨135, 25, 135, 33⟩) (.lit (.int 0) 0 ⟨135, 34, 135, 35⟩) ⟨135, 25, 135, 36⟩) ⟨135, 16, 135, 37⟩) (.cons (.sub (.var 1 ⟨135, 39, 135, 47⟩) (.sub (.var 0 ⟨135, 48, 135, 56⟩) (.lit (.int 0) 0 ⟨135, 57, 135, 58⟩) ⟨135, 48, 135, 59⟩) ⟨135, 39, 135, 60⟩) .nil)) ⟨135, 15, 135, 61⟩) ⟨135, 8, 135, 61⟩)
    .nil) .nil ⟨134, 4, 135, 61⟩)
    (.cons (.ite (.cmp (.sub (.var 0 ⟨136, 7, 136, 15⟩) (.lit (.int 0) 0 ⟨136, 16, 136, 17⟩) ⟨136, 7, 136, 18⟩) .In (.var 2 ⟨136, 22, 136, 30⟩) ⟨136, 7, 136, 30⟩) (.cons (.ret (.list (.cons (.sub (.var 2 ⟨137, 16, 137, 24⟩) (.sub (.var 0 ⟨137, 25, 137, 33⟩) (.lit (.int 0) 0 ⟨137, 34, 137, 35⟩) ⟨137, 25, 137, 36⟩) ⟨137, 16, 137, 37⟩) .nil) ⟨137, 15, 137, 38⟩) ⟨137, 8, 137, 38⟩)
    .nil) .nil ⟨136, 4, 137, 38⟩)
    (.cons (.ret (.list .nil ⟨138, 11, 138, 13⟩) ⟨138, 4, 138, 13⟩)
    .nil))))))
noncomputable def S_law_wanted : Scope := {
              kind := PySem.ScopeKind.function,
              names := [
                (PySem.Str.ofString "_law_row", PySem.NameKind.local),
                (PySem.Str.ofString "_law_two", PySem.NameKind.local),
                (PySem.Str.ofString "_law_one", PySem.NameKind.local)],
              isGenerator := false,
              isCoroutine := false,
              more := [] : PySem.Scope }

noncomputable def N_law_lack : List Str := ["_law_kinds", "_law_wanted_here", "_law_low", "_law_k"]
noncomputable def B_law_lack : ASs :=
    (.cons (.ite (.cmp (.blt .len (.cons (.var 0 ⟨140, 11, 140, 21⟩) .nil) ⟨140, 7, 140, 10⟩ ⟨140, 7, 140, 22⟩) .Lt (.blt .len (.cons (.var 1 ⟨140, 29, 140, 45⟩) .nil) ⟨140, 25, 140, 28⟩ ⟨140, 25, 140, 46⟩) ⟨140, 7, 140, 46⟩) (.cons (.ret (.lit (.str "empty") 0 ⟨141, 15, 141, 22⟩) ⟨141, 8, 141, 22⟩)
    .nil) .nil ⟨140, 4, 141, 22⟩)
    (.cons (.assign 2 ⟨142, 4, 142, 12⟩ (.bin (.blt .len (.cons (.var 0 ⟨142, 19, 142, 29⟩) .nil) ⟨142, 15, 142, 18⟩ ⟨142, 15, 142, 30⟩) .Sub (.blt .len (.cons (.var 1 ⟨142, 37, 142, 53⟩) .nil) ⟨142, 33, 142, 36⟩ ⟨142, 33, 142, 54⟩) ⟨142, 15, 142, 54⟩) ⟨142, 4, 142, 54⟩)
    (.cons (.for 3 ⟨143, 8, 143, 14⟩ (.blt .range (.cons (.blt .len (.cons (.var 1 ⟨143, 28, 143, 44⟩) .nil) ⟨143, 24, 143, 27⟩ ⟨143, 24, 143, 45⟩) .nil) ⟨143, 18, 143, 23⟩ ⟨143, 18, 143, 46⟩) (.cons (.ite (.bop .And (.cons (.cmp (.sub (.var 1 ⟨144, 11, 144, 27⟩) (.var 3 ⟨144, 28, 144, 34⟩) ⟨144, 11, 144, 35⟩) .NotEq (.lit (.str "") 0 ⟨144, 39, 144, 41⟩) ⟨144, 11, 144, 41⟩) (.cons (.cmp (.sub (.var 1 ⟨144, 46, 144, 62⟩) (.var 3 ⟨144, 63, 144, 69⟩) ⟨144, 46, 144, 70⟩) .NotEq (.sub (.var 0 ⟨144, 74, 144, 84⟩) (.bin (.var 2 ⟨144, 85, 144, 93⟩) .Add (.var 3 ⟨144, 96, 144, 102⟩) ⟨144, 85, 144, 102⟩) ⟨144, 74, 144, 103⟩) ⟨144, 46, 144, 103⟩) .nil)) ⟨144, 11, 144, 103⟩) (.cons (.ret (.lit (.str "kind") 0 ⟨145, 19, 145, 25⟩) ⟨145, 12, 145, 25⟩)
    .nil) .nil ⟨144, 8, 145, 25⟩)
    .nil) ⟨143, 4, 145, 25⟩)
    (.cons (.ret (.lit (.str "") 0 ⟨146, 11, 146, 13⟩) ⟨146, 4, 146, 13⟩)
    .nil))))
noncomputable def S_law_lack : Scope := {
              kind := PySem.ScopeKind.function,
              names := [
                (PySem.Str.ofString "_law_kinds", PySem.NameKind.local),
                (PySem.Str.ofString "_law_wanted_here", PySem.NameKind.local),
                (PySem.Str.ofString "_law_low", PySem.NameKind.local),
                (PySem.Str.ofString "_law_k", PySem.NameKind.local),
                (PySem.Str.ofString "len", PySem.NameKind.globalImplicit),
                (PySem.Str.ofString "range", PySem.NameKind.globalImplicit)],
              isGenerator := false,
              isCoroutine := false,
              more := [] : PySem.Scope }

noncomputable def N_law_plainly : List Str := ["_law_kinds", "_law_row", "_law_left"]
noncomputable def B_law_plainly : ASs :=
    (.cons (.assign 2 ⟨148, 4, 148, 13⟩ (.sto (.var 0 ⟨148, 16, 148, 26⟩) (.bin (.blt .len (.cons (.var 0 ⟨148, 32, 148, 42⟩) .nil) ⟨148, 28, 148, 31⟩ ⟨148, 28, 148, 43⟩) .Sub (.blt .len (.cons (.call "_law_wanted" (.cons (.var 1 ⟨148, 62, 148, 70⟩) .nil) ⟨148, 50, 148, 61⟩ ⟨148, 50, 148, 71⟩) .nil) ⟨148, 46, 148, 49⟩ ⟨148, 46, 148, 72⟩) ⟨148, 28, 148, 72⟩) ⟨148, 27, 148, 72⟩ ⟨148, 16, 148, 73⟩) ⟨148, 4, 148, 73⟩)
    (.cons (.ite (.cmp (.sub (.var 1 ⟨149, 7, 149, 15⟩) (.lit (.int 0) 0 ⟨149, 16, 149, 17⟩) ⟨149, 7, 149, 18⟩) .Eq (.lit (.str "copy") 0 ⟨149, 22, 149, 28⟩) ⟨149, 7, 149, 28⟩) (.cons (.ret (.bin (.var 0 ⟨150, 15, 150, 25⟩) .Add (.list (.cons (.sub (.var 0 ⟨150, 29, 150, 39⟩) (.bin (.bin (.blt .len (.cons (.var 0 ⟨150, 44, 150, 54⟩) .nil) ⟨150, 40, 150, 43⟩ ⟨150, 40, 150, 55⟩) .Sub (.lit (.int 1) 0 ⟨150, 58, 150, 59⟩) ⟨150, 40, 150, 59⟩) .Sub (.sub (.var 1 ⟨150, 62, 150, 70⟩) (.lit (.int 1) 0 ⟨150, 71, 150, 72⟩) ⟨150, 62, 150, 73⟩) ⟨150, 40, 150, 73⟩) ⟨150, 29, 150, 74⟩) .nil) ⟨150, 28, 150, 75⟩) ⟨150, 15, 150, 75⟩) ⟨150, 8, 150, 75⟩)
    .nil) .nil ⟨149, 4, 150, 75⟩)
    (.cons (.ite (.cmp (.sub (.var 1 ⟨151, 7, 151, 15⟩) (.lit (.int 0) 0 ⟨151, 16, 151, 17⟩) ⟨151, 7, 151, 18⟩) .Eq (.lit (.str "swap") 0 ⟨151, 22, 151, 28⟩) ⟨151, 7, 151, 28⟩) (.cons (.ret (.bin (.var 2 ⟨152, 15, 152, 24⟩) .Add (.list (.cons (.sub (.var 0 ⟨152, 28, 152, 38⟩) (.neg (.lit (.int 1) 0 ⟨152, 40, 152, 41⟩) ⟨152, 39, 152, 41⟩) ⟨152, 28, 152, 42⟩) (.cons (.sub (.var 0 ⟨152, 44, 152, 54⟩) (.neg (.lit (.int 2) 0 ⟨152, 56, 152, 57⟩) ⟨152, 55, 152, 57⟩) ⟨152, 44, 152, 58⟩) .nil)) ⟨152, 27, 152, 59⟩) ⟨152, 15, 152, 59⟩) ⟨152, 8, 152, 59⟩)
    .nil) .nil ⟨151, 4, 152, 59⟩)
    (.cons (.ite (.cmp (.sub (.var 1 ⟨153, 7, 153, 15⟩) (.lit (.int 0) 0 ⟨153, 16, 153, 17⟩) ⟨153, 7, 153, 18⟩) .Eq (.lit (.str "drop") 0 ⟨153, 22, 153, 28⟩) ⟨153, 7, 153, 28⟩) (.cons (.ret (.var 2 ⟨154, 15, 154, 24⟩) ⟨154, 8, 154, 24⟩)
    .nil) .nil ⟨153, 4, 154, 24⟩)
    (.cons (.ite (.bop .Or (.cons (.cmp (.sub (.var 1 ⟨155, 7, 155, 15⟩) (.lit (.int 0) 0 ⟨155, 16, 155, 17⟩) ⟨155, 7, 155, 18⟩) .Eq (.lit (.str "text") 0 ⟨155, 22, 155, 28⟩) ⟨155, 7, 155, 28⟩) (.cons (.cmp (.sub (.var 1 ⟨155, 32, 155, 40⟩) (.lit (.int 0) 0 ⟨155, 41, 155, 42⟩) ⟨155, 32, 155, 43⟩) .Eq (.lit (.str "join") 0 ⟨155, 47, 155, 53⟩) ⟨155, 32, 155, 53⟩) (.cons (.cmp (.sub (.var 1 ⟨155, 57, 155, 65⟩) (.lit (.int 0) 0 ⟨155, 66, 155, 67⟩) ⟨155, 57, 155, 68⟩) .Eq (.lit (.str "show") 0 ⟨155, 72, 155, 78⟩) ⟨155, 57, 155, 78⟩) .nil))) ⟨155, 7, 155, 78⟩) (.cons (.ret (.bin (.var 2 ⟨156, 15, 156, 24⟩) .Add (.list (.cons (.lit (.str "text") 0 ⟨156, 28, 156, 34⟩) .nil) ⟨156, 27, 156, 35⟩) ⟨156, 15, 156, 35⟩) ⟨156, 8, 156, 35⟩)
    .nil) .nil ⟨155, 4, 156, 35⟩)
    (.cons (.ret (.bin (.var 2 ⟨157, 11, 157, 20⟩) .Add (.list (.cons (.lit (.str "num") 0 ⟨157, 24, 157, 29⟩) .nil) ⟨157, 23, 157, 30⟩) ⟨157, 11, 157, 30⟩) ⟨157, 4, 157, 30⟩)
    .nil))))))
noncomputable def S_law_plainly : Scope := {
              kind := PySem.ScopeKind.function,
              names := [
                (PySem.Str.ofString "_law_kinds", PySem.NameKind.local),
                (PySem.Str.ofString "_law_row", PySem.NameKind.local),
                (PySem.Str.ofString "_law_left", PySem.NameKind.local),
                (PySem.Str.ofString "len", PySem.NameKind.globalImplicit),
                (PySem.Str.ofString "_law_wanted", PySem.NameKind.globalImplicit)],
              isGenerator := false,
              isCoroutine := false,
              more := [] : PySem.Scope }

noncomputable def N_law_plain_row : List Str := ["_law_script", "_law_tape", "_law_some", "_law_word"]
noncomputable def B_law_plain_row : ASs :=
    (.cons (.assign 2 ⟨159, 4, 159, 13⟩ (.list (.cons (.lit (.str "num") 0 ⟨159, 17, 159, 22⟩) (.cons (.lit (.str "text") 0 ⟨159, 24, 159, 30⟩) (.cons (.lit (.str "add") 0 ⟨159, 32, 159, 37⟩) (.cons (.lit (.str "mul") 0 ⟨159, 39, 159, 44⟩) (.cons (.lit (.str "less") 0 ⟨159, 46, 159, 52⟩) (.cons (.lit (.str "join") 0 ⟨159, 54, 159, 60⟩) (.cons (.lit (.str "long") 0 ⟨159, 62, 159, 68⟩) (.cons (.lit (.str "show") 0 ⟨159, 70, 159, 76⟩) (.cons (.lit (.str "swap") 0 ⟨159, 78, 159, 84⟩) (.cons (.lit (.str "drop") 0 ⟨159, 86, 159, 92⟩) (.cons (.lit (.str "copy") 0 ⟨159, 94, 159, 100⟩) (.cons (.lit (.str "copy") 0 ⟨159, 102, 159, 108⟩) (.cons (.lit (.str "copy") 0 ⟨159, 110, 159, 116⟩) .nil))))))))))))) ⟨159, 16, 159, 117⟩) ⟨159, 4, 159, 117⟩)
    (.cons (.assign 3 ⟨160, 4, 160, 13⟩ (.sub (.var 2 ⟨160, 16, 160, 25⟩) (.call "_law_draw" (.cons (.var 0 ⟨160, 36, 160, 47⟩) (.cons (.var 1 ⟨160, 49, 160, 58⟩) (.cons (.lit (.int 13) 0 ⟨160, 60, 160, 62⟩) .nil))) ⟨160, 26, 160, 35⟩ ⟨160, 26, 160, 63⟩) ⟨160, 16, 160, 64⟩) ⟨160, 4, 160, 64⟩)
    (.cons (.ite (.bop .Or (.cons (.cmp (.var 3 ⟨161, 7, 161, 16⟩) .Eq (.lit (.str "num") 0 ⟨161, 20, 161, 25⟩) ⟨161, 7, 161, 25⟩) (.cons (.cmp (.var 3 ⟨161, 29, 161, 38⟩) .Eq (.lit (.str "text") 0 ⟨161, 42, 161, 48⟩) ⟨161, 29, 161, 48⟩) .nil)) ⟨161, 7, 161, 48⟩) (.cons (.ret (.tup (.cons (.var 3 ⟨162, 16, 162, 25⟩) (.cons (.call "_law_value" (.cons (.var 0 ⟨162, 38, 162, 49⟩) (.cons (.var 1 ⟨162, 51, 162, 60⟩) (.cons (.var 3 ⟨162, 62, 162, 71⟩) .nil))) ⟨162, 27, 162, 37⟩ ⟨162, 27, 162, 72⟩) .nil)) 0 ⟨162, 15, 162, 73⟩) ⟨162, 8, 162, 73⟩)
    .nil) .nil ⟨161, 4, 162, 73⟩)
    (.cons (.ite (.cmp (.var 3 ⟨163, 7, 163, 16⟩) .Eq (.lit (.str "copy") 0 ⟨163, 20, 163, 26⟩) ⟨163, 7, 163, 26⟩) (.cons (.ret (.tup (.cons (.var 3 ⟨164, 16, 164, 25⟩) (.cons (.sub (.list (.cons (.lit (.int 0) 0 ⟨164, 28, 164, 29⟩) (.cons (.lit (.int 0) 0 ⟨164, 31, 164, 32⟩) (.cons (.lit (.int 1) 0 ⟨164, 34, 164, 35⟩) (.cons (.lit (.int 1) 0 ⟨164, 37, 164, 38⟩) (.cons (.lit (.int 2) 0 ⟨164, 40, 164, 41⟩) (.cons (.lit (.int 3) 0 ⟨164, 43, 164, 44⟩) (.cons (.call "_law_draw" (.cons (.var 0 ⟨164, 56, 164, 67⟩) (.cons (.var 1 ⟨164, 69, 164, 78⟩) (.cons (.lit (.int 61) 0 ⟨164, 80, 164, 82⟩) .nil))) ⟨164, 46, 164, 55⟩ ⟨164, 46, 164, 83⟩) (.cons (.lit (.int 60) 0 ⟨164, 85, 164, 87⟩) .nil)))))))) ⟨164, 27, 164, 88⟩) (.call "_law_draw" (.cons (.var 0 ⟨164, 99, 164, 110⟩) (.cons (.var 1 ⟨164, 112, 164, 121⟩) (.cons (.lit (.int 8) 0 ⟨164, 123, 164, 124⟩) .nil))) ⟨164, 89, 164, 98⟩ ⟨164, 89, 164, 125⟩) ⟨164, 27, 164, 126⟩) .nil)) 0 ⟨164, 15, 164, 127⟩) ⟨164, 8, 164, 127⟩)
    .nil) .nil ⟨163, 4, 164, 127⟩)
    (.cons (.ret (.tup (.cons (.var 3 ⟨165, 12, 165, 21⟩) .nil) 0 ⟨165, 11, 165, 23⟩) ⟨165, 4, 165, 23⟩)
    .nil)))))
noncomputable def S_law_plain_row : Scope := {
              kind := PySem.ScopeKind.function,
              names := [
                (PySem.Str.ofString "_law_script", PySem.NameKind.local),
                (PySem.Str.ofString "_law_tape", PySem.NameKind.local),
                (PySem.Str.ofString "_law_some", PySem.NameKind.local),
                (PySem.Str.ofString "_law_word", PySem.NameKind.local),
                (PySem.Str.ofString "_law_draw", PySem.NameKind.globalImplicit),
                (PySem.Str.ofString "_law_value", PySem.NameKind.globalImplicit)],
              isGenerator := false,
              isCoroutine := false,
              more := [] : PySem.Scope }

noncomputable def N_law_stack : List Str := ["_law_script", "_law_tape", "_law_row", "_law_size", "_law_stack_here", "_law_k", "_law_kind"]
noncomputable def B_law_stack : ASs :=
    (.cons (.assign 3 ⟨167, 4, 167, 13⟩ (.call "_law_draw" (.cons (.var 0 ⟨167, 26, 167, 37⟩) (.cons (.var 1 ⟨167, 39, 167, 48⟩) (.cons (.lit (.int 5) 0 ⟨167, 50, 167, 51⟩) .nil))) ⟨167, 16, 167, 25⟩ ⟨167, 16, 167, 52⟩) ⟨167, 4, 167, 52⟩)
    (.cons (.ite (.cmp (.call "_law_draw" (.cons (.var 0 ⟨168, 17, 168, 28⟩) (.cons (.var 1 ⟨168, 30, 168, 39⟩) (.cons (.lit (.int 4) 0 ⟨168, 41, 168, 42⟩) .nil))) ⟨168, 7, 168, 16⟩ ⟨168, 7, 168, 43⟩) .Eq (.lit (.int 1) 0 ⟨168, 47, 168, 48⟩) ⟨168, 7, 168, 48⟩) (.cons (.assign 3 ⟨169, 8, 169, 17⟩ (.bin (.var 3 ⟨169, 20, 169, 29⟩) .Add (.lit (.int 57) 0 ⟨169, 32, 169, 34⟩) ⟨169, 20, 169, 34⟩) ⟨169, 8, 169, 34⟩)
    .nil) .nil ⟨168, 4, 169, 34⟩)
    (.cons (.assign 4 ⟨170, 4, 170, 19⟩ (.list .nil ⟨170, 22, 170, 24⟩) ⟨170, 4, 170, 24⟩)
    (.cons (.for 5 ⟨171, 8, 171, 14⟩ (.blt .range (.cons (.var 3 ⟨171, 24, 171, 33⟩) .nil) ⟨171, 18, 171, 23⟩ ⟨171, 18, 171, 34⟩) (.cons (.expr (.meth (.var 4 ⟨172, 8, 172, 23⟩) .append (.cons (.call "_law_value" (.cons (.var 0 ⟨172, 42, 172, 53⟩) (.cons (.var 1 ⟨172, 55, 172, 64⟩) (.cons (.sub (.list (.cons (.lit (.str "num") 0 ⟨172, 67, 172, 72⟩) (.cons (.lit (.str "text") 0 ⟨172, 74, 172, 80⟩) .nil)) ⟨172, 66, 172, 81⟩) (.call "_law_draw" (.cons (.var 0 ⟨172, 92, 172, 103⟩) (.cons (.var 1 ⟨172, 105, 172, 114⟩) (.cons (.lit (.int 2) 0 ⟨172, 116, 172, 117⟩) .nil))) ⟨172, 82, 172, 91⟩ ⟨172, 82, 172, 118⟩) ⟨172, 66, 172, 119⟩) .nil))) ⟨172, 31, 172, 41⟩ ⟨172, 31, 172, 120⟩) .nil) ⟨172, 8, 172, 30⟩ ⟨172, 8, 172, 121⟩) ⟨172, 8, 172, 121⟩)
    .nil) ⟨171, 4, 172, 121⟩)
    (.cons (.for 6 ⟨173, 8, 173, 17⟩ (.call "_law_wanted" (.cons (.var 2 ⟨173, 33, 173, 41⟩) .nil) ⟨173, 21, 173, 32⟩ ⟨173, 21, 173, 42⟩) (.cons (.ite (.cmp (.var 6 ⟨174, 11, 174, 20⟩) .Eq (.lit (.str "") 0 ⟨174, 24, 174, 26⟩) ⟨174, 11, 174, 26⟩) (.cons (.assign 6 ⟨175, 12, 175, 21⟩ (.sub (.list (.cons (.lit (.str "num") 0 ⟨175, 25, 175, 30⟩) (.cons (.lit (.str "text") 0 ⟨175, 32, 175, 38⟩) .nil)) ⟨175, 24, 175, 39⟩) (.call "_law_draw" (.cons (.var 0 ⟨175, 50, 175, 61⟩) (.cons (.var 1 ⟨175, 63, 175, 72⟩) (.cons (.lit (.int 2) 0 ⟨175, 74, 175, 75⟩) .nil))) ⟨175, 40, 175, 49⟩ ⟨175, 40, 175, 76⟩) ⟨175, 24, 175, 77⟩) ⟨175, 12, 175, 77⟩)
    .nil) (.cons (.ite (.cmp (.call "_law_draw" (.cons (.var 0 ⟨176, 23, 176, 34⟩) (.cons (.var 1 ⟨176, 36, 176, 45⟩) (.cons (.lit (.int 5) 0 ⟨176, 47, 176, 48⟩) .nil))) ⟨176, 13, 176, 22⟩ ⟨176, 13, 176, 49⟩) .Eq (.lit (.int 0) 0 ⟨176, 53, 176, 54⟩) ⟨176, 13, 176, 54⟩) (.cons (.assign 6 ⟨177, 12, 177, 21⟩ (.sub (.list (.cons (.lit (.str "num") 0 ⟨177, 25, 177, 30⟩) (.cons (.lit (.str "text") 0 ⟨177, 32, 177, 38⟩) .nil)) ⟨177, 24, 177, 39⟩) (.blt .int (.cons (.cmp (.var 6 ⟨177, 44, 177, 53⟩) .Eq (.lit (.str "num") 0 ⟨177, 57, 177, 62⟩) ⟨177, 44, 177, 62⟩) .nil) ⟨177, 40, 177, 43⟩ ⟨177, 40, 177, 63⟩) ⟨177, 24, 177, 64⟩) ⟨177, 12, 177, 64⟩)
    .nil) .nil ⟨176, 8, 177, 64⟩)
    .nil) ⟨174, 8, 177, 64⟩)
    (.cons (.expr (.meth (.var 4 ⟨178, 8, 178, 23⟩) .append (.cons (.call "_law_value" (.cons (.var 0 ⟨178, 42, 178, 53⟩) (.cons (.var 1 ⟨178, 55, 178, 64⟩) (.cons (.var 6 ⟨178, 66, 178, 75⟩) .nil))) ⟨178, 31, 178, 41⟩ ⟨178, 31, 178, 76⟩) .nil) ⟨178, 8, 178, 30⟩ ⟨178, 8, 178, 77⟩) ⟨178, 8, 178, 77⟩)
    .nil)) ⟨173, 4, 178, 77⟩)
    (.cons (.ite (.bop .And (.cons (.cmp (.blt .len (.cons (.var 4 ⟨179, 11, 179, 26⟩) .nil) ⟨179, 7, 179, 10⟩ ⟨179, 7, 179, 27⟩) .Gt (.lit (.int 1) 0 ⟨179, 30, 179, 31⟩) ⟨179, 7, 179, 31⟩) (.cons (.cmp (.call "_law_draw" (.cons (.var 0 ⟨179, 46, 179, 57⟩) (.cons (.var 1 ⟨179, 59, 179, 68⟩) (.cons (.lit (.int 4) 0 ⟨179, 70, 179, 71⟩) .nil))) ⟨179, 36, 179, 45⟩ ⟨179, 36, 179, 72⟩) .Eq (.lit (.int 0) 0 ⟨179, 76, 179, 77⟩) ⟨179, 36, 179, 77⟩) .nil)) ⟨179, 7, 179, 77⟩) (.cons (.store (.var 4 ⟨180, 8, 180, 23⟩) (.bin (.blt .len (.cons (.var 4 ⟨180, 28, 180, 43⟩) .nil) ⟨180, 24, 180, 27⟩ ⟨180, 24, 180, 44⟩) .Sub (.lit (.int 1) 0 ⟨180, 47, 180, 48⟩) ⟨180, 24, 180, 48⟩) ⟨180, 8, 180, 49⟩ (.sub (.var 4 ⟨180, 52, 180, 67⟩) (.bin (.blt .len (.cons (.var 4 ⟨180, 72, 180, 87⟩) .nil) ⟨180, 68, 180, 71⟩ ⟨180, 68, 180, 88⟩) .Sub (.lit (.int 2) 0 ⟨180, 91, 180, 92⟩) ⟨180, 68, 180, 92⟩) ⟨180, 52, 180, 93⟩) ⟨180, 8, 180, 93⟩)
    .nil) .nil ⟨179, 4, 180, 93⟩)
    (.cons (.ite (.cmp (.call "_law_draw" (.cons (.var 0 ⟨181, 17, 181, 28⟩) (.cons (.var 1 ⟨181, 30, 181, 39⟩) (.cons (.lit (.int 5) 0 ⟨181, 41, 181, 42⟩) .nil))) ⟨181, 7, 181, 16⟩ ⟨181, 7, 181, 43⟩) .Eq (.lit (.int 0) 0 ⟨181, 47, 181, 48⟩) ⟨181, 7, 181, 48⟩) (.cons (.assign 4 ⟨182, 8, 182, 23⟩ (.sfrom (.var 4 ⟨182, 26, 182, 41⟩) (.call "_law_draw" (.cons (.var 0 ⟨182, 52, 182, 63⟩) (.cons (.var 1 ⟨182, 65, 182, 74⟩) (.cons (.bin (.blt .len (.cons (.var 4 ⟨182, 80, 182, 95⟩) .nil) ⟨182, 76, 182, 79⟩ ⟨182, 76, 182, 96⟩) .Add (.lit (.int 1) 0 ⟨182, 99, 182, 100⟩) ⟨182, 76, 182, 100⟩) .nil))) ⟨182, 42, 182, 51⟩ ⟨182, 42, 182, 101⟩) ⟨182, 42, 182, 102⟩ ⟨182, 26, 182, 103⟩) ⟨182, 8, 182, 103⟩)
    .nil) .nil ⟨181, 4, 182, 103⟩)
    (.cons (.ret (.var 4 ⟨183, 11, 183, 26⟩) ⟨183, 4, 183, 26⟩)
    .nil))))))))
noncomputable def S_law_stack : Scope := {
              kind := PySem.ScopeKind.function,
              names := [
                (PySem.Str.ofString "_law_script", PySem.NameKind.local),
                (PySem.Str.ofString "_law_tape", PySem.NameKind.local),
                (PySem.Str.ofString "_law_row", PySem.NameKind.local),
                (PySem.Str.ofString "_law_size", PySem.NameKind.local),
                (PySem.Str.ofString "_law_stack_here", PySem.NameKind.local),
                (PySem.Str.ofString "_law_k", PySem.NameKind.local),
                (PySem.Str.ofString "_law_kind", PySem.NameKind.local),
                (PySem.Str.ofString "_law_draw", PySem.NameKind.globalImplicit),
                (PySem.Str.ofString "range", PySem.NameKind.globalImplicit),
                (PySem.Str.ofString "_law_value", PySem.NameKind.globalImplicit),
                (PySem.Str.ofString "_law_wanted", PySem.NameKind.globalImplicit),
                (PySem.Str.ofString "int", PySem.NameKind.globalImplicit),
                (PySem.Str.ofString "len", PySem.NameKind.globalImplicit)],
              isGenerator := false,
              isCoroutine := false,
              more := [] : PySem.Scope }

noncomputable def N_law_by_kinds : List Str := ["_law_kinds", "_law_row"]
noncomputable def B_law_by_kinds : ASs :=
    (.cons (.try (.cons (.ret (.call "behind" (.cons (.dict [] .nil ⟨186, 22, 186, 24⟩) (.cons (.var 0 ⟨186, 26, 186, 36⟩) (.cons (.var 1 ⟨186, 38, 186, 46⟩) .nil))) ⟨186, 15, 186, 21⟩ ⟨186, 15, 186, 47⟩) ⟨186, 8, 186, 47⟩)
    .nil) (.cons 1 "Empty" ⟨187, 11, 187, 16⟩ none (.cons (.ret (.lit (.str "empty") 0 ⟨188, 15, 188, 22⟩) ⟨188, 8, 188, 22⟩)
    .nil) ⟨187, 4, 188, 22⟩ (.cons 2 "WrongKind" ⟨189, 11, 189, 20⟩ none (.cons (.ret (.lit (.str "kind") 0 ⟨190, 15, 190, 21⟩) ⟨190, 8, 190, 21⟩)
    .nil) ⟨189, 4, 190, 21⟩ .nil)) ⟨185, 4, 190, 21⟩)
    .nil)
noncomputable def S_law_by_kinds : Scope := {
              kind := PySem.ScopeKind.function,
              names := [
                (PySem.Str.ofString "_law_kinds", PySem.NameKind.local),
                (PySem.Str.ofString "_law_row", PySem.NameKind.local),
                (PySem.Str.ofString "behind", PySem.NameKind.globalImplicit),
                (PySem.Str.ofString "Empty", PySem.NameKind.globalImplicit),
                (PySem.Str.ofString "WrongKind", PySem.NameKind.globalImplicit)],
              isGenerator := false,
              isCoroutine := false,
              more := [] : PySem.Scope }

noncomputable def N_law_by_values : List Str := ["_law_stack_here", "_law_row"]
noncomputable def B_law_by_values : ASs :=
    (.cons (.try (.cons (.ret (.call "done" (.cons (.var 0 ⟨193, 20, 193, 35⟩) (.cons (.var 1 ⟨193, 37, 193, 45⟩) .nil)) ⟨193, 15, 193, 19⟩ ⟨193, 15, 193, 46⟩) ⟨193, 8, 193, 46⟩)
    .nil) (.cons 1 "Empty" ⟨194, 11, 194, 16⟩ none (.cons (.ret (.lit (.str "empty") 0 ⟨195, 15, 195, 22⟩) ⟨195, 8, 195, 22⟩)
    .nil) ⟨194, 4, 195, 22⟩ (.cons 2 "WrongKind" ⟨196, 11, 196, 20⟩ none (.cons (.ret (.lit (.str "kind") 0 ⟨197, 15, 197, 21⟩) ⟨197, 8, 197, 21⟩)
    .nil) ⟨196, 4, 197, 21⟩ .nil)) ⟨192, 4, 197, 21⟩)
    .nil)
noncomputable def S_law_by_values : Scope := {
              kind := PySem.ScopeKind.function,
              names := [
                (PySem.Str.ofString "_law_stack_here", PySem.NameKind.local),
                (PySem.Str.ofString "_law_row", PySem.NameKind.local),
                (PySem.Str.ofString "done", PySem.NameKind.globalImplicit),
                (PySem.Str.ofString "Empty", PySem.NameKind.globalImplicit),
                (PySem.Str.ofString "WrongKind", PySem.NameKind.globalImplicit)],
              isGenerator := false,
              isCoroutine := false,
              more := [] : PySem.Scope }

noncomputable def N_law_tuple : List Str := ["_law_found", "_law_due", "_law_k"]
noncomputable def B_law_tuple : ASs :=
    (.cons (.ite (.bop .Or (.cons (.not (.isi (.var 0 ⟨199, 22, 199, 32⟩) .tuple ⟨199, 11, 199, 21⟩ ⟨199, 34, 199, 39⟩ default default ⟨199, 11, 199, 40⟩) ⟨199, 7, 199, 40⟩) (.cons (.cmp (.blt .len (.cons (.var 0 ⟨199, 48, 199, 58⟩) .nil) ⟨199, 44, 199, 47⟩ ⟨199, 44, 199, 59⟩) .NotEq (.blt .len (.cons (.var 1 ⟨199, 67, 199, 75⟩) .nil) ⟨199, 63, 199, 66⟩ ⟨199, 63, 199, 76⟩) ⟨199, 44, 199, 76⟩) .nil)) ⟨199, 7, 199, 76⟩) (.cons (.ret (.lit (.bool false) 0 ⟨200, 15, 200, 20⟩) ⟨200, 8, 200, 20⟩)
    .nil) .nil ⟨199, 4, 200, 20⟩)
    (.cons (.for 2 ⟨201, 8, 201, 14⟩ (.blt .range (.cons (.blt .len (.cons (.var 1 ⟨201, 28, 201, 36⟩) .nil) ⟨201, 24, 201, 27⟩ ⟨201, 24, 201, 37⟩) .nil) ⟨201, 18, 201, 23⟩ ⟨201, 18, 201, 38⟩) (.cons (.ite (.bop .Or (.cons (.not (.isi (.sub (.var 0 ⟨202, 26, 202, 36⟩) (.var 2 ⟨202, 37, 202, 43⟩) ⟨202, 26, 202, 44⟩) .str ⟨202, 15, 202, 25⟩ ⟨202, 46, 202, 49⟩ default default ⟨202, 15, 202, 50⟩) ⟨202, 11, 202, 50⟩) (.cons (.cmp (.sub (.var 0 ⟨202, 54, 202, 64⟩) (.var 2 ⟨202, 65, 202, 71⟩) ⟨202, 54, 202, 72⟩) .NotEq (.sub (.var 1 ⟨202, 76, 202, 84⟩) (.var 2 ⟨202, 85, 202, 91⟩) ⟨202, 76, 202, 92⟩) ⟨202, 54, 202, 92⟩) .nil)) ⟨202, 11, 202, 92⟩) (.cons (.ret (.lit (.bool false) 0 ⟨203, 19, 203, 24⟩) ⟨203, 12, 203, 24⟩)
    .nil) .nil ⟨202, 8, 203, 24⟩)
    .nil) ⟨201, 4, 203, 24⟩)
    (.cons (.ret (.lit (.bool true) 0 ⟨204, 11, 204, 15⟩) ⟨204, 4, 204, 15⟩)
    .nil)))
noncomputable def S_law_tuple : Scope := {
              kind := PySem.ScopeKind.function,
              names := [
                (PySem.Str.ofString "_law_found", PySem.NameKind.local),
                (PySem.Str.ofString "_law_due", PySem.NameKind.local),
                (PySem.Str.ofString "_law_k", PySem.NameKind.local),
                (PySem.Str.ofString "isinstance", PySem.NameKind.globalImplicit),
                (PySem.Str.ofString "tuple", PySem.NameKind.globalImplicit),
                (PySem.Str.ofString "len", PySem.NameKind.globalImplicit),
                (PySem.Str.ofString "range", PySem.NameKind.globalImplicit),
                (PySem.Str.ofString "str", PySem.NameKind.globalImplicit)],
              isGenerator := false,
              isCoroutine := false,
              more := [] : PySem.Scope }

noncomputable def N_law : List Str := ["_law_script", "_law_tape", "_law_row", "_law_stack_here", "_law_kinds", "_law_handed", "_law_word", "_law_found", "_law_made", "_law_due", "_law_value_here", "_law_value_here"]
noncomputable def B_law : ASs :=
    (.cons (.assign 1 ⟨206, 4, 206, 13⟩ (.tape ⟨206, 17, 206, 18⟩ ⟨206, 16, 206, 19⟩) ⟨206, 4, 206, 19⟩)
    (.cons (.assign 2 ⟨207, 4, 207, 12⟩ (.call "_law_plain_row" (.cons (.var 0 ⟨207, 30, 207, 41⟩) (.cons (.var 1 ⟨207, 43, 207, 52⟩) .nil)) ⟨207, 15, 207, 29⟩ ⟨207, 15, 207, 53⟩) ⟨207, 4, 207, 53⟩)
    (.cons (.assign 3 ⟨208, 4, 208, 19⟩ (.call "_law_stack" (.cons (.var 0 ⟨208, 33, 208, 44⟩) (.cons (.var 1 ⟨208, 46, 208, 55⟩) (.cons (.var 2 ⟨208, 57, 208, 65⟩) .nil))) ⟨208, 22, 208, 32⟩ ⟨208, 22, 208, 66⟩) ⟨208, 4, 208, 66⟩)
    (.cons (.assign 4 ⟨209, 4, 209, 14⟩ (.comp (.sub (.list (.cons (.lit (.str "num") 0 ⟨209, 19, 209, 24⟩) (.cons (.lit (.str "text") 0 ⟨209, 26, 209, 32⟩) .nil)) ⟨209, 18, 209, 33⟩) (.blt .int (.cons (.isi (.var 11 ⟨209, 49, 209, 64⟩) .str ⟨209, 38, 209, 48⟩ ⟨209, 66, 209, 69⟩ default default ⟨209, 38, 209, 70⟩) .nil) ⟨209, 34, 209, 37⟩ ⟨209, 34, 209, 71⟩) ⟨209, 18, 209, 72⟩) 11 ⟨209, 77, 209, 92⟩ (.var 3 ⟨209, 96, 209, 111⟩) .nil {                     kind := PySem.ScopeKind.function,                     names := [                       (PySem.Str.ofString ".0", PySem.NameKind.local),                       (PySem.Str.ofString "_law_value_here", PySem.NameKind.local),                       (PySem.Str.ofString "int", PySem.NameKind.globalImplicit),                       (PySem.Str.ofString "isinstance", PySem.NameKind.globalImplicit),                       (PySem.Str.ofString "str", PySem.NameKind.globalImplicit)],                     isGenerator := false,                     isCoroutine := false,                     more := [] : PySem.Scope } ⟨209, 17, 209, 112⟩) ⟨209, 4, 209, 112⟩)
    (.cons (.assign 5 ⟨210, 4, 210, 15⟩ (.blt .list (.cons (.var 3 ⟨210, 23, 210, 38⟩) .nil) ⟨210, 18, 210, 22⟩ ⟨210, 18, 210, 39⟩) ⟨210, 4, 210, 39⟩)
    (.cons (.ite (.bop .Or (.cons (.not (.call "_law_tuple" (.cons (.call "kinds_of" (.cons (.var 5 ⟨211, 31, 211, 42⟩) .nil) ⟨211, 22, 211, 30⟩ ⟨211, 22, 211, 43⟩) (.cons (.var 4 ⟨211, 45, 211, 55⟩) .nil)) ⟨211, 11, 211, 21⟩ ⟨211, 11, 211, 56⟩) ⟨211, 7, 211, 56⟩) (.cons (.cmp (.var 5 ⟨211, 60, 211, 71⟩) .NotEq (.var 3 ⟨211, 75, 211, 90⟩) ⟨211, 60, 211, 90⟩) .nil)) ⟨211, 7, 211, 90⟩) (.cons (.ret (.lit (.bool false) 0 ⟨212, 15, 212, 20⟩) ⟨212, 8, 212, 20⟩)
    .nil) .nil ⟨211, 4, 212, 20⟩)
    (.cons (.assign 6 ⟨213, 4, 213, 13⟩ (.call "_law_lack" (.cons (.var 4 ⟨213, 26, 213, 36⟩) (.cons (.call "_law_wanted" (.cons (.var 2 ⟨213, 50, 213, 58⟩) .nil) ⟨213, 38, 213, 49⟩ ⟨213, 38, 213, 59⟩) .nil)) ⟨213, 16, 213, 25⟩ ⟨213, 16, 213, 60⟩) ⟨213, 4, 213, 60⟩)
    (.cons (.assign 7 ⟨214, 4, 214, 14⟩ (.call "_law_by_kinds" (.cons (.blt .tuple (.cons (.var 4 ⟨214, 37, 214, 47⟩) .nil) ⟨214, 31, 214, 36⟩ ⟨214, 31, 214, 48⟩) (.cons (.var 2 ⟨214, 50, 214, 58⟩) .nil)) ⟨214, 17, 214, 30⟩ ⟨214, 17, 214, 59⟩) ⟨214, 4, 214, 59⟩)
    (.cons (.assign 8 ⟨215, 4, 215, 13⟩ (.call "_law_by_values" (.cons (.blt .list (.cons (.var 3 ⟨215, 36, 215, 51⟩) .nil) ⟨215, 31, 215, 35⟩ ⟨215, 31, 215, 52⟩) (.cons (.var 2 ⟨215, 54, 215, 62⟩) .nil)) ⟨215, 16, 215, 30⟩ ⟨215, 16, 215, 63⟩) ⟨215, 4, 215, 63⟩)
    (.cons (.ite (.cmp (.var 6 ⟨216, 7, 216, 16⟩) .NotEq (.lit (.str "") 0 ⟨216, 20, 216, 22⟩) ⟨216, 7, 216, 22⟩) (.cons (.ret (.bop .And (.cons (.isi (.var 7 ⟨217, 26, 217, 36⟩) .str ⟨217, 15, 217, 25⟩ ⟨217, 38, 217, 41⟩ default default ⟨217, 15, 217, 42⟩) (.cons (.cmp (.var 7 ⟨217, 47, 217, 57⟩) .Eq (.var 6 ⟨217, 61, 217, 70⟩) ⟨217, 47, 217, 70⟩) (.cons (.cmp (.var 8 ⟨217, 76, 217, 85⟩) .Eq (.var 6 ⟨217, 89, 217, 98⟩) ⟨217, 76, 217, 98⟩) .nil))) ⟨217, 15, 217, 99⟩) ⟨217, 8, 217, 99⟩)
    .nil) .nil ⟨216, 4, 217, 99⟩)
    (.cons (.assign 9 ⟨218, 4, 218, 12⟩ (.call "_law_plainly" (.cons (.var 4 ⟨218, 28, 218, 38⟩) (.cons (.var 2 ⟨218, 40, 218, 48⟩) .nil)) ⟨218, 15, 218, 27⟩ ⟨218, 15, 218, 49⟩) ⟨218, 4, 218, 49⟩)
    (.cons (.ite (.bop .Or (.cons (.not (.call "_law_tuple" (.cons (.var 7 ⟨219, 22, 219, 32⟩) (.cons (.var 9 ⟨219, 34, 219, 42⟩) .nil)) ⟨219, 11, 219, 21⟩ ⟨219, 11, 219, 43⟩) ⟨219, 7, 219, 43⟩) (.cons (.not (.isi (.var 8 ⟨219, 62, 219, 71⟩) .list ⟨219, 51, 219, 61⟩ ⟨219, 73, 219, 77⟩ default default ⟨219, 51, 219, 78⟩) ⟨219, 47, 219, 78⟩) .nil)) ⟨219, 7, 219, 78⟩) (.cons (.ret (.lit (.bool false) 0 ⟨220, 15, 220, 20⟩) ⟨220, 8, 220, 20⟩)
    .nil) .nil ⟨219, 4, 220, 20⟩)
    (.cons (.ret (.cmp (.comp (.sub (.list (.cons (.lit (.str "num") 0 ⟨221, 13, 221, 18⟩) (.cons (.lit (.str "text") 0 ⟨221, 20, 221, 26⟩) .nil)) ⟨221, 12, 221, 27⟩) (.blt .int (.cons (.isi (.var 10 ⟨221, 43, 221, 58⟩) .str ⟨221, 32, 221, 42⟩ ⟨221, 60, 221, 63⟩ default default ⟨221, 32, 221, 64⟩) .nil) ⟨221, 28, 221, 31⟩ ⟨221, 28, 221, 65⟩) ⟨221, 12, 221, 66⟩) 10 ⟨221, 71, 221, 86⟩ (.var 8 ⟨221, 90, 221, 99⟩) .nil {                         kind := PySem.ScopeKind.function,                         names := [                           (PySem.Str.ofString ".0", PySem.NameKind.local),                           (PySem.Str.ofString "_law_value_here", PySem.NameKind.local),                           (PySem.Str.ofString "int", PySem.NameKind.globalImplicit),                           (PySem.Str.ofString "isinstance", PySem.NameKind.globalImplicit),                           (PySem.Str.ofString "str", PySem.NameKind.globalImplicit)],                         isGenerator := false,                         isCoroutine := false,                         more := [] : PySem.Scope } ⟨221, 11, 221, 100⟩) .Eq (.var 9 ⟨221, 104, 221, 112⟩) ⟨221, 11, 221, 112⟩) ⟨221, 4, 221, 112⟩)
    .nil)))))))))))))
noncomputable def S_law : Scope := {
              kind := PySem.ScopeKind.function,
              names := [
                (PySem.Str.ofString "_law_script", PySem.NameKind.local),
                (PySem.Str.ofString "_law_tape", PySem.NameKind.local),
                (PySem.Str.ofString "_law_row", PySem.NameKind.local),
                (PySem.Str.ofString "_law_stack_here", PySem.NameKind.local),
                (PySem.Str.ofString "_law_kinds", PySem.NameKind.local),
                (PySem.Str.ofString "_law_handed", PySem.NameKind.local),
                (PySem.Str.ofString "_law_word", PySem.NameKind.local),
                (PySem.Str.ofString "_law_found", PySem.NameKind.local),
                (PySem.Str.ofString "_law_made", PySem.NameKind.local),
                (PySem.Str.ofString "_law_due", PySem.NameKind.local),
                (PySem.Str.ofString "_law_plain_row", PySem.NameKind.globalImplicit),
                (PySem.Str.ofString "_law_stack", PySem.NameKind.globalImplicit),
                (PySem.Str.ofString "list", PySem.NameKind.globalImplicit),
                (PySem.Str.ofString "_law_tuple", PySem.NameKind.globalImplicit),
                (PySem.Str.ofString "kinds_of", PySem.NameKind.globalImplicit),
                (PySem.Str.ofString "_law_lack", PySem.NameKind.globalImplicit),
                (PySem.Str.ofString "_law_wanted", PySem.NameKind.globalImplicit),
                (PySem.Str.ofString "_law_by_kinds", PySem.NameKind.globalImplicit),
                (PySem.Str.ofString "tuple", PySem.NameKind.globalImplicit),
                (PySem.Str.ofString "_law_by_values", PySem.NameKind.globalImplicit),
                (PySem.Str.ofString "isinstance", PySem.NameKind.globalImplicit),
                (PySem.Str.ofString "str", PySem.NameKind.globalImplicit),
                (PySem.Str.ofString "_law_plainly", PySem.NameKind.globalImplicit)],
              isGenerator := false,
              isCoroutine := false,
              more := [
                (PySem.Str.ofString "fast", (PySem.Const.str "_law_script")),
                (PySem.Str.ofString "fast", (PySem.Const.str "_law_tape")),
                (PySem.Str.ofString "fast", (PySem.Const.str "_law_row")),
                (PySem.Str.ofString "fast", (PySem.Const.str "_law_stack_here")),
                (PySem.Str.ofString "fast", (PySem.Const.str "_law_value_here")),
                (PySem.Str.ofString "fast", (PySem.Const.str "_law_kinds")),
                (PySem.Str.ofString "fast", (PySem.Const.str "_law_handed")),
                (PySem.Str.ofString "fast", (PySem.Const.str "_law_word")),
                (PySem.Str.ofString "fast", (PySem.Const.str "_law_found")),
                (PySem.Str.ofString "fast", (PySem.Const.str "_law_made")),
                (PySem.Str.ofString "fast", (PySem.Const.str "_law_due"))] : PySem.Scope }

end Mine
end
section
open PySem PySem.W PySem.Calls PyProof.Rows
namespace Mine
set_option autoImplicit false
set_option maxRecDepth 100000
theorem R_taken : ∃ d ∈ recsOf _root_.Mine.hd.view_39, d.name = "taken" ∧ d.body = B_taken.toSs N_taken ∧ d.scope = S_taken ∧ ∀ (pm code doc : Value) (vals : List Value), vals.length = 2 → bindArgs (docDef d.name d.params d.body d.scope pm code doc) ⟨vals, []⟩ = pure ((N_taken.take 2).zip vals) := by
  refine ⟨(recsOf _root_.Mine.hd.view_39)[0]'(by decide +kernel), List.getElem_mem _, by kernel_rfl, by kernel_rfl, by kernel_rfl, fun pm code doc vals h => ?_⟩
  match vals, h with
  | [v0, v1], _ => kernel_rfl

theorem R_block_of : ∃ d ∈ recsOf _root_.Mine.hd.view_39, d.name = "block_of" ∧ d.body = B_block_of.toSs N_block_of ∧ d.scope = S_block_of ∧ ∀ (pm code doc : Value) (vals : List Value), vals.length = 2 → bindArgs (docDef d.name d.params d.body d.scope pm code doc) ⟨vals, []⟩ = pure ((N_block_of.take 2).zip vals) := by
  refine ⟨(recsOf _root_.Mine.hd.view_39)[1]'(by decide +kernel), List.getElem_mem _, by kernel_rfl, by kernel_rfl, by kernel_rfl, fun pm code doc vals h => ?_⟩
  match vals, h with
  | [v0, v1], _ => kernel_rfl

theorem R_called : ∃ d ∈ recsOf _root_.Mine.hd.view_39, d.name = "called" ∧ d.body = B_called.toSs N_called ∧ d.scope = S_called ∧ ∀ (pm code doc : Value) (vals : List Value), vals.length = 3 → bindArgs (docDef d.name d.params d.body d.scope pm code doc) ⟨vals, []⟩ = pure ((N_called.take 3).zip vals) := by
  refine ⟨(recsOf _root_.Mine.hd.view_39)[2]'(by decide +kernel), List.getElem_mem _, by kernel_rfl, by kernel_rfl, by kernel_rfl, fun pm code doc vals h => ?_⟩
  match vals, h with
  | [v0, v1, v2], _ => kernel_rfl

theorem R_moved : ∃ d ∈ recsOf _root_.Mine.hd.view_39, d.name = "moved" ∧ d.body = B_moved.toSs N_moved ∧ d.scope = S_moved ∧ ∀ (pm code doc : Value) (vals : List Value), vals.length = 2 → bindArgs (docDef d.name d.params d.body d.scope pm code doc) ⟨vals, []⟩ = pure ((N_moved.take 2).zip vals) := by
  refine ⟨(recsOf _root_.Mine.hd.view_39)[3]'(by decide +kernel), List.getElem_mem _, by kernel_rfl, by kernel_rfl, by kernel_rfl, fun pm code doc vals h => ?_⟩
  match vals, h with
  | [v0, v1], _ => kernel_rfl

theorem R_behind : ∃ d ∈ recsOf _root_.Mine.hd.view_39, d.name = "behind" ∧ d.body = B_behind.toSs N_behind ∧ d.scope = S_behind ∧ ∀ (pm code doc : Value) (vals : List Value), vals.length = 3 → bindArgs (docDef d.name d.params d.body d.scope pm code doc) ⟨vals, []⟩ = pure ((N_behind.take 3).zip vals) := by
  refine ⟨(recsOf _root_.Mine.hd.view_39)[4]'(by decide +kernel), List.getElem_mem _, by kernel_rfl, by kernel_rfl, by kernel_rfl, fun pm code doc vals h => ?_⟩
  match vals, h with
  | [v0, v1, v2], _ => kernel_rfl

theorem R_kinds_of : ∃ d ∈ recsOf _root_.Mine.hd.view_39, d.name = "kinds_of" ∧ d.body = B_kinds_of.toSs N_kinds_of ∧ d.scope = S_kinds_of ∧ ∀ (pm code doc : Value) (vals : List Value), vals.length = 1 → bindArgs (docDef d.name d.params d.body d.scope pm code doc) ⟨vals, []⟩ = pure ((N_kinds_of.take 1).zip vals) := by
  refine ⟨(recsOf _root_.Mine.hd.view_39)[5]'(by decide +kernel), List.getElem_mem _, by kernel_rfl, by kernel_rfl, by kernel_rfl, fun pm code doc vals h => ?_⟩
  match vals, h with
  | [v0], _ => kernel_rfl

theorem R_need : ∃ d ∈ recsOf _root_.Mine.hd.view_39, d.name = "need" ∧ d.body = B_need.toSs N_need ∧ d.scope = S_need ∧ ∀ (pm code doc : Value) (vals : List Value), vals.length = 2 → bindArgs (docDef d.name d.params d.body d.scope pm code doc) ⟨vals, []⟩ = pure ((N_need.take 2).zip vals) := by
  refine ⟨(recsOf _root_.Mine.hd.view_39)[6]'(by decide +kernel), List.getElem_mem _, by kernel_rfl, by kernel_rfl, by kernel_rfl, fun pm code doc vals h => ?_⟩
  match vals, h with
  | [v0, v1], _ => kernel_rfl

theorem R_reckoned : ∃ d ∈ recsOf _root_.Mine.hd.view_39, d.name = "reckoned" ∧ d.body = B_reckoned.toSs N_reckoned ∧ d.scope = S_reckoned ∧ ∀ (pm code doc : Value) (vals : List Value), vals.length = 2 → bindArgs (docDef d.name d.params d.body d.scope pm code doc) ⟨vals, []⟩ = pure ((N_reckoned.take 2).zip vals) := by
  refine ⟨(recsOf _root_.Mine.hd.view_39)[7]'(by decide +kernel), List.getElem_mem _, by kernel_rfl, by kernel_rfl, by kernel_rfl, fun pm code doc vals h => ?_⟩
  match vals, h with
  | [v0, v1], _ => kernel_rfl

theorem R_done : ∃ d ∈ recsOf _root_.Mine.hd.view_39, d.name = "done" ∧ d.body = B_done.toSs N_done ∧ d.scope = S_done ∧ ∀ (pm code doc : Value) (vals : List Value), vals.length = 2 → bindArgs (docDef d.name d.params d.body d.scope pm code doc) ⟨vals, []⟩ = pure ((N_done.take 2).zip vals) := by
  refine ⟨(recsOf _root_.Mine.hd.view_39)[8]'(by decide +kernel), List.getElem_mem _, by kernel_rfl, by kernel_rfl, by kernel_rfl, fun pm code doc vals h => ?_⟩
  match vals, h with
  | [v0, v1], _ => kernel_rfl

theorem R_law_draw : ∃ d ∈ recsOf _root_.Mine.hd.view_39, d.name = "_law_draw" ∧ d.body = B_law_draw.toSs N_law_draw ∧ d.scope = S_law_draw ∧ ∀ (pm code doc : Value) (vals : List Value), vals.length = 3 → bindArgs (docDef d.name d.params d.body d.scope pm code doc) ⟨vals, []⟩ = pure ((N_law_draw.take 3).zip vals) := by
  refine ⟨(recsOf _root_.Mine.hd.view_39)[9]'(by decide +kernel), List.getElem_mem _, by kernel_rfl, by kernel_rfl, by kernel_rfl, fun pm code doc vals h => ?_⟩
  match vals, h with
  | [v0, v1, v2], _ => kernel_rfl

theorem R_law_words : ∃ d ∈ recsOf _root_.Mine.hd.view_39, d.name = "_law_words" ∧ d.body = B_law_words.toSs N_law_words ∧ d.scope = S_law_words ∧ ∀ (pm code doc : Value) (vals : List Value), vals.length = 2 → bindArgs (docDef d.name d.params d.body d.scope pm code doc) ⟨vals, []⟩ = pure ((N_law_words.take 2).zip vals) := by
  refine ⟨(recsOf _root_.Mine.hd.view_39)[10]'(by decide +kernel), List.getElem_mem _, by kernel_rfl, by kernel_rfl, by kernel_rfl, fun pm code doc vals h => ?_⟩
  match vals, h with
  | [v0, v1], _ => kernel_rfl

theorem R_law_value : ∃ d ∈ recsOf _root_.Mine.hd.view_39, d.name = "_law_value" ∧ d.body = B_law_value.toSs N_law_value ∧ d.scope = S_law_value ∧ ∀ (pm code doc : Value) (vals : List Value), vals.length = 3 → bindArgs (docDef d.name d.params d.body d.scope pm code doc) ⟨vals, []⟩ = pure ((N_law_value.take 3).zip vals) := by
  refine ⟨(recsOf _root_.Mine.hd.view_39)[11]'(by decide +kernel), List.getElem_mem _, by kernel_rfl, by kernel_rfl, by kernel_rfl, fun pm code doc vals h => ?_⟩
  match vals, h with
  | [v0, v1, v2], _ => kernel_rfl

theorem R_law_wanted : ∃ d ∈ recsOf _root_.Mine.hd.view_39, d.name = "_law_wanted" ∧ d.body = B_law_wanted.toSs N_law_wanted ∧ d.scope = S_law_wanted ∧ ∀ (pm code doc : Value) (vals : List Value), vals.length = 1 → bindArgs (docDef d.name d.params d.body d.scope pm code doc) ⟨vals, []⟩ = pure ((N_law_wanted.take 1).zip vals) := by
  refine ⟨(recsOf _root_.Mine.hd.view_39)[12]'(by decide +kernel), List.getElem_mem _, by kernel_rfl, by kernel_rfl, by kernel_rfl, fun pm code doc vals h => ?_⟩
  match vals, h with
  | [v0], _ => kernel_rfl

theorem R_law_lack : ∃ d ∈ recsOf _root_.Mine.hd.view_39, d.name = "_law_lack" ∧ d.body = B_law_lack.toSs N_law_lack ∧ d.scope = S_law_lack ∧ ∀ (pm code doc : Value) (vals : List Value), vals.length = 2 → bindArgs (docDef d.name d.params d.body d.scope pm code doc) ⟨vals, []⟩ = pure ((N_law_lack.take 2).zip vals) := by
  refine ⟨(recsOf _root_.Mine.hd.view_39)[13]'(by decide +kernel), List.getElem_mem _, by kernel_rfl, by kernel_rfl, by kernel_rfl, fun pm code doc vals h => ?_⟩
  match vals, h with
  | [v0, v1], _ => kernel_rfl

theorem R_law_plainly : ∃ d ∈ recsOf _root_.Mine.hd.view_39, d.name = "_law_plainly" ∧ d.body = B_law_plainly.toSs N_law_plainly ∧ d.scope = S_law_plainly ∧ ∀ (pm code doc : Value) (vals : List Value), vals.length = 2 → bindArgs (docDef d.name d.params d.body d.scope pm code doc) ⟨vals, []⟩ = pure ((N_law_plainly.take 2).zip vals) := by
  refine ⟨(recsOf _root_.Mine.hd.view_39)[14]'(by decide +kernel), List.getElem_mem _, by kernel_rfl, by kernel_rfl, by kernel_rfl, fun pm code doc vals h => ?_⟩
  match vals, h with
  | [v0, v1], _ => kernel_rfl

theorem R_law_plain_row : ∃ d ∈ recsOf _root_.Mine.hd.view_39, d.name = "_law_plain_row" ∧ d.body = B_law_plain_row.toSs N_law_plain_row ∧ d.scope = S_law_plain_row ∧ ∀ (pm code doc : Value) (vals : List Value), vals.length = 2 → bindArgs (docDef d.name d.params d.body d.scope pm code doc) ⟨vals, []⟩ = pure ((N_law_plain_row.take 2).zip vals) := by
  refine ⟨(recsOf _root_.Mine.hd.view_39)[15]'(by decide +kernel), List.getElem_mem _, by kernel_rfl, by kernel_rfl, by kernel_rfl, fun pm code doc vals h => ?_⟩
  match vals, h with
  | [v0, v1], _ => kernel_rfl

theorem R_law_stack : ∃ d ∈ recsOf _root_.Mine.hd.view_39, d.name = "_law_stack" ∧ d.body = B_law_stack.toSs N_law_stack ∧ d.scope = S_law_stack ∧ ∀ (pm code doc : Value) (vals : List Value), vals.length = 3 → bindArgs (docDef d.name d.params d.body d.scope pm code doc) ⟨vals, []⟩ = pure ((N_law_stack.take 3).zip vals) := by
  refine ⟨(recsOf _root_.Mine.hd.view_39)[16]'(by decide +kernel), List.getElem_mem _, by kernel_rfl, by kernel_rfl, by kernel_rfl, fun pm code doc vals h => ?_⟩
  match vals, h with
  | [v0, v1, v2], _ => kernel_rfl

theorem R_law_by_kinds : ∃ d ∈ recsOf _root_.Mine.hd.view_39, d.name = "_law_by_kinds" ∧ d.body = B_law_by_kinds.toSs N_law_by_kinds ∧ d.scope = S_law_by_kinds ∧ ∀ (pm code doc : Value) (vals : List Value), vals.length = 2 → bindArgs (docDef d.name d.params d.body d.scope pm code doc) ⟨vals, []⟩ = pure ((N_law_by_kinds.take 2).zip vals) := by
  refine ⟨(recsOf _root_.Mine.hd.view_39)[17]'(by decide +kernel), List.getElem_mem _, by kernel_rfl, by kernel_rfl, by kernel_rfl, fun pm code doc vals h => ?_⟩
  match vals, h with
  | [v0, v1], _ => kernel_rfl

theorem R_law_by_values : ∃ d ∈ recsOf _root_.Mine.hd.view_39, d.name = "_law_by_values" ∧ d.body = B_law_by_values.toSs N_law_by_values ∧ d.scope = S_law_by_values ∧ ∀ (pm code doc : Value) (vals : List Value), vals.length = 2 → bindArgs (docDef d.name d.params d.body d.scope pm code doc) ⟨vals, []⟩ = pure ((N_law_by_values.take 2).zip vals) := by
  refine ⟨(recsOf _root_.Mine.hd.view_39)[18]'(by decide +kernel), List.getElem_mem _, by kernel_rfl, by kernel_rfl, by kernel_rfl, fun pm code doc vals h => ?_⟩
  match vals, h with
  | [v0, v1], _ => kernel_rfl

theorem R_law_tuple : ∃ d ∈ recsOf _root_.Mine.hd.view_39, d.name = "_law_tuple" ∧ d.body = B_law_tuple.toSs N_law_tuple ∧ d.scope = S_law_tuple ∧ ∀ (pm code doc : Value) (vals : List Value), vals.length = 2 → bindArgs (docDef d.name d.params d.body d.scope pm code doc) ⟨vals, []⟩ = pure ((N_law_tuple.take 2).zip vals) := by
  refine ⟨(recsOf _root_.Mine.hd.view_39)[19]'(by decide +kernel), List.getElem_mem _, by kernel_rfl, by kernel_rfl, by kernel_rfl, fun pm code doc vals h => ?_⟩
  match vals, h with
  | [v0, v1], _ => kernel_rfl

theorem R_law : ∃ d ∈ recsOf _root_.Mine.hd.view_39, d.name = "law" ∧ d.body = B_law.toSs N_law ∧ d.scope = S_law ∧ ∀ (pm code doc : Value) (vals : List Value), vals.length = 1 → bindArgs (docDef d.name d.params d.body d.scope pm code doc) ⟨vals, []⟩ = pure ((N_law.take 1).zip vals) := by
  refine ⟨(recsOf _root_.Mine.hd.view_39)[20]'(by decide +kernel), List.getElem_mem _, by kernel_rfl, by kernel_rfl, by kernel_rfl, fun pm code doc vals h => ?_⟩
  match vals, h with
  | [v0], _ => kernel_rfl

end Mine
end
section
open PySem PySem.W PySem.Calls PyProof.Rows
namespace Mine
set_option autoImplicit false
set_option maxRecDepth 100000
noncomputable def P0 : Params := { strHash := fun _ => 0, shareClass := fun _ => 0, mergeTok := id, idOf := fun _ => 0, idOfShared := fun _ _ => 0, followText := fun _ => false, idOfImm := fun _ => 0 }
noncomputable def csL : List Addr := onms.map fun p => refAt (_root_.Mine.hd.heap_39 P0) p.1
theorem k1 (P : Params) : ((_root_.Mine.hd.heap_39 P).lookup mainGlobals).isSome = true := by kernel_rfl
theorem k3 (P : Params) : excChk (_root_.Mine.hd.heap_39 P) csL = true := by kernel_rfl
theorem k4 (P : Params) : ownChk (_root_.Mine.hd.heap_39 P) csL = true := by kernel_rfl
theorem k5 (P : Params) : bltChk (_root_.Mine.hd.heap_39 P) = true := by kernel_rfl
theorem k6 : ownsChk _root_.Mine.hd.view_39 = true := by kernel_rfl
end Mine
end
section
open PySem PySem.W PySem.Calls PyProof.Rows
namespace Mine
set_option autoImplicit false

abbrev Sp := List PV → AHeap → Post → XPost → Prop

/-! what the law's rows and values are -/
inductive W where
  | num (i : Int) | text (s : Str) | add | mul | less | join | long | show | swap | drop | copy (n : Nat)
noncomputable def W.row : W → List PV
  | .num i => [.str "num", .int i] | .text s => [.str "text", .str s] | .add => [.str "add"] | .mul => [.str "mul"] | .less => [.str "less"] | .join => [.str "join"] | .long => [.str "long"]
  | .show => [.str "show"] | .swap => [.str "swap"] | .drop => [.str "drop"] | .copy n => [.str "copy", .int n]
noncomputable def W.ok : W → Prop
  | .num i => 0 ≤ i ∧ i < 1000000000 | .text s => s.length ≤ 60 | .copy n => n ≤ 60 | _ => True
noncomputable def Okv (v : PV) : Prop := (∃ i, v = .int i ∧ 0 ≤ i ∧ i < 1000000000) ∨ ∃ s, v = .str s ∧ s.length ≤ 60
noncomputable def kindS : PV → Str
  | .str _ => "text"
  | _ => "num"
noncomputable def wantedS : W → List Str
  | .copy n => List.replicate (n + 1) "" | .add => ["num", "num"] | .mul => ["num", "num"] | .less => ["num", "num"] | .join => ["text", "text"] | .swap => ["", ""] | .long => ["text"] | .show => ["num"] | .drop => [""] | _ => []
noncomputable def lackS (kinds wanted : List Str) : Str :=
  if kinds.length < wanted.length then "empty" else if (wanted.zip (kinds.drop (kinds.length - wanted.length))).any (fun p => !(p.1 == ("" : Str)) && !(p.1 == p.2)) then "kind" else ""
noncomputable def cut60 (s : Str) : Str := ⟨(s.cps.toList.take (cutAt s.length 60)).toArray⟩
/-- what a row of two or one makes -/
noncomputable def calc2 : W → PV → PV → Option PV
  | .add, .int a, .int b => some (.int ((a + b) % 1000000000))
  | .mul, .int a, .int b => some (.int (a * b % 1000000000))
  | .less, .int a, .int b => some (.int (if a < b then 1 else 0))
  | .join, .str a, .str b => some (.str (cut60 (a ++ b)))
  | _, _, _ => none
noncomputable def calc1 : W → PV → Option PV
  | .long, .str a => some (.int a.length)
  | .show, .int a => some (.str (Str.ofString (toString a)))
  | _, _ => none
noncomputable def resS (st : List PV) (w : W) : Except Nat (List PV) :=
  match w with
  | .num i => .ok (st ++ [.int i])
  | .text s => .ok (st ++ [.str s])
  | .copy n => (match st.reverse[n]? with | some v => .ok (st ++ [v]) | none => .error 1)
  | .swap => (match st.reverse with | b :: a :: r => .ok (r.reverse ++ [b, a]) | _ => .error 1)
  | .drop => (match st.reverse with | _ :: r => .ok r.reverse | _ => .error 1)
  | .long => (match st.reverse with | a :: r => (match calc1 .long a with | some v => .ok (r.reverse ++ [v]) | none => .error 2) | _ => .error 1)
  | .show => (match st.reverse with | a :: r => (match calc1 .show a with | some v => .ok (r.reverse ++ [v]) | none => .error 2) | _ => .error 1)
  | w => (match st.reverse with | b :: a :: r => (match calc2 w a b with | some v => .ok (r.reverse ++ [v]) | none => .error 2) | _ => .error 1)

inductive spDraw (ps : List PV) (H : AHeap) (Q : Post) (_ : XPost) : Prop
  | mk (xs) (t) (k) (n) (a0 : ps = [.fls xs, .obj t, .int k]) (a1 : xs.length ≤ 100) (a2 : H t = some (.tape n)) (a3 : n < 2 ^ 59) (a4 : 0 < k) (a5 : ∀ r H', 0 ≤ r → r < k → H' t = some (.tape (n + 1)) → ExtB t H H' → Q (.int r) H')

inductive spWords (ps : List PV) (H : AHeap) (Q : Post) (_ : XPost) : Prop
  | mk (c) (n) (a0 : ps = [.int c, .int n]) (a1 : 0 ≤ n) (a2 : n ≤ 100) (a3 : ∀ s H', s.length = n.toNat → Ext H H' → Q (.str s) H')
inductive spValue (ps : List PV) (H : AHeap) (Q : Post) (_ : XPost) : Prop
  | mk (xs : List Int) (t : Addr) (kd : Str) (n : Nat) (a0 : ps = [.fls xs, .obj t, .str kd]) (a1 : xs.length ≤ 100) (a2 : H t = some (.tape n)) (a3 : n < 2 ^ 58) (a4 : ∀ v H', Okv v → kindS v = (if kd == "text" then "text" else "num") → H' t = some (.tape (n + 2)) → ExtB t H H' → Q v H')
inductive spWanted (ps : List PV) (H : AHeap) (Q : Post) (_ : XPost) : Prop
  | mk (w : W) (a0 : ps = [.tup w.row]) (a1 : w.ok) (a2 : ∀ c H', H c = none → H' c = some (.list ((wantedS w).map .str)) → Ext H H' → Q (.obj c) H')
inductive spLack (ps : List PV) (H : AHeap) (Q : Post) (_ : XPost) : Prop
  | mk (a b : Addr) (ks ws : List Str) (a0 : ps = [.obj a, .obj b]) (a1 : H a = some (.list (ks.map .str))) (a2 : H b = some (.list (ws.map .str))) (a3 : ks.length ≤ 1000) (a4 : ws.length ≤ 1000) (a5 : Q (.str (lackS ks ws)) H)
inductive spPlain (ps : List PV) (H : AHeap) (Q : Post) (_ : XPost) : Prop
  | mk (xs) (t) (n) (a0 : ps = [.fls xs, .obj t]) (a1 : xs.length ≤ 100) (a2 : H t = some (.tape n)) (a3 : n < 2 ^ 57) (a4 : ∀ (w : W) n' H', w.ok → n' ≤ n + 3 → H' t = some (.tape n') → ExtB t H H' → Q (.tup w.row) H')
inductive spNeed (ps : List PV) (H : AHeap) (Q : Post) (X : XPost) : Prop
  | mk (a) (st) (k) (a0 : ps = [.obj a, .int k]) (a1 : H a = some (.list st)) (a2 : (if (st.length : Int) < k then X 1 H else Q .none H))
inductive spKinds (ps : List PV) (H : AHeap) (Q : Post) (_ : XPost) : Prop
  | mk (a) (st) (a0 : ps = [.obj a]) (a1 : H a = some (.list st)) (a2 : (∀ v ∈ st, Okv v)) (a3 : st.length ≤ 1000) (a4 : ∀ H', Ext H H' → Q (.tup (st.map fun v => .str (kindS v))) H')
noncomputable def wd : W → Str
  | .num _ => "num" | .text _ => "text" | .add => "add" | .mul => "mul" | .less => "less" | .join => "join" | .long => "long" | .show => "show" | .swap => "swap" | .drop => "drop" | .copy _ => "copy"
inductive spReck (ps : List PV) (H : AHeap) (Q : Post) (_ : XPost) : Prop
  | mk (w : W) (a : Addr) (vs : List PV) (v : PV) (a0 : ps = [.str (wd w), .obj a]) (a1 : H a = some (.list vs)) (a2 : (∀ x ∈ vs, Okv x)) (a3 : ((∃ x y, vs = [x, y] ∧ calc2 w x y = some v) ∨ ∃ x, vs = [x] ∧ calc1 w x = some v)) (a4 : Q v H)
inductive spLReck (ps : List PV) (H : AHeap) (Q : Post) (_ : XPost) : Prop
  | mk (w : W) (x y v : PV) (a0 : ps = [.tup w.row, x, y]) (a1 : Okv x) (a2 : Okv y) (a3 : calc2 w x y = some v) (a4 : Q v H)
inductive spDone (ps : List PV) (H : AHeap) (Q : Post) (X : XPost) : Prop
  | mk (a) (st) (w) (a0 : ps = [.obj a, .tup (W.row w)]) (a1 : w.ok) (a2 : H a = some (.list st)) (a3 : (∀ v ∈ st, Okv v)) (a4 : st.length ≤ 900) (a5 : match resS st w with | .ok ys => ∀ c H', H c = none → H' c = some (.list ys) → Ext H H' → Q (.obj c) H' | .error e => ∀ H', Ext H H' → X e H')
inductive spStack (ps : List PV) (H : AHeap) (Q : Post) (_ : XPost) : Prop
  | mk (xs) (t) (w) (n) (a0 : ps = [.fls xs, .obj t, .tup (W.row w)]) (a1 : xs.length ≤ 100) (a2 : w.ok) (a3 : H t = some (.tape n)) (a4 : n < 2 ^ 56) (a5 : ∀ c st H', H c = none → H' c = some (.list st) → (∀ v ∈ st, Okv v) → st.length ≤ 800 → ExtB t H H' → Q (.obj c) H')

noncomputable def putsS : W → Str
  | .join => "text" | .show => "text" | _ => "num"
noncomputable def takS : W → List Str
  | .add => ["num", "num"] | .mul => ["num", "num"] | .less => ["num", "num"] | .join => ["text", "text"] | .long => ["text"] | .show => ["num"] | _ => []
noncomputable def resK (ks : List Str) (w : W) : Except Nat (List Str) :=
  match w with
  | .num _ => .ok (ks ++ [("num" : Str)])
  | .text _ => .ok (ks ++ [("text" : Str)])
  | .copy n => (match ks.reverse[n]? with | some v => .ok (ks ++ [v]) | none => .error 1)
  | .swap => (match ks.reverse with | b :: a :: r => .ok (r.reverse ++ [b, a]) | _ => .error 1)
  | .drop => (match ks.reverse with | _ :: r => .ok r.reverse | _ => .error 1)
  | w => if ks.length < (takS w).length then .error 1 else if ks.drop (ks.length - (takS w).length) = takS w then .ok (ks.take (ks.length - (takS w).length) ++ [putsS w]) else .error 2
inductive spTaken (ps : List PV) (H : AHeap) (Q : Post) (X : XPost) : Prop
  | mk (ks ts : List Str) (a0 : ps = [.tup (ks.map .str), .tup (ts.map .str)]) (a1 : ks.length ≤ 1000) (a2 : (if ks.length < ts.length then X 1 H else if ks.drop (ks.length - ts.length) = ts then Q (.tup ((ks.take (ks.length - ts.length)).map .str)) H else X 2 H))
inductive spMoved (ps : List PV) (H : AHeap) (Q : Post) (X : XPost) : Prop
  | mk (ks : List Str) (w : W) (a0 : ps = [.tup (ks.map .str), .tup w.row]) (a1 : w.ok) (a2 : ks.length ≤ 1000) (a3 : (w = .swap ∨ w = .drop ∨ ∃ n, w = .copy n)) (a4 : match resK ks w with | .ok ys => ∀ H', Ext H H' → Q (.tup (ys.map .str)) H' | .error e => ∀ H', Ext H H' → X e H')
inductive spBehind (ps : List PV) (H : AHeap) (Q : Post) (X : XPost) : Prop
  | mk (d : PV) (ks : List Str) (w : W) (a0 : ps = [d, .tup (ks.map .str), .tup w.row]) (a1 : w.ok) (a2 : ks.length ≤ 1000) (a3 : match resK ks w with | .ok ys => ∀ H', Ext H H' → Q (.tup (ys.map .str)) H' | .error e => ∀ H', Ext H H' → X e H')
inductive spByK (ps : List PV) (H : AHeap) (Q : Post) (_ : XPost) : Prop
  | mk (ks : List Str) (w : W) (a0 : ps = [.tup (ks.map .str), .tup w.row]) (a1 : w.ok) (a2 : ks.length ≤ 1000) (a3 : match resK ks w with | .ok ys => ∀ H', Ext H H' → Q (.tup (ys.map .str)) H' | .error e => ∀ H', Ext H H' → Q (.str (if e = 1 then "empty" else "kind")) H')
inductive spByV (ps : List PV) (H : AHeap) (Q : Post) (_ : XPost) : Prop
  | mk (a) (st) (w) (a0 : ps = [.obj a, .tup (W.row w)]) (a1 : w.ok) (a2 : H a = some (.list st)) (a3 : (∀ v ∈ st, Okv v)) (a4 : st.length ≤ 900) (a5 : match resS st w with | .ok ys => ∀ c H', H c = none → H' c = some (.list ys) → Ext H H' → Q (.obj c) H' | .error e => ∀ H', Ext H H' → Q (.str (if e = 1 then "empty" else "kind")) H')
inductive spTuple (ps : List PV) (H : AHeap) (Q : Post) (_ : XPost) : Prop
  | mk (ks : List Str) (a : Addr) (a0 : ps = [.tup (ks.map .str), .obj a]) (a1 : H a = some (.list (ks.map .str))) (a2 : ks.length ≤ 1000) (a3 : Q (.bool true) H)
inductive spPlainly (ps : List PV) (H : AHeap) (Q : Post) (_ : XPost) : Prop
  | mk (a : Addr) (ks ys : List Str) (w : W) (a0 : ps = [.obj a, .tup w.row]) (a1 : w.ok) (a2 : H a = some (.list (ks.map .str))) (a3 : ks.length ≤ 1000) (a4 : resK ks w = .ok ys) (a5 : ∀ c H', H' c = some (.list (ys.map .str)) → Ext H H' → Q (.obj c) H')
noncomputable def spNo : Sp := fun _ _ _ _ => False
inductive spLaw (ps : List PV) (_ : AHeap) (Q : Post) (_ : XPost) : Prop
  | mk (xs) (a0 : ps = [.fls xs]) (a1 : xs.length ≤ 100) (a2 : ∀ H', Q (.bool true) H')
noncomputable def sps : List (Str × Sp) := [("_law_draw", spDraw), ("_law_words", spWords), ("_law_value", spValue), ("_law_wanted", spWanted), ("_law_lack", spLack), ("_law_plainly", spPlainly), ("_law_plain_row", spPlain), ("_law_stack", spStack), ("need", spNeed), ("kinds_of", spKinds), ("reckoned", spReck), ("done", spDone), ("taken", spTaken), ("block_of", spNo), ("called", spNo), ("moved", spMoved), ("behind", spBehind), ("_law_by_kinds", spByK), ("_law_by_values", spByV), ("_law_tuple", spTuple), ("law", spLaw)]
noncomputable def takes01 : List (Str × List Str) := [("add", ["num", "num"]), ("mul", ["num", "num"]), ("less", ["num", "num"]), ("join", ["text", "text"]), ("long", ["text"]), ("show", ["num"])]
noncomputable def puts01 : List (Str × Str) := [("add", "num"), ("mul", "num"), ("less", "num"), ("join", "text"), ("long", "num"), ("show", "text")]
noncomputable def cons01 : List (Str × PV) := [("BOUND", .int 1000000000), ("LONGEST", .int 60), ("TAKES_rows", .fdt (takes01.map fun e => (e.1, .tup (e.2.map .str)))), ("TAKES_kinds", .fdt (takes01.map fun e => (e.1, .tup (e.2.map .str)))), ("PUTS", .fdt (puts01.map fun e => (e.1, .str e.2)))]
@[irreducible] noncomputable def c01 : CallSpec := fun f => (sps.lookup f).getD fun _ _ _ _ => False
@[irreducible] noncomputable def k01 (x : Str) : Option PV := cons01.lookup x
noncomputable def g01 : Gl := ⟨c01, k01⟩
theorem U_draw {ps : List PV} {H : AHeap} {Q : Post} {X : XPost} (h : spDraw ps H Q X) : g01.C "_law_draw" ps H Q X := by
  delta g01 c01; exact h
theorem U_words {ps : List PV} {H : AHeap} {Q : Post} {X : XPost} (h : spWords ps H Q X) : g01.C "_law_words" ps H Q X := by
  delta g01 c01; exact h
theorem U_value {ps : List PV} {H : AHeap} {Q : Post} {X : XPost} (h : spValue ps H Q X) : g01.C "_law_value" ps H Q X := by
  delta g01 c01; exact h
theorem U_wanted {ps : List PV} {H : AHeap} {Q : Post} {X : XPost} (h : spWanted ps H Q X) : g01.C "_law_wanted" ps H Q X := by
  delta g01 c01; exact h
theorem U_lack {ps : List PV} {H : AHeap} {Q : Post} {X : XPost} (h : spLack ps H Q X) : g01.C "_law_lack" ps H Q X := by
  delta g01 c01; exact h
theorem U_plainly {ps : List PV} {H : AHeap} {Q : Post} {X : XPost} (h : spPlainly ps H Q X) : g01.C "_law_plainly" ps H Q X := by
  delta g01 c01; exact h
theorem U_plain {ps : List PV} {H : AHeap} {Q : Post} {X : XPost} (h : spPlain ps H Q X) : g01.C "_law_plain_row" ps H Q X := by
  delta g01 c01; exact h
theorem U_stack {ps : List PV} {H : AHeap} {Q : Post} {X : XPost} (h : spStack ps H Q X) : g01.C "_law_stack" ps H Q X := by
  delta g01 c01; exact h
theorem U_need {ps : List PV} {H : AHeap} {Q : Post} {X : XPost} (h : spNeed ps H Q X) : g01.C "need" ps H Q X := by
  delta g01 c01; exact h
theorem U_kinds {ps : List PV} {H : AHeap} {Q : Post} {X : XPost} (h : spKinds ps H Q X) : g01.C "kinds_of" ps H Q X := by
  delta g01 c01; exact h
theorem U_reck {ps : List PV} {H : AHeap} {Q : Post} {X : XPost} (h : spReck ps H Q X) : g01.C "reckoned" ps H Q X := by
  delta g01 c01; exact h
theorem U_done {ps : List PV} {H : AHeap} {Q : Post} {X : XPost} (h : spDone ps H Q X) : g01.C "done" ps H Q X := by
  delta g01 c01; exact h
theorem U_taken {ps : List PV} {H : AHeap} {Q : Post} {X : XPost} (h : spTaken ps H Q X) : g01.C "taken" ps H Q X := by
  delta g01 c01; exact h
theorem U_blockof {ps : List PV} {H : AHeap} {Q : Post} {X : XPost} (h : spNo ps H Q X) : g01.C "block_of" ps H Q X := by
  delta g01 c01; exact h
theorem U_called {ps : List PV} {H : AHeap} {Q : Post} {X : XPost} (h : spNo ps H Q X) : g01.C "called" ps H Q X := by
  delta g01 c01; exact h
theorem U_moved {ps : List PV} {H : AHeap} {Q : Post} {X : XPost} (h : spMoved ps H Q X) : g01.C "moved" ps H Q X := by
  delta g01 c01; exact h
theorem U_behind {ps : List PV} {H : AHeap} {Q : Post} {X : XPost} (h : spBehind ps H Q X) : g01.C "behind" ps H Q X := by
  delta g01 c01; exact h
theorem U_byk {ps : List PV} {H : AHeap} {Q : Post} {X : XPost} (h : spByK ps H Q X) : g01.C "_law_by_kinds" ps H Q X := by
  delta g01 c01; exact h
theorem U_byv {ps : List PV} {H : AHeap} {Q : Post} {X : XPost} (h : spByV ps H Q X) : g01.C "_law_by_values" ps H Q X := by
  delta g01 c01; exact h
theorem U_tuple {ps : List PV} {H : AHeap} {Q : Post} {X : XPost} (h : spTuple ps H Q X) : g01.C "_law_tuple" ps H Q X := by
  delta g01 c01; exact h
theorem U_law {ps : List PV} {H : AHeap} {Q : Post} {X : XPost} (h : spLaw ps H Q X) : g01.C "law" ps H Q X := by
  delta g01 c01; exact h

theorem G_bound : g01.G "BOUND" = some (.int 1000000000) := by delta g01 k01; rfl
theorem G_longest : g01.G "LONGEST" = some (.int 60) := by delta g01 k01; rfl
theorem G_takesR : g01.G "TAKES_rows" = some (.fdt (takes01.map fun e => (e.1, .tup (e.2.map .str)))) := by delta g01 k01; rfl
theorem G_takesK : g01.G "TAKES_kinds" = some (.fdt (takes01.map fun e => (e.1, .tup (e.2.map .str)))) := by delta g01 k01; rfl
theorem G_puts : g01.G "PUTS" = some (.fdt (puts01.map fun e => (e.1, .str e.2))) := by delta g01 k01; rfl

noncomputable def Ver (sp : Sp) (B : ASs) (nm : List Str) (np : Nat) : Prop := ∀ {ps : List PV} {H : AHeap} {Q : Post} {X : XPost}, sp ps H Q X → ps.length = np ∧ awpSs g01 B (fun _ H => Q .none H) Q (fun c _ H => X c H) (initL nm np ps) H

theorem draw_ok : Ver spDraw B_law_draw N_law_draw 3 := by
  intro ps H Q X h
  obtain ⟨xs, t, k, n, rfl, hl, ht, hn, hk, hQ⟩ := h
  have hB : (2 : Nat) ^ 59 = 576460752303423488 := by decide
  have hB' : (2 : Nat) ^ 60 = 1152921504606846976 := by decide
  refine ⟨rfl, ?_⟩
  refine O_subTape ht ?_
  refine O_storeT ht (by omega) fun H₁ h₁ e₁ => ?_
  have e : ((n : Int) + 1).toNat = n + 1 := by omega
  rw [e] at h₁
  refine O_subTape h₁ ?_
  refine O_ite (fun _ => ?_) (fun _ => ?_)
  · rename_i hle
    simp only [decide_eq_true_eq] at hle
    have hlt : n < xs.length := by omega
    refine O_subTape h₁ ?_
    refine O_subFls (itemAt_nat (n := n) (by omega) (List.getElem?_eq_getElem hlt)) ?_
    refine O_modI hk ?_
    exact hQ _ _ (mod_lt hk).1 (mod_lt hk).2 h₁ e₁
  · refine O_toF fun c H₂ hc h₂ e₂ => ?_
    refine O_itL h₂ ?_
    refine forW_ind (fun ys m H => H = H₂ ∧ (∃ zs : List Int, ys = zs.map .int) ∧ ∃ seed x4, 0 ≤ seed ∧ seed < 1000003 ∧ m = [some (.fls xs), some (.obj t), some (.int k), some (.int seed), x4]) ?_ ?_ _ _ _ ⟨rfl, ⟨_, rfl⟩, xs.length, none, by omega, by omega, rfl⟩
    · rintro m H ⟨rfl, _, seed, x4, s0, s1, rfl⟩
      refine ⟨h₂, ?_⟩
      refine O_subTape (e₂.at h₁) ?_
      refine O_subTape (e₂.at h₁) ?_
      refine O_mulI (by omega) ?_
      refine O_mulI (by omega) ?_
      refine O_modI hk ?_
      exact hQ _ _ (mod_lt hk).1 (mod_lt hk).2 (e₂.at h₁) (e₁.trans (e₂.toB t))
    · rintro y ys m H ⟨rfl, ⟨zs, hz⟩, seed, x4, s0, s1, rfl⟩
      refine ⟨h₂, fun K hK => ?_⟩
      cases zs with
      | nil => cases hz
      | cons z zs =>
        cases hz
        refine O_mulI (by omega) ?_
        exact hK _ _ ⟨rfl, ⟨zs, rfl⟩, _, some (.int z), (mod_lt (by omega)).1, (mod_lt (by omega)).2, rfl⟩
end Mine
end
section
open PySem PySem.W PySem.Calls PyProof.Rows
namespace Mine
set_option autoImplicit false

theorem words_ok : Ver spWords B_law_words N_law_words 2 := by
  intro ps H Q X h
  have hL : LIM = 1048576 := rfl
  obtain ⟨c, n, rfl, n0, n1, hQ⟩ := h
  refine ⟨rfl, ?_⟩
  refine O_addS' (by decide +kernel) fun S hS => ?_
  have hl : S.length = 94 := by rw [hS]; decide +kernel
  clear hS
  refine RecvW.str ?_
  refine O_range (by omega) ?_
  refine compW_ind (fun rest acc H' => H' = H ∧ (∃ ks : List Nat, rest = ks.map (fun (i : Nat) => PV.int i) ∧ ∀ k ∈ ks, k < 1000) ∧ ∃ ss : List Str, acc = ss.map .str ∧ (∀ s ∈ ss, s.length = 1) ∧ ss.length + rest.length = n.toNat) ?_ ?_ _ _ _
    ⟨rfl, ⟨List.range n.toNat, rfl, fun k hk => by rw [List.mem_range] at hk; omega⟩, [], rfl, by simp, by simp⟩
  · rintro acc H' ⟨rfl, _, ss, rfl, h1, h2⟩
    refine ⟨trivial, fun a H₁ ha h₁ e₁ => ?_⟩
    have h3 : ss.length = n.toNat := by simpa using h2
    refine O_join h₁ (by decide +kernel) (by rw [sum_ones ss h1]; omega) ?_
    exact hQ _ _ (by rw [join_len (by decide +kernel) ss h1, h3]) e₁
  · rintro x xs acc H' ⟨rfl, ⟨ks, hk, hks⟩, ss, rfl, h1, h2⟩
    refine ⟨trivial, fun K hK => ?_⟩
    cases ks with
    | nil => cases hk
    | cons k ks =>
      cases hk
      have hk1 := hks k (by simp)
      refine O_divI (by omega) (by omega) ?_
      refine O_mulI (by omega) ?_
      obtain ⟨y, hy, ly⟩ := sign_at (s := S) (i := (c / ((k : Int) + 1) + 5 * (k : Int)) % 94) (mod_lt (by omega)).1 (by rw [hl]; exact (mod_lt (by omega)).2)
      refine O_subS (by omega) hy ?_
      refine hK _ _ ⟨rfl, ⟨ks, rfl, fun k hk => hks k (by simp [hk])⟩, ss ++ [y], by simp, fun s hs => ?_, by simp at h2 ⊢; omega⟩
      rcases List.mem_append.mp hs with hs | hs
      · exact h1 s hs
      · rw [List.mem_singleton.mp hs]; exact ly

theorem value_ok : Ver spValue B_law_value N_law_value 3 := by
  intro ps H Q X h
  obtain ⟨xs, t, kd, n, rfl, hx, ht, hn, hQ⟩ := h
  have hB : (2 : Nat) ^ 58 = 288230376151711744 := by decide
  have hB' : (2 : Nat) ^ 59 = 576460752303423488 := by decide
  refine ⟨rfl, ?_⟩
  refine U_draw ?_
  refine ⟨xs, t, _, n, rfl, hx, ht, by omega, by omega, fun cell H₁ c0 c1 h₁ e₁ => ?_⟩
  refine U_draw ?_
  refine ⟨xs, t, _, n + 1, rfl, hx, h₁, by omega, by omega, fun way H₂ w0 w1 h₂ e₂ => ?_⟩
  have e₁₂ := e₁.trans e₂
  have word : ∀ (k : Int), 0 ≤ k → k ≤ 60 → (kd == "text") = true → g01.C "_law_words" [.int cell, .int k] H₂ Q (fun c H => X c H) := fun k k0 k1 hk => by
    refine U_words ?_
    refine ⟨cell, k, rfl, k0, by omega, fun s H₃ hs e₃ => ?_⟩
    exact hQ _ _ (.inr ⟨s, rfl, by omega⟩) (by rw [hk]; rfl) (e₃.at h₂) (e₁₂.trans (e₃.toB t))
  have num : ∀ (k : Int), 0 ≤ k → k < 1000000000 → ¬ (kd == "text") = true → Q (.int k) H₂ := fun k k0 k1 hk => by
    exact hQ _ _ (.inl ⟨k, rfl, k0, k1⟩) (by rw [if_neg hk]; rfl) h₂ e₁₂
  refine O_ite (fun _ => ?_) (fun _ => ?_)
  · rename_i hk
    refine O_ite (fun _ => ?_) (fun _ => ?_)
    · have := mod_lt (a := cell) (k := 3) (by omega)
      exact word _ (by omega) (by omega) hk
    · have := mod_lt (a := cell / 94) (k := 8) (by omega)
      exact word _ (by omega) (by omega) hk
  · rename_i hk
    refine O_ite (fun _ => ?_) (fun _ => ?_)
    · have := mod_lt (a := cell) (k := 3) (by omega)
      exact num _ (by omega) (by omega) hk
    · refine O_ite (fun _ => ?_) (fun _ => ?_)
      · have := mod_lt (a := cell) (k := 4) (by omega)
        exact num _ (by omega) (by omega) hk
      · exact num _ c0 c1 hk
end Mine
end
section
open PySem PySem.W PySem.Calls PyProof.Rows
namespace Mine
set_option autoImplicit false

theorem need_ok : Ver spNeed B_need N_need 2 := by
  intro ps H Q X h
  obtain ⟨a, st, k, rfl, ha, h⟩ := h
  refine ⟨rfl, ?_⟩
  refine O_lenL ha ?_
  refine O_ite (fun _ => ?_) (fun _ => ?_)
  · rename_i hk
    rw [if_pos (by simpa using hk)] at h
    exact h
  · rename_i hk
    rw [if_neg (by simpa using hk)] at h
    exact h

theorem kinds_ok : Ver spKinds B_kinds_of N_kinds_of 1 := by
  intro ps H Q X h
  have hL : LIM = 1048576 := rfl
  obtain ⟨a, st, rfl, ha, hst, hl, hQ⟩ := h
  refine ⟨rfl, ?_⟩
  refine fun c H₁ hc h₁ e₁ => ?_
  refine O_itL (e₁.at ha) ?_
  refine forW_ind (fun rest m H' => ∃ done x2, st = done ++ rest ∧ Ext H H' ∧ H' c = some (.list (done.map fun v => .str (kindS v))) ∧ m = [some (.obj a), some (.obj c), x2]) ?_ ?_ _ _ _ ⟨[], none, rfl, e₁, h₁, rfl⟩
  · rintro m H' ⟨done, x2, hd, e, h', rfl⟩
    rw [List.append_nil] at hd
    subst hd
    refine ⟨e.at ha, ?_⟩
    refine O_tupL h' ?_
    exact hQ _ e
  · rintro v rest m H' ⟨done, x2, hd, e, h', rfl⟩
    refine ⟨e.at ha, fun K hK => ?_⟩
    have hlen : done.length < LIM := by have := congrArg List.length hd; simp at this; omega
    have fin : ∀ (s : Str), s = kindS v → ∀ H₂, H₂ c = some (.list (done.map (fun v => .str (kindS v)) ++ [.str s])) → ExtB c H' H₂ → K [some (.obj a), some (.obj c), some v] H₂ := fun s hs H₂ h₂ e₂ => by
      refine hK _ _ ⟨done ++ [v], some v, by simp [hd], fun x o hx => e₂ x o (ne_of hx hc) (e x o hx), ?_, rfl⟩
      rw [h₂, hs]; simp
    have hv := hst v (by rw [hd]; simp)
    rcases hv with ⟨i, rfl, _⟩ | ⟨s, rfl, _⟩
    · refine O_recv h' rfl ?_
      refine O_append h' (by simpa using hlen) fun H₂ h₂ e₂ => ?_
      exact fin _ rfl _ h₂ e₂
    · refine O_recv h' rfl ?_
      refine O_append h' (by simpa using hlen) fun H₂ h₂ e₂ => ?_
      exact fin _ rfl _ h₂ e₂

theorem wanted_ok : Ver spWanted B_law_wanted N_law_wanted 1 := by
  intro ps H Q X h
  have hL : LIM = 1048576 := rfl
  obtain ⟨w, rfl, hw, hQ⟩ := h
  refine ⟨rfl, ?_⟩
  cases w with
  | copy n =>
    have hn : n ≤ 60 := hw
    refine fun c H₁ hc h₁ e₁ => ?_
    refine O_mulL h₁ (by omega) (by omega) (by simp; omega) fun d H₂ hd h₂ e₂ => ?_
    have hd0 : H d = none := by
      cases q : H d with
      | none => rfl
      | some o => rw [e₁.at q] at hd; cases hd
    refine hQ _ _ hd0 ?_ (e₁.trans e₂)
    rw [h₂]
    have : ((n : Int) + 1).toNat = n + 1 := by omega
    unfold repL
    rw [this]
    have e : ∀ k : Nat, (List.replicate k [PV.str ""]).flatten = (List.replicate k ("" : Str)).map PV.str := fun k => by
      induction k with
      | zero => rfl
      | succ k ih => rw [List.replicate_succ, List.flatten_cons, ih]; rfl
    rw [e]; rfl
  | _ =>
    refine fun c H₁ hc h₁ e₁ => ?_
    refine fun d H₂ hd h₂ e₂ => ?_
    have hc₂ := e₂.at h₁
    have fr : ∀ x, H₂ x = none → H x = none := fun x hx => by
      cases q : H x with
      | none => rfl
      | some o => rw [e₂.at (e₁.at q)] at hx; cases hx
    refine O_inD hc₂ ?_
    try first
      | (refine O_subD hc₂ rfl ?_
         refine O_subD hc₂ rfl ?_)
      | (refine O_inD h₂ ?_
         try refine O_subD h₂ rfl ?_)
    refine fun b H₃ hb h₃ e₃ => ?_
    exact hQ _ _ (fr b hb) h₃ ((e₁.trans e₂).trans e₃)
end Mine
end
section
open PySem PySem.W PySem.Calls PyProof.Rows
namespace Mine
set_option autoImplicit false

theorem lack_kind {ks ws : List Str} {i : Nat} {x y : Str} (hl : ws.length ≤ ks.length) (hi : ws[i]? = some x) (hj : ks[ks.length - ws.length + i]? = some y) (hx : x ≠ "") (hy : x ≠ y) : lackS ks ws = "kind" := by
  unfold lackS
  rw [if_neg (by omega), if_pos]
  rw [List.any_eq_true]
  refine ⟨(x, y), ?_, by simp [hx, hy]⟩
  refine List.mem_of_getElem? (i := i) ?_
  rw [List.getElem?_zip_eq_some]
  exact ⟨hi, by rw [List.getElem?_drop]; exact hj⟩
theorem lack_none {ks ws : List Str} (hl : ws.length ≤ ks.length) (h : ∀ (i : Nat) (x y : Str), ws[i]? = some x → ks[ks.length - ws.length + i]? = some y → x = "" ∨ x = y) : lackS ks ws = "" := by
  unfold lackS
  rw [if_neg (by omega), if_neg]
  rw [List.any_eq_true]
  rintro ⟨⟨x, y⟩, hm, hp⟩
  obtain ⟨i, hi⟩ := List.mem_iff_getElem?.mp hm
  rw [List.getElem?_zip_eq_some, List.getElem?_drop] at hi
  rcases h i x y hi.1 hi.2 with e | e <;> simp [e] at hp

theorem lack_ok : Ver spLack B_law_lack N_law_lack 2 := by
  intro ps H Q X h
  have hL : LIM = 1048576 := rfl
  obtain ⟨a, b, ks, ws, rfl, ha, hb, lk, lw, hQ⟩ := h
  refine ⟨rfl, ?_⟩
  refine O_lenL ha ?_
  refine O_lenL hb ?_
  simp only [List.length_map]
  refine O_ite (fun _ => ?_) (fun _ => ?_)
  · rename_i hlt
    have : lackS ks ws = "empty" := by unfold lackS; rw [if_pos (by simp at hlt; omega)]
    rw [this] at hQ; exact hQ
  · rename_i hge
    have hle : ws.length ≤ ks.length := by simp at hge; omega
    refine O_lenL ha ?_
    refine O_lenL hb ?_
    refine O_lenL hb ?_
    refine O_range (by first | omega | (rw [List.length_map]; omega)) ?_
    simp only [List.length_map, Int.toNat_natCast]
    refine forW_ind (fun rest m H' => H' = H ∧ ∃ j x3, rest = ((List.range ws.length).drop j).map (fun (i : Nat) => PV.int i) ∧ (∀ (i : Nat) (x y : Str), i < j → ws[i]? = some x → ks[ks.length - ws.length + i]? = some y → x = "" ∨ x = y) ∧
      m = [some (.obj a), some (.obj b), some (.int ((ks.length : Int) - (ws.length : Int))), x3]) ?_ ?_ _ _ _ ⟨rfl, 0, none, rfl, fun _ _ _ h => by omega, rfl⟩
    · rintro m H' ⟨rfl, j, x3, hr, hj, rfl⟩
      refine ⟨trivial, ?_⟩
      have hjl : ws.length ≤ j := by
        have := congrArg List.length hr
        simp at this; omega
      rw [lack_none hle fun i x y hi hy => hj i x y (by have := (List.getElem?_eq_some_iff.mp hi).1; omega) hi hy] at hQ
      exact hQ
    · rintro v rest m H' ⟨rfl, j, x3, hr, hj, rfl⟩
      refine ⟨trivial, fun K hK => ?_⟩
      have hjl : j < ws.length := by
        apply Classical.byContradiction
        intro q
        rw [List.drop_eq_nil_of_le (by simp; omega)] at hr
        cases hr
      have hd : (List.range ws.length).drop j = j :: (List.range ws.length).drop (j + 1) := by
        rw [List.drop_eq_getElem_cons (by simpa using hjl)]; simp
      rw [hd] at hr
      cases hr
      have hws : (ws.map PV.str)[j]? = some (.str ws[j]) := by simp [hjl]
      have hlow : ks.length - ws.length + j < ks.length := by omega
      have hks : (ks.map PV.str)[ks.length - ws.length + j]? = some (.str ks[ks.length - ws.length + j]) := by simp [hlow]
      have cont : ws[j] = "" ∨ ws[j] = ks[ks.length - ws.length + j] → K [some (.obj a), some (.obj b), some (.int ((ks.length : Int) - (ws.length : Int))), some (.int j)] H' := fun hc => by
        refine hK _ _ ⟨rfl, j + 1, _, rfl, fun i x y hi hx hy => ?_, rfl⟩
        by_cases q : i = j
        · subst q
          rw [List.getElem?_eq_getElem hjl] at hx
          rw [List.getElem?_eq_getElem hlow] at hy
          cases hx; cases hy; exact hc
        · exact hj i x y (by omega) hx hy
      refine O_subL hb (itemAt_nat rfl hws) ?_
      refine O_ite (fun _ => ?_) (fun _ => ?_)
      · rename_i h1
        refine O_subL hb (itemAt_nat rfl hws) ?_
        refine O_subL ha (itemAt_nat (n := ks.length - ws.length + j) (by omega) hks) ?_
        refine O_ite (fun _ => ?_) (fun _ => ?_)
        · rename_i h2
          rw [lack_kind hle (List.getElem?_eq_getElem hjl) (List.getElem?_eq_getElem hlow) (by simpa using h1) (by simpa using h2)] at hQ
          exact hQ
        · rename_i h2
          exact cont (.inr (by simpa using h2))
      · rename_i h1
        exact cont (.inl (by simpa using h1))
end Mine
end
section
open PySem PySem.W PySem.Calls PyProof.Rows
namespace Mine
set_option autoImplicit false

theorem okv_num {v : PV} (h : Okv v) (k : kindS v = "num") : ∃ i, v = .int i ∧ 0 ≤ i ∧ i < 1000000000 := by
  rcases h with h | ⟨s, rfl, _⟩
  · exact h
  · exact absurd (show ("text" : Str) = "num" from k) (by decide +kernel)
theorem okv_text {v : PV} (h : Okv v) (k : kindS v = "text") : ∃ s, v = .str s ∧ s.length ≤ 60 := by
  rcases h with ⟨i, rfl, _⟩ | h
  · exact absurd (show ("num" : Str) = "text" from k) (by decide +kernel)
  · exact h

theorem copy_at {d z : Int} (d0 : 0 ≤ d) (d1 : d < 61) (z0 : 0 ≤ z) (z1 : z < 8) : ∃ k : Int, itemAt [PV.int 0, PV.int 0, PV.int 1, PV.int 1, PV.int 2, PV.int 3, PV.int d, PV.int 60] z = some (.int k) ∧ 0 ≤ k ∧ k ≤ 60 := by
  have : z = 0 ∨ z = 1 ∨ z = 2 ∨ z = 3 ∨ z = 4 ∨ z = 5 ∨ z = 6 ∨ z = 7 := by omega
  rcases this with rfl | rfl | rfl | rfl | rfl | rfl | rfl | rfl
  · exact ⟨0, rfl, by omega, by omega⟩
  · exact ⟨0, rfl, by omega, by omega⟩
  · exact ⟨1, rfl, by omega, by omega⟩
  · exact ⟨1, rfl, by omega, by omega⟩
  · exact ⟨2, rfl, by omega, by omega⟩
  · exact ⟨3, rfl, by omega, by omega⟩
  · exact ⟨d, rfl, d0, by omega⟩
  · exact ⟨60, rfl, by omega, by omega⟩
theorem some_copy {r : Int} (h0 : 10 ≤ r) (h1 : r < 13) : itemAt [PV.str "num", PV.str "text", PV.str "add", PV.str "mul", PV.str "less", PV.str "join", PV.str "long", PV.str "show", PV.str "swap", PV.str "drop", PV.str "copy", PV.str "copy", PV.str "copy"] r = some (.str "copy") := by
  have : r = 10 ∨ r = 11 ∨ r = 12 := by omega
  rcases this with rfl | rfl | rfl <;> rfl
theorem some_plain {r : Int} (h0 : 2 ≤ r) (h1 : r < 10) : ∃ w : W, w.ok ∧ itemAt [PV.str "num", PV.str "text", PV.str "add", PV.str "mul", PV.str "less", PV.str "join", PV.str "long", PV.str "show", PV.str "swap", PV.str "drop", PV.str "copy", PV.str "copy", PV.str "copy"] r = some (.str (wd w)) ∧ w.row = [.str (wd w)] ∧ (wd w == ("num" : Str)) = false ∧ (wd w == ("text" : Str)) = false ∧ (wd w == ("copy" : Str)) = false := by
  have : r = 2 ∨ r = 3 ∨ r = 4 ∨ r = 5 ∨ r = 6 ∨ r = 7 ∨ r = 8 ∨ r = 9 := by omega
  rcases this with rfl | rfl | rfl | rfl | rfl | rfl | rfl | rfl
  · exact ⟨.add, trivial, rfl, rfl, by decide +kernel, by decide +kernel, by decide +kernel⟩
  · exact ⟨.mul, trivial, rfl, rfl, by decide +kernel, by decide +kernel, by decide +kernel⟩
  · exact ⟨.less, trivial, rfl, rfl, by decide +kernel, by decide +kernel, by decide +kernel⟩
  · exact ⟨.join, trivial, rfl, rfl, by decide +kernel, by decide +kernel, by decide +kernel⟩
  · exact ⟨.long, trivial, rfl, rfl, by decide +kernel, by decide +kernel, by decide +kernel⟩
  · exact ⟨.show, trivial, rfl, rfl, by decide +kernel, by decide +kernel, by decide +kernel⟩
  · exact ⟨.swap, trivial, rfl, rfl, by decide +kernel, by decide +kernel, by decide +kernel⟩
  · exact ⟨.drop, trivial, rfl, rfl, by decide +kernel, by decide +kernel, by decide +kernel⟩
theorem plain_ok : Ver spPlain B_law_plain_row N_law_plain_row 2 := by
  intro ps H Q X h
  obtain ⟨xs, t, n, rfl, hx, ht, hn, hQ⟩ := h
  have hB : (2 : Nat) ^ 57 = 144115188075855872 := by decide
  have hB1 : (2 : Nat) ^ 58 = 288230376151711744 := by decide
  have hB' : (2 : Nat) ^ 59 = 576460752303423488 := by decide
  refine ⟨rfl, ?_⟩
  refine fun c H₁ hc h₁ e₁ => ?_
  refine U_draw ?_
  refine ⟨xs, t, _, n, rfl, hx, e₁.at ht, by omega, by omega, fun r H₂ r0 r1 h₂ e₂ => ?_⟩
  have htc : t ≠ c := ne_of ht hc
  have hc₂ := e₂.at (Ne.symm htc) h₁
  have e₁₂ : ExtB t H H₂ := (e₁.toB t).trans e₂
  have plain : ∀ w : W, w.ok → Q (.tup w.row) H₂ := fun w hw => hQ w _ _ hw (by omega) h₂ e₁₂
  have hr : r = 0 ∨ r = 1 ∨ 10 ≤ r ∨ (2 ≤ r ∧ r < 10) := by omega
  rcases hr with rfl | rfl | hr | hr
  · refine O_subL hc₂ (itemAt_nat (n := 0) rfl rfl) ?_
    refine U_value ?_
    refine ⟨xs, t, _, n + 1, rfl, hx, h₂, by omega, fun v H₃ hv hk h₃ e₃ => ?_⟩
    obtain ⟨i, rfl, i0, i1⟩ := okv_num hv (by rw [hk]; decide +kernel)
    exact hQ (.num i) _ _ ⟨i0, i1⟩ (by omega) h₃ (e₁₂.trans e₃)
  · refine O_subL hc₂ (itemAt_nat (n := 1) rfl rfl) ?_
    refine U_value ?_
    refine ⟨xs, t, _, n + 1, rfl, hx, h₂, by omega, fun v H₃ hv hk h₃ e₃ => ?_⟩
    obtain ⟨s, rfl, hs⟩ := okv_text hv (by rw [hk]; decide +kernel)
    exact hQ (.text s) _ _ hs (by omega) h₃ (e₁₂.trans e₃)
  · refine O_subL hc₂ (some_copy hr r1) ?_
    refine U_draw ?_
    refine ⟨xs, t, _, n + 1, rfl, hx, h₂, by omega, by omega, fun d H₃ d0 d1 h₃ e₃ => ?_⟩
    refine fun b H₄ hb h₄ e₄ => ?_
    refine U_draw ?_
    refine ⟨xs, t, _, n + 2, rfl, hx, e₄.at h₃, by omega, by omega, fun z H₅ z0 z1 h₅ e₅ => ?_⟩
    have hb₅ := e₅.at (Ne.symm (ne_of h₃ hb)) h₄
    have e₁₅ : ExtB t H H₅ := ((e₁₂.trans e₃).trans (e₄.toB t)).trans e₅
    have fin : ∀ k : Int, 0 ≤ k → k ≤ 60 → Q (.tup [.str "copy", .int k]) H₅ := fun k k0 k1 => by
      obtain ⟨j, rfl⟩ := Int.eq_ofNat_of_zero_le k0
      exact hQ (.copy j) _ _ (by show j ≤ 60; omega) (by omega) h₅ e₁₅
    have hi : ∃ k : Int, itemAt [PV.int 0, PV.int 0, PV.int 1, PV.int 1, PV.int 2, PV.int 3, PV.int d, PV.int 60] z = some (.int k) ∧ 0 ≤ k ∧ k ≤ 60 := copy_at d0 d1 z0 z1
    obtain ⟨k, hk, k0, k1⟩ := hi
    refine O_subL hb₅ hk ?_
    exact fin k k0 k1
  · obtain ⟨w, hwo, gw, hrow, n1, n2, n3⟩ := some_plain hr.1 hr.2
    refine O_subL hc₂ gw ?_
    refine I_neg (by rw [n1]; decide) ?_
    refine I_neg (by rw [n2]; decide) ?_
    refine I_neg (by rw [n3]; decide) ?_
    have := plain w hwo
    rw [hrow] at this
    exact this

theorem calc2_inv {w : W} {x y v : PV} (h : calc2 w x y = some v) : (∃ a b, x = .int a ∧ y = .int b ∧ (w = .add ∧ v = .int ((a + b) % 1000000000) ∨ w = .mul ∧ v = .int (a * b % 1000000000) ∨ w = .less ∧ v = .int (if a < b then 1 else 0))) ∨
    ∃ a b, x = .str a ∧ y = .str b ∧ w = .join ∧ v = .str (cut60 (a ++ b)) := by
  unfold calc2 at h
  split at h <;> cases h
  · exact .inl ⟨_, _, rfl, rfl, .inl ⟨rfl, rfl⟩⟩
  · exact .inl ⟨_, _, rfl, rfl, .inr (.inl ⟨rfl, rfl⟩)⟩
  · exact .inl ⟨_, _, rfl, rfl, .inr (.inr ⟨rfl, rfl⟩)⟩
  · exact .inr ⟨_, _, rfl, rfl, rfl, rfl⟩
theorem calc1_inv {w : W} {x v : PV} (h : calc1 w x = some v) : (∃ a, x = .str a ∧ w = .long ∧ v = .int a.length) ∨ ∃ a, x = .int a ∧ w = .show ∧ v = .str (Str.ofString (toString a)) := by
  unfold calc1 at h
  split at h <;> cases h
  · exact .inl ⟨_, rfl, rfl, rfl⟩
  · exact .inr ⟨_, rfl, rfl, rfl⟩
theorem okv_int {i : Int} (h : Okv (.int i)) : 0 ≤ i ∧ i < 1000000000 := by
  rcases h with ⟨j, e, h⟩ | ⟨s, e, _⟩
  · cases e; exact h
  · cases e
theorem okv_str {s : Str} (h : Okv (.str s)) : s.length ≤ 60 := by
  rcases h with ⟨j, e, h⟩ | ⟨s, e, h⟩
  · cases e
  · cases e; exact h

theorem reck_ok : Ver spReck B_reckoned N_reckoned 2 := by
  intro ps H Q X h
  have hL : LIM = 1048576 := rfl
  have hB' : (2 : Nat) ^ 60 = 1152921504606846976 := by decide
  obtain ⟨w, a, vs, v, rfl, ha, hok, hc, hQ⟩ := h
  refine ⟨rfl, ?_⟩
  rcases hc with ⟨x, y, rfl, hc⟩ | ⟨x, rfl, hc⟩
  · have ox := hok x (by simp)
    have oy := hok y (by simp)
    rcases calc2_inv hc with ⟨i, j, rfl, rfl, ⟨rfl, rfl⟩ | ⟨rfl, rfl⟩ | ⟨rfl, rfl⟩⟩ | ⟨s, u, rfl, rfl, rfl, rfl⟩
    · refine O_subL ha (itemAt_nat (n := 0) rfl rfl) ?_
      refine O_subL ha (itemAt_nat (n := 1) rfl rfl) ?_
      refine O_glob G_bound ?_
      exact hQ
    · have := okv_int ox
      refine O_subL ha (itemAt_nat (n := 0) rfl rfl) ?_
      refine O_subL ha (itemAt_nat (n := 1) rfl rfl) ?_
      refine O_mulI (by omega) ?_
      refine O_glob G_bound ?_
      exact hQ
    · refine O_subL ha (itemAt_nat (n := 0) rfl rfl) ?_
      refine O_subL ha (itemAt_nat (n := 1) rfl rfl) ?_
      have hQ' : Q (.int (if decide (i < j) = true then 1 else 0)) H := by simpa using hQ
      exact hQ'
    · have h1 := okv_str ox
      have h2 := okv_str oy
      refine O_subL ha (itemAt_nat (n := 0) rfl rfl) ?_
      refine O_subL ha (itemAt_nat (n := 1) rfl rfl) ?_
      refine O_addS (by omega) ?_
      refine O_glob G_longest ?_
      refine O_toS (by rw [str_len_append]; omega) ?_
      exact hQ
  · have ox := hok x (by simp)
    rcases calc1_inv hc with ⟨s, rfl, rfl, rfl⟩ | ⟨i, rfl, rfl, rfl⟩
    · have h1 := okv_str ox
      refine O_subL ha (itemAt_nat (n := 0) rfl rfl) ?_
      refine O_lenS (by omega) ?_
      exact hQ
    · have h1 := okv_int ox
      have h2 : (10 : Nat) ^ 18 = 1000000000000000000 := by decide
      refine O_subL ha (itemAt_nat (n := 0) rfl rfl) ?_
      refine O_strI (by omega) ?_
      exact hQ

end Mine
end
section
open PySem PySem.W PySem.Calls PyProof.Rows
namespace Mine
set_option autoImplicit false

theorem Ext.back {H H' : AHeap} (e : Ext H H') {x : Addr} (h : H' x = none) : H x = none := by
  cases q : H x with
  | none => rfl
  | some o => rw [e.at q] at h; cases h
theorem cut_sub {L k : Nat} (h : k ≤ L) : cutAt L ((L : Int) - (k : Int)) = L - k := by unfold cutAt; rw [if_pos (by omega)]; omega
theorem split_at {st : List PV} {k : Nat} (h : k ≤ st.length) : ∃ pre vs, st = pre ++ vs ∧ vs.length = k ∧ pre.length = st.length - k :=
  ⟨st.take (st.length - k), st.drop (st.length - k), (List.take_append_drop _ _).symm, by simp; omega, by simp⟩

noncomputable def takesS : W → Option (List Str)
  | .add => some ["num", "num"] | .mul => some ["num", "num"] | .less => some ["num", "num"] | .join => some ["text", "text"] | .long => some ["text"] | .show => some ["num"] | _ => none
theorem rev_one {α : Type} {l : List α} (h : l.length = 1) : ∃ a, l = [a] := by
  match l, h with | [a], _ => exact ⟨a, rfl⟩
theorem rev_two {α : Type} {l : List α} (h : l.length = 2) : ∃ a b, l = [a, b] := by
  match l, h with | [a, b], _ => exact ⟨a, b, rfl⟩
theorem res_few {w : W} {ts : List Str} {st : List PV} (ht : takesS w = some ts) (h : st.length < ts.length) : resS st w = .error 1 := by
  have hcase : st = [] ∨ (ts.length = 2 ∧ ∃ a, st = [a]) := by
    have : ts.length ≤ 2 := by cases w <;> cases ht <;> simp
    match st, h with
    | [], _ => exact .inl rfl
    | [a], h => exact .inr ⟨by simp at h; omega, a, rfl⟩
    | _ :: _ :: _, h => simp at h; omega
  rcases hcase with rfl | ⟨h2, a, rfl⟩
  · cases w <;> cases ht <;> rfl
  · cases w <;> cases ht <;> first | rfl | (simp at h2; done)
theorem calc2_kind {w : W} {x y : PV} (ox : Okv x) (oy : Okv y) {ts : List Str} (ht : takesS w = some ts) (h2 : ts.length = 2) : (calc2 w x y).isSome = decide ([kindS x, kindS y] = ts) := by
  rcases ox with ⟨i, rfl, _⟩ | ⟨s, rfl, _⟩ <;> rcases oy with ⟨j, rfl, _⟩ | ⟨u, rfl, _⟩ <;> cases w <;> cases ht <;> first | (simp at h2; done) | kernel_rfl
theorem calc1_kind {w : W} {x : PV} (ox : Okv x) {ts : List Str} (ht : takesS w = some ts) (h1 : ts.length = 1) : (calc1 w x).isSome = decide ([kindS x] = ts) := by
  rcases ox with ⟨i, rfl, _⟩ | ⟨s, rfl, _⟩ <;> cases w <;> cases ht <;> first | (simp at h1; done) | kernel_rfl
theorem res_takes {w : W} {ts : List Str} {pre vs : List PV} (ht : takesS w = some ts) (hl : vs.length = ts.length) (ok : ∀ v ∈ vs, Okv v) :
    (vs.map kindS ≠ ts ∧ resS (pre ++ vs) w = .error 2) ∨ (vs.map kindS = ts ∧ ∃ v, resS (pre ++ vs) w = .ok (pre ++ [v]) ∧ ((∃ x y, vs = [x, y] ∧ calc2 w x y = some v) ∨ ∃ x, vs = [x] ∧ calc1 w x = some v)) := by
  have two : ts.length = 2 → resS (pre ++ vs) w = (match (pre ++ vs).reverse with | b :: a :: r => (match calc2 w a b with | some v => .ok (r.reverse ++ [v]) | none => .error 2) | _ => .error 1) := fun h2 => by
    cases w <;> cases ht <;> first | rfl | (simp at h2; done)
  have one : ts.length = 1 → resS (pre ++ vs) w = (match (pre ++ vs).reverse with | a :: r => (match calc1 w a with | some v => .ok (r.reverse ++ [v]) | none => .error 2) | _ => .error 1) := fun h1 => by
    cases w <;> cases ht <;> first | rfl | (simp at h1; done)
  have hlen : ts.length = 2 ∨ ts.length = 1 := by cases w <;> cases ht <;> simp
  rcases hlen with h2 | h1
  · obtain ⟨x, y, rfl⟩ := rev_two (hl.trans h2)
    have hk := calc2_kind (ok x (by simp)) (ok y (by simp)) ht h2
    have hr := two h2
    simp only [List.reverse_append, List.reverse_cons, List.reverse_nil, List.nil_append, List.cons_append, List.singleton_append] at hr
    cases hc : calc2 w x y with
    | none =>
      rw [hc] at hk hr
      left
      exact ⟨fun q => by rw [show [kindS x, kindS y] = ts from q] at hk; simp at hk, hr⟩
    | some v =>
      rw [hc] at hk hr
      right
      refine ⟨by simpa using hk.symm, v, ?_, .inl ⟨x, y, rfl, hc⟩⟩
      simpa using hr
  · obtain ⟨x, rfl⟩ := rev_one (hl.trans h1)
    have hk := calc1_kind (ok x (by simp)) ht h1
    have hr := one h1
    simp only [List.reverse_append, List.reverse_cons, List.reverse_nil, List.nil_append, List.cons_append, List.singleton_append] at hr
    cases hc : calc1 w x with
    | none =>
      rw [hc] at hk hr
      left
      exact ⟨fun q => by rw [show [kindS x] = ts from q] at hk; simp at hk, hr⟩
    | some v =>
      rw [hc] at hk hr
      right
      refine ⟨by simpa using hk.symm, v, ?_, .inr ⟨x, rfl, hc⟩⟩
      simpa using hr
end Mine
end
section
open PySem PySem.W PySem.Calls PyProof.Rows
namespace Mine
set_option autoImplicit false

theorem tk_get : ∀ {w : W} {ts : List Str}, takesS w = some ts → dget (takes01.map fun e => (e.1, PV.tup (e.2.map .str))) (wd w) = some (.tup (ts.map .str)) := by
  intro w ts ht
  cases w <;> cases ht <;> kernel_rfl
abbrev ts_add : List Str := ["num", "num"]
abbrev ts_mul : List Str := ["num", "num"]
abbrev ts_less : List Str := ["num", "num"]
abbrev ts_join : List Str := ["text", "text"]
abbrev ts_long : List Str := ["text"]
abbrev ts_show : List Str := ["num"]
theorem done_takes {w : W} {ts : List Str} (ht : takesS w = some ts) {a : Addr} {st : List PV} {H : AHeap} {Q : Post} {X : XPost} (ha : H a = some (.list st)) (hst : ∀ v ∈ st, Okv v) (hlen : st.length ≤ 900)
    (hres : match resS st w with | .ok ys => ∀ c H', H c = none → H' c = some (.list ys) → Ext H H' → Q (.obj c) H' | .error e => ∀ H', Ext H H' → X e H') :
    awpSs g01 B_done (fun _ H => Q .none H) Q (fun c _ H => X c H) (initL N_done 2 [.obj a, .tup w.row]) H := by
  have hL : LIM = 1048576 := rfl
  have g0 : itemAt w.row 0 = some (.str (wd w)) := by cases w <;> rfl
  have n1 : (wd w == ("num" : Str)) = false := by cases w <;> cases ht <;> kernel_rfl
  have n2 : (wd w == ("text" : Str)) = false := by cases w <;> cases ht <;> kernel_rfl
  have n3 : (wd w == ("copy" : Str)) = false := by cases w <;> cases ht <;> kernel_rfl
  have n4 : (wd w == ("swap" : Str)) = false := by cases w <;> cases ht <;> kernel_rfl
  have n5 : (wd w == ("drop" : Str)) = false := by cases w <;> cases ht <;> kernel_rfl
  refine O_subT g0 ?_
  refine O_lenL ha ?_
  refine I_neg (by rw [n1]; decide) ?_
  refine I_neg (by rw [n2]; decide) ?_
  refine I_neg (by rw [n3]; decide) ?_
  refine I_neg (by rw [n4]; decide) ?_
  refine I_neg (by rw [n5]; decide) ?_
  refine O_glob G_takesR ?_
  refine O_subF (tk_get ht) ?_
  refine U_need ?_
  refine ⟨a, st, _, rfl, ha, ?_⟩
  by_cases hlt : st.length < ts.length
  · rw [if_pos (by rw [List.length_map]; omega)]
    rw [res_few ht hlt] at hres
    exact hres _ (Ext.refl H)
  · rw [if_neg (by rw [List.length_map]; omega)]
    obtain ⟨pre, vs, rfl, hv, hp⟩ := split_at (st := st) (k := ts.length) (by omega)
    have ok : ∀ v ∈ vs, Okv v := fun v hvm => hst v (by simp [hvm])
    have hcut : cutAt (pre ++ vs).length (((pre ++ vs).length : Int) - ((ts.map PV.str).length : Int)) = pre.length := by
      rw [List.length_map, cut_sub (by omega)]; simp; omega
    simp only [List.length_append] at hlen
    refine O_fromL ha fun c H₁ hc h₁ e₁ => ?_
    rw [hcut, List.drop_left] at h₁
    refine O_listL h₁ fun d H₂ hd h₂ e₂ => ?_
    have e₁₂ := e₁.trans e₂
    refine U_kinds ?_
    refine ⟨d, vs, rfl, h₂, ok, by omega, fun H₃ e₃ => ?_⟩
    have e₁₃ := e₁₂.trans e₃
    have hrt := res_takes (pre := pre) (vs := vs) ht hv ok
    have heq := eq_strs (H := H₃) (vs.map kindS) ts
    rw [List.map_map] at heq
    refine O_neT heq ?_
    rcases hrt with ⟨hne, hr⟩ | ⟨hek, v, hr, hcc⟩
    · rw [hr] at hres
      refine I_pos (by simpa using hne) ?_
      exact hres _ e₁₃
    · rw [hr] at hres
      refine I_neg (by simpa using hek) ?_
      refine O_toL (e₁₃.at ha) fun f H₄ hf h₄ e₄ => ?_
      rw [hcut, List.take_left] at h₄
      refine O_listL h₄ fun g5 H₅ hg h₅ e₅ => ?_
      have e₁₅ := (e₁₃.trans e₄).trans e₅
      refine U_reck ?_
      refine ⟨w, d, vs, v, rfl, ((e₃.trans e₄).trans e₅).at h₂, ok, hcc, ?_⟩
      refine fun b H₆ hb h₆ e₆ => ?_
      refine O_addL (e₆.at h₅) h₆ (by simp; omega) fun z H₇ hz h₇ e₇ => ?_
      exact hres _ _ ((e₁₅.trans e₆).back hz) h₇ ((e₁₅.trans e₆).trans e₇)
set_option maxHeartbeats 1000000 in
theorem done_ok : Ver spDone B_done N_done 2 := by
  intro ps H Q X h
  have hL : LIM = 1048576 := rfl
  obtain ⟨a, st, w, rfl, hw, ha, hst, hlen, hres⟩ := h
  refine ⟨rfl, ?_⟩
  cases w with
  | num i =>
    simp only [resS] at hres
    refine O_lenL ha ?_
    refine O_listL ha fun c H₁ hc h₁ e₁ => ?_
    refine fun d H₂ hd h₂ e₂ => ?_
    refine O_addL (e₂.at h₁) h₂ (by simp; omega) fun b H₃ hb h₃ e₃ => ?_
    exact hres _ _ ((e₁.trans e₂).back hb) h₃ ((e₁.trans e₂).trans e₃)
  | text s =>
    simp only [resS] at hres
    refine O_lenL ha ?_
    refine O_listL ha fun c H₁ hc h₁ e₁ => ?_
    refine fun d H₂ hd h₂ e₂ => ?_
    refine O_addL (e₂.at h₁) h₂ (by simp; omega) fun b H₃ hb h₃ e₃ => ?_
    exact hres _ _ ((e₁.trans e₂).back hb) h₃ ((e₁.trans e₂).trans e₃)
  | copy n =>
    have hn : n ≤ 60 := hw
    refine O_lenL ha ?_
    refine U_need ?_
    refine ⟨a, st, _, rfl, ha, ?_⟩
    by_cases hlt : st.length < n + 1
    · rw [if_pos (by omega)]
      have hr : resS st (.copy n) = .error 1 := by
        unfold resS
        simp only
        rw [List.getElem?_eq_none (by simp; omega)]
      rw [hr] at hres
      exact hres _ (Ext.refl H)
    · rw [if_neg (by omega)]
      have hk : st.length - 1 - n < st.length := by omega
      have hr : resS st (.copy n) = .ok (st ++ [st[st.length - 1 - n]]) := by
        unfold resS
        simp only
        rw [List.getElem?_reverse (by omega), List.getElem?_eq_getElem hk]
      rw [hr] at hres
      refine O_listL ha fun c H₁ hc h₁ e₁ => ?_
      refine O_subL (e₁.at ha) (itemAt_nat (n := st.length - 1 - n) (by omega) (List.getElem?_eq_getElem hk)) ?_
      refine fun d H₂ hd h₂ e₂ => ?_
      refine O_addL (e₂.at h₁) h₂ (by simp; omega) fun b H₃ hb h₃ e₃ => ?_
      exact hres _ _ ((e₁.trans e₂).back hb) h₃ ((e₁.trans e₂).trans e₃)
  | swap =>
    refine O_lenL ha ?_
    refine U_need ?_
    refine ⟨a, st, _, rfl, ha, ?_⟩
    by_cases hlt : st.length < 2
    · rw [if_pos (by omega)]
      have hr : resS st .swap = .error 1 := by
        match st, hlt with
        | [], _ => rfl
        | [x], _ => rfl
        | _ :: _ :: _, h => simp at h; omega
      rw [hr] at hres
      exact hres _ (Ext.refl H)
    · rw [if_neg (by omega)]
      obtain ⟨pre, vs, rfl, hv, hp⟩ := split_at (st := st) (k := 2) (by omega)
      obtain ⟨x, y, rfl⟩ := rev_two hv
      have hr : resS (pre ++ [x, y]) .swap = .ok (pre ++ [y, x]) := by simp [resS]
      rw [hr] at hres
      simp only [List.length_append, List.length_cons, List.length_nil] at hlen
      refine O_toL ha fun c H₁ hc h₁ e₁ => ?_
      have hcut : cutAt (pre ++ [x, y]).length (((pre ++ [x, y]).length : Nat) - 2 : Int) = pre.length := by
        have := cut_sub (L := (pre ++ [x, y]).length) (k := 2) (by simp)
        rw [show ((2 : Nat) : Int) = 2 from rfl] at this
        rw [this]; simp
      rw [hcut, List.take_left] at h₁
      refine O_listL h₁ fun d H₂ hd h₂ e₂ => ?_
      have e₁₂ := e₁.trans e₂
      refine O_subL (e₁₂.at ha) (itemAt_nat (n := pre.length + 1) (x := y) (by simp; omega) (by simp)) ?_
      refine O_subL (e₁₂.at ha) (itemAt_nat (n := pre.length) (x := x) (by simp) (by simp)) ?_
      refine fun b H₃ hb h₃ e₃ => ?_
      refine O_addL (e₃.at h₂) h₃ (by simp; omega) fun z H₄ hz h₄ e₄ => ?_
      exact hres _ _ ((e₁₂.trans e₃).back hz) h₄ ((e₁₂.trans e₃).trans e₄)
  | drop =>
    refine O_lenL ha ?_
    refine U_need ?_
    refine ⟨a, st, _, rfl, ha, ?_⟩
    by_cases hlt : st.length < 1
    · rw [if_pos (by omega)]
      have hr : resS st .drop = .error 1 := by
        match st, hlt with
        | [], _ => rfl
        | _ :: _, h => simp at h
      rw [hr] at hres
      exact hres _ (Ext.refl H)
    · rw [if_neg (by omega)]
      obtain ⟨pre, vs, rfl, hv, hp⟩ := split_at (st := st) (k := 1) (by omega)
      obtain ⟨x, rfl⟩ := rev_one hv
      have hr : resS (pre ++ [x]) .drop = .ok pre := by simp [resS]
      rw [hr] at hres
      refine O_toL ha fun c H₁ hc h₁ e₁ => ?_
      have hcut : cutAt (pre ++ [x]).length (((pre ++ [x]).length : Nat) - 1 : Int) = pre.length := by
        have := cut_sub (L := (pre ++ [x]).length) (k := 1) (by simp)
        rw [show ((1 : Nat) : Int) = 1 from rfl] at this
        rw [this]; simp
      rw [hcut, List.take_left] at h₁
      refine O_listL h₁ fun d H₂ hd h₂ e₂ => ?_
      exact hres _ _ (e₁.back hd) h₂ (e₁.trans e₂)
  | add => exact done_takes (w := .add) rfl ha hst hlen hres
  | mul => exact done_takes (w := .mul) rfl ha hst hlen hres
  | less => exact done_takes (w := .less) rfl ha hst hlen hres
  | join => exact done_takes (w := .join) rfl ha hst hlen hres
  | long => exact done_takes (w := .long) rfl ha hst hlen hres
  | «show» => exact done_takes (w := .show) rfl ha hst hlen hres
end Mine
end
section
open PySem PySem.W PySem.Calls PyProof.Rows
namespace Mine
set_option autoImplicit false

theorem res_err {st : List PV} {w : W} {e : Nat} (h : resS st w = .error e) : e = 1 ∨ e = 2 := by
  unfold resS at h
  split at h <;> (repeat' split at h) <;> cases h <;> first | exact .inl rfl | exact .inr rfl
theorem res_ok {w : W} {ts : List Str} {st ys : List PV} (ht : takesS w = some ts) (hst : ∀ v ∈ st, Okv v) (h : resS st w = .ok ys) :
    ∃ pre v, ys = pre ++ [v] ∧ ((∃ x y, st = pre ++ [x, y] ∧ calc2 w x y = some v) ∨ ∃ x, st = pre ++ [x] ∧ calc1 w x = some v) := by
  by_cases hl : st.length < ts.length
  · rw [res_few ht hl] at h; cases h
  · obtain ⟨pre, vs, rfl, hv, hp⟩ := split_at (st := st) (k := ts.length) (by omega)
    rcases res_takes (pre := pre) (vs := vs) ht hv fun v hm => hst v (by simp [hm]) with ⟨_, hr⟩ | ⟨_, v, hr, hc⟩
    · rw [hr] at h; cases h
    · rw [hr] at h; cases h
      refine ⟨pre, v, rfl, ?_⟩
      rcases hc with ⟨x, y, rfl, hc⟩ | ⟨x, rfl, hc⟩
      · exact .inl ⟨x, y, rfl, hc⟩
      · exact .inr ⟨x, rfl, hc⟩
theorem rev_get {st : List PV} {n : Nat} {v : PV} (h : st.reverse[n]? = some v) : n < st.length ∧ st[st.length - 1 - n]? = some v := by
  have hn : n < st.reverse.length := (List.getElem?_eq_some_iff.mp h).1
  rw [List.length_reverse] at hn
  rw [List.getElem?_reverse hn] at h
  exact ⟨hn, h⟩
theorem rev_cons {st r : List PV} {x : PV} (h : st.reverse = x :: r) : st = r.reverse ++ [x] := by
  have := congrArg List.reverse h
  simpa using this
theorem forR {st : PV → (Loc → AHeap → Prop) → Loc → AHeap → Prop} {N : Loc → AHeap → Prop} {n : Nat} (I : Nat → Loc → AHeap → Prop) (h0 : ∀ m H, I n m H → N m H)
    (h1 : ∀ j m H, j < n → I j m H → ∀ K : Loc → AHeap → Prop, (∀ m' H', I (j + 1) m' H' → K m' H') → st (.int j) K m H) (m : Loc) (H : AHeap) (hi : I 0 m H) :
    forW (fun _ => True) st N ((List.range n).map fun (i : Nat) => PV.int i) m H := by
  refine forW_ind (fun rest m H => ∃ j, j ≤ n ∧ rest = ((List.range n).drop j).map (fun (i : Nat) => PV.int i) ∧ I j m H) ?_ ?_ _ _ _ ⟨0, by omega, rfl, hi⟩
  · rintro m H ⟨j, hj, hr, h⟩
    have hl := congrArg List.length hr
    simp at hl
    have : j = n := by omega
    subst this
    exact ⟨trivial, h0 _ _ h⟩
  · rintro x xs m H ⟨j, hj, hr, h⟩
    refine ⟨trivial, fun K hK => ?_⟩
    have hjl : j < n := by
      apply Classical.byContradiction
      intro q
      rw [List.drop_eq_nil_of_le (by simp; omega)] at hr
      cases hr
    have hd : (List.range n).drop j = j :: (List.range n).drop (j + 1) := by
      rw [List.drop_eq_getElem_cons (by simpa using hjl)]; simp
    rw [hd] at hr
    cases hr
    exact h1 j m H hjl h K fun m' H' h' => hK _ _ ⟨j + 1, by omega, rfl, h'⟩
theorem eql_same {H : AHeap} {n : Nat} : ∀ {xs : List PV}, (∀ v ∈ xs, Okv v) → EqL H n xs xs true
  | [], _ => .nil
  | x :: xs, h => by
    have hx : EqV H n x x true := by
      rcases h x (by simp) with ⟨i, rfl, _⟩ | ⟨s, rfl, _⟩
      · have := EqV.int (H := H) (n := n) i i
        rwa [show (i == i) = true by simp] at this
      · have := EqV.str (H := H) (n := n) s s
        rwa [show (s == s) = true by simp] at this
    exact EqL.c hx (eql_same fun v hv => h v (List.mem_cons_of_mem _ hv))
end Mine
end
section
open PySem PySem.W PySem.Calls PyProof.Rows
namespace Mine
set_option autoImplicit false

theorem W_cut {g : Gl} {N : NPost} {R : Post} {X : SXPost} {m : Loc} {H : AHeap} {s : AS} {ss : ASs} (P : NPost) (h1 : ∀ K : NPost, (∀ m H, P m H → K m H) → awpS g s K R X m H) (h2 : ∀ m H, P m H → awpSs g ss N R X m H) :
    awpSs g (.cons s ss) N R X m H := h1 _ h2
theorem ExtB.over {H H₁ H₂ : AHeap} {t c : Addr} (hc : H c = none) (e : ExtB t H H₁) (b : ExtB c H₁ H₂) : ExtB t H H₂ := fun x o n h => b x o (ne_of h hc) (e x o n h)
theorem wanted_len {w : W} (h : w.ok) : (wantedS w).length ≤ 61 := by
  cases w <;> try (simp [wantedS]; done)
  rename_i n
  have : n ≤ 60 := h
  simp [wantedS]; omega
theorem kind_at {c : Addr} {H : AHeap} {r : Int} (h : H c = some (.list [.str "num", .str "text"])) (r0 : 0 ≤ r) (r1 : r < 2) : ∃ s : Str, itemAt [PV.str "num", PV.str "text"] r = some (.str s) := by
  have : r = 0 ∨ r = 1 := by omega
  rcases this with rfl | rfl
  · exact ⟨"num", rfl⟩
  · exact ⟨"text", rfl⟩
/-- a cut with a told follow-up -/
theorem W_cutC {g : Gl} {N : NPost} {R : Post} {X : SXPost} {m : Loc} {H : AHeap} {s : AS} {ss : ASs} (P : NPost → Prop) (h1 : ∀ K : NPost, P K → awpS g s K R X m H) (h2 : P fun m H => awpSs g ss N R X m H) :
    awpSs g (.cons s ss) N R X m H := h1 _ h2
theorem stack_ok : Ver spStack B_law_stack N_law_stack 3 := by
  intro ps H Q X h
  have hL : LIM = 1048576 := rfl
  obtain ⟨xs, t, w, n, rfl, hx, hw, ht, hn, hQ⟩ := h
  have hB : (2 : Nat) ^ 56 = 72057594037927936 := by decide
  have hB1 : (2 : Nat) ^ 58 = 288230376151711744 := by decide
  have hB' : (2 : Nat) ^ 59 = 576460752303423488 := by decide
  refine ⟨rfl, ?_⟩
  refine U_draw ?_
  refine ⟨xs, t, _, n, rfl, hx, ht, by omega, by omega, fun r H₁ r0 r1 h₁ e₁ => ?_⟩
  refine W_cutC (fun K => ∀ (size : Int) (H₂ : AHeap), 0 ≤ size → size ≤ 61 → H₂ t = some (.tape (n + 2)) → ExtB t H H₂ → K [some (.fls xs), some (.obj t), some (.tup w.row), some (.int size), none, none, none] H₂) ?_ ?_
  · intro K hK
    refine U_draw ?_
    refine ⟨xs, t, _, n + 1, rfl, hx, h₁, by omega, by omega, fun r' H₂ r0' r1' h₂ e₂ => ?_⟩
    refine O_ite (fun _ => ?_) (fun _ => ?_)
    · exact hK (r + 57) _ (by omega) (by omega) h₂ (e₁.trans e₂)
    · exact hK r _ (by omega) (by omega) h₂ (e₁.trans e₂)
  intro size H₂ z0 z1 h₂ e₂
  obtain ⟨size, rfl⟩ := Int.eq_ofNat_of_zero_le z0
  refine fun c H₃ hc h₃ e₃ => ?_
  have hcH : H c = none := by
    cases q : H c with
    | none => rfl
    | some o => rw [e₂.at (by rintro rfl; rw [h₂] at hc; cases hc) q] at hc; cases hc
  have htc : t ≠ c := ne_of h₂ hc
  refine W_cutC (fun K => ∀ (x5 : Option PV) (vs : List PV) (n' : Nat) (H' : AHeap), n' ≤ n + 200 → H' t = some (.tape n') → H' c = some (.list vs) → (∀ v ∈ vs, Okv v) → vs.length ≤ 61 → ExtB t H H' → K [some (.fls xs), some (.obj t), some (.tup w.row), some (.int size), some (.obj c), x5, none] H') ?_ ?_
  · intro K hK
    refine O_range (by omega) ?_
    refine forR (fun j m H' => ∃ x5 vs, m = [some (.fls xs), some (.obj t), some (.tup w.row), some (.int size), some (.obj c), x5, none] ∧ H' t = some (.tape (n + 2 + 3 * j)) ∧ H' c = some (.list vs) ∧ (∀ v ∈ vs, Okv v) ∧ vs.length = j ∧ ExtB t H H') ?_ ?_ _ _
      ⟨none, [], rfl, e₃.at h₂, h₃, by simp, rfl, e₂.trans (e₃.toB t)⟩
    · rintro m H' ⟨x5, vs, rfl, a1, a2, a3, a4, a5⟩
      exact hK x5 vs _ _ (by omega) a1 a2 a3 (by omega) a5
    · rintro j m H' hj ⟨x5, vs, rfl, a1, a2, a3, a4, a5⟩ K hK
      refine O_recv a2 rfl ?_
      refine fun d H₄ hd h₄ e₄ => ?_
      refine U_draw ?_
      refine ⟨xs, t, _, n + 2 + 3 * j, rfl, hx, e₄.at a1, by omega, by omega, fun r' H₅ r0' r1' h₅ e₅ => ?_⟩
      have hd₅ := e₅.at (Ne.symm (ne_of a1 hd)) h₄
      obtain ⟨s, hs⟩ := kind_at hd₅ r0' r1'
      refine O_subL hd₅ hs ?_
      refine U_value ?_
      refine ⟨xs, t, _, n + 2 + 3 * j + 1, rfl, hx, h₅, by omega, fun v H₆ hv hk h₆ e₆ => ?_⟩
      have hc₆ := e₆.at (Ne.symm htc) (e₅.at (Ne.symm htc) (e₄.at a2))
      refine O_append hc₆ (by omega) fun H₇ h₇ e₇ => ?_
      refine hK _ _ ⟨_, _, rfl, ?_, h₇, ?_, by simp [a4], ExtB.over hcH (((a5.trans (e₄.toB t)).trans e₅).trans e₆) e₇⟩
      · rw [e₇.at htc h₆]; congr 2
      · intro y hy
        rcases List.mem_append.mp hy with hy | hy
        · exact a3 y hy
        · rw [List.mem_singleton.mp hy]; exact hv
  intro x5 vs n' H₄ b0 b1 b2 b3 b4 b5
  refine W_cutC (fun K => ∀ (x6 : Option PV) (vs : List PV) (n' : Nat) (H' : AHeap), n' ≤ n + 400 → H' t = some (.tape n') → H' c = some (.list vs) → (∀ v ∈ vs, Okv v) → vs.length ≤ 122 → ExtB t H H' → K [some (.fls xs), some (.obj t), some (.tup w.row), some (.int size), some (.obj c), x5, x6] H') ?_ ?_
  · intro K hK
    refine U_wanted ?_
    refine ⟨w, rfl, hw, fun d H₅ hd h₅ e₅ => ?_⟩
    have hdt : d ≠ t := Ne.symm (ne_of b1 hd)
    have hdc : d ≠ c := Ne.symm (ne_of b2 hd)
    refine O_itL h₅ ?_
    have hwl := wanted_len hw
    refine forW_ind (fun rest m H' => ∃ (ss : List Str) (x6 : Option PV) (vs : List PV) (n' : Nat), rest = ss.map .str ∧ m = [some (.fls xs), some (.obj t), some (.tup w.row), some (.int size), some (.obj c), x5, x6] ∧ n' + 3 * ss.length ≤ n + 400 ∧ H' t = some (.tape n') ∧ H' c = some (.list vs) ∧ H' d = some (.list ((wantedS w).map .str)) ∧ (∀ v ∈ vs, Okv v) ∧ vs.length + ss.length ≤ 122 ∧ ExtB t H H') ?_ ?_ _ _ _
      ⟨_, none, vs, n', rfl, rfl, by omega, e₅.at b1, e₅.at b2, h₅, b3, by omega, b5.trans (e₅.toB t)⟩
    · rintro m H' ⟨ss, x6, vs, n', hr, rfl, a1, a2, a3, a4, a5, a6, a7⟩
      exact ⟨a4, hK x6 vs n' _ (by omega) a2 a3 a5 (by omega) a7⟩
    · rintro y ys m H' ⟨ss, x6, vs, n', hr, rfl, a1, a2, a3, a4, a5, a6, a7⟩
      cases ss with
      | nil => cases hr
      | cons s ss =>
      cases hr
      simp only [List.length_cons] at a1 a6
      refine ⟨a4, fun K hK => ?_⟩
      refine W_cutC (fun K => ∀ (k : Str) (n'' : Nat) (H'' : AHeap), n'' ≤ n' + 1 → H'' t = some (.tape n'') → H'' c = some (.list vs) → H'' d = some (.list ((wantedS w).map .str)) → ExtB t H H'' → K [some (.fls xs), some (.obj t), some (.tup w.row), some (.int size), some (.obj c), x5, some (.str k)] H'') ?_ ?_
      · intro K hK
        refine O_ite (fun _ => ?_) (fun _ => ?_)
        · refine fun f H₆ hf h₆ e₆ => ?_
          refine U_draw ?_
          refine ⟨xs, t, _, n', rfl, hx, e₆.at a2, by omega, by omega, fun r' H₇ r0' r1' h₇ e₇ => ?_⟩
          have hf₇ := e₇.at (Ne.symm (ne_of a2 hf)) h₆
          obtain ⟨k, hk⟩ := kind_at hf₇ r0' r1'
          refine O_subL hf₇ hk ?_
          exact hK k (n' + 1) _ (by omega) (h₇) (e₇.at (Ne.symm htc) (e₆.at a3)) (e₇.at hdt (e₆.at a4)) ((a7.trans (e₆.toB t)).trans e₇)
        · refine U_draw ?_
          refine ⟨xs, t, _, n', rfl, hx, a2, by omega, by omega, fun r' H₇ r0' r1' h₇ e₇ => ?_⟩
          refine O_ite (fun _ => ?_) (fun _ => ?_)
          · refine fun f H₆ hf h₆ e₆ => ?_
            obtain ⟨k, hk⟩ := kind_at h₆ (r := if (s == ("num" : Str)) then 1 else 0) (by split <;> omega) (by split <;> omega)
            refine O_subL h₆ hk ?_
            exact hK k (n' + 1) _ (by omega) (e₆.at h₇) (e₆.at (e₇.at (Ne.symm htc) a3)) (e₆.at (e₇.at hdt a4)) ((a7.trans e₇).trans (e₆.toB t))
          · exact hK s (n' + 1) _ (by omega) (h₇) (e₇.at (Ne.symm htc) a3) (e₇.at hdt a4) (a7.trans e₇)
      · intro k n'' H'' c1 c2 c3 c4 c5
        refine O_recv c3 rfl ?_
        refine U_value ?_
        refine ⟨xs, t, _, n'', rfl, hx, c2, by omega, fun v H₆ hv hk h₆ e₆ => ?_⟩
        refine O_append (e₆.at (Ne.symm htc) c3) (by omega) fun H₇ h₇ e₇ => ?_
        refine hK _ _ ⟨ss, _, _, n'' + 2, rfl, rfl, by omega, e₇.at htc h₆, h₇, e₇.at hdc (e₆.at hdt c4), ?_, by simp; omega, ExtB.over hcH (c5.trans e₆) e₇⟩
        intro y hy
        rcases List.mem_append.mp hy with hy | hy
        · exact a5 y hy
        · rw [List.mem_singleton.mp hy]; exact hv
  intro x6 vs n' H₅ b0 b1 b2 b3 b4 b5
  refine W_cutC (fun K => ∀ (vs : List PV) (n' : Nat) (H' : AHeap), n' ≤ n + 401 → H' t = some (.tape n') → H' c = some (.list vs) → (∀ v ∈ vs, Okv v) → vs.length ≤ 122 → ExtB t H H' → K [some (.fls xs), some (.obj t), some (.tup w.row), some (.int size), some (.obj c), x5, x6] H') ?_ ?_
  · intro K hK
    refine O_lenL b2 ?_
    refine O_ite (fun _ => ?_) (fun _ => ?_)
    · rename_i hgt
      have hgt' : 1 < vs.length := by simp at hgt; omega
      refine U_draw ?_
      refine ⟨xs, t, _, n', rfl, hx, b1, by omega, by omega, fun r' H₇ r0' r1' h₇ e₇ => ?_⟩
      have c2 := e₇.at (Ne.symm htc) b2
      refine O_ite (fun _ => ?_) (fun _ => ?_)
      · refine O_lenL c2 ?_
        have hg : vs[vs.length - 2]? = some vs[vs.length - 2] := List.getElem?_eq_getElem (by omega)
        refine O_subL c2 (itemAt_nat (n := vs.length - 2) (by omega) hg) ?_
        refine O_lenL c2 ?_
        refine O_storeL c2 (by omega) (by omega) fun H₈ h₈ e₈ => ?_
        refine hK _ (n' + 1) _ (by omega) (e₈.at htc h₇) h₈ ?_ (by simpa using b4) (ExtB.over hcH (b5.trans e₇) e₈)
        intro y hy
        rcases List.mem_or_eq_of_mem_set hy with hy | rfl
        · exact b3 y hy
        · exact b3 _ (List.getElem_mem _)
      · exact hK vs (n' + 1) _ (by omega) h₇ c2 b3 b4 (b5.trans e₇)
    · exact hK vs n' _ (by omega) b1 b2 b3 b4 b5
  clear b0 b1 b2 b3 b4 b5
  intro vs n' H₆ b0 b1 b2 b3 b4 b5
  refine U_draw ?_
  refine ⟨xs, t, _, n', rfl, hx, b1, by omega, by omega, fun r' H₇ r0' r1' h₇ e₇ => ?_⟩
  have c2 := e₇.at (Ne.symm htc) b2
  refine O_ite (fun _ => ?_) (fun _ => ?_)
  · refine O_lenL c2 ?_
    refine U_draw ?_
    refine ⟨xs, t, _, n' + 1, rfl, hx, h₇, by omega, by omega, fun z H₈ z0 z1 h₈ e₈ => ?_⟩
    refine O_fromL (e₈.at (Ne.symm htc) c2) fun d H₉ hd h₉ e₉ => ?_
    have hdH : H d = none := by
      cases q : H d with
      | none => rfl
      | some o => rw [((b5.trans e₇).trans e₈).at (by rintro rfl; rw [h₈] at hd; cases hd) q] at hd; cases hd
    refine hQ _ _ _ hdH h₉ (fun v hv => b3 v (List.mem_of_mem_drop hv)) (by simp; omega) (((b5.trans e₇).trans e₈).trans (e₉.toB t))
  · exact hQ _ _ _ hcH c2 b3 (by omega) (b5.trans e₇)
end Mine
end
section
open PySem PySem.W PySem.Calls PyProof.Rows
namespace Mine
set_option autoImplicit false

theorem show_len {i : Int} (h0 : 0 ≤ i) (h1 : i < 1000000000) : (Str.ofString (toString i)).length ≤ 60 := by
  obtain ⟨n, rfl⟩ := Int.eq_ofNat_of_zero_le h0
  rw [Str.ofString_eq_toList]
  show (((toString (n : Int)).toList.map Char.toNat).toArray).size ≤ 60
  have e : toString (n : Int) = n.repr := rfl
  rw [e]
  simp only [List.size_toArray, List.length_map]
  have h2 : n.repr.length ≤ 60 := by
    rw [Nat.length_repr_le_iff (by omega)]
    have : (10 : Nat) ^ 60 = 1000000000000000000000000000000000000000000000000000000000000 := by decide
    omega
  rw [String.length_toList]; exact h2
theorem cut60_len (s : Str) : (cut60 s).length ≤ 60 := by
  show (((s.cps.toList.take (cutAt s.length 60))).toArray).size ≤ 60
  have : cutAt s.length 60 ≤ 60 := by unfold cutAt; rw [if_pos (by omega)]; omega
  simp; omega
theorem calc2_okv {w : W} {x y v : PV} (h : calc2 w x y = some v) : Okv v := by
  rcases calc2_inv h with ⟨a, b, rfl, rfl, ⟨_, rfl⟩ | ⟨_, rfl⟩ | ⟨_, rfl⟩⟩ | ⟨s, u, rfl, rfl, _, rfl⟩
  · exact .inl ⟨_, rfl, mod_lt (by omega)⟩
  · exact .inl ⟨_, rfl, mod_lt (by omega)⟩
  · exact .inl ⟨_, rfl, by split <;> omega, by split <;> omega⟩
  · exact .inr ⟨_, rfl, cut60_len _⟩
theorem calc1_okv {w : W} {x v : PV} (ox : Okv x) (h : calc1 w x = some v) : Okv v := by
  rcases calc1_inv h with ⟨s, rfl, _, rfl⟩ | ⟨i, rfl, _, rfl⟩
  · have := okv_str ox
    exact .inl ⟨_, rfl, by omega, by omega⟩
  · have := okv_int ox
    exact .inr ⟨_, rfl, show_len this.1 this.2⟩
theorem res_okv {st ys : List PV} {w : W} (hw : w.ok) (hst : ∀ v ∈ st, Okv v) (h : resS st w = .ok ys) : (∀ v ∈ ys, Okv v) ∧ ys.length ≤ st.length + 1 := by
  have tk : ∀ ts, takesS w = some ts → (∀ v ∈ ys, Okv v) ∧ ys.length ≤ st.length + 1 := fun ts ht => by
    obtain ⟨pre, v, rfl, ⟨x, y, rfl, hc⟩ | ⟨x, rfl, hc⟩⟩ := res_ok ht hst h
    · refine ⟨fun z hz => ?_, by simp⟩
      rcases List.mem_append.mp hz with hz | hz
      · exact hst z (by simp [hz])
      · rw [List.mem_singleton.mp hz]; exact calc2_okv hc
    · refine ⟨fun z hz => ?_, by simp⟩
      rcases List.mem_append.mp hz with hz | hz
      · exact hst z (by simp [hz])
      · rw [List.mem_singleton.mp hz]; exact calc1_okv (hst x (by simp)) hc
  have one : ∀ v, Okv v → (∀ z ∈ st ++ [v], Okv z) ∧ (st ++ [v]).length ≤ st.length + 1 := fun v hv => by
    refine ⟨fun z hz => ?_, by simp⟩
    rcases List.mem_append.mp hz with hz | hz
    · exact hst z hz
    · rw [List.mem_singleton.mp hz]; exact hv
  cases w with
  | num i => cases h; exact one _ (.inl ⟨i, rfl, hw⟩)
  | text s => cases h; exact one _ (.inr ⟨s, rfl, hw⟩)
  | copy n =>
    simp only [resS] at h
    split at h
    · rename_i v hv
      cases h
      exact one _ (hst v (List.mem_reverse.mp (List.mem_of_getElem? hv)))
    · cases h
  | swap =>
    simp only [resS] at h
    split at h
    · rename_i b a r hq
      cases h
      have hs := rev_cons hq
      subst hs
      refine ⟨fun z hz => hst z ?_, by simp⟩
      simp at hz ⊢
      rcases hz with hz | hz | hz
      · exact .inl hz
      · exact .inr (.inr hz)
      · exact .inr (.inl hz)
    · cases h
  | drop =>
    simp only [resS] at h
    split at h
    · rename_i b r hq
      cases h
      have hs := rev_cons hq
      subst hs
      exact ⟨fun z hz => hst z (by simp at hz ⊢; exact .inl hz), by simp; omega⟩
    · cases h
  | add => exact tk _ rfl
  | mul => exact tk _ rfl
  | less => exact tk _ rfl
  | join => exact tk _ rfl
  | long => exact tk _ rfl
  | «show» => exact tk _ rfl

theorem lack_take {pre us ws : List Str} (h : us.length = ws.length) : lackS (pre ++ us) ws = if (ws.zip us).any (fun p => !(p.1 == ("" : Str)) && !(p.1 == p.2)) then ("kind" : Str) else ("" : Str) := by
  unfold lackS
  rw [if_neg (by simp; omega)]
  rw [show (pre ++ us).length - ws.length = pre.length by simp; omega, List.drop_left]
theorem lack_few {ks ws : List Str} (h : ks.length < ws.length) : lackS ks ws = "empty" := by unfold lackS; rw [if_pos h]
theorem lack_free {ks : List Str} {n : Nat} (h : n ≤ ks.length) : lackS ks (List.replicate n "") = "" := by
  refine lack_none (by simpa using h) fun i x y hx _ => .inl ?_
  have := List.mem_of_getElem? hx
  exact (List.mem_replicate.mp this).2
noncomputable def resW : Except Nat (List PV) → Str
  | .ok _ => "" | .error 1 => "empty" | .error _ => "kind"
theorem lack_res {st : List PV} {w : W} (hst : ∀ v ∈ st, Okv v) : lackS (st.map kindS) (wantedS w) = resW (resS st w) := by
  have tk : ∀ ts, takesS w = some ts → wantedS w = ts → lackS (st.map kindS) (wantedS w) = resW (resS st w) := fun ts ht hw => by
    by_cases hl : st.length < ts.length
    · rw [res_few ht hl, hw, lack_few (by simpa using hl)]; rfl
    · obtain ⟨pre, vs, rfl, hv, hp⟩ := split_at (st := st) (k := ts.length) (by omega)
      have ok : ∀ v ∈ vs, Okv v := fun v hm => hst v (by simp [hm])
      rw [hw, List.map_append, lack_take (by simpa using hv)]
      have hts : ts = (["num", "num"] : List Str) ∨ ts = (["text", "text"] : List Str) ∨ ts = (["text"] : List Str) ∨ ts = (["num"] : List Str) := by
        cases w <;> cases ht <;> simp
      have hz : (if (ts.zip (vs.map kindS)).any (fun p => !(p.1 == ("" : Str)) && !(p.1 == p.2)) then ("kind" : Str) else "") = if vs.map kindS = ts then ("" : Str) else ("kind" : Str) := by
        rcases hts with rfl | rfl | rfl | rfl
        · obtain ⟨x, y, rfl⟩ := rev_two hv
          have ox := ok x (by simp)
          have oy := ok y (by simp)
          rcases ox with ⟨i, rfl, _⟩ | ⟨s, rfl, _⟩ <;> rcases oy with ⟨j, rfl, _⟩ | ⟨u, rfl, _⟩ <;> kernel_rfl
        · obtain ⟨x, y, rfl⟩ := rev_two hv
          have ox := ok x (by simp)
          have oy := ok y (by simp)
          rcases ox with ⟨i, rfl, _⟩ | ⟨s, rfl, _⟩ <;> rcases oy with ⟨j, rfl, _⟩ | ⟨u, rfl, _⟩ <;> kernel_rfl
        · obtain ⟨x, rfl⟩ := rev_one hv
          have ox := ok x (by simp)
          rcases ox with ⟨i, rfl, _⟩ | ⟨s, rfl, _⟩ <;> kernel_rfl
        · obtain ⟨x, rfl⟩ := rev_one hv
          have ox := ok x (by simp)
          rcases ox with ⟨i, rfl, _⟩ | ⟨s, rfl, _⟩ <;> kernel_rfl
      rw [hz]
      rcases res_takes (pre := pre) (vs := vs) ht hv ok with ⟨hne, hr⟩ | ⟨he, v, hr, _⟩
      · rw [hr, if_neg hne]; rfl
      · rw [hr, if_pos he]; rfl
  have free : ∀ n, wantedS w = List.replicate n ("" : Str) → ((st.length < n ∧ resS st w = .error 1) ∨ (n ≤ st.length ∧ ∃ ys, resS st w = .ok ys)) → lackS (st.map kindS) (wantedS w) = resW (resS st w) := fun n hw hc => by
    rw [hw]
    rcases hc with ⟨hl, hr⟩ | ⟨hl, ys, hr⟩
    · rw [hr, lack_few (by simpa using hl)]; rfl
    · rw [hr, lack_free (by simpa using hl)]; rfl
  cases w with
  | num i => exact free 0 rfl (.inr ⟨by omega, _, rfl⟩)
  | text s => exact free 0 rfl (.inr ⟨by omega, _, rfl⟩)
  | copy n =>
    refine free (n + 1) rfl ?_
    simp only [resS]
    by_cases hl : st.length < n + 1
    · left
      refine ⟨hl, ?_⟩
      rw [List.getElem?_eq_none (by simp; omega)]
    · right
      refine ⟨by omega, ?_⟩
      rw [List.getElem?_eq_getElem (by simp; omega)]
      exact ⟨_, rfl⟩
  | swap =>
    refine free 2 rfl ?_
    by_cases hl : st.length < 2
    · left
      refine ⟨hl, ?_⟩
      match st, hl with
      | [], _ => rfl
      | [a], _ => rfl
      | _ :: _ :: _, h => simp at h; omega
    · right
      refine ⟨by omega, ?_⟩
      obtain ⟨pre, vs, rfl, hv, hp⟩ := split_at (st := st) (k := 2) (by omega)
      obtain ⟨x, y, rfl⟩ := rev_two hv
      exact ⟨pre ++ [y, x], by simp [resS]⟩
  | drop =>
    refine free 1 rfl ?_
    by_cases hl : st.length < 1
    · left
      refine ⟨hl, ?_⟩
      match st, hl with
      | [], _ => rfl
      | _ :: _, h => simp at h
    · right
      refine ⟨by omega, ?_⟩
      obtain ⟨pre, vs, rfl, hv, hp⟩ := split_at (st := st) (k := 1) (by omega)
      obtain ⟨x, rfl⟩ := rev_one hv
      exact ⟨pre, by simp [resS]⟩
  | add => exact tk _ rfl rfl
  | mul => exact tk _ rfl rfl
  | less => exact tk _ rfl rfl
  | join => exact tk _ rfl rfl
  | long => exact tk _ rfl rfl
  | «show» => exact tk _ rfl rfl
end Mine
end
section
open PySem PySem.W PySem.Calls PyProof.Rows
namespace Mine
set_option autoImplicit false

theorem cut_nat {L n : Nat} {z : Int} (hz : z = n) (h : n ≤ L) : cutAt L z = n := by subst hz; unfold cutAt; rw [if_pos (by omega)]; omega
theorem rev_getG {α : Type} {st : List α} {n : Nat} {v : α} (h : st.reverse[n]? = some v) : n < st.length ∧ st[st.length - 1 - n]? = some v := by
  have hn : n < st.reverse.length := (List.getElem?_eq_some_iff.mp h).1
  rw [List.length_reverse] at hn
  rw [List.getElem?_reverse hn] at h
  exact ⟨hn, h⟩
theorem split_atG {α : Type} {st : List α} {k : Nat} (h : k ≤ st.length) : ∃ pre vs, st = pre ++ vs ∧ vs.length = k :=
  ⟨st.take (st.length - k), st.drop (st.length - k), (List.take_append_drop _ _).symm, by simp; omega⟩
theorem get_mid {α : Type} {pre : List α} {x y : α} : (pre ++ [x, y])[pre.length]? = some x ∧ (pre ++ [x, y])[pre.length + 1]? = some y := by
  constructor <;> simp

theorem taken_ok : Ver spTaken B_taken N_taken 2 := by
  intro ps H Q X h
  have hL : LIM = 1048576 := rfl
  obtain ⟨ks, ts, rfl, hlen, hres⟩ := h
  refine ⟨rfl, ?_⟩
  refine O_ite (fun _ => ?_) (fun _ => ?_)
  · rename_i hlt
    rw [if_pos (by simp at hlt; omega)] at hres
    exact hres
  · rename_i hlt
    have hle : ts.length ≤ ks.length := by simp at hlt; omega
    rw [if_neg (by omega)] at hres
    refine O_fromT (ys := (ks.drop (ks.length - ts.length)).map .str) (by rw [List.length_map, List.length_map, cut_sub hle, List.map_drop]) ?_
    refine O_neT (eq_strs _ _) ?_
    refine O_ite (fun _ => ?_) (fun _ => ?_)
    · rename_i hq
      rw [if_neg (by simpa using hq)] at hres
      exact hres
    · rename_i hq
      rw [if_pos (by simpa using hq)] at hres
      refine O_toT (ys := (ks.take (ks.length - ts.length)).map .str) (by rw [List.length_map, List.length_map, cut_sub hle, List.map_take]) ?_
      exact hres
theorem moved_ok : Ver spMoved B_moved N_moved 2 := by
  intro ps H Q X h
  have hL : LIM = 1048576 := rfl
  obtain ⟨ks, w, rfl, hw, hlen, hwc, hres⟩ := h
  refine ⟨rfl, ?_⟩
  refine fun c H₁ hc h₁ e₁ => ?_
  rcases hwc with rfl | rfl | ⟨n, rfl⟩
  · refine O_subD h₁ (x := .int 2) (by kernel_rfl) ?_
    refine O_ite (fun _ => ?_) (fun _ => ?_)
    · rename_i hlt
      have hl : ks.length < 2 := by simp at hlt; omega
      have hr : resK ks .swap = .error 1 := by
        match ks, hl with
        | [], _ => rfl
        | [a], _ => rfl
        | _ :: _ :: _, h => simp at h; omega
      rw [hr] at hres
      exact hres _ e₁
    · rename_i hlt
      have hl : 2 ≤ ks.length := by simp at hlt; omega
      obtain ⟨pre, vs, rfl, hv⟩ := split_atG hl
      obtain ⟨x, y, rfl⟩ := rev_two hv
      have hr : resK (pre ++ [x, y]) .swap = .ok (pre ++ [y, x]) := by simp [resK]
      rw [hr] at hres
      refine O_toT (ys := pre.map .str) (by rw [cut_nat (n := pre.length) (by simp) (by simp), ← List.map_take, List.take_left]) ?_
      refine O_subT (itemAt_nat (n := pre.length + 1) (x := .str y) (by simp; omega) (by simp)) ?_
      refine O_subT (itemAt_nat (n := pre.length) (x := .str x) (by simp) (by simp)) ?_
      refine O_addT (by simp at hlen ⊢; omega) ?_
      have hq := hres _ e₁
      rw [List.map_append] at hq
      exact hq
  · refine O_subD h₁ (x := .int 1) (by kernel_rfl) ?_
    refine O_ite (fun _ => ?_) (fun _ => ?_)
    · rename_i hlt
      have hl : ks.length < 1 := by simp at hlt; omega
      have hr : resK ks .drop = .error 1 := by
        match ks, hl with
        | [], _ => rfl
        | _ :: _, h => simp at h
      rw [hr] at hres
      exact hres _ e₁
    · rename_i hlt
      have hl : 1 ≤ ks.length := by simp at hlt; omega
      obtain ⟨pre, vs, rfl, hv⟩ := split_atG hl
      obtain ⟨x, rfl⟩ := rev_one hv
      have hr : resK (pre ++ [x]) .drop = .ok pre := by simp [resK]
      rw [hr] at hres
      refine O_toT (ys := pre.map .str) (by rw [cut_nat (n := pre.length) (by simp) (by simp), ← List.map_take, List.take_left]) ?_
      exact hres _ e₁
  · refine O_ite (fun _ => ?_) (fun _ => ?_)
    · rename_i hlt
      have hl : ks.length < n + 1 := by simp at hlt; omega
      have hr : resK ks (.copy n) = .error 1 := by
        simp only [resK]
        rw [List.getElem?_eq_none (by simp; omega)]
      rw [hr] at hres
      exact hres _ e₁
    · rename_i hlt
      have hl : n + 1 ≤ ks.length := by simp at hlt; omega
      have hv : ks.reverse[n]? = some (ks.reverse[n]'(by simp; omega)) := List.getElem?_eq_getElem _
      revert hv
      generalize ks.reverse[n]'(by simp; omega) = v
      intro hv
      have hr : resK ks (.copy n) = .ok (ks ++ [v]) := by
        simp only [resK]; rw [hv]
      rw [hr] at hres
      obtain ⟨_, hg⟩ := rev_getG hv
      refine O_subT (itemAt_nat (n := ks.length - 1 - n) (x := .str v) (by rw [List.length_map]; omega) (by simp [hg])) ?_
      refine O_addT (by simp; omega) ?_
      have hq := hres _ e₁
      rw [List.map_append] at hq
      exact hq

theorem puts_get : ∀ {w : W} {ts : List Str}, takesS w = some ts → dget (puts01.map fun e => (e.1, PV.str e.2)) (wd w) = some (.str (putsS w)) := by
  intro w ts ht
  cases w <;> cases ht <;> kernel_rfl
theorem tak_eq {w : W} {ts : List Str} (h : takesS w = some ts) : takS w = ts := by cases w <;> cases h <;> rfl
theorem resK_takes {w : W} {ts ks : List Str} (h : takesS w = some ts) : resK ks w = if ks.length < ts.length then .error 1 else if ks.drop (ks.length - ts.length) = ts then .ok (ks.take (ks.length - ts.length) ++ [putsS w]) else .error 2 := by
  rw [← tak_eq h]
  cases w <;> cases h <;> rfl
theorem behind_takes {w : W} {ts : List Str} (ht : takesS w = some ts) {d : PV} {ks : List Str} {H : AHeap} {Q : Post} {X : XPost} (hlen : ks.length ≤ 1000)
    (hres : match resK ks w with | .ok ys => ∀ H', Ext H H' → Q (.tup (ys.map .str)) H' | .error e => ∀ H', Ext H H' → X e H') :
    awpSs g01 B_behind (fun _ H => Q .none H) Q (fun c _ H => X c H) (initL N_behind 3 [d, .tup (ks.map .str), .tup w.row]) H := by
  have hL : LIM = 1048576 := rfl
  have g0 : itemAt w.row 0 = some (.str (wd w)) := by cases w <;> rfl
  have nn : ∀ x ∈ (["num", "text", "copy", "swap", "drop", "call", "if"] : List Str), (wd w == x) = false := by
    cases w <;> cases ht <;> decide +kernel
  have n1 := nn "num" (by decide +kernel)
  have n2 := nn "text" (by decide +kernel)
  have n3 := nn "copy" (by decide +kernel)
  have n4 := nn "swap" (by decide +kernel)
  have n5 := nn "drop" (by decide +kernel)
  have n6 := nn "call" (by decide +kernel)
  have n7 := nn "if" (by decide +kernel)
  refine O_subT g0 ?_
  refine I_neg (by rw [n1]; decide) ?_
  refine I_neg (by rw [n2]; decide) ?_
  refine I_neg (by rw [n3]; decide) ?_
  refine I_neg (by rw [n4]; decide) ?_
  refine I_neg (by rw [n5]; decide) ?_
  refine I_neg (by rw [n6]; decide) ?_
  refine I_neg (by rw [n7]; decide) ?_
  refine O_glob G_takesK ?_
  refine O_subF (tk_get ht) ?_
  refine U_taken ?_
  refine ⟨ks, _, rfl, hlen, ?_⟩
  rw [resK_takes ht] at hres
  refine O_ite (fun _ => ?_) (fun _ => ?_)
  · rename_i q
    rw [if_pos q] at hres
    exact hres _ (Ext.refl H)
  · rename_i q
    rw [if_neg q] at hres
    refine O_ite (fun _ => ?_) (fun _ => ?_)
    · rename_i q'
      rw [if_pos q'] at hres
      refine O_glob G_puts ?_
      refine O_subF (puts_get ht) ?_
      refine O_addT (by simp; omega) ?_
      have hq := hres _ (Ext.refl H)
      rw [List.map_append] at hq
      exact hq
    · rename_i q'
      rw [if_neg q'] at hres
      exact hres _ (Ext.refl H)
set_option maxHeartbeats 1000000 in
theorem behind_ok : Ver spBehind B_behind N_behind 3 := by
  intro ps H Q X h
  have hL : LIM = 1048576 := rfl
  obtain ⟨d, ks, w, rfl, hw, hlen, hres⟩ := h
  refine ⟨rfl, ?_⟩
  cases w with
  | num i =>
    refine O_addT (by simp; omega) ?_
    have hq := hres _ (Ext.refl H)
    rw [List.map_append] at hq
    exact hq
  | text s =>
    refine O_addT (by simp; omega) ?_
    have hq := hres _ (Ext.refl H)
    rw [List.map_append] at hq
    exact hq
  | copy n =>
    refine U_moved ?_
    exact ⟨ks, .copy n, rfl, hw, hlen, .inr (.inr ⟨n, rfl⟩), hres⟩
  | swap =>
    refine U_moved ?_
    exact ⟨ks, .swap, rfl, hw, hlen, .inl rfl, hres⟩
  | drop =>
    refine U_moved ?_
    exact ⟨ks, .drop, rfl, hw, hlen, .inr (.inl rfl), hres⟩
  | add => exact behind_takes (w := .add) rfl hlen hres
  | mul => exact behind_takes (w := .mul) rfl hlen hres
  | less => exact behind_takes (w := .less) rfl hlen hres
  | join => exact behind_takes (w := .join) rfl hlen hres
  | long => exact behind_takes (w := .long) rfl hlen hres
  | «show» => exact behind_takes (w := .show) rfl hlen hres
theorem byk_ok : Ver spByK B_law_by_kinds N_law_by_kinds 2 := by
  intro ps H Q X h
  obtain ⟨ks, w, rfl, hw, hlen, hres⟩ := h
  refine ⟨rfl, ?_⟩
  refine fun c H₁ hc h₁ e₁ => ?_
  refine U_behind ?_
  refine ⟨_, ks, w, rfl, hw, hlen, ?_⟩
  have herr : ∀ e, resK ks w = .error e → e = 1 ∨ e = 2 := fun e h => by
    unfold resK at h
    split at h <;> (repeat' split at h) <;> cases h <;> first | exact .inl rfl | exact .inr rfl
  cases hr : resK ks w with
  | ok ys => rw [hr] at hres; exact fun H' e => hres H' (e₁.trans e)
  | error e =>
    rw [hr] at hres
    intro H' hE
    have hq := hres H' (e₁.trans hE)
    rcases herr e hr with rfl | rfl
    · exact hq
    · exact hq
theorem byv_ok : Ver spByV B_law_by_values N_law_by_values 2 := by
  intro ps H Q X h
  obtain ⟨a, st, w, rfl, hw, ha, hst, hlen, hres⟩ := h
  refine ⟨rfl, ?_⟩
  refine U_done ?_
  refine ⟨a, st, w, rfl, hw, ha, hst, hlen, ?_⟩
  cases hr : resS st w with
  | ok ys => rw [hr] at hres; exact hres
  | error e =>
    rw [hr] at hres
    intro H' hE
    have hq := hres H' hE
    rcases res_err hr with rfl | rfl
    · exact hq
    · exact hq
theorem tuple_ok : Ver spTuple B_law_tuple N_law_tuple 2 := by
  intro ps H Q X h
  have hL : LIM = 1048576 := rfl
  obtain ⟨ks, a, rfl, ha, hlen, hQ⟩ := h
  refine ⟨rfl, ?_⟩
  refine O_lenL ha ?_
  refine I_neg (by simp) ?_
  refine O_lenL ha ?_
  refine O_range (by simp; omega) ?_
  refine forR (fun j m H' => H' = H ∧ ∃ x2, m = [some (.tup (ks.map .str)), some (.obj a), x2]) ?_ ?_ _ _ ⟨rfl, none, rfl⟩
  · rintro m H' ⟨rfl, x2, rfl⟩
    exact hQ
  · rintro j m H' hj ⟨rfl, x2, rfl⟩ K hK
    have hj' : j < ks.length := by simpa using hj
    have hg : (ks.map PV.str)[j]? = some (.str ks[j]) := by simp [hj']
    refine O_subT (itemAt_nat rfl hg) ?_
    refine O_subT (itemAt_nat rfl hg) ?_
    refine O_subL ha (itemAt_nat rfl hg) ?_
    refine I_neg (by simp) ?_
    exact hK _ _ ⟨rfl, _, rfl⟩
end Mine
end
section
open PySem PySem.W PySem.Calls PyProof.Rows
namespace Mine
set_option autoImplicit false

theorem calc2_puts {w : W} {x y v : PV} {ts : List Str} (h : calc2 w x y = some v) (ht : takesS w = some ts) : kindS v = putsS w := by
  rcases calc2_inv h with ⟨a, b, rfl, rfl, ⟨rfl, rfl⟩ | ⟨rfl, rfl⟩ | ⟨rfl, rfl⟩⟩ | ⟨s, u, rfl, rfl, rfl, rfl⟩ <;> rfl
theorem calc1_puts {w : W} {x v : PV} {ts : List Str} (h : calc1 w x = some v) (ht : takesS w = some ts) : kindS v = putsS w := by
  rcases calc1_inv h with ⟨s, rfl, rfl, rfl⟩ | ⟨i, rfl, rfl, rfl⟩ <;> rfl
noncomputable def mapK : Except Nat (List PV) → Except Nat (List Str)
  | .ok zs => .ok (zs.map kindS) | .error e => .error e
theorem res_kinds {st : List PV} {w : W} (hst : ∀ v ∈ st, Okv v) : resK (st.map kindS) w = mapK (resS st w) := by
  have tk : ∀ ts, takesS w = some ts → resK (st.map kindS) w = mapK (resS st w) := fun ts ht => by
    rw [resK_takes ht]
    by_cases hl : st.length < ts.length
    · rw [res_few ht hl, if_pos (by simpa using hl)]; rfl
    · obtain ⟨pre, vs, rfl, hv, hp⟩ := split_at (st := st) (k := ts.length) (by omega)
      have ok : ∀ v ∈ vs, Okv v := fun v hm => hst v (by simp [hm])
      rw [if_neg (by simp; omega)]
      have hd : (List.map kindS (pre ++ vs)).length - ts.length = (pre.map kindS).length := by simp; omega
      rw [hd, List.map_append, List.drop_left, List.take_left]
      rcases res_takes (pre := pre) (vs := vs) ht hv ok with ⟨hne, hr⟩ | ⟨he, v, hr, hc⟩
      · rw [hr, if_neg hne]; rfl
      · rw [hr, if_pos he]
        have : kindS v = putsS w := by
          rcases hc with ⟨x, y, _, hc⟩ | ⟨x, _, hc⟩
          · exact calc2_puts hc ht
          · exact calc1_puts hc ht
        simp [mapK, this]
  cases w with
  | num i => simp [resK, resS, mapK, kindS]
  | text s => simp [resK, resS, mapK, kindS]
  | copy n =>
    simp only [resK, resS]
    rw [← List.map_reverse, List.getElem?_map]
    cases st.reverse[n]? with
    | none => rfl
    | some v => simp [mapK]
  | swap =>
    simp only [resK, resS]
    rw [← List.map_reverse]
    match st.reverse with
    | [] => rfl
    | [a] => rfl
    | b :: a :: r => simp [mapK]
  | drop =>
    simp only [resK, resS]
    rw [← List.map_reverse]
    match st.reverse with
    | [] => rfl
    | b :: r => simp [mapK]
  | add => exact tk _ rfl
  | mul => exact tk _ rfl
  | less => exact tk _ rfl
  | join => exact tk _ rfl
  | long => exact tk _ rfl
  | «show» => exact tk _ rfl

theorem resK_ok {w : W} {ts ks ys : List Str} (ht : takesS w = some ts) (h : resK ks w = .ok ys) : ∃ pre, ks = pre ++ ts ∧ ys = pre ++ [putsS w] := by
  rw [resK_takes ht] at h
  split at h
  · cases h
  · rename_i hl
    split at h
    · rename_i hd
      cases h
      refine ⟨ks.take (ks.length - ts.length), ?_, rfl⟩
      have := (List.take_append_drop (ks.length - ts.length) ks).symm
      rw [hd] at this
      exact this
    · cases h
theorem wants_eq {w : W} {ts : List Str} (h : takesS w = some ts) : wantedS w = ts := by cases w <;> cases h <;> rfl
theorem plainly_takes {w : W} {ts : List Str} (ht : takesS w = some ts) {a : Addr} {ks ys : List Str} {H : AHeap} {Q : Post} {X : XPost} (hw : w.ok) (ha : H a = some (.list (ks.map .str))) (hlen : ks.length ≤ 1000) (hr : resK ks w = .ok ys)
    (hQ : ∀ c H', H' c = some (.list (ys.map .str)) → Ext H H' → Q (.obj c) H') :
    awpSs g01 B_law_plainly (fun _ H => Q .none H) Q (fun c _ H => X c H) (initL N_law_plainly 2 [.obj a, .tup w.row]) H := by
  have hL : LIM = 1048576 := rfl
  have g0 : itemAt w.row 0 = some (.str (wd w)) := by cases w <;> rfl
  have nn : ∀ x ∈ (["copy", "swap", "drop", "text"] : List Str), (wd w == x) = false := by
    cases w <;> cases ht <;> decide +kernel
  have hp : putsS w = (if (wd w == ("join" : Str)) then ("text" : Str) else if (wd w == ("show" : Str)) then ("text" : Str) else ("num" : Str)) := by
    cases w <;> cases ht <;> decide +kernel
  have n1 := nn "copy" (by decide +kernel)
  have n2 := nn "swap" (by decide +kernel)
  have n3 := nn "drop" (by decide +kernel)
  have n4 := nn "text" (by decide +kernel)
  obtain ⟨pre, rfl, rfl⟩ := resK_ok ht hr
  refine O_lenL ha ?_
  refine U_wanted ?_
  refine ⟨w, rfl, hw, fun d H₁ hd h₁ e₁ => ?_⟩
  refine O_lenL h₁ ?_
  refine O_toL (e₁.at ha) fun c H₂ hc h₂ e₂ => ?_
  simp only [List.length_map] at h₂
  have e₁₂ := e₁.trans e₂
  rw [wants_eq ht, cut_sub (by simp), ← List.map_take, List.length_append, Nat.add_sub_cancel, List.take_left] at h₂
  have fin : ∀ (s : Str) (b z : Addr) (H₃ H₄ : AHeap), s = putsS w → Ext H₂ H₃ → H₄ z = some (.list (List.map PV.str pre ++ [PV.str s])) → Ext H₃ H₄ → Q (.obj z) H₄ := fun s b z H₃ H₄ hs e₃ h₄ e₄ =>
    hQ _ _ (by rw [h₄, hs]; simp) ((e₁₂.trans e₃).trans e₄)
  refine O_subT g0 ?_
  refine I_neg (by rw [n1]; decide) ?_
  refine O_subT g0 ?_
  refine I_neg (by rw [n2]; decide) ?_
  refine O_subT g0 ?_
  refine I_neg (by rw [n3]; decide) ?_
  refine O_subT g0 ?_
  refine I_neg (by rw [n4]; decide) ?_
  refine O_subT g0 ?_
  refine O_ite (fun _ => ?_) (fun _ => ?_)
  · rename_i q
    refine fun b H₃ hb h₃ e₃ => ?_
    refine O_addL (e₃.at h₂) h₃ (by simp at hlen ⊢; omega) fun z H₄ hz h₄ e₄ => ?_
    exact fin _ b z H₃ H₄ (by rw [hp, if_pos q]) e₃ h₄ e₄
  · rename_i q
    refine O_subT g0 ?_
    refine O_ite (fun _ => ?_) (fun _ => ?_)
    · rename_i q'
      refine fun b H₃ hb h₃ e₃ => ?_
      refine O_addL (e₃.at h₂) h₃ (by simp at hlen ⊢; omega) fun z H₄ hz h₄ e₄ => ?_
      exact fin _ b z H₃ H₄ (by rw [hp, if_neg q, if_pos q']) e₃ h₄ e₄
    · rename_i q'
      refine fun b H₃ hb h₃ e₃ => ?_
      refine O_addL (e₃.at h₂) h₃ (by simp at hlen ⊢; omega) fun z H₄ hz h₄ e₄ => ?_
      exact fin _ b z H₃ H₄ (by rw [hp, if_neg q, if_neg q']) e₃ h₄ e₄
set_option maxHeartbeats 1000000 in
theorem plainly_ok : Ver spPlainly B_law_plainly N_law_plainly 2 := by
  intro ps H Q X h
  have hL : LIM = 1048576 := rfl
  obtain ⟨a, ks, ys, w, rfl, hw, ha, hlen, hr, hQ⟩ := h
  refine ⟨rfl, ?_⟩
  cases w with
  | num i =>
    refine O_lenL ha ?_
    refine U_wanted ?_
    refine ⟨_, rfl, hw, fun d H₁ hd h₁ e₁ => ?_⟩
    refine O_lenL h₁ ?_
    refine O_toL (e₁.at ha) fun c H₂ hc h₂ e₂ => ?_
    simp only [List.length_map] at h₂
    have e₁₂ := e₁.trans e₂
    have a₂ := e₁₂.at ha
    cases hr
    rw [show ((wantedS (.num i)).length : Int) = ((0 : Nat) : Int) from rfl, cut_sub (by omega), Nat.sub_zero, ← List.map_take, List.take_length] at h₂
    refine fun b H₃ hb h₃ e₃ => ?_
    refine O_addL (e₃.at h₂) h₃ (by simp; omega) fun z H₄ hz h₄ e₄ => ?_
    exact hQ _ _ (by rw [h₄]; simp) ((e₁₂.trans e₃).trans e₄)
  | text i =>
    refine O_lenL ha ?_
    refine U_wanted ?_
    refine ⟨_, rfl, hw, fun d H₁ hd h₁ e₁ => ?_⟩
    refine O_lenL h₁ ?_
    refine O_toL (e₁.at ha) fun c H₂ hc h₂ e₂ => ?_
    simp only [List.length_map] at h₂
    have e₁₂ := e₁.trans e₂
    have a₂ := e₁₂.at ha
    cases hr
    rw [show ((wantedS (.text i)).length : Int) = ((0 : Nat) : Int) from rfl, cut_sub (by omega), Nat.sub_zero, ← List.map_take, List.take_length] at h₂
    refine fun b H₃ hb h₃ e₃ => ?_
    refine O_addL (e₃.at h₂) h₃ (by simp; omega) fun z H₄ hz h₄ e₄ => ?_
    exact hQ _ _ (by rw [h₄]; simp) ((e₁₂.trans e₃).trans e₄)
  | copy n =>
    refine O_lenL ha ?_
    refine U_wanted ?_
    refine ⟨_, rfl, hw, fun d H₁ hd h₁ e₁ => ?_⟩
    refine O_lenL h₁ ?_
    refine O_toL (e₁.at ha) fun c H₂ hc h₂ e₂ => ?_
    simp only [List.length_map] at h₂
    have e₁₂ := e₁.trans e₂
    have a₂ := e₁₂.at ha
    simp only [resK] at hr
    split at hr
    · rename_i v hv
      cases hr
      obtain ⟨hn, hg⟩ := rev_getG hv
      refine O_lenL a₂ ?_
      refine O_subL a₂ (itemAt_nat (n := ks.length - 1 - n) (x := .str v) (by simp; omega) (by simp [hg])) ?_
      refine fun b H₃ hb h₃ e₃ => ?_
      refine O_addL (e₃.at a₂) h₃ (by simp; omega) fun z H₄ hz h₄ e₄ => ?_
      exact hQ _ _ (by rw [h₄]; simp) ((e₁₂.trans e₃).trans e₄)
    · cases hr
  | swap =>
    refine O_lenL ha ?_
    refine U_wanted ?_
    refine ⟨_, rfl, hw, fun d H₁ hd h₁ e₁ => ?_⟩
    refine O_lenL h₁ ?_
    refine O_toL (e₁.at ha) fun c H₂ hc h₂ e₂ => ?_
    simp only [List.length_map] at h₂
    have e₁₂ := e₁.trans e₂
    have a₂ := e₁₂.at ha
    simp only [resK] at hr
    split at hr
    · rename_i y x r hq
      cases hr
      have hs : ks = r.reverse ++ [x, y] := by
        have := congrArg List.reverse hq
        simpa using this
      subst hs
      rw [show ((wantedS .swap).length : Int) = ((2 : Nat) : Int) from rfl, cut_sub (by simp), ← List.map_take, show (r.reverse ++ [x, y]).length - 2 = r.reverse.length by simp, List.take_left] at h₂
      refine O_subL a₂ (x := .str y) (by unfold itemAt; rw [if_neg (by omega), if_pos (by simp; omega)]; rw [show ((-1 : Int) + ((r.reverse ++ [x, y]).map PV.str).length).toNat = r.length + 1 by simp; omega]; simp) ?_
      refine O_subL a₂ (x := .str x) (by unfold itemAt; rw [if_neg (by omega), if_pos (by simp; omega)]; rw [show ((-2 : Int) + ((r.reverse ++ [x, y]).map PV.str).length).toNat = r.length by simp; omega]; simp) ?_
      refine fun b H₃ hb h₃ e₃ => ?_
      refine O_addL (e₃.at h₂) h₃ (by simp at hlen ⊢; omega) fun z H₄ hz h₄ e₄ => ?_
      exact hQ _ _ (by rw [h₄]; simp) ((e₁₂.trans e₃).trans e₄)
    · cases hr
  | drop =>
    refine O_lenL ha ?_
    refine U_wanted ?_
    refine ⟨_, rfl, hw, fun d H₁ hd h₁ e₁ => ?_⟩
    refine O_lenL h₁ ?_
    refine O_toL (e₁.at ha) fun c H₂ hc h₂ e₂ => ?_
    simp only [List.length_map] at h₂
    have e₁₂ := e₁.trans e₂
    have a₂ := e₁₂.at ha
    simp only [resK] at hr
    split at hr
    · rename_i y r hq
      cases hr
      have hs : ks = r.reverse ++ [y] := by
        have := congrArg List.reverse hq
        simpa using this
      subst hs
      rw [show ((wantedS .drop).length : Int) = ((1 : Nat) : Int) from rfl, cut_sub (by simp), ← List.map_take, show (r.reverse ++ [y]).length - 1 = r.reverse.length by simp, List.take_left] at h₂
      exact hQ _ _ h₂ e₁₂
    · cases hr
  | add => exact plainly_takes (w := .add) rfl hw ha hlen hr hQ
  | mul => exact plainly_takes (w := .mul) rfl hw ha hlen hr hQ
  | less => exact plainly_takes (w := .less) rfl hw ha hlen hr hQ
  | join => exact plainly_takes (w := .join) rfl hw ha hlen hr hQ
  | long => exact plainly_takes (w := .long) rfl hw ha hlen hr hQ
  | «show» => exact plainly_takes (w := .show) rfl hw ha hlen hr hQ
set_option maxHeartbeats 1000000 in
theorem law_ok : Ver spLaw B_law N_law 1 := by
  intro ps H Q X h
  have hL : LIM = 1048576 := rfl
  obtain ⟨xs, rfl, hx, hQ⟩ := h
  have hB : (2 : Nat) ^ 56 = 72057594037927936 := by decide
  have hB1 : (2 : Nat) ^ 57 = 144115188075855872 := by decide
  refine ⟨rfl, ?_⟩
  refine fun t H₁ ht h₁ e₁ => ?_
  refine U_plain ?_
  refine ⟨xs, t, 0, rfl, hx, h₁, by omega, fun w n' H₂ hw hn' h₂ e₂ => ?_⟩
  refine U_stack ?_
  refine ⟨xs, t, w, n', rfl, hx, hw, h₂, by omega, fun c st H₃ hc h₃ hst hlen e₃ => ?_⟩
  refine O_itL h₃ ?_
  refine compW_ind (fun rest acc H' => ∃ us vs : List PV, st = us ++ vs ∧ rest = vs ∧ acc = us.map (fun v => PV.str (kindS v)) ∧ Ext H₃ H') ?_ ?_ _ _ _ ⟨[], st, rfl, rfl, rfl, Ext.refl _⟩
  · rintro acc H₄ ⟨us, vs, hs, rfl, rfl, e₄⟩
    rw [List.append_nil] at hs
    subst hs
    refine ⟨e₄.at h₃, ?_⟩
    refine fun d H₅ hd h₅ e₅ => ?_
    have e₃₅ := e₄.trans e₅
    have h₅' : H₅ d = some (.list ((st.map kindS).map .str)) := by rw [h₅, List.map_map]; rfl
    have hkl : (st.map kindS).length ≤ 1000 := by simp; omega
    refine O_listL (e₃₅.at h₃) fun z H₆ hz h₆ e₆ => ?_
    have e₃₆ := e₃₅.trans e₆
    refine U_kinds ?_
    refine ⟨z, st, rfl, h₆, hst, by omega, fun H₇ e₇ => ?_⟩
    have e₃₇ := e₃₆.trans e₇
    refine U_tuple ?_
    refine ⟨st.map kindS, d, by rw [List.map_map]; rfl, e₇.at (e₆.at h₅'), hkl, ?_⟩
    refine O_neT (.val (.list (n := 39) (e₇.at h₆) (e₃₇.at h₃) (eql_same hst))) ?_
    refine U_wanted ?_
    refine ⟨w, rfl, hw, fun f H₈ hf h₈ e₈ => ?_⟩
    have e₃₈ := e₃₇.trans e₈
    have d₈ := e₈.at (e₇.at (e₆.at h₅'))
    refine U_lack ?_
    refine ⟨d, f, st.map kindS, wantedS w, rfl, d₈, h₈, by simp; omega, by have := wanted_len hw; omega, ?_⟩
    rw [lack_res hst]
    refine O_tupL d₈ ?_
    refine U_byk ?_
    refine ⟨st.map kindS, w, rfl, hw, hkl, ?_⟩
    rw [res_kinds hst]
    cases hr : resS st w with
    | error e =>
      intro H₉ e₉
      refine O_listL (e₉.at (e₃₈.at h₃)) fun y H₁₀ hy h₁₀ e₁₀ => ?_
      refine U_byv ?_
      refine ⟨y, st, w, rfl, hw, h₁₀, hst, by omega, ?_⟩
      rw [hr]
      intro H₁₁ e₁₁
      have hwd : resW (.error e) = if e = 1 then ("empty" : Str) else ("kind" : Str) := by
        rcases res_err hr with rfl | rfl <;> rfl
      rw [hwd]
      refine I_pos (by rcases res_err hr with rfl | rfl <;> decide +kernel) ?_
      refine I_pos (by simp) ?_
      have hq : Q (.bool ((if e = 1 then ("empty" : Str) else ("kind" : Str)) == (if e = 1 then ("empty" : Str) else ("kind" : Str)))) H₁₁ := by rw [beq_self_eq_true]; exact hQ _
      exact hq
    | ok zs =>
      obtain ⟨hzs, hzl⟩ := res_okv hw hst hr
      have hk : resK (st.map kindS) w = .ok (zs.map kindS) := by rw [res_kinds hst, hr]; rfl
      intro H₉ e₉
      refine O_listL (e₉.at (e₃₈.at h₃)) fun y H₁₀ hy h₁₀ e₁₀ => ?_
      refine U_byv ?_
      refine ⟨y, st, w, rfl, hw, h₁₀, hst, by omega, ?_⟩
      rw [hr]
      intro b H₁₁ hb h₁₁ e₁₁
      have d₁₁ := e₁₁.at (e₁₀.at (e₉.at d₈))
      refine U_plainly ?_
      refine ⟨d, st.map kindS, zs.map kindS, w, rfl, hw, d₁₁, hkl, hk, fun u H₁₂ h₁₂ e₁₂ => ?_⟩
      refine U_tuple ?_
      refine ⟨zs.map kindS, u, rfl, h₁₂, by simp; omega, ?_⟩
      refine O_isL (e₁₂.at h₁₁) rfl ?_
      refine O_itL (e₁₂.at h₁₁) ?_
      refine compW_ind (fun rest acc H' => ∃ us vs : List PV, zs = us ++ vs ∧ rest = vs ∧ acc = us.map (fun v => PV.str (kindS v)) ∧ Ext H₁₂ H') ?_ ?_ _ _ _ ⟨[], zs, rfl, rfl, rfl, Ext.refl _⟩
      · rintro acc H₁₃ ⟨us, vs, hs, rfl, rfl, e₁₃⟩
        rw [List.append_nil] at hs
        subst hs
        refine ⟨e₁₃.at (e₁₂.at h₁₁), ?_⟩
        refine fun v H₁₄ hv h₁₄ e₁₄ => ?_
        have h₁₄' : H₁₄ v = some (.list ((zs.map kindS).map .str)) := by rw [h₁₄, List.map_map]; rfl
        have heq := EqL.strs (H := H₁₄) (n := 39) (zs.map kindS) (zs.map kindS)
        rw [decide_eq_true (rfl : zs.map kindS = zs.map kindS)] at heq
        exact O_eqT (.val (.list (n := 39) h₁₄' (e₁₄.at (e₁₃.at h₁₂)) heq)) (hQ _)
      · rintro x rest acc H₁₃ ⟨us, vs, hs, rfl, rfl, e₁₃⟩
        refine ⟨e₁₃.at (e₁₂.at h₁₁), fun K hK => ?_⟩
        have ox : Okv x := hzs x (by rw [hs]; simp)
        refine fun v H₁₄ hv h₁₄ e₁₄ => ?_
        have fin : ∀ H', Ext H₁₂ H' → K [.str (kindS x)] H' := fun H' e => hK _ _ ⟨us ++ [x], rest, by rw [hs]; simp, rfl, by simp, e⟩
        rcases ox with ⟨i, rfl, _⟩ | ⟨s, rfl, _⟩
        · refine O_subL h₁₄ (itemAt_nat (n := 0) rfl rfl) ?_
          exact fin _ (e₁₃.trans e₁₄)
        · refine O_subL h₁₄ (itemAt_nat (n := 1) rfl rfl) ?_
          exact fin _ (e₁₃.trans e₁₄)
  · rintro x rest acc H₄ ⟨us, vs, hs, rfl, rfl, e₄⟩
    refine ⟨e₄.at h₃, fun K hK => ?_⟩
    have ox : Okv x := hst x (by rw [hs]; simp)
    refine fun d H₅ hd h₅ e₅ => ?_
    have fin : ∀ H', Ext H₃ H' → K [.str (kindS x)] H' := fun H' e => hK _ _ ⟨us ++ [x], rest, by rw [hs]; simp, rfl, by simp, e⟩
    rcases ox with ⟨i, rfl, _⟩ | ⟨s, rfl, _⟩
    · refine O_subL h₅ (itemAt_nat (n := 0) rfl rfl) ?_
      exact fin _ (e₄.trans e₅)
    · refine O_subL h₅ (itemAt_nat (n := 1) rfl rfl) ?_
      exact fin _ (e₄.trans e₅)
end Mine
namespace Mine
theorem blockof_ok : Ver spNo B_block_of N_block_of 2 := fun h => h.elim
theorem called_ok : Ver spNo B_called N_called 3 := fun h => h.elim
end Mine
end
section
open PySem PySem.W PySem.Calls PyProof.Rows
namespace Mine
set_option autoImplicit false
set_option maxRecDepth 100000
section
variable {prog : Program} {w : World} {B : Heap} {mg mb : Str → Option Value} {loose : List Str} {mean : ExcName → Option Value}
noncomputable def cxL (prog : Program) (w : World) (B : Heap) : Cx := { prog := prog, w := w, B := B, cls := fun c => csL[c]?, icls := fun _ => none, ga := mainGlobals, ba := builtinsNs }
theorem ci_BOUND (P : Params) : intChk (_root_.Mine.hd.heap_39 P) "BOUND" 1000000000 = true := by kernel_rfl
theorem ci_LONGEST (P : Params) : intChk (_root_.Mine.hd.heap_39 P) "LONGEST" 60 = true := by kernel_rfl
theorem cr_TAKES_rows (P : Params) : kmg (_root_.Mine.hd.heap_39 P) "TAKES_rows" = some (.ref (refAt (_root_.Mine.hd.heap_39 P) "TAKES_rows")) := by kernel_rfl
theorem cl_TAKES_rows (P : Params) : (_root_.Mine.hd.heap_39 P).lookup (refAt (_root_.Mine.hd.heap_39 P) "TAKES_rows") = some { cls := .type "dict", data := .dict (entV P (dictL (_root_.Mine.hd.heap_39 P) (refAt (_root_.Mine.hd.heap_39 P) "TAKES_rows"))) (dictEp (_root_.Mine.hd.heap_39 P) (refAt (_root_.Mine.hd.heap_39 P) "TAKES_rows")) } := by kernel_rfl
theorem ck_TAKES_rows (P : Params) : (dictL (_root_.Mine.hd.heap_39 P) (refAt (_root_.Mine.hd.heap_39 P) "TAKES_rows")).map (·.1) = (takes01.map fun e => (e.1, PV.tup (e.2.map .str))).map (·.1) := by kernel_rfl
theorem cn_TAKES_rows : ((takes01.map fun e => (e.1, PV.tup (e.2.map .str))).map (·.1)).Nodup := by decide +kernel
theorem cv_TAKES_rows (P : Params) : (((dictL (_root_.Mine.hd.heap_39 P) (refAt (_root_.Mine.hd.heap_39 P) "TAKES_rows")).zip (takes01.map fun e => (e.1, PV.tup (e.2.map .str)))).all fun e => valChk (_root_.Mine.hd.heap_39 P) e.1.2.2 e.2.2) = true := by kernel_rfl
theorem cr_TAKES_kinds (P : Params) : kmg (_root_.Mine.hd.heap_39 P) "TAKES_kinds" = some (.ref (refAt (_root_.Mine.hd.heap_39 P) "TAKES_kinds")) := by kernel_rfl
theorem cl_TAKES_kinds (P : Params) : (_root_.Mine.hd.heap_39 P).lookup (refAt (_root_.Mine.hd.heap_39 P) "TAKES_kinds") = some { cls := .type "dict", data := .dict (entV P (dictL (_root_.Mine.hd.heap_39 P) (refAt (_root_.Mine.hd.heap_39 P) "TAKES_kinds"))) (dictEp (_root_.Mine.hd.heap_39 P) (refAt (_root_.Mine.hd.heap_39 P) "TAKES_kinds")) } := by kernel_rfl
theorem ck_TAKES_kinds (P : Params) : (dictL (_root_.Mine.hd.heap_39 P) (refAt (_root_.Mine.hd.heap_39 P) "TAKES_kinds")).map (·.1) = (takes01.map fun e => (e.1, PV.tup (e.2.map .str))).map (·.1) := by kernel_rfl
theorem cn_TAKES_kinds : ((takes01.map fun e => (e.1, PV.tup (e.2.map .str))).map (·.1)).Nodup := by decide +kernel
theorem cv_TAKES_kinds (P : Params) : (((dictL (_root_.Mine.hd.heap_39 P) (refAt (_root_.Mine.hd.heap_39 P) "TAKES_kinds")).zip (takes01.map fun e => (e.1, PV.tup (e.2.map .str)))).all fun e => valChk (_root_.Mine.hd.heap_39 P) e.1.2.2 e.2.2) = true := by kernel_rfl
theorem cr_PUTS (P : Params) : kmg (_root_.Mine.hd.heap_39 P) "PUTS" = some (.ref (refAt (_root_.Mine.hd.heap_39 P) "PUTS")) := by kernel_rfl
theorem cl_PUTS (P : Params) : (_root_.Mine.hd.heap_39 P).lookup (refAt (_root_.Mine.hd.heap_39 P) "PUTS") = some { cls := .type "dict", data := .dict (entV P (dictL (_root_.Mine.hd.heap_39 P) (refAt (_root_.Mine.hd.heap_39 P) "PUTS"))) (dictEp (_root_.Mine.hd.heap_39 P) (refAt (_root_.Mine.hd.heap_39 P) "PUTS")) } := by kernel_rfl
theorem ck_PUTS (P : Params) : (dictL (_root_.Mine.hd.heap_39 P) (refAt (_root_.Mine.hd.heap_39 P) "PUTS")).map (·.1) = (puts01.map fun e => (e.1, PV.str e.2)).map (·.1) := by kernel_rfl
theorem cn_PUTS : ((puts01.map fun e => (e.1, PV.str e.2)).map (·.1)).Nodup := by decide +kernel
theorem cv_PUTS (P : Params) : (((dictL (_root_.Mine.hd.heap_39 P) (refAt (_root_.Mine.hd.heap_39 P) "PUTS")).zip (puts01.map fun e => (e.1, PV.str e.2))).all fun e => valChk (_root_.Mine.hd.heap_39 P) e.1.2.2 e.2.2) = true := by kernel_rfl
theorem cokL (X : (_root_.Mine.hd.heap_39 w.params).In B) (T : Top _root_.Mine.hd.view_39 loose mean mg mb B) : Cok (cxL prog w B) g01 [] mg mb 0 := by
  have hmg := kmg_eq X (k1 _) T.g
  refine cok_base (K := _root_.Mine.hd.heap_39 w.params) (cs := csL) X (k1 _) T rfl rfl rfl (k3 _) (k4 _) (k5 _) k6 fun x q h => ?_
  have hx := lookup_mem (l := cons01) (by delta g01 k01 at h; exact h)
  simp only [cons01, List.mem_cons, List.not_mem_nil, or_false, Prod.mk.injEq] at hx
  rcases hx with ⟨rfl, rfl⟩ | ⟨rfl, rfl⟩ | ⟨rfl, rfl⟩ | ⟨rfl, rfl⟩ | ⟨rfl, rfl⟩
  · exact int_of hmg (ci_BOUND _)
  · exact int_of hmg (ci_LONGEST _)
  · exact fdt_ofV (cx := cxL prog w B) X hmg (cr_TAKES_rows _) (cl_TAKES_rows _) (ck_TAKES_rows _) cn_TAKES_rows (cv_TAKES_rows _) fun _ _ e => e
  · exact fdt_ofV (cx := cxL prog w B) X hmg (cr_TAKES_kinds _) (cl_TAKES_kinds _) (ck_TAKES_kinds _) cn_TAKES_kinds (cv_TAKES_kinds _) fun _ _ e => e
  · exact fdt_ofV (cx := cxL prog w B) X hmg (cr_PUTS _) (cl_PUTS _) (ck_PUTS _) cn_PUTS (cv_PUTS _) fun _ _ e => e
theorem fc_law_draw : fnChk [] N_law_draw 3 5 S_law_draw B_law_draw = true := by decide +kernel
theorem fc_law_words : fnChk ["_law_draw"] N_law_words 2 3 S_law_words B_law_words = true := by decide +kernel
theorem fc_law_value : fnChk ["_law_words", "_law_draw"] N_law_value 3 5 S_law_value B_law_value = true := by decide +kernel
theorem fc_law_wanted : fnChk ["_law_value", "_law_words", "_law_draw"] N_law_wanted 1 3 S_law_wanted B_law_wanted = true := by decide +kernel
theorem fc_law_lack : fnChk ["_law_wanted", "_law_value", "_law_words", "_law_draw"] N_law_lack 2 4 S_law_lack B_law_lack = true := by decide +kernel
theorem fc_law_plainly : fnChk ["_law_lack", "_law_wanted", "_law_value", "_law_words", "_law_draw"] N_law_plainly 2 3 S_law_plainly B_law_plainly = true := by decide +kernel
theorem fc_law_plain_row : fnChk ["_law_plainly", "_law_lack", "_law_wanted", "_law_value", "_law_words", "_law_draw"] N_law_plain_row 2 4 S_law_plain_row B_law_plain_row = true := by decide +kernel
theorem fc_law_stack : fnChk ["_law_plain_row", "_law_plainly", "_law_lack", "_law_wanted", "_law_value", "_law_words", "_law_draw"] N_law_stack 3 7 S_law_stack B_law_stack = true := by decide +kernel
theorem fc_need : fnChk ["_law_stack", "_law_plain_row", "_law_plainly", "_law_lack", "_law_wanted", "_law_value", "_law_words", "_law_draw"] N_need 2 2 S_need B_need = true := by decide +kernel
theorem fc_kinds_of : fnChk ["need", "_law_stack", "_law_plain_row", "_law_plainly", "_law_lack", "_law_wanted", "_law_value", "_law_words", "_law_draw"] N_kinds_of 1 3 S_kinds_of B_kinds_of = true := by decide +kernel
theorem fc_reckoned : fnChk ["kinds_of", "need", "_law_stack", "_law_plain_row", "_law_plainly", "_law_lack", "_law_wanted", "_law_value", "_law_words", "_law_draw"] N_reckoned 2 2 S_reckoned B_reckoned = true := by decide +kernel
theorem fc_done : fnChk ["reckoned", "kinds_of", "need", "_law_stack", "_law_plain_row", "_law_plainly", "_law_lack", "_law_wanted", "_law_value", "_law_words", "_law_draw"] N_done 2 6 S_done B_done = true := by decide +kernel
theorem fc_taken : fnChk ["done", "reckoned", "kinds_of", "need", "_law_stack", "_law_plain_row", "_law_plainly", "_law_lack", "_law_wanted", "_law_value", "_law_words", "_law_draw"] N_taken 2 3 S_taken B_taken = true := by decide +kernel
theorem fc_block_of : fnChk ["taken", "done", "reckoned", "kinds_of", "need", "_law_stack", "_law_plain_row", "_law_plainly", "_law_lack", "_law_wanted", "_law_value", "_law_words", "_law_draw"] N_block_of 2 2 S_block_of B_block_of = true := by decide +kernel
theorem fc_called : fnChk ["block_of", "taken", "done", "reckoned", "kinds_of", "need", "_law_stack", "_law_plain_row", "_law_plainly", "_law_lack", "_law_wanted", "_law_value", "_law_words", "_law_draw"] N_called 3 4 S_called B_called = true := by decide +kernel
theorem fc_moved : fnChk ["called", "block_of", "taken", "done", "reckoned", "kinds_of", "need", "_law_stack", "_law_plain_row", "_law_plainly", "_law_lack", "_law_wanted", "_law_value", "_law_words", "_law_draw"] N_moved 2 4 S_moved B_moved = true := by decide +kernel
theorem fc_behind : fnChk ["moved", "called", "block_of", "taken", "done", "reckoned", "kinds_of", "need", "_law_stack", "_law_plain_row", "_law_plainly", "_law_lack", "_law_wanted", "_law_value", "_law_words", "_law_draw"] N_behind 3 7 S_behind B_behind = true := by decide +kernel
theorem fc_law_by_kinds : fnChk ["behind", "moved", "called", "block_of", "taken", "done", "reckoned", "kinds_of", "need", "_law_stack", "_law_plain_row", "_law_plainly", "_law_lack", "_law_wanted", "_law_value", "_law_words", "_law_draw"] N_law_by_kinds 2 2 S_law_by_kinds B_law_by_kinds = true := by decide +kernel
theorem fc_law_by_values : fnChk ["_law_by_kinds", "behind", "moved", "called", "block_of", "taken", "done", "reckoned", "kinds_of", "need", "_law_stack", "_law_plain_row", "_law_plainly", "_law_lack", "_law_wanted", "_law_value", "_law_words", "_law_draw"] N_law_by_values 2 2 S_law_by_values B_law_by_values = true := by decide +kernel
theorem fc_law_tuple : fnChk ["_law_by_values", "_law_by_kinds", "behind", "moved", "called", "block_of", "taken", "done", "reckoned", "kinds_of", "need", "_law_stack", "_law_plain_row", "_law_plainly", "_law_lack", "_law_wanted", "_law_value", "_law_words", "_law_draw"] N_law_tuple 2 3 S_law_tuple B_law_tuple = true := by decide +kernel
theorem fc_law : fnChk ["_law_tuple", "_law_by_values", "_law_by_kinds", "behind", "moved", "called", "block_of", "taken", "done", "reckoned", "kinds_of", "need", "_law_stack", "_law_plain_row", "_law_plainly", "_law_lack", "_law_wanted", "_law_value", "_law_words", "_law_draw"] N_law 1 10 S_law B_law = true := by decide +kernel
theorem cokA (X : (_root_.Mine.hd.heap_39 w.params).In B) (T : Top _root_.Mine.hd.view_39 loose mean mg mb B) : Cok (cxL prog w B) g01 ["_law_tuple", "_law_by_values", "_law_by_kinds", "behind", "moved", "called", "block_of", "taken", "done", "reckoned", "kinds_of", "need", "_law_stack", "_law_plain_row", "_law_plainly", "_law_lack", "_law_wanted", "_law_value", "_law_words", "_law_draw"] mg mb 20 := by
  have c0 := cokL (prog := prog) X T
  obtain ⟨d0, hd0, n0, b0, s0, a0⟩ := R_law_draw
  have c1 := c0.addT T rfl rfl hd0 n0 b0 s0 a0 fc_law_draw (fun h => draw_ok (by delta g01 c01 at h; exact h))
  obtain ⟨d1, hd1, n1, b1, s1, a1⟩ := R_law_words
  have c2 := c1.addT T rfl rfl hd1 n1 b1 s1 a1 fc_law_words (fun h => words_ok (by delta g01 c01 at h; exact h))
  obtain ⟨d2, hd2, n2, b2, s2, a2⟩ := R_law_value
  have c3 := c2.addT T rfl rfl hd2 n2 b2 s2 a2 fc_law_value (fun h => value_ok (by delta g01 c01 at h; exact h))
  obtain ⟨d3, hd3, n3, b3, s3, a3⟩ := R_law_wanted
  have c4 := c3.addT T rfl rfl hd3 n3 b3 s3 a3 fc_law_wanted (fun h => wanted_ok (by delta g01 c01 at h; exact h))
  obtain ⟨d4, hd4, n4, b4, s4, a4⟩ := R_law_lack
  have c5 := c4.addT T rfl rfl hd4 n4 b4 s4 a4 fc_law_lack (fun h => lack_ok (by delta g01 c01 at h; exact h))
  obtain ⟨d5, hd5, n5, b5, s5, a5⟩ := R_law_plainly
  have c6 := c5.addT T rfl rfl hd5 n5 b5 s5 a5 fc_law_plainly (fun h => plainly_ok (by delta g01 c01 at h; exact h))
  obtain ⟨d6, hd6, n6, b6, s6, a6⟩ := R_law_plain_row
  have c7 := c6.addT T rfl rfl hd6 n6 b6 s6 a6 fc_law_plain_row (fun h => plain_ok (by delta g01 c01 at h; exact h))
  obtain ⟨d7, hd7, n7, b7, s7, a7⟩ := R_law_stack
  have c8 := c7.addT T rfl rfl hd7 n7 b7 s7 a7 fc_law_stack (fun h => stack_ok (by delta g01 c01 at h; exact h))
  obtain ⟨d8, hd8, n8, b8, s8, a8⟩ := R_need
  have c9 := c8.addT T rfl rfl hd8 n8 b8 s8 a8 fc_need (fun h => need_ok (by delta g01 c01 at h; exact h))
  obtain ⟨d9, hd9, n9, b9, s9, a9⟩ := R_kinds_of
  have c10 := c9.addT T rfl rfl hd9 n9 b9 s9 a9 fc_kinds_of (fun h => kinds_ok (by delta g01 c01 at h; exact h))
  obtain ⟨d10, hd10, n10, b10, s10, a10⟩ := R_reckoned
  have c11 := c10.addT T rfl rfl hd10 n10 b10 s10 a10 fc_reckoned (fun h => reck_ok (by delta g01 c01 at h; exact h))
  obtain ⟨d11, hd11, n11, b11, s11, a11⟩ := R_done
  have c12 := c11.addT T rfl rfl hd11 n11 b11 s11 a11 fc_done (fun h => done_ok (by delta g01 c01 at h; exact h))
  obtain ⟨d12, hd12, n12, b12, s12, a12⟩ := R_taken
  have c13 := c12.addT T rfl rfl hd12 n12 b12 s12 a12 fc_taken (fun h => taken_ok (by delta g01 c01 at h; exact h))
  obtain ⟨d13, hd13, n13, b13, s13, a13⟩ := R_block_of
  have c14 := c13.addT T rfl rfl hd13 n13 b13 s13 a13 fc_block_of (fun h => blockof_ok (by delta g01 c01 at h; exact h))
  obtain ⟨d14, hd14, n14, b14, s14, a14⟩ := R_called
  have c15 := c14.addT T rfl rfl hd14 n14 b14 s14 a14 fc_called (fun h => called_ok (by delta g01 c01 at h; exact h))
  obtain ⟨d15, hd15, n15, b15, s15, a15⟩ := R_moved
  have c16 := c15.addT T rfl rfl hd15 n15 b15 s15 a15 fc_moved (fun h => moved_ok (by delta g01 c01 at h; exact h))
  obtain ⟨d16, hd16, n16, b16, s16, a16⟩ := R_behind
  have c17 := c16.addT T rfl rfl hd16 n16 b16 s16 a16 fc_behind (fun h => behind_ok (by delta g01 c01 at h; exact h))
  obtain ⟨d17, hd17, n17, b17, s17, a17⟩ := R_law_by_kinds
  have c18 := c17.addT T rfl rfl hd17 n17 b17 s17 a17 fc_law_by_kinds (fun h => byk_ok (by delta g01 c01 at h; exact h))
  obtain ⟨d18, hd18, n18, b18, s18, a18⟩ := R_law_by_values
  have c19 := c18.addT T rfl rfl hd18 n18 b18 s18 a18 fc_law_by_values (fun h => byv_ok (by delta g01 c01 at h; exact h))
  obtain ⟨d19, hd19, n19, b19, s19, a19⟩ := R_law_tuple
  have c20 := c19.addT T rfl rfl hd19 n19 b19 s19 a19 fc_law_tuple (fun h => tuple_ok (by delta g01 c01 at h; exact h))
  exact c20
theorem finL {s : Shared} (X : (_root_.Mine.hd.heap_39 w.params).In s.heap) (T : Top _root_.Mine.hd.view_39 loose mean mg mb s.heap) {fa l : Addr} {items : Array Value} {ns : List Int} (hmg : mg "law" = some (.ref fa)) (il : s.heap.IsList l items) (ia : IntsAre items.toList ns) (hl : ns.length ≤ 100)
    {R : Result → Shared → Prop} (hR : ∀ h' tk, (∀ b o, s.heap.get? b = some o → h'.get? b = some o) → R (.ok (.ret (.bool true))) { s with heap := h', toks := tk }) : codeAny (model prog w) callerA (.call (.ref fa) ⟨[.ref l], []⟩) R s := by
  obtain ⟨d, hd, n1, b1, s1, a1⟩ := R_law
  have hL : LIM = 1048576 := rfl
  exact law_top (cx := cxL prog w s.heap) (cokA X T) T rfl rfl hd n1 b1 s1 a1 fc_law rfl hmg il ia (by omega) (by omega) (fun {Q} hQ => (law_ok (ps := [.fls ns]) (H := fun _ => none) (Q := Q) (X := fun _ _ => False) ⟨ns, rfl, hl, hQ⟩).2) hR
end

end Mine
end
open PySem PySem.W PyProof.Rows
set_option maxRecDepth 100000
set_option maxHeartbeats 8000000
theorem PySem.Challenge.cw_uf030026_02_holds : PySem.Challenge.rw_uf030026_02.Holds := by
  w_on
  refine holds_law (by kernel_rfl) fun said => ?_
  refine holds_open (q := Mine.hd.view_39) (loose := Mine.hd.loos) (Xt := Mine.hd.xt) (XP := XL Mine.hd.view_39 []) (Yf := Mine.hd.hook.obs) (Ya := Mine.hd.hook.val) (YP := Mine.hd.hook.says) Mine.hd.left (Hook.of Mine.hd.hook) (Hook.keeps Mine.hd.hook) (fun s e => xl_of s (Bool.and_eq_true_iff.mp e).1) XL.keeps (by rfl) (by rfl) (by rfl) (fun s e => recFacts_of (Bool.and_eq_true_iff.mp e).2) (by rfl) (by assumption) (by decide +kernel) ⟨rfl, rfl, rfl, rfl, rfl, by decide +kernel⟩ ?hw ?hc
  case hw => w_witness2
  case hc =>
    intro w s₀ s₁ mg mb G Y fa o pm cd doc dV kV ho hd hcd hD hmg hg args vals as hpre hlay hrd hwl hlo
    have KX := kIn_of Y
    refine Ground.open G ?_
    intro T B D TE TW
    wrow_args hpre hlay hrd hwl hlo
    all_goals (
      first | refine callC_kw (enter_call ?_) | refine enter_call ?_ | refine callC_kw (enter_callW ?_) | refine enter_callW ?_ | w_how
      )
    refine Mine.finL KX T hmg (by assumption) (by assumption) (by omega) fun h' tk hk => GoodW.toG ⟨.inl ⟨_, _, _, rfl, ?_, .bool true, ?_, ?_⟩, hk, rfl, hg⟩
    · intro cls; rfl
    · kernel_rfl
    · intro h; exact ⟨List.nodup_nil, fun a ha => nomatch ha⟩
