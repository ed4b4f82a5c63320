import PyProof.Rows.All
import Wide.All
import Open.Line
import OpenK.Peek
import OpenK.KDescr
import OpenK.KMake
import OpenK.KWalk
import KE.LcSums
import KE.KDictList
import KE.KTryMore
import KE.KIsAll
import KE.KEqDict
import Wide.FinOn
import Open.Boot
import PySem.Challenge.RW_uf030026_01
set_option Elab.async false
set_option maxHeartbeats 4000000
section
open PySem PySem.W PyProof.Rows
namespace Mine.hd
noncomputable def view_39 : Program := { PySem.Challenge.rw_uf030026_01.row.toRowW.1 with main := { PySem.Challenge.rw_uf030026_01.row.toRowW.1.main with body := PySem.Challenge.rw_uf030026_01.row.toRowW.1.main.body.filter fun s => match s with | .Assign [.Name x _] _ _ => !(x == Str.ofString "__name__") | _ => true } }
noncomputable def heap_39 : Params → Frag := fun P => [(2, { cls := Value.none, data := Data.dict #[] }), (3, { cls := Value.type "dict", data := Data.dict #[{ hash := PyData.keyHash P (Str.ofString "__name__"), key := Value.str (Str.ofString "__name__") 165, val := Value.str (Str.ofString "law_uf030026_01") 353 }, { hash := PyData.keyHash P (Str.ofString "__doc__"), key := Value.str (Str.ofString "__doc__") 166, val := Value.none }, { hash := PyData.keyHash P (Str.ofString "__package__"), key := Value.str (Str.ofString "__package__") 167, val := Value.none }, { hash := PyData.keyHash P (Str.ofString "__loader__"), key := Value.str (Str.ofString "__loader__") 168, val := Value.builtin "__main__.__loader__#opaque" }, { hash := PyData.keyHash P (Str.ofString "__spec__"), key := Value.str (Str.ofString "__spec__") 169, val := Value.none }, { hash := PyData.keyHash P (Str.ofString "__annotations__"), key := Value.str (Str.ofString "__annotations__") 170, val := Value.ref 6 }, { hash := PyData.keyHash P (Str.ofString "__builtins__"), key := Value.str (Str.ofString "__builtins__") 171, val := Value.ref 4 }, { hash := PyData.keyHash P (Str.ofString "__file__"), key := Value.str (Str.ofString "__file__") 173, val := Value.str (Str.ofString "/claim/cut.py") 172 }, { hash := PyData.keyHash P (Str.ofString "__cached__"), key := Value.str (Str.ofString "__cached__") 174, val := Value.none }, { hash := PyData.keyHash P (Str.ofString "StackError"), key := Value.str (Str.ofString "StackError") 206, val := Value.ref 24 }, { hash := PyData.keyHash P (Str.ofString "Empty"), key := Value.str (Str.ofString "Empty") 222, val := Value.ref 37 }, { hash := PyData.keyHash P (Str.ofString "WrongKind"), key := Value.str (Str.ofString "WrongKind") 238, val := Value.ref 49 }, { hash := PyData.keyHash P (Str.ofString "NoBlock"), key := Value.str (Str.ofString "NoBlock") 254, val := Value.ref 61 }, { hash := PyData.keyHash P (Str.ofString "Apart"), key := Value.str (Str.ofString "Apart") 270, val := Value.ref 73 }, { hash := PyData.keyHash P (Str.ofString "Dry"), key := Value.str (Str.ofString "Dry") 286, val := Value.ref 85 }, { hash := PyData.keyHash P (Str.ofString "BOUND"), key := Value.str (Str.ofString "BOUND") 290, val := Value.int 1000000000 289 }, { hash := PyData.keyHash P (Str.ofString "LONGEST"), key := Value.str (Str.ofString "LONGEST") 292, val := Value.int 60 291 }, { hash := PyData.keyHash P (Str.ofString "TAKES"), key := Value.str (Str.ofString "TAKES") 315, val := Value.ref 88 }, { hash := PyData.keyHash P (Str.ofString "kinds_of"), key := Value.str (Str.ofString "kinds_of") 324, val := Value.ref 101 }, { hash := PyData.keyHash P (Str.ofString "need"), key := Value.str (Str.ofString "need") 332, val := Value.ref 108 }, { hash := PyData.keyHash P (Str.ofString "reckoned"), key := Value.str (Str.ofString "reckoned") 340, val := Value.ref 115 }, { hash := PyData.keyHash P (Str.ofString "done"), key := Value.str (Str.ofString "done") 352, val := Value.ref 122 }, { hash := PyData.keyHash P (Str.ofString "_law_draw"), key := Value.str (Str.ofString "_law_draw") 365, val := Value.ref 129 }, { hash := PyData.keyHash P (Str.ofString "_law_words"), key := Value.str (Str.ofString "_law_words") 371, val := Value.ref 134 }, { hash := PyData.keyHash P (Str.ofString "_law_value"), key := Value.str (Str.ofString "_law_value") 382, val := Value.ref 141 }, { hash := PyData.keyHash P (Str.ofString "_law_wanted"), key := Value.str (Str.ofString "_law_wanted") 391, val := Value.ref 148 }, { hash := PyData.keyHash P (Str.ofString "_law_lack"), key := Value.str (Str.ofString "_law_lack") 401, val := Value.ref 155 }, { hash := PyData.keyHash P (Str.ofString "_law_plain_row"), key := Value.str (Str.ofString "_law_plain_row") 411, val := Value.ref 162 }, { hash := PyData.keyHash P (Str.ofString "_law_reckoned"), key := Value.str (Str.ofString "_law_reckoned") 420, val := Value.ref 169 }, { hash := PyData.keyHash P (Str.ofString "_law_behind"), key := Value.str (Str.ofString "_law_behind") 430, val := Value.ref 176 }, { hash := PyData.keyHash P (Str.ofString "_law_told"), key := Value.str (Str.ofString "_law_told") 438, val := Value.ref 183 }, { hash := PyData.keyHash P (Str.ofString "_law_any"), key := Value.str (Str.ofString "_law_any") 448, val := Value.ref 190 }, { hash := PyData.keyHash P (Str.ofString "_law_alike"), key := Value.str (Str.ofString "_law_alike") 457, val := Value.ref 197 }, { hash := PyData.keyHash P (Str.ofString "_law_stack"), key := Value.str (Str.ofString "_law_stack") 470, val := Value.ref 204 }, { hash := PyData.keyHash P (Str.ofString "law"), key := Value.str (Str.ofString "law") 476, val := Value.ref 209 }] 35 }), (15, { cls := Value.type "tuple", data := Data.seq #[Value.type "ValueError"] }), (22, { cls := Value.type "tuple", data := Data.seq #[] }), (23, { cls := Value.type "dict", data := Data.dict #[{ hash := PyData.keyHash P (Str.ofString "__module__"), key := Value.str (Str.ofString "__module__") 196, val := Value.str (Str.ofString "stackproof.errors") 187 }, { hash := PyData.keyHash P (Str.ofString "__firstlineno__"), key := Value.str (Str.ofString "__firstlineno__") 200, val := Value.int 2 199 }, { hash := PyData.keyHash P (Str.ofString "__static_attributes__"), key := Value.str (Str.ofString "__static_attributes__") 201, val := Value.ref 22 }, { hash := PyData.keyHash P (Str.ofString "__weakref__"), key := Value.str (Str.ofString "__weakref__") 203, val := Value.ref 25 }, { hash := PyData.keyHash P (Str.ofString "__doc__"), key := Value.str (Str.ofString "__doc__") 204, val := Value.none }] 3 }), (24, { cls := Value.type "type", data := Data.cls { name := Str.ofString "StackError", bases := [Value.type "ValueError"], mro := [Value.ref 24, Value.type "ValueError", Value.type "Exception", Value.type "BaseException", Value.type "object"], ns := 23, qualname := Str.ofString "StackError", subclasses := [Value.ref 37, Value.ref 49, Value.ref 61, Value.ref 73, Value.ref 85] }, slots := #[some (Value.ref 15), none, some (Value.str (Str.ofString "StackError") 189), some (Value.str (Str.ofString "StackError") 197), some (Value.builtin "ValueError.__new__"), some (Value.bool true)] }), (25, { cls := Value.type "getset_descriptor", data := Data.fields #[Value.str (Str.ofString "__weakref__") 202, Value.ref 24, Value.builtin "ExceptionGroup.__weakref__", Value.none] }), (28, { cls := Value.type "tuple", data := Data.seq #[Value.ref 24] }), (35, { cls := Value.type "tuple", data := Data.seq #[] }), (36, { cls := Value.type "dict", data := Data.dict #[{ hash := PyData.keyHash P (Str.ofString "__module__"), key := Value.str (Str.ofString "__module__") 214, val := Value.str (Str.ofString "stackproof.errors") 187 }, { hash := PyData.keyHash P (Str.ofString "__firstlineno__"), key := Value.str (Str.ofString "__firstlineno__") 218, val := Value.int 4 217 }, { hash := PyData.keyHash P (Str.ofString "__static_attributes__"), key := Value.str (Str.ofString "__static_attributes__") 219, val := Value.ref 35 }, { hash := PyData.keyHash P (Str.ofString "__doc__"), key := Value.str (Str.ofString "__doc__") 220, val := Value.none }] 2 }), (37, { cls := Value.type "type", data := Data.cls { name := Str.ofString "Empty", bases := [Value.ref 24], mro := [Value.ref 37, Value.ref 24, Value.type "ValueError", Value.type "Exception", Value.type "BaseException", Value.type "object"], ns := 36, qualname := Str.ofString "Empty" }, slots := #[some (Value.ref 28), none, some (Value.str (Str.ofString "Empty") 207), some (Value.str (Str.ofString "Empty") 215), some (Value.builtin "ValueError.__new__"), some (Value.bool true)] }), (40, { cls := Value.type "tuple", data := Data.seq #[Value.ref 24] }), (47, { cls := Value.type "tuple", data := Data.seq #[] }), (48, { cls := Value.type "dict", data := Data.dict #[{ hash := PyData.keyHash P (Str.ofString "__module__"), key := Value.str (Str.ofString "__module__") 230, val := Value.str (Str.ofString "stackproof.errors") 187 }, { hash := PyData.keyHash P (Str.ofString "__firstlineno__"), key := Value.str (Str.ofString "__firstlineno__") 234, val := Value.int 6 233 }, { hash := PyData.keyHash P (Str.ofString "__static_attributes__"), key := Value.str (Str.ofString "__static_attributes__") 235, val := Value.ref 47 }, { hash := PyData.keyHash P (Str.ofString "__doc__"), key := Value.str (Str.ofString "__doc__") 236, val := Value.none }] 2 }), (49, { cls := Value.type "type", data := Data.cls { name := Str.ofString "WrongKind", bases := [Value.ref 24], mro := [Value.ref 49, Value.ref 24, Value.type "ValueError", Value.type "Exception", Value.type "BaseException", Value.type "object"], ns := 48, qualname := Str.ofString "WrongKind" }, slots := #[some (Value.ref 40), none, some (Value.str (Str.ofString "WrongKind") 223), some (Value.str (Str.ofString "WrongKind") 231), some (Value.builtin "ValueError.__new__"), some (Value.bool true)] }), (52, { cls := Value.type "tuple", data := Data.seq #[Value.ref 24] }), (59, { cls := Value.type "tuple", data := Data.seq #[] }), (60, { cls := Value.type "dict", data := Data.dict #[{ hash := PyData.keyHash P (Str.ofString "__module__"), key := Value.str (Str.ofString "__module__") 246, val := Value.str (Str.ofString "stackproof.errors") 187 }, { hash := PyData.keyHash P (Str.ofString "__firstlineno__"), key := Value.str (Str.ofString "__firstlineno__") 250, val := Value.int 8 249 }, { hash := PyData.keyHash P (Str.ofString "__static_attributes__"), key := Value.str (Str.ofString "__static_attributes__") 251, val := Value.ref 59 }, { hash := PyData.keyHash P (Str.ofString "__doc__"), key := Value.str (Str.ofString "__doc__") 252, val := Value.none }] 2 }), (61, { cls := Value.type "type", data := Data.cls { name := Str.ofString "NoBlock", bases := [Value.ref 24], mro := [Value.ref 61, Value.ref 24, Value.type "ValueError", Value.type "Exception", Value.type "BaseException", Value.type "object"], ns := 60, qualname := Str.ofString "NoBlock" }, slots := #[some (Value.ref 52), none, some (Value.str (Str.ofString "NoBlock") 239), some (Value.str (Str.ofString "NoBlock") 247), some (Value.builtin "ValueError.__new__"), some (Value.bool true)] }), (64, { cls := Value.type "tuple", data := Data.seq #[Value.ref 24] }), (71, { cls := Value.type "tuple", data := Data.seq #[] }), (72, { cls := Value.type "dict", data := Data.dict #[{ hash := PyData.keyHash P (Str.ofString "__module__"), key := Value.str (Str.ofString "__module__") 262, val := Value.str (Str.ofString "stackproof.errors") 187 }, { hash := PyData.keyHash P (Str.ofString "__firstlineno__"), key := Value.str (Str.ofString "__firstlineno__") 266, val := Value.int 10 265 }, { hash := PyData.keyHash P (Str.ofString "__static_attributes__"), key := Value.str (Str.ofString "__static_attributes__") 267, val := Value.ref 71 }, { hash := PyData.keyHash P (Str.ofString "__doc__"), key := Value.str (Str.ofString "__doc__") 268, val := Value.none }] 2 }), (73, { cls := Value.type "type", data := Data.cls { name := Str.ofString "Apart", bases := [Value.ref 24], mro := [Value.ref 73, Value.ref 24, Value.type "ValueError", Value.type "Exception", Value.type "BaseException", Value.type "object"], ns := 72, qualname := Str.ofString "Apart" }, slots := #[some (Value.ref 64), none, some (Value.str (Str.ofString "Apart") 255), some (Value.str (Str.ofString "Apart") 263), some (Value.builtin "ValueError.__new__"), some (Value.bool true)] }), (76, { cls := Value.type "tuple", data := Data.seq #[Value.ref 24] }), (83, { cls := Value.type "tuple", data := Data.seq #[] }), (84, { cls := Value.type "dict", data := Data.dict #[{ hash := PyData.keyHash P (Str.ofString "__module__"), key := Value.str (Str.ofString "__module__") 278, val := Value.str (Str.ofString "stackproof.errors") 187 }, { hash := PyData.keyHash P (Str.ofString "__firstlineno__"), key := Value.str (Str.ofString "__firstlineno__") 282, val := Value.int 12 281 }, { hash := PyData.keyHash P (Str.ofString "__static_attributes__"), key := Value.str (Str.ofString "__static_attributes__") 283, val := Value.ref 83 }, { hash := PyData.keyHash P (Str.ofString "__doc__"), key := Value.str (Str.ofString "__doc__") 284, val := Value.none }] 2 }), (85, { cls := Value.type "type", data := Data.cls { name := Str.ofString "Dry", bases := [Value.ref 24], mro := [Value.ref 85, Value.ref 24, Value.type "ValueError", Value.type "Exception", Value.type "BaseException", Value.type "object"], ns := 84, qualname := Str.ofString "Dry" }, slots := #[some (Value.ref 76), none, some (Value.str (Str.ofString "Dry") 271), some (Value.str (Str.ofString "Dry") 279), some (Value.builtin "ValueError.__new__"), some (Value.bool true)] }), (88, { cls := Value.type "dict", data := Data.dict #[{ hash := PyData.keyHash P (Str.ofString "add"), key := Value.str (Str.ofString "add") 293, val := Value.ref 89 }, { hash := PyData.keyHash P (Str.ofString "mul"), key := Value.str (Str.ofString "mul") 296, val := Value.ref 90 }, { hash := PyData.keyHash P (Str.ofString "less"), key := Value.str (Str.ofString "less") 299, val := Value.ref 91 }, { hash := PyData.keyHash P (Str.ofString "join"), key := Value.str (Str.ofString "join") 302, val := Value.ref 92 }, { hash := PyData.keyHash P (Str.ofString "long"), key := Value.str (Str.ofString "long") 305, val := Value.ref 93 }, { hash := PyData.keyHash P (Str.ofString "show"), key := Value.str (Str.ofString "show") 307, val := Value.ref 94 }] 6 }), (89, { cls := Value.type "tuple", data := Data.seq #[Value.str (Str.ofString "num") 294, Value.str (Str.ofString "num") 295] }), (90, { cls := Value.type "tuple", data := Data.seq #[Value.str (Str.ofString "num") 297, Value.str (Str.ofString "num") 298] }), (91, { cls := Value.type "tuple", data := Data.seq #[Value.str (Str.ofString "num") 300, Value.str (Str.ofString "num") 301] }), (92, { cls := Value.type "tuple", data := Data.seq #[Value.str (Str.ofString "text") 303, Value.str (Str.ofString "text") 304] }), (93, { cls := Value.type "tuple", data := Data.seq #[Value.str (Str.ofString "text") 306] }), (94, { cls := Value.type "tuple", data := Data.seq #[Value.str (Str.ofString "num") 308] }), (95, { cls := Value.type "tuple", data := Data.seq #[] }), (97, { cls := Value.type "tuple", data := Data.seq #[Value.str (Str.ofString "stack") 319, Value.str (Str.ofString "kinds") 320, Value.str (Str.ofString "value") 321] }), (98, { cls := Value.type "tuple", data := Data.seq #[] }), (100, { cls := Value.type "code", data := Data.fields #[Value.str (Str.ofString "kinds_of") 316, Value.str (Str.ofString "kinds_of") 317, Value.str (Str.ofString "/claim/cut.py") 318, Value.int 18 0, Value.int 1 0, Value.int 0 0, Value.int 0 0, Value.int 3 0, Value.ref 95, Value.bool true, Value.int 181 0, Value.ref 96, Value.none, Value.ref 97, Value.ref 98, Value.ref 99, Value.int 322 0, Value.int 18 0, Value.str (Str.ofString "/claim/cut.py") 323] }), (102, { cls := Value.type "tuple", data := Data.seq #[] }), (104, { cls := Value.type "tuple", data := Data.seq #[Value.str (Str.ofString "stack") 328, Value.str (Str.ofString "count") 329] }), (105, { cls := Value.type "tuple", data := Data.seq #[] }), (107, { cls := Value.type "code", data := Data.fields #[Value.str (Str.ofString "need") 325, Value.str (Str.ofString "need") 326, Value.str (Str.ofString "/claim/cut.py") 327, Value.int 26 0, Value.int 2 0, Value.int 0 0, Value.int 0 0, Value.int 3 0, Value.ref 102, Value.bool true, Value.int 181 0, Value.ref 103, Value.none, Value.ref 104, Value.ref 105, Value.ref 106, Value.int 330 0, Value.int 26 0, Value.str (Str.ofString "/claim/cut.py") 331] }), (109, { cls := Value.type "tuple", data := Data.seq #[] }), (111, { cls := Value.type "tuple", data := Data.seq #[Value.str (Str.ofString "word") 336, Value.str (Str.ofString "values") 337] }), (112, { cls := Value.type "tuple", data := Data.seq #[] }), (114, { cls := Value.type "code", data := Data.fields #[Value.str (Str.ofString "reckoned") 333, Value.str (Str.ofString "reckoned") 334, Value.str (Str.ofString "/claim/cut.py") 335, Value.int 29 0, Value.int 2 0, Value.int 0 0, Value.int 0 0, Value.int 3 0, Value.ref 109, Value.bool true, Value.int 181 0, Value.ref 110, Value.none, Value.ref 111, Value.ref 112, Value.ref 113, Value.int 338 0, Value.int 29 0, Value.str (Str.ofString "/claim/cut.py") 339] }), (116, { cls := Value.type "tuple", data := Data.seq #[] }), (118, { cls := Value.type "tuple", data := Data.seq #[Value.str (Str.ofString "stack") 344, Value.str (Str.ofString "row") 345, Value.str (Str.ofString "word") 346, Value.str (Str.ofString "size") 347, Value.str (Str.ofString "takes") 348, Value.str (Str.ofString "values") 349] }), (119, { cls := Value.type "tuple", data := Data.seq #[] }), (121, { cls := Value.type "code", data := Data.fields #[Value.str (Str.ofString "done") 341, Value.str (Str.ofString "done") 342, Value.str (Str.ofString "/claim/cut.py") 343, Value.int 41 0, Value.int 2 0, Value.int 0 0, Value.int 0 0, Value.int 3 0, Value.ref 116, Value.bool true, Value.int 181 0, Value.ref 117, Value.none, Value.ref 118, Value.ref 119, Value.ref 120, Value.int 350 0, Value.int 41 0, Value.str (Str.ofString "/claim/cut.py") 351] }), (123, { cls := Value.type "tuple", data := Data.seq #[] }), (125, { cls := Value.type "tuple", data := Data.seq #[Value.str (Str.ofString "_law_script") 358, Value.str (Str.ofString "_law_tape") 359, Value.str (Str.ofString "_law_many") 360, Value.str (Str.ofString "_law_seed") 361, Value.str (Str.ofString "_law_cell") 362] }), (126, { cls := Value.type "tuple", data := Data.seq #[] }), (128, { cls := Value.type "code", data := Data.fields #[Value.str (Str.ofString "_law_draw") 355, Value.str (Str.ofString "_law_draw") 356, Value.str (Str.ofString "/claim/cut.py") 357, Value.int 62 0, Value.int 3 0, Value.int 0 0, Value.int 0 0, Value.int 3 0, Value.ref 123, Value.bool true, Value.int 181 0, Value.ref 124, Value.none, Value.ref 125, Value.ref 126, Value.ref 127, Value.int 363 0, Value.int 62 0, Value.str (Str.ofString "/claim/cut.py") 364] }), (130, { cls := Value.type "tuple", data := Data.seq #[] }), (133, { cls := Value.type "code", data := Data.fields #[Value.str (Str.ofString "_law_words") 366, Value.str (Str.ofString "_law_words") 367, Value.str (Str.ofString "/claim/cut.py") 368, Value.int 70 0, Value.int 2 0, Value.int 0 0, Value.int 0 0, Value.int 3 0, Value.ref 130, Value.bool true, Value.int 181 0, Value.ref 131, Value.none, Value.none, Value.none, Value.ref 132, Value.int 369 0, Value.int 70 0, Value.str (Str.ofString "/claim/cut.py") 370] }), (135, { cls := Value.type "tuple", data := Data.seq #[] }), (137, { cls := Value.type "tuple", data := Data.seq #[Value.str (Str.ofString "_law_script") 375, Value.str (Str.ofString "_law_tape") 376, Value.str (Str.ofString "_law_kind") 377, Value.str (Str.ofString "_law_cell") 378, Value.str (Str.ofString "_law_way") 379] }), (138, { cls := Value.type "tuple", data := Data.seq #[] }), (140, { cls := Value.type "code", data := Data.fields #[Value.str (Str.ofString "_law_value") 372, Value.str (Str.ofString "_law_value") 373, Value.str (Str.ofString "/claim/cut.py") 374, Value.int 74 0, Value.int 3 0, Value.int 0 0, Value.int 0 0, Value.int 3 0, Value.ref 135, Value.bool true, Value.int 181 0, Value.ref 136, Value.none, Value.ref 137, Value.ref 138, Value.ref 139, Value.int 380 0, Value.int 74 0, Value.str (Str.ofString "/claim/cut.py") 381] }), (142, { cls := Value.type "tuple", data := Data.seq #[] }), (144, { cls := Value.type "tuple", data := Data.seq #[Value.str (Str.ofString "_law_row") 386, Value.str (Str.ofString "_law_two") 387, Value.str (Str.ofString "_law_one") 388] }), (145, { cls := Value.type "tuple", data := Data.seq #[] }), (147, { cls := Value.type "code", data := Data.fields #[Value.str (Str.ofString "_law_wanted") 383, Value.str (Str.ofString "_law_wanted") 384, Value.str (Str.ofString "/claim/cut.py") 385, Value.int 86 0, Value.int 1 0, Value.int 0 0, Value.int 0 0, Value.int 3 0, Value.ref 142, Value.bool true, Value.int 181 0, Value.ref 143, Value.none, Value.ref 144, Value.ref 145, Value.ref 146, Value.int 389 0, Value.int 86 0, Value.str (Str.ofString "/claim/cut.py") 390] }), (149, { cls := Value.type "tuple", data := Data.seq #[] }), (151, { cls := Value.type "tuple", data := Data.seq #[Value.str (Str.ofString "_law_kinds") 395, Value.str (Str.ofString "_law_wanted_here") 396, Value.str (Str.ofString "_law_low") 397, Value.str (Str.ofString "_law_k") 398] }), (152, { cls := Value.type "tuple", data := Data.seq #[] }), (154, { cls := Value.type "code", data := Data.fields #[Value.str (Str.ofString "_law_lack") 392, Value.str (Str.ofString "_law_lack") 393, Value.str (Str.ofString "/claim/cut.py") 394, Value.int 96 0, Value.int 2 0, Value.int 0 0, Value.int 0 0, Value.int 3 0, Value.ref 149, Value.bool true, Value.int 181 0, Value.ref 150, Value.none, Value.ref 151, Value.ref 152, Value.ref 153, Value.int 399 0, Value.int 96 0, Value.str (Str.ofString "/claim/cut.py") 400] }), (156, { cls := Value.type "tuple", data := Data.seq #[] }), (158, { cls := Value.type "tuple", data := Data.seq #[Value.str (Str.ofString "_law_script") 405, Value.str (Str.ofString "_law_tape") 406, Value.str (Str.ofString "_law_some") 407, Value.str (Str.ofString "_law_word") 408] }), (159, { cls := Value.type "tuple", data := Data.seq #[] }), (161, { cls := Value.type "code", data := Data.fields #[Value.str (Str.ofString "_law_plain_row") 402, Value.str (Str.ofString "_law_plain_row") 403, Value.str (Str.ofString "/claim/cut.py") 404, Value.int 104 0, Value.int 2 0, Value.int 0 0, Value.int 0 0, Value.int 3 0, Value.ref 156, Value.bool true, Value.int 181 0, Value.ref 157, Value.none, Value.ref 158, Value.ref 159, Value.ref 160, Value.int 409 0, Value.int 104 0, Value.str (Str.ofString "/claim/cut.py") 410] }), (163, { cls := Value.type "tuple", data := Data.seq #[] }), (165, { cls := Value.type "tuple", data := Data.seq #[Value.str (Str.ofString "_law_row") 415, Value.str (Str.ofString "_law_low") 416, Value.str (Str.ofString "_law_top") 417] }), (166, { cls := Value.type "tuple", data := Data.seq #[] }), (168, { cls := Value.type "code", data := Data.fields #[Value.str (Str.ofString "_law_reckoned") 412, Value.str (Str.ofString "_law_reckoned") 413, Value.str (Str.ofString "/claim/cut.py") 414, Value.int 112 0, Value.int 3 0, Value.int 0 0, Value.int 0 0, Value.int 3 0, Value.ref 163, Value.bool true, Value.int 181 0, Value.ref 164, Value.none, Value.ref 165, Value.ref 166, Value.ref 167, Value.int 418 0, Value.int 112 0, Value.str (Str.ofString "/claim/cut.py") 419] }), (170, { cls := Value.type "tuple", data := Data.seq #[] }), (172, { cls := Value.type "tuple", data := Data.seq #[Value.str (Str.ofString "_law_stack_here") 424, Value.str (Str.ofString "_law_row") 425, Value.str (Str.ofString "_law_left") 426, Value.str (Str.ofString "_law_top") 427] }), (173, { cls := Value.type "tuple", data := Data.seq #[] }), (175, { cls := Value.type "code", data := Data.fields #[Value.str (Str.ofString "_law_behind") 421, Value.str (Str.ofString "_law_behind") 422, Value.str (Str.ofString "/claim/cut.py") 423, Value.int 122 0, Value.int 2 0, Value.int 0 0, Value.int 0 0, Value.int 3 0, Value.ref 170, Value.bool true, Value.int 181 0, Value.ref 171, Value.none, Value.ref 172, Value.ref 173, Value.ref 174, Value.int 428 0, Value.int 122 0, Value.str (Str.ofString "/claim/cut.py") 429] }), (177, { cls := Value.type "tuple", data := Data.seq #[] }), (179, { cls := Value.type "tuple", data := Data.seq #[Value.str (Str.ofString "_law_stack_here") 434, Value.str (Str.ofString "_law_row") 435] }), (180, { cls := Value.type "tuple", data := Data.seq #[] }), (182, { cls := Value.type "code", data := Data.fields #[Value.str (Str.ofString "_law_told") 431, Value.str (Str.ofString "_law_told") 432, Value.str (Str.ofString "/claim/cut.py") 433, Value.int 139 0, Value.int 2 0, Value.int 0 0, Value.int 0 0, Value.int 3 0, Value.ref 177, Value.bool true, Value.int 181 0, Value.ref 178, Value.none, Value.ref 179, Value.ref 180, Value.ref 181, Value.int 436 0, Value.int 139 0, Value.str (Str.ofString "/claim/cut.py") 437] }), (184, { cls := Value.type "tuple", data := Data.seq #[] }), (186, { cls := Value.type "tuple", data := Data.seq #[Value.str (Str.ofString "_law_stack_here") 442, Value.str (Str.ofString "_law_row") 443, Value.str (Str.ofString "e") 444, Value.str (Str.ofString "_law_sorts") 445] }), (187, { cls := Value.type "tuple", data := Data.seq #[] }), (189, { cls := Value.type "code", data := Data.fields #[Value.str (Str.ofString "_law_any") 439, Value.str (Str.ofString "_law_any") 440, Value.str (Str.ofString "/claim/cut.py") 441, Value.int 146 0, Value.int 2 0, Value.int 0 0, Value.int 0 0, Value.int 3 0, Value.ref 184, Value.bool true, Value.int 181 0, Value.ref 185, Value.none, Value.ref 186, Value.ref 187, Value.ref 188, Value.int 446 0, Value.int 146 0, Value.str (Str.ofString "/claim/cut.py") 447] }), (191, { cls := Value.type "tuple", data := Data.seq #[] }), (193, { cls := Value.type "tuple", data := Data.seq #[Value.str (Str.ofString "_law_found") 452, Value.str (Str.ofString "_law_due") 453, Value.str (Str.ofString "_law_k") 454] }), (194, { cls := Value.type "tuple", data := Data.seq #[] }), (196, { cls := Value.type "code", data := Data.fields #[Value.str (Str.ofString "_law_alike") 449, Value.str (Str.ofString "_law_alike") 450, Value.str (Str.ofString "/claim/cut.py") 451, Value.int 154 0, Value.int 2 0, Value.int 0 0, Value.int 0 0, Value.int 3 0, Value.ref 191, Value.bool true, Value.int 181 0, Value.ref 192, Value.none, Value.ref 193, Value.ref 194, Value.ref 195, Value.int 455 0, Value.int 154 0, Value.str (Str.ofString "/claim/cut.py") 456] }), (198, { cls := Value.type "tuple", data := Data.seq #[] }), (200, { cls := Value.type "tuple", data := Data.seq #[Value.str (Str.ofString "_law_script") 461, Value.str (Str.ofString "_law_tape") 462, Value.str (Str.ofString "_law_row") 463, Value.str (Str.ofString "_law_size") 464, Value.str (Str.ofString "_law_stack_here") 465, Value.str (Str.ofString "_law_k") 466, Value.str (Str.ofString "_law_kind") 467] }), (201, { cls := Value.type "tuple", data := Data.seq #[] }), (203, { cls := Value.type "code", data := Data.fields #[Value.str (Str.ofString "_law_stack") 458, Value.str (Str.ofString "_law_stack") 459, Value.str (Str.ofString "/claim/cut.py") 460, Value.int 163 0, Value.int 3 0, Value.int 0 0, Value.int 0 0, Value.int 3 0, Value.ref 198, Value.bool true, Value.int 181 0, Value.ref 199, Value.none, Value.ref 200, Value.ref 201, Value.ref 202, Value.int 468 0, Value.int 163 0, Value.str (Str.ofString "/claim/cut.py") 469] }), (205, { cls := Value.type "tuple", data := Data.seq #[] }), (208, { cls := Value.type "code", data := Data.fields #[Value.str (Str.ofString "law") 471, Value.str (Str.ofString "law") 472, Value.str (Str.ofString "/claim/cut.py") 473, Value.int 181 0, Value.int 1 0, Value.int 0 0, Value.int 0 0, Value.int 3 0, Value.ref 205, Value.bool true, Value.int 181 0, Value.ref 206, Value.none, Value.none, Value.none, Value.ref 207, Value.int 474 0, Value.int 181 0, Value.str (Str.ofString "/claim/cut.py") 475] })]
noncomputable def adrs : List Addr := [2, 3, 15, 22, 23, 24, 25, 28, 35, 36, 37, 40, 47, 48, 49, 52, 59, 60, 61, 64, 71, 72, 73, 76, 83, 84, 85, 88, 89, 90, 91, 92, 93, 94, 95, 97, 98, 100, 102, 104, 105, 107, 109, 111, 112, 114, 116, 118, 119, 121, 123, 125, 126, 128, 130, 133, 135, 137, 138, 140, 142, 144, 145, 147, 149, 151, 152, 154, 156, 158, 159, 161, 163, 165, 166, 168, 170, 172, 173, 175, 177, 179, 180, 182, 184, 186, 187, 189, 191, 193, 194, 196, 198, 200, 201, 203, 205, 208]
abbrev loos : List Str := ["TAKES"]
noncomputable abbrev hook : Hook := kHook heap_39 adrs (fun _ => by kernel_rfl)
noncomputable abbrev xt : Shared → Bool := fun s => xlAt view_39 [] s && recOk PySem.Challenge.rw_uf030026_01.row.records s
set_option maxRecDepth 1000000
set_option maxHeartbeats 0
theorem bo : ∀ w : World, (fencedOpening treeTable PySem.Challenge.rw_uf030026_01.row.toRowW.1 w 4008).map (fun s => (s.heap, s.gens, s.drawn, s.toks)) = some (boot_heap w.params, Array.mk [], boot_drawn, boot_toks) := boot_open (by kernel_rfl) (by decide) (fun s => by kernel_rfl)
theorem use_boot {o : Option Shared} {h : Heap} {g : Array GenState} {d : Drawn} {t : Nat} (b : o.map (fun s => (s.heap, s.gens, s.drawn, s.toks)) = some (h, g, d, t)) {X : Type} {F : Shared → X} {x : X} (k : ∀ os, F ⟨h, g, d, t, os⟩ = x) : o.map F = some x := by
  obtain ⟨⟨h', g', d', t', os⟩, e, c⟩ := Option.map_eq_some_iff.mp b
  cases c
  rw [e]; exact congrArg some (k os)
noncomputable abbrev topr (w : World) (os : OsState) (x : Bool) : Option Shared := topFrom treeTable PySem.Challenge.rw_uf030026_01.row.toRowW.1 (w.withFollow "special-get-raises" x) 4008 ⟨boot_heap w.params, Array.mk [], boot_drawn, boot_toks, os⟩
theorem lw : looseW view_39 loos = loos := by kernel_rfl
noncomputable abbrev fC (L : List Str) (s : Shared) := ((seen ((recsOf view_39).map (·.name)) (ownsOf view_39) [] { s with gens := #[] }, s.heap.bltView, s.heap.keysOk L ((recsOf view_39).map (·.name)) ((litsOf view_39).map (·.1)) ((clssOf view_39 L).map (·.name)) && s.heap.accountedOkI (importedModules PySem.Challenge.rw_uf030026_01.row.toRowW.1.main.body) && s.heap.isNs mainGlobals && s.heap.isNs builtinsNs && tablesOk view_39 s.heap && xt s && (if true then s.gens.size == 0 else !leftWithCleanup s.gens), tabsOk view_39 s, pinSeenD view_39 (drecsOf view_39) s, plainSeenE view_39 L s, plainSeenD view_39 loos s, wideSeen view_39 s, clsSeenW view_39 loos s), hook.obs s)
noncomputable abbrev gC (L : List Str) (w : World) := ((expectedOf view_39, bltViewBooted, true, true, pinGoodD (drecsOf view_39), plainGoodE view_39 L, plainGoodD view_39 loos, wideGood view_39, clsGoodW view_39 loos), hook.val w)
theorem half (w : World) (os : OsState) : (topr w os false).map (fC loos) = some (gC loos (w.withFollow "special-get-raises" false)) := by kernel_rfl
theorem half' (w : World) (os : OsState) : (topr w os true).map (fC loos) = some (gC loos (w.withFollow "special-get-raises" true)) := by kernel_rfl
theorem whol (w : World) (os : OsState) (x : Bool) (h : (topr w os x).map (fC loos) = some (gC loos (w.withFollow "special-get-raises" x))) : (topr w os x).map (fun s => (openSeen view_39 loos (importedModules PySem.Challenge.rw_uf030026_01.row.toRowW.1.main.body) xt true s, hook.obs s)) = some (openGood view_39 loos, hook.val (w.withFollow "special-get-raises" x)) := by
  replace h : (topr w os x).map (fC (looseW view_39 loos)) = some (gC (looseW view_39 loos) (w.withFollow "special-get-raises" x)) := by rw [lw]; exact h
  exact h
theorem left : LeftO PySem.Challenge.rw_uf030026_01.row.toRowW.1 view_39 loos xt hook.obs hook.val 4008 := LeftO.of_split "special-get-raises" fun w => use_boot (bo w) fun os => congr (congrArg Prod.mk (whol w os false (half w os))) (whol w os true (half' w os))
end Mine.hd
end
section
open PySem
namespace Mine
set_option autoImplicit false

/-- abstract values -/
inductive PV where
  | none
  | bool (b : Bool)
  | int (i : Int)
  | str (s : Str)
  | tup (xs : List PV)
  | obj (a : Addr)
  | exc (c : Nat)
  | fls (xs : List Int)
  | fdt (kvs : List (Str × PV))
  | rng (n : Int)

/-- abstract objects -/
inductive AObj where
  | list (xs : List PV)
  | dict (kvs : List (Str × PV))
  | tape (n : Nat)
  | inst (c : Nat) (d : Addr)

abbrev AHeap := Addr → Option AObj
abbrev Loc := List (Option PV)
abbrev Post := PV → AHeap → Prop
abbrev BPost := Bool → AHeap → Prop
abbrev XPost := Nat → AHeap → Prop
abbrev CallSpec := Str → List PV → AHeap → Post → XPost → Prop

noncomputable def Ext (H H' : AHeap) : Prop := ∀ b o, H b = some o → H' b = some o
noncomputable def ExtB (a : Addr) (H H' : AHeap) : Prop := ∀ b o, b ≠ a → H b = some o → H' b = some o

inductive Blt where
  | len | list | tuple | range | max | min | int | str | all | any | abs
noncomputable def Blt.name : Blt → String
  | .len => "len" | .list => "list" | .tuple => "tuple" | .range => "range" | .max => "max" | .min => "min" | .int => "int" | .str => "str" | .all => "all" | .any => "any" | .abs => "abs"

inductive Meth where
  | append | pop | dpop | insert | count | join
noncomputable def Meth.name : Meth → String
  | .append => "append" | .pop => "pop" | .dpop => "pop" | .insert => "insert" | .count => "count" | .join => "join"

inductive ICls where
  | str | list | tuple | bool | int | intstr | value | own (c : Nat) (x : Str)

set_option genSizeOf false
set_option genInjectivity false
mutual
inductive AE where
  | lit (c : Const) (k : Nat) (p : Pos)
  | var (i : Nat) (p : Pos)
  | glob (x : Str) (p : Pos)
  | bin (l : AE) (o : Operator) (r : AE) (p : Pos)
  | neg (e : AE) (p : Pos)
  | not (e : AE) (p : Pos)
  | bop (o : BoolOp) (es : AEs) (p : Pos)
  | cmp (l : AE) (o : CmpOp) (r : AE) (p : Pos)
  | sub (e i : AE) (p : Pos)
  | sfrom (e i : AE) (ps p : Pos)
  | sto (e i : AE) (ps p : Pos)
  | srev (e : AE) (c ps p : Pos) (cu : Pos)
  | tup (es : AEs) (k : Nat) (p : Pos)
  | list (es : AEs) (p : Pos)
  | tape (pc p : Pos)
  | dict (ks : List (Str × Pos)) (vs : AEs) (p : Pos)
  | call (f : Str) (es : AEs) (pf p : Pos)
  | blt (b : Blt) (es : AEs) (pf p : Pos)
  | isi (e : AE) (c : ICls) (pf p1 p2 p3 p : Pos)
  | meth (o : AE) (nm : Meth) (es : AEs) (pa p : Pos)
  | umeth (o : AE) (c : Str) (nm : Str) (es : AEs) (pa p : Pos)
  | attr (o : AE) (nm : Str) (p : Pos)
  | comp (elt : AE) (x : Nat) (px : Pos) (it : AE) (cs : AEs) (sc : Scope) (p : Pos)
inductive AEs where
  | nil
  | cons (e : AE) (es : AEs)
end

mutual
inductive AS where
  | expr (e : AE) (p : Pos)
  | assign (x : Nat) (px : Pos) (e : AE) (p : Pos)
  | assignT (xs : List (Nat × Pos)) (k : Nat) (pt : Pos) (e : AE) (p : Pos)
  | store (o i : AE) (ps : Pos) (e : AE) (p : Pos)
  | sattr (o : AE) (nm : Str) (pa : Pos) (e : AE) (p : Pos)
  | ite (c : AE) (a b : ASs) (p : Pos)
  | for (x : Nat) (px : Pos) (it : AE) (b : ASs) (p : Pos)
  | while (c : AE) (b : ASs) (p : Pos)
  | ret (e : AE) (p : Pos)
  | ret0 (p : Pos)
  | raise (c : Nat) (x : Str) (msg : Str) (k : Nat) (pc pm pk p : Pos)
  | try (b : ASs) (hs : AHs) (p : Pos)
inductive ASs where
  | nil
  | cons (s : AS) (ss : ASs)
inductive AHs where
  | nil
  | cons (c : Nat) (x : Str) (px : Pos) (y : Option Nat) (b : ASs) (p : Pos) (hs : AHs)
end

set_option genSizeOf true
set_option genInjectivity true
section toSyntax
variable (nm : List Str)
noncomputable def slot (i : Nat) : Str := nm.getD i Str.empty
noncomputable def ICls.expr (p1 p2 p3 : Pos) : ICls → Expr
  | .str => .Name "str" p1
  | .list => .Name "list" p1
  | .tuple => .Name "tuple" p1
  | .bool => .Name "bool" p1
  | .int => .Name "int" p1
  | .intstr => .Tuple [.Name "int" p2, .Name "str" p3] 0 p1
  | .value => .Name "ValueError" p1
  | .own _ x => .Name x p1
mutual
noncomputable def AE.toE : AE → Expr
  | .lit c k p => .Constant c k p
  | .var i p => .Name (slot nm i) p
  | .glob x p => .Name x p
  | .bin l o r p => .BinOp l.toE o r.toE p
  | .neg e p => .UnaryOp .USub e.toE p
  | .not e p => .UnaryOp .Not e.toE p
  | .bop o es p => .BoolOp o es.toEs p
  | .cmp l o r p => .Compare l.toE [o] [r.toE] p
  | .sub e i p => .Subscript e.toE i.toE p
  | .sfrom e i ps p => .Subscript e.toE (.Slice (some i.toE) none none ps) p
  | .sto e i ps p => .Subscript e.toE (.Slice none (some i.toE) none ps) p
  | .srev e c ps p cu => .Subscript e.toE (.Slice none none (some (.UnaryOp .USub (.Constant (.int 1) 0 c) cu)) ps) p
  | .tup es k p => .Tuple es.toEs k p
  | .list es p => .List es.toEs p
  | .tape pc p => .List [.Constant (.int 0) 0 pc] p
  | .dict ks vs p => .Dict (ks.map fun x => some (.Constant (.str x.1) 0 x.2)) vs.toEs p
  | .call f es pf p => .Call (.Name f pf) es.toEs [] p
  | .blt b es pf p => .Call (.Name b.name pf) es.toEs [] p
  | .isi e c pf p1 p2 p3 p => .Call (.Name "isinstance" pf) [e.toE, c.expr p1 p2 p3] [] p
  | .meth o m es pa p => .Call (.Attribute o.toE m.name pa) es.toEs [] p
  | .umeth o _ m es pa p => .Call (.Attribute o.toE m pa) es.toEs [] p
  | .attr o m p => .Attribute o.toE m p
  | .comp elt x px it cs sc p => .ListComp elt.toE [{ target := .Name (slot nm x) px, iter := it.toE, ifs := cs.toEs, is_async := 0 }] sc p
noncomputable def AEs.toEs : AEs → List Expr
  | .nil => []
  | .cons e es => e.toE :: es.toEs
end
mutual
noncomputable def AS.toS : AS → Stmt
  | .expr e p => .Expr (e.toE nm) p
  | .assign x px e p => .Assign [.Name (slot nm x) px] (e.toE nm) p
  | .assignT xs k pt e p => .Assign [.Tuple (xs.map fun x => .Name (slot nm x.1) x.2) k pt] (e.toE nm) p
  | .store o i ps e p => .Assign [.Subscript (o.toE nm) (i.toE nm) ps] (e.toE nm) p
  | .sattr o n pa e p => .Assign [.Attribute (o.toE nm) n pa] (e.toE nm) p
  | .ite c a b p => .If (c.toE nm) a.toSs b.toSs p
  | .for x px it b p => .For (.Name (slot nm x) px) (it.toE nm) b.toSs [] p
  | .while c b p => .While (c.toE nm) b.toSs [] p
  | .ret e p => .Return (some (e.toE nm)) p
  | .ret0 p => .Return none p
  | .raise _ x msg k pc pm pk p => .Raise (some (.Call (.Name x pc) [.Constant (.str msg) k pm] [] pk)) none p
  | .try b hs p => .Try b.toSs hs.toHs [] [] p
noncomputable def ASs.toSs : ASs → List Stmt
  | .nil => []
  | .cons s ss => s.toS :: ss.toSs
noncomputable def AHs.toHs : AHs → List ExceptHandler
  | .nil => []
  | .cons _ x px y b p hs => .ExceptHandler (some (.Name x px)) (y.map (slot nm)) b.toSs p :: hs.toHs
end
end toSyntax

/-! the abstract semantics -/
noncomputable def LIM : Nat := 1048576
noncomputable def getO (H : AHeap) (a : Addr) (K : AObj → Prop) : Prop := ∃ o, H a = some o ∧ K o
noncomputable def alloc (o : AObj) (Q : Post) (H : AHeap) : Prop := ∀ a H', H a = none → H' a = some o → Ext H H' → Q (.obj a) H'
noncomputable def mutate (a : Addr) (o : AObj) (K : AHeap → Prop) (H : AHeap) : Prop := ∀ H', H' a = some o → ExtB a H H' → K H'

noncomputable def dget {α : Type} (kvs : List (Str × α)) (k : Str) : Option α := (kvs.find? fun p => decide (p.1 = k)).map (·.2)
noncomputable def dset {α : Type} (kvs : List (Str × α)) (k : Str) (v : α) : List (Str × α) :=
  if kvs.any (fun p => decide (p.1 = k)) then kvs.map (fun p => if p.1 = k then (p.1, v) else p) else kvs ++ [(k, v)]

inductive EqA : PV → PV → Bool → Prop
  | bool (a b : Bool) : EqA (.bool a) (.bool b) (a == b)
  | int (a b : Int) : EqA (.int a) (.int b) (a == b)
  | str (a b : Str) : EqA (.str a) (.str b) (a == b)
  | intstr (a : Int) (b : Str) : EqA (.int a) (.str b) false
  | strint (a : Str) (b : Int) : EqA (.str a) (.int b) false
mutual
inductive EqV (H : AHeap) : Nat → PV → PV → Bool → Prop
  | atom {n : Nat} {p q : PV} {b : Bool} : EqA p q b → EqV H n p q b
  | tup {n : Nat} {xs ys : List PV} {b : Bool} : EqL H n xs ys b → EqV H (n + 1) (.tup xs) (.tup ys) b
  | list {n : Nat} {a b : Addr} {xs ys : List PV} {r : Bool} : H a = some (.list xs) → H b = some (.list ys) → EqL H n xs ys r → EqV H (n + 1) (.obj a) (.obj b) r
inductive EqL (H : AHeap) : Nat → List PV → List PV → Bool → Prop
  | nil {n : Nat} : EqL H n [] [] true
  | l {n : Nat} (x : PV) (xs : List PV) : EqL H n (x :: xs) [] false
  | r {n : Nat} (y : PV) (ys : List PV) : EqL H n [] (y :: ys) false
  | c {n : Nat} {x y : PV} {xs ys : List PV} {a b : Bool} : EqV H n x y a → EqL H n xs ys b → EqL H n (x :: xs) (y :: ys) (a && b)
end
theorem EqV.bool {H : AHeap} {n : Nat} (a b : Bool) : EqV H n (.bool a) (.bool b) (a == b) := .atom (.bool a b)
theorem EqV.int {H : AHeap} {n : Nat} (a b : Int) : EqV H n (.int a) (.int b) (a == b) := .atom (.int a b)
theorem EqV.str {H : AHeap} {n : Nat} (a b : Str) : EqV H n (.str a) (.str b) (a == b) := .atom (.str a b)
inductive EqD (H : AHeap) : List (Str × PV) → List (Str × PV) → Bool → Prop
  | nil {ys : List (Str × PV)} : EqD H ys [] true
  | miss {ys xs : List (Str × PV)} {k : Str} {v : PV} : dget ys k = none → EqD H ys ((k, v) :: xs) false
  | c {ys xs : List (Str × PV)} {k : Str} {v w : PV} {a b : Bool} : dget ys k = some w → EqV H 40 v w a → EqD H ys xs b → EqD H ys ((k, v) :: xs) (a && b)
inductive EqT (H : AHeap) : PV → PV → Bool → Prop
  | val {v w : PV} {b : Bool} : EqV H 40 v w b → EqT H v w b
  | dict {a b : Addr} {xs ys : List (Str × PV)} {r : Bool} : H a = some (.dict xs) → H b = some (.dict ys) → xs.length = ys.length → EqD H ys xs r → EqT H (.obj a) (.obj b) r
  | dictlen {a b : Addr} {xs ys : List (Str × PV)} : H a = some (.dict xs) → H b = some (.dict ys) → xs.length ≠ ys.length → EqT H (.obj a) (.obj b) false

noncomputable def litW (c : Const) (Q : Post) (H : AHeap) : Prop :=
  match c with
  | .none => Q .none H
  | .bool b => Q (.bool b) H
  | .int i => Q (.int i) H
  | .str s => Q (.str s) H
  | _ => False
noncomputable def varW (v : Option PV) (Q : Post) (H : AHeap) : Prop :=
  match v with
  | some v => Q v H
  | none => False
noncomputable def truthW (v : PV) (K : Bool → Prop) : Prop :=
  match v with
  | .bool b => K b
  | _ => False
noncomputable def repL (n : Int) (xs : List PV) : List PV := (List.replicate n.toNat xs).flatten
inductive BinW (Q : Post) (H : AHeap) : Operator → PV → PV → Prop
  | addI (a b : Int) (h : Q (.int (a + b)) H) : BinW Q H .Add (.int a) (.int b)
  | subI (a b : Int) (h : Q (.int (a - b)) H) : BinW Q H .Sub (.int a) (.int b)
  | mulI (a b : Int) (k : a.natAbs < 2 ^ 60 ∨ b.natAbs < 2 ^ 60) (h : Q (.int (a * b)) H) : BinW Q H .Mult (.int a) (.int b)
  | modI (a b : Int) (k : 0 < b) (h : Q (.int (a % b)) H) : BinW Q H .Mod (.int a) (.int b)
  | divI (a b : Int) (k : 0 < b) (k' : b < 2 ^ 30) (h : Q (.int (a / b)) H) : BinW Q H .FloorDiv (.int a) (.int b)
  | powI (h : Q (.int 1000000000) H) : BinW Q H .Pow (.int 10) (.int 9)
  | addS (a b : Str) (k : a.length + b.length ≤ LIM) (h : Q (.str (a ++ b)) H) : BinW Q H .Add (.str a) (.str b)
  | addT (a b : List PV) (k : a.length + b.length ≤ LIM) (h : Q (.tup (a ++ b)) H) : BinW Q H .Add (.tup a) (.tup b)
  | addL (a b : Addr) (xs ys : List PV) (ha : H a = some (.list xs)) (hb : H b = some (.list ys)) (k : xs.length + ys.length ≤ LIM) (h : alloc (.list (xs ++ ys)) Q H) : BinW Q H .Add (.obj a) (.obj b)
  | mulL (a : Addr) (n : Int) (xs : List PV) (ha : H a = some (.list xs)) (k1 : n ≤ LIM) (k2 : -LIM ≤ n) (k3 : xs.length * n.toNat ≤ LIM) (h : alloc (.list (repL n xs)) Q H) : BinW Q H .Mult (.obj a) (.int n)
noncomputable def binW (op : Operator) (v w : PV) (Q : Post) (H : AHeap) : Prop := BinW Q H op v w
noncomputable def eqW (v w : PV) (K : Bool → Prop) (H : AHeap) : Prop :=
  match v, w with
  | .int a, .int b => K (a == b)
  | .str a, .str b => K (a == b)
  | v, w => ∃ b, EqT H v w b ∧ K b
noncomputable def hasKey (kvs : List (Str × PV)) (k : Str) : Bool := (dget kvs k).isSome
noncomputable def inW (v w : PV) (K : Bool → Prop) (H : AHeap) : Prop :=
  match v, w with
  | .str k, .obj a => getO H a fun o => match o with
      | .dict kvs => K (hasKey kvs k)
      | .list xs => ∃ ks : List Str, xs = ks.map .str ∧ K (decide (k ∈ ks))
      | _ => False
  | _, _ => False
noncomputable def cmpW (op : CmpOp) (v w : PV) (Q : BPost) (H : AHeap) : Prop :=
  match op with
  | .Eq => eqW v w (fun b => Q b H) H
  | .NotEq => eqW v w (fun b => Q (!b) H) H
  | .Is => False
  | .IsNot => False
  | .In => inW v w (fun b => Q b H) H
  | .NotIn => inW v w (fun b => Q (!b) H) H
  | .Lt => match v, w with | .int a, .int b => Q (decide (a < b)) H | _, _ => False
  | .LtE => match v, w with | .int a, .int b => Q (decide (a ≤ b)) H | _, _ => False
  | .Gt => match v, w with | .int a, .int b => Q (decide (b < a)) H | _, _ => False
  | .GtE => False
noncomputable def itemAt {α : Type} (xs : List α) (k : Int) : Option α :=
  if 0 ≤ k then xs[k.toNat]? else if 0 ≤ k + xs.length then xs[(k + xs.length).toNat]? else none
noncomputable def signAt (s : Str) (k : Int) : Option Str := (itemAt s.cps.toList k).map fun c => ⟨#[c]⟩
noncomputable def subW (v i : PV) (Q : Post) (H : AHeap) : Prop :=
  match v, i with
  | .tup xs, .int k => ∃ x, itemAt xs k = some x ∧ Q x H
  | .str s, .int k => s.length ≤ LIM ∧ ∃ x, signAt s k = some x ∧ Q (.str x) H
  | .fls xs, .int k => ∃ x, itemAt xs k = some x ∧ Q (.int x) H
  | .fdt kvs, .str k => ∃ x, dget kvs k = some x ∧ Q x H
  | .obj a, i => getO H a fun o => match o, i with
      | .list xs, .int k => ∃ x, itemAt xs k = some x ∧ Q x H
      | .dict kvs, .str k => ∃ x, dget kvs k = some x ∧ Q x H
      | .tape n, .int k => k = 0 ∧ Q (.int n) H
      | _, _ => False
  | _, _ => False
/-- where a cut falls in a row of n -/
noncomputable def cutAt (n : Nat) (k : Int) : Nat := if 0 ≤ k then min k.toNat n else (k + n).toNat
noncomputable def sfromW (v i : PV) (Q : Post) (H : AHeap) : Prop :=
  match v, i with
  | .tup xs, .int k => Q (.tup (xs.drop (cutAt xs.length k))) H
  | .str s, .int k => s.length ≤ LIM ∧ Q (.str ⟨(s.cps.toList.drop (cutAt s.length k)).toArray⟩) H
  | .obj a, .int k => getO H a fun o => match o with
      | .list xs => alloc (.list (xs.drop (cutAt xs.length k))) Q H
      | _ => False
  | _, _ => False
noncomputable def stoW (v i : PV) (Q : Post) (H : AHeap) : Prop :=
  match v, i with
  | .tup xs, .int k => Q (.tup (xs.take (cutAt xs.length k))) H
  | .str s, .int k => s.length ≤ LIM ∧ Q (.str ⟨(s.cps.toList.take (cutAt s.length k)).toArray⟩) H
  | .fls xs, .int k => alloc (.list ((xs.take (cutAt xs.length k)).map .int)) Q H
  | .obj a, .int k => getO H a fun o => match o with
      | .list xs => alloc (.list (xs.take (cutAt xs.length k))) Q H
      | _ => False
  | _, _ => False
noncomputable def srevW (v : PV) (Q : Post) (H : AHeap) : Prop :=
  match v with
  | .obj a => getO H a fun o => match o with
      | .list xs => alloc (.list xs.reverse) Q H
      | _ => False
  | _ => False
noncomputable def dictOf (ks : List Str) (vs : List PV) : List (Str × PV) := (ks.zip vs).foldl (fun d p => dset d p.1 p.2) []
noncomputable def lenW (v : PV) (Q : Post) (H : AHeap) : Prop :=
  match v with
  | .tup xs => Q (.int xs.length) H
  | .str s => s.length ≤ LIM ∧ Q (.int s.length) H
  | .fls xs => Q (.int xs.length) H
  | .obj a => getO H a fun o => match o with
      | .list xs => Q (.int xs.length) H
      | .dict kvs => Q (.int kvs.length) H
      | _ => False
  | _ => False
inductive BltW (Q : Post) (H : AHeap) : Blt → List PV → Prop
  | len (v : PV) (h : lenW v Q H) : BltW Q H .len [v]
  | listT (xs : List PV) (h : alloc (.list xs) Q H) : BltW Q H .list [.tup xs]
  | listL (a : Addr) (xs : List PV) (ha : H a = some (.list xs)) (h : alloc (.list xs) Q H) : BltW Q H .list [.obj a]
  | listD (a : Addr) (kvs : List (Str × PV)) (ha : H a = some (.dict kvs)) (h : alloc (.list (kvs.map fun x => .str x.1)) Q H) : BltW Q H .list [.obj a]
  | tupT (xs : List PV) (h : Q (.tup xs) H) : BltW Q H .tuple [.tup xs]
  | tupL (a : Addr) (xs : List PV) (ha : H a = some (.list xs)) (h : Q (.tup xs) H) : BltW Q H .tuple [.obj a]
  | range (n : Int) (k : n.natAbs ≤ LIM) (h : Q (.rng n) H) : BltW Q H .range [.int n]
  | max (a b : Int) (h : Q (.int (if a < b then b else a)) H) : BltW Q H .max [.int a, .int b]
  | min (a b : Int) (h : Q (.int (if b < a then b else a)) H) : BltW Q H .min [.int a, .int b]
  | intB (b : Bool) (h : Q (.int (if b then 1 else 0)) H) : BltW Q H .int [.bool b]
  | intI (i : Int) (h : Q (.int i) H) : BltW Q H .int [.int i]
  | strI (i : Int) (k : i.natAbs < 10 ^ 18) (h : Q (.str (Str.ofString (toString i))) H) : BltW Q H .str [.int i]
  | abs (i : Int) (h : Q (.int i.natAbs) H) : BltW Q H .abs [.int i]
noncomputable def bltW (b : Blt) (vs : List PV) (Q : Post) (H : AHeap) : Prop := BltW Q H b vs
noncomputable def isSub (k c : Nat) : Bool := k == c || c == 0
noncomputable def isiT (c : ICls) (v : PV) (K : Bool → Prop) (H : AHeap) : Prop :=
  match v with
  | .none => K false
  | .bool _ => K (match c with | .bool | .int => true | _ => false)
  | .int _ => K (match c with | .int => true | _ => false)
  | .str _ => K (match c with | .str => true | _ => false)
  | .tup _ => K (match c with | .tuple => true | _ => false)
  | .obj a => getO H a fun o => match o with
      | .list _ => K (match c with | .list => true | _ => false)
      | _ => False
  | _ => False
noncomputable def isiW (c : ICls) (v : PV) (K : Bool → Prop) (H : AHeap) : Prop :=
  match c with
  | .own j _ => (match v with | .exc k => K (isSub k j) | _ => False)
  | .value => (match v with | .exc _ => K true | _ => False)
  | .intstr => False
  | .str => isiT .str v K H
  | .list => isiT .list v K H
  | .tuple => isiT .tuple v K H
  | .bool => isiT .bool v K H
  | .int => isiT .int v K H
inductive MethW (Q : Post) (H : AHeap) : Meth → PV → List PV → Prop
  | append (a : Addr) (xs : List PV) (x : PV) (ha : H a = some (.list xs)) (k : xs.length < LIM) (h : mutate a (.list (xs ++ [x])) (fun H' => Q .none H') H) : MethW Q H .append (.obj a) [x]
  | pop (a : Addr) (ys : List PV) (x : PV) (ha : H a = some (.list (ys ++ [x]))) (h : mutate a (.list ys) (fun H' => Q x H') H) : MethW Q H .pop (.obj a) []
  | insert (a : Addr) (xs : List PV) (k : Int) (x : PV) (ha : H a = some (.list xs)) (k0 : 0 ≤ k) (k1 : k ≤ xs.length) (k2 : xs.length < LIM) (h : mutate a (.list (xs.take k.toNat ++ x :: xs.drop k.toNat)) (fun H' => Q .none H') H) : MethW Q H .insert (.obj a) [.int k, x]
  | count (a : Addr) (bs : List Bool) (b : Bool) (ha : H a = some (.list (bs.map .bool))) (h : Q (.int (bs.count b)) H) : MethW Q H .count (.obj a) [.bool b]
  | join (s : Str) (a : Addr) (ss : List Str) (ha : H a = some (.list (ss.map .str))) (e : s.length = 0) (k : (ss.map (·.length)).sum ≤ LIM) (h : Q (.str (Str.join s ss)) H) : MethW Q H .join (.str s) [.obj a]
noncomputable def methW (m : Meth) (v : PV) (vs : List PV) (Q : Post) (H : AHeap) : Prop := MethW Q H m v vs
noncomputable def recvW (m : Meth) (v : PV) (H : AHeap) : Prop :=
  match m, v with
  | .append, .obj a => ∃ xs, H a = some (.list xs)
  | .pop, .obj a => ∃ xs, H a = some (.list xs)
  | .insert, .obj a => ∃ xs, H a = some (.list xs)
  | .count, .obj a => ∃ xs, H a = some (.list xs)
  | .dpop, .obj a => ∃ kvs, H a = some (.dict kvs)
  | .join, .str _ => True
  | _, _ => False
noncomputable def attrW (v : PV) (n : Str) (Q : Post) (H : AHeap) : Prop :=
  match v with
  | .obj a => getO H a fun o => match o with
      | .inst _ d => getO H d fun o => match o with
          | .dict fs => ∃ x, dget fs n = some x ∧ Q x H
          | _ => False
      | _ => False
  | _ => False
/-- what a loop goes over, and what must stay so -/
noncomputable def itemsW (v : PV) (K : List PV → (AHeap → Prop) → Prop) (H : AHeap) : Prop :=
  match v with
  | .tup xs => K xs fun _ => True
  | .rng n => K ((List.range n.toNat).map fun (i : Nat) => .int i) fun _ => True
  | .obj a => getO H a fun o => match o with
      | .list xs => K xs fun H' => H' a = some (.list xs)
      | _ => False
  | _ => False
noncomputable def compW (src : AHeap → Prop) (el : PV → (List PV → AHeap → Prop) → AHeap → Prop) (Q : List PV → AHeap → Prop) : List PV → List PV → AHeap → Prop
  | [], acc, H => src H ∧ Q acc H
  | x :: xs, acc, H => src H ∧ el x (fun vs H' => compW src el Q xs (acc ++ vs) H') H
noncomputable def forW (src : AHeap → Prop) (st : PV → (Loc → AHeap → Prop) → Loc → AHeap → Prop) (N : Loc → AHeap → Prop) : List PV → Loc → AHeap → Prop
  | [], m, H => src H ∧ N m H
  | x :: xs, m, H => src H ∧ st x (fun m' H' => forW src st N xs m' H') m H

structure Gl where
  C : CallSpec
  G : Str → Option PV

section
variable (g : Gl)
mutual
noncomputable def awpE : AE → Post → XPost → Loc → AHeap → Prop
  | .lit c _ _, Q, _, _, H => litW c Q H
  | .var i _, Q, _, m, H => varW (m.getD i none) Q H
  | .glob x _, Q, _, _, H => varW (g.G x) Q H
  | .bin l o r _, Q, X, m, H => awpE l (fun v H => awpE r (fun w H => binW o v w Q H) X m H) X m H
  | .neg e _, Q, X, m, H => awpE e (fun v H => match v with | .int i => Q (.int (-i)) H | _ => False) X m H
  | .not e _, Q, X, m, H => awpE e (fun v H => truthW v fun b => Q (.bool !b) H) X m H
  | .bop o es _, Q, X, m, H => awpV o es Q X m H
  | .cmp l o r _, Q, X, m, H => awpE l (fun v H => awpE r (fun w H => cmpW o v w (fun b H => Q (.bool b) H) H) X m H) X m H
  | .sub e i _, Q, X, m, H => awpE e (fun v H => awpE i (fun w H => subW v w Q H) X m H) X m H
  | .sfrom e i _ _, Q, X, m, H => awpE e (fun v H => awpE i (fun w H => sfromW v w Q H) X m H) X m H
  | .sto e i _ _, Q, X, m, H => awpE e (fun v H => awpE i (fun w H => stoW v w Q H) X m H) X m H
  | .srev e _ _ _ _, Q, X, m, H => awpE e (fun v H => srevW v Q H) X m H
  | .tup es _ _, Q, X, m, H => awpL es (fun vs H => Q (.tup vs) H) X m H
  | .list es _, Q, X, m, H => awpL es (fun vs H => alloc (.list vs) Q H) X m H
  | .tape _ _, Q, _, _, H => alloc (.tape 0) Q H
  | .dict ks es _, Q, X, m, H => awpL es (fun vs H => alloc (.dict (dictOf (ks.map (·.1)) vs)) Q H) X m H
  | .call f es _ _, Q, X, m, H => awpL es (fun vs H => g.C f vs H Q X) X m H
  | .blt b es _ _, Q, X, m, H => awpL es (fun vs H => bltW b vs Q H) X m H
  | .isi e c _ _ _ _ _, Q, X, m, H => awpE e (fun v H => isiW c v (fun b => Q (.bool b) H) H) X m H
  | .meth e n es _ _, Q, X, m, H => awpE e (fun v H => recvW n v H ∧ awpL es (fun vs H => methW n v vs Q H) X m H) X m H
  | .umeth e k _ es _ _, Q, X, m, H => awpE e (fun v H => awpL es (fun vs H => g.C k (v :: vs) H Q X) X m H) X m H
  | .attr e n _, Q, X, m, H => awpE e (fun v H => attrW v n Q H) X m H
  | .comp e x _ it cs _ _, Q, X, m, H => awpE it (fun v H => itemsW v (fun xs src =>
      compW src (fun y K H => awpC cs (fun b H => if b then awpE e (fun v H => K [v] H) (fun _ _ => False) (m.set x (some y)) H else K [] H) (fun _ _ => False) (m.set x (some y)) H)
        (fun vs H => alloc (.list vs) Q H) xs [] H) H) X m H
noncomputable def awpL : AEs → (List PV → AHeap → Prop) → XPost → Loc → AHeap → Prop
  | .nil, Q, _, _, H => Q [] H
  | .cons e es, Q, X, m, H => awpE e (fun v H => awpL es (fun vs H => Q (v :: vs) H) X m H) X m H
noncomputable def awpV : BoolOp → AEs → Post → XPost → Loc → AHeap → Prop
  | _, .nil, _, _, _, _ => False
  | _, .cons e .nil, Q, X, m, H => awpE e Q X m H
  | o, .cons e es, Q, X, m, H => awpE e (fun v H => truthW v fun b => match o, b with
      | .And, false => Q v H
      | .Or, true => Q v H
      | _, _ => awpV o es Q X m H) X m H
noncomputable def awpB : AE → (Post → XPost → Loc → AHeap → Prop) → BPost → XPost → Loc → AHeap → Prop
  | .not e _, _, Q, X, m, H => awpB e (awpE e) (fun b H => Q (!b) H) X m H
  | .bop o es _, _, Q, X, m, H => awpBs o es Q X m H
  | .cmp l o r _, _, Q, X, m, H => awpE l (fun v H => awpE r (fun w H => cmpW o v w Q H) X m H) X m H
  | _, W, Q, X, m, H => W (fun v H => truthW v fun b => Q b H) X m H
noncomputable def awpBs : BoolOp → AEs → BPost → XPost → Loc → AHeap → Prop
  | o, .nil, Q, _, _, H => Q (o == .And) H
  | o, .cons e es, Q, X, m, H => awpB e (awpE e) (fun b H => match o, b with
      | .And, false => Q false H
      | .Or, true => Q true H
      | _, _ => awpBs o es Q X m H) X m H
noncomputable def awpC : AEs → BPost → XPost → Loc → AHeap → Prop
  | .nil, Q, _, _, H => Q true H
  | .cons e _, Q, X, m, H => awpB e (awpE e) Q X m H
end

abbrev NPost := Loc → AHeap → Prop
abbrev SXPost := Nat → Loc → AHeap → Prop
noncomputable def unpackW (v : PV) (n : Nat) (K : List PV → Prop) : Prop :=
  match v with
  | .tup xs => xs.length = n ∧ K xs
  | _ => False
noncomputable def setAll : List (Nat × Pos) → List PV → Loc → Loc
  | x :: xs, v :: vs, m => setAll xs vs (m.set x.1 (some v))
  | _, _, m => m
noncomputable def storeW (v i x : PV) (K : AHeap → Prop) (H : AHeap) : Prop :=
  match v with
  | .obj a => getO H a fun o => match o, i, x with
      | .list xs, .int k, x => 0 ≤ k ∧ k < xs.length ∧ mutate a (.list (xs.set k.toNat x)) K H
      | .dict kvs, .str k, x => kvs.length < LIM ∧ mutate a (.dict (dset kvs k x)) K H
      | .tape _, .int k, .int j => k = 0 ∧ 0 ≤ j ∧ mutate a (.tape j.toNat) K H
      | _, _, _ => False
  | _ => False
noncomputable def sattrW (v : PV) (n : Str) (x : PV) (K : AHeap → Prop) (H : AHeap) : Prop :=
  match v with
  | .obj a => getO H a fun o => match o with
      | .inst _ d => getO H d fun o => match o with
          | .dict fs => fs.length < LIM ∧ mutate d (.dict (dset fs n x)) K H
          | _ => False
      | _ => False
  | _ => False
mutual
noncomputable def awpS : AS → NPost → Post → SXPost → Loc → AHeap → Prop
  | .expr e _, N, _, X, m, H => awpE g e (fun _ H => N m H) (fun c H => X c m H) m H
  | .assign x _ e _, N, _, X, m, H => awpE g e (fun v H => N (m.set x (some v)) H) (fun c H => X c m H) m H
  | .assignT xs _ _ e _, N, _, X, m, H => awpE g e (fun v H => unpackW v xs.length fun vs => N (setAll xs vs m) H) (fun c H => X c m H) m H
  | .store o i _ e _, N, _, X, m, H => awpE g e (fun x H => awpE g o (fun v H => awpE g i (fun w H => storeW v w x (fun H => N m H) H) (fun c H => X c m H) m H) (fun c H => X c m H) m H) (fun c H => X c m H) m H
  | .sattr o n _ e _, N, _, X, m, H => awpE g e (fun x H => awpE g o (fun v H => sattrW v n x (fun H => N m H) H) (fun c H => X c m H) m H) (fun c H => X c m H) m H
  | .ite c a b _, N, R, X, m, H => awpB g c (awpE g c) (fun t H => if t then awpSs a N R X m H else awpSs b N R X m H) (fun c H => X c m H) m H
  | .for x _ it b _, N, R, X, m, H => awpE g it (fun v H => itemsW v (fun xs src => forW src (fun y K m H => awpSs b K R X (m.set x (some y)) H) N xs m H) H) (fun c H => X c m H) m H
  | .while c b _, N, R, X, m, H => ∃ I : Nat → Loc → AHeap → Prop, (∃ k, I k m H) ∧ ∀ k m H, I k m H →
      awpB g c (awpE g c) (fun t H => if t then awpSs b (fun m H => ∃ j, j < k ∧ I j m H) R X m H else N m H) (fun c H => X c m H) m H
  | .ret e _, _, R, X, m, H => awpE g e R (fun c H => X c m H) m H
  | .ret0 _, _, R, _, _, H => R .none H
  | .raise c _ _ _ _ _ _ _, _, _, X, m, H => X c m H
  | .try b hs _, N, R, _, m, H => awpSs b N R (fun c m H => awpHs hs c N R m H) m H
noncomputable def awpSs : ASs → NPost → Post → SXPost → Loc → AHeap → Prop
  | .nil, N, _, _, m, H => N m H
  | .cons s ss, N, R, X, m, H => awpS s (fun m H => awpSs ss N R X m H) R X m H
noncomputable def awpHs : AHs → Nat → NPost → Post → Loc → AHeap → Prop
  | .nil, _, _, _, _, _ => False
  | .cons k _ _ y b _ hs, c, N, R, m, H =>
    if isSub c k then (match y with
      | none => awpSs b N R (fun _ _ _ => False) m H
      | some y => awpSs b (fun m H => N (m.set y none) H) R (fun _ _ _ => False) (m.set y (some (.exc c))) H)
    else awpHs hs c N R m H
end
end
end Mine
end
section
open PySem PySem.Calls PyProof.Rows
namespace Mine
set_option autoImplicit false

structure Cx where
  prog : Program
  w : World
  B : Heap
  cls : Nat → Option Addr
  icls : Nat → Option Addr
  ga : Addr
  ba : Addr
abbrev Cx.M (cx : Cx) : Model := model cx.prog cx.w
abbrev Cx.sk (cx : Cx) : KeyKind cx.prog cx.w Str := PySem.strKind cx.prog cx.w

noncomputable def tupObj (items : Array Value) (n : Nat) : Obj := { cls := .type "tuple", data := .seq items n }
noncomputable def lstObj (items : Array Value) (n : Nat) : Obj := { cls := .type "list", data := .seq items n }
noncomputable def rngObj (n : Int) (t u v : Tok) : Obj := { cls := .type "range", dict := none, data := .fields #[.int 0 t, .int n u, .int 1 v], slots := #[] }
noncomputable def insObj (C d : Addr) : Obj := { cls := .ref C, dict := some d }

mutual
inductive Rep (cx : Cx) (h : Heap) : Value → PV → Prop
  | none : Rep cx h .none .none
  | bool (b : Bool) : Rep cx h (.bool b) (.bool b)
  | int (i : Int) (t : Tok) : Rep cx h (.int i t) (.int i)
  | str (x : Str) (t : Tok) : Rep cx h (.str x t) (.str x)
  | tup {a : Addr} {items : Array Value} {n : Nat} {xs : List PV} : h.get? a = some (tupObj items n) → xs.length ≤ LIM → RepL cx h items.toList xs → Rep cx h (.ref a) (.tup xs)
  | obj (a : Addr) : Rep cx h (.ref a) (.obj a)
  | exc {e : Addr} {o : Obj} {vs : Array Value} {c : Nat} {C : Addr} : h.get? e = some o → o.cls = .ref C → o.data = .fields vs → cx.cls c = some C → o.dict = none → Rep cx h (.ref e) (.exc c)
  | fls {a : Addr} {items : Array Value} {ns : List Int} : cx.B.IsList a items → IntsAre items.toList ns → ns.length ≤ LIM → Rep cx h (.ref a) (.fls ns)
  | fdt {a : Addr} {vs : List (Str × Value)} {kvs : List (Str × PV)} : cx.B.DictOf cx.sk a vs → RepK cx h vs kvs → Rep cx h (.ref a) (.fdt kvs)
  | rng {a : Addr} {n : Int} {t u v : Tok} : h.get? a = some (rngObj n t u v) → n.natAbs ≤ LIM → Rep cx h (.ref a) (.rng n)
inductive RepL (cx : Cx) (h : Heap) : List Value → List PV → Prop
  | nil : RepL cx h [] []
  | cons {v : Value} {p : PV} {vs : List Value} {ps : List PV} : Rep cx h v p → RepL cx h vs ps → RepL cx h (v :: vs) (p :: ps)
inductive RepK (cx : Cx) (h : Heap) : List (Str × Value) → List (Str × PV) → Prop
  | nil : RepK cx h [] []
  | cons {k : Str} {v : Value} {p : PV} {vs : List (Str × Value)} {ps : List (Str × PV)} : Rep cx h v p → RepK cx h vs ps → RepK cx h ((k, v) :: vs) ((k, p) :: ps)
end

noncomputable def RepO (cx : Cx) (h : Heap) (a : Addr) : AObj → Prop
  | .list xs => ∃ items n, h.get? a = some (lstObj items n) ∧ RepL cx h items.toList xs ∧ xs.length ≤ LIM
  | .tape k => ∃ t n, h.get? a = some (lstObj #[.int k t] n)
  | .dict kvs => ∃ vs, h.DictOf cx.sk a vs ∧ RepK cx h vs kvs ∧ kvs.length ≤ LIM ∧ (a == sysModules) = false
  | .inst c d => ∃ C, cx.icls c = some C ∧ h.get? a = some (insObj C d)

/-- the objects that values hang on -/
noncomputable def Solid (o : Obj) : Prop := (∃ items n, o = tupObj items n) ∨ (∃ n t u v, o = rngObj n t u v) ∨ ((∃ C, o.cls = .ref C) ∧ ∃ vs, o.data = .fields vs)
noncomputable def Holds (cx : Cx) (h : Heap) (H : AHeap) : Prop := ∀ a o, H a = some o → RepO cx h a o

theorem RepO.get {cx : Cx} {h : Heap} {a : Addr} {o : AObj} (r : RepO cx h a o) : ∃ ob, h.get? a = some ob ∧ ¬ Solid ob ∧ ∀ vs, ob.data ≠ .fields vs := by
  cases o with
  | list xs =>
    obtain ⟨items, n, e, _⟩ := r
    exact ⟨_, e, by rintro (⟨i, n, q⟩ | ⟨n, t, u, v, q⟩ | ⟨⟨C, q⟩, _⟩) <;> simp [lstObj, tupObj, rngObj] at q, by simp [lstObj]⟩
  | tape k =>
    obtain ⟨t, n, e⟩ := r
    exact ⟨_, e, by rintro (⟨i, n, q⟩ | ⟨n, t, u, v, q⟩ | ⟨⟨C, q⟩, _⟩) <;> simp [lstObj, tupObj, rngObj] at q, by simp [lstObj]⟩
  | dict kvs =>
    obtain ⟨vs, ⟨o, es, ep, e, ⟨hc, _⟩, hd, _⟩, _⟩ := r
    refine ⟨_, e, ?_, by simp [hd]⟩
    rintro (⟨i, n, q⟩ | ⟨n, t, u, v, q⟩ | ⟨⟨C, q⟩, _⟩)
    · rw [q] at hc; simp [tupObj] at hc
    · rw [q] at hc; simp [rngObj] at hc
    · rw [q] at hc; simp at hc
  | inst c d =>
    obtain ⟨C, _, e⟩ := r
    refine ⟨_, e, ?_, by simp [insObj]⟩
    rintro (⟨i, n, q⟩ | ⟨n, t, u, v, q⟩ | ⟨_, vs, q⟩) <;> simp [insObj, tupObj, rngObj] at q

mutual
theorem Rep.mono' {cx : Cx} {h h' : Heap} (k : ∀ b o, h.get? b = some o → Solid o → h'.get? b = some o ∨ ((∃ C, o.cls = .ref C) ∧ ∃ o' vs', h'.get? b = some o' ∧ (o'.cls = o.cls ∧ o'.dict = o.dict) ∧ o'.data = .fields vs')) : ∀ {v : Value} {p : PV}, Rep cx h v p → Rep cx h' v p
  | _, _, .none => .none
  | _, _, .bool b => .bool b
  | _, _, .int i t => .int i t
  | _, _, .str x t => .str x t
  | _, _, .tup e l r => by
    rcases k _ _ e (.inl ⟨_, _, rfl⟩) with e' | ⟨⟨C, q⟩, _⟩
    · exact .tup e' l (RepL.mono' k r)
    · cases q
  | _, _, .obj a => .obj a
  | _, _, .exc e c d x y => by
    rcases k _ _ e (.inr (.inr ⟨⟨_, c⟩, _, d⟩)) with e' | ⟨_, o', vs', e', c', d'⟩
    · exact .exc e' c d x y
    · exact .exc e' (c'.1.trans c) d' x (c'.2.trans y)
  | _, _, .fls e i l => .fls e i l
  | _, _, .fdt d r => .fdt d (RepK.mono' k r)
  | _, _, .rng e l => by
    rcases k _ _ e (.inr (.inl ⟨_, _, _, _, rfl⟩)) with e' | ⟨⟨C, q⟩, _⟩
    · exact .rng e' l
    · cases q
theorem RepL.mono' {cx : Cx} {h h' : Heap} (k : ∀ b o, h.get? b = some o → Solid o → h'.get? b = some o ∨ ((∃ C, o.cls = .ref C) ∧ ∃ o' vs', h'.get? b = some o' ∧ (o'.cls = o.cls ∧ o'.dict = o.dict) ∧ o'.data = .fields vs')) : ∀ {vs : List Value} {ps : List PV}, RepL cx h vs ps → RepL cx h' vs ps
  | _, _, .nil => .nil
  | _, _, .cons r rs => .cons (Rep.mono' k r) (RepL.mono' k rs)
theorem RepK.mono' {cx : Cx} {h h' : Heap} (k : ∀ b o, h.get? b = some o → Solid o → h'.get? b = some o ∨ ((∃ C, o.cls = .ref C) ∧ ∃ o' vs', h'.get? b = some o' ∧ (o'.cls = o.cls ∧ o'.dict = o.dict) ∧ o'.data = .fields vs')) : ∀ {vs : List (Str × Value)} {ps : List (Str × PV)}, RepK cx h vs ps → RepK cx h' vs ps
  | _, _, .nil => .nil
  | _, _, .cons r rs => .cons (Rep.mono' k r) (RepK.mono' k rs)
end
theorem Rep.mono {cx : Cx} {h h' : Heap} (k : ∀ b o, h.get? b = some o → Solid o → h'.get? b = some o) {v : Value} {p : PV} (r : Rep cx h v p) : Rep cx h' v p := Rep.mono' (fun b o e s => .inl (k b o e s)) r
theorem RepL.mono {cx : Cx} {h h' : Heap} (k : ∀ b o, h.get? b = some o → Solid o → h'.get? b = some o) {vs : List Value} {ps : List PV} (r : RepL cx h vs ps) : RepL cx h' vs ps := RepL.mono' (fun b o e s => .inl (k b o e s)) r
theorem RepK.mono {cx : Cx} {h h' : Heap} (k : ∀ b o, h.get? b = some o → Solid o → h'.get? b = some o) {vs : List (Str × Value)} {ps : List (Str × PV)} (r : RepK cx h vs ps) : RepK cx h' vs ps := RepK.mono' (fun b o e s => .inl (k b o e s)) r

theorem RepL.length {cx : Cx} {h : Heap} : ∀ {vs : List Value} {ps : List PV}, RepL cx h vs ps → vs.length = ps.length
  | _, _, .nil => rfl
  | _, _, .cons _ rs => by simp [RepL.length rs]
theorem RepK.length {cx : Cx} {h : Heap} : ∀ {vs : List (Str × Value)} {ps : List (Str × PV)}, RepK cx h vs ps → vs.length = ps.length
  | _, _, .nil => rfl
  | _, _, .cons _ rs => by simp [RepK.length rs]

noncomputable def SameO (o o' : Obj) : Prop := o' = o ∨ ((∃ es ep, o.data = .dict es ep) ∧ ∃ sl, o' = { o with slots := sl })
theorem SameO.refl (o : Obj) : SameO o o := .inl rfl
theorem SameO.cls {o o' : Obj} (h : SameO o o') : o'.cls = o.cls := by rcases h with rfl | ⟨_, sl, rfl⟩ <;> rfl
theorem SameO.data {o o' : Obj} (h : SameO o o') : o'.data = o.data := by rcases h with rfl | ⟨_, sl, rfl⟩ <;> rfl
theorem SameO.trans {a b c : Obj} (h : SameO a b) (k : SameO b c) : SameO a c := by
  rcases k with rfl | ⟨hc, sl, rfl⟩
  · exact h
  · rcases h with rfl | ⟨hb, sl', rfl⟩
    · exact .inr ⟨hc, sl, rfl⟩
    · exact .inr ⟨hb, sl, rfl⟩
theorem SameO.eq {o o' : Obj} (h : SameO o o') (n : ∀ es ep, o.data ≠ .dict es ep) : o' = o := h.resolve_right fun ⟨⟨es, ep, q⟩, _⟩ => n es ep q

/-- what a piece of a run leaves as it was -/
structure Kp (cx : Cx) (S : List Addr) (H : AHeap) (s : Shared) (H' : AHeap) (s' : Shared) : Prop where
  same : ∃ h' tk, s' = { s with heap := h', toks := tk }
  keep : ∀ b o, s.heap.get? b = some o → b ∉ S → H b = none → H' b = none ∧ ∃ o', s'.heap.get? b = some o' ∧ SameO o o'
  alive : ∀ b o, s.heap.get? b = some o → ∃ o', s'.heap.get? b = some o'
  base : ∀ b o, cx.B.get? b = some o → s.heap.get? b = some o → s'.heap.get? b = some o

theorem Kp.refl (cx : Cx) (S : List Addr) (H : AHeap) (s : Shared) : Kp cx S H s H s :=
  ⟨⟨s.heap, s.toks, rfl⟩, fun _ o e _ h => ⟨h, o, e, .refl o⟩, fun _ o e => ⟨o, e⟩, fun _ _ _ e => e⟩
theorem Kp.trans {cx : Cx} {S : List Addr} {H H₁ H₂ : AHeap} {s s₁ s₂ : Shared} (a : Kp cx S H s H₁ s₁) (b : Kp cx S H₁ s₁ H₂ s₂) : Kp cx S H s H₂ s₂ where
  same := by obtain ⟨h, t, rfl⟩ := a.same; obtain ⟨h', t', rfl⟩ := b.same; exact ⟨h', t', rfl⟩
  keep := fun x o e n hn => by
    obtain ⟨h1, o1, e1, s1⟩ := a.keep x o e n hn
    obtain ⟨h2, o2, e2, s2⟩ := b.keep x o1 e1 n h1
    exact ⟨h2, o2, e2, s1.trans s2⟩
  alive := fun x o e => let ⟨o1, e1⟩ := a.alive x o e; b.alive x o1 e1
  base := fun x o e e' => b.base x o e (a.base x o e e')
theorem Kp.sub {cx : Cx} {S S' : List Addr} {H H' : AHeap} {s s' : Shared} (a : Kp cx S H s H' s') (k : ∀ b o, s.heap.get? b = some o → b ∈ S → b ∈ S') : Kp cx S' H s H' s' :=
  ⟨a.same, fun b o e n hn => a.keep b o e (fun q => n (k b o e q)) hn, a.alive, a.base⟩
theorem Kp.nil {cx : Cx} {S : List Addr} {H H' : AHeap} {s s' : Shared} (a : Kp cx [] H s H' s') : Kp cx S H s H' s' := a.sub fun _ _ _ q => nomatch q
/-- every object stays, the abstract heap is the same or larger by new ones -/
theorem Kp.grow {cx : Cx} {S : List Addr} {H H' : AHeap} {s : Shared} {h' : Heap} {tk : Nat} (k : ∀ b o, s.heap.get? b = some o → h'.get? b = some o)
    (hH : ∀ b o, s.heap.get? b = some o → H b = none → H' b = none) : Kp cx S H s H' { s with heap := h', toks := tk } :=
  ⟨⟨h', tk, rfl⟩, fun b o e _ hn => ⟨hH b o e hn, o, k b o e, .refl o⟩, fun b o e => ⟨o, k b o e⟩, fun b o _ e => k b o e⟩

structure Fm where
  A : Around
  env : Env
  fs : List Env
  nm : List Str
  vis : Nat → Bool

inductive FrAt (cx : Cx) (H : AHeap) (h : Heap) (env : Env) : Prop
  | mk (hk : env.scope.kind ≠ .module) (L : Addr) (o : Obj) (es : Array DictEntry) (ep : Nat) (hf : env.frame = some L) (hH : H L = none) (hb : cx.B.get? L = none) (ho : h.get? L = some o) (hd : o.data = .dict es ep) : FrAt cx H h env
inductive VarsAt (cx : Cx) (F : Fm) (m : Loc) (h : Heap) : Prop
  | mk (o : Obj) (es : Array DictEntry) (ep : Nat) (mc : Str → Option Value) (ho : h.get? F.env.locals = some o) (hd : o.data = .dict es ep) (ns : h.Ns F.env.locals mc)
    (hv : ∀ i v, F.vis i = true → F.env.kindOf (slot F.nm i) = some .local → m.getD i none = some v → ∃ x, mc (slot F.nm i) = some x ∧ Rep cx h x v) : VarsAt cx F m h
inductive CellAt (cx : Cx) (F : Fm) (m : Loc) (H : AHeap) (h : Heap) (n : Str) (c : Addr) : Prop
  | mk (h1 : H c = none) (h2 : cx.B.get? c = none) (o : Obj) (x : Option Value) (ho : h.get? c = some o) (hd : o.data = .cell x)
    (hv : ∀ i v, F.vis i = true → slot F.nm i = n → F.env.kindOf n ≠ some .local → m.getD i none = some v → ∃ y, x = some y ∧ Rep cx h y v) : CellAt cx F m H h n c

structure St (cx : Cx) (F : Fm) (m : Loc) (H : AHeap) (h : Heap) : Prop where
  base : cx.B.StaysIn h
  off : ∀ b o, cx.B.get? b = some o → H b = none
  heap : Holds cx h H
  frames : ∀ env ∈ F.fs, FrAt cx H h env
  own : H F.env.locals = none ∧ cx.B.get? F.env.locals = none
  vars : VarsAt cx F m h
  cells : ∀ n c, F.env.cells.lookup n = some c → CellAt cx F m H h n c

theorem Solid.notLoc {o : Obj} (h : Solid o) : (∀ es ep, o.data ≠ .dict es ep) ∧ ∀ x, o.data ≠ .cell x := by
  rcases h with ⟨i, n, rfl⟩ | ⟨n, t, u, v, rfl⟩ | ⟨_, vs, q⟩
  · exact ⟨fun _ _ q => (nomatch q), fun _ q => (nomatch q)⟩
  · exact ⟨fun _ _ q => (nomatch q), fun _ q => (nomatch q)⟩
  · exact ⟨fun _ _ q' => by rw [q] at q'; exact (nomatch q'), fun _ q' => by rw [q] at q'; exact (nomatch q')⟩
theorem Holds.none_of_solid {cx : Cx} {h : Heap} {H : AHeap} (k : Holds cx h H) {b : Addr} {o : Obj} (e : h.get? b = some o) (s : Solid o) : H b = none := by
  cases q : H b with
  | none => rfl
  | some x => obtain ⟨ob, e', n, _⟩ := (k b x q).get; rw [e] at e'; cases e'; exact absurd s n
theorem Holds.fresh {cx : Cx} {h : Heap} {H : AHeap} (k : Holds cx h H) {b : Addr} (e : h.get? b = none) : H b = none := by
  cases q : H b with
  | none => rfl
  | some x => obtain ⟨ob, e', _⟩ := (k b x q).get; rw [e] at e'; cases e'

/-- values stay, S holding names' places alone -/
theorem Kp.solid {cx : Cx} {S : List Addr} {H H' : AHeap} {s s' : Shared} (k : Kp cx S H s H' s') (hh : Holds cx s.heap H)
    (hS : ∀ b ∈ S, ∀ o, s.heap.get? b = some o → (∃ es ep, o.data = .dict es ep) ∨ ∃ x, o.data = .cell x) : ∀ b o, s.heap.get? b = some o → Solid o → s'.heap.get? b = some o := fun b o e so => by
  obtain ⟨_, o', e', sm⟩ := k.keep b o e (fun q => by
    rcases hS b q o e with ⟨es, ep, d⟩ | ⟨x, d⟩
    · exact so.notLoc.1 _ _ d
    · exact so.notLoc.2 _ d) (hh.none_of_solid e so)
  rw [sm.eq so.notLoc.1] at e'; exact e'
theorem Kp.solid0 {cx : Cx} {H H' : AHeap} {s s' : Shared} (k : Kp cx [] H s H' s') (hh : Holds cx s.heap H) : ∀ b o, s.heap.get? b = some o → Solid o → s'.heap.get? b = some o :=
  k.solid hh fun _ q => nomatch q

theorem FrAt.step {cx : Cx} {H H' : AHeap} {S : List Addr} {s s' : Shared} (k : Kp cx S H s H' s') {env : Env} (f : FrAt cx H s.heap env) (n : ∀ L, env.frame = some L → L ∉ S) : FrAt cx H' s'.heap env := by
  obtain ⟨hk, L, o, es, ep, hf, hH, hb, ho, hd⟩ := f
  obtain ⟨hH', o', e', sm⟩ := k.keep L o ho (n L hf) hH
  exact ⟨hk, L, o', es, ep, hf, hH', hb, e', sm.data.trans hd⟩

/-- an expression's step leaves the frame's state -/
theorem St.step {cx : Cx} {F : Fm} {m : Loc} {H H' : AHeap} {s s' : Shared} (t : St cx F m H s.heap) (k : Kp cx [] H s H' s') (hh : Holds cx s'.heap H') : St cx F m H' s'.heap := by
  have so := k.solid0 t.heap
  refine ⟨fun b o e => k.base b o e (t.base b o e), fun b o e => ?_, hh, (fun env he => (t.frames env he).step k (fun L _ q => nomatch q)), ?_, ?_, fun n c hc => ?_⟩
  · exact (k.keep b o (t.base b o e) (fun q => nomatch q) (t.off b o e)).1
  · obtain ⟨o, es, ep, mc, ho, _⟩ := t.vars
    exact ⟨(k.keep _ o ho (fun q => nomatch q) t.own.1).1, t.own.2⟩
  · obtain ⟨o, es, ep, mc, ho, hd, ⟨o1, es1, ep1, ho1, hd1, hk1, hm1⟩, hv⟩ := t.vars
    obtain ⟨_, o', e', sm⟩ := k.keep _ o ho (fun q => nomatch q) t.own.1
    rw [ho] at ho1; cases ho1
    exact ⟨o', es, ep, mc, e', sm.data.trans hd, ⟨o', es1, ep1, e', sm.data.trans hd1, hk1, hm1⟩, fun i v h1 h2 h3 => let ⟨x, q, r⟩ := hv i v h1 h2 h3; ⟨x, q, r.mono so⟩⟩
  · obtain ⟨h1, h2, o, x, ho, hd, hv⟩ := t.cells n c hc
    obtain ⟨h3, o', e', sm⟩ := k.keep c o ho (fun q => nomatch q) h1
    exact ⟨h3, h2, o', x, e', sm.data.trans hd, fun i v a b c d => let ⟨y, q, r⟩ := hv i v a b c d; ⟨y, q, r.mono so⟩⟩

noncomputable def upd (H : AHeap) (a : Addr) (o : AObj) : AHeap := fun b => if b = a then some o else H b
theorem upd_self (H : AHeap) (a : Addr) (o : AObj) : upd H a o a = some o := by simp [upd]
theorem upd_ne {H : AHeap} {a b : Addr} {o : AObj} (n : b ≠ a) : upd H a o b = H b := by simp [upd, n]
theorem upd_ext {H : AHeap} {a : Addr} {o : AObj} (e : H a = none) : Ext H (upd H a o) := fun b x hb => by
  rw [upd_ne]; exact hb
  rintro rfl; rw [e] at hb; cases hb
theorem upd_extB (H : AHeap) (a : Addr) (o : AObj) : ExtB a H (upd H a o) := fun _ _ n hb => by rw [upd_ne n]; exact hb

theorem Holds.grow {cx : Cx} {h h' : Heap} {H : AHeap} (k : Holds cx h H) (g : ∀ b o, h.get? b = some o → h'.get? b = some o) : Holds cx h' H := fun a o e => by
  have r := k a o e
  have so : ∀ b o, h.get? b = some o → Solid o → h'.get? b = some o := fun b o e _ => g b o e
  cases o with
  | list xs => obtain ⟨items, n, e, r, l⟩ := r; exact ⟨items, n, g _ _ e, r.mono so, l⟩
  | tape k => obtain ⟨t, n, e⟩ := r; exact ⟨t, n, g _ _ e⟩
  | dict kvs => obtain ⟨vs, d, r, l⟩ := r; exact ⟨vs, d.keep g, r.mono so, l⟩
  | inst c d => obtain ⟨C, x, e⟩ := r; exact ⟨C, x, g _ _ e⟩
/-- one object put anew -/
theorem Holds.put {cx : Cx} {h h' : Heap} {H : AHeap} {a : Addr} {o : AObj} (k : Holds cx h H) (g : ∀ b o, b ≠ a → h.get? b = some o → h'.get? b = some o)
    (ha : ∀ o, h.get? a = some o → ¬ Solid o) (r : RepO cx h' a o) : Holds cx h' (upd H a o) := fun b x e => by
  by_cases q : b = a
  · subst q; rw [upd_self] at e; cases e; exact r
  · rw [upd_ne q] at e
    have r := k b x e
    have so : ∀ b o, h.get? b = some o → Solid o → h'.get? b = some o := fun b o e s => g b o (by rintro rfl; exact ha o e s) e
    cases x with
    | list xs => obtain ⟨items, n, e, r, l⟩ := r; exact ⟨items, n, g _ _ q e, r.mono so, l⟩
    | tape k => obtain ⟨t, n, e⟩ := r; exact ⟨t, n, g _ _ q e⟩
    | dict kvs => obtain ⟨vs, d, r, l⟩ := r; exact ⟨vs, (let ⟨o, es, ep, ho, y⟩ := d; ⟨o, es, ep, g _ _ q ho, y⟩), r.mono so, l⟩
    | inst c d => obtain ⟨C, x, e⟩ := r; exact ⟨C, x, g _ _ q e⟩

/-! what an evaluation gives -/
inductive ExcTb (fr : Option Addr) (h₀ h : Heap) (e : Addr) (vs : Array Value) : Prop
  | mk (T : Addr) (oT : Obj) (ts : Array Value) (b1 : vs[1]? = some (.ref T)) (b2 : h₀.get? T = none) (b3 : T ≠ e) (b4 : h.get? T = some oT) (b5 : oT.cls = .type "traceback") (b6 : oT.data = .fields ts) (b7 : ts[3]? = some .none ∨ ∃ L, fr = some L ∧ ts[3]? = some (rawInt L)) : ExcTb fr h₀ h e vs
inductive Exc (cx : Cx) (fr : Option Addr) (h₀ h : Heap) (e : Addr) (c : Nat) : Prop
  | mk (n : h₀.get? e = none) (oe : Obj) (vs : Array Value) (C : Addr) (a0 : Value) (g : h.get? e = some oe) (k : oe.cls = .ref C) (x : cx.cls c = some C ∧ oe.dict = none) (d : oe.data = .fields vs) (z : vs[0]? = some a0) (y : vs[1]? = some .none ∨ ExcTb fr h₀ h e vs) : Exc cx fr h₀ h e c
inductive OkG {α β : Type} (R : Heap → α → β → Prop) (cx : Cx) (F : Fm) (m : Loc) (H : AHeap) (s : Shared) (Q : β → AHeap → Prop) (a : α) (s' : Shared) : Prop
  | mk (b : β) (H' : AHeap) (r : R s'.heap a b) (t : St cx F m H' s'.heap) (k : Kp cx [] H s H' s') (q : Q b H') : OkG R cx F m H s Q a s'
inductive ErP (cx : Cx) (F : Fm) (m : Loc) (H : AHeap) (s : Shared) (X : XPost) (v : Value) (s' : Shared) : Prop
  | mk (e : Addr) (c : Nat) (H' : AHeap) (hv : v = .ref e) (x : Exc cx F.env.frame s.heap s'.heap e c) (t : St cx F m H' s'.heap) (k : Kp cx [] H s H' s') (q : X c H') : ErP cx F m H s X v s'
noncomputable def Ev {α β : Type} (R : Heap → α → β → Prop) (cx : Cx) (F : Fm) (t : Sem α) (m : Loc) (H : AHeap) (s : Shared) (Q : β → AHeap → Prop) (X : XPost) : Prop :=
  wpAny cx.M F.A t (OkG R cx F m H s Q) (ErP cx F m H s X) s

theorem Exc.older {cx : Cx} {fr : Option Addr} {h₀ h₁ h : Heap} {e : Addr} {c : Nat} (x : Exc cx fr h₁ h e c) (al : ∀ b o, h₀.get? b = some o → ∃ o', h₁.get? b = some o') : Exc cx fr h₀ h e c := by
  have f : ∀ b, h₁.get? b = none → h₀.get? b = none := fun b q => by
    cases e : h₀.get? b with
    | none => rfl
    | some o => obtain ⟨o', e'⟩ := al b o e; rw [q] at e'; cases e'
  obtain ⟨n, oe, vs, C, a0, a1, a2, a3, a4, a5, a6⟩ := x
  refine ⟨f _ n, oe, vs, C, a0, a1, a2, a3, a4, a5, a6.imp id ?_⟩
  rintro ⟨T, oT, ts, b1, b2, b3, b4, b5, b6, b7⟩
  exact ⟨T, oT, ts, b1, f _ b2, b3, b4, b5, b6, b7⟩
theorem OkG.older {α β : Type} {R : Heap → α → β → Prop} {cx : Cx} {F : Fm} {m : Loc} {H H₁ : AHeap} {s s₁ : Shared} {Q : β → AHeap → Prop} (k : Kp cx [] H s H₁ s₁) {a : α} {s' : Shared}
    (x : OkG R cx F m H₁ s₁ Q a s') : OkG R cx F m H s Q a s' := let ⟨b, H', r, t, k', q⟩ := x; ⟨b, H', r, t, k.trans k', q⟩
theorem ErP.older {cx : Cx} {F : Fm} {m : Loc} {H H₁ : AHeap} {s s₁ : Shared} {X : XPost} (k : Kp cx [] H s H₁ s₁) {v : Value} {s' : Shared}
    (x : ErP cx F m H₁ s₁ X v s') : ErP cx F m H s X v s' := let ⟨e, c, H', r, y, t, k', q⟩ := x; ⟨e, c, H', r, y.older k.alive, t, k.trans k', q⟩
theorem Ev.older {α β : Type} {R : Heap → α → β → Prop} {cx : Cx} {F : Fm} {m : Loc} {H H₁ : AHeap} {s s₁ : Shared} {Q : β → AHeap → Prop} {X : XPost} {t : Sem α} (k : Kp cx [] H s H₁ s₁)
    (x : Ev R cx F t m H₁ s₁ Q X) : wpAny cx.M F.A t (OkG R cx F m H s Q) (ErP cx F m H s X) s₁ := wpAny_mono x (fun _ _ y => y.older k) fun _ _ y => y.older k
theorem Ev.bind {α β γ δ : Type} {R : Heap → α → β → Prop} {R' : Heap → γ → δ → Prop} {cx : Cx} {F : Fm} {m : Loc} {H : AHeap} {s : Shared} {Q₁ : β → AHeap → Prop} {Q : δ → AHeap → Prop} {X : XPost} {t : Sem α} {f : α → Sem γ}
    (h : Ev R cx F t m H s Q₁ X) (k : ∀ a b s₁ H₁, R s₁.heap a b → St cx F m H₁ s₁.heap → Kp cx [] H s H₁ s₁ → Q₁ b H₁ → Ev R' cx F (f a) m H₁ s₁ Q X) : Ev R' cx F (t >>= f) m H s Q X :=
  wpAny_bind (wpAny_mono h (fun a s₁ ⟨b, H₁, r, st, kp, q⟩ => (k a b s₁ H₁ r st kp q).older kp) fun _ _ y => y)
theorem Ev.pure {α β : Type} {R : Heap → α → β → Prop} {cx : Cx} {F : Fm} {m : Loc} {H : AHeap} {s : Shared} {Q : β → AHeap → Prop} {X : XPost} {a : α} {b : β} (r : R s.heap a b) (t : St cx F m H s.heap) (q : Q b H) :
    Ev R cx F (pure a) m H s Q X := wpAny_pure ⟨b, H, r, t, .refl _ _ _ _, q⟩
theorem Ev.holding {α β : Type} {R : Heap → α → β → Prop} {cx : Cx} {F : Fm} {m : Loc} {H : AHeap} {s : Shared} {Q : β → AHeap → Prop} {X : XPost} {t : Sem α} {vs : List Value} (h : Ev R cx F t m H s Q X) : Ev R cx F (holding vs t) m H s Q X := wpAny_holding h
theorem Ev.stand {α β : Type} {R : Heap → α → β → Prop} {cx : Cx} {F : Fm} {m : Loc} {H : AHeap} {s : Shared} {Q : β → AHeap → Prop} {X : XPost} {p : Pos} {f : Unit → Sem α} (h : Ev R cx F (f ()) m H s Q X) : Ev R cx F (standAt p >>= f) m H s Q X :=
  wpAny_bind (wpAny_standAt h)
/-- the same state, tokens spent -/
theorem OkG.toks {α β : Type} {R : Heap → α → β → Prop} {cx : Cx} {F : Fm} {m : Loc} {H : AHeap} {s : Shared} {Q : β → AHeap → Prop} {a : α} {b : β} (tk : Nat) (r : R s.heap a b) (t : St cx F m H s.heap) (q : Q b H) :
    OkG R cx F m H s Q a { s with toks := tk } := ⟨b, H, r, t, .grow (fun _ _ e => e) (fun _ _ _ e => e), q⟩
/-- new objects, no abstract one -/
theorem OkG.grow {α β : Type} {R : Heap → α → β → Prop} {cx : Cx} {F : Fm} {m : Loc} {H : AHeap} {s : Shared} {Q : β → AHeap → Prop} {a : α} {b : β} {h' : Heap} {tk : Nat} (g : ∀ b o, s.heap.get? b = some o → h'.get? b = some o)
    (r : R h' a b) (t : St cx F m H s.heap) (q : Q b H) : OkG R cx F m H s Q a { s with heap := h', toks := tk } :=
  have k : Kp cx [] H s H { s with heap := h', toks := tk } := .grow g fun _ _ _ e => e
  ⟨b, H, r, t.step k (t.heap.grow g), k, q⟩
/-- a new abstract object at an address that was free -/
theorem OkG.alloc {α β : Type} {R : Heap → α → β → Prop} {cx : Cx} {F : Fm} {m : Loc} {H : AHeap} {s : Shared} {Q : β → AHeap → Prop} {v : α} {b : β} {h' : Heap} {tk : Nat} {a : Addr} {o : AObj} (g : ∀ b o, s.heap.get? b = some o → h'.get? b = some o)
    (fr : s.heap.get? a = none) (r : R h' v b) (ro : RepO cx h' a o) (t : St cx F m H s.heap) (q : Q b (upd H a o)) : OkG R cx F m H s Q v { s with heap := h', toks := tk } :=
  have k : Kp cx [] H s (upd H a o) { s with heap := h', toks := tk } := .grow g fun b ob e hn => by rw [upd_ne (by rintro rfl; rw [fr] at e; cases e)]; exact hn
  ⟨b, _, r, t.step k (t.heap.put (fun b o _ e => g b o e) (fun o e => by rw [fr] at e; cases e) ro), k, q⟩
theorem alloc_use {o : AObj} {Q : Post} {H : AHeap} {a : Addr} (h : alloc o Q H) (e : H a = none) : Q (.obj a) (upd H a o) := h a _ e (upd_self ..) (upd_ext e)
/-- an abstract object put anew -/
theorem OkG.put {α β : Type} {R : Heap → α → β → Prop} {cx : Cx} {F : Fm} {m : Loc} {H : AHeap} {s : Shared} {Q : β → AHeap → Prop} {v : α} {b : β} {h' : Heap} {tk : Nat} {a : Addr} {o o' : AObj} (ha : H a = some o)
    (g : ∀ b o, b ≠ a → s.heap.get? b = some o → h'.get? b = some o) (r : R h' v b) (ro : RepO cx h' a o') (t : St cx F m H s.heap) (q : Q b (upd H a o')) : OkG R cx F m H s Q v { s with heap := h', toks := tk } := by
  have na : ∀ x, s.heap.get? a = some x → ¬ Solid x := fun x e => by
    obtain ⟨ob, e', n, _⟩ := (t.heap a o ha).get; rw [e] at e'; cases e'; exact n
  have k : Kp cx [] H s (upd H a o') { s with heap := h', toks := tk } := by
    refine ⟨⟨h', tk, rfl⟩, fun b ob e _ hn => ?_, fun b ob e => ?_, fun b ob eb e => ?_⟩
    · have n : b ≠ a := by rintro rfl; rw [ha] at hn; cases hn
      exact ⟨by rw [upd_ne n]; exact hn, ob, g b ob n e, .refl _⟩
    · by_cases n : b = a
      · subst n; obtain ⟨ob', e', _⟩ := ro.get; exact ⟨ob', e'⟩
      · exact ⟨ob, g b ob n e⟩
    · exact g b ob (by rintro rfl; rw [t.off _ _ eb] at ha; cases ha) e
  exact ⟨b, _, r, t.step k (t.heap.put g na ro), k, q⟩
theorem mutate_use {o : AObj} {K : AHeap → Prop} {H : AHeap} {a : Addr} (h : mutate a o K H) : K (upd H a o) := h _ (upd_self ..) (upd_extB H a o)
end Mine
end
section
open PySem PySem.Calls PyProof.Rows
namespace Mine
set_option autoImplicit false

theorem RepL.append {cx : Cx} {h : Heap} : ∀ {vs ws : List Value} {ps qs : List PV}, RepL cx h vs ps → RepL cx h ws qs → RepL cx h (vs ++ ws) (ps ++ qs)
  | _, _, _, _, .nil, r => r
  | _, _, _, _, .cons a r, r' => .cons a (RepL.append r r')
theorem RepL.rep {cx : Cx} {h : Heap} {vs : List Value} {ps : List PV} (r : RepL cx h vs ps) : ∀ n : Nat, RepL cx h (List.replicate n vs).flatten (List.replicate n ps).flatten
  | 0 => .nil
  | n + 1 => by rw [List.replicate_succ, List.replicate_succ, List.flatten_cons, List.flatten_cons]; exact r.append (r.rep n)
theorem RepL.get {cx : Cx} {h : Heap} : ∀ {vs : List Value} {ps : List PV}, RepL cx h vs ps → ∀ {i : Nat} {p : PV}, ps[i]? = some p → ∃ v, vs[i]? = some v ∧ Rep cx h v p
  | _, _, .cons a _, 0, _, e => by simp at e; subst e; exact ⟨_, rfl, a⟩
  | _, _, .cons _ r, i + 1, _, e => by simp at e; simpa using r.get e
theorem RepL.drop {cx : Cx} {h : Heap} : ∀ {vs : List Value} {ps : List PV}, RepL cx h vs ps → ∀ n : Nat, RepL cx h (vs.drop n) (ps.drop n)
  | _, _, r, 0 => r
  | _, _, .nil, _ + 1 => .nil
  | _, _, .cons _ r, n + 1 => r.drop n
theorem RepL.take {cx : Cx} {h : Heap} : ∀ {vs : List Value} {ps : List PV}, RepL cx h vs ps → ∀ n : Nat, RepL cx h (vs.take n) (ps.take n)
  | _, _, _, 0 => .nil
  | _, _, .nil, _ + 1 => .nil
  | _, _, .cons a r, n + 1 => .cons a (r.take n)
theorem RepL.reverse {cx : Cx} {h : Heap} : ∀ {vs : List Value} {ps : List PV}, RepL cx h vs ps → RepL cx h vs.reverse ps.reverse
  | _, _, .nil => .nil
  | _, _, .cons a r => by rw [List.reverse_cons, List.reverse_cons]; exact r.reverse.append (.cons a .nil)
theorem RepL.set {cx : Cx} {h : Heap} : ∀ {vs : List Value} {ps : List PV}, RepL cx h vs ps → ∀ (n : Nat) {v : Value} {p : PV}, Rep cx h v p → RepL cx h (vs.set n v) (ps.set n p)
  | _, _, .nil, _, _, _, _ => .nil
  | _, _, .cons _ r, 0, _, _, a => .cons a r
  | _, _, .cons b r, n + 1, _, _, a => .cons b (r.set n a)

theorem Rep.tupI {cx : Cx} {h : Heap} {v : Value} {xs : List PV} (r : Rep cx h v (.tup xs)) : ∃ a items n, v = .ref a ∧ h.get? a = some (tupObj items n) ∧ xs.length ≤ LIM ∧ RepL cx h items.toList xs := by
  cases r with | tup e l r => exact ⟨_, _, _, rfl, e, l, r⟩
theorem RepL.one {cx : Cx} {h : Heap} {vs : List Value} {p : PV} (r : RepL cx h vs [p]) : ∃ v, vs = [v] ∧ Rep cx h v p := by
  obtain _ | ⟨rv, _ | _⟩ := r
  exact ⟨_, rfl, rv⟩
theorem RepL.two {cx : Cx} {h : Heap} {vs : List Value} {p q : PV} (r : RepL cx h vs [p, q]) : ∃ v w, vs = [v, w] ∧ Rep cx h v p ∧ Rep cx h w q := by
  obtain _ | ⟨rv, _ | ⟨rw', _ | _⟩⟩ := r
  exact ⟨_, _, rfl, rv, rw'⟩
theorem RepL.zero {cx : Cx} {h : Heap} {vs : List Value} (r : RepL cx h vs []) : vs = [] := by cases r; rfl
theorem Rep.objI {cx : Cx} {h : Heap} {v : Value} {a : Addr} (r : Rep cx h v (.obj a)) : v = .ref a := by cases r; rfl
theorem Rep.intI {cx : Cx} {h : Heap} {v : Value} {i : Int} (r : Rep cx h v (.int i)) : ∃ t, v = .int i t := by cases r; exact ⟨_, rfl⟩
theorem Rep.strI {cx : Cx} {h : Heap} {v : Value} {i : Str} (r : Rep cx h v (.str i)) : ∃ t, v = .str i t := by cases r; exact ⟨_, rfl⟩
theorem Rep.boolI {cx : Cx} {h : Heap} {v : Value} {b : Bool} (r : Rep cx h v (.bool b)) : v = .bool b := by cases r; rfl
theorem Rep.noneI {cx : Cx} {h : Heap} {v : Value} (r : Rep cx h v .none) : v = .none := by cases r; rfl
theorem Rep.flsI {cx : Cx} {h : Heap} {v : Value} {ns : List Int} (r : Rep cx h v (.fls ns)) : ∃ a items, v = .ref a ∧ cx.B.IsList a items ∧ IntsAre items.toList ns ∧ ns.length ≤ LIM := by
  cases r with | fls e i l => exact ⟨_, _, rfl, e, i, l⟩
theorem Rep.fdtI {cx : Cx} {h : Heap} {v : Value} {kvs : List (Str × PV)} (r : Rep cx h v (.fdt kvs)) : ∃ a vs, v = .ref a ∧ cx.B.DictOf cx.sk a vs ∧ RepK cx h vs kvs := by
  cases r with | fdt e r => exact ⟨_, _, rfl, e, r⟩
theorem Rep.rngI {cx : Cx} {h : Heap} {v : Value} {n : Int} (r : Rep cx h v (.rng n)) : ∃ a t u x, v = .ref a ∧ h.get? a = some (rngObj n t u x) ∧ n.natAbs ≤ LIM := by
  cases r with | rng e l => exact ⟨_, _, _, _, rfl, e, l⟩

section
variable {cx : Cx} {F : Fm} {m : Loc} {H : AHeap} {s : Shared} {Q : Post} {X : XPost}

theorem St.list {a : Addr} {xs : List PV} (t : St cx F m H s.heap) (e : H a = some (.list xs)) : ∃ items n, s.heap.get? a = some (lstObj items n) ∧ RepL cx s.heap items.toList xs ∧ xs.length ≤ LIM := t.heap a _ e
theorem isList_of {h : Heap} {a : Addr} {items : Array Value} {n : Nat} (e : h.get? a = some (lstObj items n)) : h.IsList a items := ⟨_, e, rfl, n, rfl⟩
theorem isList_up {h h' : Heap} {a : Addr} {items : Array Value} (x : h.IsList a items) (k : h.StaysIn h') : h'.IsList a items := let ⟨o, e, r⟩ := x; ⟨o, k _ _ e, r⟩
theorem isTup_of {h : Heap} {a : Addr} {items : Array Value} {n : Nat} (e : h.get? a = some (tupObj items n)) : IsTup h a items := ⟨_, e, rfl, n, rfl⟩
theorem get_size_none (h : Heap) : h.get? h.objs.size = none := by
  cases e : h.get? h.objs.size with
  | none => rfl
  | some o => exact absurd (Heap.lt_size e) (Nat.lt_irrefl _)
theorem get_ge_none {h : Heap} {a : Addr} (l : h.objs.size ≤ a) : h.get? a = none := by
  cases e : h.get? a with
  | none => rfl
  | some o => exact absurd (Heap.lt_size e) (Nat.not_lt.mpr l)

theorem arr_len {cx : Cx} {h : Heap} {items : Array Value} {xs : List PV} (r : RepL cx h items.toList xs) : items.size = xs.length := by rw [← r.length]; simp

/-- a new list -/
theorem new_list {vs : Array Value} {xs : List PV} {c tk : Nat} {h' : Heap} {a : Addr} (t : St cx F m H s.heap) (g : ∀ b o, s.heap.get? b = some o → h'.get? b = some o) (fr : s.heap.get? a = none)
    (e : h'.get? a = some (lstObj vs c)) (r : RepL cx s.heap vs.toList xs) (l : xs.length ≤ LIM) (q : alloc (.list xs) Q H) : OkG (Rep cx) cx F m H s Q (.ref a) { s with heap := h', toks := tk } :=
  .alloc (o := .list xs) g fr (.obj a) ⟨vs, c, e, r.mono (fun b o e _ => g b o e), l⟩ t (alloc_use q (t.heap.fresh fr))
/-- a new tuple -/
theorem new_tup {vs : Array Value} {xs : List PV} {c tk : Nat} {h' : Heap} {a : Addr} (t : St cx F m H s.heap) (g : ∀ b o, s.heap.get? b = some o → h'.get? b = some o)
    (e : h'.get? a = some (tupObj vs c)) (r : RepL cx s.heap vs.toList xs) (l : xs.length ≤ LIM) (q : Q (.tup xs) H) : OkG (Rep cx) cx F m H s Q (.ref a) { s with heap := h', toks := tk } :=
  .grow g (.tup e l (r.mono (fun b o e _ => g b o e))) t q
theorem push_keeps {h : Heap} {o : Obj} : ∀ b x, h.get? b = some x → (h.push o).get? b = some x := fun _ _ e => Heap.get?_push_of_some o e

theorem LIM_le : LIM ≤ sizeLine := by decide
theorem bits_le {a : Int} (h : a.natAbs < 2 ^ 60) : Builtin.Int.intBits a ≤ 64 := by
  unfold Builtin.Int.intBits
  split
  · omega
  · rename_i q
    have : a.natAbs.log2 < 60 := (Nat.log2_lt (by simpa using q)).mpr h
    omega
theorem mulOk {a b : Int} (h : a.natAbs < 2 ^ 60 ∨ b.natAbs < 2 ^ 60) : IntMulOk a b := h.elim (fun h => .of_left (bits_le h)) fun h => .of_right (bits_le h)

theorem add_tup0 {t b : Addr} {items items2 : Array Value} {n n2 : Nat} {A : Around} {E : Value → Shared → Prop} {s : Shared} {Q : Value → Shared → Prop} {prog : Program} {w : World} (ht : s.heap.get? t = some (tupObj items n)) (hb : s.heap.get? b = some (tupObj items2 n2)) (hsz : items.size + items2.size ≤ sizeLine)
    (h0 : items.isEmpty = true → Q (.ref b) s) (h1 : ¬ items.isEmpty = true → items2.isEmpty = true → Q (.ref t) s)
    (h2 : Q (.ref s.heap.objs.size) { s with heap := s.heap.push (tupObj (items ++ items2) 0) }) :
    wpAny (model prog w) A (binaryOp .Add (.ref t) (.ref b)) Q E s := by
  by_cases a : items.isEmpty = true
  · exact concat_meets ⟨_, ht, rfl⟩ ⟨_, hb, rfl⟩ noFill_tuple_add seq_tuple_add F.slot_tuple_add F.entry_tuple_add (F.args_tuple_add_2 _ _) (AutoSeq1.tuple___add___tuple_tuple_0 t items n b items2 n2 a) ⟨ht, hb, h0 a⟩
  · by_cases c : items2.isEmpty = true
    · exact concat_meets ⟨_, ht, rfl⟩ ⟨_, hb, rfl⟩ noFill_tuple_add seq_tuple_add F.slot_tuple_add F.entry_tuple_add (F.args_tuple_add_2 _ _) (AutoSeq1.tuple___add___tuple_tuple_1 t items n b items2 n2 a c) ⟨ht, hb, h1 a c⟩
    · exact P.add_tuple ht hb a c h2 hsz

theorem mul_lst0 {l : Addr} {items : Array Value} {k : Nat} {x : Int} {u : Tok} {A : Around} {E : Value → Shared → Prop} {s : Shared} {Q : Value → Shared → Prop} {prog : Program} {w : World}
    (hl : s.heap.get? l = some (lstObj items k)) (hlo : -(2 ^ 63 : Int) ≤ x) (hhi : x < 2 ^ 63) (hsz : items.size * x.toNat ≤ 2 ^ 24)
    (h : Q (.ref s.heap.objs.size) { s with heap := s.heap.push (lstObj (List.foldl (fun x1 x2 => x1 ++ x2) #[] (List.replicate (if items.isEmpty = true then 0 else x.toNat) items)) 0) }) :
    wpAny (model prog w) A (binaryOp .Mult (.ref l) (.int x u)) Q E s :=
  wpAny_binaryOp_repeat_ref (T := "list") (U := "int") (by decide) ⟨_, hl, rfl⟩ (fun s' => typeIs_int s' x u) noFill_list_mul PySem.F.fills_int_mul PySem.F.slot_int_rmul repeat_list PySem.F.slot_int_index.lookup
    (call_meets PySem.F.slot_int_rmul (typeIs_int s x u) PySem.F.entry_int_rmul (PySem.F.args_int_rmul_2 _ _) (int___rmul___int_list x u l items k)
      ⟨hl, rfl, ⟨_, hl, rfl⟩, call_meets PySem.F.slot_list_mul ⟨_, hl, rfl⟩ PySem.F.entry_list_mul (PySem.F.args_list_mul_2 _ _)
        (AutoListH.list___mul___list_int_3 l items k x u (by simp [Builtin.List.listFitsIndex]; omega) (by omega) (by simp [Builtin.List.listTooLong, sizeLine]; omega))
        ⟨hl, h⟩⟩)

theorem foldl_arrays (items : Array Value) : ∀ (n : Nat) (acc : Array Value), (List.foldl (fun x1 x2 => x1 ++ x2) acc (List.replicate n items)).toList = acc.toList ++ (List.replicate n items.toList).flatten
  | 0, acc => by simp
  | n + 1, acc => by
    rw [List.replicate_succ, List.foldl_cons, foldl_arrays items n, List.replicate_succ, List.flatten_cons]
    simp

theorem bin_ok {op : Operator} {v w : Value} {pv pw : PV} (rv : Rep cx s.heap v pv) (rw' : Rep cx s.heap w pw) (t : St cx F m H s.heap) (h : binW op pv pw Q H) :
    Ev (Rep cx) cx F (binaryOp op v w) m H s Q X := by
  cases h with
  | addI a b h =>
    (first | (obtain ⟨_, rfl⟩ := Rep.intI rv) | (obtain ⟨_, rfl⟩ := Rep.strI rv) | (obtain rfl := Rep.objI rv) | (obtain rfl := Rep.boolI rv) | (obtain rfl := Rep.noneI rv)); (first | (obtain ⟨_, rfl⟩ := Rep.intI rw') | (obtain ⟨_, rfl⟩ := Rep.strI rw') | (obtain rfl := Rep.objI rw') | (obtain rfl := Rep.boolI rw') | (obtain rfl := Rep.noneI rw')); exact add_int (.toks _ (.int _ _) t h)
  | subI a b h =>
    (first | (obtain ⟨_, rfl⟩ := Rep.intI rv) | (obtain ⟨_, rfl⟩ := Rep.strI rv) | (obtain rfl := Rep.objI rv) | (obtain rfl := Rep.boolI rv) | (obtain rfl := Rep.noneI rv)); (first | (obtain ⟨_, rfl⟩ := Rep.intI rw') | (obtain ⟨_, rfl⟩ := Rep.strI rw') | (obtain rfl := Rep.objI rw') | (obtain rfl := Rep.boolI rw') | (obtain rfl := Rep.noneI rw')); exact sub_int (.toks _ (.int _ _) t h)
  | mulI a b hk h =>
    (first | (obtain ⟨_, rfl⟩ := Rep.intI rv) | (obtain ⟨_, rfl⟩ := Rep.strI rv) | (obtain rfl := Rep.objI rv) | (obtain rfl := Rep.boolI rv) | (obtain rfl := Rep.noneI rv)); (first | (obtain ⟨_, rfl⟩ := Rep.intI rw') | (obtain ⟨_, rfl⟩ := Rep.strI rw') | (obtain rfl := Rep.objI rw') | (obtain rfl := Rep.boolI rw') | (obtain rfl := Rep.noneI rw')); exact mul_int (.toks _ (.int _ _) t h) (mulOk hk)
  | modI a b hk h =>
    (first | (obtain ⟨_, rfl⟩ := Rep.intI rv) | (obtain ⟨_, rfl⟩ := Rep.strI rv) | (obtain rfl := Rep.objI rv) | (obtain rfl := Rep.boolI rv) | (obtain rfl := Rep.noneI rv)); (first | (obtain ⟨_, rfl⟩ := Rep.intI rw') | (obtain ⟨_, rfl⟩ := Rep.strI rw') | (obtain rfl := Rep.objI rw') | (obtain rfl := Rep.boolI rw') | (obtain rfl := Rep.noneI rw'))
    refine mod_int' (by omega) (.toks _ (.int _ _) t ?_)
    rw [Int.fmod_eq_emod_of_nonneg _ (by omega)]; exact h
  | divI a b hk hk2 h =>
    (first | (obtain ⟨_, rfl⟩ := Rep.intI rv) | (obtain ⟨_, rfl⟩ := Rep.strI rv) | (obtain rfl := Rep.objI rv) | (obtain rfl := Rep.boolI rv) | (obtain rfl := Rep.noneI rv)); (first | (obtain ⟨_, rfl⟩ := Rep.intI rw') | (obtain ⟨_, rfl⟩ := Rep.strI rw') | (obtain rfl := Rep.objI rw') | (obtain rfl := Rep.boolI rw') | (obtain rfl := Rep.noneI rw'))
    refine floordiv_int (by omega) (.toks _ (.int _ _) t ?_) (.inl (PyProof.noPylong_small (by omega)))
    rw [Int.fdiv_eq_ediv_of_nonneg _ (by omega)]; exact h
  | powI h =>
    (first | (obtain ⟨_, rfl⟩ := Rep.intI rv) | (obtain ⟨_, rfl⟩ := Rep.strI rv) | (obtain rfl := Rep.objI rv) | (obtain rfl := Rep.boolI rv) | (obtain rfl := Rep.noneI rv)); (first | (obtain ⟨_, rfl⟩ := Rep.intI rw') | (obtain ⟨_, rfl⟩ := Rep.strI rw') | (obtain rfl := Rep.objI rw') | (obtain rfl := Rep.boolI rw') | (obtain rfl := Rep.noneI rw'))
    exact pow_int (by decide) (by decide) (.toks _ (.int _ _) t h)
  | addS a b hk h =>
    (first | (obtain ⟨_, rfl⟩ := Rep.intI rv) | (obtain ⟨_, rfl⟩ := Rep.strI rv) | (obtain rfl := Rep.objI rv) | (obtain rfl := Rep.boolI rv) | (obtain rfl := Rep.noneI rv)); (first | (obtain ⟨_, rfl⟩ := Rep.intI rw') | (obtain ⟨_, rfl⟩ := Rep.strI rw') | (obtain rfl := Rep.objI rw') | (obtain rfl := Rep.boolI rw') | (obtain rfl := Rep.noneI rw')); exact add_str (fun t' tk => .toks tk (.str _ _) t h) (Nat.le_trans hk LIM_le)
  | addT xs ys hk h =>
    obtain ⟨a, i1, n1, rfl, e1, l1, r1⟩ := rv.tupI
    obtain ⟨b, i2, n2, rfl, e2, l2, r2⟩ := rw'.tupI
    have k1 := arr_len r1
    have k2 := arr_len r2
    have hl := LIM_le
    refine add_tup0 e1 e2 (by omega) (fun c => ?_) (fun _ c => ?_) ?_
    · have z : xs = [] := by
        have : i1.size = 0 := by simpa using c
        rw [k1] at this; exact List.length_eq_zero_iff.mp this
      subst z
      exact .toks s.toks (.tup e2 l2 r2) t h
    · have z : ys = [] := by
        have : i2.size = 0 := by simpa using c
        rw [k2] at this; exact List.length_eq_zero_iff.mp this
      subst z
      refine .toks s.toks (.tup e1 l1 r1) t ?_
      simpa using h
    · refine new_tup (tk := s.toks) (c := 0) t push_keeps (Heap.get?_push_size _ rfl) ?_ ?_ h
      · rw [Array.toList_append]; exact r1.append r2
      · simpa using hk
  | addL a b xs ys ha hb hk h =>
    obtain rfl := Rep.objI rv
    obtain rfl := Rep.objI rw'
    obtain ⟨i1, n1, e1, r1, l1⟩ := t.list ha
    obtain ⟨i2, n2, e2, r2, l2⟩ := t.list hb
    have k1 := arr_len r1
    have k2 := arr_len r2
    have hl := LIM_le
    refine P.add_list e1 e2 ?_ (by omega)
    refine new_list (tk := s.toks) (c := 0) t push_keeps (get_size_none _) (Heap.get?_push_size _ rfl) ?_ ?_ h
    · rw [Array.toList_append]; exact r1.append r2
    · simpa using hk
  | mulL a x xs ha u1 u2 u3 h =>
    obtain rfl := Rep.objI rv
    obtain ⟨_, rfl⟩ := Rep.intI rw'
    obtain ⟨items, n1, e1, r1, l1⟩ := t.list ha
    have k1 := arr_len r1
    have hl : LIM = 1048576 := rfl
    refine mul_lst0 e1 (by omega) (by omega) (by rw [k1]; omega) ?_
    refine new_list (tk := s.toks) (c := 0) t push_keeps (get_size_none _) (Heap.get?_push_size _ rfl) ?_ ?_ h
    · rw [foldl_arrays]
      cases z : items.isEmpty with
      | false => simpa [repL] using r1.rep x.toNat
      | true =>
        have z' : xs = [] := by
          have : items.size = 0 := by simpa using z
          rw [k1] at this; exact List.length_eq_zero_iff.mp this
        subst z'
        have : repL x [] = [] := by simp [repL]
        rw [this]; exact .nil
    · rw [repL, List.length_flatten]; simp; rw [Nat.mul_comm]; exact u3
end
end Mine
end
section
open PySem PySem.Calls PyProof.Rows
namespace Mine
set_option autoImplicit false
open SeqAt (EqAt RcAt RcNeAt)

section
variable {cx : Cx} {s : Shared} {H : AHeap}
theorem EqA.same {h : Heap} {p q : PV} {b : Bool} (e : EqA p q b) {v : Value} (r : Rep cx h v p) (r' : Rep cx h v q) : b = true := by
  cases e with
  | bool a b => obtain rfl := Rep.boolI r; cases Rep.boolI r'; simp
  | int a b => obtain ⟨_, rfl⟩ := Rep.intI r; obtain ⟨_, q⟩ := Rep.intI r'; cases q; simp
  | str a b => obtain ⟨_, rfl⟩ := Rep.strI r; obtain ⟨_, q⟩ := Rep.strI r'; cases q; simp
  | intstr a b => obtain ⟨_, rfl⟩ := Rep.intI r; obtain ⟨_, q⟩ := Rep.strI r'; cases q
  | strint a b => obtain ⟨_, rfl⟩ := Rep.strI r; obtain ⟨_, q⟩ := Rep.intI r'; cases q
mutual
/-- one and the same value -/
theorem EqV.same (t : Holds cx s.heap H) : ∀ {n : Nat} {p q : PV} {b : Bool}, EqV H n p q b → ∀ {v : Value}, Rep cx s.heap v p → Rep cx s.heap v q → b = true
  | _, _, _, _, .atom e, _, r, r' => e.same r r'
  | _, _, _, _, .tup e, _, r, r' => by
    obtain ⟨a, i, n, rfl, e1, _, r1⟩ := r.tupI
    obtain ⟨a', i', n', q, e2, _, r2⟩ := r'.tupI
    cases q
    rw [e1] at e2
    have : i = i' := by simp [tupObj] at e2; exact e2.1
    subst this
    exact EqL.same t e r1 r2
  | _, _, _, _, .list ha hb e, _, r, r' => by
    obtain rfl := r.objI
    cases r'.objI
    rw [ha] at hb; cases hb
    obtain ⟨i, n, _, r1, _⟩ := t _ _ ha
    exact EqL.same t e r1 r1
theorem EqL.same (t : Holds cx s.heap H) : ∀ {n : Nat} {ps qs : List PV} {b : Bool}, EqL H n ps qs b → ∀ {vs : List Value}, RepL cx s.heap vs ps → RepL cx s.heap vs qs → b = true
  | _, _, _, _, .nil, _, _, _ => rfl
  | _, _, _, _, .l x xs, _, r, r' => by have h := r.length; rw [r'.length] at h; simp at h
  | _, _, _, _, .r y ys, _, r, r' => by have h := r.length; rw [r'.length] at h; simp at h
  | _, _, _, _, .c e es, _, .cons a r, .cons a' r' => by rw [EqV.same t e a a', EqL.same t es r r']; rfl
end

theorem EqL.all {n : Nat} : ∀ {ps qs : List PV} {b : Bool}, EqL H n ps qs b → ∃ f : Nat → Bool, (∀ j x y, ps[j]? = some x → qs[j]? = some y → EqV H n x y (f j)) ∧ b = ((List.range (min ps.length qs.length)).all f && ps.length == qs.length)
  | _, _, _, .nil => ⟨fun _ => true, fun j x y e => (by simp at e), rfl⟩
  | _, _, _, .l x xs => ⟨fun _ => true, fun j x y _ e => (by simp at e), by simp⟩
  | _, _, _, .r x xs => ⟨fun _ => true, fun j x y e => (by simp at e), by simp⟩
  | _, _, _, .c (a := a) e es => by
    obtain ⟨f, h1, h2⟩ := es.all
    refine ⟨fun j => match j with | 0 => a | j + 1 => f j, fun j x y ex ey => ?_, ?_⟩
    · cases j with
      | zero => simp at ex ey; subst ex ey; exact e
      | succ j => simp at ex ey; exact h1 j x y ex ey
    · rw [h2]
      simp only [List.length_cons, Nat.add_min_add_right, List.range_succ_eq_map, List.all_cons, List.all_map, Bool.and_assoc]
      simp [Function.comp_def]

theorem isTuple_of {h : Heap} {a : Addr} {items : Array Value} {n : Nat} (e : h.get? a = some (tupObj items n)) : h.IsTuple a items := ⟨_, e, rfl, n, rfl⟩

theorem RepL.at {h : Heap} {items : Array Value} {xs : List PV} (r : RepL cx h items.toList xs) {j : Nat} (hj : j < items.size) : ∃ p, xs[j]? = some p ∧ Rep cx h items[j] p := by
  have hl := arr_len r
  have e : xs[j]? = some (xs[j]'(by omega)) := by simp
  obtain ⟨v, ev, rv⟩ := r.get e
  refine ⟨_, e, ?_⟩
  have : items[j] = v := by
    rw [Array.getElem?_toList] at ev
    rw [Array.getElem?_eq_getElem hj] at ev
    exact Option.some.inj ev
  rw [this]; exact rv

theorem atom_at {p q : PV} {b : Bool} (e : EqA p q b) {v w : Value} (rv : Rep cx s.heap v p) (rw' : Rep cx s.heap w q) (A : Around) : EqAt A s v w b ∧ RcAt A s v w b ∧ RcNeAt A s v w (!b) := by
  cases e with
  | bool a b => obtain rfl := Rep.boolI rv; obtain rfl := Rep.boolI rw'; exact ⟨.bool_bool _ _, .bool_bool _ _, .bool_bool _ _⟩
  | int a b => obtain ⟨_, rfl⟩ := Rep.intI rv; obtain ⟨_, rfl⟩ := Rep.intI rw'; exact ⟨.int_int _ _ _ _, .int_int _ _ _ _, .int_int _ _ _ _⟩
  | str a b => obtain ⟨_, rfl⟩ := Rep.strI rv; obtain ⟨_, rfl⟩ := Rep.strI rw'; exact ⟨.str_str _ _ _ _, .str_str _ _ _ _, .str_str _ _ _ _⟩
  | intstr a b => obtain ⟨_, rfl⟩ := Rep.intI rv; obtain ⟨_, rfl⟩ := Rep.strI rw'; exact ⟨.int_str _ _ _ _, .int_str _ _ _ _, .int_str _ _ _ _⟩
  | strint a b => obtain ⟨_, rfl⟩ := Rep.strI rv; obtain ⟨_, rfl⟩ := Rep.intI rw'; exact ⟨.str_int _ _ _ _, .str_int _ _ _ _, .str_int _ _ _ _⟩
/-- == told by item, of two made rows -/
theorem eqv_at (t : Holds cx s.heap H) : ∀ (n : Nat) {p q : PV} {b : Bool}, EqV H n p q b → ∀ {v w : Value}, Rep cx s.heap v p → Rep cx s.heap w q → ∀ (A : Around), A.units + n < cLine →
    EqAt A s v w b ∧ RcAt A s v w b ∧ RcNeAt A s v w (!b) := by
  intro n
  induction n with
  | zero =>
    intro p q b e v w rv rw' A hu
    cases e with
    | atom e => exact atom_at e rv rw' A
  | succ n ih =>
    intro p q b e v w rv rw' A hu
    have e0 := e
    cases e with
    | atom e => exact atom_at e rv rw' A
    | tup el =>
      obtain ⟨a1, i1, n1, rfl, e1, _, r1⟩ := rv.tupI
      obtain ⟨a2, i2, n2, rfl, e2, _, r2⟩ := rw'.tupI
      obtain ⟨f, hf, hb⟩ := el.all
      have hi : ∀ j (h1 : j < i1.size) (h2 : j < i2.size), EqAt A.in1 s i1[j] i2[j] (f j) := fun j h1 h2 => by
        obtain ⟨p1, q1, s1⟩ := r1.at h1
        obtain ⟨p2, q2, s2⟩ := r2.at h2
        exact (ih (hf j p1 p2 q1 q2) s1 s2 A.in1 (by show A.units + 1 + n < cLine; omega)).1
      rw [← arr_len r1, ← arr_len r2] at hb
      have rc : RcAt A s (.ref a1) (.ref a2) b := by rw [hb]; exact RcAt.tuples (isTuple_of e1) (isTuple_of e2) (by omega) hi
      have rn : RcNeAt A s (.ref a1) (.ref a2) (!b) := by rw [hb]; exact RcNeAt.tuples (isTuple_of e1) (isTuple_of e2) (by omega) hi
      refine ⟨?_, rc, rn⟩
      by_cases q : a1 = a2
      · subst q; rw [EqV.same t e0 rv rw']; exact .same _
      · exact .of_refs q rc
    | list ha hb' el =>
      rename_i a1 a2 _ _
      obtain rfl := rv.objI
      obtain rfl := rw'.objI
      obtain ⟨i1, n1, e1, r1, _⟩ := t _ _ ha
      obtain ⟨i2, n2, e2, r2, _⟩ := t _ _ hb'
      obtain ⟨f, hf, hb⟩ := el.all
      have hi : ∀ j (h1 : j < i1.size) (h2 : j < i2.size), EqAt A.in1 s i1[j] i2[j] (f j) := fun j h1 h2 => by
        obtain ⟨p1, q1, s1⟩ := r1.at h1
        obtain ⟨p2, q2, s2⟩ := r2.at h2
        exact (ih (hf j p1 p2 q1 q2) s1 s2 A.in1 (by show A.units + 1 + n < cLine; omega)).1
      rw [← arr_len r1, ← arr_len r2] at hb
      have both : RcAt A s (.ref a1) (.ref a2) b ∧ RcNeAt A s (.ref a1) (.ref a2) (!b) := by
        by_cases hs : i1.size = i2.size
        · rw [hb, ← hs, Nat.min_self, beq_self_eq_true, Bool.and_true]
          exact ⟨RcAt.lists (isList_of e1) (isList_of e2) hs (by omega) hi, RcNeAt.lists (isList_of e1) (isList_of e2) hs (by omega) hi⟩
        · have hz : (i1.size == i2.size) = false := by simpa using hs
          rw [hb, hz, Bool.and_false]
          exact ⟨RcAt.lists_lengths (isList_of e1) (isList_of e2) (by simpa using hs) (by omega), RcNeAt.lists_lengths (isList_of e1) (isList_of e2) (by simpa using hs) (by omega)⟩
      refine ⟨?_, both.1, both.2⟩
      by_cases q : a1 = a2
      · subst q; rw [EqV.same t e0 (.obj _) (.obj _)]; exact .same _
      · exact .of_refs q both.1
end
end Mine
end
section
open PySem PySem.Calls PyProof.Rows
namespace Mine
set_option autoImplicit false
open SeqAt (EqAt RcAt RcNeAt)

section
variable {cx : Cx}
theorem RepK.get {h : Heap} : ∀ {vs : List (Str × Value)} {ps : List (Str × PV)}, RepK cx h vs ps → ∀ {k : Str} {p : PV}, dget ps k = some p → ∃ v, valueAt vs k = some v ∧ Rep cx h v p
  | _, _, .nil, k, p, e => by simp [dget] at e
  | _, _, .cons (k := k') (ps := qs) a r, k, p, e => by
    by_cases q : k' = k
    · subst q; simp [dget] at e; subst e; exact ⟨_, by simp [valueAt], a⟩
    · have e' : dget qs k = some p := by simpa [dget, q] using e
      obtain ⟨v, e1, r1⟩ := r.get e'
      exact ⟨v, by simpa [valueAt, q] using e1, r1⟩
theorem RepK.miss {h : Heap} : ∀ {vs : List (Str × Value)} {ps : List (Str × PV)}, RepK cx h vs ps → ∀ {k : Str}, dget ps k = none → valueAt vs k = none
  | _, _, .nil, k, e => by simp [valueAt]
  | _, _, .cons (k := k') (ps := qs) a r, k, e => by
    by_cases q : k' = k
    · subst q; simp [dget] at e
    · have e' : dget qs k = none := by simpa [dget, q] using e
      have := r.miss e'
      simpa [valueAt, q] using this
theorem RepK.isSome {h : Heap} {vs : List (Str × Value)} {ps : List (Str × PV)} (r : RepK cx h vs ps) (k : Str) : (valueAt vs k).isSome = hasKey ps k := by
  unfold hasKey
  cases e : dget ps k with
  | none => rw [r.miss e]; rfl
  | some p => obtain ⟨v, q, _⟩ := r.get e; rw [q]; rfl
theorem RepK.keys {h : Heap} : ∀ {vs : List (Str × Value)} {ps : List (Str × PV)}, RepK cx h vs ps → vs.map (·.1) = ps.map (·.1)
  | _, _, .nil => rfl
  | _, _, .cons _ r => by simp [r.keys]

theorem beq_bv (a b : Bool) : (Value.bool a == Value.bool b) = (a == b) := by cases a <;> cases b <;> decide
noncomputable def eqStr (k : Str) : Value → Bool
  | .str z _ => z == k
  | _ => false
theorem RepL.strs {h : Heap} : ∀ {vs : List Value} {ks : List Str}, RepL cx h vs (ks.map .str) → (∀ y ∈ vs, ∃ z t, y = .str z t) ∧ ∀ k, vs.any (eqStr k) = decide (k ∈ ks)
  | [], [], _ => ⟨fun _ q => (nomatch q), fun k => by simp⟩
  | v :: vs, z :: ks, .cons a r => by
    obtain ⟨t, rfl⟩ := a.strI
    obtain ⟨h1, h2⟩ := r.strs
    refine ⟨fun y hy => ?_, fun k => ?_⟩
    · rcases List.mem_cons.mp hy with rfl | hy
      · exact ⟨z, t, rfl⟩
      · exact h1 y hy
    · rw [List.any_cons, h2 k]
      by_cases q : z = k
      · subst q; simp [eqStr]
      · have q' : ¬ k = z := fun e => q e.symm
        simp [eqStr, q, q', List.mem_cons]
end

section
variable {cx : Cx} {F : Fm} {m : Loc} {H : AHeap} {s : Shared} {Q : BPost} {X : XPost}
abbrev IsB : Heap → Value → Bool → Prop := fun _ v b => v = .bool b

theorem St.dict {a : Addr} {xs : List (Str × PV)} (t : St cx F m H s.heap) (e : H a = some (.dict xs)) : ∃ vs, s.heap.DictOf cx.sk a vs ∧ RepK cx s.heap vs xs ∧ xs.length ≤ LIM ∧ (a == sysModules) = false := t.heap a _ e
theorem Rep.fdt_at {a : Addr} {vs : List (Str × Value)} (d : cx.B.DictOf cx.sk a vs) (t : St cx F m H s.heap) : s.heap.DictOf cx.sk a vs := d.keep t.base

theorem eqd_hits (t : Holds cx s.heap H) {vb : List (Str × Value)} {ys : List (Str × PV)} (rb : RepK cx s.heap vb ys) : ∀ {xs : List (Str × PV)} {r : Bool}, EqD H ys xs r → ∀ {va : List (Str × Value)}, RepK cx s.heap va xs → ∀ A : Around, A.units + 40 < cLine →
    PySem.W.KeqHits A s vb va r
  | _, _, .nil, _, .nil, _, _ => .nil
  | _, _, .miss e, _, .cons _ _, _, _ => .miss (rb.miss e)
  | _, _, .c e ev es, _, .cons a r, A, hu => by
    obtain ⟨v, q, rv⟩ := rb.get e
    exact .hit q (eqv_at t 40 ev a rv A hu).1 (eqd_hits t rb es r A hu)

theorem eq_ok {v w : Value} {p q : PV} {K : Bool → Prop} (hu : F.A.units + 100 < cLine) (rv : Rep cx s.heap v p) (rw' : Rep cx s.heap w q) (t : St cx F m H s.heap) (h : eqW p q K H) :
    ∃ b, K b ∧ ∀ (Q' : Value → Shared → Prop) (E : Value → Shared → Prop), (Q' (.bool b) s → wpAny cx.M F.A (compareOp .Eq v w) Q' E s) ∧ (Q' (.bool (!b)) s → wpAny cx.M F.A (compareOp .NotEq v w) Q' E s) := by
  unfold eqW at h
  split at h
  · (first | (obtain ⟨_, rfl⟩ := Rep.intI rv) | (obtain ⟨_, rfl⟩ := Rep.strI rv) | (obtain rfl := Rep.objI rv) | (obtain rfl := Rep.boolI rv) | (obtain rfl := Rep.noneI rv)); (first | (obtain ⟨_, rfl⟩ := Rep.intI rw') | (obtain ⟨_, rfl⟩ := Rep.strI rw') | (obtain rfl := Rep.objI rw') | (obtain rfl := Rep.boolI rw') | (obtain rfl := Rep.noneI rw'))
    exact ⟨_, h, fun Q' E => ⟨fun h => RcAt.int_int _ _ _ _ _ _ E Q' h, fun h => RcNeAt.int_int _ _ _ _ _ _ E Q' h⟩⟩
  · (first | (obtain ⟨_, rfl⟩ := Rep.intI rv) | (obtain ⟨_, rfl⟩ := Rep.strI rv) | (obtain rfl := Rep.objI rv) | (obtain rfl := Rep.boolI rv) | (obtain rfl := Rep.noneI rv)); (first | (obtain ⟨_, rfl⟩ := Rep.intI rw') | (obtain ⟨_, rfl⟩ := Rep.strI rw') | (obtain rfl := Rep.objI rw') | (obtain rfl := Rep.boolI rw') | (obtain rfl := Rep.noneI rw'))
    exact ⟨_, h, fun Q' E => ⟨fun h => RcAt.str_str _ _ _ _ _ _ E Q' h, fun h => RcNeAt.str_str _ _ _ _ _ _ E Q' h⟩⟩
  · obtain ⟨b, e, k⟩ := h
    refine ⟨b, k, fun Q' E => ?_⟩
    cases e with
    | val e =>
      obtain ⟨_, h2, h3⟩ := eqv_at t.heap 40 e rv rw' F.A (by omega)
      exact ⟨fun h => h2 _ _ E Q' h, fun h => h3 _ _ E Q' h⟩
    | dict ha hb hl hd =>
      (first | (obtain ⟨_, rfl⟩ := Rep.intI rv) | (obtain ⟨_, rfl⟩ := Rep.strI rv) | (obtain rfl := Rep.objI rv) | (obtain rfl := Rep.boolI rv) | (obtain rfl := Rep.noneI rv)); (first | (obtain ⟨_, rfl⟩ := Rep.intI rw') | (obtain ⟨_, rfl⟩ := Rep.strI rw') | (obtain rfl := Rep.objI rw') | (obtain rfl := Rep.boolI rw') | (obtain rfl := Rep.noneI rw'))
      obtain ⟨va, da, ra, _, na⟩ := t.dict ha
      obtain ⟨vb, db, rb, _, nb⟩ := t.dict hb
      have hh := eqd_hits t.heap rb hd ra F.A.in1 (by show F.A.units + 1 + 40 < cLine; omega)
      have hlen : (va.length == vb.length) = true := by rw [ra.length, rb.length, hl]; simp
      exact ⟨fun h => PySem.W.keq_eq na nb da db (by omega) (fun _ => hh) (by rw [hlen, Bool.true_and]; exact h), fun h => PySem.W.keq_ne na nb da db (by omega) (fun _ => hh) (by rw [hlen, Bool.true_and]; exact h)⟩
    | dictlen ha hb hl =>
      (first | (obtain ⟨_, rfl⟩ := Rep.intI rv) | (obtain ⟨_, rfl⟩ := Rep.strI rv) | (obtain rfl := Rep.objI rv) | (obtain rfl := Rep.boolI rv) | (obtain rfl := Rep.noneI rv)); (first | (obtain ⟨_, rfl⟩ := Rep.intI rw') | (obtain ⟨_, rfl⟩ := Rep.strI rw') | (obtain rfl := Rep.objI rw') | (obtain rfl := Rep.boolI rw') | (obtain rfl := Rep.noneI rw'))
      obtain ⟨va, da, ra, _, na⟩ := t.dict ha
      obtain ⟨vb, db, rb, _, nb⟩ := t.dict hb
      have hne : ¬ va.length = vb.length := by rw [ra.length, rb.length]; exact hl
      have hlen : (va.length == vb.length) = false := by simpa using hne
      exact ⟨fun h => PySem.W.keq_eq (r := true) na nb da db (by omega) (fun e => absurd e hne) (by rw [hlen, Bool.false_and]; exact h), fun h => PySem.W.keq_ne (r := true) na nb da db (by omega) (fun e => absurd e hne) (by rw [hlen, Bool.false_and]; exact h)⟩

theorem cmp_ok {op : CmpOp} {v w : Value} {p q : PV} (hu : F.A.units + 100 < cLine) (rv : Rep cx s.heap v p) (rw' : Rep cx s.heap w q) (t : St cx F m H s.heap) (h : cmpW op p q Q H) :
    Ev IsB cx F (compareOp op v w) m H s Q X := by
  unfold cmpW at h
  cases op with
  | Eq => obtain ⟨b, k, f⟩ := eq_ok hu rv rw' t h; exact (f _ _).1 (.toks s.toks rfl t k)
  | NotEq => obtain ⟨b, k, f⟩ := eq_ok hu rv rw' t h; exact (f _ _).2 (.toks s.toks rfl t k)
  | Lt =>
    simp only at h
    split at h
    · (first | (obtain ⟨_, rfl⟩ := Rep.intI rv) | (obtain ⟨_, rfl⟩ := Rep.strI rv) | (obtain rfl := Rep.objI rv) | (obtain rfl := Rep.boolI rv) | (obtain rfl := Rep.noneI rv)); (first | (obtain ⟨_, rfl⟩ := Rep.intI rw') | (obtain ⟨_, rfl⟩ := Rep.strI rw') | (obtain rfl := Rep.objI rw') | (obtain rfl := Rep.boolI rw') | (obtain rfl := Rep.noneI rw')); exact lt_int (.toks s.toks rfl t h)
    · exact h.elim
  | LtE =>
    simp only at h
    split at h
    · (first | (obtain ⟨_, rfl⟩ := Rep.intI rv) | (obtain ⟨_, rfl⟩ := Rep.strI rv) | (obtain rfl := Rep.objI rv) | (obtain rfl := Rep.boolI rv) | (obtain rfl := Rep.noneI rv)); (first | (obtain ⟨_, rfl⟩ := Rep.intI rw') | (obtain ⟨_, rfl⟩ := Rep.strI rw') | (obtain rfl := Rep.objI rw') | (obtain rfl := Rep.boolI rw') | (obtain rfl := Rep.noneI rw')); exact le_int (.toks s.toks rfl t h)
    · exact h.elim
  | Gt =>
    simp only at h
    split at h
    · (first | (obtain ⟨_, rfl⟩ := Rep.intI rv) | (obtain ⟨_, rfl⟩ := Rep.strI rv) | (obtain rfl := Rep.objI rv) | (obtain rfl := Rep.boolI rv) | (obtain rfl := Rep.noneI rv)); (first | (obtain ⟨_, rfl⟩ := Rep.intI rw') | (obtain ⟨_, rfl⟩ := Rep.strI rw') | (obtain rfl := Rep.objI rw') | (obtain rfl := Rep.boolI rw') | (obtain rfl := Rep.noneI rw')); exact gt_int (.toks s.toks rfl t h)
    · exact h.elim
  | GtE => exact h.elim
  | Is => exact h.elim
  | IsNot => exact h.elim
  | In =>
    simp only at h
    unfold inW at h
    split at h
    · rename_i k a
      obtain ⟨o, ha, h⟩ := h
      obtain ⟨tk, rfl⟩ := rv.strI
      (first | (obtain ⟨_, rfl⟩ := Rep.intI rw') | (obtain ⟨_, rfl⟩ := Rep.strI rw') | (obtain rfl := Rep.objI rw') | (obtain rfl := Rep.boolI rw') | (obtain rfl := Rep.noneI rw'))
      split at h
      · obtain ⟨vs, d, r, _, hn⟩ := t.dict ha
        refine wpAny_in_of (knd := cx.sk) (strKind_is _ _ _ _) hn d.mapOf ?_
        rw [r.isSome]; exact .toks _ rfl t h
      · obtain ⟨ks, rfl, h⟩ := h
        obtain ⟨items, n, e, r, _⟩ := t.list ha
        obtain ⟨h1, h2⟩ := r.strs
        refine SeqAt.in_listAt (eqStr k) (isList_of e) (fun y hy => ?_) ?_
        · obtain ⟨z, u, rfl⟩ := h1 y (by simpa using hy)
          exact EqAt.str_str _ _ _ _
        · rw [← Array.any_toList, h2]; exact .toks s.toks rfl t h
      · exact h.elim
    · exact h.elim
  | NotIn =>
    simp only at h
    unfold inW at h
    split at h
    · rename_i k a
      obtain ⟨o, ha, h⟩ := h
      obtain ⟨tk, rfl⟩ := rv.strI
      (first | (obtain ⟨_, rfl⟩ := Rep.intI rw') | (obtain ⟨_, rfl⟩ := Rep.strI rw') | (obtain rfl := Rep.objI rw') | (obtain rfl := Rep.boolI rw') | (obtain rfl := Rep.noneI rw'))
      split at h
      · obtain ⟨vs, d, r, _, hn⟩ := t.dict ha
        refine wpAny_notIn_of (knd := cx.sk) (strKind_is _ _ _ _) hn d.mapOf ?_
        rw [r.isSome]; exact .toks _ rfl t h
      · obtain ⟨ks, rfl, h⟩ := h
        obtain ⟨items, n, e, r, _⟩ := t.list ha
        obtain ⟨h1, h2⟩ := r.strs
        refine SeqAt.notIn_listAt (eqStr k) (isList_of e) (fun y hy => ?_) ?_
        · obtain ⟨z, u, rfl⟩ := h1 y (by simpa using hy)
          exact EqAt.str_str _ _ _ _
        · rw [← Array.any_toList, h2]; exact .toks s.toks rfl t h
      · exact h.elim
    · exact h.elim
end
end Mine
end
section
open PySem PySem.Calls PyProof.Rows
namespace Mine
set_option autoImplicit false

section
variable {prog : Program} {w : World} {A : Around} {E : Value → Shared → Prop} {s : Shared}
theorem tail_at {value slice : Expr} {o i : Value} {T id : String} {ops : List Value} {Q : Value → Shared → Prop} (hT : s.TypeIs o T)
    (hl : typeLookup (.type T) "__getitem__" = pure (some (.builtin id))) (h : wpAny (model prog w) A (getItem o i) Q E s)
    (hs : subscripted slice false o i = operate ops (getItem o i)) :
    wpAny (model prog w) A (subscriptTail value slice o i) Q E s := by
  unfold subscriptTail
  refine wpAny_bind ?_
  rw [getitemInPython_of_ne hT.not_modules]
  refine wpAny_bind (wpAny_specialOf hT hl ?_)
  have fin : wpAny (model prog w) A (subscripted slice false o i) (fun r s₃ => wpAny (model prog w) A (letTemporaryGo value o r >>= fun _ => pure r) Q E s₃) E s := by
    rw [hs]
    exact wpAny_operating (wpAny_mono h (fun r s₃ h₃ => wpAny_bind (wpAny_letTemporaryGo (wpAny_pure h₃))) fun _ _ x => x)
  first
    | exact wpAny_pure (wpAny_bind fin)
    | exact wpAny_bind (wpAny_pure (wpAny_bind fin))
    | exact wpAny_bind fin

theorem getItem_lst {l : Addr} {items : Array Value} {k : Int} {t : Tok} {x : Value} {Q : Value → Shared → Prop} (hl : s.heap.IsList l items) (hsz : items.size ≤ LIM) (hx : itemAt items.toList k = some x) (h : Q x s) :
    wpAny (model prog w) A (getItem (.ref l) (.int k t)) Q E s := by
  unfold itemAt at hx
  have hL : LIM = 1048576 := rfl
  simp only [Array.length_toList, Array.getElem?_toList] at hx
  split at hx
  · rename_i h0
    have : k.toNat < items.size := (Array.getElem?_eq_some_iff.mp hx).1
    exact wpAny_getItem_list hl h0 (by omega) hx h
  · split at hx
    · exact wpAny_getItem_list_neg hl (by omega) (by omega) (by omega) hx h
    · cases hx
theorem seqIdx {k : Int} {n : Nat} {α : Type} {xs : List α} {x : α} (hn : xs.length = n) (hx : itemAt xs k = some x) : ∃ j, seqIndex? k n = some j ∧ xs[j]? = some x := by
  unfold itemAt at hx
  split at hx
  · rename_i h0
    have : k.toNat < xs.length := (List.getElem?_eq_some_iff.mp hx).1
    exact ⟨_, seqIndex_of h0 (by omega), hx⟩
  · split at hx
    · rename_i h0 h1
      refine ⟨_, seqIndex_neg (by omega) (by omega), ?_⟩
      rw [← hn]; exact hx
    · cases hx
theorem itemAt_range {k : Int} {α : Type} {xs : List α} {x : α} (hx : itemAt xs k = some x) : -(xs.length : Int) ≤ k ∧ k < xs.length := by
  unfold itemAt at hx
  split at hx
  · have : k.toNat < xs.length := (List.getElem?_eq_some_iff.mp hx).1
    omega
  · split at hx
    · have : (k + xs.length).toNat < xs.length := (List.getElem?_eq_some_iff.mp hx).1
      omega
    · cases hx
end

theorem RepL.item {cx : Cx} {h : Heap} {vs : List Value} {ps : List PV} (r : RepL cx h vs ps) {k : Int} {p : PV} (e : itemAt ps k = some p) : ∃ v, itemAt vs k = some v ∧ Rep cx h v p := by
  unfold itemAt at e ⊢
  rw [r.length]
  split at e
  · rw [if_pos (by assumption)]; exact r.get e
  · rw [if_neg (by assumption)]
    split at e
    · rw [if_pos (by assumption)]; exact r.get e
    · cases e
theorem ints_item {vs : List Value} {ns : List Int} (r : IntsAre vs ns) {k : Int} {n : Int} (e : itemAt ns k = some n) : ∃ t, itemAt vs k = some (.int n t) := by
  have g : ∀ {vs : List Value} {ns : List Int}, IntsAre vs ns → ∀ {j : Nat} {n : Int}, ns[j]? = some n → ∃ t, vs[j]? = some (.int n t) := by
    intro vs ns r
    induction r with
    | nil => intro j n e; simp at e
    | cons a t _ ih =>
      intro j n e
      cases j with
      | zero => simp at e; subst e; exact ⟨t, rfl⟩
      | succ j => simp at e; simpa using ih e
  unfold itemAt at e ⊢
  rw [r.length]
  split at e
  · rw [if_pos (by assumption)]; exact g r e
  · rw [if_neg (by assumption)]
    split at e
    · rw [if_pos (by assumption)]; exact g r e
    · cases e

section
variable {cx : Cx} {F : Fm} {m : Loc} {H : AHeap} {s : Shared} {Q : Post} {X : XPost}

theorem St.tape {a : Addr} {n : Nat} (t : St cx F m H s.heap) (e : H a = some (.tape n)) : ∃ u k, s.heap.get? a = some (lstObj #[.int n u] k) := t.heap a _ e
theorem ints_len {vs : List Value} {ns : List Int} (r : IntsAre vs ns) : vs.length = ns.length := r.length

theorem sub_ok {value slice : Expr} {v i : Value} {p q : PV} (hs : ∀ o i, subscripted slice false o i = operate [o, i] (getItem o i)) (rv : Rep cx s.heap v p) (ri : Rep cx s.heap i q) (t : St cx F m H s.heap) (h : subW p q Q H) :
    Ev (Rep cx) cx F (subscriptTail value slice v i) m H s Q X := by
  have hL : LIM = 1048576 := rfl
  unfold subW at h
  split at h
  · obtain ⟨x, e, h⟩ := h
    obtain ⟨a, items, n, rfl, g, l, r⟩ := rv.tupI
    obtain ⟨u, rfl⟩ := ri.intI
    obtain ⟨y, ey, ry⟩ := r.item e
    obtain ⟨j, h1, h2⟩ := seqIdx (n := items.size) (by simp) ey
    have := itemAt_range e
    refine tail_at (T := "tuple") ⟨_, g, rfl⟩ slot_tuple_getitem.lookup (P.getItem_tuple g (by omega) (by omega) h1 (by simpa using h2) (.toks s.toks ry t h)) (hs _ _)
  · rename_i y k
    obtain ⟨hz, x, e, h⟩ := h
    obtain ⟨u, rfl⟩ := rv.strI
    obtain ⟨u, rfl⟩ := ri.intI
    unfold signAt at e
    obtain ⟨c, ec, rfl⟩ := Option.map_eq_some_iff.mp e
    have hl : y.cps.toList.length = y.length := by simp [Str.length]
    obtain ⟨j, h1, h2⟩ := seqIdx hl ec
    have := itemAt_range ec
    refine tail_at (T := "str") (typeIs_str _ _ _) PySem.F.slot_str_getitem.lookup (getItem_str (i := k) (c := c) ?_ ?_ (.toks _ (.str _ _) t h)) (hs _ _)
    · simp; omega
    · rw [h1]; simpa using h2
  · obtain ⟨x, e, h⟩ := h
    obtain ⟨a, items, rfl, g, ii, l⟩ := rv.flsI
    obtain ⟨u, rfl⟩ := ri.intI
    obtain ⟨y, ey⟩ := ints_item ii e
    have hk := ints_len ii
    have g' := isList_up g t.base
    refine tail_at (T := "list") g'.typeIs slot_list_getitem.lookup (getItem_lst g' (by simp at hk; omega) ey (.toks s.toks (.int _ _) t h)) (hs _ _)
  · obtain ⟨x, e, h⟩ := h
    obtain ⟨a, vs, rfl, d, r⟩ := rv.fdtI
    obtain ⟨u, rfl⟩ := ri.strI
    obtain ⟨y, ey, ry⟩ := r.get e
    have d' := d.keep t.base
    exact tail_at (T := "dict") d'.typeIs slot_dict_getitem.lookup (wpAny_getItem_of (knd := cx.sk) (strKind_is _ _ _ _) d'.mapOf ey (.toks _ ry t h)) (hs _ _)
  · obtain ⟨o, ha, h⟩ := h
    (first | (obtain ⟨_, rfl⟩ := Rep.intI rv) | (obtain ⟨_, rfl⟩ := Rep.strI rv) | (obtain rfl := Rep.objI rv) | (obtain rfl := Rep.boolI rv) | (obtain rfl := Rep.noneI rv))
    split at h
    · obtain ⟨x, e, h⟩ := h
      obtain ⟨u, rfl⟩ := ri.intI
      obtain ⟨items, n, g, r, l⟩ := t.list ha
      obtain ⟨y, ey, ry⟩ := r.item e
      have hk := arr_len r
      refine tail_at (T := "list") ⟨_, g, rfl⟩ slot_list_getitem.lookup (getItem_lst (isList_of g) (by omega) ey (.toks s.toks ry t h)) (hs _ _)
    · obtain ⟨x, e, h⟩ := h
      obtain ⟨u, rfl⟩ := ri.strI
      obtain ⟨vs, d, r, _⟩ := t.dict ha
      obtain ⟨y, ey, ry⟩ := r.get e
      exact tail_at (T := "dict") d.typeIs slot_dict_getitem.lookup (wpAny_getItem_of (knd := cx.sk) (strKind_is _ _ _ _) d.mapOf ey (.toks _ ry t h)) (hs _ _)
    · obtain ⟨rfl, h⟩ := h
      obtain ⟨u, rfl⟩ := ri.intI
      obtain ⟨u, k, g⟩ := t.tape ha
      exact tail_at (T := "list") ⟨_, g, rfl⟩ slot_list_getitem.lookup (getItem_lst (isList_of g) (by simp [LIM]) rfl (.toks s.toks (.int _ _) t h)) (hs _ _)
    · exact h.elim
  · exact h.elim
end
end Mine
end
section
open PySem PySem.Calls PyProof.Rows
namespace Mine
set_option autoImplicit false
open PySem.Builtin.Str (strSliceIndices)

theorem cutAt_le (n : Nat) (k : Int) : cutAt n k ≤ n := by unfold cutAt; split <;> omega
theorem clip_cut (n : Nat) (k : Int) : max 0 (min (if k < 0 then k + (n : Int) else k) (n : Int)) = (cutAt n k : Int) := by
  unfold cutAt
  by_cases h : 0 ≤ k
  · rw [if_neg (by omega), if_pos h]; omega
  · rw [if_pos (by omega), if_neg h]; omega
theorem bounds_from (n : Nat) (k : Int) : sliceBounds (some k) none none n = ((cutAt n k : Int), (n : Int), 1) := by
  show (max 0 (min (if k < 0 then k + (n : Int) else k) (n : Int)), (n : Int), (1 : Int)) = _
  rw [clip_cut]
theorem bounds_to (n : Nat) (k : Int) : sliceBounds none (some k) none n = ((0 : Int), (cutAt n k : Int), 1) := by
  show ((0 : Int), max 0 (min (if k < 0 then k + (n : Int) else k) (n : Int)), (1 : Int)) = _
  rw [clip_cut]
theorem pick_from' (items : Array Value) (k : Int) : (slicePick items (some k) none none).toList = items.toList.drop (cutAt items.size k) := by
  unfold slicePick
  rw [bounds_from]
  simp only
  rw [sliceRange_one, pick_run, List.take_of_length_le (by simp)]
theorem pick_to' (items : Array Value) (k : Int) : (slicePick items none (some k) none).toList = items.toList.take (cutAt items.size k) := by
  unfold slicePick
  rw [bounds_to]
  simp only
  rw [show (0 : Int) = ((0 : Nat) : Int) from rfl, sliceRange_one, pick_run, List.drop_zero, Nat.sub_zero]
theorem str_from (x : Str) (k : Int) : Txt.slice x (some k) none = ⟨(x.cps.toList.drop (cutAt x.length k)).toArray⟩ := by
  have e : strSliceIndices (some k) none 1 x.length = (List.range (x.length - cutAt x.length k)).map (cutAt x.length k + ·) := by
    show sliceRange (max 0 (min (if k < 0 then k + (x.length : Int) else k) (x.length : Int))) (x.length : Int) 1 = _
    rw [clip_cut, sliceRange_one]
  unfold Txt.slice
  rw [e, pick_run]
  split
  · rename_i h
    simp at h
    have hc := cutAt_le x.length k
    have z : cutAt x.length k = 0 ∨ x.length = 0 := by omega
    rcases z with z | z
    · rw [z]; simp
    · have : x.cps.toList = [] := by
        have : x.cps.size = 0 := z
        simpa using this
      rw [this]; cases x; simp_all
  · rw [List.take_of_length_le (by simp [Str.length])]
theorem str_to (x : Str) (k : Int) : Txt.slice x none (some k) = ⟨(x.cps.toList.take (cutAt x.length k)).toArray⟩ := by
  have e : strSliceIndices none (some k) 1 x.length = (List.range (cutAt x.length k - 0)).map (0 + ·) := by
    show sliceRange 0 (max 0 (min (if k < 0 then k + (x.length : Int) else k) (x.length : Int))) 1 = _
    rw [clip_cut, show (0 : Int) = ((0 : Nat) : Int) from rfl, sliceRange_one]
  unfold Txt.slice
  rw [e, pick_run]
  split
  · rename_i h
    simp at h
    rw [h, List.take_of_length_le (by simp [Str.length])]
  · rw [List.drop_zero, Nat.sub_zero]

section
variable {prog : Program} {w : World} {A : Around} {E : Value → Shared → Prop} {s : Shared}
theorem slicePart_of {v : Value} {k : Option Int} {Q : Option Int → Shared → Prop} (p : IsPart v k) (h : Q k s) : wpAny (model prog w) A (Builtin.Slice.slicePartIndex v) Q E s := by
  cases p with
  | none => exact slicePart_none h
  | int i t => exact slicePart_int h
theorem sliceApplied_of {sl : Addr} {vl vu : Value} {lo hi : Option Int} {n : Nat} {a b : Nat} {Q : Int × Int × Nat → Shared → Prop} (hs : s.heap.IsSliceOf sl vl vu .none) (pl : IsPart vl lo) (pu : IsPart vu hi)
    (e : Builtin.Slice.sliceAdjust lo hi 1 (n : Int) = ((a : Int), (b : Int))) (h : Q ((a : Int), 1, b - a) s) :
    wpAny (model prog w) A (Builtin.Slice.sliceApplied (.ref sl) (pure (n : Int))) Q E s := by
  obtain ⟨os, hos, hcs, hds⟩ := id hs
  unfold Builtin.Slice.sliceApplied Builtin.Slice.sliceFields
  refine wpAny_bind (wpAny_bind (wpAny_field hos hds (x := vl) rfl (wpAny_bind (wpAny_field hos hds (x := vu) rfl (wpAny_bind (wpAny_field hos hds (x := .none) rfl (wpAny_pure ?_)))))))
  refine wpAny_bind (slicePart_none ?_)
  show wpAny _ _ (if ((1 : Int) == 0) = true then _ else _) _ _ s
  rw [if_neg (by decide)]
  refine wpAny_bind (slicePart_of pl (wpAny_bind (slicePart_of pu (wpAny_bind (wpAny_pure ?_)))))
  show wpAny _ _ (match Builtin.Slice.sliceAdjust lo hi 1 (n : Int) with | (lo, hi) => pure (lo, (1 : Int), Builtin.Slice.slicePlaces lo hi 1)) _ _ s
  rw [e]
  show wpAny _ _ (pure ((a : Int), (1 : Int), Builtin.Slice.slicePlaces (a : Int) (b : Int) 1)) _ _ s
  have : Builtin.Slice.slicePlaces (a : Int) (b : Int) 1 = b - a := by
    unfold Builtin.Slice.slicePlaces
    have h1 : (1 : Int) > 0 := by omega
    simp only [h1, if_true, Int.ediv_one]
    split <;> omega
  rw [this]
  exact wpAny_pure h
theorem pick_cut (xs : Array Value) (a b : Nat) : ((List.range (b - a)).filterMap fun (k : Nat) => xs[((a : Int) + (k : Int) * 1).toNat]?).toArray = ((xs.toList.drop a).take (b - a)).toArray := by
  have e : (fun (k : Nat) => xs[((a : Int) + (k : Int) * 1).toNat]?) = fun k => xs[a + k]? := by
    funext k
    have : ((a : Int) + (k : Int) * 1).toNat = a + k := by omega
    rw [this]
  rw [e]
  have := pick_run xs a (b - a)
  rw [List.filterMap_map] at this
  have e2 : ((fun x => xs[x]?) ∘ fun x => a + x) = fun k => xs[a + k]? := rfl
  rw [e2] at this
  rw [this]
theorem getItem_tup_cut {t sl : Addr} {items : Array Value} {k : Nat} {vl vu : Value} {lo hi : Option Int} {a b : Nat} {Q : Value → Shared → Prop} (ht : s.heap.get? t = some (tupObj items k)) (hs : s.heap.IsSliceOf sl vl vu .none)
    (pl : IsPart vl lo) (pu : IsPart vu hi) (e : Builtin.Slice.sliceAdjust lo hi 1 (items.size : Int) = ((a : Int), (b : Int))) (hb : b ≤ items.size) (hsz : items.size ≤ sizeLine)
    (h0 : a = 0 → b - a = items.size → Q (.ref t) s)
    (h : Q (.ref s.heap.objs.size) { s with heap := s.heap.push (tupObj ((items.toList.drop a).take (b - a)).toArray 0) }) : wpAny (model prog w) A (getItem (.ref t) (.ref sl)) Q E s := by
  have hit : IsTup s.heap t items := isTup_of ht
  have hdrop : sizeOk (.seq ((items.toList.drop a).take (b - a)).toArray) := by
    show ((items.toList.drop a).take (b - a)).toArray.size ≤ sizeLine
    rw [List.size_toArray, List.length_take, List.length_drop, Array.length_toList]
    omega
  obtain ⟨os, hos, hcs, hds⟩ := id hs
  have hTs : s.TypeIs (.ref sl) "slice" := ⟨os, hos, hcs⟩
  unfold getItem
  try with_reducible refine wpAny_holding ?_
  first | refine wpAny_bind (wpAny_pure ?_) | skip
  refine wpAny_bind (wpAny_sequenceKey hit.typeIs (by decide) ?_)
  refine wpAny_bind (wpAny_callSpecial?_slot (name := Str.ofString "__getitem__") hit.typeIs slot_tuple_getitem
    (wpAny_call_entry slot_tuple_getitem hit.typeIs entry_tuple_getitem ?_ (args_tuple_getitem _ _)))
  show wpAny _ _ (Builtin.Tuple.tupleItemsOf (.ref t) >>= _) _ _ s
  refine wpAny_bind (tupleItemsOf_ hit ?_)
  refine wpAny_bind (wpAny_typeOf hTs ?_)
  rw [if_pos (by decide)]
  refine wpAny_bind (sliceApplied_of hs pl pu e ?_)
  show wpAny _ _ (if ((a : Int) == 0 && (1 : Int) == 1 && (b - a) == items.size) = true then _ else _) _ _ s
  by_cases hc : ((a : Int) == 0 && (1 : Int) == 1 && (b - a) == items.size) = true
  · rw [if_pos hc]
    simp at hc
    have hq := h0 (by omega) (by omega)
    unfold Builtin.Tuple.tupleIsExact
    refine wpAny_bind (wpAny_bind (wpAny_typeOf hit.typeIs (wpAny_pure ?_)))
    first
      | exact wpAny_bind (wpAny_rule (wpAny_pure ⟨_, rfl, wpAny_pure hq⟩))
      | exact wpAny_bind (wpAny_rule (wpAny_bind (wpAny_pure (wpAny_pure ⟨_, rfl, wpAny_pure hq⟩))))
  · rw [if_neg hc, pick_cut items a b]
    first
      | exact wpAny_bind (m := Builtin.Tuple.tupleExact _) (wpAny_newObj_type (wpAny_pure ⟨_, rfl, wpAny_pure h⟩) hdrop)
      | exact wpAny_bind (m := Builtin.Tuple.tupleExact _) (wpAny_newObj_type (wpAny_bind (wpAny_pure (wpAny_pure ⟨_, rfl, wpAny_pure h⟩))) hdrop)
      | exact wpAny_bind (wpAny_bind (m := Builtin.Tuple.tupleExact _) (wpAny_newObj_type (wpAny_pure (wpAny_pure ⟨_, rfl, wpAny_pure h⟩)) hdrop))
      | exact wpAny_bind (wpAny_bind (m := Builtin.Tuple.tupleExact _) (wpAny_newObj_type (wpAny_pure ⟨_, rfl, wpAny_pure h⟩) hdrop))
end
section
variable {cx : Cx} {F : Fm} {m : Loc} {H : AHeap} {s : Shared} {Q : Post} {X : XPost}
theorem adj_from (n : Nat) (k : Int) : Builtin.Slice.sliceAdjust (some k) none 1 (n : Int) = ((cutAt n k : Int), (n : Int)) := by
  unfold Builtin.Slice.sliceAdjust cutAt
  simp only [show ¬ ((1 : Int) < 0) by omega, if_false]
  congr 1
  split <;> split <;> omega
theorem adj_to (n : Nat) (k : Int) : Builtin.Slice.sliceAdjust none (some k) 1 (n : Int) = (((0 : Nat) : Int), (cutAt n k : Int)) := by
  unfold Builtin.Slice.sliceAdjust cutAt
  simp only [show ¬ ((1 : Int) < 0) by omega, if_false]
  congr 1
  split <;> split <;> omega

theorem repl_ints {cx : Cx} {h : Heap} : ∀ {vs : List Value} {ns : List Int}, IntsAre vs ns → RepL cx h vs (ns.map .int)
  | _, _, .nil => .nil
  | _, _, .cons _ _ r => .cons (.int _ _) (repl_ints r)
noncomputable def slObj (l u st : Value) : Obj := { cls := .type "slice", data := .fields #[l, u, st] }
theorem St.push {o : Obj} (t : St cx F m H s.heap) : St cx F m H (s.heap.push o) :=
  t.step (s := s) (s' := { s with heap := s.heap.push o }) (.grow (tk := s.toks) push_keeps fun _ _ _ e => e) (t.heap.grow push_keeps)
theorem slice_made {l u st : Value} {f : Value → Sem Value}
    (h : Ev (Rep cx) cx F (f (.ref s.heap.objs.size)) m H { s with heap := s.heap.push (slObj l u st) } Q X) : Ev (Rep cx) cx F (newFields "slice" [l, u, st] >>= f) m H s Q X := by
  refine wpAny_bind (wpAny_newObj_type ?_)
  exact h.older (.grow (tk := s.toks) push_keeps fun _ _ _ e => e)

theorem sfrom_ok {value slice : Expr} {v i : Value} {p q : PV} (hs : ∀ o i, subscripted slice false o i = operate [i, o] (getItem o i)) (rv : Rep cx s.heap v p) (ri : Rep cx s.heap i q) (t : St cx F m H s.heap) (h : sfromW p q Q H) :
    Ev (Rep cx) cx F (subscriptTail value slice v (.ref s.heap.objs.size)) m H { s with heap := s.heap.push (slObj i .none .none) } Q X := by
  have hL : LIM = 1048576 := rfl
  have hL' := LIM_le
  have so : ∀ b o, s.heap.get? b = some o → Solid o → (s.heap.push (slObj i .none .none)).get? b = some o := fun b o e _ => push_keeps b o e
  have t' := t.push (o := slObj i .none .none)
  have hsl := Heap.IsSliceOf.new s.heap i .none .none
  replace rv := rv.mono so
  unfold sfromW at h
  split at h
  · rename_i xs k
    obtain ⟨a, items, n, rfl, g, l, r⟩ := rv.tupI
    obtain ⟨u, rfl⟩ := ri.intI
    have hk := arr_len r
    refine tail_at (T := "tuple") ⟨_, g, rfl⟩ slot_tuple_getitem.lookup (getItem_tup_cut g hsl (.int _ _) .none (adj_from _ _) (Nat.le_refl _) (by omega) (fun h1 h2 => ?_) ?_) (hs _ _)
    · refine .toks s.toks (.tup (xs := _) g l r) t' ?_
      rw [← hk, h1] at h; exact h
    · refine new_tup (tk := s.toks) (c := 0) t' push_keeps (Heap.get?_push_size _ rfl) ?_ ?_ h
      · rw [List.take_of_length_le (by simp), ← hk]; exact r.drop _
      · simp; omega
  · rename_i x k
    obtain ⟨hz, h⟩ := h
    obtain ⟨u, rfl⟩ := rv.strI
    obtain ⟨u, rfl⟩ := ri.intI
    refine tail_at (T := "str") (typeIs_str _ _ _) PySem.F.slot_str_getitem.lookup (wpAny_getItem_str_slice (l := some (k, u)) (u := none) (st := none) ⟨_, Heap.get?_push_size _ rfl, rfl, rfl⟩ rfl
      (post_val_or_str ⟨Nat.le_trans (Txt.slice_le x _ _) (by omega), fun t'' k' => ?_⟩)) (hs _ _)
    show OkG _ _ _ _ _ _ _ (Value.str (Txt.slice x (some k) none) t'') _
    rw [str_from]; exact .toks _ (.str _ _) t' h
  · rename_i a k
    obtain ⟨o, ha, h⟩ := h
    split at h
    · (first | (obtain ⟨_, rfl⟩ := Rep.intI rv) | (obtain ⟨_, rfl⟩ := Rep.strI rv) | (obtain rfl := Rep.objI rv) | (obtain rfl := Rep.boolI rv) | (obtain rfl := Rep.noneI rv))
      obtain ⟨u, rfl⟩ := ri.intI
      obtain ⟨items, n, g, r, l⟩ := t'.list (s := { s with heap := _ }) ha
      have hk := arr_len r
      refine tail_at (T := "list") ⟨_, g, rfl⟩ slot_list_getitem.lookup (wpAny_getItem_list_slice (isList_of g) hsl (.int _ _) .none .none (by simp) ?_ (by omega)) (hs _ _)
      refine new_list (tk := s.toks) (c := 0) t' push_keeps (get_size_none _) (Heap.get?_push_size _ rfl) ?_ ?_ h
      · rw [pick_from', hk]; exact r.drop _
      · simp; omega
    · exact h.elim
  · exact h.elim

theorem sto_ok {value slice : Expr} {v i : Value} {p q : PV} (hs : ∀ o i, subscripted slice false o i = operate [i, o] (getItem o i)) (rv : Rep cx s.heap v p) (ri : Rep cx s.heap i q) (t : St cx F m H s.heap) (h : stoW p q Q H) :
    Ev (Rep cx) cx F (subscriptTail value slice v (.ref s.heap.objs.size)) m H { s with heap := s.heap.push (slObj .none i .none) } Q X := by
  have hL : LIM = 1048576 := rfl
  have hL' := LIM_le
  have so : ∀ b o, s.heap.get? b = some o → Solid o → (s.heap.push (slObj .none i .none)).get? b = some o := fun b o e _ => push_keeps b o e
  have t' := t.push (o := slObj .none i .none)
  have hsl := Heap.IsSliceOf.new s.heap .none i .none
  replace rv := rv.mono so
  unfold stoW at h
  split at h
  · rename_i xs k
    obtain ⟨a, items, n, rfl, g, l, r⟩ := rv.tupI
    obtain ⟨u, rfl⟩ := ri.intI
    have hk := arr_len r
    have hc := cutAt_le items.size k
    refine tail_at (T := "tuple") ⟨_, g, rfl⟩ slot_tuple_getitem.lookup (getItem_tup_cut g hsl .none (.int _ _) (adj_to _ _) hc (by omega) (fun h1 h2 => ?_) ?_) (hs _ _)
    · refine .toks s.toks (.tup (xs := _) g l r) t' ?_
      rw [List.take_of_length_le (by rw [← hk]; omega)] at h; exact h
    · refine new_tup (tk := s.toks) (c := 0) t' push_keeps (Heap.get?_push_size _ rfl) ?_ ?_ h
      · rw [List.drop_zero, Nat.sub_zero, hk]; exact r.take _
      · simp; omega
  · rename_i x k
    obtain ⟨hz, h⟩ := h
    obtain ⟨u, rfl⟩ := rv.strI
    obtain ⟨u, rfl⟩ := ri.intI
    refine tail_at (T := "str") (typeIs_str _ _ _) PySem.F.slot_str_getitem.lookup (wpAny_getItem_str_slice (l := none) (u := some (k, u)) (st := none) ⟨_, Heap.get?_push_size _ rfl, rfl, rfl⟩ rfl
      (post_val_or_str ⟨Nat.le_trans (Txt.slice_le x _ _) (by omega), fun t'' k' => ?_⟩)) (hs _ _)
    show OkG _ _ _ _ _ _ _ (Value.str (Txt.slice x none (some k)) t'') _
    rw [str_to]; exact .toks _ (.str _ _) t' h
  · rename_i ns k
    obtain ⟨a, items, rfl, g, ii, l⟩ := rv.flsI
    obtain ⟨u, rfl⟩ := ri.intI
    have hk := ints_len ii
    rw [Array.length_toList] at hk
    have g' := isList_up g t'.base
    refine tail_at (T := "list") g'.typeIs slot_list_getitem.lookup (wpAny_getItem_list_slice g' hsl .none (.int _ _) .none (by simp) ?_ (by omega)) (hs _ _)
    refine new_list (tk := s.toks) (c := 0) t' push_keeps (get_size_none _) (Heap.get?_push_size _ rfl) ?_ ?_ h
    · rw [pick_to', hk]; exact repl_ints (ii.take _)
    · simp; omega
  · rename_i a k
    obtain ⟨o, ha, h⟩ := h
    split at h
    · (first | (obtain ⟨_, rfl⟩ := Rep.intI rv) | (obtain ⟨_, rfl⟩ := Rep.strI rv) | (obtain rfl := Rep.objI rv) | (obtain rfl := Rep.boolI rv) | (obtain rfl := Rep.noneI rv))
      obtain ⟨u, rfl⟩ := ri.intI
      obtain ⟨items, n, g, r, l⟩ := t'.list (s := { s with heap := _ }) ha
      have hk := arr_len r
      refine tail_at (T := "list") ⟨_, g, rfl⟩ slot_list_getitem.lookup (wpAny_getItem_list_slice (isList_of g) hsl .none (.int _ _) .none (by simp) ?_ (by omega)) (hs _ _)
      refine new_list (tk := s.toks) (c := 0) t' push_keeps (get_size_none _) (Heap.get?_push_size _ rfl) ?_ ?_ h
      · rw [pick_to', hk]; exact r.take _
      · simp; omega
    · exact h.elim
  · exact h.elim
end
end Mine
end
section
open PySem PySem.Calls PyProof.Rows
namespace Mine
set_option autoImplicit false

noncomputable def Blt.val : Blt → Value
  | .len => .builtin "len" | .list => .type "list" | .tuple => .type "tuple" | .range => .type "range" | .max => .builtin "max" | .min => .builtin "min" | .int => .type "int" | .str => .type "str"
  | .all => .builtin "all" | .any => .builtin "any" | .abs => .builtin "abs"

section
variable {cx : Cx} {F : Fm} {m : Loc} {H : AHeap} {s : Shared} {Q : Post} {X : XPost}

theorem len_ok {v : Value} {p : PV} (rv : Rep cx s.heap v p) (t : St cx F m H s.heap) (h : lenW p Q H) : Ev (Rep cx) cx F (call (.builtin "len") [v]) m H s Q X := by
  have hL : LIM = 1048576 := rfl
  unfold lenW at h
  split at h
  · obtain ⟨a, items, n, rfl, g, l, r⟩ := rv.tupI
    have hk := arr_len r
    refine P.len_tuple g (by omega) (.toks _ ?_ t h)
    rw [hk]; exact .int _ _
  · obtain ⟨u, rfl⟩ := rv.strI
    exact PyProof.Rows.len_str (by omega) (.toks _ (.int _ _) t h.2)
  · obtain ⟨a, items, rfl, g, ii, l⟩ := rv.flsI
    have hk := ints_len ii
    rw [Array.length_toList] at hk
    refine call_len_list (isList_up g t.base) (by omega) (.toks _ ?_ t h)
    rw [hk]; exact .int _ _
  · obtain ⟨o, ha, h⟩ := h
    (first | (obtain ⟨_, rfl⟩ := Rep.intI rv) | (obtain ⟨_, rfl⟩ := Rep.strI rv) | (obtain rfl := Rep.objI rv) | (obtain rfl := Rep.boolI rv) | (obtain rfl := Rep.noneI rv))
    split at h
    · obtain ⟨items, n, g, r, l⟩ := t.list ha
      have hk := arr_len r
      refine call_len_list (isList_of g) (by omega) (.toks _ ?_ t h)
      rw [hk]; exact .int _ _
    · obtain ⟨vs, d, r, l, hn⟩ := t.dict ha
      have hk := r.length
      refine call_len_dict hn d (by omega) (.toks _ ?_ t h)
      rw [hk]; exact .int _ _
    · exact h.elim
  · exact h.elim

theorem list_ok {a : Addr} {T : String} {o : Obj} {items : Array Value} {n : Nat} {xs : List PV} (hT : T = "list" ∨ T = "tuple") (g : s.heap.get? a = some o) (hc : o.cls = .type T) (hd : o.data = .seq items n) (r : RepL cx s.heap items.toList xs) (l : xs.length ≤ LIM)
    (t : St cx F m H s.heap) (h : alloc (.list xs) Q H) : Ev (Rep cx) cx F (call (.type "list") [.ref a]) m H s Q X := by
  have hk := arr_len r
  have hL' := LIM_le
  exact call_list_seq a hT g hc hd (fun h' c' gr e => new_list (tk := s.toks) t gr (get_size_none _) e r l h) (by omega)

theorem strs_of_keys {h : Heap} : ∀ {vs : List (Str × Value)} {ps : List (Str × PV)} {zs : List Value}, RepK cx h vs ps → zs.length = vs.length →
    (∀ (j : Nat) v, zs[j]? = some v → ∃ k x, vs[j]? = some (k, x) ∧ cx.sk.is k v = true) → RepL cx h zs (ps.map fun x => .str x.1)
  | _, _, [], .nil, _, _ => .nil
  | _, _, [], .cons _ _, e, _ => by simp at e
  | _, _, z :: zs, .nil, e, _ => by simp at e
  | _, _, z :: zs, .cons a r, e, f => by
    refine .cons ?_ (strs_of_keys r (by simpa using e) fun j v q => by simpa using f (j + 1) v (by simpa using q))
    obtain ⟨k, x, h1, h2⟩ := f 0 z rfl
    simp at h1
    obtain ⟨rfl, rfl⟩ := h1
    obtain ⟨t, rfl⟩ := Value.isStrOf_shape h2
    exact .str _ _

theorem blt_ok {b : Blt} {vs : List Value} {ps : List PV} (hh : F.A.handled = none) (r : RepL cx s.heap vs ps) (t : St cx F m H s.heap) (h : bltW b ps Q H) : Ev (Rep cx) cx F (call b.val vs []) m H s Q X := by
  have hL : LIM = 1048576 := rfl
  have hL' := LIM_le
  cases h with
  | len v h => obtain ⟨_, rfl, rv⟩ := r.one; exact len_ok rv t h
  | listT xs h =>
    obtain ⟨_, rfl, rv⟩ := r.one
    obtain ⟨a, items, n, rfl, g, l, r⟩ := rv.tupI
    exact list_ok (.inr rfl) g rfl rfl r l t h
  | listL a xs ha h =>
    obtain ⟨_, rfl, rv⟩ := r.one
    obtain rfl := Rep.objI rv
    obtain ⟨items, n, g, r, l⟩ := t.list ha
    exact list_ok (.inl rfl) g rfl rfl r l t h
  | listD a kvs ha h =>
    obtain ⟨_, rfl, rv⟩ := r.one
    obtain rfl := Rep.objI rv
    obtain ⟨vs, d, r, l, hn⟩ := t.dict ha
    obtain ⟨ep, d'⟩ := d.dictAt
    have hk := r.length
    refine PySem.W.kdl_call (PySem.W.kdl_dict (knd := cx.sk) hn) hh d' (by omega) fun h' tk acc c gr e it => ?_
    refine new_list t gr (get_size_none _) e (strs_of_keys r ?_ fun j v q => ?_) (by simpa using l) h
    · rw [Array.length_toList]; exact it.1
    · exact it.2 j v (by rw [← Array.getElem?_toList]; exact q)
  | tupT xs h =>
    obtain ⟨_, rfl, rv⟩ := r.one
    obtain ⟨a, items, n, rfl, g, l, r⟩ := rv.tupI
    exact call_tuple_same (isTuple_of g) (.toks s.toks (.tup g l r) t h)
  | tupL a xs ha h =>
    obtain ⟨_, rfl, rv⟩ := r.one
    obtain rfl := Rep.objI rv
    obtain ⟨items, n, g, r, l⟩ := t.list ha
    have hk := arr_len r
    refine call_tuple_list (isList_of g) (fun h' gr => ?_) (by omega)
    exact new_tup (tk := s.toks) (c := 0) t (fun b o e => push_keeps b o (gr b o e)) (Heap.get?_push_size _ rfl) r l h
  | range n k h =>
    obtain ⟨_, rfl, rv⟩ := r.one
    obtain ⟨u, rfl⟩ := rv.intI
    exact call_range_1 (.grow push_keeps (.rng (Heap.get?_push_size _ rfl) k) t h)
  | max a b h =>
    obtain ⟨_, _, rfl, ra, rb⟩ := r.two
    obtain ⟨u, rfl⟩ := ra.intI
    obtain ⟨v, rfl⟩ := rb.intI
    refine max_two_ints hh fun h' tk g => ?_
    refine .grow g ?_ t h
    split <;> exact .int _ _
  | min a b h =>
    obtain ⟨_, _, rfl, ra, rb⟩ := r.two
    obtain ⟨u, rfl⟩ := ra.intI
    obtain ⟨v, rfl⟩ := rb.intI
    refine min_two_ints hh fun h' tk g => ?_
    refine .grow g ?_ t h
    split <;> exact .int _ _
  | intB b h =>
    obtain ⟨_, rfl, rv⟩ := r.one
    obtain rfl := Rep.boolI rv
    exact call_int_bool (.toks _ (.int _ _) t h)
  | intI i h =>
    obtain ⟨_, rfl, rv⟩ := r.one
    obtain ⟨u, rfl⟩ := rv.intI
    exact call_int_int (.toks s.toks (.int _ _) t h)
  | strI i k h =>
    obtain ⟨_, rfl, rv⟩ := r.one
    obtain ⟨u, rfl⟩ := rv.intI
    refine P.str_of_int ?_ (.toks _ (.str _ _) t h)
    by_cases z : i.natAbs = 0
    · rw [z]; decide
    · exact Nat.lt_of_lt_of_le ((Nat.log2_lt z).mpr (Nat.lt_of_lt_of_le k (by decide : (10 : Nat) ^ 18 ≤ 2 ^ 60))) (by decide)
  | abs i h =>
    obtain ⟨_, rfl, rv⟩ := r.one
    obtain ⟨u, rfl⟩ := rv.intI
    refine call_abs_int fun u' tk => .toks _ ?_ t h
    rw [show (if i < 0 then -i else i) = (i.natAbs : Int) by split <;> omega]
    exact .int _ _
end
end Mine
end
section
open PySem PySem.Calls PyProof.Rows
namespace Mine
set_option autoImplicit false

noncomputable def ICls.T : ICls → Option String
  | .str => some "str" | .list => some "list" | .tuple => some "tuple" | .bool => some "bool" | .int => some "int" | _ => none

section
variable {cx : Cx} {F : Fm} {m : Loc} {H : AHeap} {s : Shared} {K : Bool → Prop} {X : XPost}
theorem inEmpty (h : Heap) : PySem.W.Frag.In [] h := fun _ _ e => nomatch e

theorem isi_ok {c : ICls} {T : String} {v : Value} {p : PV} {Q : Post} (hT : c.T = some T) (rv : Rep cx s.heap v p) (t : St cx F m H s.heap) (h : isiT c p (fun b => Q (.bool b) H) H) :
    Ev (Rep cx) cx F (call (.builtin "isinstance") [v, .type T]) m H s Q X := by
  unfold isiT at h
  split at h
  · (first | (obtain ⟨_, rfl⟩ := Rep.intI rv) | (obtain ⟨_, rfl⟩ := Rep.strI rv) | (obtain rfl := Rep.objI rv) | (obtain rfl := Rep.boolI rv) | (obtain rfl := Rep.noneI rv))
    cases c <;> cases hT <;> exact PySem.W.kia_one PySem.W.kitx_none (inEmpty _) trivial (by decide +kernel) (by simp) fun tk => .toks tk (.bool _) t h
  · (first | (obtain ⟨_, rfl⟩ := Rep.intI rv) | (obtain ⟨_, rfl⟩ := Rep.strI rv) | (obtain rfl := Rep.objI rv) | (obtain rfl := Rep.boolI rv) | (obtain rfl := Rep.noneI rv))
    cases c <;> cases hT <;> exact PySem.W.kia_one PySem.W.kitx_bool (inEmpty _) trivial (by decide +kernel) (by simp) fun tk => .toks tk (.bool _) t h
  · (first | (obtain ⟨_, rfl⟩ := Rep.intI rv) | (obtain ⟨_, rfl⟩ := Rep.strI rv) | (obtain rfl := Rep.objI rv) | (obtain rfl := Rep.boolI rv) | (obtain rfl := Rep.noneI rv))
    cases c <;> cases hT <;> exact PySem.W.kia_one PySem.W.kitx_int (inEmpty _) trivial (by decide +kernel) (by simp) fun tk => .toks tk (.bool _) t h
  · (first | (obtain ⟨_, rfl⟩ := Rep.intI rv) | (obtain ⟨_, rfl⟩ := Rep.strI rv) | (obtain rfl := Rep.objI rv) | (obtain rfl := Rep.boolI rv) | (obtain rfl := Rep.noneI rv))
    cases c <;> cases hT <;> exact PySem.W.kia_one PySem.W.kitx_str (inEmpty _) trivial (by decide +kernel) (by simp) fun tk => .toks tk (.bool _) t h
  · obtain ⟨a, items, n, rfl, g, l, r⟩ := rv.tupI
    cases c <;> cases hT <;> exact PySem.W.kia_one PySem.W.kitx_tuple (inEmpty _) ⟨_, g, rfl⟩ (by decide +kernel) (by simp) fun tk => .toks tk (.bool _) t h
  · obtain ⟨o, ha, h⟩ := h
    (first | (obtain ⟨_, rfl⟩ := Rep.intI rv) | (obtain ⟨_, rfl⟩ := Rep.strI rv) | (obtain rfl := Rep.objI rv) | (obtain rfl := Rep.boolI rv) | (obtain rfl := Rep.noneI rv))
    split at h
    · obtain ⟨items, n, g, r, l⟩ := t.list ha
      cases c <;> cases hT <;> exact PySem.W.kia_one PySem.W.kitx_list (inEmpty _) ⟨_, g, rfl⟩ (by decide +kernel) (by simp) fun tk => .toks tk (.bool _) t h
    · exact h.elim
  · exact h.elim
end
end Mine
end
section
open PySem PySem.Calls PyProof.Rows
namespace Mine
set_option autoImplicit false
open SeqAt (EqAt RcAt RcNeAt)

noncomputable def Meth.id : Meth → String
  | .append => "list.append" | .pop => "list.pop" | .dpop => "dict.pop" | .insert => "list.insert" | .count => "list.count" | .join => "str.join"
noncomputable def Meth.ty : Meth → String
  | .append => "list" | .pop => "list" | .dpop => "dict" | .insert => "list" | .count => "list" | .join => "str"

section
variable {cx : Cx} {F : Fm} {m : Loc} {H : AHeap} {s : Shared} {Q : Post} {X : XPost}

theorem lst_update {h : Heap} {l : Addr} {items : Array Value} {n : Nat} (x : h.get? l = some (lstObj items n)) (f : Array Value → Array Value) :
    ∃ n', (h.update l (Obj.mapSeq f)).get? l = some (lstObj (f items) n') := ⟨_, Heap.get?_update_self _ x rfl⟩
theorem upd_keeps {h : Heap} {l : Addr} {f : Obj → Obj} : ∀ b o, b ≠ l → h.get? b = some o → (h.update l f).get? b = some o := fun _ _ n e => (Heap.get?_update_other h f (Ne.symm n)).trans e

/-- a list's row put anew -/
theorem put_list {α β : Type} {R : Heap → α → β → Prop} {Q : β → AHeap → Prop} {l : Addr} {items : Array Value} {n : Nat} {xs ys : List PV} {f : Array Value → Array Value} {v : α} {p : β} {tk : Nat} (t : St cx F m H s.heap) (ha : H l = some (.list xs)) (g : s.heap.get? l = some (lstObj items n))
    (r : RepL cx s.heap (f items).toList ys) (ly : ys.length ≤ LIM) (rv : ∀ h', (∀ b o, s.heap.get? b = some o → Solid o → h'.get? b = some o) → R h' v p) (q : Q p (upd H l (.list ys))) :
    OkG R cx F m H s Q v { s with heap := s.heap.update l (Obj.mapSeq f), toks := tk } := by
  have so : ∀ b o, s.heap.get? b = some o → Solid o → (s.heap.update l (Obj.mapSeq f)).get? b = some o := fun b o e so => upd_keeps b o (by
    rintro rfl; rw [g] at e; cases e
    rcases so with ⟨i, n, q⟩ | ⟨n, t, u, v, q⟩ | ⟨⟨C, q⟩, _⟩ <;> simp [lstObj, tupObj, rngObj] at q) e
  obtain ⟨n', g'⟩ := lst_update g f
  have ro : RepO cx (s.heap.update l (Obj.mapSeq f)) l (.list ys) := ⟨f items, n', g', r.mono so, ly⟩
  exact .put ha upd_keeps (rv _ so) ro t q

theorem bools_rep {h : Heap} : ∀ {vs : List Value} {bs : List Bool}, RepL cx h vs (bs.map .bool) → vs = bs.map .bool
  | _, [], r => by cases r; rfl
  | _, b :: bs, r => by
    cases r with
    | cons a r => rw [a.boolI, bools_rep r]; rfl
theorem strs_rep {h : Heap} : ∀ {vs : List Value} {ss : List Str}, RepL cx h vs (ss.map .str) → StrsAre vs ss
  | _, [], r => by cases r; exact .nil
  | _, b :: bs, r => by
    cases r with
    | cons a r => obtain ⟨t, rfl⟩ := a.strI; exact .cons _ _ (strs_rep r)

noncomputable def isB (b : Bool) : Value → Bool
  | .bool c => c == b
  | _ => false
theorem count_isB (b : Bool) : ∀ bs : List Bool, (bs.map Value.bool).countP (isB b) = bs.count b
  | [] => rfl
  | c :: bs => by rw [List.map_cons, List.countP_cons, count_isB b bs, List.count_cons]; rfl

theorem meth_ok {k : Meth} {v : Value} {p : PV} {vs : List Value} {ps : List PV} (rv : Rep cx s.heap v p) (r : RepL cx s.heap vs ps) (t : St cx F m H s.heap) (h : methW k p ps Q H) : Ev (Rep cx) cx F (call (.builtin k.id) (v :: vs) []) m H s Q X := by
  have hL : LIM = 1048576 := rfl
  have hL' := LIM_le
  cases h with
  | append a xs x ha hlt h =>
    obtain ⟨_, rfl, rx⟩ := r.one
    (first | (obtain ⟨_, rfl⟩ := Rep.intI rv) | (obtain ⟨_, rfl⟩ := Rep.strI rv) | (obtain rfl := Rep.objI rv) | (obtain rfl := Rep.boolI rv) | (obtain rfl := Rep.noneI rv))
    obtain ⟨items, n, g, r, l⟩ := t.list ha
    have hk := arr_len r
    refine call_meets PySem.F.slot_list_append ⟨_, g, rfl⟩ PySem.F.entry_list_append (PySem.F.args_list_append_2 _ _) (list_append _ items n _ (by omega)) ⟨g, ?_⟩
    exact put_list (R := Rep cx) (f := fun xs => xs.push _) t ha g (by simpa using r.append (.cons rx .nil)) (by simp; omega) (fun _ _ => .none) (mutate_use h)
  | pop a ys x ha h =>
    obtain rfl := r.zero
    (first | (obtain ⟨_, rfl⟩ := Rep.intI rv) | (obtain ⟨_, rfl⟩ := Rep.strI rv) | (obtain rfl := Rep.objI rv) | (obtain rfl := Rep.boolI rv) | (obtain rfl := Rep.noneI rv))
    obtain ⟨items, n, g, r, l⟩ := t.list ha
    have hk := arr_len r
    simp only [List.length_append, List.length_cons, List.length_nil] at hk l
    obtain ⟨y, hy, ry⟩ := r.get (i := ys.length) (p := x) (by simp)
    rw [Array.getElem?_toList] at hy
    refine call_meets PySem.F.slot_list_pop ⟨_, g, rfl⟩ PySem.F.entry_list_pop (PySem.F.args_list_pop_1 _) (MeetsSeq.list_pop_last _ items n y (by rw [hk]; simpa using hy) (by omega)) ⟨g, ?_⟩
    refine put_list (R := Rep cx) (f := fun xs => xs.eraseIdxIfInBounds (items.size - 1)) t ha g ?_ (by omega) (fun _ so => ry.mono so) (mutate_use h)
    have e : (items.eraseIdxIfInBounds (items.size - 1)).toList = items.toList.take ys.length := by
      rw [Array.toList_eraseIdxIfInBounds, hk]
      rw [List.eraseIdx_eq_take_drop_succ]
      simp [List.drop_eq_nil_of_le, hk]
    rw [e]
    have := r.take ys.length
    simpa using this
  | insert a xs i x ha h0 h1 h2 h =>
    obtain ⟨_, _, rfl, ri, rx⟩ := r.two
    (first | (obtain ⟨_, rfl⟩ := Rep.intI rv) | (obtain ⟨_, rfl⟩ := Rep.strI rv) | (obtain rfl := Rep.objI rv) | (obtain rfl := Rep.boolI rv) | (obtain rfl := Rep.noneI rv))
    obtain ⟨u, rfl⟩ := ri.intI
    obtain ⟨items, n, g, r, l⟩ := t.list ha
    have hk := arr_len r
    refine call_meets PySem.F.slot_list_insert ⟨_, g, rfl⟩ PySem.F.entry_list_insert (PySem.F.args_list_insert_3 _ _ _) (AutoSeq1.list_insert_list_int_val_1 _ items n _ u _ ?_ (by omega)) ⟨g, ?_⟩
    · unfold Builtin.List.listFitsIndex
      simp
      omega
    refine put_list (R := Rep cx) (f := fun xs => have k := if i < 0 then (i + (xs.size : Int)).toNat else min i.toNat xs.size; (xs.extract 0 k).push _ ++ xs.extract k) t ha g ?_ (by simp; omega) (fun _ _ => .none) (mutate_use h)
    have e : (if i < 0 then (i + (items.size : Int)).toNat else min i.toNat items.size) = i.toNat := by rw [if_neg (by omega)]; omega
    simp only [e]
    simp only [Array.toList_append, Array.toList_push, Array.toList_extract, List.extract_eq_take_drop]
    simp only [Nat.sub_zero, List.drop_zero, List.append_assoc, List.singleton_append]
    rw [show (List.drop i.toNat items.toList).take (items.size - i.toNat) = List.drop i.toNat items.toList by rw [List.take_of_length_le]; simp]
    exact (r.take _).append (.cons rx (r.drop _))
  | count a bs b ha h =>
    obtain ⟨_, rfl, rx⟩ := r.one
    (first | (obtain ⟨_, rfl⟩ := Rep.intI rv) | (obtain ⟨_, rfl⟩ := Rep.strI rv) | (obtain rfl := Rep.objI rv) | (obtain rfl := Rep.boolI rv) | (obtain rfl := Rep.noneI rv)); (first | (obtain ⟨_, rfl⟩ := Rep.intI rx) | (obtain ⟨_, rfl⟩ := Rep.strI rx) | (obtain rfl := Rep.objI rx) | (obtain rfl := Rep.boolI rx) | (obtain rfl := Rep.noneI rx))
    obtain ⟨items, n, g, r, l⟩ := t.list ha
    have hv := bools_rep r
    refine call_meets PySem.F.slot_list_count ⟨_, g, rfl⟩ PySem.F.entry_list_count (PySem.F.args_list_count_2 _ _) (SeqAt.list_countAt _ items n none #[] (.bool b) (isB b)) ⟨g, fun y hy => ?_, ?_⟩
    · have : y ∈ bs.map Value.bool := by rw [← hv]; simpa using hy
      obtain ⟨c, _, rfl⟩ := List.mem_map.mp this
      exact EqAt.bool_bool c b
    · rw [hv, count_isB]
      exact .toks _ (.int _ _) t h
  | join sep a ss ha h0 hs h =>
    obtain ⟨_, rfl, rx⟩ := r.one
    obtain ⟨u, rfl⟩ := rv.strI
    (first | (obtain ⟨_, rfl⟩ := Rep.intI rx) | (obtain ⟨_, rfl⟩ := Rep.strI rx) | (obtain rfl := Rep.objI rx) | (obtain rfl := Rep.boolI rx) | (obtain rfl := Rep.noneI rx))
    obtain ⟨items, n, g, r, l⟩ := t.list ha
    refine join_list (isList_of g) (strs_rep r) (by rw [h0]; omega) fun t' k => ?_
    rw [show Txt.join _ ss = Str.join _ ss from StrLaws.glued_eq_join _ _]
    exact .toks _ (.str _ _) t h
end
end Mine
end
section
open PySem PySem.Calls PyProof.Rows
namespace Mine
set_option autoImplicit false

section
variable {prog : Program} {w : World} {A : Around} {E : Value → Shared → Prop} {s : Shared}
theorem set_lst0 {l : Addr} {items : Array Value} {n : Nat} {k : Int} {t : Tok} {v : Value} {Q : Unit → Shared → Prop} (g : s.heap.get? l = some (lstObj items n))
    (h0 : 0 ≤ k) (hfit : k < 2 ^ 63) (hn : k < items.size) (hQ : Q () { s with heap := s.heap.update l (Obj.mapSeq (·.setIfInBounds k.toNat v)) }) :
    wpAny (model prog w) A (setItem (.ref l) (.int k t) v) Q E s := by
  have hl := isList_of g
  unfold setItem
  try with_reducible refine wpAny_holding ?_
  first | refine wpAny_bind (wpAny_pure ?_) | skip
  refine wpAny_bind (wpAny_sequenceKey hl.typeIs (by decide) ?_)
  refine wpAny_bind (wpAny_callSpecial?_slot (name := Str.ofString "__setitem__") hl.typeIs slot_list_setitem
    (wpAny_call_entry slot_list_setitem hl.typeIs entry_list_setitem ?_ (args_list_setitem _ _ _)))
  show wpAny _ _ (Builtin.List.listSubscript? (.int k t) >>= _) _ _ s
  refine wpAny_bind (wpAny_listSubscript_int (fitsIndex_of h0 hfit) ?_)
  clear hfit
  obtain ⟨j, rfl⟩ := Int.eq_ofNat_of_zero_le h0
  have hn : j < items.size := by omega
  show wpAny _ _ ((seqItemAt l j >>= fun r => pure (r.map (j, ·))) >>= _) _ _ s
  refine wpAny_bind (wpAny_bind (wpAny_seqItemAt g rfl (wpAny_pure ?_)))
  rw [show items[j]? = some items[j] from Array.getElem?_eq_getElem hn]
  show wpAny _ _ (setSeqItemAt l j v >>= _) _ _ s
  refine wpAny_bind (wpAny_setSeqItemAt g rfl ?_)
  first
    | exact wpAny_bind (wpAny_pure (wpAny_pure ⟨.none, rfl, wpAny_pure hQ⟩))
    | exact wpAny_pure ⟨.none, rfl, wpAny_pure hQ⟩
end

section
variable {cx : Cx} {F : Fm} {m : Loc} {H : AHeap} {s : Shared} {Q : Post} {X : XPost}

theorem RepK.any {h : Heap} {k : Str} : ∀ {vs : List (Str × Value)} {ps : List (Str × PV)}, RepK cx h vs ps → vs.any (fun kv => decide (kv.1 = k)) = ps.any (fun kv => decide (kv.1 = k))
  | _, _, .nil => rfl
  | _, _, .cons _ r => by simp only [List.any_cons]; rw [RepK.any r]
theorem RepK.map {h : Heap} {k : Str} {v : Value} {p : PV} (r : Rep cx h v p) : ∀ {vs : List (Str × Value)} {ps : List (Str × PV)}, RepK cx h vs ps →
    RepK cx h (vs.map fun kv => if kv.1 = k then (kv.1, v) else kv) (ps.map fun kv => if kv.1 = k then (kv.1, p) else kv)
  | _, _, .nil => .nil
  | _, _, .cons (k := k') a rs => by
    simp only [List.map_cons]
    by_cases q : k' = k
    · simp only [q, if_true]; exact .cons r (RepK.map r rs)
    · simp only [q, if_false]; exact .cons a (RepK.map r rs)
theorem RepK.snoc {h : Heap} {k : Str} {v : Value} {p : PV} (r : Rep cx h v p) : ∀ {vs : List (Str × Value)} {ps : List (Str × PV)}, RepK cx h vs ps → RepK cx h (vs ++ [(k, v)]) (ps ++ [(k, p)])
  | _, _, .nil => .cons r .nil
  | _, _, .cons a rs => .cons a (RepK.snoc r rs)
theorem RepK.dset {h : Heap} {k : Str} {v : Value} {p : PV} {vs : List (Str × Value)} {ps : List (Str × PV)} (rs : RepK cx h vs ps) (r : Rep cx h v p) : RepK cx h (stored vs k v) (dset ps k p) := by
  unfold stored Mine.dset
  rw [RepK.any rs]
  split
  · exact RepK.map r rs
  · exact RepK.snoc r rs
theorem dset_length_le {α : Type} (kvs : List (Str × α)) (k : Str) (v : α) : (dset kvs k v).length ≤ kvs.length + 1 := by
  unfold dset; split <;> simp

theorem SameBut.keeps {h h' : Heap} {a : Addr} (x : Heap.SameBut a h h') : ∀ b o, b ≠ a → h.get? b = some o → h'.get? b = some o := fun b o n e => by
  have := x.2 b n
  rw [this]; exact e

theorem store_ok {v i x : Value} {p q y : PV} {K : AHeap → Prop} (rv : Rep cx s.heap v p) (ri : Rep cx s.heap i q) (rx : Rep cx s.heap x y) (t : St cx F m H s.heap) (h : storeW p q y K H) :
    Ev (fun _ (_ : Unit) (_ : Unit) => True) cx F (setItem v i x) m H s (fun _ H => K H) X := by
  have hL : LIM = 1048576 := rfl
  have hL' := LIM_le
  unfold storeW at h
  split at h
  · rename_i a
    obtain ⟨o, ha, h⟩ := h
    (first | (obtain ⟨_, rfl⟩ := Rep.intI rv) | (obtain ⟨_, rfl⟩ := Rep.strI rv) | (obtain rfl := Rep.objI rv) | (obtain rfl := Rep.boolI rv) | (obtain rfl := Rep.noneI rv))
    split at h
    · rename_i xs k
      obtain ⟨h0, h1, h⟩ := h
      obtain ⟨u, rfl⟩ := ri.intI
      obtain ⟨items, n, g, r, l⟩ := t.list ha
      have hk := arr_len r
      refine set_lst0 g h0 (by omega) (by omega) ?_
      exact put_list (p := ()) (tk := s.toks) (f := (·.setIfInBounds k.toNat x)) t ha g (by simpa using r.set k.toNat rx) (by simp; omega) (fun _ _ => trivial) (mutate_use h)
    · rename_i kvs k
      obtain ⟨h1, h⟩ := h
      obtain ⟨u, rfl⟩ := ri.strI
      obtain ⟨vs, d, r, l, hn⟩ := t.dict ha
      have hk := r.length
      refine wpAny_setItem_pairs (knd := cx.sk) (k := k) (by simp [Cx.sk, PySem.strKind, Value.isStrOf]) d (fun h' d' sb => ?_) (by omega)
      have hs := SameBut.keeps sb
      have so : ∀ b o, s.heap.get? b = some o → Solid o → h'.get? b = some o := fun b o e so => hs b o (by
        rintro rfl
        obtain ⟨ob, e', n, _⟩ := (t.heap _ _ ha).get; rw [e] at e'; cases e'; exact n so) e
      have ro : RepO cx h' a (.dict (dset kvs k y)) := ⟨_, d', (r.dset rx).mono so, Nat.le_trans (dset_length_le ..) (by omega), hn⟩
      exact .put (b := ()) ha hs trivial ro t (mutate_use h)
    · rename_i j
      obtain ⟨rfl, h0, h⟩ := h
      obtain ⟨u, rfl⟩ := ri.intI
      obtain ⟨u', rfl⟩ := rx.intI
      obtain ⟨tt, n, g⟩ := t.heap _ _ ha
      obtain ⟨j, rfl⟩ := Int.eq_ofNat_of_zero_le h0
      refine set_lst0 g (by omega) (by omega) (by simp) ?_
      obtain ⟨n', g'⟩ := lst_update g (·.setIfInBounds 0 (.int j u'))
      have ro : RepO cx (s.heap.update a (Obj.mapSeq (·.setIfInBounds 0 (.int j u')))) a (.tape j) := ⟨u', n', by simpa using g'⟩
      exact .put (b := ()) (tk := s.toks) ha upd_keeps trivial ro t (mutate_use h)
    · exact h.elim
  · exact h.elim
end
end Mine
end
section
open PySem PySem.Calls PyProof.Rows
namespace Mine
set_option autoImplicit false

/-! static facts -/
abbrev Kd := Str → Option NameKind
noncomputable def onms : List (Str × Nat) := [("StackError", 0), ("Empty", 1), ("WrongKind", 2), ("NoBlock", 3), ("Apart", 4), ("Dry", 5)]
noncomputable def onm (x : Str) : Option Nat := onms.lookup x
noncomputable def relab (kd : Kd) (sc : Scope) : Kd := fun x => (sc.names.map fun (n, k) => if (k == .free && kd n == some .cell) then (n, .cell) else (n, k)).lookup x
noncomputable def isVar (kd : Kd) (x : Str) : Bool := kd x == some .local || kd x == some .cell || kd x == some .free
noncomputable def isGlob (kd : Kd) (x : Str) : Bool := kd x == some .globalImplicit && !(x == ("__debug__" : Str))
noncomputable def visC (kd' : Kd) (nm : List Str) (vis : Nat → Bool) (x : Nat) : Nat → Bool := fun i => i == x || (vis i && (kd' (slot nm i) == some .cell || kd' (slot nm i) == some .free))
noncomputable def scOk (kd kd' : Kd) (sc : Scope) (x : Str) : Bool := decide (sc.kind = .function) && !sc.isGenerator && !sc.isCoroutine && sc.names.all (fun p => p.2 != .cell) && sc.names.all (fun p => p.2 != .local || sc.names.lookup p.1 == some .local)
  && sc.names.all (fun p => p.2 != .free || kd p.1 == some .cell || kd p.1 == some .free) && kd' x == some .local && !(x == ("__debug__" : Str))
noncomputable def blbase : AE → Bool
  | .call _ .nil _ _ => false
  | .blt _ .nil _ _ => false
  | _ => true
noncomputable def iclsOk (kd : Kd) : ICls → Bool
  | .str => isGlob kd "str" | .list => isGlob kd "list" | .tuple => isGlob kd "tuple" | .bool => isGlob kd "bool" | .int => isGlob kd "int"
  | .intstr => isGlob kd "int" && isGlob kd "str" | .value => isGlob kd "ValueError" | .own c x => isGlob kd x && onm x == some c
noncomputable def AEs.len : AEs → Nat
  | .nil => 0
  | .cons _ es => es.len + 1
noncomputable def AEs.lits : AEs → Bool
  | .nil => true
  | .cons (.lit _ _ _) es => es.lits
  | .cons _ _ => false
section
variable (fl : List Str) (nm : List Str)
mutual
noncomputable def okE (q : Bool) (vis : Nat → Bool) (kd : Kd) : AE → Bool
  | .lit _ _ _ => true
  | .var i _ => vis i && isVar kd (slot nm i) && !(slot nm i == ("__debug__" : Str)) && !(slot nm i == ("__classdict__" : Str))
  | .glob x _ => isGlob kd x
  | .bin l _ r _ => okE q vis kd l && okE q vis kd r
  | .neg e _ => okE q vis kd e
  | .not e _ => okE q vis kd e
  | .bop _ es _ => okEs q vis kd es
  | .cmp l _ r _ => okE q vis kd l && okE q vis kd r
  | .sub e i _ => okE q vis kd e && okE q vis kd i
  | .sfrom e i _ _ => okE q vis kd e && okE q vis kd i
  | .sto e i _ _ => okE q vis kd e && okE q vis kd i
  | .srev _ _ _ _ _ => false
  | .tup es _ _ => okEs q vis kd es && decide (es.len ≤ 100)
  | .list es _ => okEs q vis kd es && decide (es.len ≤ 100)
  | .tape _ _ => true
  | .dict ks vs _ => vs.lits && decide (ks.length = vs.len) && decide (vs.len ≤ 15)
  | .call f es _ _ => q && isGlob kd f && fl.contains f && okEs q vis kd es
  | .blt b es _ _ => q && isGlob kd b.name && okEs q vis kd es
  | .isi e c _ _ _ _ _ => isGlob kd "isinstance" && iclsOk kd c && okE q vis kd e
  | .meth o _ es pa p => okE q vis kd o && okEs q vis kd es && (pa.endLine == p.line) && decide (es.len ≤ 3) && blbase o
  | .umeth _ _ _ _ _ _ => false
  | .attr _ _ _ => false
  | .comp e x _ it cs sc _ => okE q vis kd it && scOk kd (relab kd sc) sc (slot nm x) && okE q (visC (relab kd sc) nm vis x) (relab kd sc) e && okEs q (visC (relab kd sc) nm vis x) (relab kd sc) cs && decide (cs.len ≤ 1) && q
noncomputable def okEs (q : Bool) (vis : Nat → Bool) (kd : Kd) : AEs → Bool
  | .nil => true
  | .cons e es => okE q vis kd e && okEs q vis kd es
end
end

structure Fok (cx : Cx) (n : Nat) (q : Bool) (kd : Kd) (F : Fm) : Prop where
  fr : F.A.frames = some F.fs
  kind : F.env.scope.kind = .function
  kdo : F.env.kindOf = kd
  glob : F.env.globals = cx.ga
  bltn : F.env.builtins = cx.ba
  quiet : q = true → F.A.handled = none
  depth : F.A.depth + n ≤ 900
  units : F.A.units + 4 * n + 200 ≤ cLine
  cells : ∀ x, (kd x = some .cell ∨ kd x = some .free) → ∃ c, F.env.cells.lookup x = some c
  apart : ∀ x y c, F.env.cells.lookup x = some c → F.env.cells.lookup y = some c → x = y
  inj : ∀ i j, F.vis i = true → F.vis j = true → slot F.nm i = slot F.nm j → i = j

structure Cok (cx : Cx) (g : Gl) (fl : List Str) (mg mb : Str → Option Value) (n : Nat) : Prop where
  gns : cx.B.Ns cx.ga mg
  mods : ∃ a o, sysModules < a ∧ cx.B.get? a = some o
  bns : cx.B.Ns cx.ba mb
  consts : ∀ x p, g.G x = some p → ∃ v, mg x = some v ∧ Rep cx cx.B v p
  blts : ∀ b : Blt, mg b.name = none ∧ mb b.name = some b.val
  isi : mg "isinstance" = none ∧ mb "isinstance" = some (.builtin "isinstance")
  bty : ∀ T ∈ ["str", "list", "tuple", "bool", "int", "ValueError"], mg (Str.ofString T) = none ∧ mb (Str.ofString T) = some (.type T)
  own : ∀ x c, onm x = some c → ∃ C, cx.cls c = some C ∧ mg x = some (.ref C)
  isx : ∀ {F : Fm} {m : Loc} {H : AHeap} {s : Shared} {Q : Post} {X : XPost} {e : Value} {k c : Nat} {C : Addr}, Rep cx s.heap e (.exc k) → St cx F m H s.heap → cx.cls c = some C → Q (.bool (isSub k c)) H →
    Ev (Rep cx) cx F (call (.builtin "isinstance") [e, .ref C]) m H s Q X
  isv : ∀ {F : Fm} {m : Loc} {H : AHeap} {s : Shared} {Q : Post} {X : XPost} {e : Value} {k : Nat}, Rep cx s.heap e (.exc k) → St cx F m H s.heap → Q (.bool true) H →
    Ev (Rep cx) cx F (call (.builtin "isinstance") [e, .type "ValueError"]) m H s Q X
  rais : ∀ {F : Fm} {kd : Kd} {m : Loc} {H : AHeap} {s : Shared} {c : Nat} {x msg : Str} {k : Nat} {pc pm pk p : Pos} {QQ : Flow → Shared → Prop} {E : Value → Shared → Prop}, Fok cx n true kd F → isGlob kd x = true → onm x = some c → St cx F m H s.heap →
    (∀ e s', Exc cx F.env.frame s.heap s'.heap e c → St cx F m H s'.heap → Kp cx [] H s H s' → E (.ref e) s') → wpAny cx.M F.A (exec (.Raise (some (.Call (.Name x pc) [.Constant (.str msg) k pm] [] pk)) none p) F.env) QQ E s
  mats : ∀ {A : Around} {s : Shared} {e : Value} {k c : Nat} {C : Addr} {QQ : Bool → Shared → Prop} {E : Value → Shared → Prop}, cx.B.StaysIn s.heap → Rep cx s.heap e (.exc k) → cx.cls c = some C → (∀ tk, QQ (isSub k c) { s with toks := tk }) → wpAny cx.M A (excMatches e (.ref C)) QQ E s
  fns : ∀ f, fl.contains f = true → ∃ a o fd, mg f = some (.ref a) ∧ cx.B.get? a = some o ∧ o.data = .func fd
  calls : ∀ f, fl.contains f = true → ∀ {ps : List PV} {H : AHeap} {Q : Post} {X : XPost}, g.C f ps H Q X → ∀ {F : Fm} {kd : Kd} {m : Loc} {s : Shared} {vs : List Value} {a : Addr}, Fok cx n true kd F → mg f = some (.ref a) →
    RepL cx s.heap vs ps → St cx F m H s.heap → Ev (Rep cx) cx F (call (.ref a) vs []) m H s Q X
end Mine
end
section
open PySem PySem.Calls PyProof.Rows
namespace Mine
set_option autoImplicit false

section
variable {cx : Cx} {F : Fm} {m : Loc} {H H' : AHeap} {s s' : Shared} {I : Addr}

/-- nothing but I's record changes -/
noncomputable def Tch (I : Addr) (s s' : Shared) : Prop := ∃ h' tk, s' = { s with heap := h', toks := tk } ∧ ∀ b o, b ≠ I → s.heap.get? b = some o → h'.get? b = some o
noncomputable def Clean (cx : Cx) (H : AHeap) (h : Heap) (I : Addr) : Prop := H I = none ∧ cx.B.get? I = none ∧ ∃ o T vs, h.get? I = some o ∧ o.cls = .type T ∧ T ≠ "range" ∧ o.data = .fields vs

theorem notSolid_of {o : Obj} {T : String} {vs : Array Value} (hc : o.cls = .type T) (hT : T ≠ "range") (hd : o.data = .fields vs) : ¬ Solid o := by
  rintro (⟨i, n, rfl⟩ | ⟨n, t, u, v, rfl⟩ | ⟨⟨C, q⟩, _⟩)
  · cases hd
  · simp [rngObj] at hc; exact hT hc.symm
  · rw [hc] at q; cases q

theorem Holds.keepBut {h h' : Heap} (k : Holds cx h H) (hI : H I = none) (g : ∀ b o, b ≠ I → h.get? b = some o → h'.get? b = some o) (ns : ∀ o, h.get? I = some o → ¬ Solid o) : Holds cx h' H := fun b x e => by
  have q : b ≠ I := by rintro rfl; rw [hI] at e; cases e
  have r := k b x e
  have so : ∀ b o, h.get? b = some o → Solid o → h'.get? b = some o := fun b o e s => g b o (by rintro rfl; exact ns o e s) e
  cases x with
  | list xs => obtain ⟨items, n, e, r, l⟩ := r; exact ⟨items, n, g _ _ q e, r.mono so, l⟩
  | tape k => obtain ⟨t, n, e⟩ := r; exact ⟨t, n, g _ _ q e⟩
  | dict kvs => obtain ⟨vs, d, r, l⟩ := r; exact ⟨vs, (let ⟨o, es, ep, ho, y⟩ := d; ⟨o, es, ep, g _ _ q ho, y⟩), r.mono so, l⟩
  | inst c d => obtain ⟨C, x, e⟩ := r; exact ⟨C, x, g _ _ q e⟩

theorem St.touch {h h' : Heap} (t : St cx F m H h) (c : Clean cx H h I) (k : ∀ b o, b ≠ I → h.get? b = some o → h'.get? b = some o) : St cx F m H h' := by
  obtain ⟨hI, hB, oI, T, vs, gI, hc, hT, hd⟩ := c
  have ns : ∀ o, h.get? I = some o → ¬ Solid o := fun o e => by rw [gI] at e; cases e; exact notSolid_of hc hT hd
  have so : ∀ b o, h.get? b = some o → Solid o → h'.get? b = some o := fun b o e s => k b o (by rintro rfl; exact ns o e s) e
  have nd : ∀ b o es ep, h.get? b = some o → o.data = .dict es ep → b ≠ I := fun b o es ep e q => by rintro rfl; rw [gI] at e; cases e; rw [hd] at q; cases q
  refine ⟨fun b o e => k b o (by rintro rfl; rw [hB] at e; cases e) (t.base b o e), t.off, t.heap.keepBut hI k ns, fun env he => ?_, t.own, ?_, fun n c hc' => ?_⟩
  · obtain ⟨hk, L, o, es, ep, hf, hH, hb, ho, hd'⟩ := t.frames env he
    exact ⟨hk, L, o, es, ep, hf, hH, hb, k L o (nd L o es ep ho hd') ho, hd'⟩
  · obtain ⟨o, es, ep, mc, ho, hd', ⟨o1, es1, ep1, ho1, hd1, hk1, hm1⟩, hv⟩ := t.vars
    have n := nd _ o es ep ho hd'
    exact ⟨o, es, ep, mc, k _ o n ho, hd', ⟨o1, es1, ep1, k _ o1 n ho1, hd1, hk1, hm1⟩, fun i v h1 h2 h3 => let ⟨x, q, r⟩ := hv i v h1 h2 h3; ⟨x, q, r.mono so⟩⟩
  · obtain ⟨h1, h2, o, x, ho, hd', hv⟩ := t.cells n c hc'
    exact ⟨h1, h2, o, x, k c o (by rintro rfl; rw [gI] at ho; cases ho; rw [hd] at hd'; cases hd') ho, hd', fun i v a b c d => let ⟨y, q, r⟩ := hv i v a b c d; ⟨y, q, r.mono so⟩⟩

theorem Kp.touch {S : List Addr} {H₁ : AHeap} {s₁ s₂ : Shared} (k : Kp cx S H s H₁ s₁) (f : s.heap.get? I = none) (tc : Tch I s₁ s₂) (hB : cx.B.get? I = none) : Kp cx S H s H₁ s₂ := by
  obtain ⟨h', tk, rfl, g⟩ := tc
  have n : ∀ b o, s.heap.get? b = some o → b ≠ I := fun b o e => by rintro rfl; rw [f] at e; cases e
  refine ⟨?_, fun b o e hS hH => ?_, fun b o e => ?_, fun b o e e' => ?_⟩
  · obtain ⟨h, t, rfl⟩ := k.same; exact ⟨h', tk, rfl⟩
  · obtain ⟨h1, o', e', sm⟩ := k.keep b o e hS hH; exact ⟨h1, o', g b o' (n b o e) e', sm⟩
  · obtain ⟨o', e'⟩ := k.alive b o e; exact ⟨o', g b o' (n b o e) e'⟩
  · exact g b o (by rintro rfl; rw [hB] at e; cases e) (k.base b o e e')

noncomputable def Src (p : PV) (xs : List PV) (H : AHeap) : Prop :=
  match p with
  | .obj a => H a = some (.list xs)
  | _ => True
noncomputable def Itr (cx : Cx) (h : Heap) (I : Addr) (i : Nat) (xs : List PV) : PV → Prop
  | .obj a => h.IsListIter I a i ∧ a ≠ I
  | .tup _ => ∃ t items n, h.IsTupleIter I t i ∧ h.get? t = some (tupObj items n) ∧ RepL cx h items.toList xs ∧ t ≠ I
  | .rng n => IsRangeIter h I i ((n.toNat : Int) - i) 1 ∧ xs = (List.range n.toNat).map fun i => .int i
  | _ => False

theorem Itr.clean {h : Heap} {i : Nat} {xs : List PV} {p : PV} (it : Itr cx h I i xs p) : ∃ o T vs, h.get? I = some o ∧ o.cls = .type T ∧ T ≠ "range" ∧ o.data = .fields vs := by
  cases p <;> try exact it.elim
  · obtain ⟨t, items, n, ⟨o, ho, hc, hd⟩, _⟩ := it; exact ⟨o, _, _, ho, hc, by decide, hd⟩
  · obtain ⟨⟨o, ho, hc, hd⟩, _⟩ := it; exact ⟨o, _, _, ho, hc, by decide, hd⟩
  · exact ⟨_, _, _, it.1, rfl, by decide, rfl⟩
theorem Itr.keep {h h' : Heap} {i : Nat} {xs : List PV} {p : PV} (it : Itr cx h I i xs p) (so : ∀ b o, h.get? b = some o → Solid o → h'.get? b = some o) (kI : ∀ o, h.get? I = some o → h'.get? I = some o) : Itr cx h' I i xs p := by
  cases p <;> try exact it.elim
  · obtain ⟨t, items, n, ⟨o, ho, hc, hd⟩, ht, r, ne⟩ := it
    exact ⟨t, items, n, ⟨o, kI o ho, hc, hd⟩, so _ _ ht (.inl ⟨_, _, rfl⟩), r.mono so, ne⟩
  · obtain ⟨⟨o, ho, hc, hd⟩, ne⟩ := it
    exact ⟨⟨o, kI o ho, hc, hd⟩, ne⟩
  · exact ⟨kI _ it.1, it.2⟩

theorem iter_ok {v : Value} {p : PV} {K : List PV → (AHeap → Prop) → Prop} {Q : Value → Shared → Prop} {E : Value → Shared → Prop} (rv : Rep cx s.heap v p) (t : St cx F m H s.heap) (h : itemsW p K H)
    (hQ : ∀ I xs h', s.heap.get? I = none → (∀ b o, s.heap.get? b = some o → h'.get? b = some o) → Itr cx h' I 0 xs p → Clean cx H h' I → Src p xs H → xs.length ≤ LIM → K xs (Src p xs) → Q (.ref I) { s with heap := h' }) :
    wpAny cx.M F.A (pyIter v) Q E s := by
  have hL : LIM = 1048576 := rfl
  have fr := get_size_none s.heap
  have hH : H s.heap.objs.size = none := t.heap.fresh fr
  have hB : cx.B.get? s.heap.objs.size = none := by
    cases e : cx.B.get? s.heap.objs.size with
    | none => rfl
    | some o => have := t.base _ _ e; rw [fr] at this; cases this
  unfold itemsW at h
  split at h
  · obtain ⟨a, items, n, rfl, g, l, r⟩ := rv.tupI
    refine wpAny_pyIter_tuple (isTuple_of g) (hQ _ _ _ fr push_keeps ⟨a, items, n, ⟨_, Heap.get?_push_size _ rfl, rfl, rfl⟩, push_keeps _ _ g, r.mono fun b o e _ => push_keeps b o e, ?_⟩ ⟨hH, hB, _, _, _, Heap.get?_push_size _ rfl, rfl, by decide, rfl⟩ trivial l h)
    rintro rfl; rw [fr] at g; cases g
  · rename_i n
    obtain ⟨a, t1, u1, v1, rfl, g, l⟩ := rv.rngI
    have e : Builtin.Range.rangeSize 0 n 1 = n.toNat := by unfold Builtin.Range.rangeSize; simp; split <;> omega
    refine wpAny_pyIter_range g ?_ (hQ _ _ _ fr push_keeps ⟨?_, rfl⟩ ⟨hH, hB, _, _, _, Heap.get?_push_size _ rfl, rfl, by decide, rfl⟩ trivial ?_ h)
    · unfold Builtin.Range.small Builtin.Range.rangeFitsLong
      rw [e]
      simp
      omega
    · rw [e]
      show _ = some _
      rw [Heap.get?_push_size _ rfl]
      simp
    · simp; omega
  · obtain ⟨o, ha, h⟩ := h
    (first | (obtain ⟨_, rfl⟩ := Rep.intI rv) | (obtain ⟨_, rfl⟩ := Rep.strI rv) | (obtain rfl := Rep.objI rv) | (obtain rfl := Rep.boolI rv) | (obtain rfl := Rep.noneI rv))
    split at h
    · obtain ⟨items, n, g, r, l⟩ := t.list ha
      refine wpAny_pyIter_list (isList_of g) (hQ _ _ _ fr push_keeps ⟨⟨_, Heap.get?_push_size _ rfl, rfl, rfl⟩, ?_⟩ ⟨hH, hB, _, _, _, Heap.get?_push_size _ rfl, rfl, by decide, rfl⟩ ha l h)
      rintro rfl; rw [fr] at g; cases g
    · exact h.elim
  · exact h.elim

theorem next_ok {i : Nat} {xs : List PV} {p x : PV} {Q : Option Value → Shared → Prop} {E : Value → Shared → Prop} (t : St cx F m H s.heap) (it : Itr cx s.heap I i xs p) (sr : Src p xs H) (cl : Clean cx H s.heap I) (xi : xs[i]? = some x)
    (hQ : ∀ v s', Rep cx s'.heap v x → Itr cx s'.heap I (i + 1) xs p → Clean cx H s'.heap I → Tch I s s' → Q (some v) s') : wpAny cx.M F.A (pyNext (.ref I)) Q E s := by
  obtain ⟨hI, hB, oI, T, vs, gI, hc, hT, hd⟩ := cl
  have so : ∀ h', Heap.SameBut I s.heap h' → ∀ b o, s.heap.get? b = some o → Solid o → h'.get? b = some o := fun h' sb b o e so => by
    rw [sb.2 b (by rintro rfl; rw [gI] at e; cases e; exact notSolid_of hc hT hd so)]; exact e
  have fin : ∀ v h' tk, Heap.SameBut I s.heap h' → Rep cx s.heap v x → Itr cx h' I (i + 1) xs p → Q (some v) { s with heap := h', toks := tk } := fun v h' tk sb r it' =>
    hQ v _ (r.mono (so h' sb)) it' ⟨hI, hB, it'.clean⟩ ⟨h', tk, rfl, fun b o n e => by rw [sb.2 b n]; exact e⟩
  cases p <;> try exact it.elim
  · obtain ⟨tt, items, n, hit, g, r, ne⟩ := it
    obtain ⟨v, ev, rv⟩ := r.get xi
    rw [Array.getElem?_toList] at ev
    refine wpAny_pyNext_tuple_item hit (isTuple_of g) ev fun h' hit' sb => fin v h' s.toks sb rv ⟨tt, items, n, hit', ?_, r.mono (so h' sb), ne⟩
    rw [sb.2 _ ne]; exact g
  · obtain ⟨hit, ne⟩ := it
    obtain ⟨items, n, g, r, l⟩ := t.list sr
    obtain ⟨v, ev, rv⟩ := r.get xi
    rw [Array.getElem?_toList] at ev
    exact wpAny_pyNext_list_item hit (isList_of g) ev fun h' hit' sb => fin v h' s.toks sb rv ⟨hit', ne⟩
  · obtain ⟨hit, rfl⟩ := it
    simp only [List.getElem?_map] at xi
    obtain ⟨j, hj, rfl⟩ := Option.map_eq_some_iff.mp xi
    have hlt := (List.getElem?_eq_some_iff.mp hj).1
    simp at hlt
    have hj' : j = i := by simpa [hlt] using hj.symm
    subst hj'
    refine wpAny_pyNext_range_item hit (by omega) fun h' hit' sb => fin _ h' _ sb (.int _ _) ⟨?_, rfl⟩
    have e1 : ((j + 1 : Nat) : Int) = (j : Int) + 1 := by omega
    have e2 : ∀ n : Nat, (n : Int) - ((j + 1 : Nat) : Int) = (n : Int) - (j : Int) - 1 := by intro n; omega
    rw [e2, e1]; exact hit'

theorem end_ok {i : Nat} {xs : List PV} {p : PV} {Q : Option Value → Shared → Prop} {E : Value → Shared → Prop} (hh : F.A.handled = none) (t : St cx F m H s.heap) (it : Itr cx s.heap I i xs p) (sr : Src p xs H) (xi : xs[i]? = none)
    (hQ : ∀ s', Tch I s s' → Q none s') : wpAny cx.M F.A (pyNext (.ref I)) Q E s := by
  have hle := List.getElem?_eq_none_iff.mp xi
  cases p <;> try exact it.elim
  · obtain ⟨tt, items, n, hit, g, r, ne⟩ := it
    have hk := arr_len r
    exact wpAny_pyNext_tuple_end hh hit (isTuple_of g) (by simp; omega) fun h' sb => hQ _ ⟨h', s.toks, rfl, fun b o n e => sb b o n e⟩
  · obtain ⟨hit, ne⟩ := it
    obtain ⟨items, n, g, r, l⟩ := t.list sr
    have hk := arr_len r
    exact wpAny_pyNext_list_end hh hit (isList_of g) (by simp; omega) fun h' sb => hQ _ ⟨h', s.toks, rfl, fun b o n e => sb b o n e⟩
  · obtain ⟨hit, rfl⟩ := it
    simp at hle
    exact wpAny_pyNext_range_end hh hit (by omega) fun h' sb => hQ _ ⟨h', s.toks, rfl, fun b o n e => sb b o n e⟩
theorem self_ok {A : Around} {i : Nat} {xs : List PV} {p : PV} {Q : Value → Shared → Prop} {E : Value → Shared → Prop} (it : Itr cx s.heap I i xs p) (hQ : Q (.ref I) s) : wpAny cx.M A (pyIter (.ref I)) Q E s := by
  cases p <;> try exact it.elim
  · obtain ⟨t, items, n, hit, _⟩ := it; exact wpAny_pyIter_tupleiter hit hQ
  · exact wpAny_pyIter_listiter it.1 hQ
  · exact wpAny_pyIter_rangeiter it.1 hQ
end
end Mine
end
section
open PySem PySem.Calls PyProof.Rows
namespace Mine
set_option autoImplicit false

section
variable {cx : Cx} {F : Fm} {m : Loc} {H H' : AHeap} {s s' : Shared} {I : Addr}

theorem Loc.get_set {m : Loc} {x i : Nat} {p v : PV} (h : (m.set x (some p)).getD i none = some v) : (i = x ∧ v = p) ∨ (i ≠ x ∧ m.getD i none = some v) := by
  by_cases q : i = x
  · subst q
    by_cases l : i < m.length
    · left; simp [List.getD, l] at h; exact ⟨rfl, h.symm⟩
    · simp [List.getD, l] at h
  · right
    refine ⟨q, ?_⟩
    simpa [List.getD, List.getElem?_set, Ne.symm q] using h
theorem Loc.get_set0 {m : Loc} {x i : Nat} {v : PV} (h : (m.set x none).getD i none = some v) : i ≠ x ∧ m.getD i none = some v := by
  by_cases q : i = x
  · subst q
    by_cases l : i < m.length
    · simp [List.getD, l] at h
    · simp [List.getD, l] at h
  · refine ⟨q, ?_⟩
    simpa [List.getD, List.getElem?_set, Ne.symm q] using h

theorem notSolid_dict {o : Obj} {es : Array DictEntry} {ep : Nat} (hd : o.data = .dict es ep) : ¬ Solid o := fun h => h.notLoc.1 _ _ hd
theorem notSolid_cell {o : Obj} {x : Option Value} (hd : o.data = .cell x) : ¬ Solid o := fun h => h.notLoc.2 _ hd

/-- a name put anew in the frame's own row -/
theorem St.setLocal {h h' : Heap} {x : Nat} {v : Value} {p : PV} {mc mc' : Str → Option Value} (t : St cx F m H h) (inj : ∀ i j, F.vis i = true → F.vis j = true → slot F.nm i = slot F.nm j → i = j) (vx : F.vis x = true) (kl : F.env.kindOf (slot F.nm x) = some .local)
    (ns : h.Ns F.env.locals mc) (ns' : h'.Ns F.env.locals mc') (hm : mc' = fun z => if z = slot F.nm x then some v else mc z) (sb : Heap.SameBut F.env.locals h h') (rv : Rep cx h v p) : St cx F (m.set x (some p)) H h' := by
  obtain ⟨o, es, ep, mc₀, ho, hd, ns₀, hv⟩ := t.vars
  have e0 : mc₀ = mc := funext (ns₀.agree ns)
  subst e0
  have ns1 : ∀ o, h.get? F.env.locals = some o → ¬ Solid o := fun o' e => by rw [ho] at e; cases e; exact notSolid_dict hd
  have k : ∀ b o, b ≠ F.env.locals → h.get? b = some o → h'.get? b = some o := fun b o n e => by rw [sb.2 b n]; exact e
  have so : ∀ b o, h.get? b = some o → Solid o → h'.get? b = some o := fun b o e s => k b o (by rintro rfl; exact ns1 o e s) e
  obtain ⟨o', es', ep', ho', hd', r'⟩ := id ns'
  refine ⟨fun b o e => k b o (by rintro rfl; rw [t.own.2] at e; cases e) (t.base b o e), t.off, t.heap.keepBut t.own.1 k ns1, fun env he => ?_, t.own, ⟨o', es', ep', mc', ho', hd', ns', fun i w h1 h2 h3 => ?_⟩, fun n c hc' => ?_⟩
  · obtain ⟨hk, L, o1, es1, ep1, hf, hH, hb, ho1, hd1⟩ := t.frames env he
    by_cases q : L = F.env.locals
    · subst q; exact ⟨hk, _, o', es', ep', hf, hH, hb, ho', hd'⟩
    · exact ⟨hk, L, o1, es1, ep1, hf, hH, hb, k L o1 q ho1, hd1⟩
  · rcases Loc.get_set h3 with ⟨rfl, rfl⟩ | ⟨n, h3⟩
    · exact ⟨v, by simp [hm], rv.mono so⟩
    · obtain ⟨y, e, r⟩ := hv i w h1 h2 h3
      refine ⟨y, ?_, r.mono so⟩
      rw [hm]
      simp only
      rw [if_neg (fun q => n (inj i x h1 vx q))]; exact e
  · obtain ⟨h1, h2, oc, y, hoc, hdc, hvc⟩ := t.cells n c hc'
    have nc : c ≠ F.env.locals := by rintro rfl; rw [ho] at hoc; cases hoc; rw [hd] at hdc; cases hdc
    refine ⟨h1, h2, oc, y, k c oc nc hoc, hdc, fun i w a b c' d => ?_⟩
    rcases Loc.get_set d with ⟨rfl, rfl⟩ | ⟨ne, d⟩
    · subst b; exact absurd kl c'
    · obtain ⟨z, q, r⟩ := hvc i w a b c' d
      exact ⟨z, q, r.mono so⟩

theorem St.forget {h : Heap} (x : Nat) (t : St cx F m H h) : St cx F (m.set x none) H h := by
  refine ⟨t.base, t.off, t.heap, t.frames, t.own, ?_, fun n c hc => ?_⟩
  · obtain ⟨o, es, ep, mc, ho, hd, ns, hv⟩ := t.vars
    exact ⟨o, es, ep, mc, ho, hd, ns, fun i v h1 h2 h3 => hv i v h1 h2 (Loc.get_set0 h3).2⟩
  · obtain ⟨h1, h2, o, y, ho, hd, hv⟩ := t.cells n c hc
    exact ⟨h1, h2, o, y, ho, hd, fun i v a b c' d => hv i v a b c' (Loc.get_set0 d).2⟩

theorem St.solidNow {h : Heap} (_ : St cx F m H h) : True := trivial

/-- the comprehension's own frame -/
noncomputable def compF (F : Fm) (sc : Scope) (cl : List (Str × Addr)) (C : Addr) (x : Nat) (kd' : Kd) : Fm := { F with env := compEnvC sc cl C F.env, vis := visC kd' F.nm F.vis x }

theorem relab_eq {kd : Kd} {n : Nat} {q : Bool} {sc : Scope} {cl : List (Str × Addr)} {C : Addr} (fo : Fok cx n q kd F) : (compEnvC sc cl C F.env).kindOf = relab kd sc := by
  funext x
  show List.lookup x (List.map _ sc.names) = _
  unfold relab
  have e1 : (F.env.scope.kind == ScopeKind.function) = true := by rw [fo.kind]; rfl
  simp only [e1, fo.kdo, Bool.and_true]

theorem closure_lookup {env : Env} {kd : Kd} (hc : ∀ x, (kd x = some .cell ∨ kd x = some .free) → ∃ c, env.cells.lookup x = some c) :
    ∀ (names : List (Str × NameKind)) (acc : List (Str × Addr)), (names.all fun p => p.2 != .free || kd p.1 == some .cell || kd p.1 == some .free) = true → (∀ n c, acc.lookup n = some c → env.cells.lookup n = some c) →
      ∃ cl, (forIn names acc (fun x cs => if x.2 == .free then (do let c ← cellOf env x.1; pure (ForInStep.yield ((x.1, c) :: cs))) else pure (ForInStep.yield cs)) : Sem (List (Str × Addr))) = pure cl ∧
        (∀ n c, cl.lookup n = some c → env.cells.lookup n = some c) ∧ (∀ n, (acc.lookup n).isSome = true → (cl.lookup n).isSome = true) ∧ ∀ n, (n, NameKind.free) ∈ names → (cl.lookup n).isSome = true
  | [], acc, _, ha => ⟨acc, by simp, ha, fun _ h => h, fun _ h => by simp at h⟩
  | (y, k) :: r, acc, hall, ha => by
    simp only [List.all_cons, Bool.and_eq_true] at hall
    rw [List.forIn_cons]
    by_cases hk : k = .free
    · subst hk
      have hy : kd y = some .cell ∨ kd y = some .free := by
        have := hall.1; simp at this; exact this
      obtain ⟨c, hc'⟩ := hc y hy
      obtain ⟨cl, e, h1, h2, h3⟩ := closure_lookup hc r ((y, c) :: acc) hall.2 (fun n d h => by
        rw [List.lookup_cons] at h
        by_cases q : n = y
        · subst q; simp at h; subst h; exact hc'
        · rw [show (n == y) = false by simpa using q] at h; exact ha n d h)
      refine ⟨cl, ?_, h1, fun n h => h2 n ?_, fun n h => ?_⟩
      · simp only [cellOf, hc']
        exact e
      · rw [List.lookup_cons]; split <;> simp_all
      · rcases List.mem_cons.mp h with q | q
        · cases q; exact h2 _ (by simp)
        · exact h3 n q
    · obtain ⟨cl, e, h1, h2, h3⟩ := closure_lookup hc r acc hall.2 ha
      refine ⟨cl, ?_, h1, h2, fun n h => ?_⟩
      · have : (k == NameKind.free) = false := by simpa using hk
        simp only [this]
        exact e
      · rcases List.mem_cons.mp h with q | q
        · cases q; exact absurd rfl hk
        · exact h3 n q
theorem closure_ok {env : Env} {kd : Kd} {sc : Scope} (hc : ∀ x, (kd x = some .cell ∨ kd x = some .free) → ∃ c, env.cells.lookup x = some c)
    (hall : (sc.names.all fun p => p.2 != .free || kd p.1 == some .cell || kd p.1 == some .free) = true) : ∃ cl, closureFor sc env = pure cl ∧ (∀ n c, cl.lookup n = some c → env.cells.lookup n = some c) ∧ ∀ n, (n, NameKind.free) ∈ sc.names → (cl.lookup n).isSome = true := by
  obtain ⟨cl, e, h1, _, h3⟩ := closure_lookup hc sc.names [] hall (fun _ _ h => by simp at h)
  refine ⟨cl, ?_, h1, h3⟩
  unfold closureFor
  rw [← e]
  simp only [bind_pure]
end
end Mine
end
section
open PySem PySem.Calls PyProof.Rows
namespace Mine
set_option autoImplicit false

section
variable {cx : Cx} {F : Fm} {m : Loc} {H H' : AHeap} {s s' : Shared} {I : Addr} {kd : Kd} {sc : Scope} {x n : Nat} {q : Bool} {cl : List (Str × Addr)} {C : Addr}

theorem lookup_map_free {kd : Kd} {y : Str} {k : NameKind} : ∀ {names : List (Str × NameKind)}, (names.map fun (n, k) => if (k == .free && kd n == some .cell) then (n, .cell) else (n, k)).lookup y = some k →
    ∃ k₀, (y, k₀) ∈ names ∧ k = if (k₀ == .free && kd y == some .cell) then .cell else k₀
  | [], h => by simp at h
  | (z, k₀) :: r, h => by
    have hs : ∀ p : Str × NameKind, (if (k₀ == NameKind.free && kd z == some .cell) = true then (z, NameKind.cell) else (z, k₀)) = p → p.1 = z := fun p e => by rw [← e]; split <;> rfl
    rw [List.map_cons] at h
    simp only at h
    generalize hp : (if (k₀ == NameKind.free && kd z == some .cell) = true then (z, NameKind.cell) else (z, k₀)) = p at h
    have h1 := hs p hp
    obtain ⟨p1, p2⟩ := p
    simp only at h1
    subst h1
    rw [List.lookup_cons] at h
    by_cases e : y = p1
    · subst e
      simp at h
      subst h
      refine ⟨k₀, List.mem_cons_self, ?_⟩
      split at hp <;> simp_all
    · rw [show (y == p1) = false by simpa using e] at h
      obtain ⟨k₁, h2, h3⟩ := lookup_map_free h
      exact ⟨k₁, List.mem_cons_of_mem _ h2, h3⟩

theorem relab_free (hsc : scOk kd (relab kd sc) sc (slot F.nm x) = true) {y : Str} (h : relab kd sc y = some .cell ∨ relab kd sc y = some .free) : (y, NameKind.free) ∈ sc.names ∧ (kd y = some .cell ∨ kd y = some .free) := by
  unfold scOk at hsc
  simp only [Bool.and_eq_true] at hsc
  obtain ⟨⟨⟨⟨⟨⟨⟨_, _⟩, _⟩, hnc⟩, _⟩, hfr⟩, _⟩, _⟩ := hsc
  have key : ∀ k, relab kd sc y = some k → k = .cell ∨ k = .free → (y, NameKind.free) ∈ sc.names := fun k e hk => by
    obtain ⟨k₀, h1, h2⟩ := lookup_map_free e
    have h3 := List.all_eq_true.mp hnc _ h1
    simp at h3
    cases k₀ <;> simp_all
  have hm : (y, NameKind.free) ∈ sc.names := h.elim (fun e => key _ e (.inl rfl)) fun e => key _ e (.inr rfl)
  have := List.all_eq_true.mp hfr _ hm
  simp at this
  exact ⟨hm, this⟩

theorem compF_ok (fo : Fok cx n q kd F) (hsc : scOk kd (relab kd sc) sc (slot F.nm x) = true) (hcl1 : ∀ n c, cl.lookup n = some c → F.env.cells.lookup n = some c) (hcl : ∀ n, (n, NameKind.free) ∈ sc.names → (cl.lookup n).isSome = true) :
    Fok cx n q (relab kd sc) (compF F sc cl C x (relab kd sc)) where
  fr := fo.fr
  kind := by
    unfold scOk at hsc
    simp only [Bool.and_eq_true, decide_eq_true_eq] at hsc
    exact hsc.1.1.1.1.1.1.1
  kdo := relab_eq fo
  glob := fo.glob
  bltn := fo.bltn
  quiet := fo.quiet
  depth := fo.depth
  units := fo.units
  cells := fun y h => Option.isSome_iff_exists.mp (hcl y (relab_free hsc h).1)
  apart := fun x y c h1 h2 => fo.apart x y c (hcl1 x c h1) (hcl1 y c h2)
  inj := fun i j hi hj e => by
    have hx : relab kd sc (slot F.nm x) = some .local := by
      unfold scOk at hsc
      simp only [Bool.and_eq_true, beq_iff_eq] at hsc
      exact hsc.1.2
    simp only [compF, visC, Bool.or_eq_true, Bool.and_eq_true, beq_iff_eq] at hi hj e
    rcases hi with rfl | ⟨hi, ki⟩ <;> rcases hj with rfl | ⟨hj, kj⟩
    · rfl
    · rw [← e, hx] at kj; simp at kj
    · rw [e, hx] at ki; simp at ki
    · exact fo.inj i j hi hj e

theorem comp_start {h' : Heap} {mc : Str → Option Value} (fo : Fok cx n q kd F) (hsc : scOk kd (relab kd sc) sc (slot F.nm x) = true) (hcl : ∀ n c, cl.lookup n = some c → F.env.cells.lookup n = some c)
    (t : St cx F m H s.heap) (fr : s.heap.get? C = none) (g : ∀ b o, s.heap.get? b = some o → h'.get? b = some o) (ns : h'.Ns C mc) : St cx (compF F sc cl C x (relab kd sc)) (m.set x none) H h' := by
  have hx : relab kd sc (slot F.nm x) = some .local := by
    unfold scOk at hsc
    simp only [Bool.and_eq_true, beq_iff_eq] at hsc
    exact hsc.1.2
  have so : ∀ b o, s.heap.get? b = some o → Solid o → h'.get? b = some o := fun b o e _ => g b o e
  obtain ⟨o, es, ep, ho, hd, r⟩ := id ns
  refine ⟨fun b o e => g b o (t.base b o e), t.off, t.heap.grow g, fun env he => ?_, ⟨t.heap.fresh fr, ?_⟩, ⟨o, es, ep, mc, ho, hd, ns, fun i v h1 h2 h3 => ?_⟩, fun y c hc => ?_⟩
  · obtain ⟨hk, L, o, es, ep, hf, hH, hb, ho, hd'⟩ := t.frames env he
    exact ⟨hk, L, o, es, ep, hf, hH, hb, g L o ho, hd'⟩
  · show cx.B.get? C = none
    cases e : cx.B.get? C with
    | none => rfl
    | some o => rw [t.base _ _ e] at fr; cases fr
  · exfalso
    rw [show (compF F sc cl C x (relab kd sc)).env.kindOf = relab kd sc from relab_eq fo] at h2
    obtain ⟨ne, h3⟩ := Loc.get_set0 h3
    simp only [compF, visC, Bool.or_eq_true, Bool.and_eq_true, beq_iff_eq] at h1 h2
    rcases h1 with rfl | ⟨_, hk⟩
    · exact ne rfl
    · rw [h2] at hk; simp at hk
  · obtain ⟨h1, h2, o, w, ho, hd, hv⟩ := t.cells y c (hcl y c hc)
    refine ⟨h1, h2, o, w, g c o ho, hd, fun i v a b c' d => ?_⟩
    obtain ⟨ne, d⟩ := Loc.get_set0 d
    simp only [compF, visC, Bool.or_eq_true, Bool.and_eq_true, beq_iff_eq] at a b
    rcases a with rfl | ⟨a, hk⟩
    · exact absurd rfl ne
    · obtain ⟨z, e, r⟩ := hv i v a b (by
        rw [fo.kdo]
        rw [b] at hk
        rcases (relab_free hsc hk).2 with q | q <;> rw [q] <;> decide) d
      exact ⟨z, e, r.mono so⟩
end
end Mine
end
section
open PySem PySem.Calls PyProof.Rows
namespace Mine
set_option autoImplicit false

abbrev testsSem (ifs : List Expr) (env : Env) : Sem Bool := forIn ifs true fun c r => if r = true then do let ok ← isTrue c env (eval c env); pure (ForInStep.yield ok) else pure (ForInStep.yield r)
abbrev IsBB : Heap → Bool → Bool → Prop := fun _ a b => a = b

inductive CompI (cx : Cx) (F' : Fm) (m0 : Loc) (H : AHeap) (s₀ : Shared) (I D : Addr) (xs : List PV) (p : PV) (W : List PV → List PV → AHeap → Prop) (k : Nat) (s' : Shared) : Prop
  | mk (i : Nat) (acc : List PV) (Hk : AHeap) (ys : Array Value) (c : Nat) (hi : i ≤ xs.length) (hk : k = xs.length - i) (ti : St cx F' m0 Hk s'.heap) (ki : Kp cx [] H s₀ Hk s') (iti : Itr cx s'.heap I i xs p) (ci : Clean cx Hk s'.heap I)
    (hDi : s'.heap.get? D = some (lstObj ys c)) (ri : RepL cx s'.heap ys.toList acc) (hHD : Hk D = none) (hacc : acc.length ≤ i) (hw : W (xs.drop i) acc Hk) : CompI cx F' m0 H s₀ I D xs p W k s'
section
variable {cx : Cx} {F : Fm} {m : Loc} {H H' : AHeap} {s s' : Shared} {I : Addr} {kd : Kd} {sc : Scope} {x n : Nat} {q : Bool} {cl : List (Str × Addr)}

/-- what no name or list holds stays -/
theorem Kp.same1 {s₁ s₂ : Shared} {H₁ H₂ : AHeap} (k : Kp cx [] H₁ s₁ H₂ s₂) {b : Addr} {o : Obj} (e : s₁.heap.get? b = some o) (hb : H₁ b = none) (hd : ∀ es ep, o.data ≠ .dict es ep) : H₂ b = none ∧ s₂.heap.get? b = some o := by
  obtain ⟨h, o', e', sm⟩ := k.keep b o e (fun q => nomatch q) hb
  rw [sm.eq hd] at e'; exact ⟨h, e'⟩

theorem comp_block {elt iter : Expr} {ifs : List Expr} {px pos : Pos} {xs : List PV} {p : PV} {aT : BPost → Loc → AHeap → Prop} {aE : Post → Loc → AHeap → Prop} {QF : List PV → AHeap → Prop}
    {RR : Value → Addr → Result → Shared → Prop} {E : Value → Shared → Prop} {s₀ s₂ : Shared} {h₂ : Heap} (fo : Fok cx n true kd F) (hsc : scOk kd (relab kd sc) sc (slot F.nm x) = true)
    (hcl1 : ∀ n c, cl.lookup n = some c → F.env.cells.lookup n = some c) (hcl2 : ∀ n, (n, NameKind.free) ∈ sc.names → (cl.lookup n).isSome = true)
    (hT : ∀ {C : Addr} {m' : Loc} {H : AHeap} {s : Shared} {Q : BPost}, Fok cx n true (relab kd sc) (compF F sc cl C x (relab kd sc)) → St cx (compF F sc cl C x (relab kd sc)) m' H s.heap → aT Q m' H →
      Ev IsBB cx (compF F sc cl C x (relab kd sc)) (testsSem ifs (compEnvC sc cl C F.env)) m' H s Q fun _ _ => False)
    (hE : ∀ {C : Addr} {m' : Loc} {H : AHeap} {s : Shared} {Q : Post}, Fok cx n true (relab kd sc) (compF F sc cl C x (relab kd sc)) → St cx (compF F sc cl C x (relab kd sc)) m' H s.heap → aE Q m' H →
      Ev (Rep cx) cx (compF F sc cl C x (relab kd sc)) (eval elt (compEnvC sc cl C F.env)) m' H s Q fun _ _ => False)
    (t : St cx F m H s₀.heap) (hs₂ : s₂ = { s₀ with heap := h₂ }) (g₂ : ∀ b o, s₀.heap.get? b = some o → h₂.get? b = some o) (fI : s₀.heap.get? I = none) (it : Itr cx h₂ I 0 xs p) (cI : Clean cx H h₂ I) (hl : xs.length ≤ LIM)
    (h : compW (Src p xs) (fun y K H => aT (fun b H => if b then aE (fun v H => K [v] H) (m.set x (some y)) H else K [] H) (m.set x (some y)) H) QF xs [] H)
    (hRR : ∀ D C s' H' vs mc, s₀.heap.get? C = none → s₀.heap.get? D = none → D ≠ C → s'.heap.Ns C mc → (∃ ys k, s'.heap.get? D = some (lstObj ys k) ∧ RepL cx s'.heap ys.toList vs ∧ vs.length ≤ LIM) → H' D = none → H' C = none → Holds cx s'.heap H' →
      Kp cx [] H s₀ H' s' → QF vs H' → RR (.ref D) C (.ok .next) s') :
    wpAny cx.M F.A (newList []) (fun acc s₃ => wpAny cx.M F.A (newFunctionEnv sc F.env.globals cl [] F.env.qual none .none (some F.env)) (fun cenv s₄ =>
      codeAny cx.M F.A (.compStart (.ListComp elt [⟨.Name (slot F.nm x) px, iter, ifs, 0⟩] sc pos) 0 (.ref I) acc { cenv with scope := relabel sc F.env }) (RR acc cenv.locals) s₄) E s₃) E s₂ := by
  have hL : LIM = 1048576 := rfl
  have hL' := LIM_le
  have hsc' := hsc
  unfold scOk at hsc'
  simp only [Bool.and_eq_true, beq_iff_eq, decide_eq_true_eq] at hsc'
  obtain ⟨⟨⟨⟨⟨⟨⟨hkind, _⟩, _⟩, hnc⟩, hloc⟩, hfr⟩, hx⟩, _⟩ := hsc'
  have hcell : ∀ y ∈ sc.names, y.2 ≠ .cell := fun y hy => by have := List.all_eq_true.mp hnc y hy; simpa using this
  subst hs₂
  refine wpAny_newObj_type (wpAny_newFunctionEnv hcell (by intro y hy; simp at hy) (fun h₁ hns₁ hsb₁ => ?_) hkind)
  dsimp only at hns₁ hsb₁ ⊢
  generalize hH2 : h₂.push { cls := .type "list", dict := none, data := .seq ([] : List Value).toArray } = H2 at hns₁ hsb₁ ⊢
  have hC : H2.objs.size = h₂.objs.size + 1 := by rw [← hH2, Heap.size_push]
  have hDC : h₂.objs.size ≠ H2.objs.size := by rw [hC]; exact Nat.ne_of_lt (Nat.lt_succ_self _)
  have below : ∀ b, b < h₂.objs.size → b ≠ H2.objs.size ∧ b ≠ h₂.objs.size := fun b hb => ⟨by rw [hC]; exact Nat.ne_of_lt (Nat.lt_succ_of_lt hb), Nat.ne_of_lt hb⟩
  have old : ∀ b o, h₂.get? b = some o → h₁.get? b = some o := fun b o e => hsb₁.extBut b o (below b (Heap.lt_size e)).1 (Heap.get?_push_of_some _ (hH2 ▸ Heap.get?_push_of_some _ e))
  have hD₁ : h₁.get? h₂.objs.size = some (lstObj #[] 0) := hsb₁.extBut _ _ hDC (Heap.get?_push_of_some _ (hH2 ▸ Heap.get?_push_size _ rfl))
  have fresh : ∀ a, h₂.objs.size ≤ a → s₀.heap.get? a = none := fun a ha => by
    cases e : s₀.heap.get? a with
    | none => rfl
    | some o' => exact absurd (Heap.lt_size (g₂ _ _ e)) (Nat.not_lt.mpr ha)
  have fC : s₀.heap.get? H2.objs.size = none := fresh _ (by rw [hC]; exact Nat.le_succ _)
  have fD : s₀.heap.get? h₂.objs.size = none := fresh _ (Nat.le_refl _)
  have bnone : ∀ a, s₀.heap.get? a = none → cx.B.get? a = none := fun a f => by
    cases e : cx.B.get? a with
    | none => rfl
    | some o => rw [t.base _ _ e] at f; cases f
  generalize hCg : H2.objs.size = C at *
  generalize hDg : h₂.objs.size = D at *
  clear hH2
  have hID : I ≠ D := by obtain ⟨_, _, oI, _, _, gI, _⟩ := cI; exact Nat.ne_of_lt (hDg ▸ Heap.lt_size gI)
  have fo' := compF_ok (C := C) fo hsc hcl1 hcl2
  have keep₁ : ∀ b o, s₀.heap.get? b = some o → h₁.get? b = some o := fun b o e => old b o (g₂ b o e)
  have t₁ : St cx (compF F sc cl C x (relab kd sc)) (m.set x none) H h₁ := comp_start fo hsc hcl1 t fC keep₁ hns₁
  have it₁ : Itr cx h₁ I 0 xs p := it.keep (fun b o e _ => old b o e) fun o e => old _ o e
  have cI₁ : Clean cx H h₁ I := ⟨cI.1, cI.2.1, it₁.clean⟩
  have hp : ((compEnvC sc cl C F.env).scope.kind == .class || ((compEnvC sc cl C F.env).scope.kind == .module && (compEnvC sc cl C F.env).locals != (compEnvC sc cl C F.env).globals)) = false := by
    simp [compEnvC, relabel, hkind]
  have hkx : (compEnvC sc cl C F.env).kindOf (slot F.nm x) = some .local := by rw [relab_eq fo]; exact hx
  have loop : ∀ s₃ : Shared, s₃ = { s₀ with heap := h₁, toks := s₀.toks + ([] : List (Str × Value)).length } →
      codeAny cx.M F.A (.compLoop (.ListComp elt [⟨.Name (slot F.nm x) px, iter, ifs, 0⟩] sc pos) 0 (.ref I) (.ref D) (compEnvC sc cl C F.env)) (RR (.ref D) C) s₃ := by
    rintro s₃ rfl
    refine codeAny_compLoop_tests (CompI cx (compF F sc cl C x (relab kd sc)) (m.set x none) H s₀ I D xs p (compW (Src p xs) (fun y K H => aT (fun b H => if b then aE (fun v H => K [v] H) (m.set x (some y)) H else K [] H) (m.set x (some y)) H) QF)) ?_ xs.length
      ⟨0, [], H, #[], 0, Nat.zero_le _, rfl, t₁, .grow keep₁ (fun _ _ _ e => e), it₁, cI₁, hD₁, .nil, t.heap.fresh fD, Nat.le_refl _, h⟩
    rintro k s' ⟨i, acc, Hk, ys, c, hi, rfl, ti, ki, iti, ci, hDi, ri, hHD, hacc, hw⟩
    by_cases hlt : i < xs.length
    · have hx1 : xs[i]? = some xs[i] := List.getElem?_eq_getElem hlt
      rw [List.drop_eq_getElem_cons hlt] at hw
      obtain ⟨sr, hw⟩ := hw
      refine next_ok (F := compF F sc cl C x (relab kd sc)) ti iti sr ci hx1 fun v s₄ rv it₄ c₄ tc₄ => ?_
      obtain ⟨h₄, tk₄, rfl, k₄⟩ := id tc₄
      have t₄ : St cx (compF F sc cl C x (relab kd sc)) (m.set x none) Hk h₄ := ti.touch ci k₄
      have kp₄ := ki.touch fI tc₄ ci.2.1
      have hD₄ : h₄.get? D = some (lstObj ys c) := k₄ D _ (Ne.symm hID) hDi
      have so₄ : ∀ b o, s'.heap.get? b = some o → Solid o → h₄.get? b = some o := fun b o e so => k₄ b o (by
        rintro rfl; obtain ⟨_, _, oI, T, vs, gI, hc, hT, hd⟩ := ci; rw [gI] at e; cases e; exact notSolid_of hc hT hd so) e
      obtain ⟨oC, esC, epC, mc, hoC, hdC, nsC, _⟩ := t₄.vars
      refine wpAny_assign_Name (wpAny_storeName_local hkx nsC (fun h₅ ns₅ sb₅ => ?_) hp)
      have nsC' : h₄.Ns C mc := nsC
      have sb₅' : Heap.SameBut C h₄ h₅ := sb₅
      have t₅ : St cx (compF F sc cl C x (relab kd sc)) (m.set x (some xs[i])) Hk h₅ := by
        have := t₄.setLocal (x := x) fo'.inj (by simp [compF, visC]) hkx nsC ns₅ rfl sb₅ rv
        rw [List.set_set] at this; exact this
      have hCD : C ≠ D := Ne.symm hDC
      have kk₅ : ∀ b o, b ≠ C → h₄.get? b = some o → h₅.get? b = some o := fun b o n e => by rw [sb₅'.2 b n]; exact e
      have so₅ : ∀ b o, h₄.get? b = some o → Solid o → h₅.get? b = some o := fun b o e so => kk₅ b o (by rintro rfl; rw [show h₄.get? b = some oC from hoC] at e; cases e; exact notSolid_dict hdC so) e
      have kp₅ : Kp cx [] H s₀ Hk { s' with heap := h₅, toks := tk₄ + 1 } := kp₄.touch (I := C) fC ⟨h₅, tk₄ + 1, rfl, kk₅⟩ (bnone _ fC)
      have hIC : I ≠ C := by
        obtain ⟨_, _, oI, _, _, gI, _, _, hd⟩ := c₄
        rintro rfl
        rw [show h₄.get? I = some oC from hoC] at gI; cases gI; rw [hdC] at hd; cases hd
      have it₅ : Itr cx h₅ I (i + 1) xs p := it₄.keep so₅ fun o e => kk₅ _ o hIC e
      have c₅ : Clean cx Hk h₅ I := ⟨c₄.1, c₄.2.1, it₅.clean⟩
      have hD₅ : h₅.get? D = some (lstObj ys c) := kk₅ D _ hDC hD₄
      have r₅ : RepL cx h₅ ys.toList acc := (ri.mono so₄).mono so₅
      refine wpAny_mono (hT fo' t₅ hw) (fun ok s₆ h₆ => ?_) fun _ _ ⟨_, _, _, _, _, _, _, f⟩ => f.elim
      obtain ⟨b, H₆, rfl, t₆, kp₆, hb⟩ := h₆
      have nd : ∀ es ep, (lstObj ys c).data ≠ .dict es ep := fun _ _ q => nomatch q
      have so₆ : ∀ b o, h₅.get? b = some o → Solid o → s₆.heap.get? b = some o := kp₆.solid0 t₅.heap
      have hD₆ := kp₆.same1 (b := D) hD₅ hHD nd
      have stepI : ∀ {sa sb : Shared} {Ha Hb : AHeap} {ma : Loc}, Kp cx [] Ha sa Hb sb → St cx (compF F sc cl C x (relab kd sc)) ma Ha sa.heap → Itr cx sa.heap I (i + 1) xs p → Clean cx Ha sa.heap I → Itr cx sb.heap I (i + 1) xs p ∧ Clean cx Hb sb.heap I := fun {sa sb Ha Hb ma} kp ta ita ca => by
        obtain ⟨hI, hB, oI, T, vs, gI, hc, hT, hd⟩ := ca
        have e1 := kp.same1 gI hI (fun _ _ q => by rw [hd] at q; cases q)
        have itb := ita.keep (kp.solid0 ta.heap) fun o e => by rw [gI] at e; cases e; exact e1.2
        exact ⟨itb, e1.1, hB, itb.clean⟩
      obtain ⟨it₆, c₆⟩ := stepI kp₆ t₅ it₅ c₅
      cases ok with
      | false =>
        rw [if_neg (by decide)] at hb ⊢
        exact ⟨xs.length - (i + 1), by omega, i + 1, acc, H₆, ys, c, hlt, rfl, by have := t₆.forget x; rw [List.set_set] at this; exact this, kp₅.trans kp₆, it₆, c₆, hD₆.2, r₅.mono so₆, hD₆.1, Nat.le_succ_of_le hacc, by simpa using hb⟩
      | true =>
        rw [if_pos rfl] at hb ⊢
        refine wpAny_mono (hE fo' t₆ hb) (fun v₇ s₇ h₇ => ?_) fun _ _ ⟨_, _, _, _, _, _, _, f⟩ => f.elim
        obtain ⟨y, H₇, r₇, t₇, kp₇, hy⟩ := h₇
        have hD₇ := kp₇.same1 (b := D) hD₆.2 hD₆.1 nd
        have so₇ := kp₇.solid0 t₆.heap
        obtain ⟨it₇, c₇⟩ := stepI kp₇ t₆ it₆ c₆
        have ry : RepL cx s₇.heap ys.toList acc := (r₅.mono so₆).mono so₇
        have hsz := arr_len ry
        refine call_meets PySem.F.slot_list_append ⟨_, hD₇.2, rfl⟩ PySem.F.entry_list_append (PySem.F.args_list_append_2 _ _) (list_append _ ys c _ (by omega)) ⟨hD₇.2, ?_⟩
        obtain ⟨c', g'⟩ := lst_update hD₇.2 (fun z => z.push v₇)
        have nsD : ∀ o, s₇.heap.get? D = some o → ¬ Solid o := fun o e => by
          rw [hD₇.2] at e; cases e
          rintro (⟨i, n, q⟩ | ⟨n, t, u, v, q⟩ | ⟨⟨C, q⟩, _⟩) <;> simp [lstObj, tupObj, rngObj] at q
        have so₈ : ∀ b o, s₇.heap.get? b = some o → Solid o → (s₇.heap.update D (Obj.mapSeq fun z => z.push v₇)).get? b = some o := fun b o e so => upd_keeps b o (by rintro rfl; exact nsD o e so) e
        have bD := bnone _ fD
        have t₈ : St cx (compF F sc cl C x (relab kd sc)) (m.set x (some xs[i])) H₇ (s₇.heap.update D (Obj.mapSeq fun z => z.push v₇)) := by
          have ndl : ∀ b o es ep, s₇.heap.get? b = some o → o.data = .dict es ep → b ≠ D := fun b o es ep e q => by rintro rfl; rw [hD₇.2] at e; cases e; cases q
          refine ⟨fun b o e => upd_keeps b o (by rintro rfl; rw [bD] at e; cases e) (t₇.base b o e), t₇.off, t₇.heap.keepBut hD₇.1 upd_keeps nsD, fun env he => ?_, t₇.own, ?_, fun nn cc hc' => ?_⟩
          · obtain ⟨hk, L, o, es, ep, hf, hH, hb, ho, hd'⟩ := t₇.frames env he
            exact ⟨hk, L, o, es, ep, hf, hH, hb, upd_keeps L o (ndl L o es ep ho hd') ho, hd'⟩
          · obtain ⟨o, es, ep, mc, ho, hd', ns, hv⟩ := t₇.vars
            have nn := ndl _ o es ep ho hd'
            exact ⟨o, es, ep, mc, upd_keeps _ o nn ho, hd', ns.at fun o e => upd_keeps _ o nn e, fun i v h1 h2 h3 => let ⟨x, q, r⟩ := hv i v h1 h2 h3; ⟨x, q, r.mono so₈⟩⟩
          · obtain ⟨h1, h2, o, xx, ho, hd', hv⟩ := t₇.cells nn cc hc'
            exact ⟨h1, h2, o, xx, upd_keeps cc o (by rintro rfl; rw [hD₇.2] at ho; cases ho; cases hd') ho, hd', fun i v a b c d => let ⟨y, q, r⟩ := hv i v a b c d; ⟨y, q, r.mono so₈⟩⟩
        have kp₈ : Kp cx [] H s₀ H₇ { s₇ with heap := s₇.heap.update D (Obj.mapSeq fun z => z.push v₇), toks := s₇.toks } := ((kp₅.trans kp₆).trans kp₇).touch (I := D) fD ⟨_, s₇.toks, rfl, upd_keeps⟩ bD
        have it₈ : Itr cx (s₇.heap.update D (Obj.mapSeq fun z => z.push v₇)) I (i + 1) xs p := it₇.keep so₈ fun o e => upd_keeps _ o hID e
        refine ⟨xs.length - (i + 1), by omega, i + 1, acc ++ [y], H₇, ys.push v₇, c', hlt, rfl, by have := t₈.forget x; rw [List.set_set] at this; exact this, kp₈, it₈, ⟨c₇.1, c₇.2.1, it₈.clean⟩, g', ?_, hD₇.1, by simp; omega, hy⟩
        have := (ry.append (.cons r₇ .nil)).mono so₈
        simpa using this
    · have hi' : i = xs.length := by omega
      subst hi'
      rw [List.drop_length] at hw
      obtain ⟨sr, hw⟩ := hw
      refine end_ok (F := compF F sc cl C x (relab kd sc)) (fo'.quiet rfl) ti iti sr (by simp) fun s₄ tc₄ => ?_
      obtain ⟨h₄, tk₄, rfl, k₄⟩ := id tc₄
      have t₄ : St cx (compF F sc cl C x (relab kd sc)) (m.set x none) Hk h₄ := ti.touch ci k₄
      obtain ⟨oC, esC, epC, mc, hoC, hdC, nsC, _⟩ := t₄.vars
      have so₄ : ∀ b o, s'.heap.get? b = some o → Solid o → h₄.get? b = some o := fun b o e so => k₄ b o (by
        rintro rfl; obtain ⟨_, _, oI, T, vs, gI, hc, hT, hd⟩ := ci; rw [gI] at e; cases e; exact notSolid_of hc hT hd so) e
      exact hRR D C _ Hk acc mc fC fD hDC nsC ⟨ys, c, k₄ D _ (Ne.symm hID) hDi, ri.mono so₄, by omega⟩ hHD t₄.own.1 t₄.heap (ki.touch fI tc₄ ci.2.1) hw
  exact codeAny_compStart_list (loop _ rfl) (self_ok it₁ (loop _ rfl))
end
end Mine
end
section
open PySem PySem.Calls PyProof.Rows
namespace Mine
set_option autoImplicit false

section
variable {cx : Cx} {F : Fm} {m : Loc} {H H' : AHeap} {s s' : Shared} {I : Addr} {kd : Kd} {sc : Scope} {x n : Nat} {q : Bool} {cl : List (Str × Addr)} {Q : Post} {X : XPost}

abbrev RepLs (cx : Cx) (k : Nat) : Heap → List Value → List PV → Prop := fun h vs ps => RepL cx h vs ps ∧ ps.length = k

theorem comp_fin' {vs : List PV} {D C : Addr} {mc : Str → Option Value} (t : St cx F m H s.heap) (fC : s.heap.get? C = none) (fD : s.heap.get? D = none) (hDC : D ≠ C) (ns : s'.heap.Ns C mc)
    (hD : ∃ ys k, s'.heap.get? D = some (lstObj ys k) ∧ RepL cx s'.heap ys.toList vs ∧ vs.length ≤ LIM) (hHD : H' D = none) (hHC : H' C = none) (hh : Holds cx s'.heap H') (k : Kp cx [] H s H' s') (h : alloc (.list vs) Q H')
    {h' : Heap} (sb : Heap.SameBut C s'.heap h') : St cx F m (upd H' D (.list vs)) h' ∧ Kp cx [] H s (upd H' D (.list vs)) { s' with heap := h' } ∧ Q (.obj D) (upd H' D (.list vs)) := by
  obtain ⟨ys, c, gD, r, l⟩ := hD
  obtain ⟨oC, es, ep, hoC, hdC, _⟩ := ns
  have bC : cx.B.get? C = none := by
    cases e : cx.B.get? C with
    | none => rfl
    | some o => rw [t.base _ _ e] at fC; cases fC
  have g : ∀ b o, b ≠ C → s'.heap.get? b = some o → h'.get? b = some o := fun b o n e => by rw [sb.2 b n]; exact e
  have nsC : ∀ o, s'.heap.get? C = some o → ¬ Solid o := fun o e => by rw [hoC] at e; cases e; exact notSolid_dict hdC
  have so : ∀ b o, s'.heap.get? b = some o → Solid o → h'.get? b = some o := fun b o e s => g b o (by rintro rfl; exact nsC o e s) e
  have hh' : Holds cx h' H' := hh.keepBut hHC g nsC
  have gD' := g D _ hDC gD
  have hu : Holds cx h' (upd H' D (.list vs)) := hh'.put (fun b o _ e => e) (fun o e => by
    rw [gD'] at e; cases e
    rintro (⟨i, n, q⟩ | ⟨n, t, u, v, q⟩ | ⟨⟨C, q⟩, _⟩) <;> simp [lstObj, tupObj, rngObj] at q) ⟨ys, c, gD', r.mono so, l⟩
  have k₁ : Kp cx [] H s H' { s' with heap := h' } := k.touch fC ⟨h', s'.toks, rfl, g⟩ bC
  have k₂ : Kp cx [] H s (upd H' D (.list vs)) { s' with heap := h' } := ⟨k₁.same, fun b o e nS hn => by
      obtain ⟨h1, o', e', sm⟩ := k₁.keep b o e nS hn
      exact ⟨by rw [upd_ne (by rintro rfl; rw [fD] at e; cases e)]; exact h1, o', e', sm⟩, k₁.alive, k₁.base⟩
  exact ⟨t.step k₂ hu, k₂, alloc_use h hHD⟩
theorem comp_fin {vs : List PV} {D C : Addr} {mc : Str → Option Value} (t : St cx F m H s.heap) (fC : s.heap.get? C = none) (fD : s.heap.get? D = none) (hDC : D ≠ C) (ns : s'.heap.Ns C mc)
    (hD : ∃ ys k, s'.heap.get? D = some (lstObj ys k) ∧ RepL cx s'.heap ys.toList vs ∧ vs.length ≤ LIM) (hHD : H' D = none) (hHC : H' C = none) (hh : Holds cx s'.heap H') (k : Kp cx [] H s H' s') (h : alloc (.list vs) Q H')
    {h' : Heap} (sb : Heap.SameBut C s'.heap h') : OkG (Rep cx) cx F m H s Q (.ref D) { s' with heap := h' } :=
  let ⟨a, b, c⟩ := comp_fin' t fC fD hDC ns hD hHD hHC hh k h sb; ⟨_, _, .obj D, a, b, c⟩

theorem comp_ok {elt iter : Expr} {ifs : List Expr} {px pos : Pos} {aT : BPost → Loc → AHeap → Prop} {aE : Post → Loc → AHeap → Prop}
    (fo : Fok cx n true kd F) (hsc : scOk kd (relab kd sc) sc (slot F.nm x) = true)
    (hIt : Ev (Rep cx) cx F (eval iter F.env) m H s (fun v H => itemsW v (fun xs src => compW src (fun y K H => aT (fun b H => if b then aE (fun v H => K [v] H) (m.set x (some y)) H else K [] H) (m.set x (some y)) H)
      (fun vs H => alloc (.list vs) Q H) xs [] H) H) X)
    (hT : ∀ {cl : List (Str × Addr)} {C : Addr} {m' : Loc} {H : AHeap} {s : Shared} {Q : BPost}, Fok cx n true (relab kd sc) (compF F sc cl C x (relab kd sc)) → St cx (compF F sc cl C x (relab kd sc)) m' H s.heap → aT Q m' H →
      Ev IsBB cx (compF F sc cl C x (relab kd sc)) (testsSem ifs (compEnvC sc cl C F.env)) m' H s Q fun _ _ => False)
    (hE : ∀ {cl : List (Str × Addr)} {C : Addr} {m' : Loc} {H : AHeap} {s : Shared} {Q : Post}, Fok cx n true (relab kd sc) (compF F sc cl C x (relab kd sc)) → St cx (compF F sc cl C x (relab kd sc)) m' H s.heap → aE Q m' H →
      Ev (Rep cx) cx (compF F sc cl C x (relab kd sc)) (eval elt (compEnvC sc cl C F.env)) m' H s Q fun _ _ => False)
    (hs : ∀ x, foldedSetIterable iter F.env x = pure x) :
    Ev (Rep cx) cx F (eval (.ListComp elt [⟨.Name (slot F.nm x) px, iter, ifs, 0⟩] sc pos) F.env) m H s Q X := by
  have hsc' := hsc
  unfold scOk at hsc'
  simp only [Bool.and_eq_true, beq_iff_eq, decide_eq_true_eq] at hsc'
  obtain ⟨⟨⟨⟨⟨⟨⟨hkind, _⟩, _⟩, hnc⟩, hloc⟩, hfr⟩, hx⟩, _⟩ := hsc'
  obtain ⟨cl, hclos, hcl1, hcl2⟩ := closure_ok fo.cells hfr
  have hnames : ∀ y ∈ sc.names, y.2 = .local → sc.names.lookup y.1 = some .local := fun y hy hl => by
    have := List.all_eq_true.mp hloc y hy
    simp [hl] at this; exact this
  unfold Ev
  rw [eval_ListComp]
  refine wpAny_comprehension_free (use := none) rfl hs hclos hkind hnames (wpAny_mono hIt (fun xv s₁ h₁ => ?_) fun _ _ e => e)
  obtain ⟨p, H₁, rv, t₁, k₁, hw⟩ := h₁
  refine iter_ok (F := F) rv t₁ hw fun I xs h' fI g it cI sr hl hc => ?_
  refine comp_block (RR := fun acc C => compPost cx.M F.A _ none _ acc C) fo hsc hcl1 hcl2 hT hE t₁ rfl g fI it cI hl hc ?_
  intro D C s' H' vs mc fC fD hDC ns hD hHD hHC hh k hq
  exact ⟨mc, ns, fun h'' sb => (comp_fin t₁ fC fD hDC ns hD hHD hHC hh k hq sb).older k₁⟩

theorem args_sem {f : Value} {k : Nat} {trees : List (Bool × Sem Value)} {Q : List PV → AHeap → Prop} (hp : ∀ x ∈ trees, x.1 = false) (h : Ev (RepLs cx k) cx F (spliced trees) m H s Q X) {QQ : Args → Shared → Prop}
    (hk : ∀ vs s', OkG (RepLs cx k) cx F m H s Q vs s' → QQ ⟨vs, []⟩ s') : wpAny cx.M F.A (evalArgs f true trees []) QQ (ErP cx F m H s X) s := by
  cases trees with
  | nil =>
    unfold evalArgs
    show wpAny cx.M F.A (spliced [] >>= _) QQ _ s
    refine wpAny_bind (wpAny_mono h (fun vs s' h' => ?_) fun _ _ x => x)
    refine wpAny_holding ?_
    exact wpAny_bind (wpAny_pure (wpAny_bind (wpAny_pure (wpAny_pure (hk vs s' h')))))
  | cons a r =>
    obtain ⟨b, x⟩ := a
    have := hp (b, x) List.mem_cons_self
    simp only at this
    subst this
    exact evalArgs_plain (wpAny_mono h (fun vs s' h' => hk vs s' h') fun _ _ e => e)

noncomputable def litV : Const → Option PV
  | .none => some .none
  | .bool b => some (.bool b)
  | .int i => some (.int i)
  | .str s => some (.str s)
  | _ => none
theorem litW_iff {c : Const} {Q : Post} (h : litW c Q H) : ∃ v, litV c = some v ∧ Q v H := by
  unfold litW at h
  split at h <;> first | exact ⟨_, rfl, h⟩ | exact h.elim
theorem lit_ok {c : Const} {k : Nat} {p : Pos} {v : PV} {A : Around} {env : Env} {QQ : Value → Shared → Prop} {E : Value → Shared → Prop} (hv : litV c = some v)
    (hQ : ∀ x tk, (∀ h, Rep cx h x v) → QQ x { s with toks := tk }) : wpAny cx.M A (eval (.Constant c k p) env) QQ E s := by
  unfold litV at hv
  split at hv <;> cases hv
  · exact wpAny_pure (hQ _ s.toks fun _ => .none)
  · exact wpAny_pure (hQ _ s.toks fun _ => .bool _)
  · exact fun _ _ _ => hQ _ _ fun _ => .int _ _
  · exact fun _ _ _ => hQ _ _ fun _ => .str _ _

theorem pairs_ok {g : Gl} {env : Env} {A : Around} {pos : Pos} : ∀ (ks : List (Str × Pos)) (es : AEs) {nm : List Str} {m : Loc} {Q : List PV → AHeap → Prop} {X : XPost} {s : Shared} {QQ : List (Value × Value) → Shared → Prop} {E : Value → Shared → Prop}, es.lits = true → ks.length = es.len →
    awpL g es Q X m H → (∀ prs tk kvs ps, Carries cx.sk prs kvs → kvs.map (·.1) = ks.map (·.1) → (∀ h, RepL cx h (kvs.map (·.2)) ps) → Q ps H → QQ prs { s with toks := tk }) →
    wpAny cx.M A (evalPairs (pairTrees (ks.map fun x => some (.Constant (.str x.1) 0 x.2)) (es.toEs nm) env pos)) QQ E s
  | [], .nil, _, _, _, _, s, _, _, _, _, h, hQ => pairTrees_nil_walk (hQ [] s.toks [] [] trivial rfl (fun _ => .nil) h)
  | [], .cons _ _, _, _, _, _, _, _, _, _, hl, _, _ => by simp [AEs.len] at hl
  | _ :: _, .nil, _, _, _, _, _, _, _, _, hl, _, _ => by simp [AEs.len] at hl
  | k :: ks, .cons e es, nm, m, Q, X, s, QQ, E, hlit, hl, h, hQ => by
    obtain ⟨c, kk, pp, rfl⟩ : ∃ c kk pp, e = .lit c kk pp := by
      cases e with
      | lit c kk pp => exact ⟨c, kk, pp, rfl⟩
      | _ => simp [AEs.lits] at hlit
    have hlit' : es.lits = true := hlit
    have hw : litW c (fun v H => awpL g es (fun vs H => Q (v :: vs) H) X m H) H := h
    obtain ⟨v, hv, hw⟩ := litW_iff hw
    refine pairTrees_cons_walk ?_
    refine Constant_str ?_
    refine lit_ok hv fun y tk ry => ?_
    refine pairs_ok ks es hlit' (by simpa [AEs.len] using hl) hw fun prs tk' kvs ps c1 c2 c3 c4 => ?_
    refine hQ _ tk' ((k.1, y) :: kvs) (v :: ps) ⟨by simp [Cx.sk, PySem.strKind, Value.isStrOf], rfl, c1⟩ (by simp [c2]) (fun h => .cons (ry h) (c3 h)) c4

theorem merged_rep {h : Heap} : ∀ {kvs : List (Str × Value)} {ks : List Str} {ps : List PV} {acc : List (Str × Value)} {pcc : List (Str × PV)}, kvs.map (·.1) = ks → RepL cx h (kvs.map (·.2)) ps → RepK cx h acc pcc →
    RepK cx h (merged acc kvs) ((ks.zip ps).foldl (fun d p => dset d p.1 p.2) pcc)
  | [], _, _, _, _, rfl, .nil, r => r
  | (k, v) :: kvs, _, _, acc, pcc, rfl, .cons a rs, r => by
    simp only [List.map_cons, List.zip_cons_cons, List.foldl_cons]
    exact merged_rep (acc := stored acc k v) rfl rs (r.dset a)
theorem dictOf_len (ks : List Str) (ps : List PV) : (dictOf ks ps).length ≤ ks.length := by
  unfold dictOf
  have : ∀ (l : List (Str × PV)) (acc : List (Str × PV)), (l.foldl (fun d p => dset d p.1 p.2) acc).length ≤ acc.length + l.length := by
    intro l
    induction l with
    | nil => intro acc; simp
    | cons a l ih =>
      intro acc
      have h1 := ih (dset acc a.1 a.2)
      have h2 := dset_length_le acc a.1 a.2
      simp only [List.foldl_cons, List.length_cons]
      omega
  have h := this (ks.zip ps) []
  have : (ks.zip ps).length ≤ ks.length := by simp [List.length_zip]; exact Nat.min_le_left _ _
  simp at h; simp at this; omega

theorem dict_ok {g : Gl} {ks : List (Str × Pos)} {es : AEs} {pos : Pos} (hm : ∃ a o, sysModules < a ∧ cx.B.get? a = some o) (hlit : es.lits = true) (hl : ks.length = es.len) (hn : es.len ≤ 15) (t : St cx F m H s.heap)
    (h : awpL g es (fun vs H => alloc (.dict (dictOf (ks.map (·.1)) vs)) Q H) X m H) :
    Ev (Rep cx) cx F (eval (.Dict (ks.map fun x => some (.Constant (.str x.1) 0 x.2)) (es.toEs F.nm) pos) F.env) m H s Q X := by
  have hL : LIM = 1048576 := rfl
  have lenE : ∀ es : AEs, (es.toEs F.nm).length = es.len := fun es => by
    have : ∀ k (es : AEs), es.len = k → (es.toEs F.nm).length = k := by
      intro k
      induction k with
      | zero => intro es h; cases es <;> simp_all [AEs.len, AEs.toEs]
      | succ k ih => intro es h; cases es <;> simp_all [AEs.len, AEs.toEs]
    exact this _ es rfl
  have fr := get_size_none s.heap
  have nm : (s.heap.objs.size == sysModules) = false := by
    obtain ⟨a, o, la, e⟩ := hm
    have := Heap.lt_size (t.base _ _ e)
    simp only [beq_eq_false_iff_ne]
    intro q; rw [← q] at la; exact absurd (Nat.lt_trans la this) (Nat.lt_irrefl _)
  cases ks with
  | nil =>
    cases es with
    | cons _ _ => simp [AEs.len] at hl
    | nil =>
      refine wpAny_Dict_empty (M := cx.M) ?_
      refine .alloc (tk := s.toks) (a := s.heap.objs.size) push_keeps fr (.obj _) ?_ t (alloc_use h (t.heap.fresh fr))
      exact ⟨[], Heap.DictOf.new _, .nil, by simp [dictOf], nm⟩
  | cons k ks =>
    refine wpAny_Dict_walk (knd := cx.sk) (by simp) (by rw [lenE]; simpa using hl) (by simp) (by rw [List.length_map]; omega) ?_
    refine pairs_ok (H := H) (cx := cx) (k :: ks) es hlit hl h fun prs tk kvs ps c1 c2 c3 c4 => ?_
    have hD : (s.heap.push { cls := .type "dict", data := .dict #[] }).DictOf cx.sk s.heap.objs.size [] := Heap.DictOf.new _
    refine ⟨kvs, c1, hD, fun h' hm' sb => ?_⟩
    have keep : ∀ b o, s.heap.get? b = some o → h'.get? b = some o := fun b o e => by
      rw [sb.2 b (by rintro rfl; rw [fr] at e; cases e)]; exact push_keeps b o e
    have hk2 : kvs.length = ks.length + 1 := by have := congrArg List.length c2; simpa using this
    refine .alloc (a := s.heap.objs.size) keep fr (.obj _) ?_ t (alloc_use c4 (t.heap.fresh fr))
    refine ⟨_, hm', ?_, ?_, nm⟩
    · exact merged_rep c2 (c3 _) .nil
    · have := dictOf_len ((k :: ks).map (·.1)) ps
      simp only [List.length_map] at this
      simp only [List.length_cons] at this hl
      omega
end
end Mine
end
section
open PySem PySem.Calls PyProof.Rows
namespace Mine
set_option autoImplicit false

section
variable {cx : Cx} {g : Gl} {fl : List Str} {mg mb : Str → Option Value} {n : Nat}

theorem St.ns_g {F : Fm} {m : Loc} {H : AHeap} {h : Heap} {a : Addr} {mm : Str → Option Value} (t : St cx F m H h) (x : cx.B.Ns a mm) : h.Ns a mm := x.keeps t.base

theorem glob_ok {F : Fm} {kd : Kd} {q : Bool} {m : Loc} {H : AHeap} {s : Shared} {x : Str} {p : Pos} {v : Value} {QQ : Value → Shared → Prop} {E : Value → Shared → Prop} (fo : Fok cx n q kd F) (gk : isGlob kd x = true) (t : St cx F m H s.heap) (gns : cx.B.Ns cx.ga mg)
    (hv : mg x = some v) (hQ : QQ v s) : wpAny cx.M F.A (eval (.Name x p) F.env) QQ E s := by
  unfold isGlob at gk
  simp only [Bool.and_eq_true, beq_iff_eq, Bool.not_eq_true'] at gk
  refine Name_function_global fo.kind (by rw [fo.kdo]; exact gk.1) ?_ gk.2
  exact loadGlobal_global (by rw [fo.glob]; exact t.ns_g gns) hv hQ
theorem bglob_ok {F : Fm} {kd : Kd} {q : Bool} {m : Loc} {H : AHeap} {s : Shared} {x : Str} {p : Pos} {v : Value} {QQ : Value → Shared → Prop} {E : Value → Shared → Prop} (fo : Fok cx n q kd F) (gk : isGlob kd x = true) (t : St cx F m H s.heap) (gns : cx.B.Ns cx.ga mg) (bns : cx.B.Ns cx.ba mb)
    (hm : mg x = none) (hv : mb x = some v) (hQ : QQ v s) : wpAny cx.M F.A (eval (.Name x p) F.env) QQ E s := by
  unfold isGlob at gk
  simp only [Bool.and_eq_true, beq_iff_eq, Bool.not_eq_true'] at gk
  refine Name_function_global fo.kind (by rw [fo.kdo]; exact gk.1) ?_ gk.2
  exact loadGlobal_builtin (by rw [fo.glob]; exact t.ns_g gns) hm (by rw [fo.bltn]; exact t.ns_g bns) hv hQ

theorem var_ok {F : Fm} {kd : Kd} {q : Bool} {m : Loc} {H : AHeap} {s : Shared} {i : Nat} {p : Pos} {Q : Post} {X : XPost} (fo : Fok cx n q kd F) (hv : F.vis i = true) (hk : isVar kd (slot F.nm i) = true) (hd : (slot F.nm i == ("__debug__" : Str)) = false) (hcd : (slot F.nm i == ("__classdict__" : Str)) = false)
    (t : St cx F m H s.heap) (h : varW (m.getD i none) Q H) : Ev (Rep cx) cx F (eval (.Name (slot F.nm i) p) F.env) m H s Q X := by
  unfold varW at h
  split at h
  · rename_i v hm
    refine wpAny_Name ?_ hd
    unfold isVar at hk
    simp only [Bool.or_eq_true, beq_iff_eq] at hk
    have cellCase : F.env.kindOf (slot F.nm i) ≠ some .local → ∀ c, F.env.cells.lookup (slot F.nm i) = some c → ∃ y, s.heap.IsCell c (some y) ∧ Rep cx s.heap y v := fun nl c hc => by
      obtain ⟨_, _, o, x, ho, hd, hv'⟩ := t.cells _ c hc
      obtain ⟨y, rfl, r⟩ := hv' i v hv rfl nl hm
      exact ⟨y, ⟨o, ho, hd⟩, r⟩
    rcases hk with (hk | hk) | hk
    · obtain ⟨o, es, ep, mc, ho, hd, ns, hv'⟩ := t.vars
      have hl : F.env.kindOf (slot F.nm i) = some .local := by rw [fo.kdo]; exact hk
      obtain ⟨x, hx, r⟩ := hv' i v hv hl hm
      exact wpAny_loadName_local fo.kind hl ns hx (.toks s.toks r t h)
    · have hl : F.env.kindOf (slot F.nm i) = some .cell := by rw [fo.kdo]; exact hk
      obtain ⟨c, hc⟩ := fo.cells _ (.inl hk)
      obtain ⟨y, hy, r⟩ := cellCase (by rw [hl]; decide) c hc
      exact wpAny_loadName_cell fo.kind hl hc hy (.toks s.toks r t h)
    · have hl : F.env.kindOf (slot F.nm i) = some .free := by rw [fo.kdo]; exact hk
      obtain ⟨c, hc⟩ := fo.cells _ (.inr hk)
      obtain ⟨y, hy, r⟩ := cellCase (by rw [hl]; decide) c hc
      exact wpAny_loadName_free fo.kind hl hc hy (.toks s.toks r t h) hcd
  · exact h.elim

noncomputable def semL (nm : List Str) (env : Env) : AEs → List (Bool × Sem Value)
  | .nil => []
  | .cons e es => (false, eval (e.toE nm) env) :: semL nm env es
theorem starEach_toEs (nm : List Str) (env : Env) : ∀ es : AEs, starEach (es.toEs nm) env = semL nm env es
  | .nil => rfl
  | .cons e es => by
    show starEach (e.toE nm :: es.toEs nm) env = _
    rw [show starEach (e.toE nm :: es.toEs nm) env = (false, eval (e.toE nm) env) :: starEach (es.toEs nm) env by cases e <;> rfl, starEach_toEs nm env es]
    rfl
theorem backTo_sem (nm : List Str) (env : Env) (pos : Pos) : ∀ es : AEs, backTo pos (semL nm env es) = semL nm env es
  | .nil => rfl
  | .cons e es => by
    have := backTo_sem nm env pos es
    unfold backTo at this ⊢
    simp only [semL, List.map_cons, this]
    rfl
theorem semL_plain (nm : List Str) (env : Env) : ∀ es : AEs, ∀ x ∈ semL nm env es, x.1 = false
  | .nil, x, h => by simp [semL] at h
  | .cons e es, x, h => by
    rcases List.mem_cons.mp h with rfl | h
    · rfl
    · exact semL_plain nm env es x h
theorem len_toEs (nm : List Str) : ∀ es : AEs, (es.toEs nm).length = es.len
  | .nil => rfl
  | .cons e es => by simp [AEs.toEs, AEs.len, len_toEs nm es]
theorem folded_ok (nm : List Str) (env : Env) (e : AE) (x : Value) : foldedSetIterable (e.toE nm) env x = pure x := by cases e <;> rfl
theorem marked_ok (nm : List Str) (o : CmpOp) (e : AE) (t : Sem Value) : markedBehindIn o (e.toE nm) t = t := by cases e <;> rfl
theorem isTrue_plain (nm : List Str) (env : Env) (e : AE) (w : Sem Value) (h1 : ∀ x p, e ≠ .not x p) (h2 : ∀ o es p, e ≠ .bop o es p) (h3 : ∀ l o r p, e ≠ .cmp l o r p) :
    isTrue (e.toE nm) env w = (do let v ← w; standAt (e.toE nm).pos; holding [v] (truthy v)) := by
  cases e with
  | not x p => exact absurd rfl (h1 x p)
  | bop o es p => exact absurd rfl (h2 o es p)
  | cmp l o r p => exact absurd rfl (h3 l o r p)
  | _ => rfl
theorem subscripted_plain (nm : List Str) (e : AE) : ∀ o i, subscripted (e.toE nm) false o i = operate [o, i] (getItem o i) := fun _ _ => by cases e <;> rfl
theorem base_ok (nm : List Str) (env : Env) (e : AE) (a : Str) (w : Sem Value) (h : blbase e = true) : attributeBase (e.toE nm) a env w = w := by
  cases e with
  | call f es pf p =>
    cases es with
    | nil => simp [blbase] at h
    | cons e es => rfl
  | blt b es pf p =>
    cases es with
    | nil => simp [blbase] at h
    | cons e es => rfl
  | _ => rfl
end
end Mine
end
section
open PySem PySem.Calls PyProof.Rows
namespace Mine
set_option autoImplicit false

section
variable {cx : Cx} {g : Gl} {fl : List Str} {mg mb : Str → Option Value} {n : Nat}

/-- carry a value over a later step -/
theorem Ev.two {F : Fm} {m : Loc} {H : AHeap} {s : Shared} {X : XPost} {Q : Post} {α : Type} {β : Type} {R : Heap → α → β → Prop} {QQ : β → AHeap → Prop} {t : Sem α} {f : α → Sem Value}
    (h : Ev R cx F t m H s QQ X) (k : ∀ a b s₁ H₁, R s₁.heap a b → St cx F m H₁ s₁.heap → (∀ x o, s.heap.get? x = some o → Solid o → s₁.heap.get? x = some o) → QQ b H₁ → Ev (Rep cx) cx F (f a) m H₁ s₁ Q X) (t₀ : St cx F m H s.heap) :
    Ev (Rep cx) cx F (t >>= f) m H s Q X := Ev.bind h fun a b s₁ H₁ r st kp q => k a b s₁ H₁ r st (kp.solid0 t₀.heap) q

theorem Ev.mono_rep {F : Fm} {m : Loc} {H : AHeap} {s : Shared} {X : XPost} {Q : BPost} {t : Sem Value} (h : Ev IsB cx F t m H s Q X) : Ev (Rep cx) cx F t m H s (fun v H => ∃ b, v = .bool b ∧ Q b H) X :=
  wpAny_mono h (fun _ _ ⟨b, H', r, st, k, q⟩ => ⟨.bool b, H', by subst r; exact .bool b, st, k, b, rfl, q⟩) fun _ _ e => e
theorem Ev.weaken {α β : Type} {R : Heap → α → β → Prop} {F : Fm} {m : Loc} {H : AHeap} {s : Shared} {X : XPost} {Q Q' : β → AHeap → Prop} {t : Sem α} (h : Ev R cx F t m H s Q X) (k : ∀ b H, Q b H → Q' b H) : Ev R cx F t m H s Q' X :=
  wpAny_mono h (fun _ _ ⟨b, H', r, st, kp, q⟩ => ⟨b, H', r, st, kp, k b H' q⟩) fun _ _ e => e

theorem meth_case {F : Fm} {m : Loc} {H : AHeap} {s : Shared} {Q : Post} {X : XPost} {k : Meth} {o : AE} {es : AEs} {pa p : Pos}
    (hline : (pa.endLine == p.line) = true) (hlen : es.len ≤ 3) (hb : blbase o = true)
    (ho : Ev (Rep cx) cx F (eval (o.toE F.nm) F.env) m H s (fun v H => recvW k v H ∧ awpL g es (fun vs H => methW k v vs Q H) X m H) X)
    (hes : ∀ {H : AHeap} {s : Shared} {QQ : List PV → AHeap → Prop}, St cx F m H s.heap → awpL g es QQ X m H → Ev (RepLs cx es.len) cx F (spliced (semL F.nm F.env es)) m H s QQ X) :
    Ev (Rep cx) cx F (eval (.Call (.Attribute (o.toE F.nm) k.name pa) (es.toEs F.nm) [] p) F.env) m H s Q X := by
  have hst : backTo p (starEach (es.toEs F.nm) F.env) = semL F.nm F.env es := by rw [starEach_toEs, backTo_sem]
  refine wpAny_Call_method_late (trees := semL F.nm F.env es) (base_ok _ _ _ _ _ hb) ?_ hline hst ?_
  · rw [hst]
    have : (semL F.nm F.env es).all (fun x => !x.1) = true := List.all_eq_true.mpr fun x hx => by rw [semL_plain _ _ _ x hx]; rfl
    rw [this, len_toEs]
    simp only [List.length_nil, List.isEmpty_nil, if_true]
    have : decide (es.len + 0 + 0 < 30) = true := by simp; omega
    rw [this]; rfl
  · refine wpAny_mono ho (fun ov s₁ h₁ => ?_) fun _ _ e => e
    obtain ⟨v, H₁, rv, t₁, k₁, hr, hw⟩ := h₁
    have fin : wpAny cx.M F.A (callWith p (.builtin k.id) [ov] (semL F.nm F.env es) []) (OkG (Rep cx) cx F m H s Q) (ErP cx F m H s X) s₁ := by
      refine callWith_builtin ?_ ?_
      · rw [List.any_eq_false]; intro x hx; rw [semL_plain _ _ _ x hx]; decide
      · refine wpAny_mono (args_sem (semL_plain _ _ _) (hes t₁ hw) (QQ := fun a s₂ => wpAny cx.M F.A (call (.builtin k.id) ([ov] ++ a.pos) a.kw) (OkG (Rep cx) cx F m H s Q) (ErP cx F m H s X) s₂) fun vs s₂ h₂ => ?_) (fun _ _ h => h) fun _ _ e => e.older k₁
        obtain ⟨ps, H₂, rs, t₂, k₂, hm⟩ := h₂
        exact Ev.older (k₁.trans k₂) (meth_ok (rv.mono (k₂.solid0 t₁.heap)) rs.1 t₂ hm)
    have lcase : ∀ {a : Addr} {xs : List PV}, v = .obj a → H₁ a = some (.list xs) → s₁.TypeIs ov "list" ∧ ∀ b, ov = .ref b → ∃ ob, s₁.heap.get? b = some ob ∧ ob.dict = none := fun {a xs} e ha => by
      subst e
      (first | (obtain ⟨_, rfl⟩ := Rep.intI rv) | (obtain ⟨_, rfl⟩ := Rep.strI rv) | (obtain rfl := Rep.objI rv) | (obtain rfl := Rep.boolI rv) | (obtain rfl := Rep.noneI rv))
      obtain ⟨items, nn, gg, _⟩ := t₁.list ha
      exact ⟨⟨_, gg, rfl⟩, fun b e => by cases e; exact ⟨_, gg, rfl⟩⟩
    unfold recvW at hr
    split at hr
    · obtain ⟨xs, ha⟩ := hr
      have := lcase rfl ha
      exact ⟨"list", _, PySem.F.plainAttrs_list, PySem.F.slot_list_append, PySem.F.type_list_append, this.1, this.2, fin⟩
    · obtain ⟨xs, ha⟩ := hr
      have := lcase rfl ha
      exact ⟨"list", _, PySem.F.plainAttrs_list, PySem.F.slot_list_pop, PySem.F.type_list_pop, this.1, this.2, fin⟩
    · obtain ⟨xs, ha⟩ := hr
      have := lcase rfl ha
      exact ⟨"list", _, PySem.F.plainAttrs_list, PySem.F.slot_list_insert, PySem.F.type_list_insert, this.1, this.2, fin⟩
    · obtain ⟨xs, ha⟩ := hr
      have := lcase rfl ha
      exact ⟨"list", _, PySem.F.plainAttrs_list, PySem.F.slot_list_count, PySem.F.type_list_count, this.1, this.2, fin⟩
    · obtain ⟨xs, ha⟩ := hr
      (first | (obtain ⟨_, rfl⟩ := Rep.intI rv) | (obtain ⟨_, rfl⟩ := Rep.strI rv) | (obtain rfl := Rep.objI rv) | (obtain rfl := Rep.boolI rv) | (obtain rfl := Rep.noneI rv))
      obtain ⟨vs, ⟨o, es, ep, gg, ⟨hc, hd, _⟩, _⟩, _⟩ := t₁.dict ha
      exact ⟨"dict", _, PySem.F.plainAttrs_dict, PySem.F.slot_dict_pop, PySem.F.type_dict_pop, ⟨_, gg, hc⟩, fun b e => by cases e; exact ⟨_, gg, hd⟩, fin⟩
    · obtain ⟨u, rfl⟩ := rv.strI
      exact ⟨"str", _, PySem.F.plainAttrs_str, PySem.F.slot_str_join, PySem.F.type_str_join, typeIs_str _ _ _, (fun _ e => nomatch e), fin⟩
    · exact hr.elim

variable (ck : Cok cx g fl mg mb n)
include ck

theorem call_case {F : Fm} {kd : Kd} {m : Loc} {H : AHeap} {s : Shared} {Q : Post} {X : XPost} {f : Str} {es : AEs} {pf p : Pos} (fo : Fok cx n true kd F) (t : St cx F m H s.heap)
    (hg : isGlob kd f = true) (hf : fl.contains f = true) (hw : awpL g es (fun vs H => g.C f vs H Q X) X m H)
    (hes : ∀ {H : AHeap} {s : Shared} {QQ : List PV → AHeap → Prop}, St cx F m H s.heap → awpL g es QQ X m H → Ev (RepLs cx es.len) cx F (spliced (semL F.nm F.env es)) m H s QQ X) :
    Ev (Rep cx) cx F (eval (.Call (.Name f pf) (es.toEs F.nm) [] p) F.env) m H s Q X := by
  obtain ⟨a, o, fd, hm, ho, hd⟩ := ck.fns f hf
  unfold Ev
  rw [arm_eval_Call_Name', starEach_toEs, backTo_sem]
  refine wpAny_bind (glob_ok fo hg t ck.gns hm ?_)
  refine callWith_function (o := o) (fd := fd) (first := []) ?_
  refine args_sem (semL_plain _ _ _) (hes t hw) fun vs s₂ h₂ => ?_
  obtain ⟨ps, H₂, rs, t₂, k₂, hc⟩ := h₂
  exact ⟨⟨t₂.base _ _ ho, hd⟩, Ev.older k₂ (ck.calls f hf hc fo hm rs.1 t₂)⟩

theorem blt_case {F : Fm} {kd : Kd} {q : Bool} {m : Loc} {H : AHeap} {s : Shared} {Q : Post} {X : XPost} {b : Blt} {es : AEs} {pf p : Pos} (fo : Fok cx n q kd F) (t : St cx F m H s.heap) (hh : F.A.handled = none)
    (hg : isGlob kd b.name = true) (hw : awpL g es (fun vs H => bltW b vs Q H) X m H)
    (hes : ∀ {H : AHeap} {s : Shared} {QQ : List PV → AHeap → Prop}, St cx F m H s.heap → awpL g es QQ X m H → Ev (RepLs cx es.len) cx F (spliced (semL F.nm F.env es)) m H s QQ X) :
    Ev (Rep cx) cx F (eval (.Call (.Name b.name pf) (es.toEs F.nm) [] p) F.env) m H s Q X := by
  obtain ⟨h1, h2⟩ := ck.blts b
  unfold Ev
  rw [arm_eval_Call_Name', starEach_toEs, backTo_sem]
  refine wpAny_bind (bglob_ok fo hg t ck.gns ck.bns h1 h2 ?_)
  have hany : (semL F.nm F.env es).any (·.1) = false := by rw [List.any_eq_false]; intro x hx; rw [semL_plain _ _ _ x hx]; decide
  have key : ∀ {f : Value}, f = b.val → wpAny cx.M F.A (evalArgs f true (semL F.nm F.env es) []) (fun a s₁ => wpAny cx.M F.A (call f ([] ++ a.pos) a.kw) (OkG (Rep cx) cx F m H s Q) (ErP cx F m H s X) s₁) (ErP cx F m H s X) s := by
    rintro f rfl
    refine args_sem (semL_plain _ _ _) (hes t hw) fun vs s₂ h₂ => ?_
    obtain ⟨ps, H₂, rs, t₂, k₂, hc⟩ := h₂
    exact Ev.older k₂ (blt_ok hh rs.1 t₂ hc)
  have hk := key rfl
  have hb : (∃ id, b.val = .builtin id) ∨ ∃ T, b.val = .type T := by cases b <;> first | exact .inl ⟨_, rfl⟩ | exact .inr ⟨_, rfl⟩
  generalize b.val = f at hk hb ⊢
  rcases hb with ⟨id, rfl⟩ | ⟨T, rfl⟩
  · exact callWith_builtin hany hk
  · exact PySem.callWith_type hany hk
end
end Mine
end
section
open PySem PySem.Calls PyProof.Rows
namespace Mine
set_option autoImplicit false
set_option linter.unusedSectionVars false
set_option linter.unusedVariables false

section
variable {cx : Cx} {g : Gl} {fl : List Str} {mg mb : Str → Option Value} {n : Nat}
variable (ck : Cok cx g fl mg mb n)

theorem tup_made {F : Fm} {m : Loc} {H : AHeap} {s : Shared} {vs : List Value} {ps : List PV} {Q : Post} {X : XPost} (r : RepL cx s.heap vs ps) (l : ps.length ≤ LIM) (t : St cx F m H s.heap) (h : Q (.tup ps) H) : Ev (Rep cx) cx F (newTuple vs) m H s Q X := by
  have hl := r.length
  have := LIM_le
  refine wpAny_newTuple ?_ (by omega)
  exact new_tup (tk := s.toks) (c := 0) t push_keeps (Heap.get?_push_size _ rfl) (by simpa using r) l h
theorem list_made {F : Fm} {m : Loc} {H : AHeap} {s : Shared} {vs : List Value} {ps : List PV} {Q : Post} {X : XPost} (r : RepL cx s.heap vs ps) (l : ps.length ≤ LIM) (t : St cx F m H s.heap) (h : alloc (.list ps) Q H) : Ev (Rep cx) cx F (newList vs) m H s Q X := by
  have hl := r.length
  have := LIM_le
  refine wpAny_newList ?_ (by omega)
  exact new_list (tk := s.toks) (c := 0) t push_keeps (get_size_none _) (Heap.get?_push_size _ rfl) (by simpa using r) l h

theorem truth_ok {F : Fm} {m : Loc} {H : AHeap} {s : Shared} {v : Value} {p : PV} {Q : BPost} {X : XPost} (r : Rep cx s.heap v p) (t : St cx F m H s.heap) (h : truthW p fun b => Q b H) : Ev IsBB cx F (truthy v) m H s Q X := by
  unfold truthW at h
  split at h
  · (first | (obtain ⟨_, rfl⟩ := Rep.intI r) | (obtain ⟨_, rfl⟩ := Rep.strI r) | (obtain rfl := Rep.objI r) | (obtain rfl := Rep.boolI r) | (obtain rfl := Rep.noneI r)); exact wpAny_truthy_bool (.toks s.toks rfl t h)
  · exact h.elim
theorem neg_ok {F : Fm} {m : Loc} {H : AHeap} {s : Shared} {i : Int} {u : Tok} {Q : Post} {X : XPost} (t : St cx F m H s.heap) (h : Q (.int (-i)) H) : Ev (Rep cx) cx F (unaryOp .USub (.int i u)) m H s Q X :=
  PyProof.Rows.neg_int (.toks _ (.int _ _) t h)
theorem not_ok {F : Fm} {m : Loc} {H : AHeap} {s : Shared} {b : Bool} {Q : Post} {X : XPost} (t : St cx F m H s.heap) (h : Q (.bool (!b)) H) : Ev (Rep cx) cx F (unaryOp .Not (.bool b)) m H s Q X :=
  PyProof.Rows.not_of (wpAny_truthy_bool (.toks s.toks (.bool _) t h))
theorem soundW {F : Fm} {m : Loc} {H : AHeap} {s : Shared} {Q : BPost} {X : XPost} (e : AE) (h1 : ∀ x p, e ≠ .not x p) (h2 : ∀ o es p, e ≠ .bop o es p) (h3 : ∀ l o r p, e ≠ .cmp l o r p)
    (h : Ev (Rep cx) cx F (eval (e.toE F.nm) F.env) m H s (fun v H => truthW v fun b => Q b H) X) : Ev IsBB cx F (isTrue (e.toE F.nm) F.env (eval (e.toE F.nm) F.env)) m H s Q X := by
  rw [isTrue_plain _ _ _ _ h1 h2 h3]
  exact Ev.bind h fun a pa s₁ H₁ ra t₁ k₁ h₁ => Ev.stand (Ev.holding (truth_ok ra t₁ h₁))

noncomputable def evalEachL (nm : List Str) (env : Env) : AEs → List (Sem Value)
  | .nil => []
  | .cons e es => eval (e.toE nm) env :: evalEachL nm env es
theorem evalEach_toEs (nm : List Str) (env : Env) : ∀ es : AEs, evalEach (es.toEs nm) env = evalEachL nm env es
  | .nil => rfl
  | .cons e es => by
    show eval (e.toE nm) env :: evalEach (es.toEs nm) env = _
    rw [evalEach_toEs nm env es]; rfl

include ck
theorem isi_case {F : Fm} {kd : Kd} {q : Bool} {m : Loc} {H : AHeap} {s : Shared} {Q : Post} {X : XPost} {e : AE} {c : ICls} {pf p1 p2 p3 p : Pos} (fo : Fok cx n q kd F) (hi : isGlob kd "isinstance" = true) (hc : iclsOk kd c = true) (t : St cx F m H s.heap)
    (h : Ev (Rep cx) cx F (eval (e.toE F.nm) F.env) m H s (fun v H => isiW c v (fun b => Q (.bool b) H) H) X) : Ev (Rep cx) cx F (eval ((AE.isi e c pf p1 p2 p3 p).toE F.nm) F.env) m H s Q X := by
  have hst : starEach [e.toE F.nm, c.expr p1 p2 p3] F.env = [(false, eval (e.toE F.nm) F.env), (false, eval (c.expr p1 p2 p3) F.env)] := by
    have h1 : ∀ r, starEach (e.toE F.nm :: r) F.env = (false, eval (e.toE F.nm) F.env) :: starEach r F.env := fun r => by cases e <;> rfl
    rw [h1]
    cases c <;> rfl
  show wpAny cx.M F.A (eval (.Call (.Name "isinstance" pf) [e.toE F.nm, c.expr p1 p2 p3] [] p) F.env) _ _ s
  rw [arm_eval_Call_Name', hst]
  refine wpAny_bind (bglob_ok fo hi t ck.gns ck.bns ck.isi.1 ck.isi.2 ?_)
  refine callWith_builtin rfl (evalArgs_plain (spliced_cons (wpAny_mono h (fun v s₁ h₁ => ?_) fun _ _ e => e)))
  obtain ⟨pv, H₁, rv, t₁, k₁, h₁⟩ := h₁
  have bt : ∀ (T : String) {cc : ICls}, T ∈ ["str", "list", "tuple", "bool", "int", "ValueError"] → isGlob kd (Str.ofString T) = true → cc.T = some T → isiT cc pv (fun b => Q (.bool b) H₁) H₁ →
      wpAny cx.M F.A (spliced [(false, eval (.Name (Str.ofString T) p1) F.env)]) (fun vs s₂ => wpAny cx.M F.A (call (.builtin "isinstance") ([] ++ v :: vs) []) (OkG (Rep cx) cx F m H s Q) (ErP cx F m H s X) s₂) (ErP cx F m H s X) s₁ := fun T cc hT hg hcc hw => by
    refine spliced_cons (bglob_ok fo hg t₁ ck.gns ck.bns (ck.bty T hT).1 (ck.bty T hT).2 (spliced_nil ?_))
    exact Ev.older k₁ (isi_ok hcc rv t₁ hw)
  cases c with
  | str => exact bt "str" (cc := .str) (by decide) hc rfl h₁
  | list => exact bt "list" (cc := .list) (by decide) hc rfl h₁
  | tuple => exact bt "tuple" (cc := .tuple) (by decide) hc rfl h₁
  | bool => exact bt "bool" (cc := .bool) (by decide) hc rfl h₁
  | int => exact bt "int" (cc := .int) (by decide) hc rfl h₁
  | intstr => exact h₁.elim
  | value =>
    have h₂ := h₁
    unfold isiW at h₂
    simp only at h₂
    split at h₂
    · refine spliced_cons (bglob_ok fo hc t₁ ck.gns ck.bns (ck.bty "ValueError" (by decide)).1 (ck.bty "ValueError" (by decide)).2 (spliced_nil ?_))
      exact Ev.older k₁ (ck.isv rv t₁ h₂)
    · exact h₂.elim
  | own j x =>
    have h₂ := h₁
    unfold isiW at h₂
    simp only at h₂
    simp only [iclsOk, Bool.and_eq_true, beq_iff_eq] at hc
    obtain ⟨C, h3, h4⟩ := ck.own x j hc.2
    split at h₂
    · refine spliced_cons (glob_ok fo hc.1 t₁ ck.gns h4 (spliced_nil ?_))
      exact Ev.older k₁ (ck.isx rv t₁ h3 h₂)
    · exact h₂.elim

mutual
theorem soundE : ∀ (e : AE) {F : Fm} {kd : Kd} {q : Bool} {m : Loc} {H : AHeap} {s : Shared} {Q : Post} {X : XPost}, Fok cx n q kd F → okE fl F.nm q F.vis kd e = true → St cx F m H s.heap → awpE g e Q X m H →
    Ev (Rep cx) cx F (eval (e.toE F.nm) F.env) m H s Q X
  | .lit c k p, F, kd, q, m, H, s, Q, X, fo, ok, t, h => by
    obtain ⟨v, hv, h⟩ := litW_iff h
    exact lit_ok (cx := cx) hv fun x tk r => .toks tk (r _) t h
  | .var i p, F, kd, q, m, H, s, Q, X, fo, ok, t, h => by
    simp only [okE, Bool.and_eq_true, Bool.not_eq_true'] at ok
    exact var_ok fo ok.1.1.1 ok.1.1.2 ok.1.2 ok.2 t h
  | .glob x p, F, kd, q, m, H, s, Q, X, fo, ok, t, h => by
    have h' : varW (g.G x) Q H := h
    unfold varW at h'
    split at h'
    · rename_i v hv
      obtain ⟨w, hw, r⟩ := ck.consts x v hv
      exact glob_ok fo ok t ck.gns hw (.toks s.toks (r.mono fun b o e _ => t.base b o e) t h')
    · exact h'.elim
  | .bin l o r p, F, kd, q, m, H, s, Q, X, fo, ok, t, h => by
    simp only [okE, Bool.and_eq_true] at ok
    refine Ev.two (soundE l fo ok.1 t h) (fun a pa s₁ H₁ ra t₁ _ h₁ => ?_) t
    refine Ev.two (Ev.holding (soundE r fo ok.2 t₁ h₁)) (fun b pb s₂ H₂ rb t₂ so h₂ => ?_) t₁
    exact Ev.stand (wpAny_operating (bin_ok (ra.mono so) rb t₂ h₂))
  | .neg e p, F, kd, q, m, H, s, Q, X, fo, ok, t, h => by
    refine Ev.two (soundE e fo ok t h) (fun a pa s₁ H₁ ra t₁ _ h₁ => ?_) t
    refine Ev.stand (Ev.holding ?_)
    split at h₁
    · obtain ⟨u, rfl⟩ := ra.intI; exact neg_ok t₁ h₁
    · exact h₁.elim
  | .not e p, F, kd, q, m, H, s, Q, X, fo, ok, t, h => by
    refine Ev.two (soundE e fo ok t h) (fun a pa s₁ H₁ ra t₁ _ h₁ => ?_) t
    refine Ev.stand (Ev.holding ?_)
    unfold truthW at h₁
    split at h₁
    · cases ra; exact not_ok t₁ h₁
    · exact h₁.elim
  | .bop o es p, F, kd, q, m, H, s, Q, X, fo, ok, t, h => by
    show Ev (Rep cx) cx F (boolOp p o (evalEach (es.toEs F.nm) F.env)) m H s Q X
    rw [evalEach_toEs]
    exact soundV o p es fo ok t h
  | .cmp l o r p, F, kd, q, m, H, s, Q, X, fo, ok, t, h => by
    simp only [okE, Bool.and_eq_true] at ok
    refine Ev.two (soundE l fo ok.1 t h) (fun a pa s₁ H₁ ra t₁ _ h₁ => ?_) t
    show Ev (Rep cx) cx F (compareChain p a [o] [markedBehindIn o (r.toE F.nm) (eval (r.toE F.nm) F.env)]) m H₁ s₁ Q X
    rw [marked_ok]
    refine Ev.two (Ev.holding (soundE r fo ok.2 t₁ h₁)) (fun b pb s₂ H₂ rb t₂ so h₂ => ?_) t₁
    refine Ev.stand (wpAny_operating ?_)
    have hu := fo.units
    exact (Ev.mono_rep (cmp_ok (by omega) (ra.mono so) rb t₂ h₂)).weaken fun v H ⟨b, e, q⟩ => by subst e; exact q
  | .sub e i p, F, kd, q, m, H, s, Q, X, fo, ok, t, h => by
    simp only [okE, Bool.and_eq_true] at ok
    refine Ev.two (soundE e fo ok.1 t h) (fun a pa s₁ H₁ ra t₁ _ h₁ => ?_) t
    refine Ev.two (Ev.holding (soundE i fo ok.2 t₁ h₁)) (fun b pb s₂ H₂ rb t₂ so h₂ => ?_) t₁
    exact Ev.stand (sub_ok (subscripted_plain _ _) (ra.mono so) rb t₂ h₂)
  | .sfrom e i ps p, F, kd, q, m, H, s, Q, X, fo, ok, t, h => by
    simp only [okE, Bool.and_eq_true] at ok
    refine Subscript_ (wpAny_mono (soundE e fo ok.1 t h) (fun a s₁ h₁ => ?_) fun _ _ e => e)
    obtain ⟨pa, H₁, ra, t₁, k₁, h₁⟩ := h₁
    refine wpAny_bind (wpAny_mono (soundE i fo ok.2 t₁ h₁) (fun b s₂ h₂ => ?_) fun _ _ e => e.older k₁)
    obtain ⟨pb, H₂, rb, t₂, k₂, h₂⟩ := h₂
    refine wpAny_bind (wpAny_holding (wpAny_pure (wpAny_bind (wpAny_holding (wpAny_pure (wpAny_newObj_type ?_))))))
    exact Ev.older (((k₁.trans k₂)).trans (.grow (tk := s₂.toks) push_keeps fun _ _ _ e => e)) (sfrom_ok (fun _ _ => rfl) (ra.mono (k₂.solid0 t₁.heap)) rb t₂ h₂)
  | .sto e i ps p, F, kd, q, m, H, s, Q, X, fo, ok, t, h => by
    simp only [okE, Bool.and_eq_true] at ok
    refine Subscript_ (wpAny_mono (soundE e fo ok.1 t h) (fun a s₁ h₁ => ?_) fun _ _ e => e)
    obtain ⟨pa, H₁, ra, t₁, k₁, h₁⟩ := h₁
    refine wpAny_bind (wpAny_pure (wpAny_bind (wpAny_holding (wpAny_mono (soundE i fo ok.2 t₁ h₁) (fun b s₂ h₂ => ?_) fun _ _ e => e.older k₁))))
    obtain ⟨pb, H₂, rb, t₂, k₂, h₂⟩ := h₂
    refine wpAny_bind (wpAny_holding (wpAny_pure (wpAny_newObj_type ?_)))
    exact Ev.older (((k₁.trans k₂)).trans (.grow (tk := s₂.toks) push_keeps fun _ _ _ e => e)) (sto_ok (fun _ _ => rfl) (ra.mono (k₂.solid0 t₁.heap)) rb t₂ h₂)
  | .srev e c ps p cu, F, kd, q, m, H, s, Q, X, fo, ok, t, h => by simp [okE] at ok
  | .tup es k p, F, kd, q, m, H, s, Q, X, fo, ok, t, h => by
    simp only [okE, Bool.and_eq_true, decide_eq_true_eq] at ok
    show Ev (Rep cx) cx F (do standAt p; newTuple (← spliced (backTo p (starEach (es.toEs F.nm) F.env)))) m H s Q X
    rw [starEach_toEs, backTo_sem]
    refine Ev.stand (Ev.two (soundL es fo ok.1 t h) (fun a ps s₁ H₁ ra t₁ _ h₁ => ?_) t)
    have hL : LIM = 1048576 := rfl
    have hl := ra.2
    exact tup_made ra.1 (by omega) t₁ h₁
  | .list es p, F, kd, q, m, H, s, Q, X, fo, ok, t, h => by
    simp only [okE, Bool.and_eq_true, decide_eq_true_eq] at ok
    show Ev (Rep cx) cx F (do standAt p; newList (← spliced (backTo p (starEach (es.toEs F.nm) F.env)))) m H s Q X
    rw [starEach_toEs, backTo_sem]
    refine Ev.stand (Ev.two (soundL es fo ok.1 t h) (fun a ps s₁ H₁ ra t₁ _ h₁ => ?_) t)
    have hL : LIM = 1048576 := rfl
    have hl := ra.2
    exact list_made ra.1 (by omega) t₁ h₁
  | .tape pc p, F, kd, q, m, H, s, Q, X, fo, ok, t, h => by
    refine Ev.stand (f := fun _ => spliced [(false, eval (.Constant (.int 0) 0 pc) F.env)] >>= fun vs => newList vs) ?_
    refine wpAny_bind (spliced_cons (lit_ok (cx := cx) (v := .int 0) rfl fun x tk r => spliced_nil ?_))
    obtain ⟨u, rfl⟩ := (r s.heap).intI
    refine wpAny_newList ?_ (by rw [sizeLine_eq]; simp)
    have fr := get_size_none s.heap
    have ro : RepO cx (s.heap.push (lstObj #[.int 0 u] 0)) s.heap.objs.size (.tape 0) := ⟨u, 0, Heap.get?_push_size _ rfl⟩
    exact .alloc (a := s.heap.objs.size) push_keeps fr (.obj _) ro t (alloc_use h (t.heap.fresh fr))
  | .dict ks vs p, F, kd, q, m, H, s, Q, X, fo, ok, t, h => by
    simp only [okE, Bool.and_eq_true, decide_eq_true_eq] at ok
    exact dict_ok ck.mods ok.1.1 ok.1.2 ok.2 t h
  | .call f es pf p, F, kd, q, m, H, s, Q, X, fo, ok, t, h => by
    simp only [okE, Bool.and_eq_true] at ok
    obtain ⟨⟨⟨rfl, hg⟩, hf⟩, hes⟩ := ok
    exact call_case ck fo t hg hf h fun t' h' => soundL es fo hes t' h'
  | .blt b es pf p, F, kd, q, m, H, s, Q, X, fo, ok, t, h => by
    simp only [okE, Bool.and_eq_true] at ok
    exact blt_case ck fo t (fo.quiet ok.1.1) ok.1.2 h fun t' h' => soundL es fo ok.2 t' h'
  | .isi e c pf p1 p2 p3 p, F, kd, q, m, H, s, Q, X, fo, ok, t, h => by
    simp only [okE, Bool.and_eq_true] at ok
    exact isi_case ck fo ok.1.1 ok.1.2 t (soundE e fo ok.2 t h)
  | .meth o k es pa p, F, kd, q, m, H, s, Q, X, fo, ok, t, h => by
    simp only [okE, Bool.and_eq_true, decide_eq_true_eq] at ok
    exact meth_case ok.1.1.2 ok.1.2 ok.2 (soundE o fo ok.1.1.1.1 t h) fun t' h' => soundL es fo ok.1.1.1.2 t' h'
  | .umeth .., F, kd, q, m, H, s, Q, X, fo, ok, t, h => by simp [okE] at ok
  | .attr .., F, kd, q, m, H, s, Q, X, fo, ok, t, h => by simp [okE] at ok
  | .comp e x px it cs sc p, F, kd, q, m, H, s, Q, X, fo, ok, t, h => by
    simp only [okE, Bool.and_eq_true, decide_eq_true_eq] at ok
    obtain ⟨⟨⟨⟨⟨hit, hsc⟩, he⟩, hcs⟩, hlen⟩, rfl⟩ := ok
    refine comp_ok (aT := fun Q m H => awpC g cs Q (fun _ _ => False) m H) (aE := fun Q m H => awpE g e Q (fun _ _ => False) m H) fo hsc (soundE it fo hit t h) (fun {cl C m' H s Q} fo' t' h' => ?_) (fun {cl C m' H s Q} fo' t' h' => ?_) (folded_ok _ _ _)
    · exact soundC cs fo' hcs hlen t' h'
    · exact soundE e fo' he t' h'
theorem soundL : ∀ (es : AEs) {F : Fm} {kd : Kd} {q : Bool} {m : Loc} {H : AHeap} {s : Shared} {Q : List PV → AHeap → Prop} {X : XPost}, Fok cx n q kd F → okEs fl F.nm q F.vis kd es = true → St cx F m H s.heap → awpL g es Q X m H →
    Ev (RepLs cx es.len) cx F (spliced (semL F.nm F.env es)) m H s Q X
  | .nil, F, kd, q, m, H, s, Q, X, fo, ok, t, h => spliced_nil (.toks s.toks ⟨.nil, rfl⟩ t h)
  | .cons e es, F, kd, q, m, H, s, Q, X, fo, ok, t, h => by
    simp only [okEs, Bool.and_eq_true] at ok
    refine spliced_cons (wpAny_mono (soundE e fo ok.1 t h) (fun v s₁ h₁ => ?_) fun _ _ x => x)
    obtain ⟨pv, H₁, rv, t₁, k₁, h₁⟩ := h₁
    refine wpAny_mono (soundL es fo ok.2 t₁ h₁) (fun vs s₂ h₂ => ?_) fun _ _ x => x.older k₁
    obtain ⟨ps, H₂, rs, t₂, k₂, h₂⟩ := h₂
    exact ⟨pv :: ps, H₂, ⟨.cons (rv.mono (k₂.solid0 t₁.heap)) rs.1, by simp [AEs.len, rs.2]⟩, t₂, k₁.trans k₂, h₂⟩
theorem soundV : ∀ (o : BoolOp) (p : Pos) (es : AEs) {F : Fm} {kd : Kd} {q : Bool} {m : Loc} {H : AHeap} {s : Shared} {Q : Post} {X : XPost}, Fok cx n q kd F → okEs fl F.nm q F.vis kd es = true → St cx F m H s.heap → awpV g o es Q X m H →
    Ev (Rep cx) cx F (boolOp p o (evalEachL F.nm F.env es)) m H s Q X
  | _, _, .nil, _, _, _, _, _, _, _, _, _, _, _, h => by simp [awpV] at h
  | o, p, .cons e .nil, F, kd, q, m, H, s, Q, X, fo, ok, t, h => by
    simp only [okEs, Bool.and_eq_true] at ok
    have h' : awpE g e Q X m H := by simpa [awpV] using h
    exact soundE e fo ok.1 t h'
  | o, p, .cons e (.cons e' es), F, kd, q, m, H, s, Q, X, fo, ok, t, h => by
    simp only [okEs, Bool.and_eq_true] at ok
    have ok' : okEs fl F.nm q F.vis kd (.cons e' es) = true := by simp only [okEs, Bool.and_eq_true]; exact ok.2
    refine Ev.two (soundE e fo ok.1 t h) (fun a pa s₁ H₁ ra t₁ _ h₁ => ?_) t
    unfold truthW at h₁
    split at h₁
    · rename_i b
      cases ra
      refine Ev.stand (wpAny_bind (wpAny_holding (wpAny_truthy_bool ?_)))
      cases o <;> cases b
      · exact Ev.pure (.bool _) t₁ h₁
      · exact soundV .And p (.cons e' es) fo ok' t₁ h₁
      · exact soundV .Or p (.cons e' es) fo ok' t₁ h₁
      · exact Ev.pure (.bool _) t₁ h₁
    · exact h₁.elim
theorem soundB : ∀ (e : AE) {F : Fm} {kd : Kd} {q : Bool} {m : Loc} {H : AHeap} {s : Shared} {Q : BPost} {X : XPost}, Fok cx n q kd F → okE fl F.nm q F.vis kd e = true →
    (∀ {m : Loc} {H : AHeap} {s : Shared} {Q : Post} {X : XPost}, St cx F m H s.heap → awpE g e Q X m H → Ev (Rep cx) cx F (eval (e.toE F.nm) F.env) m H s Q X) → St cx F m H s.heap → awpB g e (awpE g e) Q X m H →
    Ev IsBB cx F (isTrue (e.toE F.nm) F.env (eval (e.toE F.nm) F.env)) m H s Q X
  | .not e p, F, kd, q, m, H, s, Q, X, fo, ok, hW, t, h => by
    refine Ev.bind (soundB e fo ok (fun t h => soundE e fo ok t h) t h) fun b b' s₁ H₁ rb t₁ k₁ h₁ => ?_
    have rb : b = b' := rb
    subst rb
    exact Ev.pure rfl t₁ h₁
  | .bop o es p, F, kd, q, m, H, s, Q, X, fo, ok, hW, t, h => soundBs o es fo ok t h
  | .cmp l o r p, F, kd, q, m, H, s, Q, X, fo, ok, hW, t, h => by
    simp only [okE, Bool.and_eq_true] at ok
    refine Ev.bind (soundE l fo ok.1 t h) fun a pa s₁ H₁ ra t₁ k₁ h₁ => ?_
    show Ev IsBB cx F (testChain p a [o] [markedBehindIn o (r.toE F.nm) (eval (r.toE F.nm) F.env)]) m H₁ s₁ Q X
    rw [marked_ok]
    refine Ev.bind (Ev.holding (soundE r fo ok.2 t₁ h₁)) fun b pb s₂ H₂ rb t₂ k₂ h₂ => ?_
    have hu := fo.units
    refine Ev.stand (Ev.bind (wpAny_operating (cmp_ok (by omega) (ra.mono (k₂.solid0 t₁.heap)) rb t₂ h₂)) fun c c' s₃ H₃ rc t₃ k₃ h₃ => ?_)
    have rc : c = .bool c' := rc
    subst rc
    exact Ev.holding (wpAny_truthy_bool (.toks s₃.toks rfl t₃ h₃))
  | .lit c k p, F, kd, q, m, H, s, Q, X, fo, ok, hW, t, h => soundW _ (fun _ _ => (nomatch ·)) (fun _ _ _ => (nomatch ·)) (fun _ _ _ _ => (nomatch ·)) (hW t h)
  | .var i p, F, kd, q, m, H, s, Q, X, fo, ok, hW, t, h => soundW _ (fun _ _ => (nomatch ·)) (fun _ _ _ => (nomatch ·)) (fun _ _ _ _ => (nomatch ·)) (hW t h)
  | .glob x p, F, kd, q, m, H, s, Q, X, fo, ok, hW, t, h => soundW _ (fun _ _ => (nomatch ·)) (fun _ _ _ => (nomatch ·)) (fun _ _ _ _ => (nomatch ·)) (hW t h)
  | .bin l o r p, F, kd, q, m, H, s, Q, X, fo, ok, hW, t, h => soundW _ (fun _ _ => (nomatch ·)) (fun _ _ _ => (nomatch ·)) (fun _ _ _ _ => (nomatch ·)) (hW t h)
  | .neg e p, F, kd, q, m, H, s, Q, X, fo, ok, hW, t, h => soundW _ (fun _ _ => (nomatch ·)) (fun _ _ _ => (nomatch ·)) (fun _ _ _ _ => (nomatch ·)) (hW t h)
  | .sub e i p, F, kd, q, m, H, s, Q, X, fo, ok, hW, t, h => soundW _ (fun _ _ => (nomatch ·)) (fun _ _ _ => (nomatch ·)) (fun _ _ _ _ => (nomatch ·)) (hW t h)
  | .sfrom e i ps p, F, kd, q, m, H, s, Q, X, fo, ok, hW, t, h => soundW _ (fun _ _ => (nomatch ·)) (fun _ _ _ => (nomatch ·)) (fun _ _ _ _ => (nomatch ·)) (hW t h)
  | .sto e i ps p, F, kd, q, m, H, s, Q, X, fo, ok, hW, t, h => soundW _ (fun _ _ => (nomatch ·)) (fun _ _ _ => (nomatch ·)) (fun _ _ _ _ => (nomatch ·)) (hW t h)
  | .srev e c ps p cu, F, kd, q, m, H, s, Q, X, fo, ok, hW, t, h => soundW _ (fun _ _ => (nomatch ·)) (fun _ _ _ => (nomatch ·)) (fun _ _ _ _ => (nomatch ·)) (hW t h)
  | .tup es k p, F, kd, q, m, H, s, Q, X, fo, ok, hW, t, h => soundW _ (fun _ _ => (nomatch ·)) (fun _ _ _ => (nomatch ·)) (fun _ _ _ _ => (nomatch ·)) (hW t h)
  | .list es p, F, kd, q, m, H, s, Q, X, fo, ok, hW, t, h => soundW _ (fun _ _ => (nomatch ·)) (fun _ _ _ => (nomatch ·)) (fun _ _ _ _ => (nomatch ·)) (hW t h)
  | .tape pc p, F, kd, q, m, H, s, Q, X, fo, ok, hW, t, h => soundW _ (fun _ _ => (nomatch ·)) (fun _ _ _ => (nomatch ·)) (fun _ _ _ _ => (nomatch ·)) (hW t h)
  | .dict ks vs p, F, kd, q, m, H, s, Q, X, fo, ok, hW, t, h => soundW _ (fun _ _ => (nomatch ·)) (fun _ _ _ => (nomatch ·)) (fun _ _ _ _ => (nomatch ·)) (hW t h)
  | .call f es pf p, F, kd, q, m, H, s, Q, X, fo, ok, hW, t, h => soundW _ (fun _ _ => (nomatch ·)) (fun _ _ _ => (nomatch ·)) (fun _ _ _ _ => (nomatch ·)) (hW t h)
  | .blt b es pf p, F, kd, q, m, H, s, Q, X, fo, ok, hW, t, h => soundW _ (fun _ _ => (nomatch ·)) (fun _ _ _ => (nomatch ·)) (fun _ _ _ _ => (nomatch ·)) (hW t h)
  | .isi e c pf p1 p2 p3 p, F, kd, q, m, H, s, Q, X, fo, ok, hW, t, h => soundW _ (fun _ _ => (nomatch ·)) (fun _ _ _ => (nomatch ·)) (fun _ _ _ _ => (nomatch ·)) (hW t h)
  | .meth o k es pa p, F, kd, q, m, H, s, Q, X, fo, ok, hW, t, h => soundW _ (fun _ _ => (nomatch ·)) (fun _ _ _ => (nomatch ·)) (fun _ _ _ _ => (nomatch ·)) (hW t h)
  | .umeth .., F, kd, q, m, H, s, Q, X, fo, ok, hW, t, h => by simp [okE] at ok
  | .attr .., F, kd, q, m, H, s, Q, X, fo, ok, hW, t, h => by simp [okE] at ok
  | .comp e x px it cs sc p, F, kd, q, m, H, s, Q, X, fo, ok, hW, t, h => soundW _ (fun _ _ => (nomatch ·)) (fun _ _ _ => (nomatch ·)) (fun _ _ _ _ => (nomatch ·)) (hW t h)
theorem soundBs : ∀ (o : BoolOp) (es : AEs) {F : Fm} {kd : Kd} {q : Bool} {m : Loc} {H : AHeap} {s : Shared} {Q : BPost} {X : XPost}, Fok cx n q kd F → okEs fl F.nm q F.vis kd es = true → St cx F m H s.heap → awpBs g o es Q X m H →
    Ev IsBB cx F (allTrue o (es.toEs F.nm) F.env) m H s Q X
  | o, .nil, F, kd, q, m, H, s, Q, X, fo, ok, t, h => Ev.pure rfl t h
  | o, .cons e es, F, kd, q, m, H, s, Q, X, fo, ok, t, h => by
    simp only [okEs, Bool.and_eq_true] at ok
    refine Ev.bind (soundB e fo ok.1 (fun t h => soundE e fo ok.1 t h) t h) fun b b' s₁ H₁ rb t₁ k₁ h₁ => ?_
    have rb : b = b' := rb
    subst rb
    cases o <;> cases b
    · exact Ev.pure rfl t₁ h₁
    · exact soundBs .And es fo ok.2 t₁ h₁
    · exact soundBs .Or es fo ok.2 t₁ h₁
    · exact Ev.pure rfl t₁ h₁
theorem soundC : ∀ (cs : AEs) {F : Fm} {kd : Kd} {q : Bool} {m : Loc} {H : AHeap} {s : Shared} {Q : BPost} {X : XPost}, Fok cx n q kd F → okEs fl F.nm q F.vis kd cs = true → cs.len ≤ 1 → St cx F m H s.heap → awpC g cs Q X m H →
    Ev IsBB cx F (testsSem (cs.toEs F.nm) F.env) m H s Q X
  | .nil, F, kd, q, m, H, s, Q, X, fo, ok, hl, t, h => wpAny_tests_nil (.toks s.toks rfl t h)
  | .cons c .nil, F, kd, q, m, H, s, Q, X, fo, ok, hl, t, h => by
    simp only [okEs, Bool.and_eq_true] at ok
    exact wpAny_tests_one (soundB c fo ok.1 (fun t h => soundE c fo ok.1 t h) t h)
  | .cons c (.cons d ds), F, kd, q, m, H, s, Q, X, fo, ok, hl, t, h => by simp [AEs.len] at hl
end
end
end Mine
end
section
open PySem PySem.Calls PyProof.Rows
namespace Mine
set_option autoImplicit false


/-- the error's own record and its traceback change, of frames the slots alone -/
structure Fly (F : Fm) (e : Addr) (P : Addr → Prop) (h h' : Heap) : Prop where
  oth : ∀ b o, h.get? b = some o → b ≠ e → ¬ P b → h'.get? b = some o ∨ ((∃ env ∈ F.fs, env.frame = some b) ∧ ∃ sl, h'.get? b = some { o with slots := sl })
  exc : ∀ o vs, h.get? e = some o → o.data = .fields vs → ∃ o' vs', h'.get? e = some o' ∧ (o'.cls = o.cls ∧ o'.dict = o.dict) ∧ o'.data = .fields vs'
  tb : ∀ b, P b → b ≠ e ∧ ∃ o ts, h.get? b = some o ∧ o.cls = .type "traceback" ∧ o.data = .fields ts

theorem dict_mapFields (f : Array Value → Array Value) (o : Obj) : (Obj.mapFields f o).dict = o.dict := by
  obtain ⟨c, d, dt, sl⟩ := o
  cases dt <;> rfl

section
variable {cx : Cx} {F : Fm} {m : Loc} {H H₁ : AHeap} {s s₁ : Shared} {e : Addr} {P : Addr → Prop}

theorem St.fly {h h' : Heap} (t : St cx F m H h) (f : Fly F e P h h') (he : ∃ o C vs, h.get? e = some o ∧ o.cls = .ref C ∧ o.data = .fields vs) (hB : cx.B.get? e = none) (hP : ∀ b, P b → cx.B.get? b = none) : St cx F m H h' := by
  obtain ⟨oe, C, vs, ge, hc, hd⟩ := he
  obtain ⟨oe', vs', ge', hc', hd'⟩ := f.exc oe vs ge hd
  have nP : ∀ b o, h.get? b = some o → (∀ ts, o.data ≠ .fields ts) → b ≠ e ∧ ¬ P b := fun b o g n => ⟨by rintro rfl; rw [ge] at g; cases g; exact n _ hd, fun p => by
    obtain ⟨_, ob, ts, g', _, d⟩ := f.tb b p; rw [g] at g'; cases g'; exact n _ d⟩
  have frame : ∀ b, (∃ env ∈ F.fs, env.frame = some b) → H b = none ∧ cx.B.get? b = none ∧ ∃ o es ep, h.get? b = some o ∧ o.data = .dict es ep := fun b ⟨env, hm, hf⟩ => by
    obtain ⟨_, L, o, es, ep, hf', hH, hb, ho, hd⟩ := t.frames env hm
    rw [hf] at hf'; cases hf'
    exact ⟨hH, hb, o, es, ep, ho, hd⟩
  have notF : ∀ b o, h.get? b = some o → (∀ es ep, o.data ≠ .dict es ep) → ¬ ∃ env ∈ F.fs, env.frame = some b := fun b o g n q => by
    obtain ⟨_, _, o', es, ep, g', d⟩ := frame b q; rw [g] at g'; cases g'; exact n _ _ d
  have so : ∀ b o, h.get? b = some o → Solid o → h'.get? b = some o ∨ ((∃ C, o.cls = .ref C) ∧ ∃ o' vs', h'.get? b = some o' ∧ (o'.cls = o.cls ∧ o'.dict = o.dict) ∧ o'.data = .fields vs') := fun b o g sl => by
    by_cases q : b = e
    · subst q; rw [ge] at g; cases g; exact .inr ⟨⟨C, hc⟩, oe', vs', ge', hc', hd'⟩
    · by_cases p : P b
      · obtain ⟨_, ob, ts, g', c', d⟩ := f.tb b p
        rw [g] at g'; cases g'
        exact absurd sl (notSolid_of c' (by decide) d)
      · exact .inl ((f.oth b o g q p).resolve_right fun x => notF b o g sl.notLoc.1 x.1)
  have keepA : ∀ b o, H b = some o → ∀ ob, h.get? b = some ob → h'.get? b = some ob := fun b o hb ob g => by
    obtain ⟨ob', g', ns, nf⟩ := (t.heap b o hb).get
    rw [g] at g'; cases g'
    obtain ⟨n1, n2⟩ := nP b ob g nf
    exact (f.oth b ob g n1 n2).resolve_right fun x => by have := (frame b x.1).1; rw [hb] at this; cases this
  have upto : ∀ b o, h.get? b = some o → (∀ ts, o.data ≠ .fields ts) → ∃ sl, h'.get? b = some { o with slots := sl } := fun b o g n => by
    obtain ⟨n1, n2⟩ := nP b o g n
    rcases f.oth b o g n1 n2 with g' | ⟨_, sl, g'⟩
    · exact ⟨o.slots, g'⟩
    · exact ⟨sl, g'⟩
  refine ⟨fun b o g => ?_, t.off, fun a o ha => ?_, fun env hm => ?_, t.own, ?_, fun n c hc' => ?_⟩
  · have g1 := t.base b o g
    refine (f.oth b o g1 (by rintro rfl; rw [hB] at g; cases g) (fun p => by rw [hP b p] at g; cases g)).resolve_right fun x => ?_
    have := (frame b x.1).2.1; rw [g] at this; cases this
  · have r := t.heap a o ha
    cases o with
    | list xs => obtain ⟨items, n, e, r, l⟩ := r; exact ⟨items, n, keepA _ _ ha _ e, r.mono' so, l⟩
    | tape k => obtain ⟨t, n, e⟩ := r; exact ⟨t, n, keepA _ _ ha _ e⟩
    | dict kvs => obtain ⟨vs, d, r, l⟩ := r; exact ⟨vs, (let ⟨o, es, ep, ho, y⟩ := d; ⟨o, es, ep, keepA _ _ ha _ ho, y⟩), r.mono' so, l⟩
    | inst c d => obtain ⟨C, x, e⟩ := r; exact ⟨C, x, keepA _ _ ha _ e⟩
  · obtain ⟨hk, L, o, es, ep, hf, hH, hb, ho, hd⟩ := t.frames env hm
    obtain ⟨sl, g'⟩ := upto L o ho (fun ts q => by rw [hd] at q; cases q)
    exact ⟨hk, L, _, es, ep, hf, hH, hb, g', hd⟩
  · obtain ⟨o, es, ep, mc, ho, hd, ⟨o1, es1, ep1, ho1, hd1, hk1, hm1⟩, hv⟩ := t.vars
    rw [ho] at ho1; cases ho1
    obtain ⟨sl, g'⟩ := upto _ o ho (fun ts q => by rw [hd] at q; cases q)
    exact ⟨_, es, ep, mc, g', hd, ⟨_, es1, ep1, g', hd1, hk1, hm1⟩, fun i v h1 h2 h3 => let ⟨x, q, r⟩ := hv i v h1 h2 h3; ⟨x, q, r.mono' so⟩⟩
  · obtain ⟨h1, h2, o, x, ho, hd, hv⟩ := t.cells n c hc'
    have n0 : ∀ ts, o.data ≠ .fields ts := fun ts q => by rw [hd] at q; cases q
    obtain ⟨n1, n2⟩ := nP c o ho n0
    have g' := (f.oth c o ho n1 n2).resolve_right fun x => notF c o ho (fun _ _ q => by rw [hd] at q; cases q) x.1
    exact ⟨h1, h2, o, x, g', hd, fun i v a b c d => let ⟨y, q, r⟩ := hv i v a b c d; ⟨y, q, r.mono' so⟩⟩

theorem Kp.fly {S : List Addr} {h' : Heap} (k : Kp cx S H s H₁ s₁) (t : St cx F m H₁ s₁.heap) (f : Fly F e P s₁.heap h') (fe : s.heap.get? e = none) (fP : ∀ b, P b → s.heap.get? b = none) (hB : cx.B.get? e = none) (hP : ∀ b, P b → cx.B.get? b = none) :
    Kp cx S H s H₁ { s₁ with heap := h' } := by
  have frame : ∀ b, (∃ env ∈ F.fs, env.frame = some b) → cx.B.get? b = none ∧ ∃ o es ep, s₁.heap.get? b = some o ∧ o.data = .dict es ep := fun b ⟨env, hm, hf⟩ => by
    obtain ⟨_, L, o, es, ep, hf', hH, hb, ho, hd⟩ := t.frames env hm
    rw [hf] at hf'; cases hf'
    exact ⟨hb, o, es, ep, ho, hd⟩
  have step : ∀ b o, s.heap.get? b = some o → ∀ o₁, s₁.heap.get? b = some o₁ → ∃ o', h'.get? b = some o' ∧ SameO o₁ o' := fun b o g o₁ g₁ => by
    rcases f.oth b o₁ g₁ (by rintro rfl; rw [fe] at g; cases g) (fun p => by rw [fP b p] at g; cases g) with g' | ⟨fr, sl, g'⟩
    · exact ⟨o₁, g', .refl _⟩
    · obtain ⟨_, o2, es, ep, g2, d⟩ := frame b fr
      rw [g₁] at g2; cases g2
      exact ⟨_, g', .inr ⟨⟨es, ep, d⟩, sl, rfl⟩⟩
  refine ⟨?_, fun b o g nS hn => ?_, fun b o g => ?_, fun b o gB g => ?_⟩
  · obtain ⟨h, tk, e⟩ := k.same; exact ⟨h', tk, by rw [e]⟩
  · obtain ⟨h1, o₁, g₁, sm⟩ := k.keep b o g nS hn
    obtain ⟨o', g', sm'⟩ := step b o g o₁ g₁
    exact ⟨h1, o', g', sm.trans sm'⟩
  · obtain ⟨o₁, g₁⟩ := k.alive b o g
    obtain ⟨o', g', _⟩ := step b o g o₁ g₁
    exact ⟨o', g'⟩
  · have g₁ := k.base b o gB g
    refine (f.oth b o g₁ (by rintro rfl; rw [hB] at gB; cases gB) (fun p => by rw [hP b p] at gB; cases gB)).resolve_right fun x => ?_
    have := (frame b x.1).1; rw [gB] at this; cases this

/-- an error in flight, its traceback's top entry standing in the frame -/
inductive ExcAt (cx : Cx) (h₀ h : Heap) (e : Addr) (c : Nat) (v3 : Value) : Prop
  | mk (n : h₀.get? e = none) (oe : Obj) (vs : Array Value) (C : Addr) (a0 : Value) (g : h.get? e = some oe) (k : oe.cls = .ref C) (x : cx.cls c = some C ∧ oe.dict = none) (d : oe.data = .fields vs) (z : vs[0]? = some a0)
    (T : Addr) (oT : Obj) (ts : Array Value) (b1 : vs[1]? = some (.ref T)) (b2 : h₀.get? T = none) (b3 : T ≠ e) (b4 : h.get? T = some oT) (b5 : oT.cls = .type "traceback") (b6 : oT.data = .fields ts) (b7 : ts[3]? = some v3) : ExcAt cx h₀ h e c v3
abbrev ExcIn (cx : Cx) (L : Addr) (h₀ h : Heap) (e : Addr) (c : Nat) : Prop := ExcAt cx h₀ h e c (rawInt L)
theorem ExcIn.exc {L : Addr} {h₀ h : Heap} {c : Nat} (x : ExcIn cx L h₀ h e c) : Exc cx (some L) h₀ h e c := by
  obtain ⟨a, oe, vs, C, a0, b, c, d, f, g, T, oT, ts, h1, h2, h3, h4, h5, h6, h7⟩ := x
  exact ⟨a, oe, vs, C, a0, b, c, d, f, g, .inr ⟨T, oT, ts, h1, h2, h3, h4, h5, h6, .inr ⟨L, rfl, h7⟩⟩⟩

theorem funFrames_of {h : Heap} (hh : ∀ env ∈ F.fs, FrAt cx H h env) : ∀ l : List Env, (∀ env ∈ l, env ∈ F.fs) → h.FunFrames cx.B l
  | [], _ => trivial
  | env :: r, hl => by
    obtain ⟨hk, L, o, es, ep, hf, _, hb, ho, hd⟩ := hh env (hl env List.mem_cons_self)
    exact ⟨hk, ⟨L, o, hf, hb, ho, fun vs q => by rw [hd] at q; cases q⟩, funFrames_of hh r fun x hx => hl x (List.mem_cons_of_mem _ hx)⟩

theorem entry_own {A : Around} {outer : List Env} {L : Addr} {oe : Obj} {vs : Array Value} {head : Value} {hadNext : Bool} {Q : Unit → Shared → Prop} {E : Value → Shared → Prop}
    (hfr : A.frames = some F.fs) (hfs : F.fs = F.env :: outer) (t : St cx F m H s.heap) (hf : F.env.frame = some L) (he : s.heap.get? e = some oe) (hd : oe.data = .fields vs) (hsz : 1 < vs.size)
    (h : ∀ h' T oT ts oe' vs', (∀ b o, s.heap.get? b = some o → b ≠ e → h'.get? b = some o ∨ ((∃ env ∈ F.fs, env.frame = some b) ∧ ∃ sl, h'.get? b = some { o with slots := sl })) → s.heap.get? T = none → T ≠ e →
      h'.get? e = some oe' → (oe'.cls = oe.cls ∧ oe'.dict = oe.dict) → oe'.data = .fields vs' → vs'[0]? = vs[0]? → vs'[1]? = some (.ref T) → h'.get? T = some oT → oT.cls = .type "traceback" → oT.data = .fields ts → ts[3]? = some (rawInt L) → Q () { s with heap := h' }) :
    wpAny cx.M A (do let a ← frameOf F.env; let pl ← entryPlaceOf L hadNext; let b ← EntryCells.newEntry head a .none (rawInt L) .none pl; setField (.ref e) 1 b) Q E s := by
  have hl : s.heap.FunFrames cx.B (F.env :: outer) := funFrames_of t.frames _ fun env hm => hfs ▸ hm
  have hene : e ∉ (F.env :: outer).filterMap (·.frame) := fun hm => by
    obtain ⟨_, o, ho, hnf⟩ := hl.mem hm
    rw [he] at ho; injection ho with ho; subst ho; exact hnf vs hd
  refine wpAny_bind (wpAny_frameOf_fun (by rw [hfr, hfs]) hl hf fun h₁ hs₁ => ?_)
  refine wpAny_bind (wpAny_entryPlaceOf fun pl hpl => ?_)
  unfold EntryCells.newEntry newFields
  refine wpAny_bind (wpAny_newObj_type ?_ (hpl.sizeOk5 _ _ _ _ _))
  have he₁ : h₁.get? e = some oe := (hs₁.2.1 e hene).trans he
  have he₂ := Heap.get?_push_of_some (h := h₁) { cls := .type "traceback", dict := none, data := .fields ([head, .ref L, .none, rawInt L, .none] ++ (if pl.isEmpty then List.replicate 6 Value.none else pl)).toArray } he₁
  have hTe : h₁.objs.size ≠ e := Nat.ne_of_gt (Heap.lt_size he₁)
  have hd₃ := Obj.data_mapFields hd (·.setIfInBounds 1 (Value.ref h₁.objs.size))
  have he₃ := Heap.get?_update_self (Obj.mapFields (·.setIfInBounds 1 (Value.ref h₁.objs.size))) he₂ (Obj.isFreed_of_fields hd₃)
  have hT₃ := (Heap.get?_update_other (h₁.push { cls := .type "traceback", dict := none, data := .fields ([head, .ref L, .none, rawInt L, .none] ++ (if pl.isEmpty then List.replicate 6 Value.none else pl)).toArray })
    (Obj.mapFields (·.setIfInBounds 1 (Value.ref h₁.objs.size))) (Ne.symm hTe)).trans (Heap.get?_push_size h₁ rfl)
  refine wpAny_setField he₂ hd hsz (h _ h₁.objs.size _ _ _ _ (fun b o g n => ?_) ?_ hTe he₃ ⟨Obj.cls_mapFields _ _, dict_mapFields _ _⟩ hd₃ ?_ ?_ hT₃ rfl rfl ?_)
  · by_cases hm : b ∈ (F.env :: outer).filterMap (·.frame)
    · right
      obtain ⟨env, h1, h2⟩ := List.mem_filterMap.mp hm
      refine ⟨⟨env, hfs ▸ h1, h2⟩, ?_⟩
      obtain ⟨sl, g'⟩ := hs₁.2.2 b o g
      exact ⟨sl, by rw [Heap.get?_update_other _ _ (Ne.symm n)]; exact Heap.get?_push_of_some _ g'⟩
    · left
      rw [Heap.get?_update_other _ _ (Ne.symm n)]; exact Heap.get?_push_of_some _ ((hs₁.2.1 b hm).trans g)
  · cases q : s.heap.get? h₁.objs.size with
    | none => rfl
    | some o => have := Heap.lt_size q; rw [hs₁.1] at this; exact absurd this (Nat.lt_irrefl _)
  · rw [Array.getElem?_setIfInBounds_ne (by decide)]
  · simp [hsz]
  · first | (simp; done) | (rcases hpl with rfl | ⟨_, _, _, _, _, _, _, rfl⟩ <;> simp)

theorem note_ok {S : List Addr} {outer : List Env} {L : Addr} {c : Nat} {Q : Unit → Shared → Prop} {E : Value → Shared → Prop} {A : Around} (hfr : A.frames = some F.fs) (hfs : F.fs = F.env :: outer) (hf : F.env.frame = some L) (t : St cx F m H₁ s₁.heap) (k : Kp cx S H s H₁ s₁)
    (t₀ : cx.B.StaysIn s.heap) (x : Exc cx F.env.frame s.heap s₁.heap e c) (hQ : ∀ s₂, St cx F m H₁ s₂.heap → Kp cx S H s H₁ s₂ → ExcIn cx L s.heap s₂.heap e c → Q () s₂) : wpAny cx.M A (noteFrame (.ref e) F.env) Q E s₁ := by
  obtain ⟨fe, oe, vs, C, a0, ge, hc, hC, hd, h0, hx⟩ := x
  have hBn : ∀ b, s.heap.get? b = none → cx.B.get? b = none := fun b f => by
    cases q : cx.B.get? b with
    | none => rfl
    | some o => rw [t₀ _ _ q] at f; cases f
  have he : ∃ o C vs, s₁.heap.get? e = some o ∧ o.cls = .ref C ∧ o.data = .fields vs := ⟨oe, C, vs, ge, hc, hd⟩
  unfold noteFrame
  simp only [hf]
  rcases hx with h1 | ⟨T, oT, ts, h1, fT, hTe, gT, cT, dT, h3⟩
  · refine wpAny_bind (wpAny_field ge hd h1 ?_)
    rw [if_neg (by decide)]
    refine entry_own hfr hfs t hf ge hd (Array.getElem?_eq_some_iff.mp h1).1 fun h' T oT ts oe' vs' oth fT hTe ge' ce' de' h0' h1' gT' cT dT h3 => ?_
    have f : Fly F e (fun _ => False) s₁.heap h' := ⟨fun b o g n _ => oth b o g n, fun o vs g d => by rw [ge] at g; cases g; exact ⟨oe', vs', ge', ce', de'⟩, fun _ q => q.elim⟩
    have fT0 : s.heap.get? T = none := by
      cases q : s.heap.get? T with
      | none => rfl
      | some o => obtain ⟨o', e'⟩ := k.alive T o q; rw [fT] at e'; cases e'
    exact hQ { s₁ with heap := h' } (t.fly f he (hBn _ fe) fun _ q => q.elim) (k.fly t f fe (fun _ q => q.elim) (hBn _ fe) fun _ q => q.elim)
      ⟨fe, oe', vs', C, a0, ge', ce'.1.trans hc, ⟨hC.1, ce'.2.trans hC.2⟩, de', h0'.trans h0, T, oT, ts, h1', fT0, hTe, gT', cT, dT, h3⟩
  · refine wpAny_bind (wpAny_field ge hd h1 ?_)
    rw [if_pos (show (Value.ref T != Value.none) = true from by simp)]
    rcases h3 with h3 | ⟨L', hL', h3⟩
    · refine wpAny_bind (wpAny_field gT dT h3 ?_)
      rw [if_neg (show ¬ ((Value.none == rawInt L) = true) from by simp [rawInt])]
      refine wpAny_bind (wpAny_setField gT dT (Array.getElem?_eq_some_iff.mp h3).1 ?_)
      have dT' := Obj.data_mapFields dT (·.setIfInBounds 3 Value.none)
      have gT' := Heap.get?_update_self (Obj.mapFields (·.setIfInBounds 3 Value.none)) gT (Obj.isFreed_of_fields dT')
      have f : Fly F e (fun b => b = T) s₁.heap (s₁.heap.update T (Obj.mapFields (·.setIfInBounds 3 Value.none))) :=
        ⟨fun b o g n q => .inl (upd_keeps b o q g), fun o vs' g d => ⟨o, vs', upd_keeps e o (Ne.symm hTe) g, ⟨rfl, rfl⟩, d⟩, fun b q => by subst q; exact ⟨hTe, oT, ts, gT, cT, dT⟩⟩
      have t₂ := t.fly f he (hBn _ fe) fun b q => by subst q; exact hBn _ fT
      have k₂ := k.fly t f fe (fun b q => by subst q; exact fT) (hBn _ fe) fun b q => by subst q; exact hBn _ fT
      have ge₂ := upd_keeps (f := Obj.mapFields (·.setIfInBounds 3 Value.none)) e oe (Ne.symm hTe) ge
      refine entry_own (s := { s₁ with heap := s₁.heap.update T (Obj.mapFields (·.setIfInBounds 3 Value.none)) }) hfr hfs t₂ hf ge₂ hd (Array.getElem?_eq_some_iff.mp h1).1 fun h' T₂ oT₂ ts₂ oe' vs' oth fT₂ hTe₂ ge' ce' de' h0' h1' gT₂ cT₂ dT₂ h3₂ => ?_
      have f₂ : Fly F e (fun _ => False) (s₁.heap.update T (Obj.mapFields (·.setIfInBounds 3 Value.none))) h' := ⟨fun b o g n _ => oth b o g n, fun o vs g d => by rw [ge₂] at g; cases g; exact ⟨oe', vs', ge', ce', de'⟩, fun _ q => q.elim⟩
      have fT0 : s.heap.get? T₂ = none := by
        cases q : s.heap.get? T₂ with
        | none => rfl
        | some o => obtain ⟨o', e'⟩ := k₂.alive T₂ o q; rw [fT₂] at e'; cases e'
      exact hQ { s₁ with heap := h' } (t₂.fly f₂ ⟨oe, C, vs, ge₂, hc, hd⟩ (hBn _ fe) fun _ q => q.elim) (k₂.fly (s₁ := { s₁ with heap := s₁.heap.update T (Obj.mapFields (·.setIfInBounds 3 Value.none)) }) t₂ f₂ fe (fun _ q => q.elim) (hBn _ fe) fun _ q => q.elim)
        ⟨fe, oe', vs', C, a0, ge', ce'.1.trans hc, ⟨hC.1, ce'.2.trans hC.2⟩, de', h0'.trans h0, T₂, oT₂, ts₂, h1', fT0, hTe₂, gT₂, cT₂, dT₂, h3₂⟩
    · rw [hf] at hL'; cases hL'
      refine wpAny_bind (wpAny_field gT dT h3 ?_)
      rw [if_pos (show (rawInt L == rawInt L) = true from by simp)]
      exact wpAny_pure (hQ s₁ t k ⟨fe, oe, vs, C, a0, ge, hc, hC, hd, h0, T, oT, ts, h1, fT, hTe, gT, cT, dT, h3⟩)

/-- the flight ends: the record lies still -/
abbrev ExcOut (cx : Cx) (h₀ h : Heap) (e : Addr) (c : Nat) : Prop := ExcAt cx h₀ h e c .none
theorem ExcOut.exc {fr : Option Addr} {h₀ h : Heap} {c : Nat} (x : ExcOut cx h₀ h e c) : Exc cx fr h₀ h e c := by
  obtain ⟨a, oe, vs, C, a0, b, c, d, f, g, T, oT, ts, h1, h2, h3, h4, h5, h6, h7⟩ := x
  exact ⟨a, oe, vs, C, a0, b, c, d, f, g, .inr ⟨T, oT, ts, h1, h2, h3, h4, h5, h6, .inl h7⟩⟩
theorem ExcOut.rep {h₀ h : Heap} {c : Nat} (x : ExcOut cx h₀ h e c) : Rep cx h (.ref e) (.exc c) := by
  obtain ⟨a, oe, vs, C, a0, b, c, d, f, _⟩ := x
  exact .exc b c f d.1 d.2

theorem unflight_ok {S : List Addr} {c : Nat} {Q : Unit → Shared → Prop} {E : Value → Shared → Prop} {A : Around} {v3 : Value} (t : St cx F m H₁ s₁.heap) (k : Kp cx S H s H₁ s₁) (t₀ : cx.B.StaysIn s.heap)
    (x : ExcAt cx s.heap s₁.heap e c v3)
    (hQ : ∀ s₂, St cx F m H₁ s₂.heap → Kp cx S H s H₁ s₂ → ExcOut cx s.heap s₂.heap e c → Q () s₂) : wpAny cx.M A (setFlight (.ref e) none) Q E s₁ := by
  obtain ⟨fe, oe, vs, C, a0, ge, hc, hC, hd, h0, T, oT, ts, h1, fT, hTe, gT, cT, dT, h3⟩ := x
  have hBn : ∀ b, s.heap.get? b = none → cx.B.get? b = none := fun b f => by
    cases q : cx.B.get? b with
    | none => rfl
    | some o => rw [t₀ _ _ q] at f; cases f
  have hsz := (Array.getElem?_eq_some_iff.mp h3).1
  refine wpAny_setFlight_none ge hd h1 gT dT hsz ?_
  have dT' := Obj.data_mapFields dT (·.setIfInBounds 3 Value.none)
  have gT' := Heap.get?_update_self (Obj.mapFields (·.setIfInBounds 3 Value.none)) gT (Obj.isFreed_of_fields dT')
  have f : Fly F e (fun b => b = T) s₁.heap (s₁.heap.update T (Obj.mapFields (·.setIfInBounds 3 Value.none))) :=
    ⟨fun b o g n q => .inl (upd_keeps b o q g), fun o vs' g d => ⟨o, vs', upd_keeps e o (Ne.symm hTe) g, ⟨rfl, rfl⟩, d⟩, fun b q => by subst q; exact ⟨hTe, oT, ts, gT, cT, dT⟩⟩
  have t₂ := t.fly f ⟨oe, C, vs, ge, hc, hd⟩ (hBn _ fe) fun b q => by subst q; exact hBn _ fT
  have k₂ := k.fly t f fe (fun b q => by subst q; exact fT) (hBn _ fe) fun b q => by subst q; exact hBn _ fT
  exact hQ { s₁ with heap := _ } t₂ k₂ ⟨fe, oe, vs, C, a0, upd_keeps e oe (Ne.symm hTe) ge, hc, hC, hd, h0, T, _, _, h1, fT, hTe, gT', (Obj.cls_mapFields _ _).trans cT, dT', by simp [hsz]⟩
end
end Mine
end
section
open PySem PySem.Calls PyProof.Rows
namespace Mine
set_option autoImplicit false

noncomputable def plc (F : Fm) : List Addr := F.env.locals :: F.env.cells.filterMap fun p => F.env.cells.lookup p.1
theorem mem_plc_cell {F : Fm} {x : Str} {c : Addr} (h : F.env.cells.lookup x = some c) : c ∈ plc F := List.mem_cons_of_mem _ (List.mem_filterMap.mpr ⟨(x, c), mem_of_lookup h, h⟩)

section
variable {cx : Cx} {F : Fm} {m : Loc} {H H₁ : AHeap} {s s₁ : Shared} {kd : Kd} {n : Nat} {q : Bool}

theorem St.setCell {h h' : Heap} {x : Nat} {v : Value} {p : PV} {c : Addr} (t : St cx F m H h) (fo : Fok cx n q kd F) (vx : F.vis x = true) (kl : F.env.kindOf (slot F.nm x) ≠ some .local)
    (hc : F.env.cells.lookup (slot F.nm x) = some c) (hc' : h'.IsCell c (some v)) (sb : Heap.SameBut c h h') (rv : Rep cx h v p) : St cx F (m.set x (some p)) H h' := by
  obtain ⟨hHc, hBc, oc, y, goc, dc, _⟩ := t.cells _ c hc
  have ns1 : ∀ o, h.get? c = some o → ¬ Solid o := fun o' e => by rw [goc] at e; cases e; exact notSolid_cell dc
  have k : ∀ b o, b ≠ c → h.get? b = some o → h'.get? b = some o := fun b o n e => by rw [sb.2 b n]; exact e
  have so : ∀ b o, h.get? b = some o → Solid o → h'.get? b = some o := fun b o e s => k b o (by rintro rfl; exact ns1 o e s) e
  have nd : ∀ b o es ep, h.get? b = some o → o.data = .dict es ep → b ≠ c := fun b o es ep e q => by rintro rfl; rw [goc] at e; cases e; rw [dc] at q; cases q
  refine ⟨fun b o e => k b o (by rintro rfl; rw [hBc] at e; cases e) (t.base b o e), t.off, t.heap.keepBut hHc k ns1, fun env he => ?_, t.own, ?_, fun nn c₂ hc₂ => ?_⟩
  · obtain ⟨hk, L, o, es, ep, hf, hH, hb, ho, hd'⟩ := t.frames env he
    exact ⟨hk, L, o, es, ep, hf, hH, hb, k L o (nd L o es ep ho hd') ho, hd'⟩
  · obtain ⟨o, es, ep, mc, ho, hd', ns, hv⟩ := t.vars
    have n := nd _ o es ep ho hd'
    refine ⟨o, es, ep, mc, k _ o n ho, hd', ns.at fun o e => k _ o n e, fun i w h1 h2 h3 => ?_⟩
    rcases Loc.get_set h3 with ⟨rfl, rfl⟩ | ⟨_, h3⟩
    · exact absurd h2 kl
    · obtain ⟨x, q, r⟩ := hv i w h1 h2 h3; exact ⟨x, q, r.mono so⟩
  · obtain ⟨h1, h2, o, w, ho, hd', hv⟩ := t.cells nn c₂ hc₂
    by_cases qc : c₂ = c
    · subst qc
      have e1 : nn = slot F.nm x := fo.apart _ _ _ hc₂ hc
      subst e1
      obtain ⟨o', go', do'⟩ := hc'
      refine ⟨h1, h2, o', some v, go', do', fun i w a b _ d => ?_⟩
      have : i = x := fo.inj i x a vx b
      subst this
      rcases Loc.get_set d with ⟨_, rfl⟩ | ⟨ne, _⟩
      · exact ⟨v, rfl, rv.mono so⟩
      · exact absurd rfl ne
    · refine ⟨h1, h2, o, w, k c₂ o qc ho, hd', fun i w' a b c' d => ?_⟩
      rcases Loc.get_set d with ⟨rfl, rfl⟩ | ⟨_, d⟩
      · subst b; rw [hc] at hc₂; cases hc₂; exact absurd rfl qc
      · obtain ⟨z, q, r⟩ := hv i w' a b c' d; exact ⟨z, q, r.mono so⟩

theorem Kp.one {h' : Heap} {tk : Nat} {a : Addr} (ha : a ∈ plc F) (hB : cx.B.get? a = none) (ga : ∃ o, h'.get? a = some o) (k : ∀ b o, b ≠ a → s.heap.get? b = some o → h'.get? b = some o) : Kp cx (plc F) H s H { s with heap := h', toks := tk } := by
  refine ⟨⟨h', tk, rfl⟩, fun b o e nS hn => ⟨hn, o, k b o (by rintro rfl; exact nS ha) e, .refl _⟩, fun b o e => ?_, fun b o eB e => k b o (by rintro rfl; rw [hB] at eB; cases eB) e⟩
  by_cases q : b = a
  · subst q; exact ga
  · exact ⟨o, k b o q e⟩

theorem store_name {x : Nat} {v : Value} {p : PV} {QQ : Unit → Shared → Prop} {E : Value → Shared → Prop} {A : Around} (fo : Fok cx n q kd F) (vx : F.vis x = true) (hk : kd (slot F.nm x) = some .local ∨ kd (slot F.nm x) = some .cell) (t : St cx F m H s.heap) (rv : Rep cx s.heap v p)
    (hQ : ∀ s', St cx F (m.set x (some p)) H s'.heap → Kp cx (plc F) H s H s' → (∀ b o, s.heap.get? b = some o → Solid o → s'.heap.get? b = some o) → QQ () s') : wpAny cx.M A (storeName F.env (slot F.nm x) v) QQ E s := by
  rcases hk with hk | hk
  · have hl : F.env.kindOf (slot F.nm x) = some .local := by rw [fo.kdo]; exact hk
    obtain ⟨o, es, ep, mc, ho, hd, ns, _⟩ := t.vars
    refine wpAny_storeName_local hl ns (fun h' ns' sb => ?_) (by rw [fo.kind]; rfl)
    have kk : ∀ b o, b ≠ F.env.locals → s.heap.get? b = some o → h'.get? b = some o := fun b o n e => by rw [sb.2 b n]; exact e
    refine hQ _ (t.setLocal fo.inj vx hl ns ns' rfl sb rv) (Kp.one (List.mem_cons_self ..) t.own.2 (let ⟨o, _, _, g, _⟩ := ns'; ⟨o, g⟩) kk) fun b o e so => kk b o ?_ e
    rintro rfl; rw [ho] at e; cases e; exact notSolid_dict hd so
  · have hl : F.env.kindOf (slot F.nm x) = some .cell := by rw [fo.kdo]; exact hk
    obtain ⟨c, hc⟩ := fo.cells _ (.inl hk)
    obtain ⟨hHc, hBc, oc, y, goc, dc, _⟩ := t.cells _ c hc
    refine wpAny_storeName_cell fo.kind hl hc ⟨oc, goc, dc⟩ fun h' hc' sb => ?_
    have kk : ∀ b o, b ≠ c → s.heap.get? b = some o → h'.get? b = some o := fun b o n e => by rw [sb.2 b n]; exact e
    refine hQ _ (t.setCell fo vx (by rw [hl]; decide) hc hc' sb rv) (Kp.one (tk := s.toks) (mem_plc_cell hc) hBc (let ⟨o, g, _⟩ := hc'; ⟨o, g⟩) kk) fun b o e so => kk b o ?_ e
    rintro rfl; rw [goc] at e; cases e; exact notSolid_cell dc so

/-! statements -/
inductive OkN (cx : Cx) (F : Fm) (H : AHeap) (s : Shared) (N : NPost) (s' : Shared) : Prop
  | mk (m' : Loc) (H' : AHeap) (t : St cx F m' H' s'.heap) (k : Kp cx (plc F) H s H' s') (q : N m' H') : OkN cx F H s N s'
inductive OkR (cx : Cx) (F : Fm) (H : AHeap) (s : Shared) (R : Post) (v : Value) (s' : Shared) : Prop
  | mk (p : PV) (m' : Loc) (H' : AHeap) (r : Rep cx s'.heap v p) (t : St cx F m' H' s'.heap) (k : Kp cx (plc F) H s H' s') (q : R p H') : OkR cx F H s R v s'
noncomputable def OkS (cx : Cx) (F : Fm) (H : AHeap) (s : Shared) (N : NPost) (R : Post) : Flow → Shared → Prop := fun f s' => match f with
  | .next => OkN cx F H s N s'
  | .ret v => OkR cx F H s R v s'
  | _ => False
inductive ErS (cx : Cx) (F : Fm) (H : AHeap) (s : Shared) (X : SXPost) (v : Value) (s' : Shared) : Prop
  | mk (e : Addr) (c : Nat) (m' : Loc) (H' : AHeap) (hv : v = .ref e) (x : Exc cx F.env.frame s.heap s'.heap e c) (t : St cx F m' H' s'.heap) (k : Kp cx (plc F) H s H' s') (q : X c m' H') : ErS cx F H s X v s'
noncomputable def EvS (cx : Cx) (F : Fm) (t : Sem Flow) (H : AHeap) (s : Shared) (N : NPost) (R : Post) (X : SXPost) : Prop := wpAny cx.M F.A t (OkS cx F H s N R) (ErS cx F H s X) s

theorem OkS.older {N : NPost} {R : Post} {f : Flow} {s' : Shared} (k : Kp cx (plc F) H s H₁ s₁) (x : OkS cx F H₁ s₁ N R f s') : OkS cx F H s N R f s' := by
  cases f with
  | next => obtain ⟨m', H', t, k', h⟩ := x; exact ⟨m', H', t, k.trans k', h⟩
  | ret v => obtain ⟨p, m', H', r, t, k', h⟩ := x; exact ⟨p, m', H', r, t, k.trans k', h⟩
  | _ => exact x.elim
theorem ErS.older {X : SXPost} {v : Value} {s' : Shared} (k : Kp cx (plc F) H s H₁ s₁) (x : ErS cx F H₁ s₁ X v s') : ErS cx F H s X v s' := by
  obtain ⟨e, c, m', H', r, y, t, k', h⟩ := x
  exact ⟨e, c, m', H', r, y.older k.alive, t, k.trans k', h⟩
theorem EvS.older {N : NPost} {R : Post} {X : SXPost} {t : Sem Flow} (k : Kp cx (plc F) H s H₁ s₁) (x : EvS cx F t H₁ s₁ N R X) : wpAny cx.M F.A t (OkS cx F H s N R) (ErS cx F H s X) s₁ :=
  wpAny_mono x (fun _ _ y => y.older k) fun _ _ y => y.older k
theorem ErP.toS {X : SXPost} {v : Value} {s' : Shared} (x : ErP cx F m H s (fun c H => X c m H) v s') : ErS cx F H s X v s' := by
  obtain ⟨e, c, H', r, y, t, k, h⟩ := x; exact ⟨e, c, m, H', r, y, t, k.nil, h⟩
/-- an expression, then the rest of the statement -/
theorem EvS.after {α β : Type} {RR : Heap → α → β → Prop} {Q : β → AHeap → Prop} {N : NPost} {R : Post} {X : SXPost} {t : Sem α} {f : α → Sem Flow} (h : Ev RR cx F t m H s Q fun c H => X c m H)
    (k : ∀ a b s₁ H₁, RR s₁.heap a b → St cx F m H₁ s₁.heap → Kp cx [] H s H₁ s₁ → Q b H₁ → EvS cx F (f a) H₁ s₁ N R X) : EvS cx F (t >>= f) H s N R X :=
  wpAny_bind (wpAny_mono h (fun a s₁ ⟨b, H₁, r, st, kp, q⟩ => (k a b s₁ H₁ r st kp q).older kp.nil) fun _ _ y => y.toS)
theorem OkS.toks {N : NPost} {R : Post} (tk : Nat) (t : St cx F m H s.heap) (h : N m H) : OkS cx F H s N R .next { s with toks := tk } := ⟨m, H, t, .grow (fun _ _ e => e) (fun _ _ _ e => e), h⟩
theorem EvS.seq {N N₁ : NPost} {R : Post} {X : SXPost} {st : Stmt} {rest : List Stmt} (h : EvS cx F (exec st F.env) H s N₁ R X)
    (k : ∀ m₁ s₁ H₁, St cx F m₁ H₁ s₁.heap → N₁ m₁ H₁ → EvS cx F (execs rest F.env) H₁ s₁ N R X) : EvS cx F (execs (st :: rest) F.env) H s N R X := by
  refine wpAny_execs_cons (wpAny_mono h (fun f s' h' => ?_) fun _ _ e => e)
  cases f with
  | next => obtain ⟨m', H', t, kp, hn⟩ := h'; exact (k m' s' H' t hn).older kp
  | ret v => exact h'
  | brk => exact h'
  | cont => exact h'
end
end Mine
end
section
open PySem PySem.Calls PyProof.Rows
namespace Mine
set_option autoImplicit false

noncomputable def isComp : AE → Bool
  | .comp .. => true
  | _ => false
noncomputable def isTup : AE → Bool
  | .tup .. => true
  | _ => false
noncomputable def ASs.isNil : ASs → Bool
  | .nil => true
  | _ => false
noncomputable def AHs.isNil : AHs → Bool
  | .nil => true
  | _ => false
section
variable (fl : List Str) (nm : List Str) (vis : Nat → Bool) (kd : Kd)
noncomputable def stOk (x : Nat) : Bool := vis x && (kd (slot nm x) == some .local || kd (slot nm x) == some .cell)
mutual
noncomputable def okS (q : Bool) : AS → Bool
  | .expr e _ => okE fl nm q vis kd e && !isComp e
  | .assign x _ e _ => okE fl nm q vis kd e && stOk nm vis kd x
  | .assignT xs _ _ e _ => q && okE fl nm q vis kd e && !isComp e && !isTup e && xs.all fun x => stOk nm vis kd x.1
  | .store o i _ e _ => okE fl nm q vis kd o && okE fl nm q vis kd i && okE fl nm q vis kd e && !isComp e
  | .sattr .. => false
  | .ite c a b _ => okE fl nm q vis kd c && okSs q a && okSs q b
  | .for x _ it b _ => q && okE fl nm q vis kd it && stOk nm vis kd x && okSs q b
  | .while c b _ => q && okE fl nm q vis kd c && okSs q b
  | .ret e _ => okE fl nm q vis kd e
  | .ret0 _ => true
  | .raise c x _ _ _ _ _ _ => q && isGlob kd x && onm x == some c
  | .try b hs _ => q && okSs q b && okHs hs && !hs.isNil
noncomputable def okSs (q : Bool) : ASs → Bool
  | .nil => true
  | .cons s ss => okS q s && okSs q ss
noncomputable def okHs : AHs → Bool
  | .nil => true
  | .cons c x _ y b _ hs => isGlob kd x && onm x == some c && (match y with | none => true | some y => vis y && kd (slot nm y) == some .local) && okSs false b && !b.isNil && okHs hs
end
end

inductive ForI (cx : Cx) (F : Fm) (H₁ : AHeap) (s₁ : Shared) (I : Addr) (xs : List PV) (p : PV) (W : List PV → Loc → AHeap → Prop) (k : Nat) (s' : Shared) : Prop
  | mk (i : Nat) (mk : Loc) (Hk : AHeap) (hi : i ≤ xs.length) (hk : k = xs.length - i) (ti : St cx F mk Hk s'.heap) (ki : Kp cx (plc F) H₁ s₁ Hk s') (iti : Itr cx s'.heap I i xs p) (ci : Clean cx Hk s'.heap I) (hw : W (xs.drop i) mk Hk) : ForI cx F H₁ s₁ I xs p W k s'
section
variable {cx : Cx} {F : Fm} {m : Loc} {H H₁ : AHeap} {s s₁ : Shared} {kd : Kd} {n : Nat} {q : Bool} {e : Addr}

theorem St.plcData {h : Heap} (t : St cx F m H h) : ∀ b ∈ plc F, ∀ o, h.get? b = some o → (∃ es ep, o.data = .dict es ep) ∨ ∃ x, o.data = .cell x := fun b hb o g => by
  rcases List.mem_cons.mp hb with rfl | hb
  · obtain ⟨o', es, ep, _, g', d, _⟩ := t.vars; rw [g] at g'; cases g'; exact .inl ⟨es, ep, d⟩
  · obtain ⟨p, _, hl⟩ := List.mem_filterMap.mp hb
    obtain ⟨_, _, o', x, g', d, _⟩ := t.cells _ b hl
    rw [g] at g'; cases g'; exact .inr ⟨x, d⟩
theorem Kp.solidP (k : Kp cx (plc F) H s H₁ s₁) (t : St cx F m H s.heap) : ∀ b o, s.heap.get? b = some o → Solid o → s₁.heap.get? b = some o := k.solid t.heap t.plcData
/-- a record that no name holds stays -/
theorem Kp.sameP (k : Kp cx (plc F) H s H₁ s₁) (t : St cx F m H s.heap) {b : Addr} {o : Obj} {vs : Array Value} (g : s.heap.get? b = some o) (hb : H b = none) (hd : o.data = .fields vs) : H₁ b = none ∧ s₁.heap.get? b = some o := by
  obtain ⟨h, o', e', sm⟩ := k.keep b o g (fun q => by
    rcases t.plcData b q o g with ⟨es, ep, d⟩ | ⟨x, d⟩ <;> rw [hd] at d <;> cases d) hb
  rw [sm.eq fun _ _ q => by rw [hd] at q; cases q] at e'; exact ⟨h, e'⟩
theorem Itr.over {I : Addr} {i : Nat} {xs : List PV} {p : PV} (it : Itr cx s.heap I i xs p) (k : Kp cx (plc F) H s H₁ s₁) (t : St cx F m H s.heap) (c : Clean cx H s.heap I) : Itr cx s₁.heap I i xs p ∧ Clean cx H₁ s₁.heap I := by
  obtain ⟨hI, hB, oI, T, vs, gI, hc, hT, hd⟩ := c
  have e1 := k.sameP t gI hI hd
  have itb := it.keep (k.solidP t) fun o e => by rw [gI] at e; cases e; exact e1.2
  exact ⟨itb, e1.1, hB, itb.clean⟩

theorem flight_ok {S : List Addr} {c : Nat} {L : Addr} {Q : Unit → Shared → Prop} {E : Value → Shared → Prop} {A : Around} (hf : F.env.frame = some L) (t : St cx F m H₁ s₁.heap) (k : Kp cx S H s H₁ s₁) (t₀ : cx.B.StaysIn s.heap) (x : ExcIn cx L s.heap s₁.heap e c)
    (hQ : ∀ s₂, St cx F m H₁ s₂.heap → Kp cx S H s H₁ s₂ → ExcIn cx L s.heap s₂.heap e c → Q () s₂) : wpAny cx.M A (do
      if (← field (.ref e) 1) == .none then unsupported "frame.own-activation:exception-without-traceback"
      setFlight (.ref e) F.env.frame) Q E s₁ := by
  obtain ⟨fe, oe, vs, C, a0, ge, hc, hC, hd, h0, T, oT, ts, h1, fT, hTe, gT, cT, dT, h3⟩ := x
  have hBn : ∀ b, s.heap.get? b = none → cx.B.get? b = none := fun b f => by
    cases q : cx.B.get? b with
    | none => rfl
    | some o => rw [t₀ _ _ q] at f; cases f
  have hsz := (Array.getElem?_eq_some_iff.mp h3).1
  refine wpAny_bind (wpAny_field ge hd h1 ?_)
  rw [if_neg (show ¬ ((Value.ref T == Value.none) = true) from by simp)]
  unfold setFlight
  refine wpAny_bind (wpAny_field ge hd h1 ?_)
  rw [if_pos (show (Value.ref T != Value.none) = true from by simp), hf]
  refine wpAny_setField gT dT hsz ?_
  show Q () { s₁ with heap := s₁.heap.update T (Obj.mapFields (·.setIfInBounds 3 (rawInt L))) }
  have dT' := Obj.data_mapFields dT (·.setIfInBounds 3 (rawInt L))
  have gT' := Heap.get?_update_self (Obj.mapFields (·.setIfInBounds 3 (rawInt L))) gT (Obj.isFreed_of_fields dT')
  have f : Fly F e (fun b => b = T) s₁.heap (s₁.heap.update T (Obj.mapFields (·.setIfInBounds 3 (rawInt L)))) :=
    ⟨fun b o g n q => .inl (upd_keeps b o q g), fun o vs' g d => ⟨o, vs', upd_keeps e o (Ne.symm hTe) g, ⟨rfl, rfl⟩, d⟩, fun b q => by subst q; exact ⟨hTe, oT, ts, gT, cT, dT⟩⟩
  have t₂ := t.fly f ⟨oe, C, vs, ge, hc, hd⟩ (hBn _ fe) fun b q => by subst q; exact hBn _ fT
  have k₂ := k.fly t f fe (fun b q => by subst q; exact fT) (hBn _ fe) fun b q => by subst q; exact hBn _ fT
  exact hQ { s₁ with heap := _ } t₂ k₂ ⟨fe, oe, vs, C, a0, upd_keeps e oe (Ne.symm hTe) ge, hc, hC, hd, h0, T, _, _, h1, fT, hTe, gT', (Obj.cls_mapFields _ _).trans cT, dT', by simp [hsz]⟩

/-- an error out of a loop of the frame's own -/
theorem noted_ok {outer : List Env} {L : Addr} {X : SXPost} {v : Value} (hfr : F.A.frames = some F.fs) (hfs : F.fs = F.env :: outer) (hf : F.env.frame = some L) (t₀ : cx.B.StaysIn s.heap) (x : ErS cx F H s X v s₁) :
    notedBy cx.M F.A F.env (fun e s' => cameBackBy cx.M F.A F.env (ErS cx F H s X) e s') v s₁ := by
  obtain ⟨e, c, m', H', rfl, y, t, k, h⟩ := x
  refine note_ok hfr hfs hf t k t₀ y fun s₂ t₂ k₂ x₂ => ?_
  exact flight_ok hf t₂ k₂ t₀ x₂ fun s₃ t₃ k₃ x₃ => ⟨e, c, m', H', rfl, by rw [hf]; exact x₃.exc, t₃, k₃, h⟩

theorem names_ok {A : Around} {E : Value → Shared → Prop} (fo : Fok cx n q kd F) : ∀ (xs : List (Nat × Pos)) (ys : List PV) (vs : List Value) {m : Loc} {H : AHeap} {s : Shared} {QQ : Unit → Shared → Prop}, xs.length = ys.length →
    (∀ x ∈ xs, F.vis x.1 = true ∧ (kd (slot F.nm x.1) = some .local ∨ kd (slot F.nm x.1) = some .cell)) → RepL cx s.heap vs ys → St cx F m H s.heap →
    (∀ s', St cx F (setAll xs ys m) H s'.heap → Kp cx (plc F) H s H s' → QQ () s') → wpAny cx.M A (assignInOrder ((assignEach (xs.map fun x => Expr.Name (slot F.nm x.1) x.2) F.env).map (·.2)) vs) QQ E s
  | [], [], _, m, H, s, QQ, _, _, rs, t, hQ => by
    cases rs
    exact wpAny_assignInOrder_none (hQ s t (.refl _ _ _ _))
  | x :: xs, y :: ys, _, m, H, s, QQ, hl, hx, rs, t, hQ => by
    cases rs with
    | cons r rs =>
      have h1 := hx x (List.mem_cons_self ..)
      refine wpAny_assignInOrder_more (wpAny_assign_Name (store_name fo h1.1 h1.2 t r fun s' t' k' so => ?_))
      exact names_ok fo xs ys _ (by simpa using hl) (fun z hz => hx z (List.mem_cons_of_mem _ hz)) (rs.mono so) t' fun s'' t'' k'' => hQ s'' t'' (k'.trans k'')
  | [], _ :: _, _, _, _, _, _, hl, _, _, _, _ => by simp at hl
  | _ :: _, [], _, _, _, _, _, hl, _, _, _, _ => by simp at hl
theorem names_len (nm : List Str) (env : Env) : ∀ xs : List (Nat × Pos), (assignEach (xs.map fun x => Expr.Name (slot nm x.1) x.2) env).length = xs.length ∧ (assignEach (xs.map fun x => Expr.Name (slot nm x.1) x.2) env).findIdx? (·.1) = none
  | [] => ⟨rfl, rfl⟩
  | x :: xs => by
    have ih := names_len nm env xs
    refine ⟨?_, ?_⟩
    · show (assignEach (Expr.Name (slot nm x.1) x.2 :: xs.map fun x => Expr.Name (slot nm x.1) x.2) env).length = _
      simp only [assignEach, List.length_cons, ih.1]
    · show (assignEach (Expr.Name (slot nm x.1) x.2 :: xs.map fun x => Expr.Name (slot nm x.1) x.2) env).findIdx? (·.1) = none
      simp only [assignEach, List.findIdx?_cons, Bool.false_eq_true, if_false, ih.2, Option.map_none]

theorem for_ok {outer : List Env} {L : Addr} {x : Nat} {px pos : Pos} {iter : Expr} {body : List Stmt} {N : NPost} {R : Post} {X : SXPost} {st : PV → (Loc → AHeap → Prop) → Loc → AHeap → Prop} (fo : Fok cx n true kd F) (hfs : F.fs = F.env :: outer) (hf : F.env.frame = some L)
    (vx : F.vis x = true) (hk : kd (slot F.nm x) = some .local ∨ kd (slot F.nm x) = some .cell) (t : St cx F m H s.heap)
    (hIt : Ev (Rep cx) cx F (eval iter F.env) m H s (fun v H => itemsW v (fun xs src => forW src st N xs m H) H) fun c H => X c m H)
    (hB : ∀ {y : PV} {K : NPost} {m' : Loc} {H : AHeap} {s : Shared}, St cx F (m'.set x (some y)) H s.heap → st y K m' H → EvS cx F (execs body F.env) H s K R X)
    (hs : ∀ x, foldedSetIterable iter F.env x = pure x) :
    EvS cx F (exec (.For (.Name (slot F.nm x) px) iter body [] pos) F.env) H s N R X := by
  refine wpAny_For (wpAny_mono hIt (fun xv s₁ h₁ => ?_) fun _ _ e => e.toS) hs
  obtain ⟨p, H₁, rv, t₁, k₁, hw⟩ := h₁
  have t₀ : cx.B.StaysIn s.heap := t.base
  refine iter_ok (F := F) rv t₁ hw fun I xs h' fI g it cI sr hl hc => ?_
  refine codeAny_forLoop (ForI cx F H₁ s₁ I xs p (forW (Src p xs) st N)) ?_ xs.length
    ⟨0, m, H₁, Nat.zero_le _, rfl, t₁.step (s' := { s₁ with heap := h' }) (.grow (tk := s₁.toks) g fun _ _ _ e => e) (t₁.heap.grow g), .grow (tk := s₁.toks) g (fun _ _ _ e => e), it, cI, hc⟩
  rintro k s' ⟨i, mk, Hk, hi, rfl, ti, ki, iti, ci, hw⟩
  by_cases hlt : i < xs.length
  · have hx1 : xs[i]? = some xs[i] := List.getElem?_eq_getElem hlt
    rw [List.drop_eq_getElem_cons hlt] at hw
    obtain ⟨sr, hw⟩ := hw
    refine next_ok ti iti sr ci hx1 fun v s₄ rv it₄ c₄ tc₄ => ?_
    obtain ⟨h₄, tk₄, rfl, k₄⟩ := id tc₄
    have t₄ : St cx F mk Hk h₄ := ti.touch ci k₄
    have kp₄ := ki.touch fI tc₄ ci.2.1
    refine wpAny_assign_Name (store_name (s := { s' with heap := h₄, toks := tk₄ }) fo vx hk t₄ rv fun s₅ t₅ kp₅ so₅ => ?_)
    obtain ⟨it₅, c₅⟩ := it₄.over kp₅ t₄ c₄
    refine wpAny_mono (hB t₅ hw) (fun f s₆ h₆ => ?_) fun v s₆ h₆ => ?_
    · cases f with
      | next =>
        obtain ⟨m₆, H₆, t₆, kp₆, h₆⟩ := h₆
        obtain ⟨it₆, c₆⟩ := it₅.over kp₆ t₅ c₅
        exact ⟨xs.length - (i + 1), by omega, i + 1, m₆, H₆, hlt, rfl, t₆, (kp₄.trans kp₅).trans kp₆, it₆, c₆, h₆⟩
      | ret v => exact OkS.older (f := .ret v) ((k₁.nil.trans kp₄).trans kp₅) h₆
      | brk => exact h₆.elim
      | cont => exact h₆.elim
    · exact noted_ok fo.fr hfs hf t₀ (h₆.older ((k₁.nil.trans kp₄).trans kp₅))
  · have hi' : i = xs.length := by omega
    subst hi'
    rw [List.drop_length] at hw
    obtain ⟨sr, hw⟩ := hw
    refine end_ok (fo.quiet rfl) ti iti sr (by simp) fun s₄ tc₄ => ?_
    obtain ⟨h₄, tk₄, rfl, k₄⟩ := id tc₄
    exact wpAny_execs_nil ⟨mk, Hk, ti.touch ci k₄, k₁.nil.trans (ki.touch fI tc₄ ci.2.1), hw⟩

noncomputable def Fm.mark (F : Fm) (e : Value) : Fm := { F with A := F.A.mark (some e) }
theorem St.mark {h : Heap} {v : Value} (t : St cx F m H h) : St cx (F.mark v) m H h := ⟨t.base, t.off, t.heap, t.frames, t.own, (let ⟨o, es, ep, mc, a, b, c, d⟩ := t.vars; ⟨o, es, ep, mc, a, b, c, d⟩), fun n c h => let ⟨a, b, o, x, d, e, f⟩ := t.cells n c h; ⟨a, b, o, x, d, e, f⟩⟩
theorem St.unmark {h : Heap} {v : Value} (t : St cx (F.mark v) m H h) : St cx F m H h := ⟨t.base, t.off, t.heap, t.frames, t.own, (let ⟨o, es, ep, mc, a, b, c, d⟩ := t.vars; ⟨o, es, ep, mc, a, b, c, d⟩), fun n c h => let ⟨a, b, o, x, d, e, f⟩ := t.cells n c h; ⟨a, b, o, x, d, e, f⟩⟩
theorem Fok.mark {v : Value} (fo : Fok cx n q kd F) : Fok cx n false kd (F.mark v) := ⟨fo.fr, fo.kind, fo.kdo, fo.glob, fo.bltn, fun q => (nomatch q), fo.depth, fo.units, fo.cells, fo.apart, fo.inj⟩
theorem OkS.unmark {v : Value} {N : NPost} {R : Post} {f : Flow} {s' : Shared} (x : OkS cx (F.mark v) H s N R f s') : OkS cx F H s N R f s' := by
  cases f with
  | next => obtain ⟨m', H', t, k', h⟩ := x; exact ⟨m', H', t.unmark, k', h⟩
  | ret v => obtain ⟨p, m', H', r, t, k', h⟩ := x; exact ⟨p, m', H', r, t.unmark, k', h⟩
  | _ => exact x.elim

/-- the caught error's name goes -/
theorem unbind_ok {y : Nat} {pos : Pos} {QQ : Unit → Shared → Prop} {E : Value → Shared → Prop} {A : Around} (fo : Fok cx n q kd F) (vy : F.vis y = true) (hk : kd (slot F.nm y) = some .local) (t : St cx F m H s.heap)
    (hQ : ∀ s', St cx F (m.set y none) H s'.heap → Kp cx (plc F) H s H s' → (∀ b o, s.heap.get? b = some o → Solid o → s'.heap.get? b = some o) → QQ () s') : wpAny cx.M A (do bindName F.env (slot F.nm y) .none; unbindBehindTheSuite F.env (slot F.nm y) pos) QQ E s := by
  have hl : F.env.kindOf (slot F.nm y) = some .local := by rw [fo.kdo]; exact hk
  obtain ⟨o, es, ep, mc, ho, hd, ns, _⟩ := t.vars
  have hp : (F.env.scope.kind == .class || (F.env.scope.kind == .module && F.env.locals != F.env.globals)) = false := by rw [fo.kind]; rfl
  refine wpAny_bind (wpAny_bindName (wpAny_storeName_local hl ns (fun h' ns' sb => ?_) hp))
  unfold unbindBehindTheSuite
  refine wpAny_onRaise ?_
  refine wpAny_unbindName_local hl ns' (v := .none) (by simp) hp fun h'' u ns'' sb' => ?_
  have kk : ∀ b o, b ≠ F.env.locals → s.heap.get? b = some o → h''.get? b = some o := fun b o n e => by rw [sb'.2 b n, sb.2 b n]; exact e
  have t' : St cx F (m.set y (some .none)) H h' := t.setLocal fo.inj vy hl ns ns' rfl sb .none
  have nsl : ∀ o, s.heap.get? F.env.locals = some o → ¬ Solid o := fun o' e => by rw [ho] at e; cases e; exact notSolid_dict hd
  have so : ∀ b o, s.heap.get? b = some o → Solid o → h''.get? b = some o := fun b o e so => kk b o (by rintro rfl; exact nsl o e so) e
  refine hQ _ ?_ (Kp.one (tk := s.toks + 1) (List.mem_cons_self ..) t.own.2 (let ⟨o, _, _, g, _⟩ := ns''; ⟨o, g⟩) kk) so
  have t₁ := t.forget y
  obtain ⟨o₁, es₁, ep₁, mc₁, ho₁, hd₁, ns₁, hv₁⟩ := t₁.vars
  have e0 : mc₁ = mc := funext (ns₁.agree ns)
  subst e0
  obtain ⟨o', es', ep', ho', hd', r'⟩ := id ns''
  refine ⟨fun b o e => kk b o (by rintro rfl; rw [t.own.2] at e; cases e) (t.base b o e), t.off, t.heap.keepBut t.own.1 kk nsl, fun env he => ?_, t.own, ⟨o', es', ep', _, ho', hd', ns'', fun i w h1 h2 h3 => ?_⟩, fun nn c hc' => ?_⟩
  · obtain ⟨hk, L, o1, es1, ep1, hf, hH, hb, ho1, hd1⟩ := t.frames env he
    by_cases q : L = F.env.locals
    · subst q; exact ⟨hk, _, o', es', ep', hf, hH, hb, ho', hd'⟩
    · exact ⟨hk, L, o1, es1, ep1, hf, hH, hb, kk L o1 q ho1, hd1⟩
  · obtain ⟨x, q, r⟩ := hv₁ i w h1 h2 h3
    have ne := (Loc.get_set0 h3).1
    have nn : slot F.nm i ≠ slot F.nm y := fun q => ne (fo.inj i y h1 vy q)
    exact ⟨x, by simp only [nn, if_false]; exact q, r.mono so⟩
  · obtain ⟨h1, h2, oc, z, hoc, hdc, hvc⟩ := t₁.cells nn c hc'
    have nc : c ≠ F.env.locals := by rintro rfl; rw [ho] at hoc; cases hoc; rw [hd] at hdc; cases hdc
    exact ⟨h1, h2, oc, z, kk c oc nc hoc, hdc, fun i w a b c' d => let ⟨z', q, r⟩ := hvc i w a b c' d; ⟨z', q, r.mono so⟩⟩
end
end Mine
end
section
open PySem PySem.Calls PyProof.Rows
namespace Mine
set_option autoImplicit false

section
variable {cx : Cx} {F : Fm} {m : Loc} {H H₁ : AHeap} {s s₁ : Shared} {kd : Kd} {n : Nat} {q : Bool} {e : Addr} {sc : Scope}

theorem St.touchAt {h h' : Heap} {I : Addr} (t : St cx F m H h) (hI : H I = none) (hB : cx.B.get? I = none) (ns : ∀ o, h.get? I = some o → ¬ Solid o) (nf : ∀ env ∈ F.fs, env.frame ≠ some I) (nl : F.env.locals ≠ I) (nc : ∀ n c, F.env.cells.lookup n = some c → c ≠ I)
    (k : ∀ b o, b ≠ I → h.get? b = some o → h'.get? b = some o) : St cx F m H h' := by
  have so : ∀ b o, h.get? b = some o → Solid o → h'.get? b = some o := fun b o e s => k b o (by rintro rfl; exact ns o e s) e
  refine ⟨fun b o e => k b o (by rintro rfl; rw [hB] at e; cases e) (t.base b o e), t.off, t.heap.keepBut hI k ns, fun env he => ?_, t.own, ?_, fun n c hc' => ?_⟩
  · obtain ⟨hk, L, o, es, ep, hf, hH, hb, ho, hd'⟩ := t.frames env he
    exact ⟨hk, L, o, es, ep, hf, hH, hb, k L o (by rintro rfl; exact nf env he hf) ho, hd'⟩
  · obtain ⟨o, es, ep, mc, ho, hd', ns', hv⟩ := t.vars
    exact ⟨o, es, ep, mc, k _ o nl ho, hd', ns'.at fun o e => k _ o nl e, fun i v h1 h2 h3 => let ⟨x, q, r⟩ := hv i v h1 h2 h3; ⟨x, q, r.mono so⟩⟩
  · obtain ⟨h1, h2, o, x, ho, hd', hv⟩ := t.cells n c hc'
    exact ⟨h1, h2, o, x, k c o (nc n c hc') ho, hd', fun i v a b c d => let ⟨y, q, r⟩ := hv i v a b c d; ⟨y, q, r.mono so⟩⟩

theorem assign_comp {elt iter : Expr} {ifs : List Expr} {x y : Nat} {px py pc pos : Pos} {N : NPost} {R : Post} {X : SXPost} {aT : BPost → Loc → AHeap → Prop} {aE : Post → Loc → AHeap → Prop}
    (fo : Fok cx n true kd F) (hsc : scOk kd (relab kd sc) sc (slot F.nm x) = true) (vy : F.vis y = true) (hky : kd (slot F.nm y) = some .local ∨ kd (slot F.nm y) = some .cell)
    (hIt : Ev (Rep cx) cx F (eval iter F.env) m H s (fun v H => itemsW v (fun xs src => compW src (fun y K H => aT (fun b H => if b then aE (fun v H => K [v] H) (m.set x (some y)) H else K [] H) (m.set x (some y)) H)
      (fun vs H => alloc (.list vs) (fun v H => N (m.set y (some v)) H) H) xs [] H) H) fun c H => X c m H)
    (hT : ∀ {cl : List (Str × Addr)} {C : Addr} {m' : Loc} {H : AHeap} {s : Shared} {Q : BPost}, Fok cx n true (relab kd sc) (compF F sc cl C x (relab kd sc)) → St cx (compF F sc cl C x (relab kd sc)) m' H s.heap → aT Q m' H →
      Ev IsBB cx (compF F sc cl C x (relab kd sc)) (testsSem ifs (compEnvC sc cl C F.env)) m' H s Q fun _ _ => False)
    (hE : ∀ {cl : List (Str × Addr)} {C : Addr} {m' : Loc} {H : AHeap} {s : Shared} {Q : Post}, Fok cx n true (relab kd sc) (compF F sc cl C x (relab kd sc)) → St cx (compF F sc cl C x (relab kd sc)) m' H s.heap → aE Q m' H →
      Ev (Rep cx) cx (compF F sc cl C x (relab kd sc)) (eval elt (compEnvC sc cl C F.env)) m' H s Q fun _ _ => False)
    (hs : ∀ x, foldedSetIterable iter F.env x = pure x) :
    EvS cx F (exec (.Assign [.Name (slot F.nm y) py] (.ListComp elt [⟨.Name (slot F.nm x) px, iter, ifs, 0⟩] sc pc) pos) F.env) H s N R X := by
  obtain ⟨b, hb⟩ : ∃ b, swapsWith (.ListComp elt [⟨.Name (slot F.nm x) px, iter, ifs, 0⟩] sc pc) (some (.Name (slot F.nm y) py)) pos.line F.env = pure b := ⟨_, rfl⟩
  cases b with
  | false =>
    refine wpAny_Assign_Name (wpAny_mono (comp_ok fo hsc hIt hT hE hs) (fun v s₁ h₁ => ?_) fun _ _ e => e.toS) hb
    obtain ⟨p, H₁, rv, t₁, k₁, hN⟩ := h₁
    exact store_name fo vy hky t₁ rv fun s' t' kp' _ => ⟨_, _, t', k₁.nil.trans kp', hN⟩
  | true =>
    have hsc' := hsc
    unfold scOk at hsc'
    simp only [Bool.and_eq_true, beq_iff_eq, decide_eq_true_eq] at hsc'
    obtain ⟨⟨⟨⟨⟨⟨⟨hkind, _⟩, _⟩, hnc⟩, hloc⟩, hfr⟩, hx⟩, _⟩ := hsc'
    obtain ⟨cl, hclos, hcl1, hcl2⟩ := closure_ok fo.cells hfr
    have hnames : ∀ y ∈ sc.names, y.2 = .local → sc.names.lookup y.1 = some .local := fun y hy hl => by
      have := List.all_eq_true.mp hloc y hy
      simp [hl] at this; exact this
    unfold EvS
    rw [exec_Assign_Name_used _ _ _ _ hb]
    refine wpAny_bind (wpAny_standAt (wpAny_bind ?_))
    show wpAny _ F.A (do let _ ← comprehension (.ListComp elt [⟨.Name (slot F.nm x) px, iter, ifs, 0⟩] sc pc) sc F.env _ (newList []) false (eval iter F.env) (some (assign (.Name (slot F.nm y) py) F.env))) _ _ s
    refine wpAny_bind (wpAny_mono (wpAny_comprehension_free (use := some (assign (.Name (slot F.nm y) py) F.env)) (Q := fun _ s' => OkS cx F H s N R .next s') rfl hs hclos hkind hnames
      (wpAny_mono hIt (fun xv s₁ h₁ => ?_) fun _ _ e => e.toS)) (fun _ s' hq => wpAny_pure (wpAny_pure hq)) fun _ _ e => e)
    obtain ⟨p, H₁, rv, t₁, k₁, hw⟩ := h₁
    refine iter_ok (F := F) rv t₁ hw fun I xs h' fI g it cI sr hl hc => ?_
    refine comp_block (RR := fun acc C => compPost cx.M F.A _ (some (assign (.Name (slot F.nm y) py) F.env)) _ acc C) fo hsc hcl1 hcl2 hT hE t₁ rfl g fI it cI hl hc ?_
    intro D C s' H' vs mc fC fD hDC ns hD hHD hHC hh k hq
    obtain ⟨t₂, k₂, hN⟩ := comp_fin' t₁ fC fD hDC ns hD hHD hHC hh k hq (Heap.SameBut.refl C s'.heap)
    refine wpAny_assign_Name (store_name fo vy hky t₂ (.obj D) fun s'' t'' kp'' _ => ?_)
    have bC : cx.B.get? C = none := by
      cases e : cx.B.get? C with
      | none => rfl
      | some o => rw [t₁.base _ _ e] at fC; cases fC
    have hH₂C : upd H' D (.list vs) C = none := by rw [upd_ne (Ne.symm hDC)]; exact hHC
    obtain ⟨oC, es, ep, gC, dC, rC⟩ := ns
    have npl : C ∉ plc F := fun hm => by
      rcases List.mem_cons.mp hm with q | hm
      · obtain ⟨o, _, _, _, g, _⟩ := t₁.vars; rw [← q, fC] at g; cases g
      · obtain ⟨p, _, hl⟩ := List.mem_filterMap.mp hm
        obtain ⟨_, _, o, _, g, _⟩ := t₁.cells _ C hl; rw [fC] at g; cases g
    obtain ⟨hC'', oC'', gC'', sm⟩ := kp''.keep C oC gC npl hH₂C
    refine ⟨mc, ⟨oC'', es, ep, gC'', sm.data.trans dC, rC⟩, fun h'' sb => ?_⟩
    have kk : ∀ b o, b ≠ C → s''.heap.get? b = some o → h''.get? b = some o := fun b o n e => by rw [sb.2 b n]; exact e
    have kp₀ : Kp cx (plc F) H s (upd H' D (.list vs)) { s'' with heap := h'' } := by
      have a : Kp cx (plc F) H₁ s₁ (upd H' D (.list vs)) s'' := k₂.nil.trans kp''
      exact k₁.nil.trans (a.touch (I := C) fC ⟨h'', s''.toks, rfl, kk⟩ bC)
    refine ⟨_, _, t''.touchAt (I := C) hC'' bC (fun o e => ?_) (fun env he hf => ?_) (fun q => ?_) (fun nn c hl q => ?_) kk, kp₀, hN⟩
    · rw [gC''] at e; cases e; exact notSolid_dict (sm.data.trans dC)
    · obtain ⟨_, L, o, _, _, hf', _, _, g, _⟩ := t₁.frames env he
      rw [hf] at hf'; cases hf'; rw [fC] at g; cases g
    · exact npl (by rw [← q]; exact List.mem_cons_self ..)
    · exact npl (by rw [← q]; exact mem_plc_cell hl)
end
end Mine
end
section
open PySem PySem.Calls PyProof.Rows
namespace Mine
set_option autoImplicit false
set_option linter.unusedSectionVars false
set_option linter.unusedVariables false

section
variable {cx : Cx} {g : Gl} {fl : List Str} {mg mb : Str → Option Value} {n : Nat}

theorem swaps_none (nm : List Str) (e : AE) (t : Option Expr) (l : Nat) (env : Env) (h : isComp e = false) : swapsWith (e.toE nm) t l env = pure false := by
  cases e with
  | comp => simp [isComp] at h
  | _ => rfl
theorem stores_none (nm : List Str) (e : AE) (xs : List Expr) (k : Nat) (p : Pos) (env : Env) (h : isTup e = false) : swappedStores [.Tuple xs k p] (e.toE nm) env = pure none := by
  cases e with
  | tup => simp [isTup] at h
  | _ => rfl
theorem noninter {F : Fm} {kd : Kd} {q : Bool} (fo : Fok cx n q kd F) : interactive F.env = false := by unfold interactive; rw [fo.kind]; rfl
theorem stOk_of {nm : List Str} {vis : Nat → Bool} {kd : Kd} {x : Nat} (h : stOk nm vis kd x = true) : vis x = true ∧ (kd (slot nm x) = some .local ∨ kd (slot nm x) = some .cell) := by
  simpa [stOk] using h

variable (ck : Cok cx g fl mg mb n)
include ck
mutual
theorem soundS : ∀ (st : AS) {F : Fm} {kd : Kd} {q : Bool} {m : Loc} {H : AHeap} {s : Shared} {N : NPost} {R : Post} {X : SXPost} {outer : List Env} {L : Addr}, Fok cx n q kd F → F.fs = F.env :: outer → F.env.frame = some L → okS fl F.nm F.vis kd q st = true → St cx F m H s.heap →
    awpS g st N R X m H → EvS cx F (exec (st.toS F.nm) F.env) H s N R X
  | .expr e p, F, kd, q, m, H, s, N, R, X, outer, L, fo, hfs, hf, ok, t, h => by
    simp only [okS, Bool.and_eq_true, Bool.not_eq_true'] at ok
    refine wpAny_Expr_any (wpAny_mono (soundE ck e fo ok.1 t h) (fun v s₁ h₁ => ?_) fun _ _ e => e.toS) (noninter fo) (swaps_none _ _ _ _ _ ok.2)
    obtain ⟨p, H₁, rv, t₁, k₁, h₁⟩ := h₁
    exact ⟨m, H₁, t₁, k₁.nil, h₁⟩
  | .assign x px e p, F, kd, q, m, H, s, N, R, X, outer, L, fo, hfs, hf, ok, t, h => by
    simp only [okS, Bool.and_eq_true] at ok
    obtain ⟨vx, hk⟩ := stOk_of ok.2
    by_cases hc : isComp e = true
    · cases e with
      | comp elt y py it cs sc pc =>
        have ok1 := ok.1
        simp only [okE, Bool.and_eq_true, decide_eq_true_eq] at ok1
        obtain ⟨⟨⟨⟨⟨hit, hsc⟩, he⟩, hcs⟩, hlen⟩, rfl⟩ := ok1
        refine assign_comp (aT := fun Q m H => awpC g cs Q (fun _ _ => False) m H) (aE := fun Q m H => awpE g elt Q (fun _ _ => False) m H) fo hsc vx hk (soundE ck it fo hit t h) (fun {cl C m' H s Q} fo' t' h' => ?_) (fun {cl C m' H s Q} fo' t' h' => ?_) (folded_ok _ _ _)
        · exact soundC ck cs fo' hcs hlen t' h'
        · exact soundE ck elt fo' he t' h'
      | _ => simp [isComp] at hc
    · refine wpAny_Assign_Name (wpAny_mono (soundE ck e fo ok.1 t h) (fun v s₁ h₁ => ?_) fun _ _ e => e.toS) (swaps_none _ _ _ _ _ (by simpa using hc))
      obtain ⟨p, H₁, rv, t₁, k₁, hN⟩ := h₁
      exact store_name fo vx hk t₁ rv fun s' t' kp' _ => ⟨_, _, t', k₁.nil.trans kp', hN⟩
  | .assignT xs k pt e p, F, kd, q, m, H, s, N, R, X, outer, L, fo, hfs, hf, ok, t, h => by
    simp only [okS, Bool.and_eq_true, Bool.not_eq_true'] at ok
    obtain ⟨⟨⟨⟨rfl, he⟩, hc⟩, htp⟩, hxs⟩ := ok
    refine wpAny_Assign_stores (wpAny_mono (soundE ck e fo he t h) (fun v s₁ h₁ => ?_) fun _ _ e => e.toS) (by rw [show swapsWithSole [Expr.Tuple (xs.map fun x => Expr.Name (slot F.nm x.1) x.2) k pt] (AE.toE F.nm e) p.line F.env = swapsWith (AE.toE F.nm e) (some (Expr.Tuple (xs.map fun x => Expr.Name (slot F.nm x.1) x.2) k pt)) p.line F.env by unfold swapsWithSole; rfl]; exact swaps_none _ _ _ _ _ hc) (stores_none _ _ _ _ _ _ htp)
    obtain ⟨pv, H₁, rv, t₁, k₁, hu⟩ := h₁
    cases pv with
    | tup ys =>
      obtain ⟨hyl, hN⟩ := hu
      cases rv with
      | tup ge hle rs =>
        have nl := names_len F.nm F.env xs
        refine wpAny_assign_Tuple (x1 := k) (fo.quiet rfl) ⟨_, ge, rfl, _, rfl⟩ (by rw [nl.1, ← hyl, ← rs.length]; simp) nl.2 fun h' ex => ?_
        have g : ∀ b o, s₁.heap.get? b = some o → h'.get? b = some o := fun b o e => ex b o (Nat.ne_of_lt (Heap.lt_size e)) e
        have kp : Kp cx (plc F) H₁ s₁ H₁ { s₁ with heap := h' } := .grow (tk := s₁.toks) g fun _ _ _ e => e
        have kp0 : Kp cx [] H₁ s₁ H₁ { s₁ with heap := h' } := .grow (tk := s₁.toks) g fun _ _ _ e => e
        refine names_ok (s := { s₁ with heap := h' }) fo xs ys _ hyl.symm (fun x hx => stOk_of (List.all_eq_true.mp hxs x hx)) (rs.mono fun b o e _ => g b o e) (t₁.step kp0 (t₁.heap.grow g)) fun s' t' k' => ?_
        exact ⟨_, _, t', (k₁.nil.trans kp).trans k', hN⟩
    | _ => exact hu.elim
  | .store o i ps e p, F, kd, q, m, H, s, N, R, X, outer, L, fo, hfs, hf, ok, t, h => by
    simp only [okS, Bool.and_eq_true, Bool.not_eq_true'] at ok
    obtain ⟨⟨⟨ho, hi⟩, he⟩, hc⟩ := ok
    refine wpAny_Assign_Subscript (wpAny_mono (soundE ck e fo he t h) (fun v s₁ h₁ => ?_) fun _ _ e => e.toS) (swaps_none _ _ _ _ _ hc)
    obtain ⟨pv, H₁, rv, t₁, k₁, h₁⟩ := h₁
    refine wpAny_mono (soundE ck o fo ho t₁ h₁) (fun ov s₂ h₂ => ?_) fun _ _ e => (e.older k₁).toS
    obtain ⟨po, H₂, ro, t₂, k₂, h₂⟩ := h₂
    refine wpAny_mono (soundE ck i fo hi t₂ h₂) (fun iv s₃ h₃ => ?_) fun _ _ e => (e.older (k₁.trans k₂)).toS
    obtain ⟨pi, H₃, ri, t₃, k₃, h₃⟩ := h₃
    have so₂ := k₂.solid0 t₁.heap
    have so₃ := k₃.solid0 t₂.heap
    refine wpAny_mono (store_ok (X := fun c H => X c m H) (ro.mono so₃) ri ((rv.mono so₂).mono so₃) t₃ h₃) (fun _ s₄ h₄ => ?_) fun _ _ e => (e.older ((k₁.trans k₂).trans k₃)).toS
    obtain ⟨_, H₄, _, t₄, k₄, h₄⟩ := h₄
    exact ⟨m, H₄, t₄, (((k₁.trans k₂).trans k₃).trans k₄).nil, h₄⟩
  | .sattr .., F, kd, q, m, H, s, N, R, X, outer, L, fo, hfs, hf, ok, t, h => by simp [okS] at ok
  | .ite c a b p, F, kd, q, m, H, s, N, R, X, outer, L, fo, hfs, hf, ok, t, h => by
    simp only [okS, Bool.and_eq_true] at ok
    obtain ⟨⟨hc, ha⟩, hb⟩ := ok
    refine wpAny_bind (wpAny_standAt ?_)
    refine EvS.after (soundB ck c fo hc (fun t h => soundE ck c fo hc t h) t h) fun v b' s₁ H₁ rv t₁ k₁ h₁ => ?_
    have rv : v = b' := rv
    subst rv
    cases v with
    | true => exact soundSs a fo hfs hf ha t₁ (by simpa using h₁)
    | false => exact soundSs b fo hfs hf hb t₁ (by simpa using h₁)
  | .for x px it b p, F, kd, q, m, H, s, N, R, X, outer, L, fo, hfs, hf, ok, t, h => by
    simp only [okS, Bool.and_eq_true] at ok
    obtain ⟨⟨⟨rfl, hit⟩, hx⟩, hb⟩ := ok
    obtain ⟨vx, hk⟩ := stOk_of hx
    exact for_ok (st := fun y K m H => awpSs g b K R X (m.set x (some y)) H) fo hfs hf vx hk t (soundE ck it fo hit t h) (fun t' h' => soundSs b fo hfs hf hb t' h') (folded_ok _ _ _)
  | .while c b p, F, kd, q, m, H, s, N, R, X, outer, L, fo, hfs, hf, ok, t, h => by
    simp only [okS, Bool.and_eq_true] at ok
    obtain ⟨⟨rfl, hc⟩, hb⟩ := ok
    obtain ⟨I, ⟨k, hI⟩, hstep⟩ := h
    refine wpAny_While (codeAny_whileLoop (fun k s' => ∃ m' H', St cx F m' H' s'.heap ∧ Kp cx (plc F) H s H' s' ∧ I k m' H') ?_ k ⟨m, H, t, .refl _ _ _ _, hI⟩)
    rintro k s' ⟨m', H', t', k', hI'⟩
    refine wpAny_mono (soundB ck c fo hc (fun t h => soundE ck c fo hc t h) t' (hstep k m' H' hI')) (fun v s₁ h₁ => ?_) fun v s₁ h₁ => ?_
    · obtain ⟨b', H₁, rv, t₁, k₁, h₁⟩ := h₁
      have rv : v = b' := rv
      subst rv
      cases v with
      | true =>
        simp only [if_true] at h₁ ⊢
        refine wpAny_mono (soundSs b fo hfs hf hb t₁ h₁) (fun f s₂ h₂ => ?_) fun v s₂ h₂ => ?_
        · have h₂ := OkS.older (k'.trans k₁.nil) h₂
          cases f with
          | next => obtain ⟨m₂, H₂, t₂, k₂, j, hj, hI₂⟩ := h₂; exact ⟨j, hj, m₂, H₂, t₂, k₂, hI₂⟩
          | ret v => exact h₂
          | brk => exact h₂.elim
          | cont => exact h₂.elim
        · exact noted_ok fo.fr hfs hf t.base (ErS.older (k'.trans k₁.nil) h₂)
      | false =>
        simp only [Bool.false_eq_true, if_false] at h₁ ⊢
        exact wpAny_execs_nil ⟨m', H₁, t₁, k'.trans k₁.nil, h₁⟩
    · exact noted_ok fo.fr hfs hf t.base (ErS.older k' (ErP.toS h₁))
  | .ret e p, F, kd, q, m, H, s, N, R, X, outer, L, fo, hfs, hf, ok, t, h => by
    refine wpAny_Return_some (wpAny_mono (soundE ck e fo ok t h) (fun v s₁ h₁ => ?_) fun _ _ e => e.toS)
    obtain ⟨p, H₁, rv, t₁, k₁, h₁⟩ := h₁
    exact ⟨p, m, H₁, rv, t₁, k₁.nil, h₁⟩
  | .ret0 p, F, kd, q, m, H, s, N, R, X, outer, L, fo, hfs, hf, ok, t, h => wpAny_Return_none ⟨.none, m, H, .none, t, .refl _ _ _ _, h⟩
  | .raise c x msg k pc pm pk p, F, kd, q, m, H, s, N, R, X, outer, L, fo, hfs, hf, ok, t, h => by
    simp only [okS, Bool.and_eq_true, beq_iff_eq] at ok
    obtain ⟨⟨rfl, hx⟩, ho⟩ := ok
    exact ck.rais fo hx ho t fun e s' y t' k' => ⟨e, c, m, H, rfl, y, t', k'.nil, h⟩
  | .try b hs p, F, kd, q, m, H, s, N, R, X, outer, L, fo, hfs, hf, ok, t, h => by
    simp only [okS, Bool.and_eq_true, Bool.not_eq_true'] at ok
    obtain ⟨⟨⟨rfl, hb⟩, hh⟩, hnil⟩ := ok
    cases hs with
    | nil => simp [AHs.isNil] at hnil
    | cons k x px y b' p' hs' =>
      have hsb : EvS cx F (execs (b.toSs F.nm) F.env) H s N R (fun c m H => awpHs g (.cons k x px y b' p' hs') c N R m H) := soundSs b fo hfs hf hb t h
      refine wpAny_Try_except (wpAny_mono hsb (fun f s₁ h₁ => ?_) fun v s₁ h₁ => ?_)
      · cases f with
        | next => exact wpAny_execs_nil h₁
        | ret v => exact h₁
        | brk => exact h₁
        | cont => exact h₁
      · obtain ⟨e, c, m', H', rfl, y', t', k', h'⟩ := h₁
        refine note_ok fo.fr hfs hf t' k' t.base y' fun s₂ t₂ k₂ x₂ => ?_
        refine unflight_ok t₂ k₂ t.base x₂ fun s₃ t₃ k₃ x₃ => ?_
        exact soundHs (.cons k x px y b' p' hs') fo hfs hf hh t₃ t.base k₃ x₃ h'
theorem soundSs : ∀ (ss : ASs) {F : Fm} {kd : Kd} {q : Bool} {m : Loc} {H : AHeap} {s : Shared} {N : NPost} {R : Post} {X : SXPost} {outer : List Env} {L : Addr}, Fok cx n q kd F → F.fs = F.env :: outer → F.env.frame = some L → okSs fl F.nm F.vis kd q ss = true → St cx F m H s.heap →
    awpSs g ss N R X m H → EvS cx F (execs (ss.toSs F.nm) F.env) H s N R X
  | .nil, F, kd, q, m, H, s, N, R, X, outer, L, fo, hfs, hf, ok, t, h => wpAny_execs_nil ⟨m, H, t, .refl _ _ _ _, h⟩
  | .cons st ss, F, kd, q, m, H, s, N, R, X, outer, L, fo, hfs, hf, ok, t, h => by
    simp only [okSs, Bool.and_eq_true] at ok
    exact EvS.seq (soundS st fo hfs hf ok.1 t h) fun m₁ s₁ H₁ t₁ h₁ => soundSs ss fo hfs hf ok.2 t₁ h₁
theorem soundHs : ∀ (hs : AHs) {F : Fm} {kd : Kd} {m : Loc} {H H₀ : AHeap} {s s₀ : Shared} {N : NPost} {R : Post} {outer : List Env} {L e : Addr} {c : Nat} {E : Value → Shared → Prop}, Fok cx n true kd F → F.fs = F.env :: outer → F.env.frame = some L → okHs fl F.nm F.vis kd hs = true → St cx F m H s.heap →
    cx.B.StaysIn s₀.heap → Kp cx (plc F) H₀ s₀ H s → ExcOut cx s₀.heap s.heap e c → awpHs g hs c N R m H → wpAny cx.M F.A (handleBy (.ref e) F.env (hs.toHs F.nm)) (OkS cx F H₀ s₀ N R) E s
  | .nil, F, kd, m, H, H₀, s, s₀, N, R, outer, L, e, c, E, fo, hfs, hf, ok, t, t₀, k, x, h => by simp [awpHs] at h
  | .cons kc xn px y b p hs, F, kd, m, H, H₀, s, s₀, N, R, outer, L, e, c, E, fo, hfs, hf, ok, t, t₀, k, x, h => by
    simp only [okHs, Bool.and_eq_true, beq_iff_eq, Bool.not_eq_true'] at ok
    obtain ⟨⟨⟨⟨⟨hg, ho⟩, hy⟩, hb⟩, hnil⟩, hhs⟩ := ok
    obtain ⟨C, hC, hm⟩ := ck.own xn kc ho
    have fo' : Fok cx n false kd (F.mark (.ref e)) := fo.mark
    refine wpAny_handleBy_cons (codeAny_handlers_test (glob_ok (F := F.mark (.ref e)) fo' hg t.mark ck.gns hm ?_)) (by intro q; cases q)
    refine ck.mats t.base x.rep hC fun tk => ?_
    have k' : Kp cx (plc F) H₀ s₀ H { s with toks := tk } := k.trans (.grow (fun _ _ e => e) fun _ _ _ e => e)
    have h' := h
    simp only [awpHs] at h'
    cases hsub : isSub c kc with
    | false =>
      rw [hsub] at h'
      simp only [Bool.false_eq_true, if_false] at h'
      exact soundHs hs (s := { s with toks := tk }) fo hfs hf hhs t t₀ k' x h'
    | true =>
      rw [hsub] at h'
      simp only [if_true] at h'
      cases b with
      | nil => simp [ASs.isNil] at hnil
      | cons b₀ bs =>
        cases y with
        | none =>
          refine codeAny_handlers_suite ?_
          refine unflight_ok (s₁ := { s with toks := tk }) t k' t₀ x fun s₂ t₂ k₂ x₂ => ?_
          have := soundSs (.cons b₀ bs) (F := F.mark (.ref e)) fo' hfs hf hb t₂.mark h'
          exact wpAny_mono this (fun f s₃ h₃ => (OkS.unmark h₃).older k₂) fun _ _ ⟨_, _, _, _, _, _, _, _, f⟩ => f.elim
        | some y =>
          simp only [Bool.and_eq_true, beq_iff_eq] at hy
          refine codeAny_handlers_suite_as ?_
          refine unflight_ok (s₁ := { s with toks := tk }) t k' t₀ x fun s₂ t₂ k₂ x₂ => ?_
          refine store_name fo hy.1 (.inl hy.2) t₂ x₂.rep fun s₃ t₃ k₃ _ => ?_
          have := soundSs (.cons b₀ bs) (F := F.mark (.ref e)) fo' hfs hf hb t₃.mark h'
          refine wpAny_mono this (fun f s₄ h₄ => ?_) fun _ _ ⟨_, _, _, _, _, _, _, _, f⟩ => f.elim
          have h₅ := (OkS.unmark h₄).older (k₂.trans k₃)
          cases f with
          | next =>
            obtain ⟨m₅, H₅, t₅, k₅, hN⟩ := h₅
            exact unbind_ok fo hy.1 hy.2 t₅ fun s₆ t₆ k₆ _ => ⟨_, _, t₆, k₅.trans k₆, hN⟩
          | ret v =>
            obtain ⟨p, m₅, H₅, r₅, t₅, k₅, hR⟩ := h₅
            exact unbind_ok fo hy.1 hy.2 t₅ fun s₆ t₆ k₆ so => ⟨p, _, _, r₅.mono so, t₆, k₅.trans k₆, hR⟩
          | brk => exact h₅.elim
          | cont => exact h₅.elim
end
end
end Mine
end
section
open PySem PySem.Calls PyProof.Rows
namespace Mine
set_option autoImplicit false

structure FnOk (cx : Cx) (fl : List Str) (fd : FuncData) (nm : List Str) (np k : Nat) (kd : Kd) (body : ASs) : Prop where
  glob : fd.globals = cx.ga
  bltn : fd.builtins = cx.ba
  clo : fd.closure = []
  co : fd.scope.isCoroutine = false
  gen : fd.scope.isGenerator = false
  kind : fd.scope.kind = .function
  kdo : kd = fun x => fd.scope.names.lookup x
  nofree : (fd.scope.names.all fun p => p.2 != .free) = true
  bdy : fd.body = .stmts (body.toSs nm)
  bind : ∀ vals : List Value, vals.length = np → bindArgs fd ⟨vals, []⟩ = pure ((nm.take np).zip vals)
  nodup : (nm.take k).Nodup
  le : np ≤ k ∧ k ≤ nm.length
  pkind : ((nm.take np).all fun x => fd.scope.names.lookup x == some .local || fd.scope.names.lookup x == some .cell) = true
  okb : okSs fl nm (fun i => decide (i < k)) (fun x => fd.scope.names.lookup x) true body = true

section
variable {kindOf : Str → Option NameKind}
theorem bindL_other {y : Str} : ∀ (bs : List (Str × Value)) (m : Str → Option Value), y ∉ bs.map (·.1) → bindL kindOf bs m y = m y
  | [], _, _ => rfl
  | (x, v) :: r, m, h => by
    simp only [List.map_cons, List.mem_cons, not_or] at h
    unfold bindL
    rw [bindL_other r _ h.2]
    split
    · simp [h.1]
    · rfl
theorem bindC_other {y : Str} : ∀ (bs : List (Str × Value)) (m : Str → Option Value), y ∉ bs.map (·.1) → bindC kindOf bs m y = m y
  | [], _, _ => rfl
  | (x, v) :: r, m, h => by
    simp only [List.map_cons, List.mem_cons, not_or] at h
    unfold bindC
    rw [bindC_other r _ h.2]
    split
    · rfl
    · simp [h.1]
theorem bindL_at {y : Str} {v : Value} (hk : kindOf y = some .local) : ∀ (bs : List (Str × Value)) (m : Str → Option Value), (bs.map (·.1)).Nodup → (y, v) ∈ bs → bindL kindOf bs m y = some v
  | [], _, _, h => by simp at h
  | (x, w) :: r, m, hn, h => by
    simp only [List.map_cons, List.nodup_cons] at hn
    unfold bindL
    rcases List.mem_cons.mp h with e | h
    · cases e
      rw [bindL_other r _ hn.1, if_pos hk]; simp
    · exact bindL_at hk r _ hn.2 h
theorem bindC_at {y : Str} {v : Value} (hk : kindOf y ≠ some .local) : ∀ (bs : List (Str × Value)) (m : Str → Option Value), (bs.map (·.1)).Nodup → (y, v) ∈ bs → bindC kindOf bs m y = some v
  | [], _, _, h => by simp at h
  | (x, w) :: r, m, hn, h => by
    simp only [List.map_cons, List.nodup_cons] at hn
    unfold bindC
    rcases List.mem_cons.mp h with e | h
    · cases e
      rw [bindC_other r _ hn.1, if_neg hk]; simp
    · exact bindC_at hk r _ hn.2 h
end

theorem cellsFrom_has {x : Str} : ∀ (names : List (Str × NameKind)) (n : Nat) (acc : List (Str × Addr)), ((x, NameKind.cell) ∈ names ∨ (acc.lookup x).isSome = true) → ((cellsFrom n names acc).lookup x).isSome = true
  | [], _, acc, h => by rcases h with h | h; simp at h; exact h
  | (y, k) :: r, n, acc, h => by
    unfold cellsFrom
    split
    · refine cellsFrom_has r _ _ ?_
      rcases h with h | h
      · rcases List.mem_cons.mp h with e | h
        · cases e; right; simp
        · exact .inl h
      · right; rw [List.lookup_cons]; split <;> simp_all
    · rename_i hk
      refine cellsFrom_has r _ _ ?_
      rcases h with h | h
      · rcases List.mem_cons.mp h with e | h
        · cases e; simp at hk
        · exact .inl h
      · exact .inr h
theorem lookup_mem {α : Type} {l : List (Str × α)} {x : Str} {k : α} (h : l.lookup x = some k) : (x, k) ∈ l := mem_of_lookup h

noncomputable def initL (nm : List Str) (np : Nat) (ps : List PV) : Loc := ps.map some ++ List.replicate (nm.length - np) none

section
variable {cx : Cx} {g : Gl} {fl : List Str} {mg mb : Str → Option Value} {n : Nat}

theorem call_fn (ck : Cok cx g fl mg mb n) {fd : FuncData} {nm : List Str} {np k : Nat} {kd : Kd} {body : ASs} {a : Addr} {o : Obj} (fn : FnOk cx fl fd nm np k kd body) (lim : cx.B.NoLimit) (ho : cx.B.get? a = some o) (hd : o.data = .func fd) (hcd : cx.B.CodeRec fd.code fd.qualname)
    {F : Fm} {kdF : Kd} {m : Loc} {H : AHeap} {s : Shared} {vs : List Value} {ps : List PV} {Q : Post} {X : XPost} (fF : Fok cx (n + 1) true kdF F) (rs : RepL cx s.heap vs ps) (hlen : ps.length = np) (t : St cx F m H s.heap)
    (h : awpSs g body (fun _ H => Q .none H) Q (fun c _ H => X c H) (initL nm np ps) H) : Ev (Rep cx) cx F (call (.ref a) vs []) m H s Q X := by
  have hvl : vs.length = np := by rw [rs.length]; exact hlen
  have hdep := fF.depth
  have huni := fF.units
  have fresh : ∀ b, s.heap.objs.size ≤ b → s.heap.get? b = none := fun b hb => get_ge_none hb
  have bnone : ∀ b, s.heap.objs.size ≤ b → cx.B.get? b = none := fun b hb => by
    cases e : cx.B.get? b with
    | none => rfl
    | some o => have := fresh b hb; rw [t.base _ _ e] at this; cases this
  have hnd : ((nm.take np).Nodup) := by
    have h1 : nm.take np = (nm.take k).take np := by rw [List.take_take, Nat.min_eq_left fn.le.1]
    rw [h1]; exact fn.nodup.sublist (List.take_sublist _ _)
  have htl : (nm.take np).length = np := by rw [List.length_take]; have := fn.le; omega
  have hmapz : ((nm.take np).zip vs).map (·.1) = nm.take np := by rw [List.map_fst_zip]; omega
  refine wpAny_call (codeAny_call_cells (binds := (nm.take np).zip vs) (by show _ < 1000; omega) (t.base _ _ ho) hd (lim.keeps t.base) (hcd.keeps t.base) fn.bdy (fn.bind vs hvl) fn.clo (fun x hx => ?_) (fun s₁ ic => ?_) fn.co fn.gen fn.kind)
  · have hx1 : x.1 ∈ nm.take np := by rw [← hmapz]; exact List.mem_map_of_mem hx
    have := List.all_eq_true.mp fn.pkind x.1 hx1
    simp only [Bool.or_eq_true, beq_iff_eq] at this
    rcases this with h1 | h1
    · exact .inl h1
    · exact .inr ⟨h1, cellsFrom_has _ _ _ (.inl (lookup_mem h1))⟩
  · generalize hEnv : callEnvC fd s.heap.objs.size a = env at ic ⊢
    have eL : env.locals = s.heap.objs.size := by rw [← hEnv]; rfl
    have eF : env.frame = some s.heap.objs.size := by rw [← hEnv]; rfl
    have eK : env.kindOf = fun x => fd.scope.names.lookup x := by rw [← hEnv]; rfl
    have eC : env.cells = cellsFrom (s.heap.objs.size + 1) fd.scope.names [] := by rw [← hEnv]; rfl
    have eG : env.globals = cx.ga := by rw [← hEnv, ← fn.glob]; rfl
    have eB : env.builtins = cx.ba := by rw [← hEnv, ← fn.bltn]; rfl
    have eS : env.scope.kind = .function := by rw [← hEnv]; exact fn.kind
    have eD : fd.scope.names = env.scope.names := by rw [← hEnv]; rfl
    clear hEnv
    have keep := ic.toInCall.keep
    have so : ∀ b o, s.heap.get? b = some o → Solid o → s₁.heap.get? b = some o := fun b o e _ => keep b o e
    let F' : Fm := { A := F.A.deeper env, env := env, fs := env :: F.fs, nm := nm, vis := fun i => decide (i < k) }
    have memz : ∀ i v, i < k → (initL nm np ps).getD i none = some v → ∃ x, (slot nm i, x) ∈ (nm.take np).zip vs ∧ Rep cx s₁.heap x v := fun i v hi hv => by
      have hlt : i < np := by
        apply Classical.byContradiction
        intro hge
        have : (initL nm np ps).getD i none = none := by
          unfold initL
          rw [List.getD_eq_getElem?_getD, List.getElem?_append_right (by simp; omega)]
          cases e : (List.replicate (nm.length - np) (none : Option PV))[i - (ps.map some).length]? with
          | none => rfl
          | some o => rw [List.getElem?_replicate] at e; split at e <;> simp_all
        rw [this] at hv; cases hv
      have hp : ps[i]? = some v := by
        unfold initL at hv
        rw [List.getD_eq_getElem?_getD, List.getElem?_append_left (by simp; omega)] at hv
        rw [List.getElem?_map] at hv
        cases e : ps[i]? with
        | none => rw [e] at hv; simp at hv
        | some w => rw [e] at hv; simp at hv; rw [hv]
      obtain ⟨x, ex, rx⟩ := rs.get hp
      refine ⟨x, ?_, rx.mono so⟩
      have hin : i < nm.length := by have := fn.le; omega
      have e1 : (nm.take np)[i]? = some (slot nm i) := by
        rw [List.getElem?_take, if_pos hlt]
        unfold slot
        rw [List.getD_eq_getElem?_getD, List.getElem?_eq_getElem hin]; rfl
      have : ((nm.take np).zip vs)[i]? = some (slot nm i, x) := by rw [List.getElem?_zip_eq_some]; exact ⟨e1, ex⟩
      exact List.mem_of_getElem? this
    have fo' : Fok cx n true kd F' := by
      refine ⟨?_, eS, by rw [fn.kdo]; exact eK, eG, eB, fun _ => fF.quiet rfl, ?_, ?_, fun x hx => ?_, fun x y c h1 h2 => ?_, fun i j hi hj e => ?_⟩
      · show (F.A.deeper env).frames = some (env :: F.fs)
        unfold Around.deeper; rw [fF.fr]; rfl
      · show F.A.depth + 1 + n ≤ 900; omega
      · show F.A.units + 3 + 4 * n + 200 ≤ cLine; omega
      · rw [fn.kdo] at hx
        rcases hx with hx | hx
        · exact Option.isSome_iff_exists.mp (by show (env.cells.lookup x).isSome = true; rw [eC]; exact cellsFrom_has _ _ _ (.inl (lookup_mem hx)))
        · have := List.all_eq_true.mp fn.nofree _ (lookup_mem hx)
          simp at this
      · exact name_of_addr ic.apart (mem_of_lookup h1) (mem_of_lookup h2)
      · have hi' : i < k := of_decide_eq_true hi
        have hj' : j < k := of_decide_eq_true hj
        have hl := fn.le.2
        have ei : (nm.take k)[i]? = some (slot nm i) := by
          rw [List.getElem?_take, if_pos hi']; unfold slot; rw [List.getD_eq_getElem?_getD, List.getElem?_eq_getElem (by omega)]; rfl
        have ej : (nm.take k)[j]? = some (slot nm j) := by
          rw [List.getElem?_take, if_pos hj']; unfold slot; rw [List.getD_eq_getElem?_getD, List.getElem?_eq_getElem (by omega)]; rfl
        have e' : slot nm i = slot nm j := e
        rw [e'] at ei
        exact (List.getElem?_inj (by rw [List.length_take]; omega) fn.nodup).mp (by rw [ei, ej])
    have st' : St cx F' (initL nm np ps) H s₁.heap := by
      obtain ⟨oL, es, ep, gL, dL, rL⟩ := id ic.toInCall.ns
      rw [eL] at gL
      refine ⟨fun b o e => keep b o (t.base b o e), t.off, t.heap.grow keep, fun env' he => ?_, ⟨?_, ?_⟩, ⟨oL, es, ep, _, by rw [← eL] at gL; exact gL, dL, ic.toInCall.ns, fun i v h1 h2 h3 => ?_⟩, fun nn c hc => ?_⟩
      · rcases List.mem_cons.mp he with rfl | he
        · exact ⟨by rw [eS]; decide, s.heap.objs.size, oL, es, ep, eF, t.heap.fresh (fresh _ (Nat.le_refl _)), bnone _ (Nat.le_refl _), gL, dL⟩
        · obtain ⟨hk, L, o, es, ep, hf, hH, hb, ho, hd'⟩ := t.frames env' he
          exact ⟨hk, L, o, es, ep, hf, hH, hb, keep L o ho, hd'⟩
      · show H env.locals = none
        rw [eL]; exact t.heap.fresh (fresh _ (Nat.le_refl _))
      · show cx.B.get? env.locals = none
        rw [eL]; exact bnone _ (Nat.le_refl _)
      · obtain ⟨x, hx, rx⟩ := memz i v (of_decide_eq_true h1) h3
        exact ⟨x, bindL_at h2 _ _ (by rw [hmapz]; exact hnd) hx, rx⟩
      · obtain ⟨oc, gc, dc⟩ := ic.cell nn c hc
        have hlt := ic.above nn c (mem_of_lookup hc)
        rw [eL] at hlt
        refine ⟨t.heap.fresh (fresh _ (Nat.le_of_lt hlt)), bnone _ (Nat.le_of_lt hlt), oc, _, gc, dc, fun i v h1 h2 h3 h4 => ?_⟩
        obtain ⟨x, hx, rx⟩ := memz i v (of_decide_eq_true h1) h4
        subst h2
        exact ⟨x, bindC_at h3 _ _ (by rw [hmapz]; exact hnd) hx, rx⟩
    have kp₁ : Kp cx (plc F') H s H s₁ := by
      obtain ⟨h', tk, e⟩ := ic.toInCall.same
      rw [e]
      exact .grow (fun b o q => by have := keep b o q; rw [e] at this; exact this) fun _ _ _ q => q
    have down : ∀ {H' : AHeap} {s' : Shared}, Kp cx (plc F') H s H' s' → Kp cx [] H s H' s' := fun {H' s'} kp => kp.sub fun b o e hb => by
      exfalso
      rcases List.mem_cons.mp hb with q | hb
      · rw [q] at e; have : s.heap.get? env.locals = none := by rw [eL]; exact fresh _ (Nat.le_refl _)
        rw [show F'.env.locals = env.locals from rfl, this] at e; cases e
      · obtain ⟨p, _, hl⟩ := List.mem_filterMap.mp hb
        have hlt := ic.above p.1 b (mem_of_lookup hl)
        rw [eL] at hlt
        rw [fresh b (Nat.le_of_lt hlt)] at e; cases e
    have body := soundSs ck body (F := F') (outer := F.fs) (L := s.heap.objs.size) fo' rfl eF (by rw [fn.kdo]; exact fn.okb) st' h
    refine wpAny_mono body (fun f s' h' => ?_) fun e s' h' => ?_
    · cases f with
      | next =>
        obtain ⟨m', H', t', kp', hq⟩ := h'
        have kd' := down (kp₁.trans kp')
        exact ⟨.none, H', .none, t.step kd' t'.heap, kd', hq⟩
      | ret v =>
        obtain ⟨p, m', H', rv, t', kp', hq⟩ := h'
        have kd' := down (kp₁.trans kp')
        exact ⟨p, H', rv, t.step kd' t'.heap, kd', hq⟩
      | brk => exact h'.elim
      | cont => exact h'.elim
    · obtain ⟨e, c, m', H', rfl, x', t', kp', hx⟩ := h'
      have kpp := kp₁.trans kp'
      have x₀ := x'.older kp₁.alive
      unfold leaving
      refine wpAny_bind (note_ok (F := F') (outer := F.fs) fo'.fr rfl eF t' kpp t.base x₀ fun s₂ t₂ k₂ x₂ => ?_)
      refine unflight_ok t₂ k₂ t.base x₂ fun s₃ t₃ k₃ x₃ => ?_
      have kd' := down k₃
      exact ⟨e, c, H', rfl, x₃.exc, t.step kd' t₃.heap, kd', hx⟩
end
end Mine
end
section
open PySem PySem.W PySem.Calls PyProof.Rows
namespace Mine
set_option autoImplicit false
set_option maxRecDepth 100000

/-! the program's globals, told from its laid heap -/
noncomputable def kmg (K : Frag) (x : Str) : Option Value := match K.lookup mainGlobals with
  | some o => (match o.data with | .dict es _ => nsFind es x | _ => none)
  | none => none
theorem kmg_eq {K : Frag} {h : Heap} {mg : Str → Option Value} (X : K.In h) (hs : (K.lookup mainGlobals).isSome = true) (hn : h.Ns mainGlobals mg) : mg = kmg K := by
  obtain ⟨o, e⟩ := Option.isSome_iff_exists.mp hs
  rw [hn.eq_nsMap]
  funext x
  unfold Heap.nsMap kmg
  rw [X _ _ e, e]
  cases o.data <;> rfl

noncomputable def ownChk (K : Frag) (cs : List Addr) : Bool := onms.all fun p => kmg K p.1 == (cs[p.2]?).map Value.ref && (cs[p.2]?).isSome
noncomputable def clsChk (K : Frag) (D : Addr) : Bool := ((findIn K (.ref D) "__getattribute__" == some (some (.builtin "BaseException.__getattribute__"))) && (findIn K (.ref D) "__getattr__" == some none) && (subIn K (.ref D) (.type "BaseException") == some true)) && (clsIn K D).isSome && (findIn K (.ref D) "__class__" == some (some (.builtin "object.__class__")))
  && (specialIn K (.builtin "object.__class__") "__get__" == some (some (.builtin "getset_descriptor.__get__"))) && (takesIn K (.builtin "object.__class__") == some true) && (mroIn K D (.type "object") == some true)
  && (kitOne K (.ref D) (.type "ValueError") == some true)
noncomputable def excChk (K : Frag) (cs : List Addr) : Bool := cs.all (clsChk K) && (List.range cs.length).all fun k => (List.range cs.length).all fun c =>
  match cs[k]?, cs[c]? with
  | some A, some B => (kitOne K (.ref A) (.ref B) == some (isSub k c)) && (exmOne K (.ref A) (.ref B) == some (isSub k c))
  | _, _ => false
noncomputable def bltNames : List Str := ["len", "list", "tuple", "range", "max", "min", "int", "str", "all", "any", "abs", "isinstance", "bool", "ValueError"]
noncomputable def bltChk (K : Frag) : Bool := bltNames.all fun x => kmg K x == none

theorem excChk_at {K : Frag} {cs : List Addr} (h : excChk K cs = true) {k c : Nat} {A B : Addr} (hk : cs[k]? = some A) (hc : cs[c]? = some B) : clsChk K A = true ∧ kitOne K (.ref A) (.ref B) = some (isSub k c) ∧ exmOne K (.ref A) (.ref B) = some (isSub k c) := by
  unfold excChk at h
  simp only [Bool.and_eq_true] at h
  have h1 := List.all_eq_true.mp h.1 A (List.mem_of_getElem? hk)
  have kl : k < cs.length := (List.getElem?_eq_some_iff.mp hk).1
  have cl : c < cs.length := (List.getElem?_eq_some_iff.mp hc).1
  have h2 := List.all_eq_true.mp (List.all_eq_true.mp h.2 k (List.mem_range.mpr kl)) c (List.mem_range.mpr cl)
  rw [hk, hc] at h2
  simp only [Bool.and_eq_true, beq_iff_eq] at h2
  exact ⟨h1, h2.1, h2.2⟩

section
variable {K : Frag} {x D : Addr} {ox : Obj} {prog : Program} {w : World} {A : Around} {E : Value → Shared → Prop} {s : Shared}
theorem exc_class {Q : Option Value → Shared → Prop} (X : K.In s.heap) (I : InstAt s.heap x ox D none) (hga : findIn K (.ref D) "__getattribute__" = some (some (.builtin "BaseException.__getattribute__")))
    (hgr : findIn K (.ref D) "__getattr__" = some none) (hf : findObj K D none "__class__" = some (.bind (.builtin "getset_descriptor.__get__") (.builtin "object.__class__"))) (hsub : subIn K (.ref D) (.type "BaseException") = some true) (hm : mroIn K D (.type "object") = some true)
    (h : Q (some (.ref D)) { s with toks := s.toks + 1 }) : wpAny (model prog w) A (getAttr? (.ref x) "__class__") Q E s := by
  obtain ⟨hh, g, d, t, os⟩ := s
  have L0 := I.type (M := model prog w)
  have L1 := looks_findIn (M := model prog w) X hga
  have L2 := looks_findIn (M := model prog w) X hgr
  have L3 := looks_find (M := model prog w) X I hf
  have L4 := looks_subIn (M := model prog w) X hsub
  have hx2 : (Value.builtin "BaseException.__getattribute__" == Value.builtin "object.__getattribute__") = false := by decide +kernel
  have hx1 : (onTheHeap (Value.ref D) && Value.builtin "BaseException.__getattribute__" == Value.builtin "object.__getattribute__") = false := by rw [hx2]; rfl
  have f3 := PySem.F.attr_ValueError.ga.bind (.ref x)
  unfold getAttr? getAttrBy? getAttrBy
  refine wpAny_bind (wpAny_mkText (wpAny_bind (wpAny_attempt (wpAny_holding (wpAny_bind (L0.at (wpAny_bind (L1.at ?_))))))))
  simp only [hx1, Bool.false_eq_true, if_false]
  unfold getAttrByItsOwn hookBefore
  rw [if_pos (show onTheHeap (Value.ref D) = true from rfl)]
  refine wpAny_bind (L2.at ?_)
  refine wpAny_bind (wpAny_attempt (wpAny_holding ?_))
  unfold callGetattribute
  rw [if_neg (by simp)]
  unfold boundAndCalled
  rw [f3]
  refine wpAny_bind (wpAny_pure (wpAny_call (codeAny_call_builtin PySem.F.attr_ValueError.ga.plain PySem.F.entry_bexc_ga ?_)))
  have hk : builtinKind "BaseException.__getattribute__" = some .slot := by decide +kernel
  have hsplit : splitId "BaseException.__getattribute__" = some ("BaseException", "__getattribute__") := by decide +kernel
  have ha := PySem.F.args_bexc_ga (.ref x) (.str "__class__" t)
  have L5 : Looks (model prog w) hh (isInstance (.ref x) (.type "BaseException")) true := L0.andThen L4
  simp only [checkBuiltinCall, hk, hsplit]
  refine wpAny_bind (L5.at ?_)
  rw [if_neg (by simp)]
  have body : wpAny (model prog w) A.in1 (Builtin.«object.__getattribute__» { pos := [Value.ref x] ++ [Value.str (Str.ofString "__class__") t] })
      (fun fin s' => fin = .done (.ret (.ref D)) ∧ s' = ⟨hh, g, d, t + 1, os⟩) (fun _ _ => False) ⟨hh, g, d, t + 1, os⟩ := by
    unfold Builtin.«object.__getattribute__»
    repeat (any_goals (first | assumption | lk | wp_step))
    refine wpAny_run (class_get (s := ⟨hh, g, d, t + 1, os⟩) X I hm ?_)
    exact wpAny_pure (wpAny_pure ⟨rfl, rfl⟩)
  have fin : wpAny (model prog w) A.in1 (Builtin.«object.__getattribute__» { pos := [Value.ref x] ++ [Value.str (Str.ofString "__class__") t] })
      (fun fin s' => match fin with
        | .done f => (match (Except.ok f : Result) with
          | .ok (.ret v) => wpAny (model prog w) A (handedOut v) (fun a s' => wpAny (model prog w) A (pure (some a)) Q E s') (fun e s' => wpAny (model prog w) A (do if ← isInstance e (.type "AttributeError") then pure none else throw e) Q E s') s'
          | .ok _ => False
          | .error e => False)
        | .again c' => False) (fun _ _ => False) ⟨hh, g, d, t + 1, os⟩ := wpAny_mono body (fun f s' hs => by
      obtain ⟨rfl, rfl⟩ := hs
      exact handed_on rfl (wpAny_pure h)) fun _ _ f => f
  cases hsig : Manifest.signature? "BaseException.__getattribute__" with
  | none =>
    refine wpAny_pure (wpAny_mono fin (fun f s' hs => ?_) fun _ _ f => f.elim)
    rcases f with (_ | _ | _ | _) | _ <;> first | exact hs | exact hs.elim
  | some sig =>
    simp only [argsOk, hsig] at ha
    have h2 : Bind.checkArgs "BaseException.__getattribute__" sig { pos := [Value.ref x] ++ [Value.str (Str.ofString "__class__") t] } = pure () := ha
    simp only [h2]
    refine wpAny_pure (wpAny_mono fin (fun f s' hs => ?_) fun _ _ f => f.elim)
    rcases f with (_ | _ | _ | _) | _ <;> first | exact hs | exact hs.elim
end

section
variable {K : Frag} {x D : Addr} {ox : Obj}
theorem findObj_none {g a : Value} {name : Str} (hc : (clsIn K D).isSome = true) (ha : findIn K (.ref D) name = some (some a)) (hg : specialIn K a "__get__" = some (some g)) (ht : takesIn K a = some true) : findObj K D none name = some (.bind g a) := by
  obtain ⟨cd, hc⟩ := Option.isSome_iff_exists.mp hc
  unfold findObj
  rw [hc, Option.bind_some, ha, Option.bind_some]
  simp [hg, ht]

theorem kitx_exc (hk : clsChk K D = true) : KitX K (.ref x) (.ref D) (fun h => InstAt h x ox D none) := by
  unfold clsChk at hk
  simp only [Bool.and_eq_true, beq_iff_eq] at hk
  obtain ⟨⟨⟨⟨⟨⟨hg, hc⟩, ha⟩, hn⟩, htk⟩, hm⟩, _⟩ := hk
  obtain ⟨cd, hcD⟩ := Option.isSome_iff_exists.mp hc
  refine ⟨fun _ _ _ I => I.type, fun _ _ X _ => ?_, fun h tp dd its n sl X htp => ?_, fun {prog w A E Q s} X I k => ?_⟩
  · unfold clsIn at hcD
    split at hcD
    · rename_i c' d' cd' sl' ho
      intro A' Q' E' s' k q
      unfold isType loadHead
      exact wpAny_bind (wpAny_loadPart (k _ _ (X _ _ ho)) (wpAny_pure q))
    · cases hcD
  · refine Bool.eq_false_iff.mpr fun q => ?_
    have e : D = tp := Value.ref.inj (beq_iff_eq.mp q)
    subst e
    unfold clsIn at hcD
    split at hcD
    · rename_i c' d' cd' sl' ho
      have z := (X _ _ ho).symm.trans htp
      cases z
    · cases hcD
  · exact exc_class X I hg.1.1 hg.1.2 (findObj_none hc ha hn htk) hg.2 hm k
end

section
variable {cx : Cx} {K : Frag} {cs : List Addr} {mg mb : Str → Option Value}

theorem Rep.excI {h : Heap} {v : Value} {k : Nat} (r : Rep cx h v (.exc k)) : ∃ e o vs C, v = .ref e ∧ h.get? e = some o ∧ o.cls = .ref C ∧ o.data = .fields vs ∧ cx.cls k = some C ∧ o.dict = Option.none := by
  cases r with | exc e c d x y => exact ⟨_, _, _, _, rfl, e, c, d, x, y⟩
theorem instAt_of {h : Heap} {e C : Addr} {o : Obj} {vs : Array Value} (g : h.get? e = some o) (c : o.cls = .ref C) (d : o.data = .fields vs) (y : o.dict = none) : InstAt h e o C none :=
  ⟨g, c, by unfold notCls; rw [d], by rw [y]; trivial⟩

theorem isx_ok (X : K.In cx.B) (hcs : cx.cls = fun c => cs[c]?) (hk : excChk K cs = true) {F : Fm} {m : Loc} {H : AHeap} {s : Shared} {Q : Post} {XX : XPost} {e : Value} {k c : Nat} {C : Addr} (r : Rep cx s.heap e (.exc k)) (t : St cx F m H s.heap) (hc : cx.cls c = some C) (hQ : Q (.bool (isSub k c)) H) :
    Ev (Rep cx) cx F (call (.builtin "isinstance") [e, .ref C]) m H s Q XX := by
  obtain ⟨a, o, vs, D, rfl, g, hcl, hd, hD, hy⟩ := r.excI
  rw [hcs] at hc hD
  obtain ⟨h1, h2, _⟩ := excChk_at hk hD hc
  exact kia_one (kitx_exc h1) (X.keeps t.base) (instAt_of g hcl hd hy) h2 (by simp) fun tk => .toks tk (.bool _) t hQ
theorem isv_ok (X : K.In cx.B) (hcs : cx.cls = fun c => cs[c]?) (hk : excChk K cs = true) {F : Fm} {m : Loc} {H : AHeap} {s : Shared} {Q : Post} {XX : XPost} {e : Value} {k : Nat} (r : Rep cx s.heap e (.exc k)) (t : St cx F m H s.heap) (hQ : Q (.bool true) H) :
    Ev (Rep cx) cx F (call (.builtin "isinstance") [e, .type "ValueError"]) m H s Q XX := by
  obtain ⟨a, o, vs, D, rfl, g, hcl, hd, hD, hy⟩ := r.excI
  rw [hcs] at hD
  obtain ⟨h1, _, _⟩ := excChk_at hk hD hD
  have h3 : kitOne K (.ref D) (.type "ValueError") = some true := by
    unfold clsChk at h1; simp only [Bool.and_eq_true, beq_iff_eq] at h1; exact h1.2
  exact kia_one (kitx_exc h1) (X.keeps t.base) (instAt_of g hcl hd hy) h3 (by simp) fun tk => .toks tk (.bool _) t hQ
theorem mats_ok (X : K.In cx.B) (hcs : cx.cls = fun c => cs[c]?) (hk : excChk K cs = true) {A : Around} {s : Shared} {e : Value} {k c : Nat} {C : Addr} {QQ : Bool → Shared → Prop} {E : Value → Shared → Prop} (t : cx.B.StaysIn s.heap) (r : Rep cx s.heap e (.exc k)) (hc : cx.cls c = some C)
    (hQ : ∀ tk, QQ (isSub k c) { s with toks := tk }) : wpAny cx.M A (excMatches e (.ref C)) QQ E s := by
  obtain ⟨a, o, vs, D, rfl, g, hcl, hd, hD, hy⟩ := r.excI
  rw [hcs] at hc hD
  obtain ⟨_, _, h2⟩ := excChk_at hk hD hc
  exact exm_one (M := cx.M) (X.keeps t) (instAt_of g hcl hd hy).type h2 _ _ _ _ (fun _ _ e => e) (hQ s.toks)

theorem rais_ok {n : Nat} (gns : cx.B.Ns cx.ga mg) {F : Fm} {kd : Kd} {m : Loc} {H : AHeap} {s : Shared} {c : Nat} {x msg : Str} {k : Nat} {pc pm pk p : Pos} {QQ : Flow → Shared → Prop} {E : Value → Shared → Prop} {C : Addr} {bm : List Value} {newId initId B : String}
    (O : OwnCls x C bm newId mg cx.B) (FB : ExcBaseFacts B newId initId bm) (hC : cx.cls c = some C)
    (fo : Fok cx n true kd F) (gk : isGlob kd x = true) (t : St cx F m H s.heap) (hE : ∀ e s', Exc cx F.env.frame s.heap s'.heap e c → St cx F m H s'.heap → Kp cx [] H s H s' → E (.ref e) s') :
    wpAny cx.M F.A (exec (.Raise (some (.Call (.Name x pc) [.Constant (.str msg) k pm] [] pk)) none p) F.env) QQ E s := by
  obtain ⟨tl, N, nm, q, bs, hdct, sn, sub, ab, col, dd, k0, k1, k2, k3, k5, mN, gC, hN, hni, T⟩ := O.obj
  refine wpAny_Raise_call_subT (C := C) (nm := nm) (q := q) (N := N) (bs := bs) (bm := tl) (hdct := hdct) (sn := sn) (sub := sub) (ab := ab) (col := col) (dd := dd) (k0 := k0) (k1 := k1) (k2 := k2) (k3 := k3) (k5 := k5)
    FB (mN := mN) (T.hasType FB.hasBase) (fo.quiet rfl) rfl hni (glob_ok fo gk t gns O.bound ⟨rfl, ?_⟩)
  refine evalArgs_plain (spliced_cons (Constant_str (k := k) (pos := pm) (spliced_nil ⟨rfl, by rw [sizeLine_eq]; simp, t.base _ _ gC, hN.keeps t.base, T.keeps t.base, fun h' e hm => ?_⟩)))
  obtain ⟨tt, ge, _, _⟩ := hm.there
  have kp : Kp cx [] H s H { s with heap := h', toks := s.toks + 1 } := .grow hm.keeps fun _ _ _ q => q
  exact hE e _ ⟨hm.new, _, _, C, _, ge, rfl, ⟨hC, rfl⟩, rfl, rfl, .inl rfl⟩ (t.step kp (t.heap.grow hm.keeps)) kp

theorem boot_blt : ∀ b : Blt, bootBuiltins b.name = some b.val := by intro b; cases b <;> decide +kernel
theorem boot_isi : bootBuiltins "isinstance" = some (.builtin "isinstance") := by decide +kernel
theorem boot_bty : ∀ T ∈ ["str", "list", "tuple", "bool", "int", "ValueError"], bootBuiltins (Str.ofString T) = some (.type T) := by decide +kernel
end
end Mine
end
section
open PySem PySem.W PySem.Calls PyProof.Rows
namespace Mine
set_option autoImplicit false

noncomputable def bmVE : List Value := [.type "ValueError", .type "Exception", .type "BaseException", .type "object"]
noncomputable def ownsChk (p : Program) : Bool := onms.all fun q => (ownsOf p).any fun o => o.name == q.1 && o.newId == "ValueError.__new__" && o.bm == bmVE

theorem lookup_in {x : Str} {c : Nat} (h : onm x = some c) : (x, c) ∈ onms := mem_of_lookup h

section
variable {cx : Cx} {K : Frag} {cs : List Addr} {mg mb : Str → Option Value} {g : Gl} {p : Program} {loose : List Str} {mean : ExcName → Option Value}

theorem cok_base (X : K.In cx.B) (hs : (K.lookup mainGlobals).isSome = true) (T : Top p loose mean mg mb cx.B) (hga : cx.ga = mainGlobals) (hba : cx.ba = builtinsNs) (hcs : cx.cls = fun c => cs[c]?) (hk : excChk K cs = true) (how : ownChk K cs = true) (hbl : bltChk K = true) (hoc : ownsChk p = true)
    (consts : ∀ x q, g.G x = some q → ∃ v, mg x = some v ∧ Rep cx cx.B v q) : Cok cx g [] mg mb 0 := by
  have hmg := kmg_eq X hs T.g
  have free : ∀ x ∈ bltNames, mg x = none := fun x hx => by
    rw [hmg]
    have := List.all_eq_true.mp hbl x hx
    simpa using this
  have nn : ∀ x ∈ bltNames, x ≠ Str.ofString "__name__" := by decide +kernel
  have own : ∀ x c, onm x = some c → ∃ C, cx.cls c = some C ∧ mg x = some (.ref C) := fun x c hx => by
    have := List.all_eq_true.mp how (x, c) (lookup_in hx)
    simp only [Bool.and_eq_true, beq_iff_eq] at this
    obtain ⟨C, hC⟩ := Option.isSome_iff_exists.mp this.2
    refine ⟨C, by rw [hcs]; exact hC, ?_⟩
    rw [hmg, this.1, hC]; rfl
  refine ⟨by rw [hga]; exact T.g, ?_, by rw [hba]; exact T.b, consts, fun b => ?_, ⟨free _ (by decide +kernel), (T.builtins _ (by decide +kernel)).trans boot_isi⟩, fun t ht => ?_, own, ?_, ?_, ?_, ?_, fun f hf => ?_, fun f hf => ?_⟩
  · obtain ⟨o, e⟩ := Option.isSome_iff_exists.mp hs
    exact ⟨mainGlobals, o, by decide, X _ _ e⟩
  · have hb : Str.ofString b.name ∈ bltNames := by cases b <;> decide +kernel
    exact ⟨free _ hb, (T.builtins _ (nn _ hb)).trans (boot_blt b)⟩
  · have hb : ∀ t ∈ ["str", "list", "tuple", "bool", "int", "ValueError"], Str.ofString t ∈ bltNames := by decide +kernel
    exact ⟨free _ (hb t ht), (T.builtins _ (nn _ (hb t ht))).trans (boot_bty t ht)⟩
  · exact fun r t hc hQ => isx_ok X hcs hk r t hc hQ
  · exact fun r t hQ => isv_ok X hcs hk r t hQ
  · intro F kd m H s c x msg k pc pm pk pp QQ E fo gk ho t hE
    have := List.all_eq_true.mp hoc (x, c) (lookup_in ho)
    obtain ⟨o, hom, hoo⟩ := List.any_eq_true.mp this
    simp only [Bool.and_eq_true, beq_iff_eq] at hoo
    obtain ⟨⟨h1, h2⟩, h3⟩ := hoo
    obtain ⟨C, O, _⟩ := T.own o hom
    obtain ⟨C', hC', hb'⟩ := own x c ho
    have O' := O.own
    rw [h1, h2, h3] at O'
    have : C = C' := by have := O'.bound; rw [hb'] at this; cases this; rfl
    subst this
    exact rais_ok (by rw [hga]; exact T.g) O' PySem.F.excBase_ValueError hC' fo gk t hE
  · exact fun t r hc hQ => mats_ok X hcs hk t r hc hQ
  · simp at hf
  · simp at hf
end

section
variable {cx : Cx} {mg mb : Str → Option Value} {g : Gl} {fl : List Str} {n : Nat}
theorem Fok.less {q : Bool} {kd : Kd} {F : Fm} (fo : Fok cx (n + 1) q kd F) : Fok cx n q kd F := ⟨fo.fr, fo.kind, fo.kdo, fo.glob, fo.bltn, fo.quiet, by have := fo.depth; omega, by have := fo.units; omega, fo.cells, fo.apart, fo.inj⟩

theorem Cok.add (ck : Cok cx g fl mg mb n) {f : Str} {fd : FuncData} {nm : List Str} {np k : Nat} {kd : Kd} {body : ASs} {a : Addr} {o : Obj} (hf : mg f = some (.ref a)) (fn : FnOk cx fl fd nm np k kd body) (lim : cx.B.NoLimit) (ho : cx.B.get? a = some o) (hd : o.data = .func fd) (hcd : cx.B.CodeRec fd.code fd.qualname)
    (spec : ∀ {ps : List PV} {H : AHeap} {Q : Post} {X : XPost}, g.C f ps H Q X → ps.length = np ∧ awpSs g body (fun _ H => Q .none H) Q (fun c _ H => X c H) (initL nm np ps) H) : Cok cx g (f :: fl) mg mb (n + 1) := by
  refine ⟨ck.gns, ck.mods, ck.bns, ck.consts, ck.blts, ck.isi, ck.bty, ck.own, ck.isx, ck.isv, fun fo gk ho t hE => ck.rais fo.less gk ho t hE, ck.mats, fun f' h' => ?_, fun f' h' {ps H Q X} hc {F kd' m s vs a'} fo hm rs t => ?_⟩
  · rw [List.contains_cons, Bool.or_eq_true] at h'
    rcases h' with h' | h'
    · rw [beq_iff_eq.mp h']; exact ⟨a, o, fd, hf, ho, hd⟩
    · exact ck.fns f' h'
  · by_cases e : f' = f
    · subst e
      rw [hf] at hm; cases hm
      obtain ⟨h1, h2⟩ := spec hc
      exact call_fn ck fn lim ho hd hcd fo rs h1 t h2
    · rw [List.contains_cons, Bool.or_eq_true] at h'
      exact ck.calls f' (h'.resolve_left fun q => e (beq_iff_eq.mp q)) hc fo.less hm rs t

noncomputable def fnChk (fl : List Str) (nm : List Str) (np k : Nat) (sc : Scope) (body : ASs) : Bool :=
  !sc.isCoroutine && !sc.isGenerator && decide (sc.kind = .function) && (sc.names.all fun p => p.2 != .free) && decide ((nm.take k).Nodup) && decide (np ≤ k) && decide (k ≤ nm.length)
    && ((nm.take np).all fun x => sc.names.lookup x == some .local || sc.names.lookup x == some .cell) && okSs fl nm (fun i => decide (i < k)) (fun x => sc.names.lookup x) true body

theorem Cok.addT {p : Program} {loose : List Str} {mean : ExcName → Option Value} (ck : Cok cx g fl mg mb n) (T : Top p loose mean mg mb cx.B) (hga : cx.ga = mainGlobals) (hba : cx.ba = builtinsNs) {f : Str} {d : DefRec} {nm : List Str} {np k : Nat} {sc : Scope} {body : ASs}
    (hd : d ∈ recsOf p) (h1 : d.name = f) (h2 : d.body = body.toSs nm) (h3 : d.scope = sc) (hb : ∀ (pm code doc : Value) (vals : List Value), vals.length = np → bindArgs (docDef d.name d.params d.body d.scope pm code doc) ⟨vals, []⟩ = pure ((nm.take np).zip vals))
    (hc : fnChk fl nm np k sc body = true)
    (spec : ∀ {ps : List PV} {H : AHeap} {Q : Post} {X : XPost}, g.C f ps H Q X → ps.length = np ∧ awpSs g body (fun _ H => Q .none H) Q (fun c _ H => X c H) (initL nm np ps) H) : Cok cx g (f :: fl) mg mb (n + 1) := by
  obtain ⟨a, o, pm, code, doc, hm, ho, hdat, hcd⟩ := T.fn d hd
  unfold fnChk at hc
  simp only [Bool.and_eq_true, Bool.not_eq_true', decide_eq_true_eq] at hc
  obtain ⟨⟨⟨⟨⟨⟨⟨⟨c1, c2⟩, c3⟩, c4⟩, c5⟩, c6⟩, c7⟩, c8⟩, c9⟩ := hc
  rw [h1] at hm
  subst h3
  exact ck.add (kd := fun x => d.scope.names.lookup x) hm ⟨hga.symm, hba.symm, rfl, c1, c2, c3, rfl, c4, by show FuncBody.stmts d.body = _; rw [h2], hb pm code doc, c5, ⟨c6, c7⟩, c8, c9⟩ T.nolimit ho hdat hcd spec
end
end Mine
end
section
open PySem PySem.W PySem.Calls PyProof.Rows
namespace Mine
set_option autoImplicit false

noncomputable def strOf? : Value → Option Str
  | .str x _ => some x
  | _ => none
noncomputable def tupChk (K : Frag) (b : Addr) (ss : List Str) : Bool := match K.lookup b with
  | some ⟨.type "tuple", none, .seq items _, sl⟩ => (sl.size == 0) && (items.toList.map strOf? == ss.map some) && decide (ss.length ≤ 100)
  | _ => false
noncomputable def strChk (K : Frag) (P : Str → Option Value) (x s : Str) : Bool := false
noncomputable def fdtEntries (P : Params) (l : List (Str × Tok × Addr)) : Array DictEntry := (l.map fun e => ({ hash := PyData.keyHash P e.1, key := .str e.1 e.2.1, val := .ref e.2.2 } : DictEntry)).toArray

section
variable {cx : Cx} {K : Frag}
theorem strs_repl {h : Heap} : ∀ {vs : List Value} {ss : List Str}, vs.map strOf? = ss.map some → RepL cx h vs (ss.map .str)
  | [], [], _ => .nil
  | [], _ :: _, e => by simp at e
  | _ :: _, [], e => by simp at e
  | v :: vs, s :: ss, e => by
    simp only [List.map_cons, List.cons.injEq] at e
    refine .cons ?_ (strs_repl e.2)
    cases v <;> simp [strOf?] at e
    obtain ⟨rfl, _⟩ := e
    exact .str _ _
theorem tup_of {h : Heap} (X : K.In h) {b : Addr} {ss : List Str} (hk : tupChk K b ss = true) : Rep cx h (.ref b) (.tup (ss.map .str)) := by
  have hL : LIM = 1048576 := rfl
  unfold tupChk at hk
  split at hk
  · rename_i items n sl e
    simp only [Bool.and_eq_true, beq_iff_eq, decide_eq_true_eq] at hk
    have hsl : sl = #[] := Array.eq_empty_of_size_eq_zero hk.1.1
    subst hsl
    exact .tup (X _ _ e) (by simp; omega) (strs_repl hk.1.2)
  · cases hk

theorem fdt_pairs {P : Params} {h : Heap} (X : K.In h) : ∀ {l : List (Str × Tok × Addr)} {kvs : List (Str × List Str)}, l.map (·.1) = kvs.map (·.1) → ((l.zip kvs).all fun e => tupChk K e.1.2.2 e.2.2) = true →
    RepK cx h (l.map fun e => (e.1, Value.ref e.2.2)) (kvs.map fun e => (e.1, .tup (e.2.map .str)))
  | [], [], _, _ => .nil
  | [], _ :: _, e, _ => by simp at e
  | _ :: _, [], e, _ => by simp at e
  | (k, t, a) :: l, (k', ss) :: kvs, e, hk => by
    simp only [List.map_cons, List.cons.injEq] at e
    simp only [List.zip_cons_cons, List.all_cons, Bool.and_eq_true] at hk
    obtain ⟨rfl, e⟩ := e
    exact .cons (tup_of X hk.1) (fdt_pairs (P := P) X e hk.2)

theorem fdt_of {h : Heap} (X : K.In cx.B) {a : Addr} {l : List (Str × Tok × Addr)} {ep : Nat} {kvs : List (Str × List Str)} (hl : K.lookup a = some { cls := .type "dict", data := .dict (fdtEntries cx.w.params l) ep })
    (hn : (l.map (·.1)).Nodup) (hkv : l.map (·.1) = kvs.map (·.1)) (hk : ((l.zip kvs).all fun e => tupChk K e.1.2.2 e.2.2) = true) (hh : cx.B.StaysIn h) : Rep cx h (.ref a) (.fdt (kvs.map fun e => (e.1, .tup (e.2.map .str)))) := by
  refine .fdt (vs := l.map fun e => (e.1, Value.ref e.2.2)) ⟨_, _, ep, X _ _ hl, ⟨rfl, rfl, rfl⟩, rfl, ?_, ?_, ?_⟩ (fdt_pairs (P := cx.w.params) (X.keeps hh) hkv hk)
  · intro e he
    unfold fdtEntries at he
    simp only [List.mem_toArray, List.mem_map] at he
    obtain ⟨x, _, rfl⟩ := he
    exact ⟨x.1, by simp [Cx.sk, PySem.strKind, Value.isStrOf], rfl⟩
  · unfold fdtEntries
    simp only [List.toList_toArray]
    clear hl hn hkv hk
    induction l with
    | nil => exact .nil
    | cons x l ih => exact .cons (by simp [Cx.sk, PySem.strKind, Value.isStrOf]) rfl ih
  · rw [List.map_map]; exact hn
end
end Mine
end
section
open PySem PySem.W PySem.Calls PyProof.Rows
namespace Mine
set_option autoImplicit false

/-! steps of the abstract walk: each is the definition, read backwards -/
section
variable {g : Gl} {N : NPost} {R : Post} {X : SXPost} {E : XPost} {m : Loc} {H : AHeap} {Q : Post} {QB : BPost} {QL : List PV → AHeap → Prop} {p p1 p2 p3 p4 p5 : Pos}
theorem W_nil (h : N m H) : awpSs g .nil N R X m H := h
theorem W_cons {s : AS} {ss : ASs} (h : awpS g s (fun m H => awpSs g ss N R X m H) R X m H) : awpSs g (.cons s ss) N R X m H := h
theorem W_expr {e : AE} (h : awpE g e (fun _ H => N m H) (fun c H => X c m H) m H) : awpS g (.expr e p) N R X m H := h
theorem W_assign {x : Nat} {e : AE} (h : awpE g e (fun v H => N (m.set x (some v)) H) (fun c H => X c m H) m H) : awpS g (.assign x p1 e p) N R X m H := h
theorem W_store {o i e : AE} (h : awpE g e (fun x H => awpE g o (fun v H => awpE g i (fun w H => storeW v w x (fun H => N m H) H) (fun c H => X c m H) m H) (fun c H => X c m H) m H) (fun c H => X c m H) m H) : awpS g (.store o i p1 e p) N R X m H := h
theorem W_ite {c : AE} {a b : ASs} (h : awpB g c (awpE g c) (fun t H => if t then awpSs g a N R X m H else awpSs g b N R X m H) (fun c H => X c m H) m H) : awpS g (.ite c a b p) N R X m H := h
theorem W_for {x : Nat} {it : AE} {b : ASs} (h : awpE g it (fun v H => itemsW v (fun xs src => forW src (fun y K m H => awpSs g b K R X (m.set x (some y)) H) N xs m H) H) (fun c H => X c m H) m H) : awpS g (.for x p1 it b p) N R X m H := h
theorem W_ret {e : AE} (h : awpE g e R (fun c H => X c m H) m H) : awpS g (.ret e p) N R X m H := h
theorem W_raise {c : Nat} {x msg : Str} {k : Nat} (h : X c m H) : awpS g (.raise c x msg k p1 p2 p3 p) N R X m H := h
theorem W_try {b : ASs} {hs : AHs} (h : awpSs g b N R (fun c m H => awpHs g hs c N R m H) m H) : awpS g (.try b hs p) N R X m H := h
theorem W_lnone {k : Nat} (h : Q .none H) : awpE g (.lit .none k p) Q E m H := h
theorem W_lbool {k : Nat} {b : Bool} (h : Q (.bool b) H) : awpE g (.lit (.bool b) k p) Q E m H := h
theorem W_lint {k : Nat} {i : Int} (h : Q (.int i) H) : awpE g (.lit (.int i) k p) Q E m H := h
theorem W_lstr {k : Nat} {s : Str} (h : Q (.str s) H) : awpE g (.lit (.str s) k p) Q E m H := h
theorem W_var {i : Nat} {v : PV} (e : m.getD i none = some v) (h : Q v H) : awpE g (.var i p) Q E m H := by
  show varW (m.getD i none) Q H
  rw [e]; exact h
theorem W_glob {x : Str} {v : PV} (e : g.G x = some v) (h : Q v H) : awpE g (.glob x p) Q E m H := by
  show varW (g.G x) Q H
  rw [e]; exact h
theorem W_bin {l r : AE} {o : Operator} (h : awpE g l (fun v H => awpE g r (fun w H => binW o v w Q H) E m H) E m H) : awpE g (.bin l o r p) Q E m H := h
theorem W_neg {e : AE} (h : awpE g e (fun v H => match v with | .int i => Q (.int (-i)) H | _ => False) E m H) : awpE g (.neg e p) Q E m H := h
theorem W_not {e : AE} (h : awpE g e (fun v H => truthW v fun b => Q (.bool !b) H) E m H) : awpE g (.not e p) Q E m H := h
theorem W_bop {o : BoolOp} {es : AEs} (h : awpV g o es Q E m H) : awpE g (.bop o es p) Q E m H := h
theorem W_cmp {l r : AE} {o : CmpOp} (h : awpE g l (fun v H => awpE g r (fun w H => cmpW o v w (fun b H => Q (.bool b) H) H) E m H) E m H) : awpE g (.cmp l o r p) Q E m H := h
theorem W_sub {e i : AE} (h : awpE g e (fun v H => awpE g i (fun w H => subW v w Q H) E m H) E m H) : awpE g (.sub e i p) Q E m H := h
theorem W_sfrom {e i : AE} (h : awpE g e (fun v H => awpE g i (fun w H => sfromW v w Q H) E m H) E m H) : awpE g (.sfrom e i p1 p) Q E m H := h
theorem W_sto {e i : AE} (h : awpE g e (fun v H => awpE g i (fun w H => stoW v w Q H) E m H) E m H) : awpE g (.sto e i p1 p) Q E m H := h
theorem W_tup {es : AEs} {k : Nat} (h : awpL g es (fun vs H => Q (.tup vs) H) E m H) : awpE g (.tup es k p) Q E m H := h
theorem W_list {es : AEs} (h : awpL g es (fun vs H => alloc (.list vs) Q H) E m H) : awpE g (.list es p) Q E m H := h
theorem W_tape (h : alloc (.tape 0) Q H) : awpE g (.tape p1 p) Q E m H := h
theorem W_dict {ks : List (Str × Pos)} {es : AEs} (h : awpL g es (fun vs H => alloc (.dict (dictOf (ks.map (·.1)) vs)) Q H) E m H) : awpE g (.dict ks es p) Q E m H := h
theorem W_call {f : Str} {es : AEs} (h : awpL g es (fun vs H => g.C f vs H Q E) E m H) : awpE g (.call f es p1 p) Q E m H := h
theorem W_blt {b : Blt} {es : AEs} (h : awpL g es (fun vs H => bltW b vs Q H) E m H) : awpE g (.blt b es p1 p) Q E m H := h
theorem W_isi {e : AE} {c : ICls} (h : awpE g e (fun v H => isiW c v (fun b => Q (.bool b) H) H) E m H) : awpE g (.isi e c p1 p2 p3 p4 p) Q E m H := h
theorem W_meth {e : AE} {n : Meth} {es : AEs} (h : awpE g e (fun v H => recvW n v H ∧ awpL g es (fun vs H => methW n v vs Q H) E m H) E m H) : awpE g (.meth e n es p1 p) Q E m H := h
theorem W_comp {e it : AE} {x : Nat} {cs : AEs} {sc : Scope} (h : awpE g it (fun v H => itemsW v (fun xs src =>
      compW src (fun y K H => awpC g cs (fun b H => if b then awpE g e (fun v H => K [v] H) (fun _ _ => False) (m.set x (some y)) H else K [] H) (fun _ _ => False) (m.set x (some y)) H)
        (fun vs H => alloc (.list vs) Q H) xs [] H) H) E m H) : awpE g (.comp e x p1 it cs sc p) Q E m H := h
theorem W_Lnil (h : QL [] H) : awpL g .nil QL E m H := h
theorem W_Lcons {e : AE} {es : AEs} (h : awpE g e (fun v H => awpL g es (fun vs H => QL (v :: vs) H) E m H) E m H) : awpL g (.cons e es) QL E m H := h
theorem W_V1 {o : BoolOp} {e : AE} (h : awpE g e Q E m H) : awpV g o (.cons e .nil) Q E m H := by simpa only [awpV] using h
theorem W_Vand {e e' : AE} {es : AEs} (h : awpE g e (fun v H => truthW v fun b => if b then awpV g .And (.cons e' es) Q E m H else Q v H) E m H) : awpV g .And (.cons e (.cons e' es)) Q E m H := by
  simp only [awpV]
  refine cast ?_ h
  congr 1; funext v H; congr 1; funext b; cases b <;> rfl
theorem W_Vor {e e' : AE} {es : AEs} (h : awpE g e (fun v H => truthW v fun b => if b then Q v H else awpV g .Or (.cons e' es) Q E m H) E m H) : awpV g .Or (.cons e (.cons e' es)) Q E m H := by
  simp only [awpV]
  refine cast ?_ h
  congr 1; funext v H; congr 1; funext b; cases b <;> rfl
theorem W_Bnot {e : AE} {w : Post → XPost → Loc → AHeap → Prop} (h : awpB g e (awpE g e) (fun b H => QB (!b) H) E m H) : awpB g (.not e p) w QB E m H := h
theorem W_Bbop {o : BoolOp} {es : AEs} {w : Post → XPost → Loc → AHeap → Prop} (h : awpBs g o es QB E m H) : awpB g (.bop o es p) w QB E m H := h
theorem W_Bcmp {l r : AE} {o : CmpOp} {w : Post → XPost → Loc → AHeap → Prop} (h : awpE g l (fun v H => awpE g r (fun w H => cmpW o v w QB H) E m H) E m H) : awpB g (.cmp l o r p) w QB E m H := h
theorem W_Bisi {e : AE} {c : ICls} (h : awpE g e (fun v H => isiW c v (fun b => QB b H) H) E m H) : awpB g (.isi e c p1 p2 p3 p4 p) (awpE g (.isi e c p1 p2 p3 p4 p)) QB E m H := h
theorem W_Bcall {f : Str} {es : AEs} (h : awpE g (.call f es p1 p) (fun v H => truthW v fun b => QB b H) E m H) : awpB g (.call f es p1 p) (awpE g (.call f es p1 p)) QB E m H := h
theorem W_Bvar {i : Nat} (h : awpE g (.var i p) (fun v H => truthW v fun b => QB b H) E m H) : awpB g (.var i p) (awpE g (.var i p)) QB E m H := h
theorem W_Bsnil {o : BoolOp} (h : QB (o == .And) H) : awpBs g o .nil QB E m H := h
theorem W_Bsand {e : AE} {es : AEs} (h : awpB g e (awpE g e) (fun b H => if b then awpBs g .And es QB E m H else QB false H) E m H) : awpBs g .And (.cons e es) QB E m H := by
  simp only [awpBs]
  refine cast ?_ h
  congr 1; funext b H; cases b <;> rfl
theorem W_Bsor {e : AE} {es : AEs} (h : awpB g e (awpE g e) (fun b H => if b then QB true H else awpBs g .Or es QB E m H) E m H) : awpBs g .Or (.cons e es) QB E m H := by
  simp only [awpBs]
  refine cast ?_ h
  congr 1; funext b H; cases b <;> rfl
theorem W_Cnil (h : QB true H) : awpC g .nil QB E m H := h
theorem W_Ccons {e : AE} {es : AEs} (h : awpB g e (awpE g e) QB E m H) : awpC g (.cons e es) QB E m H := h
/-! the operations -/
theorem O_truth {b : Bool} {K : Bool → Prop} (h : K b) : truthW (.bool b) K := h
theorem O_addI {a b : Int} (h : Q (.int (a + b)) H) : binW .Add (.int a) (.int b) Q H := .addI a b h
theorem O_subI {a b : Int} (h : Q (.int (a - b)) H) : binW .Sub (.int a) (.int b) Q H := .subI a b h
theorem O_mulI {a b : Int} (k : a.natAbs < 2 ^ 60 ∨ b.natAbs < 2 ^ 60) (h : Q (.int (a * b)) H) : binW .Mult (.int a) (.int b) Q H := .mulI a b k h
theorem O_modI {a b : Int} (k : 0 < b) (h : Q (.int (a % b)) H) : binW .Mod (.int a) (.int b) Q H := .modI a b k h
theorem O_divI {a b : Int} (k : 0 < b) (k' : b < 2 ^ 30) (h : Q (.int (a / b)) H) : binW .FloorDiv (.int a) (.int b) Q H := .divI a b k k' h
theorem O_powI (h : Q (.int 1000000000) H) : binW .Pow (.int 10) (.int 9) Q H := .powI h
theorem O_addS {a b : Str} (k : a.length + b.length ≤ LIM) (h : Q (.str (a ++ b)) H) : binW .Add (.str a) (.str b) Q H := .addS a b k h
theorem O_addT {a b : List PV} (k : a.length + b.length ≤ LIM) (h : Q (.tup (a ++ b)) H) : binW .Add (.tup a) (.tup b) Q H := .addT a b k h
theorem O_addL {a b : Addr} {xs ys : List PV} (ha : H a = some (.list xs)) (hb : H b = some (.list ys)) (k : xs.length + ys.length ≤ LIM) (h : ∀ c H', H c = none → H' c = some (.list (xs ++ ys)) → Ext H H' → Q (.obj c) H') : binW .Add (.obj a) (.obj b) Q H := .addL a b xs ys ha hb k h
theorem O_mulL {a : Addr} {n : Int} {xs : List PV} (ha : H a = some (.list xs)) (k1 : n ≤ LIM) (k2 : -LIM ≤ n) (k3 : xs.length * n.toNat ≤ LIM) (h : ∀ c H', H c = none → H' c = some (.list (repL n xs)) → Ext H H' → Q (.obj c) H') : binW .Mult (.obj a) (.int n) Q H := .mulL a n xs ha k1 k2 k3 h
theorem O_eqI {a b : Int} (h : QB (a == b) H) : cmpW .Eq (.int a) (.int b) QB H := h
theorem O_eqS {a b : Str} (h : QB (a == b) H) : cmpW .Eq (.str a) (.str b) QB H := h
theorem O_neI {a b : Int} (h : QB (!(a == b)) H) : cmpW .NotEq (.int a) (.int b) QB H := h
theorem O_neS {a b : Str} (h : QB (!(a == b)) H) : cmpW .NotEq (.str a) (.str b) QB H := h
theorem O_eqT {v w : PV} {b : Bool} (e : EqT H v w b) (h : QB b H) : cmpW .Eq v w QB H := by
  show eqW v w (fun b => QB b H) H
  unfold eqW
  split
  · cases e with | val e => cases e with | atom e => cases e; exact h
  · cases e with | val e => cases e with | atom e => cases e; exact h
  · exact ⟨b, e, h⟩
theorem O_neT {v w : PV} {b : Bool} (e : EqT H v w b) (h : QB (!b) H) : cmpW .NotEq v w QB H := by
  show eqW v w (fun b => QB (!b) H) H
  unfold eqW
  split
  · cases e with | val e => cases e with | atom e => cases e; exact h
  · cases e with | val e => cases e with | atom e => cases e; exact h
  · exact ⟨b, e, h⟩
theorem O_ltI {a b : Int} (h : QB (decide (a < b)) H) : cmpW .Lt (.int a) (.int b) QB H := h
theorem O_leI {a b : Int} (h : QB (decide (a ≤ b)) H) : cmpW .LtE (.int a) (.int b) QB H := h
theorem O_gtI {a b : Int} (h : QB (decide (b < a)) H) : cmpW .Gt (.int a) (.int b) QB H := h
theorem O_inD {k : Str} {a : Addr} {kvs : List (Str × PV)} (ha : H a = some (.dict kvs)) (h : QB (hasKey kvs k) H) : cmpW .In (.str k) (.obj a) QB H := ⟨_, ha, h⟩
theorem O_subT {xs : List PV} {k : Int} {x : PV} (e : itemAt xs k = some x) (h : Q x H) : subW (.tup xs) (.int k) Q H := ⟨x, e, h⟩
theorem O_subL {a : Addr} {xs : List PV} {k : Int} {x : PV} (ha : H a = some (.list xs)) (e : itemAt xs k = some x) (h : Q x H) : subW (.obj a) (.int k) Q H := ⟨_, ha, x, e, h⟩
theorem O_subTape {a : Addr} {n : Nat} (ha : H a = some (.tape n)) (h : Q (.int n) H) : subW (.obj a) (.int 0) Q H := ⟨_, ha, rfl, h⟩
theorem O_subD {a : Addr} {kvs : List (Str × PV)} {k : Str} {x : PV} (ha : H a = some (.dict kvs)) (e : dget kvs k = some x) (h : Q x H) : subW (.obj a) (.str k) Q H := ⟨_, ha, x, e, h⟩
theorem O_subF {kvs : List (Str × PV)} {k : Str} {x : PV} (e : dget kvs k = some x) (h : Q x H) : subW (.fdt kvs) (.str k) Q H := ⟨x, e, h⟩
theorem O_subFls {xs : List Int} {k x : Int} (e : itemAt xs k = some x) (h : Q (.int x) H) : subW (.fls xs) (.int k) Q H := ⟨x, e, h⟩
theorem O_subS {s x : Str} {k : Int} (l : s.length ≤ LIM) (e : signAt s k = some x) (h : Q (.str x) H) : subW (.str s) (.int k) Q H := ⟨l, x, e, h⟩
theorem O_fromL {a : Addr} {xs : List PV} {k : Int} (ha : H a = some (.list xs)) (h : ∀ c H', H c = none → H' c = some (.list (xs.drop (cutAt xs.length k))) → Ext H H' → Q (.obj c) H') : sfromW (.obj a) (.int k) Q H := ⟨_, ha, h⟩
theorem O_toL {a : Addr} {xs : List PV} {k : Int} (ha : H a = some (.list xs)) (h : ∀ c H', H c = none → H' c = some (.list (xs.take (cutAt xs.length k))) → Ext H H' → Q (.obj c) H') : stoW (.obj a) (.int k) Q H := ⟨_, ha, h⟩
theorem O_toF {xs : List Int} {k : Int} (h : ∀ c H', H c = none → H' c = some (.list ((xs.take (cutAt xs.length k)).map .int)) → Ext H H' → Q (.obj c) H') : stoW (.fls xs) (.int k) Q H := h
theorem O_toS {s : Str} {k : Int} (l : s.length ≤ LIM) (h : Q (.str ⟨(s.cps.toList.take (cutAt s.length k)).toArray⟩) H) : stoW (.str s) (.int k) Q H := ⟨l, h⟩
theorem O_alloc {o : AObj} (h : ∀ c H', H c = none → H' c = some o → Ext H H' → Q (.obj c) H') : alloc o Q H := h
theorem O_lenL {a : Addr} {xs : List PV} (ha : H a = some (.list xs)) (h : Q (.int xs.length) H) : bltW .len [.obj a] Q H := .len _ ⟨_, ha, h⟩
theorem O_lenT {xs : List PV} (h : Q (.int xs.length) H) : bltW .len [.tup xs] Q H := .len _ h
theorem O_lenF {xs : List Int} (h : Q (.int xs.length) H) : bltW .len [.fls xs] Q H := .len _ h
theorem O_lenS {s : Str} (l : s.length ≤ LIM) (h : Q (.int s.length) H) : bltW .len [.str s] Q H := .len _ ⟨l, h⟩
theorem O_listL {a : Addr} {xs : List PV} (ha : H a = some (.list xs)) (h : ∀ c H', H c = none → H' c = some (.list xs) → Ext H H' → Q (.obj c) H') : bltW .list [.obj a] Q H := .listL a xs ha h
theorem O_listT {xs : List PV} (h : ∀ c H', H c = none → H' c = some (.list xs) → Ext H H' → Q (.obj c) H') : bltW .list [.tup xs] Q H := .listT xs h
theorem O_tupL {a : Addr} {xs : List PV} (ha : H a = some (.list xs)) (h : Q (.tup xs) H) : bltW .tuple [.obj a] Q H := .tupL a xs ha h
theorem O_tupT {xs : List PV} (h : Q (.tup xs) H) : bltW .tuple [.tup xs] Q H := .tupT xs h
theorem O_range {n : Int} (k : n.natAbs ≤ LIM) (h : Q (.rng n) H) : bltW .range [.int n] Q H := .range n k h
theorem O_max {a b : Int} (h : Q (.int (if a < b then b else a)) H) : bltW .max [.int a, .int b] Q H := .max a b h
theorem O_min {a b : Int} (h : Q (.int (if b < a then b else a)) H) : bltW .min [.int a, .int b] Q H := .min a b h
theorem O_intB {b : Bool} (h : Q (.int (if b then 1 else 0)) H) : bltW .int [.bool b] Q H := .intB b h
theorem O_strI {i : Int} (k : i.natAbs < 10 ^ 18) (h : Q (.str (Str.ofString (toString i))) H) : bltW .str [.int i] Q H := .strI i k h
theorem O_append {a : Addr} {xs : List PV} {x : PV} (ha : H a = some (.list xs)) (k : xs.length < LIM) (h : ∀ H', H' a = some (.list (xs ++ [x])) → ExtB a H H' → Q .none H') : methW .append (.obj a) [x] Q H := .append a xs x ha k h
theorem O_pop {a : Addr} {ys : List PV} {x : PV} (ha : H a = some (.list (ys ++ [x]))) (h : ∀ H', H' a = some (.list ys) → ExtB a H H' → Q x H') : methW .pop (.obj a) [] Q H := .pop a ys x ha h
theorem O_insert {a : Addr} {xs : List PV} {k : Int} {x : PV} (ha : H a = some (.list xs)) (k0 : 0 ≤ k) (k1 : k ≤ xs.length) (k2 : xs.length < LIM) (h : ∀ H', H' a = some (.list (xs.take k.toNat ++ x :: xs.drop k.toNat)) → ExtB a H H' → Q .none H') : methW .insert (.obj a) [.int k, x] Q H := .insert a xs k x ha k0 k1 k2 h
theorem O_count {a : Addr} {bs : List Bool} {b : Bool} (ha : H a = some (.list (bs.map .bool))) (h : Q (.int (bs.count b)) H) : methW .count (.obj a) [.bool b] Q H := .count a bs b ha h
theorem O_join {s : Str} {a : Addr} {ss : List Str} (ha : H a = some (.list (ss.map .str))) (e : s.length = 0) (k : (ss.map (·.length)).sum ≤ LIM) (h : Q (.str (Str.join s ss)) H) : methW .join (.str s) [.obj a] Q H := .join s a ss ha e k h
theorem O_storeL {a : Addr} {xs : List PV} {k : Int} {x : PV} {K : AHeap → Prop} (ha : H a = some (.list xs)) (k0 : 0 ≤ k) (k1 : k < xs.length) (h : ∀ H', H' a = some (.list (xs.set k.toNat x)) → ExtB a H H' → K H') : storeW (.obj a) (.int k) x K H := ⟨_, ha, k0, k1, h⟩
theorem O_storeT {a : Addr} {n : Nat} {j : Int} {K : AHeap → Prop} (ha : H a = some (.tape n)) (j0 : 0 ≤ j) (h : ∀ H', H' a = some (.tape j.toNat) → ExtB a H H' → K H') : storeW (.obj a) (.int 0) (.int j) K H := ⟨_, ha, rfl, j0, h⟩
theorem O_isStrS {s : Str} {K : Bool → Prop} (h : K true) : isiW .str (.str s) K H := h
theorem O_isStrI {i : Int} {K : Bool → Prop} (h : K false) : isiW .str (.int i) K H := h
theorem O_isIntI {i : Int} {K : Bool → Prop} (h : K true) : isiW .int (.int i) K H := h
theorem O_isBoolI {i : Int} {K : Bool → Prop} (h : K false) : isiW .bool (.int i) K H := h
theorem O_isL {a : Addr} {xs : List PV} {K : Bool → Prop} (ha : H a = some (.list xs)) (h : K true) : isiW .list (.obj a) K H := ⟨_, ha, h⟩
theorem O_isStrL {a : Addr} {xs : List PV} {K : Bool → Prop} (ha : H a = some (.list xs)) (h : K false) : isiW .str (.obj a) K H := ⟨_, ha, h⟩
theorem O_isLS {s : Str} {K : Bool → Prop} (h : K false) : isiW .list (.str s) K H := h
theorem O_isO {k j : Nat} {x : Str} {K : Bool → Prop} (h : K (isSub k j)) : isiW (.own j x) (.exc k) K H := h
theorem O_isV {k : Nat} {K : Bool → Prop} (h : K true) : isiW .value (.exc k) K H := h
theorem O_itL {a : Addr} {xs : List PV} {K : List PV → (AHeap → Prop) → Prop} (ha : H a = some (.list xs)) (h : K xs fun H' => H' a = some (.list xs)) : itemsW (.obj a) K H := ⟨_, ha, h⟩
theorem O_itT {xs : List PV} {K : List PV → (AHeap → Prop) → Prop} (h : K xs fun _ => True) : itemsW (.tup xs) K H := h
theorem O_itR {n : Int} {K : List PV → (AHeap → Prop) → Prop} (h : K ((List.range n.toNat).map fun (i : Nat) => .int i) fun _ => True) : itemsW (.rng n) K H := h
end

theorem forW_ind {src : AHeap → Prop} {st : PV → (Loc → AHeap → Prop) → Loc → AHeap → Prop} {N : Loc → AHeap → Prop} (I : List PV → Loc → AHeap → Prop) (h0 : ∀ m H, I [] m H → src H ∧ N m H)
    (h1 : ∀ x xs m H, I (x :: xs) m H → src H ∧ ∀ K : Loc → AHeap → Prop, (∀ m' H', I xs m' H' → K m' H') → st x K m H) : ∀ xs m H, I xs m H → forW src st N xs m H
  | [], m, H, h => h0 m H h
  | x :: xs, m, H, h => ⟨(h1 x xs m H h).1, (h1 x xs m H h).2 _ fun m' H' h' => forW_ind I h0 h1 xs m' H' h'⟩
theorem compW_ind {src : AHeap → Prop} {el : PV → (List PV → AHeap → Prop) → AHeap → Prop} {Q : List PV → AHeap → Prop} (I : List PV → List PV → AHeap → Prop) (h0 : ∀ acc H, I [] acc H → src H ∧ Q acc H)
    (h1 : ∀ x xs acc H, I (x :: xs) acc H → src H ∧ ∀ K : List PV → AHeap → Prop, (∀ vs H', I xs (acc ++ vs) H' → K vs H') → el x K H) : ∀ xs acc H, I xs acc H → compW src el Q xs acc H
  | [], acc, H, h => h0 acc H h
  | x :: xs, acc, H, h => ⟨(h1 x xs acc H h).1, (h1 x xs acc H h).2 _ fun vs H' h' => compW_ind I h0 h1 xs (acc ++ vs) H' h'⟩

theorem mod_lt {a k : Int} (h : 0 < k) : 0 ≤ a % k ∧ a % k < k := ⟨Int.emod_nonneg _ (by omega), Int.emod_lt_of_pos _ h⟩
theorem Ext.at {H H' : AHeap} {a : Addr} {o : AObj} (e : Ext H H') (h : H a = some o) : H' a = some o := e a o h
theorem ExtB.at {H H' : AHeap} {a b : Addr} {o : AObj} (e : ExtB a H H') (n : b ≠ a) (h : H b = some o) : H' b = some o := e b o n h
theorem ne_of {H : AHeap} {a b : Addr} {o : AObj} (h : H a = some o) (h' : H b = none) : a ≠ b := by rintro rfl; rw [h] at h'; cases h'
theorem Ext.refl (H : AHeap) : Ext H H := fun _ _ e => e
theorem Ext.trans {H H₁ H₂ : AHeap} (a : Ext H H₁) (b : Ext H₁ H₂) : Ext H H₂ := fun x o e => b x o (a x o e)
theorem ExtB.trans {H H₁ H₂ : AHeap} {t : Addr} (a : ExtB t H H₁) (b : ExtB t H₁ H₂) : ExtB t H H₂ := fun x o n e => b x o n (a x o n e)
theorem Ext.toB {H H' : AHeap} (e : Ext H H') (t : Addr) : ExtB t H H' := fun x o _ h => e x o h
/-- a new list that was changed is still new -/
theorem ExtB.fresh {H H₁ H₂ : AHeap} {a : Addr} (n : H a = none) (e : Ext H H₁) (b : ExtB a H₁ H₂) : Ext H H₂ := fun x o h => b x o (ne_of h n) (e x o h)
theorem itemAt_nat {α : Type} {xs : List α} {n : Nat} {x : α} {i : Int} (hi : i = n) (h : xs[n]? = some x) : itemAt xs i = some x := by
  subst hi; unfold itemAt; rw [if_pos (by omega)]; simpa using h
theorem O_addS' {H : AHeap} {Q : Post} {a b : Str} (k : a.length + b.length ≤ LIM) (h : ∀ S, S = a ++ b → Q (.str S) H) : binW .Add (.str a) (.str b) Q H := .addS a b k (h _ rfl)
theorem str_len_append (a b : Str) : (a ++ b).length = a.length + b.length := by
  show (a.cps ++ b.cps).size = a.cps.size + b.cps.size
  simp
theorem join_len {e : Str} (he : e.length = 0) : ∀ ss : List Str, (∀ s ∈ ss, s.length = 1) → (Str.join e ss).length = ss.length
  | [], _ => rfl
  | [x], h => by simpa [Str.join] using h x (by simp)
  | x :: y :: r, h => by
    have ih := join_len he (y :: r) fun s hs => h s (List.mem_cons_of_mem _ hs)
    show (x ++ e ++ Str.join e (y :: r)).length = _
    rw [str_len_append, str_len_append, ih, he, h x (by simp)]
    simp; omega
theorem sum_ones : ∀ ss : List Str, (∀ s ∈ ss, s.length = 1) → (ss.map (·.length)).sum = ss.length
  | [], _ => rfl
  | x :: r, h => by
    rw [List.map_cons, List.sum_cons, sum_ones r fun s hs => h s (List.mem_cons_of_mem _ hs), h x (by simp), List.length_cons]; omega
theorem sign_at {s : Str} {i : Int} (h0 : 0 ≤ i) (h1 : i < s.length) : ∃ x, signAt s i = some x ∧ x.length = 1 := by
  obtain ⟨n, rfl⟩ := Int.eq_ofNat_of_zero_le h0
  have hn : n < s.cps.toList.length := by
    have : n < s.length := by omega
    simpa [Str.length] using this
  refine ⟨⟨#[s.cps.toList[n]]⟩, ?_, rfl⟩
  unfold signAt
  rw [itemAt_nat rfl (List.getElem?_eq_getElem hn)]
  rfl
theorem I_pos {c : Prop} [Decidable c] {A B : Prop} (h : c) (a : A) : if c then A else B := by rw [if_pos h]; exact a
theorem I_neg {c : Prop} [Decidable c] {A B : Prop} (h : ¬ c) (b : B) : if c then A else B := by rw [if_neg h]; exact b
theorem EqL.strs {H : AHeap} {n : Nat} : ∀ ss tt : List Str, EqL H n (ss.map .str) (tt.map .str) (decide (ss = tt))
  | [], [] => .nil
  | [], t :: tt => by simpa using EqL.r (H := H) (n := n) (.str t) (tt.map .str)
  | s :: ss, [] => by simpa using EqL.l (H := H) (n := n) (.str s) (ss.map .str)
  | s :: ss, t :: tt => by
    have := EqL.c (EqV.str (H := H) (n := n) s t) (EqL.strs ss tt)
    have e : decide (s :: ss = t :: tt) = ((s == t) && decide (ss = tt)) := by
      by_cases h1 : s = t <;> by_cases h2 : ss = tt <;> simp [h1, h2]
    rw [e]; exact this
theorem eq_strs {H : AHeap} (ss tt : List Str) : EqT H (.tup (ss.map .str)) (.tup (tt.map .str)) (decide (ss = tt)) := .val (.tup (n := 39) (EqL.strs ss tt))
end Mine
end
section
open PySem PySem.W PySem.Calls PyProof.Rows
namespace Mine
set_option autoImplicit false
/-! the call from outside -/
section
variable {cx : Cx} {g : Gl} {fl : List Str} {mg mb : Str → Option Value} {n : Nat}
theorem top_fn (ck : Cok cx g fl mg mb n) {fd : FuncData} {nm : List Str} {np k : Nat} {kd : Kd} {body : ASs} {a : Addr} {o : Obj} (fn : FnOk cx fl fd nm np k kd body) (lim : cx.B.NoLimit) (ho : cx.B.get? a = some o) (hd : o.data = .func fd) (hcd : cx.B.CodeRec fd.code fd.qualname)
    {A : Around} {s : Shared} {vs : List Value} {ps : List PV} {Q : Post} {R : Result → Shared → Prop} (hfr : A.frames = some []) (hqu : A.handled = none) (hdep : A.depth + (n + 1) ≤ 900) (huni : A.units + 4 * (n + 1) + 200 ≤ cLine)
    (tb : cx.B.StaysIn s.heap) (rs : RepL cx s.heap vs ps) (hlen : ps.length = np)
    (h : awpSs g body (fun _ H => Q .none H) Q (fun _ _ _ => False) (initL nm np ps) (fun _ => none))
    (hR : ∀ v p H' s', Rep cx s'.heap v p → Kp cx [] (fun _ => none) s H' s' → Q p H' → R (.ok (.ret v)) s') : codeAny cx.M A (.call (.ref a) ⟨vs, []⟩) R s := by
  have hvl : vs.length = np := by rw [rs.length]; exact hlen
  let H : AHeap := fun _ => none
  have th : Holds cx s.heap H := fun _ _ e => nomatch e
  have fresh : ∀ b, s.heap.objs.size ≤ b → s.heap.get? b = none := fun b hb => get_ge_none hb
  have bnone : ∀ b, s.heap.objs.size ≤ b → cx.B.get? b = none := fun b hb => by
    cases e : cx.B.get? b with
    | none => rfl
    | some o => have := fresh b hb; rw [tb _ _ e] at this; cases this
  have hnd : ((nm.take np).Nodup) := by
    have h1 : nm.take np = (nm.take k).take np := by rw [List.take_take, Nat.min_eq_left fn.le.1]
    rw [h1]; exact fn.nodup.sublist (List.take_sublist _ _)
  have htl : (nm.take np).length = np := by rw [List.length_take]; have := fn.le; omega
  have hmapz : ((nm.take np).zip vs).map (·.1) = nm.take np := by rw [List.map_fst_zip]; omega
  refine (codeAny_call_cells (binds := (nm.take np).zip vs) (by show _ < 1000; omega) (tb _ _ ho) hd (lim.keeps tb) (hcd.keeps tb) fn.bdy (fn.bind vs hvl) fn.clo (fun x hx => ?_) (fun s₁ ic => ?_) fn.co fn.gen fn.kind)
  · have hx1 : x.1 ∈ nm.take np := by rw [← hmapz]; exact List.mem_map_of_mem hx
    have := List.all_eq_true.mp fn.pkind x.1 hx1
    simp only [Bool.or_eq_true, beq_iff_eq] at this
    rcases this with h1 | h1
    · exact .inl h1
    · exact .inr ⟨h1, cellsFrom_has _ _ _ (.inl (lookup_mem h1))⟩
  · generalize hEnv : callEnvC fd s.heap.objs.size a = env at ic ⊢
    have eL : env.locals = s.heap.objs.size := by rw [← hEnv]; rfl
    have eF : env.frame = some s.heap.objs.size := by rw [← hEnv]; rfl
    have eK : env.kindOf = fun x => fd.scope.names.lookup x := by rw [← hEnv]; rfl
    have eC : env.cells = cellsFrom (s.heap.objs.size + 1) fd.scope.names [] := by rw [← hEnv]; rfl
    have eG : env.globals = cx.ga := by rw [← hEnv, ← fn.glob]; rfl
    have eB : env.builtins = cx.ba := by rw [← hEnv, ← fn.bltn]; rfl
    have eS : env.scope.kind = .function := by rw [← hEnv]; exact fn.kind
    have eD : fd.scope.names = env.scope.names := by rw [← hEnv]; rfl
    clear hEnv
    have keep := ic.toInCall.keep
    have so : ∀ b o, s.heap.get? b = some o → Solid o → s₁.heap.get? b = some o := fun b o e _ => keep b o e
    let F' : Fm := { A := A.deeper env, env := env, fs := [env], nm := nm, vis := fun i => decide (i < k) }
    have memz : ∀ i v, i < k → (initL nm np ps).getD i none = some v → ∃ x, (slot nm i, x) ∈ (nm.take np).zip vs ∧ Rep cx s₁.heap x v := fun i v hi hv => by
      have hlt : i < np := by
        apply Classical.byContradiction
        intro hge
        have : (initL nm np ps).getD i none = none := by
          unfold initL
          rw [List.getD_eq_getElem?_getD, List.getElem?_append_right (by simp; omega)]
          cases e : (List.replicate (nm.length - np) (none : Option PV))[i - (ps.map some).length]? with
          | none => rfl
          | some o => rw [List.getElem?_replicate] at e; split at e <;> simp_all
        rw [this] at hv; cases hv
      have hp : ps[i]? = some v := by
        unfold initL at hv
        rw [List.getD_eq_getElem?_getD, List.getElem?_append_left (by simp; omega)] at hv
        rw [List.getElem?_map] at hv
        cases e : ps[i]? with
        | none => rw [e] at hv; simp at hv
        | some w => rw [e] at hv; simp at hv; rw [hv]
      obtain ⟨x, ex, rx⟩ := rs.get hp
      refine ⟨x, ?_, rx.mono so⟩
      have hin : i < nm.length := by have := fn.le; omega
      have e1 : (nm.take np)[i]? = some (slot nm i) := by
        rw [List.getElem?_take, if_pos hlt]
        unfold slot
        rw [List.getD_eq_getElem?_getD, List.getElem?_eq_getElem hin]; rfl
      have : ((nm.take np).zip vs)[i]? = some (slot nm i, x) := by rw [List.getElem?_zip_eq_some]; exact ⟨e1, ex⟩
      exact List.mem_of_getElem? this
    have fo' : Fok cx n true kd F' := by
      refine ⟨?_, eS, by rw [fn.kdo]; exact eK, eG, eB, fun _ => hqu, ?_, ?_, fun x hx => ?_, fun x y c h1 h2 => ?_, fun i j hi hj e => ?_⟩
      · show (A.deeper env).frames = some [env]
        unfold Around.deeper; rw [hfr]; rfl
      · show A.depth + 1 + n ≤ 900; omega
      · show A.units + 3 + 4 * n + 200 ≤ cLine; omega
      · rw [fn.kdo] at hx
        rcases hx with hx | hx
        · exact Option.isSome_iff_exists.mp (by show (env.cells.lookup x).isSome = true; rw [eC]; exact cellsFrom_has _ _ _ (.inl (lookup_mem hx)))
        · have := List.all_eq_true.mp fn.nofree _ (lookup_mem hx)
          simp at this
      · exact name_of_addr ic.apart (mem_of_lookup h1) (mem_of_lookup h2)
      · have hi' : i < k := of_decide_eq_true hi
        have hj' : j < k := of_decide_eq_true hj
        have hl := fn.le.2
        have ei : (nm.take k)[i]? = some (slot nm i) := by
          rw [List.getElem?_take, if_pos hi']; unfold slot; rw [List.getD_eq_getElem?_getD, List.getElem?_eq_getElem (by omega)]; rfl
        have ej : (nm.take k)[j]? = some (slot nm j) := by
          rw [List.getElem?_take, if_pos hj']; unfold slot; rw [List.getD_eq_getElem?_getD, List.getElem?_eq_getElem (by omega)]; rfl
        have e' : slot nm i = slot nm j := e
        rw [e'] at ei
        exact (List.getElem?_inj (by rw [List.length_take]; omega) fn.nodup).mp (by rw [ei, ej])
    have st' : St cx F' (initL nm np ps) H s₁.heap := by
      obtain ⟨oL, es, ep, gL, dL, rL⟩ := id ic.toInCall.ns
      rw [eL] at gL
      refine ⟨fun b o e => keep b o (tb b o e), fun _ _ _ => rfl, th.grow keep, fun env' he => ?_, ⟨?_, ?_⟩, ⟨oL, es, ep, _, by rw [← eL] at gL; exact gL, dL, ic.toInCall.ns, fun i v h1 h2 h3 => ?_⟩, fun nn c hc => ?_⟩
      · rcases List.mem_cons.mp he with rfl | he
        · exact ⟨by rw [eS]; decide, s.heap.objs.size, oL, es, ep, eF, th.fresh (fresh _ (Nat.le_refl _)), bnone _ (Nat.le_refl _), gL, dL⟩
        · exact nomatch he
      · rfl
      · show cx.B.get? env.locals = none
        rw [eL]; exact bnone _ (Nat.le_refl _)
      · obtain ⟨x, hx, rx⟩ := memz i v (of_decide_eq_true h1) h3
        exact ⟨x, bindL_at h2 _ _ (by rw [hmapz]; exact hnd) hx, rx⟩
      · obtain ⟨oc, gc, dc⟩ := ic.cell nn c hc
        have hlt := ic.above nn c (mem_of_lookup hc)
        rw [eL] at hlt
        refine ⟨th.fresh (fresh _ (Nat.le_of_lt hlt)), bnone _ (Nat.le_of_lt hlt), oc, _, gc, dc, fun i v h1 h2 h3 h4 => ?_⟩
        obtain ⟨x, hx, rx⟩ := memz i v (of_decide_eq_true h1) h4
        subst h2
        exact ⟨x, bindC_at h3 _ _ (by rw [hmapz]; exact hnd) hx, rx⟩
    have kp₁ : Kp cx (plc F') H s H s₁ := by
      obtain ⟨h', tk, e⟩ := ic.toInCall.same
      rw [e]
      exact .grow (fun b o q => by have := keep b o q; rw [e] at this; exact this) fun _ _ _ q => q
    have down : ∀ {H' : AHeap} {s' : Shared}, Kp cx (plc F') H s H' s' → Kp cx [] H s H' s' := fun {H' s'} kp => kp.sub fun b o e hb => by
      exfalso
      rcases List.mem_cons.mp hb with q | hb
      · rw [q] at e; have : s.heap.get? env.locals = none := by rw [eL]; exact fresh _ (Nat.le_refl _)
        rw [show F'.env.locals = env.locals from rfl, this] at e; cases e
      · obtain ⟨p, _, hl⟩ := List.mem_filterMap.mp hb
        have hlt := ic.above p.1 b (mem_of_lookup hl)
        rw [eL] at hlt
        rw [fresh b (Nat.le_of_lt hlt)] at e; cases e
    have body := soundSs ck body (F := F') (outer := []) (L := s.heap.objs.size) fo' rfl eF (by rw [fn.kdo]; exact fn.okb) st' h
    refine wpAny_mono body (fun f s' h' => ?_) fun e s' h' => ?_
    · cases f with
      | next =>
        obtain ⟨m', H', t', kp', hq⟩ := h'
        exact hR .none .none H' _ .none (down (kp₁.trans kp')) hq
      | ret v =>
        obtain ⟨p, m', H', rv, t', kp', hq⟩ := h'
        exact hR v p H' _ rv (down (kp₁.trans kp')) hq
      | brk => exact h'.elim
      | cont => exact h'.elim
    · obtain ⟨e, c, m', H', rfl, x', t', kp', hx⟩ := h'
      exact hx.elim

theorem law_top {p : Program} {loose : List Str} {mean : ExcName → Option Value} (ck : Cok cx g fl mg mb n) (T : Top p loose mean mg mb cx.B) (hga : cx.ga = mainGlobals) (hba : cx.ba = builtinsNs) {d : DefRec} {nm : List Str} {k : Nat} {sc : Scope} {body : ASs}
    (hd : d ∈ recsOf p) (h1 : d.name = "law") (h2 : d.body = body.toSs nm) (h3 : d.scope = sc) (hb : ∀ (pm code doc : Value) (vals : List Value), vals.length = 1 → bindArgs (docDef d.name d.params d.body d.scope pm code doc) ⟨vals, []⟩ = pure ((nm.take 1).zip vals))
    (hc : fnChk fl nm 1 k sc body = true) {s : Shared} (hs : cx.B = s.heap) {fa l : Addr} {items : Array Value} {ns : List Int} (hmg : mg "law" = some (.ref fa)) (il : s.heap.IsList l items) (ia : IntsAre items.toList ns) (hl : ns.length ≤ LIM) (hn : n ≤ 500)
    (spec : ∀ {Q : Post}, (∀ H, Q (.bool true) H) → awpSs g body (fun _ H => Q .none H) Q (fun _ _ _ => False) (initL nm 1 [.fls ns]) (fun _ => none))
    {R : Result → Shared → Prop} (hR : ∀ h' tk, (∀ b o, s.heap.get? b = some o → h'.get? b = some o) → R (.ok (.ret (.bool true))) { s with heap := h', toks := tk }) : codeAny cx.M callerA (.call (.ref fa) ⟨[.ref l], []⟩) R s := by
  obtain ⟨a, o, pm, code, doc, hm, ho, hdat, hcd⟩ := T.fn d hd
  unfold fnChk at hc
  simp only [Bool.and_eq_true, Bool.not_eq_true', decide_eq_true_eq] at hc
  obtain ⟨⟨⟨⟨⟨⟨⟨⟨c1, c2⟩, c3⟩, c4⟩, c5⟩, c6⟩, c7⟩, c8⟩, c9⟩ := hc
  rw [h1, hmg] at hm
  cases hm
  subst h3
  have hB : cx.B.StaysIn s.heap := by rw [hs]; exact fun _ _ e => e
  refine top_fn (Q := fun p _ => p = .bool true) (kd := fun x => d.scope.names.lookup x) ck ⟨hga.symm, hba.symm, rfl, c1, c2, c3, rfl, c4, by show FuncBody.stmts d.body = _; rw [h2], hb pm code doc, c5, ⟨c6, c7⟩, c8, c9⟩ T.nolimit ho hdat hcd
    (A := callerA) rfl rfl ?_ ?_ hB (.cons (.fls (by rw [hs]; exact il) ia hl) .nil) rfl (spec (Q := fun p _ => p = .bool true) fun _ => rfl) fun v p H' s' rv kp hq => ?_
  · have : callerA.depth = 301 := by decide +kernel
    omega
  · have : callerA.units = 4 := rfl
    have : 4 + 4 * 501 + 200 ≤ cLine := by decide +kernel
    omega
  · subst hq
    cases rv
    obtain ⟨h', tk, rfl⟩ := kp.same
    exact hR h' tk fun b o e => kp.base b o (by rw [hs]; exact e) e
end
end Mine
end
section
open PySem PySem.W PySem.Calls PyProof.Rows
namespace Mine
set_option autoImplicit false

/-! the program's constants, told from its laid heap -/
noncomputable def refAt (K : Frag) (x : Str) : Addr := match kmg K x with
  | some (.ref a) => a
  | _ => 0
noncomputable def dictL (K : Frag) (a : Addr) : List (Str × Tok × Value) := match K.lookup a with
  | some o => (match o.data with
    | .dict es _ => es.toList.filterMap fun e => match e.key with | .str s t => some (s, t, e.val) | _ => none
    | _ => [])
  | none => []
noncomputable def dictEp (K : Frag) (a : Addr) : Nat := match K.lookup a with
  | some o => (match o.data with | .dict _ n => n | _ => 0)
  | none => 0
noncomputable def entV (P : Params) (l : List (Str × Tok × Value)) : Array DictEntry := (l.map fun e => ({ hash := PyData.keyHash P e.1, key := .str e.1 e.2.1, val := e.2.2 } : DictEntry)).toArray
noncomputable def intChk (K : Frag) (x : Str) (i : Int) : Bool := match kmg K x with
  | some (.int j _) => j == i
  | _ => false
noncomputable def valChk (K : Frag) (v : Value) : PV → Bool
  | .str s => strOf? v == some s
  | .tup xs => (match v with
    | .ref b => (match xs.mapM fun x => (match x with | .str s => some s | _ => none) with | some ss => tupChk K b ss | none => false)
    | _ => false)
  | _ => false

section
variable {cx : Cx} {K : Frag}
theorem int_of {x : Str} {i : Int} {mg : Str → Option Value} {h : Heap} (hm : mg = kmg K) (hk : intChk K x i = true) : ∃ v, mg x = some v ∧ Rep cx h v (.int i) := by
  unfold intChk at hk
  split at hk
  · rename_i j t e
    rw [beq_iff_eq] at hk
    subst hk
    exact ⟨_, by rw [hm]; exact e, .int _ _⟩
  · cases hk
theorem mapM_strs : ∀ {xs : List PV} {ss : List Str}, (xs.mapM fun x => (match x with | .str s => some s | _ => none : Option Str)) = some ss → xs = ss.map .str
  | [], ss, h => by simp at h; subst h; rfl
  | x :: xs, ss, h => by
    rw [List.mapM_cons] at h
    cases x with
    | str s =>
      cases q : xs.mapM (fun x => (match x with | .str s => some s | _ => none : Option Str)) with
      | none => rw [q] at h; simp at h
      | some tt =>
        rw [q] at h
        simp at h
        subst h
        rw [mapM_strs q]; rfl
    | _ => simp at h
theorem val_of {h : Heap} (X : K.In h) {v : Value} {q : PV} (hk : valChk K v q = true) : Rep cx h v q := by
  cases q with
  | str s =>
    cases v <;> simp [valChk, strOf?] at hk
    subst hk
    exact .str _ _
  | tup xs =>
    cases v with
    | ref b =>
      simp only [valChk] at hk
      split at hk
      · rename_i ss e
        rw [mapM_strs e]
        exact tup_of X hk
      · cases hk
    | _ => simp [valChk] at hk
  | _ => simp [valChk] at hk
theorem fdt_pairsV {h : Heap} (X : K.In h) : ∀ {l : List (Str × Tok × Value)} {kvs : List (Str × PV)}, l.map (·.1) = kvs.map (·.1) → ((l.zip kvs).all fun e => valChk K e.1.2.2 e.2.2) = true → RepK cx h (l.map fun e => (e.1, e.2.2)) kvs
  | [], [], _, _ => .nil
  | [], _ :: _, e, _ => by simp at e
  | _ :: _, [], e, _ => by simp at e
  | (k, t, a) :: l, (k', q) :: kvs, e, hk => by
    simp only [List.map_cons, List.cons.injEq] at e
    simp only [List.zip_cons_cons, List.all_cons, Bool.and_eq_true] at hk
    obtain ⟨rfl, e⟩ := e
    exact .cons (val_of X hk.1) (fdt_pairsV X e hk.2)
theorem fdt_ofV {h : Heap} (X : K.In cx.B) {x : Str} {mg : Str → Option Value} {kvs : List (Str × PV)} (hm : mg = kmg K) (h1 : kmg K x = some (.ref (refAt K x)))
    (hl : K.lookup (refAt K x) = some { cls := .type "dict", data := .dict (entV cx.w.params (dictL K (refAt K x))) (dictEp K (refAt K x)) })
    (hkv : (dictL K (refAt K x)).map (·.1) = kvs.map (·.1)) (hn : (kvs.map (·.1)).Nodup) (hk : (((dictL K (refAt K x)).zip kvs).all fun e => valChk K e.1.2.2 e.2.2) = true) (hh : cx.B.StaysIn h) : ∃ v, mg x = some v ∧ Rep cx h v (.fdt kvs) := by
  refine ⟨_, by rw [hm]; exact h1, ?_⟩
  generalize hla : dictL K (refAt K x) = l at hl hkv hk
  refine .fdt (vs := l.map fun e => (e.1, e.2.2)) ⟨_, _, _, X _ _ hl, ⟨rfl, rfl, rfl⟩, rfl, ?_, ?_, ?_⟩ (fdt_pairsV (X.keeps hh) hkv hk)
  · intro e he
    unfold entV at he
    simp only [List.mem_toArray, List.mem_map] at he
    obtain ⟨x, _, rfl⟩ := he
    exact ⟨x.1, by simp [Cx.sk, PySem.strKind, Value.isStrOf], rfl⟩
  · unfold entV
    simp only [List.toList_toArray]
    clear hl hla hn hkv hk h1
    induction l with
    | nil => exact .nil
    | cons x l ih => exact .cons (by simp [Cx.sk, PySem.strKind, Value.isStrOf]) rfl ih
  · rw [List.map_map]
    show (l.map (·.1)).Nodup
    rw [hkv]; exact hn
end
end Mine
end
section
open PySem PySem.W PySem.Calls PyProof.Rows
namespace Mine
set_option autoImplicit false
noncomputable def N_kinds_of : List Str := ["stack", "kinds", "value"]
noncomputable def B_kinds_of : ASs :=
    (.cons (.assign 1 ⟨19, 4, 19, 9⟩ (.list .nil ⟨19, 12, 19, 14⟩) ⟨19, 4, 19, 14⟩)
    (.cons (.for 2 ⟨20, 8, 20, 13⟩ (.var 0 ⟨20, 17, 20, 22⟩) (.cons (.ite (.isi (.var 2 ⟨21, 22, 21, 27⟩) .str ⟨21, 11, 21, 21⟩ ⟨21, 29, 21, 32⟩ default default ⟨21, 11, 21, 33⟩) (.cons (.expr (.meth (.var 1 ⟨22, 12, 22, 17⟩) .append (.cons (.lit (.str "text") 0 ⟨22, 25, 22, 31⟩) .nil) ⟨22, 12, 22, 24⟩ ⟨22, 12, 22, 32⟩) ⟨22, 12, 22, 32⟩)
    .nil) (.cons (.expr (.meth (.var 1 ⟨24, 12, 24, 17⟩) .append (.cons (.lit (.str "num") 0 ⟨24, 25, 24, 30⟩) .nil) ⟨24, 12, 24, 24⟩ ⟨24, 12, 24, 31⟩) ⟨24, 12, 24, 31⟩)
    .nil) ⟨21, 8, 24, 31⟩)
    .nil) ⟨20, 4, 24, 31⟩)
    (.cons (.ret (.blt .tuple (.cons (.var 1 ⟨25, 17, 25, 22⟩) .nil) ⟨25, 11, 25, 16⟩ ⟨25, 11, 25, 23⟩) ⟨25, 4, 25, 23⟩)
    .nil)))
noncomputable def S_kinds_of : Scope := {
              kind := PySem.ScopeKind.function,
              names := [
                (PySem.Str.ofString "stack", PySem.NameKind.local),
                (PySem.Str.ofString "kinds", PySem.NameKind.local),
                (PySem.Str.ofString "value", PySem.NameKind.local),
                (PySem.Str.ofString "isinstance", PySem.NameKind.globalImplicit),
                (PySem.Str.ofString "str", PySem.NameKind.globalImplicit),
                (PySem.Str.ofString "tuple", PySem.NameKind.globalImplicit)],
              isGenerator := false,
              isCoroutine := false,
              more := [] : PySem.Scope }

noncomputable def N_need : List Str := ["stack", "count"]
noncomputable def B_need : ASs :=
    (.cons (.ite (.cmp (.blt .len (.cons (.var 0 ⟨27, 11, 27, 16⟩) .nil) ⟨27, 7, 27, 10⟩ ⟨27, 7, 27, 17⟩) .Lt (.var 1 ⟨27, 20, 27, 25⟩) ⟨27, 7, 27, 25⟩) (.cons (.raise 1 "Empty" "too few values" 0 ⟨28, 14, 28, 19⟩ ⟨28, 20, 28, 36⟩ ⟨28, 14, 28, 37⟩ ⟨28, 8, 28, 37⟩)
    .nil) .nil ⟨27, 4, 28, 37⟩)
    .nil)
noncomputable def S_need : Scope := {
              kind := PySem.ScopeKind.function,
              names := [
                (PySem.Str.ofString "stack", PySem.NameKind.local),
                (PySem.Str.ofString "count", PySem.NameKind.local),
                (PySem.Str.ofString "len", PySem.NameKind.globalImplicit),
                (PySem.Str.ofString "Empty", PySem.NameKind.globalImplicit)],
              isGenerator := false,
              isCoroutine := false,
              more := [] : PySem.Scope }

noncomputable def N_reckoned : List Str := ["word", "values"]
noncomputable def B_reckoned : ASs :=
    (.cons (.ite (.cmp (.var 0 ⟨30, 7, 30, 11⟩) .Eq (.lit (.str "add") 0 ⟨30, 15, 30, 20⟩) ⟨30, 7, 30, 20⟩) (.cons (.ret (.bin (.bin (.sub (.var 1 ⟨31, 16, 31, 22⟩) (.lit (.int 0) 0 ⟨31, 23, 31, 24⟩) ⟨31, 16, 31, 25⟩) .Add (.sub (.var 1 ⟨31, 28, 31, 34⟩) (.lit (.int 1) 0 ⟨31, 35, 31, 36⟩) ⟨31, 28, 31, 37⟩) ⟨31, 16, 31, 37⟩) .Mod (.glob "BOUND" ⟨31, 41, 31, 46⟩) ⟨31, 15, 31, 46⟩) ⟨31, 8, 31, 46⟩)
    .nil) .nil ⟨30, 4, 31, 46⟩)
    (.cons (.ite (.cmp (.var 0 ⟨32, 7, 32, 11⟩) .Eq (.lit (.str "mul") 0 ⟨32, 15, 32, 20⟩) ⟨32, 7, 32, 20⟩) (.cons (.ret (.bin (.bin (.sub (.var 1 ⟨33, 15, 33, 21⟩) (.lit (.int 0) 0 ⟨33, 22, 33, 23⟩) ⟨33, 15, 33, 24⟩) .Mult (.sub (.var 1 ⟨33, 27, 33, 33⟩) (.lit (.int 1) 0 ⟨33, 34, 33, 35⟩) ⟨33, 27, 33, 36⟩) ⟨33, 15, 33, 36⟩) .Mod (.glob "BOUND" ⟨33, 39, 33, 44⟩) ⟨33, 15, 33, 44⟩) ⟨33, 8, 33, 44⟩)
    .nil) .nil ⟨32, 4, 33, 44⟩)
    (.cons (.ite (.cmp (.var 0 ⟨34, 7, 34, 11⟩) .Eq (.lit (.str "less") 0 ⟨34, 15, 34, 21⟩) ⟨34, 7, 34, 21⟩) (.cons (.ret (.blt .int (.cons (.cmp (.sub (.var 1 ⟨35, 19, 35, 25⟩) (.lit (.int 0) 0 ⟨35, 26, 35, 27⟩) ⟨35, 19, 35, 28⟩) .Lt (.sub (.var 1 ⟨35, 31, 35, 37⟩) (.lit (.int 1) 0 ⟨35, 38, 35, 39⟩) ⟨35, 31, 35, 40⟩) ⟨35, 19, 35, 40⟩) .nil) ⟨35, 15, 35, 18⟩ ⟨35, 15, 35, 41⟩) ⟨35, 8, 35, 41⟩)
    .nil) .nil ⟨34, 4, 35, 41⟩)
    (.cons (.ite (.cmp (.var 0 ⟨36, 7, 36, 11⟩) .Eq (.lit (.str "join") 0 ⟨36, 15, 36, 21⟩) ⟨36, 7, 36, 21⟩) (.cons (.ret (.sto (.bin (.sub (.var 1 ⟨37, 16, 37, 22⟩) (.lit (.int 0) 0 ⟨37, 23, 37, 24⟩) ⟨37, 16, 37, 25⟩) .Add (.sub (.var 1 ⟨37, 28, 37, 34⟩) (.lit (.int 1) 0 ⟨37, 35, 37, 36⟩) ⟨37, 28, 37, 37⟩) ⟨37, 16, 37, 37⟩) (.glob "LONGEST" ⟨37, 40, 37, 47⟩) ⟨37, 39, 37, 47⟩ ⟨37, 15, 37, 48⟩) ⟨37, 8, 37, 48⟩)
    .nil) .nil ⟨36, 4, 37, 48⟩)
    (.cons (.ite (.cmp (.var 0 ⟨38, 7, 38, 11⟩) .Eq (.lit (.str "long") 0 ⟨38, 15, 38, 21⟩) ⟨38, 7, 38, 21⟩) (.cons (.ret (.blt .len (.cons (.sub (.var 1 ⟨39, 19, 39, 25⟩) (.lit (.int 0) 0 ⟨39, 26, 39, 27⟩) ⟨39, 19, 39, 28⟩) .nil) ⟨39, 15, 39, 18⟩ ⟨39, 15, 39, 29⟩) ⟨39, 8, 39, 29⟩)
    .nil) .nil ⟨38, 4, 39, 29⟩)
    (.cons (.ret (.blt .str (.cons (.sub (.var 1 ⟨40, 15, 40, 21⟩) (.lit (.int 0) 0 ⟨40, 22, 40, 23⟩) ⟨40, 15, 40, 24⟩) .nil) ⟨40, 11, 40, 14⟩ ⟨40, 11, 40, 25⟩) ⟨40, 4, 40, 25⟩)
    .nil))))))
noncomputable def S_reckoned : Scope := {
              kind := PySem.ScopeKind.function,
              names := [
                (PySem.Str.ofString "word", PySem.NameKind.local),
                (PySem.Str.ofString "values", PySem.NameKind.local),
                (PySem.Str.ofString "BOUND", PySem.NameKind.globalImplicit),
                (PySem.Str.ofString "int", PySem.NameKind.globalImplicit),
                (PySem.Str.ofString "LONGEST", PySem.NameKind.globalImplicit),
                (PySem.Str.ofString "len", PySem.NameKind.globalImplicit),
                (PySem.Str.ofString "str", PySem.NameKind.globalImplicit)],
              isGenerator := false,
              isCoroutine := false,
              more := [] : PySem.Scope }

noncomputable def N_done : List Str := ["stack", "row", "word", "size", "takes", "values"]
noncomputable def B_done : ASs :=
    (.cons (.assign 2 ⟨42, 4, 42, 8⟩ (.sub (.var 1 ⟨42, 11, 42, 14⟩) (.lit (.int 0) 0 ⟨42, 15, 42, 16⟩) ⟨42, 11, 42, 17⟩) ⟨42, 4, 42, 17⟩)
    (.cons (.assign 3 ⟨43, 4, 43, 8⟩ (.blt .len (.cons (.var 0 ⟨43, 15, 43, 20⟩) .nil) ⟨43, 11, 43, 14⟩ ⟨43, 11, 43, 21⟩) ⟨43, 4, 43, 21⟩)
    (.cons (.ite (.bop .Or (.cons (.cmp (.var 2 ⟨44, 7, 44, 11⟩) .Eq (.lit (.str "num") 0 ⟨44, 15, 44, 20⟩) ⟨44, 7, 44, 20⟩) (.cons (.cmp (.var 2 ⟨44, 24, 44, 28⟩) .Eq (.lit (.str "text") 0 ⟨44, 32, 44, 38⟩) ⟨44, 24, 44, 38⟩) .nil)) ⟨44, 7, 44, 38⟩) (.cons (.ret (.bin (.blt .list (.cons (.var 0 ⟨45, 20, 45, 25⟩) .nil) ⟨45, 15, 45, 19⟩ ⟨45, 15, 45, 26⟩) .Add (.list (.cons (.sub (.var 1 ⟨45, 30, 45, 33⟩) (.lit (.int 1) 0 ⟨45, 34, 45, 35⟩) ⟨45, 30, 45, 36⟩) .nil) ⟨45, 29, 45, 37⟩) ⟨45, 15, 45, 37⟩) ⟨45, 8, 45, 37⟩)
    .nil) .nil ⟨44, 4, 45, 37⟩)
    (.cons (.ite (.cmp (.var 2 ⟨46, 7, 46, 11⟩) .Eq (.lit (.str "copy") 0 ⟨46, 15, 46, 21⟩) ⟨46, 7, 46, 21⟩) (.cons (.expr (.call "need" (.cons (.var 0 ⟨47, 13, 47, 18⟩) (.cons (.bin (.sub (.var 1 ⟨47, 20, 47, 23⟩) (.lit (.int 1) 0 ⟨47, 24, 47, 25⟩) ⟨47, 20, 47, 26⟩) .Add (.lit (.int 1) 0 ⟨47, 29, 47, 30⟩) ⟨47, 20, 47, 30⟩) .nil)) ⟨47, 8, 47, 12⟩ ⟨47, 8, 47, 31⟩) ⟨47, 8, 47, 31⟩)
    (.cons (.ret (.bin (.blt .list (.cons (.var 0 ⟨48, 20, 48, 25⟩) .nil) ⟨48, 15, 48, 19⟩ ⟨48, 15, 48, 26⟩) .Add (.list (.cons (.sub (.var 0 ⟨48, 30, 48, 35⟩) (.bin (.bin (.var 3 ⟨48, 36, 48, 40⟩) .Sub (.lit (.int 1) 0 ⟨48, 43, 48, 44⟩) ⟨48, 36, 48, 44⟩) .Sub (.sub (.var 1 ⟨48, 47, 48, 50⟩) (.lit (.int 1) 0 ⟨48, 51, 48, 52⟩) ⟨48, 47, 48, 53⟩) ⟨48, 36, 48, 53⟩) ⟨48, 30, 48, 54⟩) .nil) ⟨48, 29, 48, 55⟩) ⟨48, 15, 48, 55⟩) ⟨48, 8, 48, 55⟩)
    .nil)) .nil ⟨46, 4, 48, 55⟩)
    (.cons (.ite (.cmp (.var 2 ⟨49, 7, 49, 11⟩) .Eq (.lit (.str "swap") 0 ⟨49, 15, 49, 21⟩) ⟨49, 7, 49, 21⟩) (.cons (.expr (.call "need" (.cons (.var 0 ⟨50, 13, 50, 18⟩) (.cons (.lit (.int 2) 0 ⟨50, 20, 50, 21⟩) .nil)) ⟨50, 8, 50, 12⟩ ⟨50, 8, 50, 22⟩) ⟨50, 8, 50, 22⟩)
    (.cons (.ret (.bin (.blt .list (.cons (.sto (.var 0 ⟨51, 20, 51, 25⟩) (.bin (.var 3 ⟨51, 27, 51, 31⟩) .Sub (.lit (.int 2) 0 ⟨51, 34, 51, 35⟩) ⟨51, 27, 51, 35⟩) ⟨51, 26, 51, 35⟩ ⟨51, 20, 51, 36⟩) .nil) ⟨51, 15, 51, 19⟩ ⟨51, 15, 51, 37⟩) .Add (.list (.cons (.sub (.var 0 ⟨51, 41, 51, 46⟩) (.bin (.var 3 ⟨51, 47, 51, 51⟩) .Sub (.lit (.int 1) 0 ⟨51, 54, 51, 55⟩) ⟨51, 47, 51, 55⟩) ⟨51, 41, 51, 56⟩) (.cons (.sub (.var 0 ⟨51, 58, 51, 63⟩) (.bin (.var 3 ⟨51, 64, 51, 68⟩) .Sub (.lit (.int 2) 0 ⟨51, 71, 51, 72⟩) ⟨51, 64, 51, 72⟩) ⟨51, 58, 51, 73⟩) .nil)) ⟨51, 40, 51, 74⟩) ⟨51, 15, 51, 74⟩) ⟨51, 8, 51, 74⟩)
    .nil)) .nil ⟨49, 4, 51, 74⟩)
    (.cons (.ite (.cmp (.var 2 ⟨52, 7, 52, 11⟩) .Eq (.lit (.str "drop") 0 ⟨52, 15, 52, 21⟩) ⟨52, 7, 52, 21⟩) (.cons (.expr (.call "need" (.cons (.var 0 ⟨53, 13, 53, 18⟩) (.cons (.lit (.int 1) 0 ⟨53, 20, 53, 21⟩) .nil)) ⟨53, 8, 53, 12⟩ ⟨53, 8, 53, 22⟩) ⟨53, 8, 53, 22⟩)
    (.cons (.ret (.blt .list (.cons (.sto (.var 0 ⟨54, 20, 54, 25⟩) (.bin (.var 3 ⟨54, 27, 54, 31⟩) .Sub (.lit (.int 1) 0 ⟨54, 34, 54, 35⟩) ⟨54, 27, 54, 35⟩) ⟨54, 26, 54, 35⟩ ⟨54, 20, 54, 36⟩) .nil) ⟨54, 15, 54, 19⟩ ⟨54, 15, 54, 37⟩) ⟨54, 8, 54, 37⟩)
    .nil)) .nil ⟨52, 4, 54, 37⟩)
    (.cons (.assign 4 ⟨55, 4, 55, 9⟩ (.sub (.glob "TAKES" ⟨55, 12, 55, 17⟩) (.var 2 ⟨55, 18, 55, 22⟩) ⟨55, 12, 55, 23⟩) ⟨55, 4, 55, 23⟩)
    (.cons (.expr (.call "need" (.cons (.var 0 ⟨56, 9, 56, 14⟩) (.cons (.blt .len (.cons (.var 4 ⟨56, 20, 56, 25⟩) .nil) ⟨56, 16, 56, 19⟩ ⟨56, 16, 56, 26⟩) .nil)) ⟨56, 4, 56, 8⟩ ⟨56, 4, 56, 27⟩) ⟨56, 4, 56, 27⟩)
    (.cons (.assign 5 ⟨57, 4, 57, 10⟩ (.blt .list (.cons (.sfrom (.var 0 ⟨57, 18, 57, 23⟩) (.bin (.var 3 ⟨57, 24, 57, 28⟩) .Sub (.blt .len (.cons (.var 4 ⟨57, 35, 57, 40⟩) .nil) ⟨57, 31, 57, 34⟩ ⟨57, 31, 57, 41⟩) ⟨57, 24, 57, 41⟩) ⟨57, 24, 57, 42⟩ ⟨57, 18, 57, 43⟩) .nil) ⟨57, 13, 57, 17⟩ ⟨57, 13, 57, 44⟩) ⟨57, 4, 57, 44⟩)
    (.cons (.ite (.cmp (.call "kinds_of" (.cons (.var 5 ⟨58, 16, 58, 22⟩) .nil) ⟨58, 7, 58, 15⟩ ⟨58, 7, 58, 23⟩) .NotEq (.var 4 ⟨58, 27, 58, 32⟩) ⟨58, 7, 58, 32⟩) (.cons (.raise 2 "WrongKind" "a value of another kind is wanted" 0 ⟨59, 14, 59, 23⟩ ⟨59, 24, 59, 59⟩ ⟨59, 14, 59, 60⟩ ⟨59, 8, 59, 60⟩)
    .nil) .nil ⟨58, 4, 59, 60⟩)
    (.cons (.ret (.bin (.blt .list (.cons (.sto (.var 0 ⟨60, 16, 60, 21⟩) (.bin (.var 3 ⟨60, 23, 60, 27⟩) .Sub (.blt .len (.cons (.var 4 ⟨60, 34, 60, 39⟩) .nil) ⟨60, 30, 60, 33⟩ ⟨60, 30, 60, 40⟩) ⟨60, 23, 60, 40⟩) ⟨60, 22, 60, 40⟩ ⟨60, 16, 60, 41⟩) .nil) ⟨60, 11, 60, 15⟩ ⟨60, 11, 60, 42⟩) .Add (.list (.cons (.call "reckoned" (.cons (.var 2 ⟨60, 55, 60, 59⟩) (.cons (.var 5 ⟨60, 61, 60, 67⟩) .nil)) ⟨60, 46, 60, 54⟩ ⟨60, 46, 60, 68⟩) .nil) ⟨60, 45, 60, 69⟩) ⟨60, 11, 60, 69⟩) ⟨60, 4, 60, 69⟩)
    .nil)))))))))))
noncomputable def S_done : Scope := {
              kind := PySem.ScopeKind.function,
              names := [
                (PySem.Str.ofString "stack", PySem.NameKind.local),
                (PySem.Str.ofString "row", PySem.NameKind.local),
                (PySem.Str.ofString "word", PySem.NameKind.local),
                (PySem.Str.ofString "size", PySem.NameKind.local),
                (PySem.Str.ofString "takes", PySem.NameKind.local),
                (PySem.Str.ofString "values", PySem.NameKind.local),
                (PySem.Str.ofString "len", PySem.NameKind.globalImplicit),
                (PySem.Str.ofString "list", PySem.NameKind.globalImplicit),
                (PySem.Str.ofString "need", PySem.NameKind.globalImplicit),
                (PySem.Str.ofString "TAKES", PySem.NameKind.globalImplicit),
                (PySem.Str.ofString "kinds_of", PySem.NameKind.globalImplicit),
                (PySem.Str.ofString "WrongKind", PySem.NameKind.globalImplicit),
                (PySem.Str.ofString "reckoned", PySem.NameKind.globalImplicit)],
              isGenerator := false,
              isCoroutine := false,
              more := [] : PySem.Scope }

noncomputable def N_law_draw : List Str := ["_law_script", "_law_tape", "_law_many", "_law_seed", "_law_cell"]
noncomputable def B_law_draw : ASs :=
    (.cons (.store (.var 1 ⟨63, 4, 63, 13⟩) (.lit (.int 0) 0 ⟨63, 14, 63, 15⟩) ⟨63, 4, 63, 16⟩ (.bin (.sub (.var 1 ⟨63, 19, 63, 28⟩) (.lit (.int 0) 0 ⟨63, 29, 63, 30⟩) ⟨63, 19, 63, 31⟩) .Add (.lit (.int 1) 0 ⟨63, 34, 63, 35⟩) ⟨63, 19, 63, 35⟩) ⟨63, 4, 63, 35⟩)
    (.cons (.ite (.cmp (.sub (.var 1 ⟨64, 7, 64, 16⟩) (.lit (.int 0) 0 ⟨64, 17, 64, 18⟩) ⟨64, 7, 64, 19⟩) .LtE (.blt .len (.cons (.var 0 ⟨64, 27, 64, 38⟩) .nil) ⟨64, 23, 64, 26⟩ ⟨64, 23, 64, 39⟩) ⟨64, 7, 64, 39⟩) (.cons (.ret (.bin (.sub (.var 0 ⟨65, 15, 65, 26⟩) (.bin (.sub (.var 1 ⟨65, 27, 65, 36⟩) (.lit (.int 0) 0 ⟨65, 37, 65, 38⟩) ⟨65, 27, 65, 39⟩) .Sub (.lit (.int 1) 0 ⟨65, 42, 65, 43⟩) ⟨65, 27, 65, 43⟩) ⟨65, 15, 65, 44⟩) .Mod (.var 2 ⟨65, 47, 65, 56⟩) ⟨65, 15, 65, 56⟩) ⟨65, 8, 65, 56⟩)
    .nil) .nil ⟨64, 4, 65, 56⟩)
    (.cons (.assign 3 ⟨66, 4, 66, 13⟩ (.blt .len (.cons (.var 0 ⟨66, 20, 66, 31⟩) .nil) ⟨66, 16, 66, 19⟩ ⟨66, 16, 66, 32⟩) ⟨66, 4, 66, 32⟩)
    (.cons (.for 4 ⟨67, 8, 67, 17⟩ (.sto (.var 0 ⟨67, 21, 67, 32⟩) (.lit (.int 4) 0 ⟨67, 34, 67, 35⟩) ⟨67, 33, 67, 35⟩ ⟨67, 21, 67, 36⟩) (.cons (.assign 3 ⟨68, 8, 68, 17⟩ (.bin (.bin (.bin (.var 3 ⟨68, 21, 68, 30⟩) .Mult (.lit (.int 131) 0 ⟨68, 33, 68, 36⟩) ⟨68, 21, 68, 36⟩) .Add (.var 4 ⟨68, 39, 68, 48⟩) ⟨68, 21, 68, 48⟩) .Mod (.lit (.int 1000003) 0 ⟨68, 52, 68, 59⟩) ⟨68, 20, 68, 59⟩) ⟨68, 8, 68, 59⟩)
    .nil) ⟨67, 4, 68, 59⟩)
    (.cons (.ret (.bin (.bin (.bin (.bin (.var 3 ⟨69, 12, 69, 21⟩) .Add (.lit (.int 7) 0 ⟨69, 24, 69, 25⟩) ⟨69, 12, 69, 25⟩) .Mult (.bin (.bin (.sub (.var 1 ⟨69, 30, 69, 39⟩) (.lit (.int 0) 0 ⟨69, 40, 69, 41⟩) ⟨69, 30, 69, 42⟩) .Mult (.sub (.var 1 ⟨69, 45, 69, 54⟩) (.lit (.int 0) 0 ⟨69, 55, 69, 56⟩) ⟨69, 45, 69, 57⟩) ⟨69, 30, 69, 57⟩) .Add (.lit (.int 48271) 0 ⟨69, 60, 69, 65⟩) ⟨69, 30, 69, 65⟩) ⟨69, 11, 69, 66⟩) .Mod (.lit (.int 1000003) 0 ⟨69, 69, 69, 76⟩) ⟨69, 11, 69, 76⟩) .Mod (.var 2 ⟨69, 79, 69, 88⟩) ⟨69, 11, 69, 88⟩) ⟨69, 4, 69, 88⟩)
    .nil)))))
noncomputable def S_law_draw : Scope := {
              kind := PySem.ScopeKind.function,
              names := [
                (PySem.Str.ofString "_law_script", PySem.NameKind.local),
                (PySem.Str.ofString "_law_tape", PySem.NameKind.local),
                (PySem.Str.ofString "_law_many", PySem.NameKind.local),
                (PySem.Str.ofString "_law_seed", PySem.NameKind.local),
                (PySem.Str.ofString "_law_cell", PySem.NameKind.local),
                (PySem.Str.ofString "len", PySem.NameKind.globalImplicit)],
              isGenerator := false,
              isCoroutine := false,
              more := [] : PySem.Scope }

noncomputable def N_law_words : List Str := ["_law_cell", "_law_size", "_law_signs", "_law_k"]
noncomputable def B_law_words : ASs :=
    (.cons (.assign 2 ⟨71, 4, 71, 14⟩ (.lit (.str "abcdefghijklmnopqrstuvwxyzABCDEFGHIJKLMNOPQRSTUVWXYZ0123456789") 0 ⟨71, 17, 71, 81⟩) ⟨71, 4, 71, 81⟩)
    (.cons (.assign 2 ⟨72, 4, 72, 14⟩ (.bin (.var 2 ⟨72, 17, 72, 27⟩) .Add (.lit (.str " .,;:!?'\"()[]{}<>+-*/=&|^~_#$@\\`") 0 ⟨72, 30, 72, 66⟩) ⟨72, 17, 72, 66⟩) ⟨72, 4, 72, 66⟩)
    (.cons (.ret (.meth (.lit (.str "") 0 ⟨73, 11, 73, 13⟩) .join (.cons (.comp (.sub (.var 2 ⟨73, 20, 73, 30⟩) (.bin (.bin (.bin (.var 0 ⟨73, 32, 73, 41⟩) .FloorDiv (.bin (.var 3 ⟨73, 46, 73, 52⟩) .Add (.lit (.int 1) 0 ⟨73, 55, 73, 56⟩) ⟨73, 46, 73, 56⟩) ⟨73, 32, 73, 57⟩) .Add (.bin (.lit (.int 5) 0 ⟨73, 60, 73, 61⟩) .Mult (.var 3 ⟨73, 64, 73, 70⟩) ⟨73, 60, 73, 70⟩) ⟨73, 32, 73, 70⟩) .Mod (.lit (.int 94) 0 ⟨73, 74, 73, 76⟩) ⟨73, 31, 73, 76⟩) ⟨73, 20, 73, 77⟩) 3 ⟨73, 82, 73, 88⟩ (.blt .range (.cons (.var 1 ⟨73, 98, 73, 107⟩) .nil) ⟨73, 92, 73, 97⟩ ⟨73, 92, 73, 108⟩) .nil {                           kind := PySem.ScopeKind.function,                           names := [                             (PySem.Str.ofString ".0", PySem.NameKind.local),                             (PySem.Str.ofString "_law_k", PySem.NameKind.local),                             (PySem.Str.ofString "_law_cell", PySem.NameKind.free),                             (PySem.Str.ofString "_law_signs", PySem.NameKind.free)],                           isGenerator := false,                           isCoroutine := false,                           more := [] : PySem.Scope } ⟨73, 19, 73, 109⟩) .nil) ⟨73, 11, 73, 18⟩ ⟨73, 11, 73, 110⟩) ⟨73, 4, 73, 110⟩)
    .nil)))
noncomputable def S_law_words : Scope := {
              kind := PySem.ScopeKind.function,
              names := [
                (PySem.Str.ofString "_law_cell", PySem.NameKind.cell),
                (PySem.Str.ofString "_law_size", PySem.NameKind.local),
                (PySem.Str.ofString "_law_signs", PySem.NameKind.cell),
                (PySem.Str.ofString "range", PySem.NameKind.globalImplicit)],
              isGenerator := false,
              isCoroutine := false,
              more := [
                (PySem.Str.ofString "fast", (PySem.Const.str "_law_cell")),
                (PySem.Str.ofString "fast", (PySem.Const.str "_law_size")),
                (PySem.Str.ofString "fast", (PySem.Const.str "_law_signs")),
                (PySem.Str.ofString "fast", (PySem.Const.str "_law_k"))] : PySem.Scope }

noncomputable def N_law_value : List Str := ["_law_script", "_law_tape", "_law_kind", "_law_cell", "_law_way"]
noncomputable def B_law_value : ASs :=
    (.cons (.assign 3 ⟨75, 4, 75, 13⟩ (.call "_law_draw" (.cons (.var 0 ⟨75, 26, 75, 37⟩) (.cons (.var 1 ⟨75, 39, 75, 48⟩) (.cons (.lit (.int 1000000000) 0 ⟨75, 50, 75, 60⟩) .nil))) ⟨75, 16, 75, 25⟩ ⟨75, 16, 75, 61⟩) ⟨75, 4, 75, 61⟩)
    (.cons (.assign 4 ⟨76, 4, 76, 12⟩ (.call "_law_draw" (.cons (.var 0 ⟨76, 25, 76, 36⟩) (.cons (.var 1 ⟨76, 38, 76, 47⟩) (.cons (.lit (.int 6) 0 ⟨76, 49, 76, 50⟩) .nil))) ⟨76, 15, 76, 24⟩ ⟨76, 15, 76, 51⟩) ⟨76, 4, 76, 51⟩)
    (.cons (.ite (.cmp (.var 2 ⟨77, 7, 77, 16⟩) .Eq (.lit (.str "text") 0 ⟨77, 20, 77, 26⟩) ⟨77, 7, 77, 26⟩) (.cons (.ite (.cmp (.var 4 ⟨78, 11, 78, 19⟩) .Eq (.lit (.int 0) 0 ⟨78, 23, 78, 24⟩) ⟨78, 11, 78, 24⟩) (.cons (.ret (.call "_law_words" (.cons (.var 3 ⟨79, 30, 79, 39⟩) (.cons (.bin (.lit (.int 58) 0 ⟨79, 41, 79, 43⟩) .Add (.bin (.var 3 ⟨79, 46, 79, 55⟩) .Mod (.lit (.int 3) 0 ⟨79, 58, 79, 59⟩) ⟨79, 46, 79, 59⟩) ⟨79, 41, 79, 59⟩) .nil)) ⟨79, 19, 79, 29⟩ ⟨79, 19, 79, 60⟩) ⟨79, 12, 79, 60⟩)
    .nil) .nil ⟨78, 8, 79, 60⟩)
    (.cons (.ret (.call "_law_words" (.cons (.var 3 ⟨80, 26, 80, 35⟩) (.cons (.bin (.bin (.var 3 ⟨80, 37, 80, 46⟩) .FloorDiv (.lit (.int 94) 0 ⟨80, 50, 80, 52⟩) ⟨80, 37, 80, 52⟩) .Mod (.lit (.int 8) 0 ⟨80, 55, 80, 56⟩) ⟨80, 37, 80, 56⟩) .nil)) ⟨80, 15, 80, 25⟩ ⟨80, 15, 80, 57⟩) ⟨80, 8, 80, 57⟩)
    .nil)) .nil ⟨77, 4, 80, 57⟩)
    (.cons (.ite (.cmp (.var 4 ⟨81, 7, 81, 15⟩) .Eq (.lit (.int 0) 0 ⟨81, 19, 81, 20⟩) ⟨81, 7, 81, 20⟩) (.cons (.ret (.bin (.lit (.int 999999999) 0 ⟨82, 15, 82, 24⟩) .Sub (.bin (.var 3 ⟨82, 27, 82, 36⟩) .Mod (.lit (.int 3) 0 ⟨82, 39, 82, 40⟩) ⟨82, 27, 82, 40⟩) ⟨82, 15, 82, 40⟩) ⟨82, 8, 82, 40⟩)
    .nil) .nil ⟨81, 4, 82, 40⟩)
    (.cons (.ite (.cmp (.var 4 ⟨83, 7, 83, 15⟩) .Lt (.lit (.int 3) 0 ⟨83, 18, 83, 19⟩) ⟨83, 7, 83, 19⟩) (.cons (.ret (.bin (.var 3 ⟨84, 15, 84, 24⟩) .Mod (.lit (.int 4) 0 ⟨84, 27, 84, 28⟩) ⟨84, 15, 84, 28⟩) ⟨84, 8, 84, 28⟩)
    .nil) .nil ⟨83, 4, 84, 28⟩)
    (.cons (.ret (.var 3 ⟨85, 11, 85, 20⟩) ⟨85, 4, 85, 20⟩)
    .nil))))))
noncomputable def S_law_value : Scope := {
              kind := PySem.ScopeKind.function,
              names := [
                (PySem.Str.ofString "_law_script", PySem.NameKind.local),
                (PySem.Str.ofString "_law_tape", PySem.NameKind.local),
                (PySem.Str.ofString "_law_kind", PySem.NameKind.local),
                (PySem.Str.ofString "_law_cell", PySem.NameKind.local),
                (PySem.Str.ofString "_law_way", PySem.NameKind.local),
                (PySem.Str.ofString "_law_draw", PySem.NameKind.globalImplicit),
                (PySem.Str.ofString "_law_words", PySem.NameKind.globalImplicit)],
              isGenerator := false,
              isCoroutine := false,
              more := [] : PySem.Scope }

noncomputable def N_law_wanted : List Str := ["_law_row", "_law_two", "_law_one"]
noncomputable def B_law_wanted : ASs :=
    (.cons (.ite (.cmp (.sub (.var 0 ⟨87, 7, 87, 15⟩) (.lit (.int 0) 0 ⟨87, 16, 87, 17⟩) ⟨87, 7, 87, 18⟩) .Eq (.lit (.str "copy") 0 ⟨87, 22, 87, 28⟩) ⟨87, 7, 87, 28⟩) (.cons (.ret (.bin (.list (.cons (.lit (.str "") 0 ⟨88, 16, 88, 18⟩) .nil) ⟨88, 15, 88, 19⟩) .Mult (.bin (.sub (.var 0 ⟨88, 23, 88, 31⟩) (.lit (.int 1) 0 ⟨88, 32, 88, 33⟩) ⟨88, 23, 88, 34⟩) .Add (.lit (.int 1) 0 ⟨88, 37, 88, 38⟩) ⟨88, 23, 88, 38⟩) ⟨88, 15, 88, 39⟩) ⟨88, 8, 88, 39⟩)
    .nil) .nil ⟨87, 4, 88, 39⟩)
    (.cons (.assign 1 ⟨89, 4, 89, 12⟩ (.dict [("add", ⟨89, 16, 89, 21⟩), ("mul", ⟨89, 30, 89, 35⟩), ("less", ⟨89, 44, 89, 50⟩), ("join", ⟨89, 59, 89, 65⟩), ("swap", ⟨89, 75, 89, 81⟩)] (.cons (.lit (.str "num") 0 ⟨89, 23, 89, 28⟩) (.cons (.lit (.str "num") 0 ⟨89, 37, 89, 42⟩) (.cons (.lit (.str "num") 0 ⟨89, 52, 89, 57⟩) (.cons (.lit (.str "text") 0 ⟨89, 67, 89, 73⟩) (.cons (.lit (.str "") 0 ⟨89, 83, 89, 85⟩) .nil))))) ⟨89, 15, 89, 86⟩) ⟨89, 4, 89, 86⟩)
    (.cons (.assign 2 ⟨90, 4, 90, 12⟩ (.dict [("long", ⟨90, 16, 90, 22⟩), ("show", ⟨90, 32, 90, 38⟩), ("drop", ⟨90, 47, 90, 53⟩)] (.cons (.lit (.str "text") 0 ⟨90, 24, 90, 30⟩) (.cons (.lit (.str "num") 0 ⟨90, 40, 90, 45⟩) (.cons (.lit (.str "") 0 ⟨90, 55, 90, 57⟩) .nil))) ⟨90, 15, 90, 58⟩) ⟨90, 4, 90, 58⟩)
    (.cons (.ite (.cmp (.sub (.var 0 ⟨91, 7, 91, 15⟩) (.lit (.int 0) 0 ⟨91, 16, 91, 17⟩) ⟨91, 7, 91, 18⟩) .In (.var 1 ⟨91, 22, 91, 30⟩) ⟨91, 7, 91, 30⟩) (.cons (.ret (.list (.cons (.sub (.var 1 ⟨92, 16, 92, 24⟩) (.sub (.var 0 ⟨92, 25, 92, 33⟩) (.lit (.int 0) 0 ⟨92, 34, 92, 35⟩) ⟨92, 25, 92, 36⟩) ⟨92, 16, 92, 37⟩) (.cons (.sub (.var 1 ⟨92, 39, 92, 47⟩) (.sub (.var 0 ⟨92, 48, 92, 56⟩) (.lit (.int 0) 0 ⟨92, 57, 92, 58⟩) ⟨92, 48, 92, 59⟩) ⟨92, 39, 92, 60⟩) .nil)) ⟨92, 15, 92, 61⟩) ⟨92, 8, 92, 61⟩)
    .nil) .nil ⟨91, 4, 92, 61⟩)
    (.cons (.ite (.cmp (.sub (.var 0 ⟨93, 7, 93, 15⟩) (.lit (.int 0) 0 ⟨93, 16, 93, 17⟩) ⟨93, 7, 93, 18⟩) .In (.var 2 ⟨93, 22, 93, 30⟩) ⟨93, 7, 93, 30⟩) (.cons (.ret (.list (.cons (.sub (.var 2 ⟨94, 16, 94, 24⟩) (.sub (.var 0 ⟨94, 25, 94, 33⟩) (.lit (.int 0) 0 ⟨94, 34, 94, 35⟩) ⟨94, 25, 94, 36⟩) ⟨94, 16, 94, 37⟩) .nil) ⟨94, 15, 94, 38⟩) ⟨94, 8, 94, 38⟩)
    .nil) .nil ⟨93, 4, 94, 38⟩)
    (.cons (.ret (.list .nil ⟨95, 11, 95, 13⟩) ⟨95, 4, 95, 13⟩)
    .nil))))))
noncomputable def S_law_wanted : Scope := {
              kind := PySem.ScopeKind.function,
              names := [
                (PySem.Str.ofString "_law_row", PySem.NameKind.local),
                (PySem.Str.ofString "_law_two", PySem.NameKind.local),
                (PySem.Str.ofString "_law_one", PySem.NameKind.local)],
              isGenerator := false,
              isCoroutine := false,
              more := [] : PySem.Scope }

noncomputable def N_law_lack : List Str := ["_law_kinds", "_law_wanted_here", "_law_low", "_law_k"]
noncomputable def B_law_lack : ASs :=
    (.cons (.ite (.cmp (.blt .len (.cons (.var 0 ⟨97, 11, 97, 21⟩) .nil) ⟨97, 7, 97, 10⟩ ⟨97, 7, 97, 22⟩) .Lt (.blt .len (.cons (.var 1 ⟨97, 29, 97, 45⟩) .nil) ⟨97, 25, 97, 28⟩ ⟨97, 25, 97, 46⟩) ⟨97, 7, 97, 46⟩) (.cons (.ret (.lit (.str "empty") 0 ⟨98, 15, 98, 22⟩) ⟨98, 8, 98, 22⟩)
    .nil) .nil ⟨97, 4, 98, 22⟩)
    (.cons (.assign 2 ⟨99, 4, 99, 12⟩ (.bin (.blt .len (.cons (.var 0 ⟨99, 19, 99, 29⟩) .nil) ⟨99, 15, 99, 18⟩ ⟨99, 15, 99, 30⟩) .Sub (.blt .len (.cons (.var 1 ⟨99, 37, 99, 53⟩) .nil) ⟨99, 33, 99, 36⟩ ⟨99, 33, 99, 54⟩) ⟨99, 15, 99, 54⟩) ⟨99, 4, 99, 54⟩)
    (.cons (.for 3 ⟨100, 8, 100, 14⟩ (.blt .range (.cons (.blt .len (.cons (.var 1 ⟨100, 28, 100, 44⟩) .nil) ⟨100, 24, 100, 27⟩ ⟨100, 24, 100, 45⟩) .nil) ⟨100, 18, 100, 23⟩ ⟨100, 18, 100, 46⟩) (.cons (.ite (.bop .And (.cons (.cmp (.sub (.var 1 ⟨101, 11, 101, 27⟩) (.var 3 ⟨101, 28, 101, 34⟩) ⟨101, 11, 101, 35⟩) .NotEq (.lit (.str "") 0 ⟨101, 39, 101, 41⟩) ⟨101, 11, 101, 41⟩) (.cons (.cmp (.sub (.var 1 ⟨101, 46, 101, 62⟩) (.var 3 ⟨101, 63, 101, 69⟩) ⟨101, 46, 101, 70⟩) .NotEq (.sub (.var 0 ⟨101, 74, 101, 84⟩) (.bin (.var 2 ⟨101, 85, 101, 93⟩) .Add (.var 3 ⟨101, 96, 101, 102⟩) ⟨101, 85, 101, 102⟩) ⟨101, 74, 101, 103⟩) ⟨101, 46, 101, 103⟩) .nil)) ⟨101, 11, 101, 103⟩) (.cons (.ret (.lit (.str "kind") 0 ⟨102, 19, 102, 25⟩) ⟨102, 12, 102, 25⟩)
    .nil) .nil ⟨101, 8, 102, 25⟩)
    .nil) ⟨100, 4, 102, 25⟩)
    (.cons (.ret (.lit (.str "") 0 ⟨103, 11, 103, 13⟩) ⟨103, 4, 103, 13⟩)
    .nil))))
noncomputable def S_law_lack : Scope := {
              kind := PySem.ScopeKind.function,
              names := [
                (PySem.Str.ofString "_law_kinds", PySem.NameKind.local),
                (PySem.Str.ofString "_law_wanted_here", PySem.NameKind.local),
                (PySem.Str.ofString "_law_low", PySem.NameKind.local),
                (PySem.Str.ofString "_law_k", PySem.NameKind.local),
                (PySem.Str.ofString "len", PySem.NameKind.globalImplicit),
                (PySem.Str.ofString "range", PySem.NameKind.globalImplicit)],
              isGenerator := false,
              isCoroutine := false,
              more := [] : PySem.Scope }

noncomputable def N_law_plain_row : List Str := ["_law_script", "_law_tape", "_law_some", "_law_word"]
noncomputable def B_law_plain_row : ASs :=
    (.cons (.assign 2 ⟨105, 4, 105, 13⟩ (.list (.cons (.lit (.str "num") 0 ⟨105, 17, 105, 22⟩) (.cons (.lit (.str "text") 0 ⟨105, 24, 105, 30⟩) (.cons (.lit (.str "add") 0 ⟨105, 32, 105, 37⟩) (.cons (.lit (.str "mul") 0 ⟨105, 39, 105, 44⟩) (.cons (.lit (.str "less") 0 ⟨105, 46, 105, 52⟩) (.cons (.lit (.str "join") 0 ⟨105, 54, 105, 60⟩) (.cons (.lit (.str "long") 0 ⟨105, 62, 105, 68⟩) (.cons (.lit (.str "show") 0 ⟨105, 70, 105, 76⟩) (.cons (.lit (.str "swap") 0 ⟨105, 78, 105, 84⟩) (.cons (.lit (.str "drop") 0 ⟨105, 86, 105, 92⟩) (.cons (.lit (.str "copy") 0 ⟨105, 94, 105, 100⟩) (.cons (.lit (.str "copy") 0 ⟨105, 102, 105, 108⟩) (.cons (.lit (.str "copy") 0 ⟨105, 110, 105, 116⟩) .nil))))))))))))) ⟨105, 16, 105, 117⟩) ⟨105, 4, 105, 117⟩)
    (.cons (.assign 3 ⟨106, 4, 106, 13⟩ (.sub (.var 2 ⟨106, 16, 106, 25⟩) (.call "_law_draw" (.cons (.var 0 ⟨106, 36, 106, 47⟩) (.cons (.var 1 ⟨106, 49, 106, 58⟩) (.cons (.lit (.int 13) 0 ⟨106, 60, 106, 62⟩) .nil))) ⟨106, 26, 106, 35⟩ ⟨106, 26, 106, 63⟩) ⟨106, 16, 106, 64⟩) ⟨106, 4, 106, 64⟩)
    (.cons (.ite (.bop .Or (.cons (.cmp (.var 3 ⟨107, 7, 107, 16⟩) .Eq (.lit (.str "num") 0 ⟨107, 20, 107, 25⟩) ⟨107, 7, 107, 25⟩) (.cons (.cmp (.var 3 ⟨107, 29, 107, 38⟩) .Eq (.lit (.str "text") 0 ⟨107, 42, 107, 48⟩) ⟨107, 29, 107, 48⟩) .nil)) ⟨107, 7, 107, 48⟩) (.cons (.ret (.tup (.cons (.var 3 ⟨108, 16, 108, 25⟩) (.cons (.call "_law_value" (.cons (.var 0 ⟨108, 38, 108, 49⟩) (.cons (.var 1 ⟨108, 51, 108, 60⟩) (.cons (.var 3 ⟨108, 62, 108, 71⟩) .nil))) ⟨108, 27, 108, 37⟩ ⟨108, 27, 108, 72⟩) .nil)) 0 ⟨108, 15, 108, 73⟩) ⟨108, 8, 108, 73⟩)
    .nil) .nil ⟨107, 4, 108, 73⟩)
    (.cons (.ite (.cmp (.var 3 ⟨109, 7, 109, 16⟩) .Eq (.lit (.str "copy") 0 ⟨109, 20, 109, 26⟩) ⟨109, 7, 109, 26⟩) (.cons (.ret (.tup (.cons (.var 3 ⟨110, 16, 110, 25⟩) (.cons (.sub (.list (.cons (.lit (.int 0) 0 ⟨110, 28, 110, 29⟩) (.cons (.lit (.int 0) 0 ⟨110, 31, 110, 32⟩) (.cons (.lit (.int 1) 0 ⟨110, 34, 110, 35⟩) (.cons (.lit (.int 1) 0 ⟨110, 37, 110, 38⟩) (.cons (.lit (.int 2) 0 ⟨110, 40, 110, 41⟩) (.cons (.lit (.int 3) 0 ⟨110, 43, 110, 44⟩) (.cons (.call "_law_draw" (.cons (.var 0 ⟨110, 56, 110, 67⟩) (.cons (.var 1 ⟨110, 69, 110, 78⟩) (.cons (.lit (.int 61) 0 ⟨110, 80, 110, 82⟩) .nil))) ⟨110, 46, 110, 55⟩ ⟨110, 46, 110, 83⟩) (.cons (.lit (.int 60) 0 ⟨110, 85, 110, 87⟩) .nil)))))))) ⟨110, 27, 110, 88⟩) (.call "_law_draw" (.cons (.var 0 ⟨110, 99, 110, 110⟩) (.cons (.var 1 ⟨110, 112, 110, 121⟩) (.cons (.lit (.int 8) 0 ⟨110, 123, 110, 124⟩) .nil))) ⟨110, 89, 110, 98⟩ ⟨110, 89, 110, 125⟩) ⟨110, 27, 110, 126⟩) .nil)) 0 ⟨110, 15, 110, 127⟩) ⟨110, 8, 110, 127⟩)
    .nil) .nil ⟨109, 4, 110, 127⟩)
    (.cons (.ret (.tup (.cons (.var 3 ⟨111, 12, 111, 21⟩) .nil) 0 ⟨111, 11, 111, 23⟩) ⟨111, 4, 111, 23⟩)
    .nil)))))
noncomputable def S_law_plain_row : Scope := {
              kind := PySem.ScopeKind.function,
              names := [
                (PySem.Str.ofString "_law_script", PySem.NameKind.local),
                (PySem.Str.ofString "_law_tape", PySem.NameKind.local),
                (PySem.Str.ofString "_law_some", PySem.NameKind.local),
                (PySem.Str.ofString "_law_word", PySem.NameKind.local),
                (PySem.Str.ofString "_law_draw", PySem.NameKind.globalImplicit),
                (PySem.Str.ofString "_law_value", PySem.NameKind.globalImplicit)],
              isGenerator := false,
              isCoroutine := false,
              more := [] : PySem.Scope }

noncomputable def N_law_reckoned : List Str := ["_law_row", "_law_low", "_law_top"]
noncomputable def B_law_reckoned : ASs :=
    (.cons (.ite (.cmp (.sub (.var 0 ⟨113, 7, 113, 15⟩) (.lit (.int 0) 0 ⟨113, 16, 113, 17⟩) ⟨113, 7, 113, 18⟩) .Eq (.lit (.str "less") 0 ⟨113, 22, 113, 28⟩) ⟨113, 7, 113, 28⟩) (.cons (.ite (.cmp (.var 1 ⟨114, 11, 114, 19⟩) .Lt (.var 2 ⟨114, 22, 114, 30⟩) ⟨114, 11, 114, 30⟩) (.cons (.ret (.lit (.int 1) 0 ⟨115, 19, 115, 20⟩) ⟨115, 12, 115, 20⟩)
    .nil) .nil ⟨114, 8, 115, 20⟩)
    (.cons (.ret (.lit (.int 0) 0 ⟨116, 15, 116, 16⟩) ⟨116, 8, 116, 16⟩)
    .nil)) .nil ⟨113, 4, 116, 16⟩)
    (.cons (.ite (.cmp (.sub (.var 0 ⟨117, 7, 117, 15⟩) (.lit (.int 0) 0 ⟨117, 16, 117, 17⟩) ⟨117, 7, 117, 18⟩) .Eq (.lit (.str "join") 0 ⟨117, 22, 117, 28⟩) ⟨117, 7, 117, 28⟩) (.cons (.ret (.sto (.bin (.var 1 ⟨118, 16, 118, 24⟩) .Add (.var 2 ⟨118, 27, 118, 35⟩) ⟨118, 16, 118, 35⟩) (.lit (.int 60) 0 ⟨118, 38, 118, 40⟩) ⟨118, 37, 118, 40⟩ ⟨118, 15, 118, 41⟩) ⟨118, 8, 118, 41⟩)
    .nil) .nil ⟨117, 4, 118, 41⟩)
    (.cons (.ite (.cmp (.sub (.var 0 ⟨119, 7, 119, 15⟩) (.lit (.int 0) 0 ⟨119, 16, 119, 17⟩) ⟨119, 7, 119, 18⟩) .Eq (.lit (.str "add") 0 ⟨119, 22, 119, 27⟩) ⟨119, 7, 119, 27⟩) (.cons (.ret (.bin (.bin (.var 1 ⟨120, 16, 120, 24⟩) .Add (.var 2 ⟨120, 27, 120, 35⟩) ⟨120, 16, 120, 35⟩) .Mod (.bin (.lit (.int 10) 0 ⟨120, 39, 120, 41⟩) .Pow (.lit (.int 9) 0 ⟨120, 45, 120, 46⟩) ⟨120, 39, 120, 46⟩) ⟨120, 15, 120, 46⟩) ⟨120, 8, 120, 46⟩)
    .nil) .nil ⟨119, 4, 120, 46⟩)
    (.cons (.ret (.bin (.bin (.var 1 ⟨121, 11, 121, 19⟩) .Mult (.var 2 ⟨121, 22, 121, 30⟩) ⟨121, 11, 121, 30⟩) .Mod (.bin (.lit (.int 10) 0 ⟨121, 33, 121, 35⟩) .Pow (.lit (.int 9) 0 ⟨121, 39, 121, 40⟩) ⟨121, 33, 121, 40⟩) ⟨121, 11, 121, 40⟩) ⟨121, 4, 121, 40⟩)
    .nil))))
noncomputable def S_law_reckoned : Scope := {
              kind := PySem.ScopeKind.function,
              names := [
                (PySem.Str.ofString "_law_row", PySem.NameKind.local),
                (PySem.Str.ofString "_law_low", PySem.NameKind.local),
                (PySem.Str.ofString "_law_top", PySem.NameKind.local)],
              isGenerator := false,
              isCoroutine := false,
              more := [] : PySem.Scope }

noncomputable def N_law_behind : List Str := ["_law_stack_here", "_law_row", "_law_left", "_law_top"]
noncomputable def B_law_behind : ASs :=
    (.cons (.assign 2 ⟨123, 4, 123, 13⟩ (.blt .list (.cons (.var 0 ⟨123, 21, 123, 36⟩) .nil) ⟨123, 16, 123, 20⟩ ⟨123, 16, 123, 37⟩) ⟨123, 4, 123, 37⟩)
    (.cons (.ite (.bop .Or (.cons (.cmp (.sub (.var 1 ⟨124, 7, 124, 15⟩) (.lit (.int 0) 0 ⟨124, 16, 124, 17⟩) ⟨124, 7, 124, 18⟩) .Eq (.lit (.str "num") 0 ⟨124, 22, 124, 27⟩) ⟨124, 7, 124, 27⟩) (.cons (.cmp (.sub (.var 1 ⟨124, 31, 124, 39⟩) (.lit (.int 0) 0 ⟨124, 40, 124, 41⟩) ⟨124, 31, 124, 42⟩) .Eq (.lit (.str "text") 0 ⟨124, 46, 124, 52⟩) ⟨124, 31, 124, 52⟩) .nil)) ⟨124, 7, 124, 52⟩) (.cons (.expr (.meth (.var 2 ⟨125, 8, 125, 17⟩) .append (.cons (.sub (.var 1 ⟨125, 25, 125, 33⟩) (.lit (.int 1) 0 ⟨125, 34, 125, 35⟩) ⟨125, 25, 125, 36⟩) .nil) ⟨125, 8, 125, 24⟩ ⟨125, 8, 125, 37⟩) ⟨125, 8, 125, 37⟩)
    .nil) (.cons (.ite (.cmp (.sub (.var 1 ⟨126, 9, 126, 17⟩) (.lit (.int 0) 0 ⟨126, 18, 126, 19⟩) ⟨126, 9, 126, 20⟩) .Eq (.lit (.str "copy") 0 ⟨126, 24, 126, 30⟩) ⟨126, 9, 126, 30⟩) (.cons (.expr (.meth (.var 2 ⟨127, 8, 127, 17⟩) .append (.cons (.sub (.var 0 ⟨127, 25, 127, 40⟩) (.bin (.bin (.blt .len (.cons (.var 0 ⟨127, 45, 127, 60⟩) .nil) ⟨127, 41, 127, 44⟩ ⟨127, 41, 127, 61⟩) .Sub (.lit (.int 1) 0 ⟨127, 64, 127, 65⟩) ⟨127, 41, 127, 65⟩) .Sub (.sub (.var 1 ⟨127, 68, 127, 76⟩) (.lit (.int 1) 0 ⟨127, 77, 127, 78⟩) ⟨127, 68, 127, 79⟩) ⟨127, 41, 127, 79⟩) ⟨127, 25, 127, 80⟩) .nil) ⟨127, 8, 127, 24⟩ ⟨127, 8, 127, 81⟩) ⟨127, 8, 127, 81⟩)
    .nil) (.cons (.assign 3 ⟨129, 8, 129, 16⟩ (.meth (.var 2 ⟨129, 19, 129, 28⟩) .pop .nil ⟨129, 19, 129, 32⟩ ⟨129, 19, 129, 34⟩) ⟨129, 8, 129, 34⟩)
    (.cons (.ite (.cmp (.sub (.var 1 ⟨130, 11, 130, 19⟩) (.lit (.int 0) 0 ⟨130, 20, 130, 21⟩) ⟨130, 11, 130, 22⟩) .Eq (.lit (.str "long") 0 ⟨130, 26, 130, 32⟩) ⟨130, 11, 130, 32⟩) (.cons (.expr (.meth (.var 2 ⟨131, 12, 131, 21⟩) .append (.cons (.blt .len (.cons (.var 3 ⟨131, 33, 131, 41⟩) .nil) ⟨131, 29, 131, 32⟩ ⟨131, 29, 131, 42⟩) .nil) ⟨131, 12, 131, 28⟩ ⟨131, 12, 131, 43⟩) ⟨131, 12, 131, 43⟩)
    .nil) (.cons (.ite (.cmp (.sub (.var 1 ⟨132, 13, 132, 21⟩) (.lit (.int 0) 0 ⟨132, 22, 132, 23⟩) ⟨132, 13, 132, 24⟩) .Eq (.lit (.str "show") 0 ⟨132, 28, 132, 34⟩) ⟨132, 13, 132, 34⟩) (.cons (.expr (.meth (.var 2 ⟨133, 12, 133, 21⟩) .append (.cons (.blt .str (.cons (.var 3 ⟨133, 33, 133, 41⟩) .nil) ⟨133, 29, 133, 32⟩ ⟨133, 29, 133, 42⟩) .nil) ⟨133, 12, 133, 28⟩ ⟨133, 12, 133, 43⟩) ⟨133, 12, 133, 43⟩)
    .nil) (.cons (.ite (.cmp (.sub (.var 1 ⟨134, 13, 134, 21⟩) (.lit (.int 0) 0 ⟨134, 22, 134, 23⟩) ⟨134, 13, 134, 24⟩) .Eq (.lit (.str "swap") 0 ⟨134, 28, 134, 34⟩) ⟨134, 13, 134, 34⟩) (.cons (.expr (.meth (.var 2 ⟨135, 12, 135, 21⟩) .insert (.cons (.bin (.blt .len (.cons (.var 2 ⟨135, 33, 135, 42⟩) .nil) ⟨135, 29, 135, 32⟩ ⟨135, 29, 135, 43⟩) .Sub (.lit (.int 1) 0 ⟨135, 46, 135, 47⟩) ⟨135, 29, 135, 47⟩) (.cons (.var 3 ⟨135, 49, 135, 57⟩) .nil)) ⟨135, 12, 135, 28⟩ ⟨135, 12, 135, 58⟩) ⟨135, 12, 135, 58⟩)
    .nil) (.cons (.ite (.cmp (.sub (.var 1 ⟨136, 13, 136, 21⟩) (.lit (.int 0) 0 ⟨136, 22, 136, 23⟩) ⟨136, 13, 136, 24⟩) .NotEq (.lit (.str "drop") 0 ⟨136, 28, 136, 34⟩) ⟨136, 13, 136, 34⟩) (.cons (.expr (.meth (.var 2 ⟨137, 12, 137, 21⟩) .append (.cons (.call "_law_reckoned" (.cons (.var 1 ⟨137, 43, 137, 51⟩) (.cons (.meth (.var 2 ⟨137, 53, 137, 62⟩) .pop .nil ⟨137, 53, 137, 66⟩ ⟨137, 53, 137, 68⟩) (.cons (.var 3 ⟨137, 70, 137, 78⟩) .nil))) ⟨137, 29, 137, 42⟩ ⟨137, 29, 137, 79⟩) .nil) ⟨137, 12, 137, 28⟩ ⟨137, 12, 137, 80⟩) ⟨137, 12, 137, 80⟩)
    .nil) .nil ⟨136, 8, 137, 80⟩)
    .nil) ⟨134, 8, 137, 80⟩)
    .nil) ⟨132, 8, 137, 80⟩)
    .nil) ⟨130, 8, 137, 80⟩)
    .nil)) ⟨126, 4, 137, 80⟩)
    .nil) ⟨124, 4, 137, 80⟩)
    (.cons (.ret (.var 2 ⟨138, 11, 138, 20⟩) ⟨138, 4, 138, 20⟩)
    .nil)))
noncomputable def S_law_behind : Scope := {
              kind := PySem.ScopeKind.function,
              names := [
                (PySem.Str.ofString "_law_stack_here", PySem.NameKind.local),
                (PySem.Str.ofString "_law_row", PySem.NameKind.local),
                (PySem.Str.ofString "_law_left", PySem.NameKind.local),
                (PySem.Str.ofString "_law_top", PySem.NameKind.local),
                (PySem.Str.ofString "list", PySem.NameKind.globalImplicit),
                (PySem.Str.ofString "len", PySem.NameKind.globalImplicit),
                (PySem.Str.ofString "str", PySem.NameKind.globalImplicit),
                (PySem.Str.ofString "_law_reckoned", PySem.NameKind.globalImplicit)],
              isGenerator := false,
              isCoroutine := false,
              more := [] : PySem.Scope }

noncomputable def N_law_told : List Str := ["_law_stack_here", "_law_row"]
noncomputable def B_law_told : ASs :=
    (.cons (.try (.cons (.ret (.call "done" (.cons (.var 0 ⟨141, 20, 141, 35⟩) (.cons (.var 1 ⟨141, 37, 141, 45⟩) .nil)) ⟨141, 15, 141, 19⟩ ⟨141, 15, 141, 46⟩) ⟨141, 8, 141, 46⟩)
    .nil) (.cons 1 "Empty" ⟨142, 11, 142, 16⟩ none (.cons (.ret (.lit (.str "empty") 0 ⟨143, 15, 143, 22⟩) ⟨143, 8, 143, 22⟩)
    .nil) ⟨142, 4, 143, 22⟩ (.cons 2 "WrongKind" ⟨144, 11, 144, 20⟩ none (.cons (.ret (.lit (.str "kind") 0 ⟨145, 15, 145, 21⟩) ⟨145, 8, 145, 21⟩)
    .nil) ⟨144, 4, 145, 21⟩ .nil)) ⟨140, 4, 145, 21⟩)
    .nil)
noncomputable def S_law_told : Scope := {
              kind := PySem.ScopeKind.function,
              names := [
                (PySem.Str.ofString "_law_stack_here", PySem.NameKind.local),
                (PySem.Str.ofString "_law_row", PySem.NameKind.local),
                (PySem.Str.ofString "done", PySem.NameKind.globalImplicit),
                (PySem.Str.ofString "Empty", PySem.NameKind.globalImplicit),
                (PySem.Str.ofString "WrongKind", PySem.NameKind.globalImplicit)],
              isGenerator := false,
              isCoroutine := false,
              more := [] : PySem.Scope }

noncomputable def N_law_any : List Str := ["_law_stack_here", "_law_row", "e", "_law_sorts"]
noncomputable def B_law_any : ASs :=
    (.cons (.try (.cons (.expr (.call "done" (.cons (.var 0 ⟨148, 13, 148, 28⟩) (.cons (.var 1 ⟨148, 30, 148, 38⟩) .nil)) ⟨148, 8, 148, 12⟩ ⟨148, 8, 148, 39⟩) ⟨148, 8, 148, 39⟩)
    .nil) (.cons 0 "StackError" ⟨149, 11, 149, 21⟩ (some 2) (.cons (.assign 3 ⟨150, 8, 150, 18⟩ (.list (.cons (.isi (.var 2 ⟨150, 33, 150, 34⟩) (.own 1 "Empty") ⟨150, 22, 150, 32⟩ ⟨150, 36, 150, 41⟩ default default ⟨150, 22, 150, 42⟩) (.cons (.isi (.var 2 ⟨150, 55, 150, 56⟩) (.own 2 "WrongKind") ⟨150, 44, 150, 54⟩ ⟨150, 58, 150, 67⟩ default default ⟨150, 44, 150, 68⟩) (.cons (.isi (.var 2 ⟨150, 81, 150, 82⟩) (.own 3 "NoBlock") ⟨150, 70, 150, 80⟩ ⟨150, 84, 150, 91⟩ default default ⟨150, 70, 150, 92⟩) .nil))) ⟨150, 21, 150, 93⟩) ⟨150, 8, 150, 93⟩)
    (.cons (.assign 3 ⟨151, 8, 151, 18⟩ (.bin (.var 3 ⟨151, 21, 151, 31⟩) .Add (.list (.cons (.isi (.var 2 ⟨151, 46, 151, 47⟩) (.own 4 "Apart") ⟨151, 35, 151, 45⟩ ⟨151, 49, 151, 54⟩ default default ⟨151, 35, 151, 55⟩) (.cons (.isi (.var 2 ⟨151, 68, 151, 69⟩) (.own 5 "Dry") ⟨151, 57, 151, 67⟩ ⟨151, 71, 151, 74⟩ default default ⟨151, 57, 151, 75⟩) .nil)) ⟨151, 34, 151, 76⟩) ⟨151, 21, 151, 76⟩) ⟨151, 8, 151, 76⟩)
    (.cons (.ret (.bop .And (.cons (.isi (.var 2 ⟨152, 26, 152, 27⟩) .value ⟨152, 15, 152, 25⟩ ⟨152, 29, 152, 39⟩ default default ⟨152, 15, 152, 40⟩) (.cons (.cmp (.meth (.var 3 ⟨152, 45, 152, 55⟩) .count (.cons (.lit (.bool true) 0 ⟨152, 62, 152, 66⟩) .nil) ⟨152, 45, 152, 61⟩ ⟨152, 45, 152, 67⟩) .Eq (.lit (.int 1) 0 ⟨152, 71, 152, 72⟩) ⟨152, 45, 152, 72⟩) .nil)) ⟨152, 15, 152, 72⟩) ⟨152, 8, 152, 72⟩)
    .nil))) ⟨149, 4, 152, 72⟩ .nil) ⟨147, 4, 152, 72⟩)
    (.cons (.ret (.lit (.bool false) 0 ⟨153, 11, 153, 16⟩) ⟨153, 4, 153, 16⟩)
    .nil))
noncomputable def S_law_any : Scope := {
              kind := PySem.ScopeKind.function,
              names := [
                (PySem.Str.ofString "_law_stack_here", PySem.NameKind.local),
                (PySem.Str.ofString "_law_row", PySem.NameKind.local),
                (PySem.Str.ofString "e", PySem.NameKind.local),
                (PySem.Str.ofString "_law_sorts", PySem.NameKind.local),
                (PySem.Str.ofString "done", PySem.NameKind.globalImplicit),
                (PySem.Str.ofString "StackError", PySem.NameKind.globalImplicit),
                (PySem.Str.ofString "isinstance", PySem.NameKind.globalImplicit),
                (PySem.Str.ofString "Empty", PySem.NameKind.globalImplicit),
                (PySem.Str.ofString "WrongKind", PySem.NameKind.globalImplicit),
                (PySem.Str.ofString "NoBlock", PySem.NameKind.globalImplicit),
                (PySem.Str.ofString "Apart", PySem.NameKind.globalImplicit),
                (PySem.Str.ofString "Dry", PySem.NameKind.globalImplicit),
                (PySem.Str.ofString "ValueError", PySem.NameKind.globalImplicit)],
              isGenerator := false,
              isCoroutine := false,
              more := [] : PySem.Scope }

noncomputable def N_law_alike : List Str := ["_law_found", "_law_due", "_law_k"]
noncomputable def B_law_alike : ASs :=
    (.cons (.ite (.bop .Or (.cons (.not (.isi (.var 0 ⟨155, 22, 155, 32⟩) .list ⟨155, 11, 155, 21⟩ ⟨155, 34, 155, 38⟩ default default ⟨155, 11, 155, 39⟩) ⟨155, 7, 155, 39⟩) (.cons (.cmp (.blt .len (.cons (.var 0 ⟨155, 47, 155, 57⟩) .nil) ⟨155, 43, 155, 46⟩ ⟨155, 43, 155, 58⟩) .NotEq (.blt .len (.cons (.var 1 ⟨155, 66, 155, 74⟩) .nil) ⟨155, 62, 155, 65⟩ ⟨155, 62, 155, 75⟩) ⟨155, 43, 155, 75⟩) .nil)) ⟨155, 7, 155, 75⟩) (.cons (.ret (.lit (.bool false) 0 ⟨156, 15, 156, 20⟩) ⟨156, 8, 156, 20⟩)
    .nil) .nil ⟨155, 4, 156, 20⟩)
    (.cons (.for 2 ⟨157, 8, 157, 14⟩ (.blt .range (.cons (.blt .len (.cons (.var 1 ⟨157, 28, 157, 36⟩) .nil) ⟨157, 24, 157, 27⟩ ⟨157, 24, 157, 37⟩) .nil) ⟨157, 18, 157, 23⟩ ⟨157, 18, 157, 38⟩) (.cons (.ite (.cmp (.isi (.sub (.var 1 ⟨158, 22, 158, 30⟩) (.var 2 ⟨158, 31, 158, 37⟩) ⟨158, 22, 158, 38⟩) .str ⟨158, 11, 158, 21⟩ ⟨158, 40, 158, 43⟩ default default ⟨158, 11, 158, 44⟩) .NotEq (.isi (.sub (.var 0 ⟨158, 59, 158, 69⟩) (.var 2 ⟨158, 70, 158, 76⟩) ⟨158, 59, 158, 77⟩) .str ⟨158, 48, 158, 58⟩ ⟨158, 79, 158, 82⟩ default default ⟨158, 48, 158, 83⟩) ⟨158, 11, 158, 83⟩) (.cons (.ret (.lit (.bool false) 0 ⟨159, 19, 159, 24⟩) ⟨159, 12, 159, 24⟩)
    .nil) .nil ⟨158, 8, 159, 24⟩)
    (.cons (.ite (.bop .And (.cons (.not (.isi (.sub (.var 1 ⟨160, 26, 160, 34⟩) (.var 2 ⟨160, 35, 160, 41⟩) ⟨160, 26, 160, 42⟩) .str ⟨160, 15, 160, 25⟩ ⟨160, 44, 160, 47⟩ default default ⟨160, 15, 160, 48⟩) ⟨160, 11, 160, 48⟩) (.cons (.bop .Or (.cons (.isi (.sub (.var 0 ⟨160, 65, 160, 75⟩) (.var 2 ⟨160, 76, 160, 82⟩) ⟨160, 65, 160, 83⟩) .bool ⟨160, 54, 160, 64⟩ ⟨160, 85, 160, 89⟩ default default ⟨160, 54, 160, 90⟩) (.cons (.not (.isi (.sub (.var 0 ⟨160, 109, 160, 119⟩) (.var 2 ⟨160, 120, 160, 126⟩) ⟨160, 109, 160, 127⟩) .int ⟨160, 98, 160, 108⟩ ⟨160, 129, 160, 132⟩ default default ⟨160, 98, 160, 133⟩) ⟨160, 94, 160, 133⟩) .nil)) ⟨160, 54, 160, 133⟩) .nil)) ⟨160, 11, 160, 134⟩) (.cons (.ret (.lit (.bool false) 0 ⟨161, 19, 161, 24⟩) ⟨161, 12, 161, 24⟩)
    .nil) .nil ⟨160, 8, 161, 24⟩)
    .nil)) ⟨157, 4, 161, 24⟩)
    (.cons (.ret (.cmp (.var 0 ⟨162, 11, 162, 21⟩) .Eq (.var 1 ⟨162, 25, 162, 33⟩) ⟨162, 11, 162, 33⟩) ⟨162, 4, 162, 33⟩)
    .nil)))
noncomputable def S_law_alike : Scope := {
              kind := PySem.ScopeKind.function,
              names := [
                (PySem.Str.ofString "_law_found", PySem.NameKind.local),
                (PySem.Str.ofString "_law_due", PySem.NameKind.local),
                (PySem.Str.ofString "_law_k", PySem.NameKind.local),
                (PySem.Str.ofString "isinstance", PySem.NameKind.globalImplicit),
                (PySem.Str.ofString "list", PySem.NameKind.globalImplicit),
                (PySem.Str.ofString "len", PySem.NameKind.globalImplicit),
                (PySem.Str.ofString "range", PySem.NameKind.globalImplicit),
                (PySem.Str.ofString "str", PySem.NameKind.globalImplicit),
                (PySem.Str.ofString "bool", PySem.NameKind.globalImplicit),
                (PySem.Str.ofString "int", PySem.NameKind.globalImplicit)],
              isGenerator := false,
              isCoroutine := false,
              more := [] : PySem.Scope }

noncomputable def N_law_stack : List Str := ["_law_script", "_law_tape", "_law_row", "_law_size", "_law_stack_here", "_law_k", "_law_kind"]
noncomputable def B_law_stack : ASs :=
    (.cons (.assign 3 ⟨164, 4, 164, 13⟩ (.call "_law_draw" (.cons (.var 0 ⟨164, 26, 164, 37⟩) (.cons (.var 1 ⟨164, 39, 164, 48⟩) (.cons (.lit (.int 5) 0 ⟨164, 50, 164, 51⟩) .nil))) ⟨164, 16, 164, 25⟩ ⟨164, 16, 164, 52⟩) ⟨164, 4, 164, 52⟩)
    (.cons (.ite (.cmp (.call "_law_draw" (.cons (.var 0 ⟨165, 17, 165, 28⟩) (.cons (.var 1 ⟨165, 30, 165, 39⟩) (.cons (.lit (.int 4) 0 ⟨165, 41, 165, 42⟩) .nil))) ⟨165, 7, 165, 16⟩ ⟨165, 7, 165, 43⟩) .Eq (.lit (.int 1) 0 ⟨165, 47, 165, 48⟩) ⟨165, 7, 165, 48⟩) (.cons (.assign 3 ⟨166, 8, 166, 17⟩ (.bin (.var 3 ⟨166, 20, 166, 29⟩) .Add (.lit (.int 57) 0 ⟨166, 32, 166, 34⟩) ⟨166, 20, 166, 34⟩) ⟨166, 8, 166, 34⟩)
    .nil) .nil ⟨165, 4, 166, 34⟩)
    (.cons (.assign 4 ⟨167, 4, 167, 19⟩ (.list .nil ⟨167, 22, 167, 24⟩) ⟨167, 4, 167, 24⟩)
    (.cons (.for 5 ⟨168, 8, 168, 14⟩ (.blt .range (.cons (.var 3 ⟨168, 24, 168, 33⟩) .nil) ⟨168, 18, 168, 23⟩ ⟨168, 18, 168, 34⟩) (.cons (.expr (.meth (.var 4 ⟨169, 8, 169, 23⟩) .append (.cons (.call "_law_value" (.cons (.var 0 ⟨169, 42, 169, 53⟩) (.cons (.var 1 ⟨169, 55, 169, 64⟩) (.cons (.sub (.list (.cons (.lit (.str "num") 0 ⟨169, 67, 169, 72⟩) (.cons (.lit (.str "text") 0 ⟨169, 74, 169, 80⟩) .nil)) ⟨169, 66, 169, 81⟩) (.call "_law_draw" (.cons (.var 0 ⟨169, 92, 169, 103⟩) (.cons (.var 1 ⟨169, 105, 169, 114⟩) (.cons (.lit (.int 2) 0 ⟨169, 116, 169, 117⟩) .nil))) ⟨169, 82, 169, 91⟩ ⟨169, 82, 169, 118⟩) ⟨169, 66, 169, 119⟩) .nil))) ⟨169, 31, 169, 41⟩ ⟨169, 31, 169, 120⟩) .nil) ⟨169, 8, 169, 30⟩ ⟨169, 8, 169, 121⟩) ⟨169, 8, 169, 121⟩)
    .nil) ⟨168, 4, 169, 121⟩)
    (.cons (.for 6 ⟨170, 8, 170, 17⟩ (.call "_law_wanted" (.cons (.var 2 ⟨170, 33, 170, 41⟩) .nil) ⟨170, 21, 170, 32⟩ ⟨170, 21, 170, 42⟩) (.cons (.ite (.cmp (.var 6 ⟨171, 11, 171, 20⟩) .Eq (.lit (.str "") 0 ⟨171, 24, 171, 26⟩) ⟨171, 11, 171, 26⟩) (.cons (.assign 6 ⟨172, 12, 172, 21⟩ (.sub (.list (.cons (.lit (.str "num") 0 ⟨172, 25, 172, 30⟩) (.cons (.lit (.str "text") 0 ⟨172, 32, 172, 38⟩) .nil)) ⟨172, 24, 172, 39⟩) (.call "_law_draw" (.cons (.var 0 ⟨172, 50, 172, 61⟩) (.cons (.var 1 ⟨172, 63, 172, 72⟩) (.cons (.lit (.int 2) 0 ⟨172, 74, 172, 75⟩) .nil))) ⟨172, 40, 172, 49⟩ ⟨172, 40, 172, 76⟩) ⟨172, 24, 172, 77⟩) ⟨172, 12, 172, 77⟩)
    .nil) (.cons (.ite (.cmp (.call "_law_draw" (.cons (.var 0 ⟨173, 23, 173, 34⟩) (.cons (.var 1 ⟨173, 36, 173, 45⟩) (.cons (.lit (.int 5) 0 ⟨173, 47, 173, 48⟩) .nil))) ⟨173, 13, 173, 22⟩ ⟨173, 13, 173, 49⟩) .Eq (.lit (.int 0) 0 ⟨173, 53, 173, 54⟩) ⟨173, 13, 173, 54⟩) (.cons (.assign 6 ⟨174, 12, 174, 21⟩ (.sub (.list (.cons (.lit (.str "num") 0 ⟨174, 25, 174, 30⟩) (.cons (.lit (.str "text") 0 ⟨174, 32, 174, 38⟩) .nil)) ⟨174, 24, 174, 39⟩) (.blt .int (.cons (.cmp (.var 6 ⟨174, 44, 174, 53⟩) .Eq (.lit (.str "num") 0 ⟨174, 57, 174, 62⟩) ⟨174, 44, 174, 62⟩) .nil) ⟨174, 40, 174, 43⟩ ⟨174, 40, 174, 63⟩) ⟨174, 24, 174, 64⟩) ⟨174, 12, 174, 64⟩)
    .nil) .nil ⟨173, 8, 174, 64⟩)
    .nil) ⟨171, 8, 174, 64⟩)
    (.cons (.expr (.meth (.var 4 ⟨175, 8, 175, 23⟩) .append (.cons (.call "_law_value" (.cons (.var 0 ⟨175, 42, 175, 53⟩) (.cons (.var 1 ⟨175, 55, 175, 64⟩) (.cons (.var 6 ⟨175, 66, 175, 75⟩) .nil))) ⟨175, 31, 175, 41⟩ ⟨175, 31, 175, 76⟩) .nil) ⟨175, 8, 175, 30⟩ ⟨175, 8, 175, 77⟩) ⟨175, 8, 175, 77⟩)
    .nil)) ⟨170, 4, 175, 77⟩)
    (.cons (.ite (.bop .And (.cons (.cmp (.blt .len (.cons (.var 4 ⟨176, 11, 176, 26⟩) .nil) ⟨176, 7, 176, 10⟩ ⟨176, 7, 176, 27⟩) .Gt (.lit (.int 1) 0 ⟨176, 30, 176, 31⟩) ⟨176, 7, 176, 31⟩) (.cons (.cmp (.call "_law_draw" (.cons (.var 0 ⟨176, 46, 176, 57⟩) (.cons (.var 1 ⟨176, 59, 176, 68⟩) (.cons (.lit (.int 4) 0 ⟨176, 70, 176, 71⟩) .nil))) ⟨176, 36, 176, 45⟩ ⟨176, 36, 176, 72⟩) .Eq (.lit (.int 0) 0 ⟨176, 76, 176, 77⟩) ⟨176, 36, 176, 77⟩) .nil)) ⟨176, 7, 176, 77⟩) (.cons (.store (.var 4 ⟨177, 8, 177, 23⟩) (.bin (.blt .len (.cons (.var 4 ⟨177, 28, 177, 43⟩) .nil) ⟨177, 24, 177, 27⟩ ⟨177, 24, 177, 44⟩) .Sub (.lit (.int 1) 0 ⟨177, 47, 177, 48⟩) ⟨177, 24, 177, 48⟩) ⟨177, 8, 177, 49⟩ (.sub (.var 4 ⟨177, 52, 177, 67⟩) (.bin (.blt .len (.cons (.var 4 ⟨177, 72, 177, 87⟩) .nil) ⟨177, 68, 177, 71⟩ ⟨177, 68, 177, 88⟩) .Sub (.lit (.int 2) 0 ⟨177, 91, 177, 92⟩) ⟨177, 68, 177, 92⟩) ⟨177, 52, 177, 93⟩) ⟨177, 8, 177, 93⟩)
    .nil) .nil ⟨176, 4, 177, 93⟩)
    (.cons (.ite (.cmp (.call "_law_draw" (.cons (.var 0 ⟨178, 17, 178, 28⟩) (.cons (.var 1 ⟨178, 30, 178, 39⟩) (.cons (.lit (.int 5) 0 ⟨178, 41, 178, 42⟩) .nil))) ⟨178, 7, 178, 16⟩ ⟨178, 7, 178, 43⟩) .Eq (.lit (.int 0) 0 ⟨178, 47, 178, 48⟩) ⟨178, 7, 178, 48⟩) (.cons (.assign 4 ⟨179, 8, 179, 23⟩ (.sfrom (.var 4 ⟨179, 26, 179, 41⟩) (.call "_law_draw" (.cons (.var 0 ⟨179, 52, 179, 63⟩) (.cons (.var 1 ⟨179, 65, 179, 74⟩) (.cons (.bin (.blt .len (.cons (.var 4 ⟨179, 80, 179, 95⟩) .nil) ⟨179, 76, 179, 79⟩ ⟨179, 76, 179, 96⟩) .Add (.lit (.int 1) 0 ⟨179, 99, 179, 100⟩) ⟨179, 76, 179, 100⟩) .nil))) ⟨179, 42, 179, 51⟩ ⟨179, 42, 179, 101⟩) ⟨179, 42, 179, 102⟩ ⟨179, 26, 179, 103⟩) ⟨179, 8, 179, 103⟩)
    .nil) .nil ⟨178, 4, 179, 103⟩)
    (.cons (.ret (.var 4 ⟨180, 11, 180, 26⟩) ⟨180, 4, 180, 26⟩)
    .nil))))))))
noncomputable def S_law_stack : Scope := {
              kind := PySem.ScopeKind.function,
              names := [
                (PySem.Str.ofString "_law_script", PySem.NameKind.local),
                (PySem.Str.ofString "_law_tape", PySem.NameKind.local),
                (PySem.Str.ofString "_law_row", PySem.NameKind.local),
                (PySem.Str.ofString "_law_size", PySem.NameKind.local),
                (PySem.Str.ofString "_law_stack_here", PySem.NameKind.local),
                (PySem.Str.ofString "_law_k", PySem.NameKind.local),
                (PySem.Str.ofString "_law_kind", PySem.NameKind.local),
                (PySem.Str.ofString "_law_draw", PySem.NameKind.globalImplicit),
                (PySem.Str.ofString "range", PySem.NameKind.globalImplicit),
                (PySem.Str.ofString "_law_value", PySem.NameKind.globalImplicit),
                (PySem.Str.ofString "_law_wanted", PySem.NameKind.globalImplicit),
                (PySem.Str.ofString "int", PySem.NameKind.globalImplicit),
                (PySem.Str.ofString "len", PySem.NameKind.globalImplicit)],
              isGenerator := false,
              isCoroutine := false,
              more := [] : PySem.Scope }

noncomputable def N_law : List Str := ["_law_script", "_law_tape", "_law_row", "_law_stack_here", "_law_kinds", "_law_word", "_law_handed", "_law_found", "_law_value_here"]
noncomputable def B_law : ASs :=
    (.cons (.assign 1 ⟨182, 4, 182, 13⟩ (.tape ⟨182, 17, 182, 18⟩ ⟨182, 16, 182, 19⟩) ⟨182, 4, 182, 19⟩)
    (.cons (.assign 2 ⟨183, 4, 183, 12⟩ (.call "_law_plain_row" (.cons (.var 0 ⟨183, 30, 183, 41⟩) (.cons (.var 1 ⟨183, 43, 183, 52⟩) .nil)) ⟨183, 15, 183, 29⟩ ⟨183, 15, 183, 53⟩) ⟨183, 4, 183, 53⟩)
    (.cons (.assign 3 ⟨184, 4, 184, 19⟩ (.call "_law_stack" (.cons (.var 0 ⟨184, 33, 184, 44⟩) (.cons (.var 1 ⟨184, 46, 184, 55⟩) (.cons (.var 2 ⟨184, 57, 184, 65⟩) .nil))) ⟨184, 22, 184, 32⟩ ⟨184, 22, 184, 66⟩) ⟨184, 4, 184, 66⟩)
    (.cons (.assign 4 ⟨185, 4, 185, 14⟩ (.comp (.sub (.list (.cons (.lit (.str "num") 0 ⟨185, 19, 185, 24⟩) (.cons (.lit (.str "text") 0 ⟨185, 26, 185, 32⟩) .nil)) ⟨185, 18, 185, 33⟩) (.blt .int (.cons (.isi (.var 8 ⟨185, 49, 185, 64⟩) .str ⟨185, 38, 185, 48⟩ ⟨185, 66, 185, 69⟩ default default ⟨185, 38, 185, 70⟩) .nil) ⟨185, 34, 185, 37⟩ ⟨185, 34, 185, 71⟩) ⟨185, 18, 185, 72⟩) 8 ⟨185, 77, 185, 92⟩ (.var 3 ⟨185, 96, 185, 111⟩) .nil {                     kind := PySem.ScopeKind.function,                     names := [                       (PySem.Str.ofString ".0", PySem.NameKind.local),                       (PySem.Str.ofString "_law_value_here", PySem.NameKind.local),                       (PySem.Str.ofString "int", PySem.NameKind.globalImplicit),                       (PySem.Str.ofString "isinstance", PySem.NameKind.globalImplicit),                       (PySem.Str.ofString "str", PySem.NameKind.globalImplicit)],                     isGenerator := false,                     isCoroutine := false,                     more := [] : PySem.Scope } ⟨185, 17, 185, 112⟩) ⟨185, 4, 185, 112⟩)
    (.cons (.assign 5 ⟨186, 4, 186, 13⟩ (.call "_law_lack" (.cons (.var 4 ⟨186, 26, 186, 36⟩) (.cons (.call "_law_wanted" (.cons (.var 2 ⟨186, 50, 186, 58⟩) .nil) ⟨186, 38, 186, 49⟩ ⟨186, 38, 186, 59⟩) .nil)) ⟨186, 16, 186, 25⟩ ⟨186, 16, 186, 60⟩) ⟨186, 4, 186, 60⟩)
    (.cons (.assign 6 ⟨187, 4, 187, 15⟩ (.blt .list (.cons (.var 3 ⟨187, 23, 187, 38⟩) .nil) ⟨187, 18, 187, 22⟩ ⟨187, 18, 187, 39⟩) ⟨187, 4, 187, 39⟩)
    (.cons (.assign 7 ⟨188, 4, 188, 14⟩ (.call "_law_told" (.cons (.var 6 ⟨188, 27, 188, 38⟩) (.cons (.var 2 ⟨188, 40, 188, 48⟩) .nil)) ⟨188, 17, 188, 26⟩ ⟨188, 17, 188, 49⟩) ⟨188, 4, 188, 49⟩)
    (.cons (.ite (.cmp (.var 5 ⟨189, 7, 189, 16⟩) .NotEq (.lit (.str "") 0 ⟨189, 20, 189, 22⟩) ⟨189, 7, 189, 22⟩) (.cons (.ret (.bop .And (.cons (.isi (.var 7 ⟨190, 26, 190, 36⟩) .str ⟨190, 15, 190, 25⟩ ⟨190, 38, 190, 41⟩ default default ⟨190, 15, 190, 42⟩) (.cons (.cmp (.var 7 ⟨190, 47, 190, 57⟩) .Eq (.var 5 ⟨190, 61, 190, 70⟩) ⟨190, 47, 190, 70⟩) (.cons (.call "_law_any" (.cons (.var 6 ⟨190, 84, 190, 95⟩) (.cons (.var 2 ⟨190, 97, 190, 105⟩) .nil)) ⟨190, 75, 190, 83⟩ ⟨190, 75, 190, 106⟩) (.cons (.call "_law_alike" (.cons (.var 6 ⟨190, 122, 190, 133⟩) (.cons (.var 3 ⟨190, 135, 190, 150⟩) .nil)) ⟨190, 111, 190, 121⟩ ⟨190, 111, 190, 151⟩) .nil)))) ⟨190, 15, 190, 151⟩) ⟨190, 8, 190, 151⟩)
    .nil) .nil ⟨189, 4, 190, 151⟩)
    (.cons (.ite (.not (.call "_law_alike" (.cons (.var 7 ⟨191, 22, 191, 32⟩) (.cons (.call "_law_behind" (.cons (.var 3 ⟨191, 46, 191, 61⟩) (.cons (.var 2 ⟨191, 63, 191, 71⟩) .nil)) ⟨191, 34, 191, 45⟩ ⟨191, 34, 191, 72⟩) .nil)) ⟨191, 11, 191, 21⟩ ⟨191, 11, 191, 73⟩) ⟨191, 7, 191, 73⟩) (.cons (.ret (.lit (.bool false) 0 ⟨192, 15, 192, 20⟩) ⟨192, 8, 192, 20⟩)
    .nil) .nil ⟨191, 4, 192, 20⟩)
    (.cons (.expr (.meth (.var 7 ⟨193, 4, 193, 14⟩) .append (.cons (.lit (.int 7) 0 ⟨193, 22, 193, 23⟩) .nil) ⟨193, 4, 193, 21⟩ ⟨193, 4, 193, 24⟩) ⟨193, 4, 193, 24⟩)
    (.cons (.ret (.call "_law_alike" (.cons (.var 6 ⟨194, 22, 194, 33⟩) (.cons (.var 3 ⟨194, 35, 194, 50⟩) .nil)) ⟨194, 11, 194, 21⟩ ⟨194, 11, 194, 51⟩) ⟨194, 4, 194, 51⟩)
    .nil)))))))))))
noncomputable def S_law : Scope := {
              kind := PySem.ScopeKind.function,
              names := [
                (PySem.Str.ofString "_law_script", PySem.NameKind.local),
                (PySem.Str.ofString "_law_tape", PySem.NameKind.local),
                (PySem.Str.ofString "_law_row", PySem.NameKind.local),
                (PySem.Str.ofString "_law_stack_here", PySem.NameKind.local),
                (PySem.Str.ofString "_law_kinds", PySem.NameKind.local),
                (PySem.Str.ofString "_law_word", PySem.NameKind.local),
                (PySem.Str.ofString "_law_handed", PySem.NameKind.local),
                (PySem.Str.ofString "_law_found", PySem.NameKind.local),
                (PySem.Str.ofString "_law_plain_row", PySem.NameKind.globalImplicit),
                (PySem.Str.ofString "_law_stack", PySem.NameKind.globalImplicit),
                (PySem.Str.ofString "_law_lack", PySem.NameKind.globalImplicit),
                (PySem.Str.ofString "_law_wanted", PySem.NameKind.globalImplicit),
                (PySem.Str.ofString "list", PySem.NameKind.globalImplicit),
                (PySem.Str.ofString "_law_told", PySem.NameKind.globalImplicit),
                (PySem.Str.ofString "isinstance", PySem.NameKind.globalImplicit),
                (PySem.Str.ofString "str", PySem.NameKind.globalImplicit),
                (PySem.Str.ofString "_law_any", PySem.NameKind.globalImplicit),
                (PySem.Str.ofString "_law_alike", PySem.NameKind.globalImplicit),
                (PySem.Str.ofString "_law_behind", PySem.NameKind.globalImplicit)],
              isGenerator := false,
              isCoroutine := false,
              more := [
                (PySem.Str.ofString "fast", (PySem.Const.str "_law_script")),
                (PySem.Str.ofString "fast", (PySem.Const.str "_law_tape")),
                (PySem.Str.ofString "fast", (PySem.Const.str "_law_row")),
                (PySem.Str.ofString "fast", (PySem.Const.str "_law_stack_here")),
                (PySem.Str.ofString "fast", (PySem.Const.str "_law_value_here")),
                (PySem.Str.ofString "fast", (PySem.Const.str "_law_kinds")),
                (PySem.Str.ofString "fast", (PySem.Const.str "_law_word")),
                (PySem.Str.ofString "fast", (PySem.Const.str "_law_handed")),
                (PySem.Str.ofString "fast", (PySem.Const.str "_law_found"))] : PySem.Scope }

end Mine
end
section
open PySem PySem.W PySem.Calls PyProof.Rows
namespace Mine
set_option autoImplicit false
set_option maxRecDepth 100000
theorem R_kinds_of : ∃ d ∈ recsOf _root_.Mine.hd.view_39, d.name = "kinds_of" ∧ d.body = B_kinds_of.toSs N_kinds_of ∧ d.scope = S_kinds_of ∧ ∀ (pm code doc : Value) (vals : List Value), vals.length = 1 → bindArgs (docDef d.name d.params d.body d.scope pm code doc) ⟨vals, []⟩ = pure ((N_kinds_of.take 1).zip vals) := by
  refine ⟨(recsOf _root_.Mine.hd.view_39)[0]'(by decide +kernel), List.getElem_mem _, by kernel_rfl, by kernel_rfl, by kernel_rfl, fun pm code doc vals h => ?_⟩
  match vals, h with
  | [v0], _ => kernel_rfl

theorem R_need : ∃ d ∈ recsOf _root_.Mine.hd.view_39, d.name = "need" ∧ d.body = B_need.toSs N_need ∧ d.scope = S_need ∧ ∀ (pm code doc : Value) (vals : List Value), vals.length = 2 → bindArgs (docDef d.name d.params d.body d.scope pm code doc) ⟨vals, []⟩ = pure ((N_need.take 2).zip vals) := by
  refine ⟨(recsOf _root_.Mine.hd.view_39)[1]'(by decide +kernel), List.getElem_mem _, by kernel_rfl, by kernel_rfl, by kernel_rfl, fun pm code doc vals h => ?_⟩
  match vals, h with
  | [v0, v1], _ => kernel_rfl

theorem R_reckoned : ∃ d ∈ recsOf _root_.Mine.hd.view_39, d.name = "reckoned" ∧ d.body = B_reckoned.toSs N_reckoned ∧ d.scope = S_reckoned ∧ ∀ (pm code doc : Value) (vals : List Value), vals.length = 2 → bindArgs (docDef d.name d.params d.body d.scope pm code doc) ⟨vals, []⟩ = pure ((N_reckoned.take 2).zip vals) := by
  refine ⟨(recsOf _root_.Mine.hd.view_39)[2]'(by decide +kernel), List.getElem_mem _, by kernel_rfl, by kernel_rfl, by kernel_rfl, fun pm code doc vals h => ?_⟩
  match vals, h with
  | [v0, v1], _ => kernel_rfl

theorem R_done : ∃ d ∈ recsOf _root_.Mine.hd.view_39, d.name = "done" ∧ d.body = B_done.toSs N_done ∧ d.scope = S_done ∧ ∀ (pm code doc : Value) (vals : List Value), vals.length = 2 → bindArgs (docDef d.name d.params d.body d.scope pm code doc) ⟨vals, []⟩ = pure ((N_done.take 2).zip vals) := by
  refine ⟨(recsOf _root_.Mine.hd.view_39)[3]'(by decide +kernel), List.getElem_mem _, by kernel_rfl, by kernel_rfl, by kernel_rfl, fun pm code doc vals h => ?_⟩
  match vals, h with
  | [v0, v1], _ => kernel_rfl

theorem R_law_draw : ∃ d ∈ recsOf _root_.Mine.hd.view_39, d.name = "_law_draw" ∧ d.body = B_law_draw.toSs N_law_draw ∧ d.scope = S_law_draw ∧ ∀ (pm code doc : Value) (vals : List Value), vals.length = 3 → bindArgs (docDef d.name d.params d.body d.scope pm code doc) ⟨vals, []⟩ = pure ((N_law_draw.take 3).zip vals) := by
  refine ⟨(recsOf _root_.Mine.hd.view_39)[4]'(by decide +kernel), List.getElem_mem _, by kernel_rfl, by kernel_rfl, by kernel_rfl, fun pm code doc vals h => ?_⟩
  match vals, h with
  | [v0, v1, v2], _ => kernel_rfl

theorem R_law_words : ∃ d ∈ recsOf _root_.Mine.hd.view_39, d.name = "_law_words" ∧ d.body = B_law_words.toSs N_law_words ∧ d.scope = S_law_words ∧ ∀ (pm code doc : Value) (vals : List Value), vals.length = 2 → bindArgs (docDef d.name d.params d.body d.scope pm code doc) ⟨vals, []⟩ = pure ((N_law_words.take 2).zip vals) := by
  refine ⟨(recsOf _root_.Mine.hd.view_39)[5]'(by decide +kernel), List.getElem_mem _, by kernel_rfl, by kernel_rfl, by kernel_rfl, fun pm code doc vals h => ?_⟩
  match vals, h with
  | [v0, v1], _ => kernel_rfl

theorem R_law_value : ∃ d ∈ recsOf _root_.Mine.hd.view_39, d.name = "_law_value" ∧ d.body = B_law_value.toSs N_law_value ∧ d.scope = S_law_value ∧ ∀ (pm code doc : Value) (vals : List Value), vals.length = 3 → bindArgs (docDef d.name d.params d.body d.scope pm code doc) ⟨vals, []⟩ = pure ((N_law_value.take 3).zip vals) := by
  refine ⟨(recsOf _root_.Mine.hd.view_39)[6]'(by decide +kernel), List.getElem_mem _, by kernel_rfl, by kernel_rfl, by kernel_rfl, fun pm code doc vals h => ?_⟩
  match vals, h with
  | [v0, v1, v2], _ => kernel_rfl

theorem R_law_wanted : ∃ d ∈ recsOf _root_.Mine.hd.view_39, d.name = "_law_wanted" ∧ d.body = B_law_wanted.toSs N_law_wanted ∧ d.scope = S_law_wanted ∧ ∀ (pm code doc : Value) (vals : List Value), vals.length = 1 → bindArgs (docDef d.name d.params d.body d.scope pm code doc) ⟨vals, []⟩ = pure ((N_law_wanted.take 1).zip vals) := by
  refine ⟨(recsOf _root_.Mine.hd.view_39)[7]'(by decide +kernel), List.getElem_mem _, by kernel_rfl, by kernel_rfl, by kernel_rfl, fun pm code doc vals h => ?_⟩
  match vals, h with
  | [v0], _ => kernel_rfl

theorem R_law_lack : ∃ d ∈ recsOf _root_.Mine.hd.view_39, d.name = "_law_lack" ∧ d.body = B_law_lack.toSs N_law_lack ∧ d.scope = S_law_lack ∧ ∀ (pm code doc : Value) (vals : List Value), vals.length = 2 → bindArgs (docDef d.name d.params d.body d.scope pm code doc) ⟨vals, []⟩ = pure ((N_law_lack.take 2).zip vals) := by
  refine ⟨(recsOf _root_.Mine.hd.view_39)[8]'(by decide +kernel), List.getElem_mem _, by kernel_rfl, by kernel_rfl, by kernel_rfl, fun pm code doc vals h => ?_⟩
  match vals, h with
  | [v0, v1], _ => kernel_rfl

theorem R_law_plain_row : ∃ d ∈ recsOf _root_.Mine.hd.view_39, d.name = "_law_plain_row" ∧ d.body = B_law_plain_row.toSs N_law_plain_row ∧ d.scope = S_law_plain_row ∧ ∀ (pm code doc : Value) (vals : List Value), vals.length = 2 → bindArgs (docDef d.name d.params d.body d.scope pm code doc) ⟨vals, []⟩ = pure ((N_law_plain_row.take 2).zip vals) := by
  refine ⟨(recsOf _root_.Mine.hd.view_39)[9]'(by decide +kernel), List.getElem_mem _, by kernel_rfl, by kernel_rfl, by kernel_rfl, fun pm code doc vals h => ?_⟩
  match vals, h with
  | [v0, v1], _ => kernel_rfl

theorem R_law_reckoned : ∃ d ∈ recsOf _root_.Mine.hd.view_39, d.name = "_law_reckoned" ∧ d.body = B_law_reckoned.toSs N_law_reckoned ∧ d.scope = S_law_reckoned ∧ ∀ (pm code doc : Value) (vals : List Value), vals.length = 3 → bindArgs (docDef d.name d.params d.body d.scope pm code doc) ⟨vals, []⟩ = pure ((N_law_reckoned.take 3).zip vals) := by
  refine ⟨(recsOf _root_.Mine.hd.view_39)[10]'(by decide +kernel), List.getElem_mem _, by kernel_rfl, by kernel_rfl, by kernel_rfl, fun pm code doc vals h => ?_⟩
  match vals, h with
  | [v0, v1, v2], _ => kernel_rfl

theorem R_law_behind : ∃ d ∈ recsOf _root_.Mine.hd.view_39, d.name = "_law_behind" ∧ d.body = B_law_behind.toSs N_law_behind ∧ d.scope = S_law_behind ∧ ∀ (pm code doc : Value) (vals : List Value), vals.length = 2 → bindArgs (docDef d.name d.params d.body d.scope pm code doc) ⟨vals, []⟩ = pure ((N_law_behind.take 2).zip vals) := by
  refine ⟨(recsOf _root_.Mine.hd.view_39)[11]'(by decide +kernel), List.getElem_mem _, by kernel_rfl, by kernel_rfl, by kernel_rfl, fun pm code doc vals h => ?_⟩
  match vals, h with
  | [v0, v1], _ => kernel_rfl

theorem R_law_told : ∃ d ∈ recsOf _root_.Mine.hd.view_39, d.name = "_law_told" ∧ d.body = B_law_told.toSs N_law_told ∧ d.scope = S_law_told ∧ ∀ (pm code doc : Value) (vals : List Value), vals.length = 2 → bindArgs (docDef d.name d.params d.body d.scope pm code doc) ⟨vals, []⟩ = pure ((N_law_told.take 2).zip vals) := by
  refine ⟨(recsOf _root_.Mine.hd.view_39)[12]'(by decide +kernel), List.getElem_mem _, by kernel_rfl, by kernel_rfl, by kernel_rfl, fun pm code doc vals h => ?_⟩
  match vals, h with
  | [v0, v1], _ => kernel_rfl

theorem R_law_any : ∃ d ∈ recsOf _root_.Mine.hd.view_39, d.name = "_law_any" ∧ d.body = B_law_any.toSs N_law_any ∧ d.scope = S_law_any ∧ ∀ (pm code doc : Value) (vals : List Value), vals.length = 2 → bindArgs (docDef d.name d.params d.body d.scope pm code doc) ⟨vals, []⟩ = pure ((N_law_any.take 2).zip vals) := by
  refine ⟨(recsOf _root_.Mine.hd.view_39)[13]'(by decide +kernel), List.getElem_mem _, by kernel_rfl, by kernel_rfl, by kernel_rfl, fun pm code doc vals h => ?_⟩
  match vals, h with
  | [v0, v1], _ => kernel_rfl

theorem R_law_alike : ∃ d ∈ recsOf _root_.Mine.hd.view_39, d.name = "_law_alike" ∧ d.body = B_law_alike.toSs N_law_alike ∧ d.scope = S_law_alike ∧ ∀ (pm code doc : Value) (vals : List Value), vals.length = 2 → bindArgs (docDef d.name d.params d.body d.scope pm code doc) ⟨vals, []⟩ = pure ((N_law_alike.take 2).zip vals) := by
  refine ⟨(recsOf _root_.Mine.hd.view_39)[14]'(by decide +kernel), List.getElem_mem _, by kernel_rfl, by kernel_rfl, by kernel_rfl, fun pm code doc vals h => ?_⟩
  match vals, h with
  | [v0, v1], _ => kernel_rfl

theorem R_law_stack : ∃ d ∈ recsOf _root_.Mine.hd.view_39, d.name = "_law_stack" ∧ d.body = B_law_stack.toSs N_law_stack ∧ d.scope = S_law_stack ∧ ∀ (pm code doc : Value) (vals : List Value), vals.length = 3 → bindArgs (docDef d.name d.params d.body d.scope pm code doc) ⟨vals, []⟩ = pure ((N_law_stack.take 3).zip vals) := by
  refine ⟨(recsOf _root_.Mine.hd.view_39)[15]'(by decide +kernel), List.getElem_mem _, by kernel_rfl, by kernel_rfl, by kernel_rfl, fun pm code doc vals h => ?_⟩
  match vals, h with
  | [v0, v1, v2], _ => kernel_rfl

theorem R_law : ∃ d ∈ recsOf _root_.Mine.hd.view_39, d.name = "law" ∧ d.body = B_law.toSs N_law ∧ d.scope = S_law ∧ ∀ (pm code doc : Value) (vals : List Value), vals.length = 1 → bindArgs (docDef d.name d.params d.body d.scope pm code doc) ⟨vals, []⟩ = pure ((N_law.take 1).zip vals) := by
  refine ⟨(recsOf _root_.Mine.hd.view_39)[16]'(by decide +kernel), List.getElem_mem _, by kernel_rfl, by kernel_rfl, by kernel_rfl, fun pm code doc vals h => ?_⟩
  match vals, h with
  | [v0], _ => kernel_rfl

end Mine
end
section
open PySem PySem.W PySem.Calls PyProof.Rows
namespace Mine
set_option autoImplicit false
set_option maxRecDepth 100000
noncomputable def P0 : Params := { strHash := fun _ => 0, shareClass := fun _ => 0, mergeTok := id, idOf := fun _ => 0, idOfShared := fun _ _ => 0, followText := fun _ => false, idOfImm := fun _ => 0 }
noncomputable def csL : List Addr := onms.map fun p => refAt (_root_.Mine.hd.heap_39 P0) p.1
theorem k1 (P : Params) : ((_root_.Mine.hd.heap_39 P).lookup mainGlobals).isSome = true := by kernel_rfl
theorem k3 (P : Params) : excChk (_root_.Mine.hd.heap_39 P) csL = true := by kernel_rfl
theorem k4 (P : Params) : ownChk (_root_.Mine.hd.heap_39 P) csL = true := by kernel_rfl
theorem k5 (P : Params) : bltChk (_root_.Mine.hd.heap_39 P) = true := by kernel_rfl
theorem k6 : ownsChk _root_.Mine.hd.view_39 = true := by kernel_rfl
end Mine
end
section
open PySem PySem.W PySem.Calls PyProof.Rows
namespace Mine
set_option autoImplicit false
local macro_rules | `(tactic| walk_at "mp") => `(tactic| first
  | (with_reducible (first | refine W_cons ?_ | refine W_nil ?_ | refine W_expr ?_ | refine W_assign ?_ | refine W_store ?_ | refine W_ite ?_ | refine W_for ?_ | refine W_ret ?_ | refine W_raise ?_ | refine W_try ?_ | refine W_lnone ?_ | refine W_lbool ?_ | refine W_lint ?_ | refine W_lstr ?_ | refine W_bin ?_ | refine W_neg ?_ | refine W_not ?_ | refine W_bop ?_ | refine W_cmp ?_ | refine W_sub ?_ | refine W_sfrom ?_ | refine W_sto ?_ | refine W_tup ?_ | refine W_list ?_ | refine W_tape ?_ | refine W_dict ?_ | refine W_call ?_ | refine W_blt ?_ | refine W_isi ?_ | refine W_meth ?_ | refine W_comp ?_ | refine W_Lnil ?_ | refine W_Lcons ?_ | refine W_V1 ?_ | refine W_Vand ?_ | refine W_Vor ?_ | refine W_Bnot ?_ | refine W_Bbop ?_ | refine W_Bcmp ?_ | refine W_Bisi ?_ | refine W_Bcall ?_ | refine W_Bvar ?_ | refine W_Bsnil ?_ | refine W_Bsand ?_ | refine W_Bsor ?_ | refine W_Cnil ?_ | refine W_Ccons ?_ | refine O_truth ?_ | refine O_addI ?_ | refine O_subI ?_ | refine O_powI ?_ | refine O_eqI ?_ | refine O_eqS ?_ | refine O_neI ?_ | refine O_neS ?_ | refine O_ltI ?_ | refine O_leI ?_ | refine O_gtI ?_ | refine O_lenT ?_ | refine O_lenF ?_ | refine O_intB ?_ | refine O_max ?_ | refine O_min ?_ | refine O_isStrS ?_ | refine O_isStrI ?_ | refine O_isIntI ?_ | refine O_isBoolI ?_ | refine O_isO ?_ | refine O_isV ?_ | refine O_isLS ?_))
  | ((with_reducible apply W_var); rfl) | ((with_reducible apply W_glob); rfl))
abbrev Sp := List PV → AHeap → Post → XPost → Prop

/-! what the law's rows and values are -/
inductive W where
  | num (i : Int) | text (s : Str) | add | mul | less | join | long | show | swap | drop | copy (n : Nat)
noncomputable def W.row : W → List PV
  | .num i => [.str "num", .int i] | .text s => [.str "text", .str s] | .add => [.str "add"] | .mul => [.str "mul"] | .less => [.str "less"] | .join => [.str "join"] | .long => [.str "long"]
  | .show => [.str "show"] | .swap => [.str "swap"] | .drop => [.str "drop"] | .copy n => [.str "copy", .int n]
noncomputable def W.ok : W → Prop
  | .num i => 0 ≤ i ∧ i < 1000000000 | .text s => s.length ≤ 60 | .copy n => n ≤ 60 | _ => True
noncomputable def Okv (v : PV) : Prop := (∃ i, v = .int i ∧ 0 ≤ i ∧ i < 1000000000) ∨ ∃ s, v = .str s ∧ s.length ≤ 60
noncomputable def kindS : PV → Str
  | .str _ => "text"
  | _ => "num"
noncomputable def wantedS : W → List Str
  | .copy n => List.replicate (n + 1) "" | .add => ["num", "num"] | .mul => ["num", "num"] | .less => ["num", "num"] | .join => ["text", "text"] | .swap => ["", ""] | .long => ["text"] | .show => ["num"] | .drop => [""] | _ => []
noncomputable def lackS (kinds wanted : List Str) : Str :=
  if kinds.length < wanted.length then "empty" else if (wanted.zip (kinds.drop (kinds.length - wanted.length))).any (fun p => !(p.1 == ("" : Str)) && !(p.1 == p.2)) then "kind" else ""
noncomputable def cut60 (s : Str) : Str := ⟨(s.cps.toList.take (cutAt s.length 60)).toArray⟩
/-- what a row of two or one makes -/
noncomputable def calc2 : W → PV → PV → Option PV
  | .add, .int a, .int b => some (.int ((a + b) % 1000000000))
  | .mul, .int a, .int b => some (.int (a * b % 1000000000))
  | .less, .int a, .int b => some (.int (if a < b then 1 else 0))
  | .join, .str a, .str b => some (.str (cut60 (a ++ b)))
  | _, _, _ => none
noncomputable def calc1 : W → PV → Option PV
  | .long, .str a => some (.int a.length)
  | .show, .int a => some (.str (Str.ofString (toString a)))
  | _, _ => none
noncomputable def resS (st : List PV) (w : W) : Except Nat (List PV) :=
  match w with
  | .num i => .ok (st ++ [.int i])
  | .text s => .ok (st ++ [.str s])
  | .copy n => (match st.reverse[n]? with | some v => .ok (st ++ [v]) | none => .error 1)
  | .swap => (match st.reverse with | b :: a :: r => .ok (r.reverse ++ [b, a]) | _ => .error 1)
  | .drop => (match st.reverse with | _ :: r => .ok r.reverse | _ => .error 1)
  | .long => (match st.reverse with | a :: r => (match calc1 .long a with | some v => .ok (r.reverse ++ [v]) | none => .error 2) | _ => .error 1)
  | .show => (match st.reverse with | a :: r => (match calc1 .show a with | some v => .ok (r.reverse ++ [v]) | none => .error 2) | _ => .error 1)
  | w => (match st.reverse with | b :: a :: r => (match calc2 w a b with | some v => .ok (r.reverse ++ [v]) | none => .error 2) | _ => .error 1)

noncomputable def spDraw (ps : List PV) (H : AHeap) (Q : Post) (_ : XPost) : Prop :=
  ∃ xs t k n, ps = [.fls xs, .obj t, .int k] ∧ xs.length ≤ 100 ∧ H t = some (.tape n) ∧ n < 2 ^ 59 ∧ 0 < k ∧ ∀ r H', 0 ≤ r → r < k → H' t = some (.tape (n + 1)) → ExtB t H H' → Q (.int r) H'

noncomputable def spWords : Sp := fun ps H Q _ => ∃ c n, ps = [.int c, .int n] ∧ 0 ≤ n ∧ n ≤ 100 ∧ ∀ s H', s.length = n.toNat → Ext H H' → Q (.str s) H'
noncomputable def spValue : Sp := fun ps H Q _ => ∃ (xs : List Int) (t : Addr) (kd : Str) (n : Nat), ps = [.fls xs, .obj t, .str kd] ∧ xs.length ≤ 100 ∧ H t = some (.tape n) ∧ n < 2 ^ 58 ∧ ∀ v H', Okv v → kindS v = (if kd == "text" then "text" else "num") → H' t = some (.tape (n + 2)) → ExtB t H H' → Q v H'
noncomputable def spWanted : Sp := fun ps H Q _ => ∃ w : W, ps = [.tup w.row] ∧ w.ok ∧ ∀ c H', H c = none → H' c = some (.list ((wantedS w).map .str)) → Ext H H' → Q (.obj c) H'
noncomputable def spLack : Sp := fun ps H Q _ => ∃ (a b : Addr) (ks ws : List Str), ps = [.obj a, .obj b] ∧ H a = some (.list (ks.map .str)) ∧ H b = some (.list (ws.map .str)) ∧ ks.length ≤ 1000 ∧ ws.length ≤ 1000 ∧ Q (.str (lackS ks ws)) H
noncomputable def spPlain : Sp := fun ps H Q _ => ∃ xs t n, ps = [.fls xs, .obj t] ∧ xs.length ≤ 100 ∧ H t = some (.tape n) ∧ n < 2 ^ 57 ∧ ∀ (w : W) n' H', w.ok → n' ≤ n + 3 → H' t = some (.tape n') → ExtB t H H' → Q (.tup w.row) H'
noncomputable def spNeed : Sp := fun ps H Q X => ∃ a st k, ps = [.obj a, .int k] ∧ H a = some (.list st) ∧ (if (st.length : Int) < k then X 1 H else Q .none H)
noncomputable def spKinds : Sp := fun ps H Q _ => ∃ a st, ps = [.obj a] ∧ H a = some (.list st) ∧ (∀ v ∈ st, Okv v) ∧ st.length ≤ 1000 ∧ ∀ H', Ext H H' → Q (.tup (st.map fun v => .str (kindS v))) H'
noncomputable def wd : W → Str
  | .num _ => "num" | .text _ => "text" | .add => "add" | .mul => "mul" | .less => "less" | .join => "join" | .long => "long" | .show => "show" | .swap => "swap" | .drop => "drop" | .copy _ => "copy"
noncomputable def spReck : Sp := fun ps H Q _ => ∃ (w : W) (a : Addr) (vs : List PV) (v : PV), ps = [.str (wd w), .obj a] ∧ H a = some (.list vs) ∧ (∀ x ∈ vs, Okv x) ∧ ((∃ x y, vs = [x, y] ∧ calc2 w x y = some v) ∨ ∃ x, vs = [x] ∧ calc1 w x = some v) ∧ Q v H
noncomputable def spLReck : Sp := fun ps H Q _ => ∃ (w : W) (x y v : PV), ps = [.tup w.row, x, y] ∧ Okv x ∧ Okv y ∧ calc2 w x y = some v ∧ Q v H
noncomputable def spDone : Sp := fun ps H Q X => ∃ a st w, ps = [.obj a, .tup (W.row w)] ∧ w.ok ∧ H a = some (.list st) ∧ (∀ v ∈ st, Okv v) ∧ st.length ≤ 900 ∧
  match resS st w with | .ok ys => ∀ c H', H c = none → H' c = some (.list ys) → Ext H H' → Q (.obj c) H' | .error e => ∀ H', Ext H H' → X e H'
noncomputable def spTold : Sp := fun ps H Q _ => ∃ a st w, ps = [.obj a, .tup (W.row w)] ∧ w.ok ∧ H a = some (.list st) ∧ (∀ v ∈ st, Okv v) ∧ st.length ≤ 900 ∧
  match resS st w with | .ok ys => ∀ c H', H c = none → H' c = some (.list ys) → Ext H H' → Q (.obj c) H' | .error e => ∀ H', Ext H H' → Q (.str (if e = 1 then "empty" else "kind")) H'
noncomputable def spAny : Sp := fun ps H Q _ => ∃ a st w, ps = [.obj a, .tup (W.row w)] ∧ w.ok ∧ H a = some (.list st) ∧ (∀ v ∈ st, Okv v) ∧ st.length ≤ 900 ∧
  match resS st w with | .ok _ => False | .error _ => ∀ H', Ext H H' → Q (.bool true) H'
noncomputable def spBehind : Sp := fun ps H Q _ => ∃ a st w, ps = [.obj a, .tup (W.row w)] ∧ w.ok ∧ H a = some (.list st) ∧ (∀ v ∈ st, Okv v) ∧ st.length ≤ 900 ∧
  match resS st w with | .ok ys => ∀ c H', H c = none → H' c = some (.list ys) → Ext H H' → Q (.obj c) H' | .error _ => False
noncomputable def spAlike : Sp := fun ps H Q _ => ∃ a b xs, ps = [.obj a, .obj b] ∧ H a = some (.list xs) ∧ H b = some (.list xs) ∧ (∀ v ∈ xs, Okv v) ∧ xs.length ≤ 1000 ∧ Q (.bool true) H
noncomputable def spStack : Sp := fun ps H Q _ => ∃ xs t w n, ps = [.fls xs, .obj t, .tup (W.row w)] ∧ xs.length ≤ 100 ∧ w.ok ∧ H t = some (.tape n) ∧ n < 2 ^ 56 ∧ ∀ c st H', H c = none → H' c = some (.list st) → (∀ v ∈ st, Okv v) → st.length ≤ 800 → ExtB t H H' → Q (.obj c) H'
noncomputable def spLaw : Sp := fun ps _ Q _ => ∃ xs, ps = [.fls xs] ∧ xs.length ≤ 100 ∧ ∀ H', Q (.bool true) H'
noncomputable def sps : List (Str × Sp) := [("_law_draw", spDraw), ("_law_words", spWords), ("_law_value", spValue), ("_law_wanted", spWanted), ("_law_lack", spLack), ("_law_plain_row", spPlain), ("need", spNeed), ("kinds_of", spKinds), ("reckoned", spReck),
  ("_law_reckoned", spLReck), ("done", spDone), ("_law_told", spTold), ("_law_any", spAny), ("_law_behind", spBehind), ("_law_alike", spAlike), ("_law_stack", spStack), ("law", spLaw)]
noncomputable def takes01 : List (Str × List Str) := [("add", ["num", "num"]), ("mul", ["num", "num"]), ("less", ["num", "num"]), ("join", ["text", "text"]), ("long", ["text"]), ("show", ["num"])]
noncomputable def cons01 : List (Str × PV) := [("BOUND", .int 1000000000), ("LONGEST", .int 60), ("TAKES", .fdt (takes01.map fun e => (e.1, .tup (e.2.map .str))))]
noncomputable def g01 : Gl := ⟨fun f => (sps.lookup f).getD fun _ _ _ _ => False, fun x => cons01.lookup x⟩
theorem C_draw : g01.C "_law_draw" = spDraw := rfl
theorem C_words : g01.C "_law_words" = spWords := rfl
theorem C_value : g01.C "_law_value" = spValue := rfl
theorem C_wanted : g01.C "_law_wanted" = spWanted := rfl
theorem C_lack : g01.C "_law_lack" = spLack := rfl
theorem C_plain : g01.C "_law_plain_row" = spPlain := rfl
theorem C_need : g01.C "need" = spNeed := rfl
theorem C_kinds : g01.C "kinds_of" = spKinds := rfl
theorem C_reck : g01.C "reckoned" = spReck := rfl
theorem C_lreck : g01.C "_law_reckoned" = spLReck := rfl
theorem C_done : g01.C "done" = spDone := rfl
theorem C_told : g01.C "_law_told" = spTold := rfl
theorem C_any : g01.C "_law_any" = spAny := rfl
theorem C_behind : g01.C "_law_behind" = spBehind := rfl
theorem C_alike : g01.C "_law_alike" = spAlike := rfl
theorem C_stack : g01.C "_law_stack" = spStack := rfl

noncomputable def Ver (sp : Sp) (B : ASs) (nm : List Str) (np : Nat) : Prop := ∀ {ps : List PV} {H : AHeap} {Q : Post} {X : XPost}, sp ps H Q X → ps.length = np ∧ awpSs g01 B (fun _ H => Q .none H) Q (fun c _ H => X c H) (initL nm np ps) H

theorem draw_ok : Ver spDraw B_law_draw N_law_draw 3 := by
  intro ps H Q X h
  obtain ⟨xs, t, k, n, rfl, hl, ht, hn, hk, hQ⟩ := h
  have hB : (2 : Nat) ^ 59 = 576460752303423488 := by decide
  have hB' : (2 : Nat) ^ 60 = 1152921504606846976 := by decide
  refine ⟨rfl, ?_⟩
  unfold B_law_draw
  repeat walk_at "mp"
  refine O_subTape ht ?_
  repeat walk_at "mp"
  refine O_storeT ht (by omega) fun H₁ h₁ e₁ => ?_
  have e : ((n : Int) + 1).toNat = n + 1 := by omega
  rw [e] at h₁
  repeat walk_at "mp"
  refine O_subTape h₁ ?_
  repeat walk_at "mp"
  split
  · rename_i hle
    simp only [decide_eq_true_eq] at hle
    have hlt : n < xs.length := by omega
    repeat walk_at "mp"
    refine O_subTape h₁ ?_
    repeat walk_at "mp"
    refine O_subFls (itemAt_nat (n := n) (by omega) (List.getElem?_eq_getElem hlt)) ?_
    repeat walk_at "mp"
    refine O_modI hk ?_
    exact hQ _ _ (mod_lt hk).1 (mod_lt hk).2 h₁ e₁
  · repeat walk_at "mp"
    refine O_toF fun c H₂ hc h₂ e₂ => ?_
    refine O_itL h₂ ?_
    refine forW_ind (fun ys m H => H = H₂ ∧ (∃ zs : List Int, ys = zs.map .int) ∧ ∃ seed x4, 0 ≤ seed ∧ seed < 1000003 ∧ m = [some (.fls xs), some (.obj t), some (.int k), some (.int seed), x4]) ?_ ?_ _ _ _ ⟨rfl, ⟨_, rfl⟩, xs.length, none, by omega, by omega, rfl⟩
    · rintro m H ⟨rfl, _, seed, x4, s0, s1, rfl⟩
      refine ⟨h₂, ?_⟩
      repeat walk_at "mp"
      refine O_subTape (e₂.at h₁) ?_
      repeat walk_at "mp"
      refine O_subTape (e₂.at h₁) ?_
      refine O_mulI (by omega) ?_
      repeat walk_at "mp"
      refine O_mulI (by omega) ?_
      repeat walk_at "mp"
      refine O_modI (by omega) ?_
      repeat walk_at "mp"
      refine O_modI hk ?_
      exact hQ _ _ (mod_lt hk).1 (mod_lt hk).2 (e₂.at h₁) (e₁.trans (e₂.toB t))
    · rintro y ys m H ⟨rfl, ⟨zs, hz⟩, seed, x4, s0, s1, rfl⟩
      refine ⟨h₂, fun K hK => ?_⟩
      cases zs with
      | nil => cases hz
      | cons z zs =>
        cases hz
        repeat walk_at "mp"
        refine O_mulI (by omega) ?_
        repeat walk_at "mp"
        refine O_modI (by omega) ?_
        exact hK _ _ ⟨rfl, ⟨zs, rfl⟩, _, some (.int z), (mod_lt (by omega)).1, (mod_lt (by omega)).2, rfl⟩
theorem words_ok : Ver spWords B_law_words N_law_words 2 := by
  intro ps H Q X h
  have hL : LIM = 1048576 := rfl
  obtain ⟨c, n, rfl, n0, n1, hQ⟩ := h
  refine ⟨rfl, ?_⟩
  unfold B_law_words
  repeat walk_at "mp"
  refine O_addS' (by decide +kernel) fun S hS => ?_
  have hl : S.length = 94 := by rw [hS]; decide +kernel
  clear hS
  repeat walk_at "mp"
  refine ⟨trivial, ?_⟩
  repeat walk_at "mp"
  refine O_range (by omega) (O_itR ?_)
  refine compW_ind (fun rest acc H' => H' = H ∧ (∃ ks : List Nat, rest = ks.map (fun (i : Nat) => PV.int i) ∧ ∀ k ∈ ks, k < 1000) ∧ ∃ ss : List Str, acc = ss.map .str ∧ (∀ s ∈ ss, s.length = 1) ∧ ss.length + rest.length = n.toNat) ?_ ?_ _ _ _
    ⟨rfl, ⟨List.range n.toNat, rfl, fun k hk => by rw [List.mem_range] at hk; omega⟩, [], rfl, by simp, by simp⟩
  · rintro acc H' ⟨rfl, _, ss, rfl, h1, h2⟩
    refine ⟨trivial, fun a H₁ ha h₁ e₁ => ?_⟩
    have h3 : ss.length = n.toNat := by simpa using h2
    repeat walk_at "mp"
    refine O_join h₁ (by decide +kernel) (by rw [sum_ones ss h1]; omega) ?_
    exact hQ _ _ (by rw [join_len (by decide +kernel) ss h1, h3]) e₁
  · rintro x xs acc H' ⟨rfl, ⟨ks, hk, hks⟩, ss, rfl, h1, h2⟩
    refine ⟨trivial, fun K hK => ?_⟩
    cases ks with
    | nil => cases hk
    | cons k ks =>
      cases hk
      have hk1 := hks k (by simp)
      repeat walk_at "mp"
      rw [if_pos rfl]
      repeat walk_at "mp"
      refine O_divI (by omega) (by omega) ?_
      repeat walk_at "mp"
      refine O_mulI (by omega) ?_
      repeat walk_at "mp"
      refine O_modI (by omega) ?_
      obtain ⟨y, hy, ly⟩ := sign_at (s := S) (i := (c / ((k : Int) + 1) + 5 * (k : Int)) % 94) (mod_lt (by omega)).1 (by rw [hl]; exact (mod_lt (by omega)).2)
      refine O_subS (by omega) hy ?_
      refine hK _ _ ⟨rfl, ⟨ks, rfl, fun k hk => hks k (by simp [hk])⟩, ss ++ [y], by simp, fun s hs => ?_, by simp at h2 ⊢; omega⟩
      rcases List.mem_append.mp hs with hs | hs
      · exact h1 s hs
      · rw [List.mem_singleton.mp hs]; exact ly

theorem value_ok : Ver spValue B_law_value N_law_value 3 := by
  intro ps H Q X h
  obtain ⟨xs, t, kd, n, rfl, hx, ht, hn, hQ⟩ := h
  have hB : (2 : Nat) ^ 58 = 288230376151711744 := by decide
  have hB' : (2 : Nat) ^ 59 = 576460752303423488 := by decide
  refine ⟨rfl, ?_⟩
  unfold B_law_value
  repeat walk_at "mp"
  rw [C_draw]
  refine ⟨xs, t, _, n, rfl, hx, ht, by omega, by omega, fun cell H₁ c0 c1 h₁ e₁ => ?_⟩
  repeat walk_at "mp"
  rw [C_draw]
  refine ⟨xs, t, _, n + 1, rfl, hx, h₁, by omega, by omega, fun way H₂ w0 w1 h₂ e₂ => ?_⟩
  have e₁₂ := e₁.trans e₂
  have word : ∀ (k : Int), 0 ≤ k → k ≤ 60 → (kd == "text") = true → g01.C "_law_words" [.int cell, .int k] H₂ Q (fun c H => X c H) := fun k k0 k1 hk => by
    rw [C_words]
    refine ⟨cell, k, rfl, k0, by omega, fun s H₃ hs e₃ => ?_⟩
    exact hQ _ _ (.inr ⟨s, rfl, by omega⟩) (by rw [hk]; rfl) (e₃.at h₂) (e₁₂.trans (e₃.toB t))
  have num : ∀ (k : Int), 0 ≤ k → k < 1000000000 → ¬ (kd == "text") = true → Q (.int k) H₂ := fun k k0 k1 hk => by
    exact hQ _ _ (.inl ⟨k, rfl, k0, k1⟩) (by rw [if_neg hk]; rfl) h₂ e₁₂
  repeat walk_at "mp"
  split
  · rename_i hk
    repeat walk_at "mp"
    split
    · repeat walk_at "mp"
      refine O_modI (by omega) ?_
      repeat walk_at "mp"
      have := mod_lt (a := cell) (k := 3) (by omega)
      exact word _ (by omega) (by omega) hk
    · repeat walk_at "mp"
      refine O_divI (by omega) (by omega) ?_
      repeat walk_at "mp"
      refine O_modI (by omega) ?_
      repeat walk_at "mp"
      have := mod_lt (a := cell / 94) (k := 8) (by omega)
      exact word _ (by omega) (by omega) hk
  · rename_i hk
    repeat walk_at "mp"
    split
    · repeat walk_at "mp"
      refine O_modI (by omega) ?_
      repeat walk_at "mp"
      have := mod_lt (a := cell) (k := 3) (by omega)
      exact num _ (by omega) (by omega) hk
    · repeat walk_at "mp"
      split
      · repeat walk_at "mp"
        refine O_modI (by omega) ?_
        have := mod_lt (a := cell) (k := 4) (by omega)
        exact num _ (by omega) (by omega) hk
      · repeat walk_at "mp"
        exact num _ c0 c1 hk
end Mine
end
section
open PySem PySem.W PySem.Calls PyProof.Rows
namespace Mine
set_option autoImplicit false
local macro_rules | `(tactic| walk_at "mp") => `(tactic| first
  | (with_reducible (first | refine W_cons ?_ | refine W_nil ?_ | refine W_expr ?_ | refine W_assign ?_ | refine W_store ?_ | refine W_ite ?_ | refine W_for ?_ | refine W_ret ?_ | refine W_raise ?_ | refine W_try ?_ | refine W_lnone ?_ | refine W_lbool ?_ | refine W_lint ?_ | refine W_lstr ?_ | refine W_bin ?_ | refine W_neg ?_ | refine W_not ?_ | refine W_bop ?_ | refine W_cmp ?_ | refine W_sub ?_ | refine W_sfrom ?_ | refine W_sto ?_ | refine W_tup ?_ | refine W_list ?_ | refine W_tape ?_ | refine W_dict ?_ | refine W_call ?_ | refine W_blt ?_ | refine W_isi ?_ | refine W_meth ?_ | refine W_comp ?_ | refine W_Lnil ?_ | refine W_Lcons ?_ | refine W_V1 ?_ | refine W_Vand ?_ | refine W_Vor ?_ | refine W_Bnot ?_ | refine W_Bbop ?_ | refine W_Bcmp ?_ | refine W_Bisi ?_ | refine W_Bcall ?_ | refine W_Bvar ?_ | refine W_Bsnil ?_ | refine W_Bsand ?_ | refine W_Bsor ?_ | refine W_Cnil ?_ | refine W_Ccons ?_ | refine O_truth ?_ | refine O_addI ?_ | refine O_subI ?_ | refine O_powI ?_ | refine O_eqI ?_ | refine O_eqS ?_ | refine O_neI ?_ | refine O_neS ?_ | refine O_ltI ?_ | refine O_leI ?_ | refine O_gtI ?_ | refine O_lenT ?_ | refine O_lenF ?_ | refine O_intB ?_ | refine O_max ?_ | refine O_min ?_ | refine O_isStrS ?_ | refine O_isStrI ?_ | refine O_isIntI ?_ | refine O_isBoolI ?_ | refine O_isO ?_ | refine O_isV ?_ | refine O_isLS ?_))
  | ((with_reducible apply W_var); rfl) | ((with_reducible apply W_glob); rfl)
  | ((with_reducible refine I_neg ?_ ?_); decide +kernel) | ((with_reducible refine I_pos ?_ ?_); decide +kernel))
theorem need_ok : Ver spNeed B_need N_need 2 := by
  intro ps H Q X h
  obtain ⟨a, st, k, rfl, ha, h⟩ := h
  refine ⟨rfl, ?_⟩
  unfold B_need
  repeat walk_at "mp"
  refine O_lenL ha ?_
  repeat walk_at "mp"
  split
  · rename_i hk
    rw [if_pos (by simpa using hk)] at h
    repeat walk_at "mp"
    exact h
  · rename_i hk
    rw [if_neg (by simpa using hk)] at h
    repeat walk_at "mp"
    exact h

theorem kinds_ok : Ver spKinds B_kinds_of N_kinds_of 1 := by
  intro ps H Q X h
  have hL : LIM = 1048576 := rfl
  obtain ⟨a, st, rfl, ha, hst, hl, hQ⟩ := h
  refine ⟨rfl, ?_⟩
  unfold B_kinds_of
  repeat walk_at "mp"
  refine O_alloc fun c H₁ hc h₁ e₁ => ?_
  repeat walk_at "mp"
  refine O_itL (e₁.at ha) ?_
  refine forW_ind (fun rest m H' => ∃ done x2, st = done ++ rest ∧ Ext H H' ∧ H' c = some (.list (done.map fun v => .str (kindS v))) ∧ m = [some (.obj a), some (.obj c), x2]) ?_ ?_ _ _ _ ⟨[], none, rfl, e₁, h₁, rfl⟩
  · rintro m H' ⟨done, x2, hd, e, h', rfl⟩
    rw [List.append_nil] at hd
    subst hd
    refine ⟨e.at ha, ?_⟩
    repeat walk_at "mp"
    refine O_tupL h' ?_
    exact hQ _ e
  · rintro v rest m H' ⟨done, x2, hd, e, h', rfl⟩
    refine ⟨e.at ha, fun K hK => ?_⟩
    have hlen : done.length < LIM := by have := congrArg List.length hd; simp at this; omega
    have fin : ∀ (s : Str), s = kindS v → ∀ H₂, H₂ c = some (.list (done.map (fun v => .str (kindS v)) ++ [.str s])) → ExtB c H' H₂ → K [some (.obj a), some (.obj c), some v] H₂ := fun s hs H₂ h₂ e₂ => by
      refine hK _ _ ⟨done ++ [v], some v, by simp [hd], fun x o hx => e₂ x o (ne_of hx hc) (e x o hx), ?_, rfl⟩
      rw [h₂, hs]; simp
    have hv := hst v (by rw [hd]; simp)
    repeat walk_at "mp"
    rcases hv with ⟨i, rfl, _⟩ | ⟨s, rfl, _⟩
    · repeat walk_at "mp"
      refine ⟨⟨_, h'⟩, ?_⟩
      repeat walk_at "mp"
      refine O_append h' (by simpa using hlen) fun H₂ h₂ e₂ => ?_
      repeat walk_at "mp"
      exact fin _ rfl _ h₂ e₂
    · repeat walk_at "mp"
      refine ⟨⟨_, h'⟩, ?_⟩
      repeat walk_at "mp"
      refine O_append h' (by simpa using hlen) fun H₂ h₂ e₂ => ?_
      repeat walk_at "mp"
      exact fin _ rfl _ h₂ e₂

theorem wanted_ok : Ver spWanted B_law_wanted N_law_wanted 1 := by
  intro ps H Q X h
  have hL : LIM = 1048576 := rfl
  obtain ⟨w, rfl, hw, hQ⟩ := h
  refine ⟨rfl, ?_⟩
  unfold B_law_wanted
  cases w with
  | copy n =>
    have hn : n ≤ 60 := hw
    repeat walk_at "mp"
    refine O_subT (itemAt_nat rfl rfl) ?_
    repeat walk_at "mp"
    refine O_alloc fun c H₁ hc h₁ e₁ => ?_
    repeat walk_at "mp"
    refine O_subT (itemAt_nat (n := 1) rfl rfl) ?_
    repeat walk_at "mp"
    refine O_mulL h₁ (by omega) (by omega) (by simp; omega) fun d H₂ hd h₂ e₂ => ?_
    have hd0 : H d = none := by
      cases q : H d with
      | none => rfl
      | some o => rw [e₁.at q] at hd; cases hd
    refine hQ _ _ hd0 ?_ (e₁.trans e₂)
    rw [h₂]
    have : ((n : Int) + 1).toNat = n + 1 := by omega
    unfold repL
    rw [this]
    have e : ∀ k : Nat, (List.replicate k [PV.str ""]).flatten = (List.replicate k ("" : Str)).map PV.str := fun k => by
      induction k with
      | zero => rfl
      | succ k ih => rw [List.replicate_succ, List.flatten_cons, ih]; rfl
    rw [e]; rfl
  | _ =>
    repeat walk_at "mp"
    refine O_subT (itemAt_nat rfl rfl) ?_
    repeat walk_at "mp"
    refine O_alloc fun c H₁ hc h₁ e₁ => ?_
    repeat walk_at "mp"
    refine O_alloc fun d H₂ hd h₂ e₂ => ?_
    have hc₂ := e₂.at h₁
    have fr : ∀ x, H₂ x = none → H x = none := fun x hx => by
      cases q : H x with
      | none => rfl
      | some o => rw [e₂.at (e₁.at q)] at hx; cases hx
    repeat walk_at "mp"
    refine O_subT (itemAt_nat rfl rfl) ?_
    repeat walk_at "mp"
    refine O_inD hc₂ ?_
    repeat walk_at "mp"
    try (refine O_subT (itemAt_nat rfl rfl) ?_
         repeat walk_at "mp"
         first
         | (refine O_subD hc₂ rfl ?_
            repeat walk_at "mp"
            refine O_subT (itemAt_nat rfl rfl) ?_
            refine O_subD hc₂ rfl ?_
            repeat walk_at "mp")
         | (refine O_inD h₂ ?_
            repeat walk_at "mp"
            try (refine O_subT (itemAt_nat rfl rfl) ?_
                 refine O_subD h₂ rfl ?_
                 repeat walk_at "mp")))
    refine O_alloc fun b H₃ hb h₃ e₃ => ?_
    exact hQ _ _ (fr b hb) h₃ ((e₁.trans e₂).trans e₃)
theorem lack_kind {ks ws : List Str} {i : Nat} {x y : Str} (hl : ws.length ≤ ks.length) (hi : ws[i]? = some x) (hj : ks[ks.length - ws.length + i]? = some y) (hx : x ≠ "") (hy : x ≠ y) : lackS ks ws = "kind" := by
  unfold lackS
  rw [if_neg (by omega), if_pos]
  rw [List.any_eq_true]
  refine ⟨(x, y), ?_, by simp [hx, hy]⟩
  refine List.mem_of_getElem? (i := i) ?_
  rw [List.getElem?_zip_eq_some]
  exact ⟨hi, by rw [List.getElem?_drop]; exact hj⟩
theorem lack_none {ks ws : List Str} (hl : ws.length ≤ ks.length) (h : ∀ (i : Nat) (x y : Str), ws[i]? = some x → ks[ks.length - ws.length + i]? = some y → x = "" ∨ x = y) : lackS ks ws = "" := by
  unfold lackS
  rw [if_neg (by omega), if_neg]
  rw [List.any_eq_true]
  rintro ⟨⟨x, y⟩, hm, hp⟩
  obtain ⟨i, hi⟩ := List.mem_iff_getElem?.mp hm
  rw [List.getElem?_zip_eq_some, List.getElem?_drop] at hi
  rcases h i x y hi.1 hi.2 with e | e <;> simp [e] at hp

theorem lack_ok : Ver spLack B_law_lack N_law_lack 2 := by
  intro ps H Q X h
  have hL : LIM = 1048576 := rfl
  obtain ⟨a, b, ks, ws, rfl, ha, hb, lk, lw, hQ⟩ := h
  refine ⟨rfl, ?_⟩
  unfold B_law_lack
  repeat walk_at "mp"
  refine O_lenL ha ?_
  repeat walk_at "mp"
  refine O_lenL hb ?_
  repeat walk_at "mp"
  simp only [List.length_map]
  split
  · rename_i hlt
    repeat walk_at "mp"
    have : lackS ks ws = "empty" := by unfold lackS; rw [if_pos (by simp at hlt; omega)]
    rw [this] at hQ; exact hQ
  · rename_i hge
    have hle : ws.length ≤ ks.length := by simp at hge; omega
    repeat walk_at "mp"
    refine O_lenL ha ?_
    repeat walk_at "mp"
    refine O_lenL hb ?_
    repeat walk_at "mp"
    refine O_lenL hb ?_
    repeat walk_at "mp"
    refine O_range (by first | omega | (rw [List.length_map]; omega)) (O_itR ?_)
    simp only [List.length_map, Int.toNat_natCast]
    refine forW_ind (fun rest m H' => H' = H ∧ ∃ j x3, rest = ((List.range ws.length).drop j).map (fun (i : Nat) => PV.int i) ∧ (∀ (i : Nat) (x y : Str), i < j → ws[i]? = some x → ks[ks.length - ws.length + i]? = some y → x = "" ∨ x = y) ∧
      m = [some (.obj a), some (.obj b), some (.int ((ks.length : Int) - (ws.length : Int))), x3]) ?_ ?_ _ _ _ ⟨rfl, 0, none, rfl, fun _ _ _ h => by omega, rfl⟩
    · rintro m H' ⟨rfl, j, x3, hr, hj, rfl⟩
      refine ⟨trivial, ?_⟩
      repeat walk_at "mp"
      have hjl : ws.length ≤ j := by
        have := congrArg List.length hr
        simp at this; omega
      rw [lack_none hle fun i x y hi hy => hj i x y (by have := (List.getElem?_eq_some_iff.mp hi).1; omega) hi hy] at hQ
      exact hQ
    · rintro v rest m H' ⟨rfl, j, x3, hr, hj, rfl⟩
      refine ⟨trivial, fun K hK => ?_⟩
      have hjl : j < ws.length := by
        apply Classical.byContradiction
        intro q
        rw [List.drop_eq_nil_of_le (by simp; omega)] at hr
        cases hr
      have hd : (List.range ws.length).drop j = j :: (List.range ws.length).drop (j + 1) := by
        rw [List.drop_eq_getElem_cons (by simpa using hjl)]; simp
      rw [hd] at hr
      cases hr
      have hws : (ws.map PV.str)[j]? = some (.str ws[j]) := by simp [hjl]
      have hlow : ks.length - ws.length + j < ks.length := by omega
      have hks : (ks.map PV.str)[ks.length - ws.length + j]? = some (.str ks[ks.length - ws.length + j]) := by simp [hlow]
      have cont : ws[j] = "" ∨ ws[j] = ks[ks.length - ws.length + j] → K [some (.obj a), some (.obj b), some (.int ((ks.length : Int) - (ws.length : Int))), some (.int j)] H' := fun hc => by
        refine hK _ _ ⟨rfl, j + 1, _, rfl, fun i x y hi hx hy => ?_, rfl⟩
        by_cases q : i = j
        · subst q
          rw [List.getElem?_eq_getElem hjl] at hx
          rw [List.getElem?_eq_getElem hlow] at hy
          cases hx; cases hy; exact hc
        · exact hj i x y (by omega) hx hy
      repeat walk_at "mp"
      refine O_subL hb (itemAt_nat rfl hws) ?_
      repeat walk_at "mp"
      split
      · rename_i h1
        repeat walk_at "mp"
        refine O_subL hb (itemAt_nat rfl hws) ?_
        repeat walk_at "mp"
        refine O_subL ha (itemAt_nat (n := ks.length - ws.length + j) (by omega) hks) ?_
        repeat walk_at "mp"
        split
        · rename_i h2
          repeat walk_at "mp"
          rw [lack_kind hle (List.getElem?_eq_getElem hjl) (List.getElem?_eq_getElem hlow) (by simpa using h1) (by simpa using h2)] at hQ
          exact hQ
        · rename_i h2
          repeat walk_at "mp"
          exact cont (.inr (by simpa using h2))
      · rename_i h1
        repeat walk_at "mp"
        exact cont (.inl (by simpa using h1))
theorem okv_num {v : PV} (h : Okv v) (k : kindS v = "num") : ∃ i, v = .int i ∧ 0 ≤ i ∧ i < 1000000000 := by
  rcases h with h | ⟨s, rfl, _⟩
  · exact h
  · exact absurd (show ("text" : Str) = "num" from k) (by decide +kernel)
theorem okv_text {v : PV} (h : Okv v) (k : kindS v = "text") : ∃ s, v = .str s ∧ s.length ≤ 60 := by
  rcases h with ⟨i, rfl, _⟩ | h
  · exact absurd (show ("num" : Str) = "text" from k) (by decide +kernel)
  · exact h

theorem copy_at {d z : Int} (d0 : 0 ≤ d) (d1 : d < 61) (z0 : 0 ≤ z) (z1 : z < 8) : ∃ k : Int, itemAt [PV.int 0, PV.int 0, PV.int 1, PV.int 1, PV.int 2, PV.int 3, PV.int d, PV.int 60] z = some (.int k) ∧ 0 ≤ k ∧ k ≤ 60 := by
  have : z = 0 ∨ z = 1 ∨ z = 2 ∨ z = 3 ∨ z = 4 ∨ z = 5 ∨ z = 6 ∨ z = 7 := by omega
  rcases this with rfl | rfl | rfl | rfl | rfl | rfl | rfl | rfl
  · exact ⟨0, rfl, by omega, by omega⟩
  · exact ⟨0, rfl, by omega, by omega⟩
  · exact ⟨1, rfl, by omega, by omega⟩
  · exact ⟨1, rfl, by omega, by omega⟩
  · exact ⟨2, rfl, by omega, by omega⟩
  · exact ⟨3, rfl, by omega, by omega⟩
  · exact ⟨d, rfl, d0, by omega⟩
  · exact ⟨60, rfl, by omega, by omega⟩
theorem some_copy {r : Int} (h0 : 10 ≤ r) (h1 : r < 13) : itemAt [PV.str "num", PV.str "text", PV.str "add", PV.str "mul", PV.str "less", PV.str "join", PV.str "long", PV.str "show", PV.str "swap", PV.str "drop", PV.str "copy", PV.str "copy", PV.str "copy"] r = some (.str "copy") := by
  have : r = 10 ∨ r = 11 ∨ r = 12 := by omega
  rcases this with rfl | rfl | rfl <;> rfl
theorem some_plain {r : Int} (h0 : 2 ≤ r) (h1 : r < 10) : ∃ w : W, w.ok ∧ itemAt [PV.str "num", PV.str "text", PV.str "add", PV.str "mul", PV.str "less", PV.str "join", PV.str "long", PV.str "show", PV.str "swap", PV.str "drop", PV.str "copy", PV.str "copy", PV.str "copy"] r = some (.str (wd w)) ∧ w.row = [.str (wd w)] ∧ (wd w == ("num" : Str)) = false ∧ (wd w == ("text" : Str)) = false ∧ (wd w == ("copy" : Str)) = false := by
  have : r = 2 ∨ r = 3 ∨ r = 4 ∨ r = 5 ∨ r = 6 ∨ r = 7 ∨ r = 8 ∨ r = 9 := by omega
  rcases this with rfl | rfl | rfl | rfl | rfl | rfl | rfl | rfl
  · exact ⟨.add, trivial, rfl, rfl, by decide +kernel, by decide +kernel, by decide +kernel⟩
  · exact ⟨.mul, trivial, rfl, rfl, by decide +kernel, by decide +kernel, by decide +kernel⟩
  · exact ⟨.less, trivial, rfl, rfl, by decide +kernel, by decide +kernel, by decide +kernel⟩
  · exact ⟨.join, trivial, rfl, rfl, by decide +kernel, by decide +kernel, by decide +kernel⟩
  · exact ⟨.long, trivial, rfl, rfl, by decide +kernel, by decide +kernel, by decide +kernel⟩
  · exact ⟨.show, trivial, rfl, rfl, by decide +kernel, by decide +kernel, by decide +kernel⟩
  · exact ⟨.swap, trivial, rfl, rfl, by decide +kernel, by decide +kernel, by decide +kernel⟩
  · exact ⟨.drop, trivial, rfl, rfl, by decide +kernel, by decide +kernel, by decide +kernel⟩
theorem plain_ok : Ver spPlain B_law_plain_row N_law_plain_row 2 := by
  intro ps H Q X h
  obtain ⟨xs, t, n, rfl, hx, ht, hn, hQ⟩ := h
  have hB : (2 : Nat) ^ 57 = 144115188075855872 := by decide
  have hB1 : (2 : Nat) ^ 58 = 288230376151711744 := by decide
  have hB' : (2 : Nat) ^ 59 = 576460752303423488 := by decide
  refine ⟨rfl, ?_⟩
  unfold B_law_plain_row
  repeat walk_at "mp"
  refine O_alloc fun c H₁ hc h₁ e₁ => ?_
  repeat walk_at "mp"
  rw [C_draw]
  refine ⟨xs, t, _, n, rfl, hx, e₁.at ht, by omega, by omega, fun r H₂ r0 r1 h₂ e₂ => ?_⟩
  have htc : t ≠ c := ne_of ht hc
  have hc₂ := e₂.at (Ne.symm htc) h₁
  have e₁₂ : ExtB t H H₂ := (e₁.toB t).trans e₂
  have plain : ∀ w : W, w.ok → Q (.tup w.row) H₂ := fun w hw => hQ w _ _ hw (by omega) h₂ e₁₂
  have hr : r = 0 ∨ r = 1 ∨ 10 ≤ r ∨ (2 ≤ r ∧ r < 10) := by omega
  rcases hr with rfl | rfl | hr | hr
  · refine O_subL hc₂ (itemAt_nat (n := 0) rfl rfl) ?_
    repeat walk_at "mp"
    rw [C_value]
    refine ⟨xs, t, _, n + 1, rfl, hx, h₂, by omega, fun v H₃ hv hk h₃ e₃ => ?_⟩
    obtain ⟨i, rfl, i0, i1⟩ := okv_num hv (by rw [hk]; decide +kernel)
    repeat walk_at "mp"
    exact hQ (.num i) _ _ ⟨i0, i1⟩ (by omega) h₃ (e₁₂.trans e₃)
  · refine O_subL hc₂ (itemAt_nat (n := 1) rfl rfl) ?_
    repeat walk_at "mp"
    rw [C_value]
    refine ⟨xs, t, _, n + 1, rfl, hx, h₂, by omega, fun v H₃ hv hk h₃ e₃ => ?_⟩
    obtain ⟨s, rfl, hs⟩ := okv_text hv (by rw [hk]; decide +kernel)
    repeat walk_at "mp"
    exact hQ (.text s) _ _ hs (by omega) h₃ (e₁₂.trans e₃)
  · refine O_subL hc₂ (some_copy hr r1) ?_
    repeat walk_at "mp"
    rw [C_draw]
    refine ⟨xs, t, _, n + 1, rfl, hx, h₂, by omega, by omega, fun d H₃ d0 d1 h₃ e₃ => ?_⟩
    repeat walk_at "mp"
    refine O_alloc fun b H₄ hb h₄ e₄ => ?_
    repeat walk_at "mp"
    rw [C_draw]
    refine ⟨xs, t, _, n + 2, rfl, hx, e₄.at h₃, by omega, by omega, fun z H₅ z0 z1 h₅ e₅ => ?_⟩
    have hb₅ := e₅.at (Ne.symm (ne_of h₃ hb)) h₄
    have e₁₅ : ExtB t H H₅ := ((e₁₂.trans e₃).trans (e₄.toB t)).trans e₅
    have fin : ∀ k : Int, 0 ≤ k → k ≤ 60 → Q (.tup [.str "copy", .int k]) H₅ := fun k k0 k1 => by
      obtain ⟨j, rfl⟩ := Int.eq_ofNat_of_zero_le k0
      exact hQ (.copy j) _ _ (by show j ≤ 60; omega) (by omega) h₅ e₁₅
    have hi : ∃ k : Int, itemAt [PV.int 0, PV.int 0, PV.int 1, PV.int 1, PV.int 2, PV.int 3, PV.int d, PV.int 60] z = some (.int k) ∧ 0 ≤ k ∧ k ≤ 60 := copy_at d0 d1 z0 z1
    obtain ⟨k, hk, k0, k1⟩ := hi
    refine O_subL hb₅ hk ?_
    repeat walk_at "mp"
    exact fin k k0 k1
  · obtain ⟨w, hwo, gw, hrow, n1, n2, n3⟩ := some_plain hr.1 hr.2
    refine O_subL hc₂ gw ?_
    repeat walk_at "mp"
    refine I_neg (by rw [n1]; decide) ?_
    repeat walk_at "mp"
    refine I_neg (by rw [n2]; decide) ?_
    repeat walk_at "mp"
    refine I_neg (by rw [n3]; decide) ?_
    repeat walk_at "mp"
    have := plain w hwo
    rw [hrow] at this
    exact this

theorem calc2_inv {w : W} {x y v : PV} (h : calc2 w x y = some v) : (∃ a b, x = .int a ∧ y = .int b ∧ (w = .add ∧ v = .int ((a + b) % 1000000000) ∨ w = .mul ∧ v = .int (a * b % 1000000000) ∨ w = .less ∧ v = .int (if a < b then 1 else 0))) ∨
    ∃ a b, x = .str a ∧ y = .str b ∧ w = .join ∧ v = .str (cut60 (a ++ b)) := by
  unfold calc2 at h
  split at h <;> cases h
  · exact .inl ⟨_, _, rfl, rfl, .inl ⟨rfl, rfl⟩⟩
  · exact .inl ⟨_, _, rfl, rfl, .inr (.inl ⟨rfl, rfl⟩)⟩
  · exact .inl ⟨_, _, rfl, rfl, .inr (.inr ⟨rfl, rfl⟩)⟩
  · exact .inr ⟨_, _, rfl, rfl, rfl, rfl⟩
theorem calc1_inv {w : W} {x v : PV} (h : calc1 w x = some v) : (∃ a, x = .str a ∧ w = .long ∧ v = .int a.length) ∨ ∃ a, x = .int a ∧ w = .show ∧ v = .str (Str.ofString (toString a)) := by
  unfold calc1 at h
  split at h <;> cases h
  · exact .inl ⟨_, rfl, rfl, rfl⟩
  · exact .inr ⟨_, rfl, rfl, rfl⟩
theorem okv_int {i : Int} (h : Okv (.int i)) : 0 ≤ i ∧ i < 1000000000 := by
  rcases h with ⟨j, e, h⟩ | ⟨s, e, _⟩
  · cases e; exact h
  · cases e
theorem okv_str {s : Str} (h : Okv (.str s)) : s.length ≤ 60 := by
  rcases h with ⟨j, e, h⟩ | ⟨s, e, h⟩
  · cases e
  · cases e; exact h

theorem reck_ok : Ver spReck B_reckoned N_reckoned 2 := by
  intro ps H Q X h
  have hL : LIM = 1048576 := rfl
  have hB' : (2 : Nat) ^ 60 = 1152921504606846976 := by decide
  obtain ⟨w, a, vs, v, rfl, ha, hok, hc, hQ⟩ := h
  refine ⟨rfl, ?_⟩
  unfold B_reckoned
  rcases hc with ⟨x, y, rfl, hc⟩ | ⟨x, rfl, hc⟩
  · have ox := hok x (by simp)
    have oy := hok y (by simp)
    rcases calc2_inv hc with ⟨i, j, rfl, rfl, ⟨rfl, rfl⟩ | ⟨rfl, rfl⟩ | ⟨rfl, rfl⟩⟩ | ⟨s, u, rfl, rfl, rfl, rfl⟩
    · repeat walk_at "mp"
      refine O_subL ha (itemAt_nat (n := 0) rfl rfl) ?_
      repeat walk_at "mp"
      refine O_subL ha (itemAt_nat (n := 1) rfl rfl) ?_
      repeat walk_at "mp"
      refine O_modI (by omega) ?_
      exact hQ
    · have := okv_int ox
      repeat walk_at "mp"
      refine O_subL ha (itemAt_nat (n := 0) rfl rfl) ?_
      repeat walk_at "mp"
      refine O_subL ha (itemAt_nat (n := 1) rfl rfl) ?_
      repeat walk_at "mp"
      refine O_mulI (by omega) ?_
      repeat walk_at "mp"
      refine O_modI (by omega) ?_
      exact hQ
    · repeat walk_at "mp"
      refine O_subL ha (itemAt_nat (n := 0) rfl rfl) ?_
      repeat walk_at "mp"
      refine O_subL ha (itemAt_nat (n := 1) rfl rfl) ?_
      repeat walk_at "mp"
      simpa using hQ
    · have h1 := okv_str ox
      have h2 := okv_str oy
      repeat walk_at "mp"
      refine O_subL ha (itemAt_nat (n := 0) rfl rfl) ?_
      repeat walk_at "mp"
      refine O_subL ha (itemAt_nat (n := 1) rfl rfl) ?_
      refine O_addS (by omega) ?_
      repeat walk_at "mp"
      refine O_toS (by rw [str_len_append]; omega) ?_
      exact hQ
  · have ox := hok x (by simp)
    rcases calc1_inv hc with ⟨s, rfl, rfl, rfl⟩ | ⟨i, rfl, rfl, rfl⟩
    · have h1 := okv_str ox
      repeat walk_at "mp"
      refine O_subL ha (itemAt_nat (n := 0) rfl rfl) ?_
      repeat walk_at "mp"
      refine O_lenS (by omega) ?_
      exact hQ
    · have h1 := okv_int ox
      have h2 : (10 : Nat) ^ 18 = 1000000000000000000 := by decide
      repeat walk_at "mp"
      refine O_subL ha (itemAt_nat (n := 0) rfl rfl) ?_
      repeat walk_at "mp"
      refine O_strI (by omega) ?_
      exact hQ

theorem lreck_ok : Ver spLReck B_law_reckoned N_law_reckoned 3 := by
  intro ps H Q X h
  have hL : LIM = 1048576 := rfl
  have hB' : (2 : Nat) ^ 60 = 1152921504606846976 := by decide
  obtain ⟨w, x, y, v, rfl, ox, oy, hc, hQ⟩ := h
  refine ⟨rfl, ?_⟩
  unfold B_law_reckoned
  rcases calc2_inv hc with ⟨i, j, rfl, rfl, ⟨rfl, rfl⟩ | ⟨rfl, rfl⟩ | ⟨rfl, rfl⟩⟩ | ⟨s, u, rfl, rfl, rfl, rfl⟩
  · repeat (first | walk_at "mp" | refine O_subT (itemAt_nat (n := 0) rfl rfl) ?_)
    refine O_modI (by omega) ?_
    exact hQ
  · have := okv_int ox
    repeat (first | walk_at "mp" | refine O_subT (itemAt_nat (n := 0) rfl rfl) ?_)
    refine O_mulI (by omega) ?_
    repeat walk_at "mp"
    refine O_modI (by omega) ?_
    exact hQ
  · repeat (first | walk_at "mp" | refine O_subT (itemAt_nat (n := 0) rfl rfl) ?_)
    split
    · rename_i q
      rw [if_pos (by simpa using q)] at hQ
      repeat walk_at "mp"
      exact hQ
    · rename_i q
      rw [if_neg (by simpa using q)] at hQ
      repeat walk_at "mp"
      exact hQ
  · have h1 := okv_str ox
    have h2 := okv_str oy
    repeat (first | walk_at "mp" | refine O_subT (itemAt_nat (n := 0) rfl rfl) ?_)
    refine O_addS (by omega) ?_
    repeat walk_at "mp"
    refine O_toS (by rw [str_len_append]; omega) ?_
    exact hQ
theorem Ext.back {H H' : AHeap} (e : Ext H H') {x : Addr} (h : H' x = none) : H x = none := by
  cases q : H x with
  | none => rfl
  | some o => rw [e.at q] at h; cases h
theorem cut_sub {L k : Nat} (h : k ≤ L) : cutAt L ((L : Int) - (k : Int)) = L - k := by unfold cutAt; rw [if_pos (by omega)]; omega
theorem split_at {st : List PV} {k : Nat} (h : k ≤ st.length) : ∃ pre vs, st = pre ++ vs ∧ vs.length = k ∧ pre.length = st.length - k :=
  ⟨st.take (st.length - k), st.drop (st.length - k), (List.take_append_drop _ _).symm, by simp; omega, by simp⟩

noncomputable def takesS : W → Option (List Str)
  | .add => some ["num", "num"] | .mul => some ["num", "num"] | .less => some ["num", "num"] | .join => some ["text", "text"] | .long => some ["text"] | .show => some ["num"] | _ => none
theorem rev_one {α : Type} {l : List α} (h : l.length = 1) : ∃ a, l = [a] := by
  match l, h with | [a], _ => exact ⟨a, rfl⟩
theorem rev_two {α : Type} {l : List α} (h : l.length = 2) : ∃ a b, l = [a, b] := by
  match l, h with | [a, b], _ => exact ⟨a, b, rfl⟩
theorem res_few {w : W} {ts : List Str} {st : List PV} (ht : takesS w = some ts) (h : st.length < ts.length) : resS st w = .error 1 := by
  have hcase : st = [] ∨ (ts.length = 2 ∧ ∃ a, st = [a]) := by
    have : ts.length ≤ 2 := by cases w <;> cases ht <;> simp
    match st, h with
    | [], _ => exact .inl rfl
    | [a], h => exact .inr ⟨by simp at h; omega, a, rfl⟩
    | _ :: _ :: _, h => simp at h; omega
  rcases hcase with rfl | ⟨h2, a, rfl⟩
  · cases w <;> cases ht <;> rfl
  · cases w <;> cases ht <;> first | rfl | (simp at h2; done)
theorem calc2_kind {w : W} {x y : PV} (ox : Okv x) (oy : Okv y) {ts : List Str} (ht : takesS w = some ts) (h2 : ts.length = 2) : (calc2 w x y).isSome = decide ([kindS x, kindS y] = ts) := by
  rcases ox with ⟨i, rfl, _⟩ | ⟨s, rfl, _⟩ <;> rcases oy with ⟨j, rfl, _⟩ | ⟨u, rfl, _⟩ <;> cases w <;> cases ht <;> first | (simp at h2; done) | kernel_rfl
theorem calc1_kind {w : W} {x : PV} (ox : Okv x) {ts : List Str} (ht : takesS w = some ts) (h1 : ts.length = 1) : (calc1 w x).isSome = decide ([kindS x] = ts) := by
  rcases ox with ⟨i, rfl, _⟩ | ⟨s, rfl, _⟩ <;> cases w <;> cases ht <;> first | (simp at h1; done) | kernel_rfl
theorem res_takes {w : W} {ts : List Str} {pre vs : List PV} (ht : takesS w = some ts) (hl : vs.length = ts.length) (ok : ∀ v ∈ vs, Okv v) :
    (vs.map kindS ≠ ts ∧ resS (pre ++ vs) w = .error 2) ∨ (vs.map kindS = ts ∧ ∃ v, resS (pre ++ vs) w = .ok (pre ++ [v]) ∧ ((∃ x y, vs = [x, y] ∧ calc2 w x y = some v) ∨ ∃ x, vs = [x] ∧ calc1 w x = some v)) := by
  have two : ts.length = 2 → resS (pre ++ vs) w = (match (pre ++ vs).reverse with | b :: a :: r => (match calc2 w a b with | some v => .ok (r.reverse ++ [v]) | none => .error 2) | _ => .error 1) := fun h2 => by
    cases w <;> cases ht <;> first | rfl | (simp at h2; done)
  have one : ts.length = 1 → resS (pre ++ vs) w = (match (pre ++ vs).reverse with | a :: r => (match calc1 w a with | some v => .ok (r.reverse ++ [v]) | none => .error 2) | _ => .error 1) := fun h1 => by
    cases w <;> cases ht <;> first | rfl | (simp at h1; done)
  have hlen : ts.length = 2 ∨ ts.length = 1 := by cases w <;> cases ht <;> simp
  rcases hlen with h2 | h1
  · obtain ⟨x, y, rfl⟩ := rev_two (hl.trans h2)
    have hk := calc2_kind (ok x (by simp)) (ok y (by simp)) ht h2
    have hr := two h2
    simp only [List.reverse_append, List.reverse_cons, List.reverse_nil, List.nil_append, List.cons_append, List.singleton_append] at hr
    cases hc : calc2 w x y with
    | none =>
      rw [hc] at hk hr
      left
      exact ⟨fun q => by rw [show [kindS x, kindS y] = ts from q] at hk; simp at hk, hr⟩
    | some v =>
      rw [hc] at hk hr
      right
      refine ⟨by simpa using hk.symm, v, ?_, .inl ⟨x, y, rfl, hc⟩⟩
      simpa using hr
  · obtain ⟨x, rfl⟩ := rev_one (hl.trans h1)
    have hk := calc1_kind (ok x (by simp)) ht h1
    have hr := one h1
    simp only [List.reverse_append, List.reverse_cons, List.reverse_nil, List.nil_append, List.cons_append, List.singleton_append] at hr
    cases hc : calc1 w x with
    | none =>
      rw [hc] at hk hr
      left
      exact ⟨fun q => by rw [show [kindS x] = ts from q] at hk; simp at hk, hr⟩
    | some v =>
      rw [hc] at hk hr
      right
      refine ⟨by simpa using hk.symm, v, ?_, .inr ⟨x, rfl, hc⟩⟩
      simpa using hr
theorem tk_get : ∀ {w : W} {ts : List Str}, takesS w = some ts → dget (takes01.map fun e => (e.1, PV.tup (e.2.map .str))) (wd w) = some (.tup (ts.map .str)) := by
  intro w ts ht
  cases w <;> cases ht <;> kernel_rfl
abbrev ts_add : List Str := ["num", "num"]
abbrev ts_mul : List Str := ["num", "num"]
abbrev ts_less : List Str := ["num", "num"]
abbrev ts_join : List Str := ["text", "text"]
abbrev ts_long : List Str := ["text"]
abbrev ts_show : List Str := ["num"]
theorem done_takes {w : W} {ts : List Str} (ht : takesS w = some ts) {a : Addr} {st : List PV} {H : AHeap} {Q : Post} {X : XPost} (ha : H a = some (.list st)) (hst : ∀ v ∈ st, Okv v) (hlen : st.length ≤ 900)
    (hres : match resS st w with | .ok ys => ∀ c H', H c = none → H' c = some (.list ys) → Ext H H' → Q (.obj c) H' | .error e => ∀ H', Ext H H' → X e H') :
    awpSs g01 B_done (fun _ H => Q .none H) Q (fun c _ H => X c H) (initL N_done 2 [.obj a, .tup w.row]) H := by
  have hL : LIM = 1048576 := rfl
  have g0 : itemAt w.row 0 = some (.str (wd w)) := by cases w <;> rfl
  have n1 : (wd w == ("num" : Str)) = false := by cases w <;> cases ht <;> kernel_rfl
  have n2 : (wd w == ("text" : Str)) = false := by cases w <;> cases ht <;> kernel_rfl
  have n3 : (wd w == ("copy" : Str)) = false := by cases w <;> cases ht <;> kernel_rfl
  have n4 : (wd w == ("swap" : Str)) = false := by cases w <;> cases ht <;> kernel_rfl
  have n5 : (wd w == ("drop" : Str)) = false := by cases w <;> cases ht <;> kernel_rfl
  unfold B_done
  repeat walk_at "mp"
  refine O_subT g0 ?_
  repeat walk_at "mp"
  refine O_lenL ha ?_
  repeat walk_at "mp"
  refine I_neg (by rw [n1]; decide) ?_
  repeat walk_at "mp"
  refine I_neg (by rw [n2]; decide) ?_
  repeat walk_at "mp"
  refine I_neg (by rw [n3]; decide) ?_
  repeat walk_at "mp"
  refine I_neg (by rw [n4]; decide) ?_
  repeat walk_at "mp"
  refine I_neg (by rw [n5]; decide) ?_
  repeat walk_at "mp"
  refine O_subF (tk_get ht) ?_
  repeat walk_at "mp"
  rw [C_need]
  refine ⟨a, st, _, rfl, ha, ?_⟩
  by_cases hlt : st.length < ts.length
  · rw [if_pos (by rw [List.length_map]; omega)]
    rw [res_few ht hlt] at hres
    exact hres _ (Ext.refl H)
  · rw [if_neg (by rw [List.length_map]; omega)]
    obtain ⟨pre, vs, rfl, hv, hp⟩ := split_at (st := st) (k := ts.length) (by omega)
    have ok : ∀ v ∈ vs, Okv v := fun v hvm => hst v (by simp [hvm])
    have hcut : cutAt (pre ++ vs).length (((pre ++ vs).length : Int) - ((ts.map PV.str).length : Int)) = pre.length := by
      rw [List.length_map, cut_sub (by omega)]; simp; omega
    simp only [List.length_append] at hlen
    repeat walk_at "mp"
    refine O_fromL ha fun c H₁ hc h₁ e₁ => ?_
    rw [hcut, List.drop_left] at h₁
    repeat walk_at "mp"
    refine O_listL h₁ fun d H₂ hd h₂ e₂ => ?_
    have e₁₂ := e₁.trans e₂
    repeat walk_at "mp"
    rw [C_kinds]
    refine ⟨d, vs, rfl, h₂, ok, by omega, fun H₃ e₃ => ?_⟩
    have e₁₃ := e₁₂.trans e₃
    repeat walk_at "mp"
    have hrt := res_takes (pre := pre) (vs := vs) ht hv ok
    have heq := eq_strs (H := H₃) (vs.map kindS) ts
    rw [List.map_map] at heq
    refine O_neT heq ?_
    rcases hrt with ⟨hne, hr⟩ | ⟨hek, v, hr, hcc⟩
    · rw [hr] at hres
      refine I_pos (by simpa using hne) ?_
      repeat walk_at "mp"
      exact hres _ e₁₃
    · rw [hr] at hres
      refine I_neg (by simpa using hek) ?_
      repeat walk_at "mp"
      refine O_toL (e₁₃.at ha) fun f H₄ hf h₄ e₄ => ?_
      rw [hcut, List.take_left] at h₄
      repeat walk_at "mp"
      refine O_listL h₄ fun g5 H₅ hg h₅ e₅ => ?_
      have e₁₅ := (e₁₃.trans e₄).trans e₅
      repeat walk_at "mp"
      rw [C_reck]
      refine ⟨w, d, vs, v, rfl, ((e₃.trans e₄).trans e₅).at h₂, ok, hcc, ?_⟩
      repeat walk_at "mp"
      refine O_alloc fun b H₆ hb h₆ e₆ => ?_
      refine O_addL (e₆.at h₅) h₆ (by simp; omega) fun z H₇ hz h₇ e₇ => ?_
      exact hres _ _ ((e₁₅.trans e₆).back hz) h₇ ((e₁₅.trans e₆).trans e₇)
set_option maxHeartbeats 1000000 in
theorem done_ok : Ver spDone B_done N_done 2 := by
  intro ps H Q X h
  have hL : LIM = 1048576 := rfl
  obtain ⟨a, st, w, rfl, hw, ha, hst, hlen, hres⟩ := h
  refine ⟨rfl, ?_⟩
  cases w with
  | num i =>
    unfold B_done
    simp only [resS] at hres
    repeat (first | walk_at "mp" | refine O_subT (itemAt_nat (n := 0) rfl rfl) ?_ | refine O_lenL ha ?_)
    refine O_listL ha fun c H₁ hc h₁ e₁ => ?_
    repeat walk_at "mp"
    refine O_subT (itemAt_nat (n := 1) rfl rfl) ?_
    repeat walk_at "mp"
    refine O_alloc fun d H₂ hd h₂ e₂ => ?_
    refine O_addL (e₂.at h₁) h₂ (by simp; omega) fun b H₃ hb h₃ e₃ => ?_
    exact hres _ _ ((e₁.trans e₂).back hb) h₃ ((e₁.trans e₂).trans e₃)
  | text s =>
    unfold B_done
    simp only [resS] at hres
    repeat (first | walk_at "mp" | refine O_subT (itemAt_nat (n := 0) rfl rfl) ?_ | refine O_lenL ha ?_)
    refine O_listL ha fun c H₁ hc h₁ e₁ => ?_
    repeat walk_at "mp"
    refine O_subT (itemAt_nat (n := 1) rfl rfl) ?_
    repeat walk_at "mp"
    refine O_alloc fun d H₂ hd h₂ e₂ => ?_
    refine O_addL (e₂.at h₁) h₂ (by simp; omega) fun b H₃ hb h₃ e₃ => ?_
    exact hres _ _ ((e₁.trans e₂).back hb) h₃ ((e₁.trans e₂).trans e₃)
  | copy n =>
    unfold B_done
    have hn : n ≤ 60 := hw
    repeat (first | walk_at "mp" | refine O_subT (itemAt_nat (n := 0) rfl rfl) ?_ | refine O_lenL ha ?_)
    refine O_subT (itemAt_nat (n := 1) rfl rfl) ?_
    repeat walk_at "mp"
    rw [C_need]
    refine ⟨a, st, _, rfl, ha, ?_⟩
    by_cases hlt : st.length < n + 1
    · rw [if_pos (by omega)]
      have hr : resS st (.copy n) = .error 1 := by
        unfold resS
        simp only
        rw [List.getElem?_eq_none (by simp; omega)]
      rw [hr] at hres
      exact hres _ (Ext.refl H)
    · rw [if_neg (by omega)]
      have hk : st.length - 1 - n < st.length := by omega
      have hr : resS st (.copy n) = .ok (st ++ [st[st.length - 1 - n]]) := by
        unfold resS
        simp only
        rw [List.getElem?_reverse (by omega), List.getElem?_eq_getElem hk]
      rw [hr] at hres
      repeat walk_at "mp"
      refine O_listL ha fun c H₁ hc h₁ e₁ => ?_
      repeat walk_at "mp"
      refine O_subT (itemAt_nat (n := 1) rfl rfl) ?_
      repeat walk_at "mp"
      refine O_subL (e₁.at ha) (itemAt_nat (n := st.length - 1 - n) (by omega) (List.getElem?_eq_getElem hk)) ?_
      repeat walk_at "mp"
      refine O_alloc fun d H₂ hd h₂ e₂ => ?_
      refine O_addL (e₂.at h₁) h₂ (by simp; omega) fun b H₃ hb h₃ e₃ => ?_
      exact hres _ _ ((e₁.trans e₂).back hb) h₃ ((e₁.trans e₂).trans e₃)
  | swap =>
    unfold B_done
    repeat (first | walk_at "mp" | refine O_subT (itemAt_nat (n := 0) rfl rfl) ?_ | refine O_lenL ha ?_)
    rw [C_need]
    refine ⟨a, st, _, rfl, ha, ?_⟩
    by_cases hlt : st.length < 2
    · rw [if_pos (by omega)]
      have hr : resS st .swap = .error 1 := by
        match st, hlt with
        | [], _ => rfl
        | [x], _ => rfl
        | _ :: _ :: _, h => simp at h; omega
      rw [hr] at hres
      exact hres _ (Ext.refl H)
    · rw [if_neg (by omega)]
      obtain ⟨pre, vs, rfl, hv, hp⟩ := split_at (st := st) (k := 2) (by omega)
      obtain ⟨x, y, rfl⟩ := rev_two hv
      have hr : resS (pre ++ [x, y]) .swap = .ok (pre ++ [y, x]) := by simp [resS]
      rw [hr] at hres
      simp only [List.length_append, List.length_cons, List.length_nil] at hlen
      repeat walk_at "mp"
      refine O_toL ha fun c H₁ hc h₁ e₁ => ?_
      have hcut : cutAt (pre ++ [x, y]).length (((pre ++ [x, y]).length : Nat) - 2 : Int) = pre.length := by
        have := cut_sub (L := (pre ++ [x, y]).length) (k := 2) (by simp)
        rw [show ((2 : Nat) : Int) = 2 from rfl] at this
        rw [this]; simp
      rw [hcut, List.take_left] at h₁
      repeat walk_at "mp"
      refine O_listL h₁ fun d H₂ hd h₂ e₂ => ?_
      have e₁₂ := e₁.trans e₂
      repeat walk_at "mp"
      refine O_subL (e₁₂.at ha) (itemAt_nat (n := pre.length + 1) (x := y) (by simp; omega) (by simp)) ?_
      repeat walk_at "mp"
      refine O_subL (e₁₂.at ha) (itemAt_nat (n := pre.length) (x := x) (by simp) (by simp)) ?_
      repeat walk_at "mp"
      refine O_alloc fun b H₃ hb h₃ e₃ => ?_
      refine O_addL (e₃.at h₂) h₃ (by simp; omega) fun z H₄ hz h₄ e₄ => ?_
      exact hres _ _ ((e₁₂.trans e₃).back hz) h₄ ((e₁₂.trans e₃).trans e₄)
  | drop =>
    unfold B_done
    repeat (first | walk_at "mp" | refine O_subT (itemAt_nat (n := 0) rfl rfl) ?_ | refine O_lenL ha ?_)
    rw [C_need]
    refine ⟨a, st, _, rfl, ha, ?_⟩
    by_cases hlt : st.length < 1
    · rw [if_pos (by omega)]
      have hr : resS st .drop = .error 1 := by
        match st, hlt with
        | [], _ => rfl
        | _ :: _, h => simp at h
      rw [hr] at hres
      exact hres _ (Ext.refl H)
    · rw [if_neg (by omega)]
      obtain ⟨pre, vs, rfl, hv, hp⟩ := split_at (st := st) (k := 1) (by omega)
      obtain ⟨x, rfl⟩ := rev_one hv
      have hr : resS (pre ++ [x]) .drop = .ok pre := by simp [resS]
      rw [hr] at hres
      repeat walk_at "mp"
      refine O_toL ha fun c H₁ hc h₁ e₁ => ?_
      have hcut : cutAt (pre ++ [x]).length (((pre ++ [x]).length : Nat) - 1 : Int) = pre.length := by
        have := cut_sub (L := (pre ++ [x]).length) (k := 1) (by simp)
        rw [show ((1 : Nat) : Int) = 1 from rfl] at this
        rw [this]; simp
      rw [hcut, List.take_left] at h₁
      repeat walk_at "mp"
      refine O_listL h₁ fun d H₂ hd h₂ e₂ => ?_
      exact hres _ _ (e₁.back hd) h₂ (e₁.trans e₂)
  | add => exact done_takes (w := .add) rfl ha hst hlen hres
  | mul => exact done_takes (w := .mul) rfl ha hst hlen hres
  | less => exact done_takes (w := .less) rfl ha hst hlen hres
  | join => exact done_takes (w := .join) rfl ha hst hlen hres
  | long => exact done_takes (w := .long) rfl ha hst hlen hres
  | «show» => exact done_takes (w := .show) rfl ha hst hlen hres
theorem res_err {st : List PV} {w : W} {e : Nat} (h : resS st w = .error e) : e = 1 ∨ e = 2 := by
  unfold resS at h
  split at h <;> (repeat' split at h) <;> cases h <;> first | exact .inl rfl | exact .inr rfl
theorem told_ok : Ver spTold B_law_told N_law_told 2 := by
  intro ps H Q X h
  obtain ⟨a, st, w, rfl, hw, ha, hst, hlen, hres⟩ := h
  refine ⟨rfl, ?_⟩
  unfold B_law_told
  repeat walk_at "mp"
  rw [C_done]
  refine ⟨a, st, w, rfl, hw, ha, hst, hlen, ?_⟩
  cases hr : resS st w with
  | ok ys => rw [hr] at hres; exact hres
  | error e =>
    rw [hr] at hres
    intro H' hE
    have hq := hres H' hE
    rcases res_err hr with rfl | rfl
    · simp only [awpHs]
      refine I_pos (by decide +kernel) ?_
      repeat walk_at "mp"
      exact hq
    · simp only [awpHs]
      refine I_neg (by decide +kernel) ?_
      refine I_pos (by decide +kernel) ?_
      repeat walk_at "mp"
      exact hq
theorem any_ok : Ver spAny B_law_any N_law_any 2 := by
  intro ps H Q X h
  have hL : LIM = 1048576 := rfl
  obtain ⟨a, st, w, rfl, hw, ha, hst, hlen, hres⟩ := h
  refine ⟨rfl, ?_⟩
  unfold B_law_any
  repeat walk_at "mp"
  rw [C_done]
  refine ⟨a, st, w, rfl, hw, ha, hst, hlen, ?_⟩
  cases hr : resS st w with
  | ok ys => rw [hr] at hres; exact hres.elim
  | error e =>
    rw [hr] at hres
    intro H' hE
    have he := res_err hr
    simp only [awpHs]
    refine I_pos (by rcases he with rfl | rfl <;> decide +kernel) ?_
    repeat walk_at "mp"
    refine O_alloc fun c H₁ hc h₁ e₁ => ?_
    repeat walk_at "mp"
    refine O_alloc fun d H₂ hd h₂ e₂ => ?_
    refine O_addL (e₂.at h₁) h₂ (by simp; omega) fun b H₃ hb h₃ e₃ => ?_
    repeat walk_at "mp"
    refine ⟨⟨_, h₃⟩, ?_⟩
    repeat walk_at "mp"
    refine O_count (bs := [isSub e 1, isSub e 2, isSub e 3, isSub e 4, isSub e 5]) h₃ ?_
    repeat walk_at "mp"
    have hq := hres _ (((hE.trans e₁).trans e₂).trans e₃)
    rcases he with rfl | rfl <;> exact hq
theorem res_ok {w : W} {ts : List Str} {st ys : List PV} (ht : takesS w = some ts) (hst : ∀ v ∈ st, Okv v) (h : resS st w = .ok ys) :
    ∃ pre v, ys = pre ++ [v] ∧ ((∃ x y, st = pre ++ [x, y] ∧ calc2 w x y = some v) ∨ ∃ x, st = pre ++ [x] ∧ calc1 w x = some v) := by
  by_cases hl : st.length < ts.length
  · rw [res_few ht hl] at h; cases h
  · obtain ⟨pre, vs, rfl, hv, hp⟩ := split_at (st := st) (k := ts.length) (by omega)
    rcases res_takes (pre := pre) (vs := vs) ht hv fun v hm => hst v (by simp [hm]) with ⟨_, hr⟩ | ⟨_, v, hr, hc⟩
    · rw [hr] at h; cases h
    · rw [hr] at h; cases h
      refine ⟨pre, v, rfl, ?_⟩
      rcases hc with ⟨x, y, rfl, hc⟩ | ⟨x, rfl, hc⟩
      · exact .inl ⟨x, y, rfl, hc⟩
      · exact .inr ⟨x, rfl, hc⟩
theorem rev_get {st : List PV} {n : Nat} {v : PV} (h : st.reverse[n]? = some v) : n < st.length ∧ st[st.length - 1 - n]? = some v := by
  have hn : n < st.reverse.length := (List.getElem?_eq_some_iff.mp h).1
  rw [List.length_reverse] at hn
  rw [List.getElem?_reverse hn] at h
  exact ⟨hn, h⟩
theorem rev_cons {st r : List PV} {x : PV} (h : st.reverse = x :: r) : st = r.reverse ++ [x] := by
  have := congrArg List.reverse h
  simpa using this
theorem behind_two {w : W} {ts : List Str} (ht : takesS w = some ts) (h2 : ts.length = 2) {a : Addr} {st ys : List PV} {H : AHeap} {Q : Post} {X : XPost} (ha : H a = some (.list st)) (hst : ∀ v ∈ st, Okv v) (hlen : st.length ≤ 900)
    (hr : resS st w = .ok ys) (hres : ∀ c H', H c = none → H' c = some (.list ys) → Ext H H' → Q (.obj c) H') : awpSs g01 B_law_behind (fun _ H => Q .none H) Q (fun c _ H => X c H) (initL N_law_behind 2 [.obj a, .tup w.row]) H := by
  have hL : LIM = 1048576 := rfl
  have g0 : itemAt w.row 0 = some (.str (wd w)) := by cases w <;> rfl
  have nn : ∀ x ∈ (["num", "text", "copy", "long", "show", "swap", "drop"] : List Str), (wd w == x) = false := by
    cases w <;> cases ht <;> first | (simp at h2; done) | decide +kernel
  have n1 := nn "num" (by decide +kernel)
  have n2 := nn "text" (by decide +kernel)
  have n3 := nn "copy" (by decide +kernel)
  have n4 := nn "long" (by decide +kernel)
  have n5 := nn "show" (by decide +kernel)
  have n6 := nn "swap" (by decide +kernel)
  have n7 := nn "drop" (by decide +kernel)
  obtain ⟨pre, v, rfl, ⟨x, y, rfl, hc2⟩ | ⟨x, rfl, hc1⟩⟩ := res_ok ht hst hr
  · have ox := hst x (by simp)
    have oy := hst y (by simp)
    unfold B_law_behind
    repeat walk_at "mp"
    refine O_listL ha fun c H₁ hc h₁ e₁ => ?_
    rw [show pre ++ [x, y] = (pre ++ [x]) ++ [y] by simp] at h₁
    repeat walk_at "mp"
    refine O_subT g0 ?_
    repeat walk_at "mp"
    refine I_neg (by rw [n1]; decide) ?_
    repeat walk_at "mp"
    refine O_subT g0 ?_
    repeat walk_at "mp"
    refine I_neg (by rw [n2]; decide) ?_
    repeat walk_at "mp"
    refine O_subT g0 ?_
    repeat walk_at "mp"
    refine I_neg (by rw [n3]; decide) ?_
    repeat walk_at "mp"
    refine ⟨⟨_, h₁⟩, ?_⟩
    repeat walk_at "mp"
    refine O_pop h₁ fun H₂ h₂ e₂ => ?_
    repeat walk_at "mp"
    refine O_subT g0 ?_
    repeat walk_at "mp"
    refine I_neg (by rw [n4]; decide) ?_
    repeat walk_at "mp"
    refine O_subT g0 ?_
    repeat walk_at "mp"
    refine I_neg (by rw [n5]; decide) ?_
    repeat walk_at "mp"
    refine O_subT g0 ?_
    repeat walk_at "mp"
    refine I_neg (by rw [n6]; decide) ?_
    repeat walk_at "mp"
    refine O_subT g0 ?_
    repeat walk_at "mp"
    refine I_pos (by rw [n7]; decide) ?_
    repeat walk_at "mp"
    refine ⟨⟨_, h₂⟩, ?_⟩
    repeat walk_at "mp"
    refine ⟨⟨_, h₂⟩, ?_⟩
    repeat walk_at "mp"
    refine O_pop h₂ fun H₃ h₃ e₃ => ?_
    repeat walk_at "mp"
    rw [C_lreck]
    refine ⟨w, x, y, v, rfl, ox, oy, hc2, ?_⟩
    repeat walk_at "mp"
    refine O_append h₃ (by simp at hlen; omega) fun H₄ h₄ e₄ => ?_
    repeat walk_at "mp"
    exact hres _ _ hc h₄ (ExtB.fresh hc e₁ ((e₂.trans e₃).trans e₄))
  · exfalso
    rcases calc1_inv hc1 with ⟨_, _, rfl, _⟩ | ⟨_, _, rfl, _⟩ <;> cases ht <;> simp at h2
theorem behind_ok : Ver spBehind B_law_behind N_law_behind 2 := by
  intro ps H Q X h
  have hL : LIM = 1048576 := rfl
  obtain ⟨a, st, w, rfl, hw, ha, hst, hlen, hres⟩ := h
  refine ⟨rfl, ?_⟩
  cases hr : resS st w with
  | error e => rw [hr] at hres; exact hres.elim
  | ok ys =>
  rw [hr] at hres
  replace hres : ∀ c H', H c = none → H' c = some (.list ys) → Ext H H' → Q (.obj c) H' := hres
  cases w with
  | num i =>
    unfold B_law_behind
    repeat walk_at "mp"
    refine O_listL ha fun c H₁ hc h₁ e₁ => ?_
    have hac : a ≠ c := ne_of ha hc
    cases hr
    repeat (first | walk_at "mp" | refine O_subT (itemAt_nat (n := 0) rfl rfl) ?_ | refine O_subT (itemAt_nat (n := 1) rfl rfl) ?_)
    refine ⟨⟨_, h₁⟩, ?_⟩
    repeat (first | walk_at "mp" | refine O_subT (itemAt_nat (n := 0) rfl rfl) ?_ | refine O_subT (itemAt_nat (n := 1) rfl rfl) ?_)
    refine O_append h₁ (by omega) fun H₂ h₂ e₂ => ?_
    repeat walk_at "mp"
    exact hres _ _ hc h₂ (ExtB.fresh hc e₁ e₂)
  | text s =>
    unfold B_law_behind
    repeat walk_at "mp"
    refine O_listL ha fun c H₁ hc h₁ e₁ => ?_
    have hac : a ≠ c := ne_of ha hc
    cases hr
    repeat (first | walk_at "mp" | refine O_subT (itemAt_nat (n := 0) rfl rfl) ?_ | refine O_subT (itemAt_nat (n := 1) rfl rfl) ?_)
    refine ⟨⟨_, h₁⟩, ?_⟩
    repeat (first | walk_at "mp" | refine O_subT (itemAt_nat (n := 0) rfl rfl) ?_ | refine O_subT (itemAt_nat (n := 1) rfl rfl) ?_)
    refine O_append h₁ (by omega) fun H₂ h₂ e₂ => ?_
    repeat walk_at "mp"
    exact hres _ _ hc h₂ (ExtB.fresh hc e₁ e₂)
  | copy n =>
    unfold B_law_behind
    repeat walk_at "mp"
    refine O_listL ha fun c H₁ hc h₁ e₁ => ?_
    have hac : a ≠ c := ne_of ha hc
    simp only [resS] at hr
    cases hv : st.reverse[n]? with
    | none => rw [hv] at hr; cases hr
    | some v =>
      rw [hv] at hr; cases hr
      obtain ⟨hn, hg⟩ := rev_get hv
      repeat (first | walk_at "mp" | refine O_subT (itemAt_nat (n := 0) rfl rfl) ?_ | refine O_subT (itemAt_nat (n := 1) rfl rfl) ?_)
      refine ⟨⟨_, h₁⟩, ?_⟩
      repeat walk_at "mp"
      refine O_lenL (e₁.at ha) ?_
      repeat (first | walk_at "mp" | refine O_subT (itemAt_nat (n := 0) rfl rfl) ?_ | refine O_subT (itemAt_nat (n := 1) rfl rfl) ?_)
      refine O_subL (e₁.at ha) (itemAt_nat (n := st.length - 1 - n) (by omega) hg) ?_
      repeat walk_at "mp"
      refine O_append h₁ (by omega) fun H₂ h₂ e₂ => ?_
      repeat walk_at "mp"
      exact hres _ _ hc h₂ (ExtB.fresh hc e₁ e₂)
  | swap =>
    unfold B_law_behind
    repeat walk_at "mp"
    refine O_listL ha fun c H₁ hc h₁ e₁ => ?_
    have hac : a ≠ c := ne_of ha hc
    simp only [resS] at hr
    split at hr
    · rename_i b x r hq
      cases hr
      have hs : st = (r.reverse ++ [x]) ++ [b] := by rw [rev_cons hq]; simp
      rw [hs] at h₁
      repeat (first | walk_at "mp" | refine O_subT (itemAt_nat (n := 0) rfl rfl) ?_ | refine O_subT (itemAt_nat (n := 1) rfl rfl) ?_)
      refine ⟨⟨_, h₁⟩, ?_⟩
      repeat walk_at "mp"
      refine O_pop h₁ fun H₂ h₂ e₂ => ?_
      repeat (first | walk_at "mp" | refine O_subT (itemAt_nat (n := 0) rfl rfl) ?_ | refine O_subT (itemAt_nat (n := 1) rfl rfl) ?_)
      refine ⟨⟨_, h₂⟩, ?_⟩
      repeat walk_at "mp"
      refine O_lenL h₂ ?_
      repeat walk_at "mp"
      have hl : (r.reverse ++ [x]).length = r.length + 1 := by simp
      have hrl : r.length + 2 = st.length := by rw [hs]; simp
      refine O_insert h₂ (by omega) (by omega) (by omega) fun H₃ h₃ e₃ => ?_
      repeat walk_at "mp"
      have hk : (((r.reverse ++ [x]).length : Int) - 1).toNat = r.reverse.length := by rw [hl, List.length_reverse]; omega
      rw [hk, List.take_left, List.drop_left] at h₃
      exact hres _ _ hc h₃ (ExtB.fresh hc e₁ (e₂.trans e₃))
    · cases hr
  | drop =>
    unfold B_law_behind
    repeat walk_at "mp"
    refine O_listL ha fun c H₁ hc h₁ e₁ => ?_
    have hac : a ≠ c := ne_of ha hc
    simp only [resS] at hr
    split at hr
    · rename_i x r hq
      cases hr
      have hs : st = r.reverse ++ [x] := rev_cons hq
      rw [hs] at h₁
      repeat (first | walk_at "mp" | refine O_subT (itemAt_nat (n := 0) rfl rfl) ?_ | refine O_subT (itemAt_nat (n := 1) rfl rfl) ?_)
      refine ⟨⟨_, h₁⟩, ?_⟩
      repeat walk_at "mp"
      refine O_pop h₁ fun H₂ h₂ e₂ => ?_
      repeat (first | walk_at "mp" | refine O_subT (itemAt_nat (n := 0) rfl rfl) ?_ | refine O_subT (itemAt_nat (n := 1) rfl rfl) ?_)
      exact hres _ _ hc h₂ (ExtB.fresh hc e₁ e₂)
    · cases hr
  | long =>
    unfold B_law_behind
    repeat walk_at "mp"
    refine O_listL ha fun c H₁ hc h₁ e₁ => ?_
    have hac : a ≠ c := ne_of ha hc
    obtain ⟨pre, v, rfl, ⟨x, y, rfl, hc2⟩ | ⟨x, rfl, hc1⟩⟩ := res_ok (w := .long) rfl hst hr
    · rcases calc2_inv hc2 with ⟨_, _, _, _, ⟨q, _⟩ | ⟨q, _⟩ | ⟨q, _⟩⟩ | ⟨_, _, _, _, q, _⟩ <;> cases q
    · rcases calc1_inv hc1 with ⟨s, rfl, _, rfl⟩ | ⟨_, _, q, _⟩
      · have hs := okv_str (hst (.str s) (by simp))
        repeat (first | walk_at "mp" | refine O_subT (itemAt_nat (n := 0) rfl rfl) ?_ | refine O_subT (itemAt_nat (n := 1) rfl rfl) ?_)
        refine ⟨⟨_, h₁⟩, ?_⟩
        repeat walk_at "mp"
        refine O_pop h₁ fun H₂ h₂ e₂ => ?_
        repeat (first | walk_at "mp" | refine O_subT (itemAt_nat (n := 0) rfl rfl) ?_ | refine O_subT (itemAt_nat (n := 1) rfl rfl) ?_)
        refine ⟨⟨_, h₂⟩, ?_⟩
        repeat walk_at "mp"
        refine O_lenS (by omega) ?_
        repeat walk_at "mp"
        refine O_append h₂ (by simp at hlen; omega) fun H₃ h₃ e₃ => ?_
        repeat walk_at "mp"
        exact hres _ _ hc h₃ (ExtB.fresh hc e₁ (e₂.trans e₃))
      · cases q
  | «show» =>
    unfold B_law_behind
    repeat walk_at "mp"
    refine O_listL ha fun c H₁ hc h₁ e₁ => ?_
    have hac : a ≠ c := ne_of ha hc
    obtain ⟨pre, v, rfl, ⟨x, y, rfl, hc2⟩ | ⟨x, rfl, hc1⟩⟩ := res_ok (w := .show) rfl hst hr
    · rcases calc2_inv hc2 with ⟨_, _, _, _, ⟨q, _⟩ | ⟨q, _⟩ | ⟨q, _⟩⟩ | ⟨_, _, _, _, q, _⟩ <;> cases q
    · rcases calc1_inv hc1 with ⟨_, _, q, _⟩ | ⟨i, rfl, _, rfl⟩
      · cases q
      · have hs := okv_int (hst (.int i) (by simp))
        have h2 : (10 : Nat) ^ 18 = 1000000000000000000 := by decide
        repeat (first | walk_at "mp" | refine O_subT (itemAt_nat (n := 0) rfl rfl) ?_ | refine O_subT (itemAt_nat (n := 1) rfl rfl) ?_)
        refine ⟨⟨_, h₁⟩, ?_⟩
        repeat walk_at "mp"
        refine O_pop h₁ fun H₂ h₂ e₂ => ?_
        repeat (first | walk_at "mp" | refine O_subT (itemAt_nat (n := 0) rfl rfl) ?_ | refine O_subT (itemAt_nat (n := 1) rfl rfl) ?_)
        refine ⟨⟨_, h₂⟩, ?_⟩
        repeat walk_at "mp"
        refine O_strI (by omega) ?_
        repeat walk_at "mp"
        refine O_append h₂ (by simp at hlen; omega) fun H₃ h₃ e₃ => ?_
        repeat walk_at "mp"
        exact hres _ _ hc h₃ (ExtB.fresh hc e₁ (e₂.trans e₃))
  | add => exact behind_two (w := .add) rfl rfl ha hst hlen hr hres
  | mul => exact behind_two (w := .mul) rfl rfl ha hst hlen hr hres
  | less => exact behind_two (w := .less) rfl rfl ha hst hlen hr hres
  | join => exact behind_two (w := .join) rfl rfl ha hst hlen hr hres
theorem forR {st : PV → (Loc → AHeap → Prop) → Loc → AHeap → Prop} {N : Loc → AHeap → Prop} {n : Nat} (I : Nat → Loc → AHeap → Prop) (h0 : ∀ m H, I n m H → N m H)
    (h1 : ∀ j m H, j < n → I j m H → ∀ K : Loc → AHeap → Prop, (∀ m' H', I (j + 1) m' H' → K m' H') → st (.int j) K m H) (m : Loc) (H : AHeap) (hi : I 0 m H) :
    forW (fun _ => True) st N ((List.range n).map fun (i : Nat) => PV.int i) m H := by
  refine forW_ind (fun rest m H => ∃ j, j ≤ n ∧ rest = ((List.range n).drop j).map (fun (i : Nat) => PV.int i) ∧ I j m H) ?_ ?_ _ _ _ ⟨0, by omega, rfl, hi⟩
  · rintro m H ⟨j, hj, hr, h⟩
    have hl := congrArg List.length hr
    simp at hl
    have : j = n := by omega
    subst this
    exact ⟨trivial, h0 _ _ h⟩
  · rintro x xs m H ⟨j, hj, hr, h⟩
    refine ⟨trivial, fun K hK => ?_⟩
    have hjl : j < n := by
      apply Classical.byContradiction
      intro q
      rw [List.drop_eq_nil_of_le (by simp; omega)] at hr
      cases hr
    have hd : (List.range n).drop j = j :: (List.range n).drop (j + 1) := by
      rw [List.drop_eq_getElem_cons (by simpa using hjl)]; simp
    rw [hd] at hr
    cases hr
    exact h1 j m H hjl h K fun m' H' h' => hK _ _ ⟨j + 1, by omega, rfl, h'⟩
theorem eql_same {H : AHeap} {n : Nat} : ∀ {xs : List PV}, (∀ v ∈ xs, Okv v) → EqL H n xs xs true
  | [], _ => .nil
  | x :: xs, h => by
    have hx : EqV H n x x true := by
      rcases h x (by simp) with ⟨i, rfl, _⟩ | ⟨s, rfl, _⟩
      · have := EqV.int (H := H) (n := n) i i
        rwa [show (i == i) = true by simp] at this
      · have := EqV.str (H := H) (n := n) s s
        rwa [show (s == s) = true by simp] at this
    exact EqL.c hx (eql_same fun v hv => h v (List.mem_cons_of_mem _ hv))
theorem alike_ok : Ver spAlike B_law_alike N_law_alike 2 := by
  intro ps H Q X h
  have hL : LIM = 1048576 := rfl
  obtain ⟨a, b, xs, rfl, ha, hb, hok, hlen, hQ⟩ := h
  refine ⟨rfl, ?_⟩
  unfold B_law_alike
  repeat walk_at "mp"
  refine O_isL ha ?_
  repeat walk_at "mp"
  refine O_lenL ha ?_
  repeat walk_at "mp"
  refine O_lenL hb ?_
  repeat walk_at "mp"
  refine I_neg (by simp) ?_
  repeat walk_at "mp"
  refine O_lenL hb ?_
  repeat walk_at "mp"
  refine O_range (by omega) (O_itR ?_)
  rw [Int.toNat_natCast]
  refine forR (fun j m H' => H' = H ∧ ∃ x2, m = [some (.obj a), some (.obj b), x2]) ?_ ?_ _ _ ⟨rfl, none, rfl⟩
  · rintro m H' ⟨rfl, x2, rfl⟩
    repeat walk_at "mp"
    exact O_eqT (.val (.list (n := 39) ha hb (eql_same hok))) hQ
  · rintro j m H' hj ⟨rfl, x2, rfl⟩ K hK
    have hg : xs[j]? = some xs[j] := List.getElem?_eq_getElem hj
    have ox : Okv xs[j] := hok _ (List.getElem_mem hj)
    revert hg ox
    generalize xs[j] = x
    intro hg ox
    repeat walk_at "mp"
    refine O_subL hb (itemAt_nat rfl hg) ?_
    rcases ox with ⟨i, rfl, _⟩ | ⟨s, rfl, _⟩
    · repeat walk_at "mp"
      refine O_subL ha (itemAt_nat rfl hg) ?_
      repeat walk_at "mp"
      refine O_neT (.val (.bool _ _)) ?_
      refine I_neg (by decide +kernel) ?_
      repeat walk_at "mp"
      refine O_subL hb (itemAt_nat rfl hg) ?_
      repeat walk_at "mp"
      refine O_subL ha (itemAt_nat rfl hg) ?_
      repeat walk_at "mp"
      refine O_subL ha (itemAt_nat rfl hg) ?_
      repeat walk_at "mp"
      exact hK _ _ ⟨rfl, _, rfl⟩
    · repeat walk_at "mp"
      refine O_subL ha (itemAt_nat rfl hg) ?_
      repeat walk_at "mp"
      refine O_neT (.val (.bool _ _)) ?_
      refine I_neg (by decide +kernel) ?_
      repeat walk_at "mp"
      refine O_subL hb (itemAt_nat rfl hg) ?_
      repeat walk_at "mp"
      exact hK _ _ ⟨rfl, _, rfl⟩
theorem W_cut {g : Gl} {N : NPost} {R : Post} {X : SXPost} {m : Loc} {H : AHeap} {s : AS} {ss : ASs} (P : NPost) (h1 : ∀ K : NPost, (∀ m H, P m H → K m H) → awpS g s K R X m H) (h2 : ∀ m H, P m H → awpSs g ss N R X m H) :
    awpSs g (.cons s ss) N R X m H := h1 _ h2
theorem ExtB.over {H H₁ H₂ : AHeap} {t c : Addr} (hc : H c = none) (e : ExtB t H H₁) (b : ExtB c H₁ H₂) : ExtB t H H₂ := fun x o n h => b x o (ne_of h hc) (e x o n h)
theorem wanted_len {w : W} (h : w.ok) : (wantedS w).length ≤ 61 := by
  cases w <;> try (simp [wantedS]; done)
  rename_i n
  have : n ≤ 60 := h
  simp [wantedS]; omega
theorem kind_at {c : Addr} {H : AHeap} {r : Int} (h : H c = some (.list [.str "num", .str "text"])) (r0 : 0 ≤ r) (r1 : r < 2) : ∃ s : Str, itemAt [PV.str "num", PV.str "text"] r = some (.str s) := by
  have : r = 0 ∨ r = 1 := by omega
  rcases this with rfl | rfl
  · exact ⟨"num", rfl⟩
  · exact ⟨"text", rfl⟩
/-- a cut with a told follow-up -/
theorem W_cutC {g : Gl} {N : NPost} {R : Post} {X : SXPost} {m : Loc} {H : AHeap} {s : AS} {ss : ASs} (P : NPost → Prop) (h1 : ∀ K : NPost, P K → awpS g s K R X m H) (h2 : P fun m H => awpSs g ss N R X m H) :
    awpSs g (.cons s ss) N R X m H := h1 _ h2
theorem stack_ok : Ver spStack B_law_stack N_law_stack 3 := by
  intro ps H Q X h
  have hL : LIM = 1048576 := rfl
  obtain ⟨xs, t, w, n, rfl, hx, hw, ht, hn, hQ⟩ := h
  have hB : (2 : Nat) ^ 56 = 72057594037927936 := by decide
  have hB1 : (2 : Nat) ^ 58 = 288230376151711744 := by decide
  have hB' : (2 : Nat) ^ 59 = 576460752303423488 := by decide
  refine ⟨rfl, ?_⟩
  unfold B_law_stack
  repeat walk_at "mp"
  rw [C_draw]
  refine ⟨xs, t, _, n, rfl, hx, ht, by omega, by omega, fun r H₁ r0 r1 h₁ e₁ => ?_⟩
  refine W_cutC (fun K => ∀ (size : Int) (H₂ : AHeap), 0 ≤ size → size ≤ 61 → H₂ t = some (.tape (n + 2)) → ExtB t H H₂ → K [some (.fls xs), some (.obj t), some (.tup w.row), some (.int size), none, none, none] H₂) ?_ ?_
  · intro K hK
    repeat walk_at "mp"
    rw [C_draw]
    refine ⟨xs, t, _, n + 1, rfl, hx, h₁, by omega, by omega, fun r' H₂ r0' r1' h₂ e₂ => ?_⟩
    repeat walk_at "mp"
    split
    · repeat walk_at "mp"
      exact hK (r + 57) _ (by omega) (by omega) h₂ (e₁.trans e₂)
    · repeat walk_at "mp"
      exact hK r _ (by omega) (by omega) h₂ (e₁.trans e₂)
  intro size H₂ z0 z1 h₂ e₂
  obtain ⟨size, rfl⟩ := Int.eq_ofNat_of_zero_le z0
  repeat walk_at "mp"
  refine O_alloc fun c H₃ hc h₃ e₃ => ?_
  have hcH : H c = none := by
    cases q : H c with
    | none => rfl
    | some o => rw [e₂.at (by rintro rfl; rw [h₂] at hc; cases hc) q] at hc; cases hc
  have htc : t ≠ c := ne_of h₂ hc
  refine W_cutC (fun K => ∀ (x5 : Option PV) (vs : List PV) (n' : Nat) (H' : AHeap), n' ≤ n + 200 → H' t = some (.tape n') → H' c = some (.list vs) → (∀ v ∈ vs, Okv v) → vs.length ≤ 61 → ExtB t H H' → K [some (.fls xs), some (.obj t), some (.tup w.row), some (.int size), some (.obj c), x5, none] H') ?_ ?_
  · intro K hK
    repeat walk_at "mp"
    refine O_range (by omega) (O_itR ?_)
    rw [Int.toNat_natCast]
    refine forR (fun j m H' => ∃ x5 vs, m = [some (.fls xs), some (.obj t), some (.tup w.row), some (.int size), some (.obj c), x5, none] ∧ H' t = some (.tape (n + 2 + 3 * j)) ∧ H' c = some (.list vs) ∧ (∀ v ∈ vs, Okv v) ∧ vs.length = j ∧ ExtB t H H') ?_ ?_ _ _
      ⟨none, [], rfl, e₃.at h₂, h₃, by simp, rfl, e₂.trans (e₃.toB t)⟩
    · rintro m H' ⟨x5, vs, rfl, a1, a2, a3, a4, a5⟩
      exact hK x5 vs _ _ (by omega) a1 a2 a3 (by omega) a5
    · rintro j m H' hj ⟨x5, vs, rfl, a1, a2, a3, a4, a5⟩ K hK
      repeat walk_at "mp"
      refine ⟨⟨_, a2⟩, ?_⟩
      repeat walk_at "mp"
      refine O_alloc fun d H₄ hd h₄ e₄ => ?_
      repeat walk_at "mp"
      rw [C_draw]
      refine ⟨xs, t, _, n + 2 + 3 * j, rfl, hx, e₄.at a1, by omega, by omega, fun r' H₅ r0' r1' h₅ e₅ => ?_⟩
      have hd₅ := e₅.at (Ne.symm (ne_of a1 hd)) h₄
      obtain ⟨s, hs⟩ := kind_at hd₅ r0' r1'
      refine O_subL hd₅ hs ?_
      repeat walk_at "mp"
      rw [C_value]
      refine ⟨xs, t, _, n + 2 + 3 * j + 1, rfl, hx, h₅, by omega, fun v H₆ hv hk h₆ e₆ => ?_⟩
      repeat walk_at "mp"
      have hc₆ := e₆.at (Ne.symm htc) (e₅.at (Ne.symm htc) (e₄.at a2))
      refine O_append hc₆ (by omega) fun H₇ h₇ e₇ => ?_
      refine hK _ _ ⟨_, _, rfl, ?_, h₇, ?_, by simp [a4], ExtB.over hcH (((a5.trans (e₄.toB t)).trans e₅).trans e₆) e₇⟩
      · rw [e₇.at htc h₆]; congr 2
      · intro y hy
        rcases List.mem_append.mp hy with hy | hy
        · exact a3 y hy
        · rw [List.mem_singleton.mp hy]; exact hv
  intro x5 vs n' H₄ b0 b1 b2 b3 b4 b5
  refine W_cutC (fun K => ∀ (x6 : Option PV) (vs : List PV) (n' : Nat) (H' : AHeap), n' ≤ n + 400 → H' t = some (.tape n') → H' c = some (.list vs) → (∀ v ∈ vs, Okv v) → vs.length ≤ 122 → ExtB t H H' → K [some (.fls xs), some (.obj t), some (.tup w.row), some (.int size), some (.obj c), x5, x6] H') ?_ ?_
  · intro K hK
    repeat walk_at "mp"
    rw [C_wanted]
    refine ⟨w, rfl, hw, fun d H₅ hd h₅ e₅ => ?_⟩
    have hdt : d ≠ t := Ne.symm (ne_of b1 hd)
    have hdc : d ≠ c := Ne.symm (ne_of b2 hd)
    refine O_itL h₅ ?_
    have hwl := wanted_len hw
    refine forW_ind (fun rest m H' => ∃ (ss : List Str) (x6 : Option PV) (vs : List PV) (n' : Nat), rest = ss.map .str ∧ m = [some (.fls xs), some (.obj t), some (.tup w.row), some (.int size), some (.obj c), x5, x6] ∧ n' + 3 * ss.length ≤ n + 400 ∧ H' t = some (.tape n') ∧ H' c = some (.list vs) ∧ H' d = some (.list ((wantedS w).map .str)) ∧ (∀ v ∈ vs, Okv v) ∧ vs.length + ss.length ≤ 122 ∧ ExtB t H H') ?_ ?_ _ _ _
      ⟨_, none, vs, n', rfl, rfl, by omega, e₅.at b1, e₅.at b2, h₅, b3, by omega, b5.trans (e₅.toB t)⟩
    · rintro m H' ⟨ss, x6, vs, n', hr, rfl, a1, a2, a3, a4, a5, a6, a7⟩
      exact ⟨a4, hK x6 vs n' _ (by omega) a2 a3 a5 (by omega) a7⟩
    · rintro y ys m H' ⟨ss, x6, vs, n', hr, rfl, a1, a2, a3, a4, a5, a6, a7⟩
      cases ss with
      | nil => cases hr
      | cons s ss =>
      cases hr
      simp only [List.length_cons] at a1 a6
      refine ⟨a4, fun K hK => ?_⟩
      refine W_cutC (fun K => ∀ (k : Str) (n'' : Nat) (H'' : AHeap), n'' ≤ n' + 1 → H'' t = some (.tape n'') → H'' c = some (.list vs) → H'' d = some (.list ((wantedS w).map .str)) → ExtB t H H'' → K [some (.fls xs), some (.obj t), some (.tup w.row), some (.int size), some (.obj c), x5, some (.str k)] H'') ?_ ?_
      · intro K hK
        repeat walk_at "mp"
        split
        · repeat walk_at "mp"
          refine O_alloc fun f H₆ hf h₆ e₆ => ?_
          repeat walk_at "mp"
          rw [C_draw]
          refine ⟨xs, t, _, n', rfl, hx, e₆.at a2, by omega, by omega, fun r' H₇ r0' r1' h₇ e₇ => ?_⟩
          have hf₇ := e₇.at (Ne.symm (ne_of a2 hf)) h₆
          obtain ⟨k, hk⟩ := kind_at hf₇ r0' r1'
          refine O_subL hf₇ hk ?_
          repeat walk_at "mp"
          exact hK k (n' + 1) _ (by omega) (h₇) (e₇.at (Ne.symm htc) (e₆.at a3)) (e₇.at hdt (e₆.at a4)) ((a7.trans (e₆.toB t)).trans e₇)
        · repeat walk_at "mp"
          rw [C_draw]
          refine ⟨xs, t, _, n', rfl, hx, a2, by omega, by omega, fun r' H₇ r0' r1' h₇ e₇ => ?_⟩
          repeat walk_at "mp"
          split
          · repeat walk_at "mp"
            refine O_alloc fun f H₆ hf h₆ e₆ => ?_
            repeat walk_at "mp"
            obtain ⟨k, hk⟩ := kind_at h₆ (r := if (s == ("num" : Str)) then 1 else 0) (by split <;> omega) (by split <;> omega)
            refine O_subL h₆ hk ?_
            repeat walk_at "mp"
            exact hK k (n' + 1) _ (by omega) (e₆.at h₇) (e₆.at (e₇.at (Ne.symm htc) a3)) (e₆.at (e₇.at hdt a4)) ((a7.trans e₇).trans (e₆.toB t))
          · repeat walk_at "mp"
            exact hK s (n' + 1) _ (by omega) (h₇) (e₇.at (Ne.symm htc) a3) (e₇.at hdt a4) (a7.trans e₇)
      · intro k n'' H'' c1 c2 c3 c4 c5
        repeat walk_at "mp"
        refine ⟨⟨_, c3⟩, ?_⟩
        repeat walk_at "mp"
        rw [C_value]
        refine ⟨xs, t, _, n'', rfl, hx, c2, by omega, fun v H₆ hv hk h₆ e₆ => ?_⟩
        repeat walk_at "mp"
        refine O_append (e₆.at (Ne.symm htc) c3) (by omega) fun H₇ h₇ e₇ => ?_
        repeat walk_at "mp"
        refine hK _ _ ⟨ss, _, _, n'' + 2, rfl, rfl, by omega, e₇.at htc h₆, h₇, e₇.at hdc (e₆.at hdt c4), ?_, by simp; omega, ExtB.over hcH (c5.trans e₆) e₇⟩
        intro y hy
        rcases List.mem_append.mp hy with hy | hy
        · exact a5 y hy
        · rw [List.mem_singleton.mp hy]; exact hv
  intro x6 vs n' H₅ b0 b1 b2 b3 b4 b5
  refine W_cutC (fun K => ∀ (vs : List PV) (n' : Nat) (H' : AHeap), n' ≤ n + 401 → H' t = some (.tape n') → H' c = some (.list vs) → (∀ v ∈ vs, Okv v) → vs.length ≤ 122 → ExtB t H H' → K [some (.fls xs), some (.obj t), some (.tup w.row), some (.int size), some (.obj c), x5, x6] H') ?_ ?_
  · intro K hK
    repeat walk_at "mp"
    refine O_lenL b2 ?_
    repeat walk_at "mp"
    split
    · rename_i hgt
      have hgt' : 1 < vs.length := by simp at hgt; omega
      repeat walk_at "mp"
      rw [C_draw]
      refine ⟨xs, t, _, n', rfl, hx, b1, by omega, by omega, fun r' H₇ r0' r1' h₇ e₇ => ?_⟩
      have c2 := e₇.at (Ne.symm htc) b2
      repeat walk_at "mp"
      split
      · repeat walk_at "mp"
        refine O_lenL c2 ?_
        repeat walk_at "mp"
        have hg : vs[vs.length - 2]? = some vs[vs.length - 2] := List.getElem?_eq_getElem (by omega)
        refine O_subL c2 (itemAt_nat (n := vs.length - 2) (by omega) hg) ?_
        repeat walk_at "mp"
        refine O_lenL c2 ?_
        repeat walk_at "mp"
        refine O_storeL c2 (by omega) (by omega) fun H₈ h₈ e₈ => ?_
        refine hK _ (n' + 1) _ (by omega) (e₈.at htc h₇) h₈ ?_ (by simpa using b4) (ExtB.over hcH (b5.trans e₇) e₈)
        intro y hy
        rcases List.mem_or_eq_of_mem_set hy with hy | rfl
        · exact b3 y hy
        · exact b3 _ (List.getElem_mem _)
      · repeat walk_at "mp"
        exact hK vs (n' + 1) _ (by omega) h₇ c2 b3 b4 (b5.trans e₇)
    · repeat walk_at "mp"
      exact hK vs n' _ (by omega) b1 b2 b3 b4 b5
  clear b0 b1 b2 b3 b4 b5
  intro vs n' H₆ b0 b1 b2 b3 b4 b5
  repeat walk_at "mp"
  rw [C_draw]
  refine ⟨xs, t, _, n', rfl, hx, b1, by omega, by omega, fun r' H₇ r0' r1' h₇ e₇ => ?_⟩
  have c2 := e₇.at (Ne.symm htc) b2
  repeat walk_at "mp"
  split
  · repeat walk_at "mp"
    refine O_lenL c2 ?_
    repeat walk_at "mp"
    rw [C_draw]
    refine ⟨xs, t, _, n' + 1, rfl, hx, h₇, by omega, by omega, fun z H₈ z0 z1 h₈ e₈ => ?_⟩
    refine O_fromL (e₈.at (Ne.symm htc) c2) fun d H₉ hd h₉ e₉ => ?_
    repeat walk_at "mp"
    have hdH : H d = none := by
      cases q : H d with
      | none => rfl
      | some o => rw [((b5.trans e₇).trans e₈).at (by rintro rfl; rw [h₈] at hd; cases hd) q] at hd; cases hd
    refine hQ _ _ _ hdH h₉ (fun v hv => b3 v (List.mem_of_mem_drop hv)) (by simp; omega) (((b5.trans e₇).trans e₈).trans (e₉.toB t))
  · repeat walk_at "mp"
    exact hQ _ _ _ hcH c2 b3 (by omega) (b5.trans e₇)
theorem show_len {i : Int} (h0 : 0 ≤ i) (h1 : i < 1000000000) : (Str.ofString (toString i)).length ≤ 60 := by
  obtain ⟨n, rfl⟩ := Int.eq_ofNat_of_zero_le h0
  rw [Str.ofString_eq_toList]
  show (((toString (n : Int)).toList.map Char.toNat).toArray).size ≤ 60
  have e : toString (n : Int) = n.repr := rfl
  rw [e]
  simp only [List.size_toArray, List.length_map]
  have h2 : n.repr.length ≤ 60 := by
    rw [Nat.length_repr_le_iff (by omega)]
    have : (10 : Nat) ^ 60 = 1000000000000000000000000000000000000000000000000000000000000 := by decide
    omega
  rw [String.length_toList]; exact h2
theorem cut60_len (s : Str) : (cut60 s).length ≤ 60 := by
  show (((s.cps.toList.take (cutAt s.length 60))).toArray).size ≤ 60
  have : cutAt s.length 60 ≤ 60 := by unfold cutAt; rw [if_pos (by omega)]; omega
  simp; omega
theorem calc2_okv {w : W} {x y v : PV} (h : calc2 w x y = some v) : Okv v := by
  rcases calc2_inv h with ⟨a, b, rfl, rfl, ⟨_, rfl⟩ | ⟨_, rfl⟩ | ⟨_, rfl⟩⟩ | ⟨s, u, rfl, rfl, _, rfl⟩
  · exact .inl ⟨_, rfl, mod_lt (by omega)⟩
  · exact .inl ⟨_, rfl, mod_lt (by omega)⟩
  · exact .inl ⟨_, rfl, by split <;> omega, by split <;> omega⟩
  · exact .inr ⟨_, rfl, cut60_len _⟩
theorem calc1_okv {w : W} {x v : PV} (ox : Okv x) (h : calc1 w x = some v) : Okv v := by
  rcases calc1_inv h with ⟨s, rfl, _, rfl⟩ | ⟨i, rfl, _, rfl⟩
  · have := okv_str ox
    exact .inl ⟨_, rfl, by omega, by omega⟩
  · have := okv_int ox
    exact .inr ⟨_, rfl, show_len this.1 this.2⟩
theorem res_okv {st ys : List PV} {w : W} (hw : w.ok) (hst : ∀ v ∈ st, Okv v) (h : resS st w = .ok ys) : (∀ v ∈ ys, Okv v) ∧ ys.length ≤ st.length + 1 := by
  have tk : ∀ ts, takesS w = some ts → (∀ v ∈ ys, Okv v) ∧ ys.length ≤ st.length + 1 := fun ts ht => by
    obtain ⟨pre, v, rfl, ⟨x, y, rfl, hc⟩ | ⟨x, rfl, hc⟩⟩ := res_ok ht hst h
    · refine ⟨fun z hz => ?_, by simp⟩
      rcases List.mem_append.mp hz with hz | hz
      · exact hst z (by simp [hz])
      · rw [List.mem_singleton.mp hz]; exact calc2_okv hc
    · refine ⟨fun z hz => ?_, by simp⟩
      rcases List.mem_append.mp hz with hz | hz
      · exact hst z (by simp [hz])
      · rw [List.mem_singleton.mp hz]; exact calc1_okv (hst x (by simp)) hc
  have one : ∀ v, Okv v → (∀ z ∈ st ++ [v], Okv z) ∧ (st ++ [v]).length ≤ st.length + 1 := fun v hv => by
    refine ⟨fun z hz => ?_, by simp⟩
    rcases List.mem_append.mp hz with hz | hz
    · exact hst z hz
    · rw [List.mem_singleton.mp hz]; exact hv
  cases w with
  | num i => cases h; exact one _ (.inl ⟨i, rfl, hw⟩)
  | text s => cases h; exact one _ (.inr ⟨s, rfl, hw⟩)
  | copy n =>
    simp only [resS] at h
    split at h
    · rename_i v hv
      cases h
      exact one _ (hst v (List.mem_reverse.mp (List.mem_of_getElem? hv)))
    · cases h
  | swap =>
    simp only [resS] at h
    split at h
    · rename_i b a r hq
      cases h
      have hs := rev_cons hq
      subst hs
      refine ⟨fun z hz => hst z ?_, by simp⟩
      simp at hz ⊢
      rcases hz with hz | hz | hz
      · exact .inl hz
      · exact .inr (.inr hz)
      · exact .inr (.inl hz)
    · cases h
  | drop =>
    simp only [resS] at h
    split at h
    · rename_i b r hq
      cases h
      have hs := rev_cons hq
      subst hs
      exact ⟨fun z hz => hst z (by simp at hz ⊢; exact .inl hz), by simp; omega⟩
    · cases h
  | add => exact tk _ rfl
  | mul => exact tk _ rfl
  | less => exact tk _ rfl
  | join => exact tk _ rfl
  | long => exact tk _ rfl
  | «show» => exact tk _ rfl

theorem lack_take {pre us ws : List Str} (h : us.length = ws.length) : lackS (pre ++ us) ws = if (ws.zip us).any (fun p => !(p.1 == ("" : Str)) && !(p.1 == p.2)) then ("kind" : Str) else ("" : Str) := by
  unfold lackS
  rw [if_neg (by simp; omega)]
  rw [show (pre ++ us).length - ws.length = pre.length by simp; omega, List.drop_left]
theorem lack_few {ks ws : List Str} (h : ks.length < ws.length) : lackS ks ws = "empty" := by unfold lackS; rw [if_pos h]
theorem lack_free {ks : List Str} {n : Nat} (h : n ≤ ks.length) : lackS ks (List.replicate n "") = "" := by
  refine lack_none (by simpa using h) fun i x y hx _ => .inl ?_
  have := List.mem_of_getElem? hx
  exact (List.mem_replicate.mp this).2
noncomputable def resW : Except Nat (List PV) → Str
  | .ok _ => "" | .error 1 => "empty" | .error _ => "kind"
theorem lack_res {st : List PV} {w : W} (hst : ∀ v ∈ st, Okv v) : lackS (st.map kindS) (wantedS w) = resW (resS st w) := by
  have tk : ∀ ts, takesS w = some ts → wantedS w = ts → lackS (st.map kindS) (wantedS w) = resW (resS st w) := fun ts ht hw => by
    by_cases hl : st.length < ts.length
    · rw [res_few ht hl, hw, lack_few (by simpa using hl)]; rfl
    · obtain ⟨pre, vs, rfl, hv, hp⟩ := split_at (st := st) (k := ts.length) (by omega)
      have ok : ∀ v ∈ vs, Okv v := fun v hm => hst v (by simp [hm])
      rw [hw, List.map_append, lack_take (by simpa using hv)]
      have hts : ts = (["num", "num"] : List Str) ∨ ts = (["text", "text"] : List Str) ∨ ts = (["text"] : List Str) ∨ ts = (["num"] : List Str) := by
        cases w <;> cases ht <;> simp
      have hz : (if (ts.zip (vs.map kindS)).any (fun p => !(p.1 == ("" : Str)) && !(p.1 == p.2)) then ("kind" : Str) else "") = if vs.map kindS = ts then ("" : Str) else ("kind" : Str) := by
        rcases hts with rfl | rfl | rfl | rfl
        · obtain ⟨x, y, rfl⟩ := rev_two hv
          have ox := ok x (by simp)
          have oy := ok y (by simp)
          rcases ox with ⟨i, rfl, _⟩ | ⟨s, rfl, _⟩ <;> rcases oy with ⟨j, rfl, _⟩ | ⟨u, rfl, _⟩ <;> kernel_rfl
        · obtain ⟨x, y, rfl⟩ := rev_two hv
          have ox := ok x (by simp)
          have oy := ok y (by simp)
          rcases ox with ⟨i, rfl, _⟩ | ⟨s, rfl, _⟩ <;> rcases oy with ⟨j, rfl, _⟩ | ⟨u, rfl, _⟩ <;> kernel_rfl
        · obtain ⟨x, rfl⟩ := rev_one hv
          have ox := ok x (by simp)
          rcases ox with ⟨i, rfl, _⟩ | ⟨s, rfl, _⟩ <;> kernel_rfl
        · obtain ⟨x, rfl⟩ := rev_one hv
          have ox := ok x (by simp)
          rcases ox with ⟨i, rfl, _⟩ | ⟨s, rfl, _⟩ <;> kernel_rfl
      rw [hz]
      rcases res_takes (pre := pre) (vs := vs) ht hv ok with ⟨hne, hr⟩ | ⟨he, v, hr, _⟩
      · rw [hr, if_neg hne]; rfl
      · rw [hr, if_pos he]; rfl
  have free : ∀ n, wantedS w = List.replicate n ("" : Str) → ((st.length < n ∧ resS st w = .error 1) ∨ (n ≤ st.length ∧ ∃ ys, resS st w = .ok ys)) → lackS (st.map kindS) (wantedS w) = resW (resS st w) := fun n hw hc => by
    rw [hw]
    rcases hc with ⟨hl, hr⟩ | ⟨hl, ys, hr⟩
    · rw [hr, lack_few (by simpa using hl)]; rfl
    · rw [hr, lack_free (by simpa using hl)]; rfl
  cases w with
  | num i => exact free 0 rfl (.inr ⟨by omega, _, rfl⟩)
  | text s => exact free 0 rfl (.inr ⟨by omega, _, rfl⟩)
  | copy n =>
    refine free (n + 1) rfl ?_
    simp only [resS]
    by_cases hl : st.length < n + 1
    · left
      refine ⟨hl, ?_⟩
      rw [List.getElem?_eq_none (by simp; omega)]
    · right
      refine ⟨by omega, ?_⟩
      rw [List.getElem?_eq_getElem (by simp; omega)]
      exact ⟨_, rfl⟩
  | swap =>
    refine free 2 rfl ?_
    by_cases hl : st.length < 2
    · left
      refine ⟨hl, ?_⟩
      match st, hl with
      | [], _ => rfl
      | [a], _ => rfl
      | _ :: _ :: _, h => simp at h; omega
    · right
      refine ⟨by omega, ?_⟩
      obtain ⟨pre, vs, rfl, hv, hp⟩ := split_at (st := st) (k := 2) (by omega)
      obtain ⟨x, y, rfl⟩ := rev_two hv
      exact ⟨pre ++ [y, x], by simp [resS]⟩
  | drop =>
    refine free 1 rfl ?_
    by_cases hl : st.length < 1
    · left
      refine ⟨hl, ?_⟩
      match st, hl with
      | [], _ => rfl
      | _ :: _, h => simp at h
    · right
      refine ⟨by omega, ?_⟩
      obtain ⟨pre, vs, rfl, hv, hp⟩ := split_at (st := st) (k := 1) (by omega)
      obtain ⟨x, rfl⟩ := rev_one hv
      exact ⟨pre, by simp [resS]⟩
  | add => exact tk _ rfl rfl
  | mul => exact tk _ rfl rfl
  | less => exact tk _ rfl rfl
  | join => exact tk _ rfl rfl
  | long => exact tk _ rfl rfl
  | «show» => exact tk _ rfl rfl
set_option maxHeartbeats 2000000 in
theorem law_ok : Ver spLaw B_law N_law 1 := by
  intro ps H Q X h
  have hL : LIM = 1048576 := rfl
  obtain ⟨xs, rfl, hx, hQ⟩ := h
  have hB : (2 : Nat) ^ 56 = 72057594037927936 := by decide
  have hB1 : (2 : Nat) ^ 57 = 144115188075855872 := by decide
  refine ⟨rfl, ?_⟩
  unfold B_law
  repeat walk_at "mp"
  refine O_alloc fun t H₁ ht h₁ e₁ => ?_
  repeat walk_at "mp"
  rw [C_plain]
  refine ⟨xs, t, 0, rfl, hx, h₁, by omega, fun w n' H₂ hw hn' h₂ e₂ => ?_⟩
  repeat walk_at "mp"
  rw [C_stack]
  refine ⟨xs, t, w, n', rfl, hx, hw, h₂, by omega, fun c st H₃ hc h₃ hst hlen e₃ => ?_⟩
  repeat walk_at "mp"
  refine O_itL h₃ ?_
  refine compW_ind (fun rest acc H' => ∃ us vs : List PV, st = us ++ vs ∧ rest = vs ∧ acc = us.map (fun v => PV.str (kindS v)) ∧ Ext H₃ H') ?_ ?_ _ _ _ ⟨[], st, rfl, rfl, rfl, Ext.refl _⟩
  · rintro acc H₄ ⟨us, vs, hs, rfl, rfl, e₄⟩
    rw [List.append_nil] at hs
    subst hs
    refine ⟨e₄.at h₃, ?_⟩
    refine O_alloc fun d H₅ hd h₅ e₅ => ?_
    have e₃₅ := e₄.trans e₅
    repeat walk_at "mp"
    rw [C_wanted]
    refine ⟨w, rfl, hw, fun f H₆ hf h₆ e₆ => ?_⟩
    have e₃₆ := e₃₅.trans e₆
    repeat walk_at "mp"
    rw [C_lack]
    refine ⟨d, f, st.map kindS, wantedS w, rfl, ?_, h₆, by simp; omega, by have := wanted_len hw; omega, ?_⟩
    · rw [e₆.at h₅, List.map_map]; rfl
    rw [lack_res hst]
    repeat walk_at "mp"
    refine O_listL (e₃₆.at h₃) fun z H₇ hz h₇ e₇ => ?_
    have e₃₇ := e₃₆.trans e₇
    have s₇ := e₃₇.at h₃
    have hcz : c ≠ z := ne_of (e₃₆.at h₃) hz
    repeat walk_at "mp"
    rw [C_told]
    refine ⟨z, st, w, rfl, hw, h₇, hst, by omega, ?_⟩
    cases hr : resS st w with
    | error e =>
      intro H₈ e₈
      have hwd : resW (.error e) = if e = 1 then ("empty" : Str) else ("kind" : Str) := by
        rcases res_err hr with rfl | rfl <;> rfl
      rw [hwd]
      repeat walk_at "mp"
      refine I_pos (by rcases res_err hr with rfl | rfl <;> decide +kernel) ?_
      repeat walk_at "mp"
      refine I_pos (by simp) ?_
      repeat walk_at "mp"
      rw [C_any]
      refine ⟨z, st, w, rfl, hw, e₈.at h₇, hst, by omega, ?_⟩
      rw [hr]
      intro H₉ e₉
      repeat walk_at "mp"
      rw [C_alike]
      exact ⟨z, c, st, rfl, e₉.at (e₈.at h₇), e₉.at (e₈.at s₇), hst, by omega, hQ _⟩
    | ok ys =>
      intro b H₈ hb h₈ e₈
      obtain ⟨hys, hyl⟩ := res_okv hw hst hr
      repeat walk_at "mp"
      refine I_neg (by show ¬((!((Str.ofString "") == (Str.ofString ""))) = true); decide +kernel) ?_
      repeat walk_at "mp"
      rw [C_behind]
      refine ⟨c, st, w, rfl, hw, e₈.at s₇, hst, by omega, ?_⟩
      rw [hr]
      intro y H₉ hy h₉ e₉
      repeat walk_at "mp"
      rw [C_alike]
      refine ⟨b, y, ys, rfl, e₉.at h₈, h₉, hys, by omega, ?_⟩
      repeat walk_at "mp"
      refine ⟨⟨_, e₉.at h₈⟩, ?_⟩
      repeat walk_at "mp"
      refine O_append (e₉.at h₈) (by omega) fun H₁₀ h₁₀ e₁₀ => ?_
      repeat walk_at "mp"
      rw [C_alike]
      have hcb : c ≠ b := ne_of s₇ hb
      have hzb : z ≠ b := ne_of h₇ hb
      exact ⟨z, c, st, rfl, e₁₀.at hzb (e₉.at (e₈.at h₇)), e₁₀.at hcb (e₉.at (e₈.at s₇)), hst, by omega, hQ _⟩
  · rintro x rest acc H₄ ⟨us, vs, hs, rfl, rfl, e₄⟩
    refine ⟨e₄.at h₃, fun K hK => ?_⟩
    have ox : Okv x := hst x (by rw [hs]; simp)
    repeat walk_at "mp"
    refine O_alloc fun d H₅ hd h₅ e₅ => ?_
    have fin : ∀ H', Ext H₃ H' → K [.str (kindS x)] H' := fun H' e => hK _ _ ⟨us ++ [x], rest, by rw [hs]; simp, rfl, by simp, e⟩
    rcases ox with ⟨i, rfl, _⟩ | ⟨s, rfl, _⟩
    · repeat walk_at "mp"
      refine O_subL h₅ (itemAt_nat (n := 0) rfl rfl) ?_
      exact fin _ (e₄.trans e₅)
    · repeat walk_at "mp"
      refine O_subL h₅ (itemAt_nat (n := 1) rfl rfl) ?_
      exact fin _ (e₄.trans e₅)
end Mine
end
section
open PySem PySem.W PySem.Calls PyProof.Rows
namespace Mine
set_option autoImplicit false
set_option maxRecDepth 100000
section
variable {prog : Program} {w : World} {B : Heap} {mg mb : Str → Option Value} {loose : List Str} {mean : ExcName → Option Value}
noncomputable def cxL (prog : Program) (w : World) (B : Heap) : Cx := { prog := prog, w := w, B := B, cls := fun c => csL[c]?, icls := fun _ => none, ga := mainGlobals, ba := builtinsNs }
theorem ci_BOUND (P : Params) : intChk (_root_.Mine.hd.heap_39 P) "BOUND" 1000000000 = true := by kernel_rfl
theorem ci_LONGEST (P : Params) : intChk (_root_.Mine.hd.heap_39 P) "LONGEST" 60 = true := by kernel_rfl
theorem cr_TAKES (P : Params) : kmg (_root_.Mine.hd.heap_39 P) "TAKES" = some (.ref (refAt (_root_.Mine.hd.heap_39 P) "TAKES")) := by kernel_rfl
theorem cl_TAKES (P : Params) : (_root_.Mine.hd.heap_39 P).lookup (refAt (_root_.Mine.hd.heap_39 P) "TAKES") = some { cls := .type "dict", data := .dict (entV P (dictL (_root_.Mine.hd.heap_39 P) (refAt (_root_.Mine.hd.heap_39 P) "TAKES"))) (dictEp (_root_.Mine.hd.heap_39 P) (refAt (_root_.Mine.hd.heap_39 P) "TAKES")) } := by kernel_rfl
theorem ck_TAKES (P : Params) : (dictL (_root_.Mine.hd.heap_39 P) (refAt (_root_.Mine.hd.heap_39 P) "TAKES")).map (·.1) = (takes01.map fun e => (e.1, PV.tup (e.2.map .str))).map (·.1) := by kernel_rfl
theorem cn_TAKES : ((takes01.map fun e => (e.1, PV.tup (e.2.map .str))).map (·.1)).Nodup := by decide +kernel
theorem cv_TAKES (P : Params) : (((dictL (_root_.Mine.hd.heap_39 P) (refAt (_root_.Mine.hd.heap_39 P) "TAKES")).zip (takes01.map fun e => (e.1, PV.tup (e.2.map .str)))).all fun e => valChk (_root_.Mine.hd.heap_39 P) e.1.2.2 e.2.2) = true := by kernel_rfl
theorem cokL (X : (_root_.Mine.hd.heap_39 w.params).In B) (T : Top _root_.Mine.hd.view_39 loose mean mg mb B) : Cok (cxL prog w B) g01 [] mg mb 0 := by
  have hmg := kmg_eq X (k1 _) T.g
  refine cok_base (K := _root_.Mine.hd.heap_39 w.params) (cs := csL) X (k1 _) T rfl rfl rfl (k3 _) (k4 _) (k5 _) k6 fun x q h => ?_
  have hx := lookup_mem (show cons01.lookup x = some q from h)
  simp only [cons01, List.mem_cons, List.not_mem_nil, or_false, Prod.mk.injEq] at hx
  rcases hx with ⟨rfl, rfl⟩ | ⟨rfl, rfl⟩ | ⟨rfl, rfl⟩
  · exact int_of hmg (ci_BOUND _)
  · exact int_of hmg (ci_LONGEST _)
  · exact fdt_ofV (cx := cxL prog w B) X hmg (cr_TAKES _) (cl_TAKES _) (ck_TAKES _) cn_TAKES (cv_TAKES _) fun _ _ e => e
theorem fc_law_draw : fnChk [] N_law_draw 3 5 S_law_draw B_law_draw = true := by decide +kernel
theorem fc_law_words : fnChk ["_law_draw"] N_law_words 2 3 S_law_words B_law_words = true := by decide +kernel
theorem fc_law_value : fnChk ["_law_words", "_law_draw"] N_law_value 3 5 S_law_value B_law_value = true := by decide +kernel
theorem fc_law_wanted : fnChk ["_law_value", "_law_words", "_law_draw"] N_law_wanted 1 3 S_law_wanted B_law_wanted = true := by decide +kernel
theorem fc_law_lack : fnChk ["_law_wanted", "_law_value", "_law_words", "_law_draw"] N_law_lack 2 4 S_law_lack B_law_lack = true := by decide +kernel
theorem fc_law_plain_row : fnChk ["_law_lack", "_law_wanted", "_law_value", "_law_words", "_law_draw"] N_law_plain_row 2 4 S_law_plain_row B_law_plain_row = true := by decide +kernel
theorem fc_need : fnChk ["_law_plain_row", "_law_lack", "_law_wanted", "_law_value", "_law_words", "_law_draw"] N_need 2 2 S_need B_need = true := by decide +kernel
theorem fc_kinds_of : fnChk ["need", "_law_plain_row", "_law_lack", "_law_wanted", "_law_value", "_law_words", "_law_draw"] N_kinds_of 1 3 S_kinds_of B_kinds_of = true := by decide +kernel
theorem fc_reckoned : fnChk ["kinds_of", "need", "_law_plain_row", "_law_lack", "_law_wanted", "_law_value", "_law_words", "_law_draw"] N_reckoned 2 2 S_reckoned B_reckoned = true := by decide +kernel
theorem fc_law_reckoned : fnChk ["reckoned", "kinds_of", "need", "_law_plain_row", "_law_lack", "_law_wanted", "_law_value", "_law_words", "_law_draw"] N_law_reckoned 3 3 S_law_reckoned B_law_reckoned = true := by decide +kernel
theorem fc_done : fnChk ["_law_reckoned", "reckoned", "kinds_of", "need", "_law_plain_row", "_law_lack", "_law_wanted", "_law_value", "_law_words", "_law_draw"] N_done 2 6 S_done B_done = true := by decide +kernel
theorem fc_law_told : fnChk ["done", "_law_reckoned", "reckoned", "kinds_of", "need", "_law_plain_row", "_law_lack", "_law_wanted", "_law_value", "_law_words", "_law_draw"] N_law_told 2 2 S_law_told B_law_told = true := by decide +kernel
theorem fc_law_any : fnChk ["_law_told", "done", "_law_reckoned", "reckoned", "kinds_of", "need", "_law_plain_row", "_law_lack", "_law_wanted", "_law_value", "_law_words", "_law_draw"] N_law_any 2 4 S_law_any B_law_any = true := by decide +kernel
theorem fc_law_behind : fnChk ["_law_any", "_law_told", "done", "_law_reckoned", "reckoned", "kinds_of", "need", "_law_plain_row", "_law_lack", "_law_wanted", "_law_value", "_law_words", "_law_draw"] N_law_behind 2 4 S_law_behind B_law_behind = true := by decide +kernel
theorem fc_law_alike : fnChk ["_law_behind", "_law_any", "_law_told", "done", "_law_reckoned", "reckoned", "kinds_of", "need", "_law_plain_row", "_law_lack", "_law_wanted", "_law_value", "_law_words", "_law_draw"] N_law_alike 2 3 S_law_alike B_law_alike = true := by decide +kernel
theorem fc_law_stack : fnChk ["_law_alike", "_law_behind", "_law_any", "_law_told", "done", "_law_reckoned", "reckoned", "kinds_of", "need", "_law_plain_row", "_law_lack", "_law_wanted", "_law_value", "_law_words", "_law_draw"] N_law_stack 3 7 S_law_stack B_law_stack = true := by decide +kernel
theorem fc_law : fnChk ["_law_stack", "_law_alike", "_law_behind", "_law_any", "_law_told", "done", "_law_reckoned", "reckoned", "kinds_of", "need", "_law_plain_row", "_law_lack", "_law_wanted", "_law_value", "_law_words", "_law_draw"] N_law 1 8 S_law B_law = true := by decide +kernel
theorem cokA (X : (_root_.Mine.hd.heap_39 w.params).In B) (T : Top _root_.Mine.hd.view_39 loose mean mg mb B) : Cok (cxL prog w B) g01 ["_law_stack", "_law_alike", "_law_behind", "_law_any", "_law_told", "done", "_law_reckoned", "reckoned", "kinds_of", "need", "_law_plain_row", "_law_lack", "_law_wanted", "_law_value", "_law_words", "_law_draw"] mg mb 16 := by
  have c0 := cokL (prog := prog) X T
  obtain ⟨d0, hd0, n0, b0, s0, a0⟩ := R_law_draw
  have c1 := c0.addT T rfl rfl hd0 n0 b0 s0 a0 fc_law_draw (fun h => by rw [C_draw] at h; exact draw_ok h)
  obtain ⟨d1, hd1, n1, b1, s1, a1⟩ := R_law_words
  have c2 := c1.addT T rfl rfl hd1 n1 b1 s1 a1 fc_law_words (fun h => by rw [C_words] at h; exact words_ok h)
  obtain ⟨d2, hd2, n2, b2, s2, a2⟩ := R_law_value
  have c3 := c2.addT T rfl rfl hd2 n2 b2 s2 a2 fc_law_value (fun h => by rw [C_value] at h; exact value_ok h)
  obtain ⟨d3, hd3, n3, b3, s3, a3⟩ := R_law_wanted
  have c4 := c3.addT T rfl rfl hd3 n3 b3 s3 a3 fc_law_wanted (fun h => by rw [C_wanted] at h; exact wanted_ok h)
  obtain ⟨d4, hd4, n4, b4, s4, a4⟩ := R_law_lack
  have c5 := c4.addT T rfl rfl hd4 n4 b4 s4 a4 fc_law_lack (fun h => by rw [C_lack] at h; exact lack_ok h)
  obtain ⟨d5, hd5, n5, b5, s5, a5⟩ := R_law_plain_row
  have c6 := c5.addT T rfl rfl hd5 n5 b5 s5 a5 fc_law_plain_row (fun h => by rw [C_plain] at h; exact plain_ok h)
  obtain ⟨d6, hd6, n6, b6, s6, a6⟩ := R_need
  have c7 := c6.addT T rfl rfl hd6 n6 b6 s6 a6 fc_need (fun h => by rw [C_need] at h; exact need_ok h)
  obtain ⟨d7, hd7, n7, b7, s7, a7⟩ := R_kinds_of
  have c8 := c7.addT T rfl rfl hd7 n7 b7 s7 a7 fc_kinds_of (fun h => by rw [C_kinds] at h; exact kinds_ok h)
  obtain ⟨d8, hd8, n8, b8, s8, a8⟩ := R_reckoned
  have c9 := c8.addT T rfl rfl hd8 n8 b8 s8 a8 fc_reckoned (fun h => by rw [C_reck] at h; exact reck_ok h)
  obtain ⟨d9, hd9, n9, b9, s9, a9⟩ := R_law_reckoned
  have c10 := c9.addT T rfl rfl hd9 n9 b9 s9 a9 fc_law_reckoned (fun h => by rw [C_lreck] at h; exact lreck_ok h)
  obtain ⟨d10, hd10, n10, b10, s10, a10⟩ := R_done
  have c11 := c10.addT T rfl rfl hd10 n10 b10 s10 a10 fc_done (fun h => by rw [C_done] at h; exact done_ok h)
  obtain ⟨d11, hd11, n11, b11, s11, a11⟩ := R_law_told
  have c12 := c11.addT T rfl rfl hd11 n11 b11 s11 a11 fc_law_told (fun h => by rw [C_told] at h; exact told_ok h)
  obtain ⟨d12, hd12, n12, b12, s12, a12⟩ := R_law_any
  have c13 := c12.addT T rfl rfl hd12 n12 b12 s12 a12 fc_law_any (fun h => by rw [C_any] at h; exact any_ok h)
  obtain ⟨d13, hd13, n13, b13, s13, a13⟩ := R_law_behind
  have c14 := c13.addT T rfl rfl hd13 n13 b13 s13 a13 fc_law_behind (fun h => by rw [C_behind] at h; exact behind_ok h)
  obtain ⟨d14, hd14, n14, b14, s14, a14⟩ := R_law_alike
  have c15 := c14.addT T rfl rfl hd14 n14 b14 s14 a14 fc_law_alike (fun h => by rw [C_alike] at h; exact alike_ok h)
  obtain ⟨d15, hd15, n15, b15, s15, a15⟩ := R_law_stack
  have c16 := c15.addT T rfl rfl hd15 n15 b15 s15 a15 fc_law_stack (fun h => by rw [C_stack] at h; exact stack_ok h)
  exact c16
theorem finL {s : Shared} (X : (_root_.Mine.hd.heap_39 w.params).In s.heap) (T : Top _root_.Mine.hd.view_39 loose mean mg mb s.heap) {fa l : Addr} {items : Array Value} {ns : List Int} (hmg : mg "law" = some (.ref fa)) (il : s.heap.IsList l items) (ia : IntsAre items.toList ns) (hl : ns.length ≤ 100)
    {R : Result → Shared → Prop} (hR : ∀ h' tk, (∀ b o, s.heap.get? b = some o → h'.get? b = some o) → R (.ok (.ret (.bool true))) { s with heap := h', toks := tk }) : codeAny (model prog w) callerA (.call (.ref fa) ⟨[.ref l], []⟩) R s := by
  obtain ⟨d, hd, n1, b1, s1, a1⟩ := R_law
  have hL : LIM = 1048576 := rfl
  exact law_top (cx := cxL prog w s.heap) (cokA X T) T rfl rfl hd n1 b1 s1 a1 fc_law rfl hmg il ia (by omega) (by omega) (fun {Q} hQ => (law_ok (ps := [.fls ns]) (H := fun _ => none) (Q := Q) (X := fun _ _ => False) ⟨ns, rfl, hl, hQ⟩).2) hR
end

end Mine
end
open PySem PySem.W PyProof.Rows
set_option maxRecDepth 100000
set_option maxHeartbeats 8000000
theorem PySem.Challenge.cw_uf030026_01_holds : PySem.Challenge.rw_uf030026_01.Holds := by
  w_on
  refine holds_law (by kernel_rfl) fun said => ?_
  refine holds_open (q := Mine.hd.view_39) (loose := Mine.hd.loos) (Xt := Mine.hd.xt) (XP := XL Mine.hd.view_39 []) (Yf := Mine.hd.hook.obs) (Ya := Mine.hd.hook.val) (YP := Mine.hd.hook.says) Mine.hd.left (Hook.of Mine.hd.hook) (Hook.keeps Mine.hd.hook) (fun s e => xl_of s (Bool.and_eq_true_iff.mp e).1) XL.keeps (by rfl) (by rfl) (by rfl) (fun s e => recFacts_of (Bool.and_eq_true_iff.mp e).2) (by rfl) (by assumption) (by decide +kernel) ⟨rfl, rfl, rfl, rfl, rfl, by decide +kernel⟩ ?hw ?hc
  case hw => w_witness2
  case hc =>
    intro w s₀ s₁ mg mb G Y fa o pm cd doc dV kV ho hd hcd hD hmg hg args vals as hpre hlay hrd hwl hlo
    have KX := kIn_of Y
    refine Ground.open G ?_
    intro T B D TE TW
    wrow_args hpre hlay hrd hwl hlo
    all_goals (
      first | refine callC_kw (enter_call ?_) | refine enter_call ?_ | refine callC_kw (enter_callW ?_) | refine enter_callW ?_ | w_how
      )
    refine Mine.finL KX T hmg (by assumption) (by assumption) (by omega) fun h' tk hk => GoodW.toG ⟨.inl ⟨_, _, _, rfl, ?_, .bool true, ?_, ?_⟩, hk, rfl, hg⟩
    · intro cls; rfl
    · kernel_rfl
    · intro h; exact ⟨List.nodup_nil, fun a ha => nomatch ha⟩
