import PyProof.Rows.All
import Wide.All
import Open.Line
import OpenK.Peek
import OpenK.KDescr
import OpenK.KMake
import OpenK.KWalk
import KE.LcSums
import KE.KDictList
import KE.KTryMore
import KE.KIsAll
import KE.KEqDict
import Wide.FinOn
import Open.Boot
import PySem.Challenge.RW_uf030026_13
set_option Elab.async false
set_option maxHeartbeats 4000000
section
open PySem PySem.W PyProof.Rows
namespace Mine.hd
noncomputable def view_39 : Program := { PySem.Challenge.rw_uf030026_13.row.toRowW.1 with main := { PySem.Challenge.rw_uf030026_13.row.toRowW.1.main with body := PySem.Challenge.rw_uf030026_13.row.toRowW.1.main.body.filter fun s => match s with | .Assign [.Name x _] _ _ => !(x == Str.ofString "__name__") | _ => true } }
noncomputable def heap_39 : Params → Frag := fun P => [(2, { cls := Value.none, data := Data.dict #[] }), (3, { cls := Value.type "dict", data := Data.dict #[{ hash := PyData.keyHash P (Str.ofString "__name__"), key := Value.str (Str.ofString "__name__") 165, val := Value.str (Str.ofString "law_uf030026_13") 602 }, { hash := PyData.keyHash P (Str.ofString "__doc__"), key := Value.str (Str.ofString "__doc__") 166, val := Value.none }, { hash := PyData.keyHash P (Str.ofString "__package__"), key := Value.str (Str.ofString "__package__") 167, val := Value.none }, { hash := PyData.keyHash P (Str.ofString "__loader__"), key := Value.str (Str.ofString "__loader__") 168, val := Value.builtin "__main__.__loader__#opaque" }, { hash := PyData.keyHash P (Str.ofString "__spec__"), key := Value.str (Str.ofString "__spec__") 169, val := Value.none }, { hash := PyData.keyHash P (Str.ofString "__annotations__"), key := Value.str (Str.ofString "__annotations__") 170, val := Value.ref 6 }, { hash := PyData.keyHash P (Str.ofString "__builtins__"), key := Value.str (Str.ofString "__builtins__") 171, val := Value.ref 4 }, { hash := PyData.keyHash P (Str.ofString "__file__"), key := Value.str (Str.ofString "__file__") 173, val := Value.str (Str.ofString "/claim/cut.py") 172 }, { hash := PyData.keyHash P (Str.ofString "__cached__"), key := Value.str (Str.ofString "__cached__") 174, val := Value.none }, { hash := PyData.keyHash P (Str.ofString "StackError"), key := Value.str (Str.ofString "StackError") 206, val := Value.ref 24 }, { hash := PyData.keyHash P (Str.ofString "Empty"), key := Value.str (Str.ofString "Empty") 222, val := Value.ref 37 }, { hash := PyData.keyHash P (Str.ofString "WrongKind"), key := Value.str (Str.ofString "WrongKind") 238, val := Value.ref 49 }, { hash := PyData.keyHash P (Str.ofString "NoBlock"), key := Value.str (Str.ofString "NoBlock") 254, val := Value.ref 61 }, { hash := PyData.keyHash P (Str.ofString "Apart"), key := Value.str (Str.ofString "Apart") 270, val := Value.ref 73 }, { hash := PyData.keyHash P (Str.ofString "Dry"), key := Value.str (Str.ofString "Dry") 286, val := Value.ref 85 }, { hash := PyData.keyHash P (Str.ofString "BOUND"), key := Value.str (Str.ofString "BOUND") 290, val := Value.int 1000000000 289 }, { hash := PyData.keyHash P (Str.ofString "LONGEST"), key := Value.str (Str.ofString "LONGEST") 292, val := Value.int 60 291 }, { hash := PyData.keyHash P (Str.ofString "TAKES_rows"), key := Value.str (Str.ofString "TAKES_rows") 315, val := Value.ref 88 }, { hash := PyData.keyHash P (Str.ofString "kinds_of"), key := Value.str (Str.ofString "kinds_of") 324, val := Value.ref 101 }, { hash := PyData.keyHash P (Str.ofString "need"), key := Value.str (Str.ofString "need") 332, val := Value.ref 108 }, { hash := PyData.keyHash P (Str.ofString "reckoned"), key := Value.str (Str.ofString "reckoned") 340, val := Value.ref 115 }, { hash := PyData.keyHash P (Str.ofString "done"), key := Value.str (Str.ofString "done") 352, val := Value.ref 122 }, { hash := PyData.keyHash P (Str.ofString "Machine"), key := Value.str (Str.ofString "Machine") 422, val := Value.ref 167 }, { hash := PyData.keyHash P (Str.ofString "run"), key := Value.str (Str.ofString "run") 434, val := Value.ref 178 }, { hash := PyData.keyHash P (Str.ofString "TAKES_kinds"), key := Value.str (Str.ofString "TAKES_kinds") 459, val := Value.ref 179 }, { hash := PyData.keyHash P (Str.ofString "PUTS"), key := Value.str (Str.ofString "PUTS") 478, val := Value.ref 186 }, { hash := PyData.keyHash P (Str.ofString "taken"), key := Value.str (Str.ofString "taken") 487, val := Value.ref 193 }, { hash := PyData.keyHash P (Str.ofString "block_of"), key := Value.str (Str.ofString "block_of") 495, val := Value.ref 200 }, { hash := PyData.keyHash P (Str.ofString "called"), key := Value.str (Str.ofString "called") 505, val := Value.ref 207 }, { hash := PyData.keyHash P (Str.ofString "moved"), key := Value.str (Str.ofString "moved") 515, val := Value.ref 214 }, { hash := PyData.keyHash P (Str.ofString "behind"), key := Value.str (Str.ofString "behind") 528, val := Value.ref 221 }, { hash := PyData.keyHash P (Str.ofString "looked"), key := Value.str (Str.ofString "looked") 543, val := Value.ref 228 }, { hash := PyData.keyHash P (Str.ofString "trail_of"), key := Value.str (Str.ofString "trail_of") 552, val := Value.ref 235 }, { hash := PyData.keyHash P (Str.ofString "fault"), key := Value.str (Str.ofString "fault") 560, val := Value.ref 242 }, { hash := PyData.keyHash P (Str.ofString "named"), key := Value.str (Str.ofString "named") 569, val := Value.ref 249 }, { hash := PyData.keyHash P (Str.ofString "come_to"), key := Value.str (Str.ofString "come_to") 580, val := Value.ref 256 }, { hash := PyData.keyHash P (Str.ofString "let_by"), key := Value.str (Str.ofString "let_by") 589, val := Value.ref 263 }, { hash := PyData.keyHash P (Str.ofString "height_by"), key := Value.str (Str.ofString "height_by") 595, val := Value.ref 268 }, { hash := PyData.keyHash P (Str.ofString "height"), key := Value.str (Str.ofString "height") 601, val := Value.ref 273 }, { hash := PyData.keyHash P (Str.ofString "_law_draw"), key := Value.str (Str.ofString "_law_draw") 614, val := Value.ref 280 }, { hash := PyData.keyHash P (Str.ofString "_law_words"), key := Value.str (Str.ofString "_law_words") 620, val := Value.ref 285 }, { hash := PyData.keyHash P (Str.ofString "_law_value"), key := Value.str (Str.ofString "_law_value") 631, val := Value.ref 292 }, { hash := PyData.keyHash P (Str.ofString "_law_alike"), key := Value.str (Str.ofString "_law_alike") 640, val := Value.ref 299 }, { hash := PyData.keyHash P (Str.ofString "_law_program"), key := Value.str (Str.ofString "_law_program") 646, val := Value.ref 304 }, { hash := PyData.keyHash P (Str.ofString "_law_run"), key := Value.str (Str.ofString "_law_run") 656, val := Value.ref 311 }, { hash := PyData.keyHash P (Str.ofString "_law_deep"), key := Value.str (Str.ofString "_law_deep") 662, val := Value.ref 316 }, { hash := PyData.keyHash P (Str.ofString "law"), key := Value.str (Str.ofString "law") 682, val := Value.ref 323 }] 47 }), (15, { cls := Value.type "tuple", data := Data.seq #[Value.type "ValueError"] }), (22, { cls := Value.type "tuple", data := Data.seq #[] }), (23, { cls := Value.type "dict", data := Data.dict #[{ hash := PyData.keyHash P (Str.ofString "__module__"), key := Value.str (Str.ofString "__module__") 196, val := Value.str (Str.ofString "stackproof.errors") 187 }, { hash := PyData.keyHash P (Str.ofString "__firstlineno__"), key := Value.str (Str.ofString "__firstlineno__") 200, val := Value.int 2 199 }, { hash := PyData.keyHash P (Str.ofString "__static_attributes__"), key := Value.str (Str.ofString "__static_attributes__") 201, val := Value.ref 22 }, { hash := PyData.keyHash P (Str.ofString "__weakref__"), key := Value.str (Str.ofString "__weakref__") 203, val := Value.ref 25 }, { hash := PyData.keyHash P (Str.ofString "__doc__"), key := Value.str (Str.ofString "__doc__") 204, val := Value.none }] 3 }), (24, { cls := Value.type "type", data := Data.cls { name := Str.ofString "StackError", bases := [Value.type "ValueError"], mro := [Value.ref 24, Value.type "ValueError", Value.type "Exception", Value.type "BaseException", Value.type "object"], ns := 23, qualname := Str.ofString "StackError", subclasses := [Value.ref 37, Value.ref 49, Value.ref 61, Value.ref 73, Value.ref 85] }, slots := #[some (Value.ref 15), none, some (Value.str (Str.ofString "StackError") 189), some (Value.str (Str.ofString "StackError") 197), some (Value.builtin "ValueError.__new__"), some (Value.bool true)] }), (25, { cls := Value.type "getset_descriptor", data := Data.fields #[Value.str (Str.ofString "__weakref__") 202, Value.ref 24, Value.builtin "ExceptionGroup.__weakref__", Value.none] }), (28, { cls := Value.type "tuple", data := Data.seq #[Value.ref 24] }), (35, { cls := Value.type "tuple", data := Data.seq #[] }), (36, { cls := Value.type "dict", data := Data.dict #[{ hash := PyData.keyHash P (Str.ofString "__module__"), key := Value.str (Str.ofString "__module__") 214, val := Value.str (Str.ofString "stackproof.errors") 187 }, { hash := PyData.keyHash P (Str.ofString "__firstlineno__"), key := Value.str (Str.ofString "__firstlineno__") 218, val := Value.int 4 217 }, { hash := PyData.keyHash P (Str.ofString "__static_attributes__"), key := Value.str (Str.ofString "__static_attributes__") 219, val := Value.ref 35 }, { hash := PyData.keyHash P (Str.ofString "__doc__"), key := Value.str (Str.ofString "__doc__") 220, val := Value.none }] 2 }), (37, { cls := Value.type "type", data := Data.cls { name := Str.ofString "Empty", bases := [Value.ref 24], mro := [Value.ref 37, Value.ref 24, Value.type "ValueError", Value.type "Exception", Value.type "BaseException", Value.type "object"], ns := 36, qualname := Str.ofString "Empty" }, slots := #[some (Value.ref 28), none, some (Value.str (Str.ofString "Empty") 207), some (Value.str (Str.ofString "Empty") 215), some (Value.builtin "ValueError.__new__"), some (Value.bool true)] }), (40, { cls := Value.type "tuple", data := Data.seq #[Value.ref 24] }), (47, { cls := Value.type "tuple", data := Data.seq #[] }), (48, { cls := Value.type "dict", data := Data.dict #[{ hash := PyData.keyHash P (Str.ofString "__module__"), key := Value.str (Str.ofString "__module__") 230, val := Value.str (Str.ofString "stackproof.errors") 187 }, { hash := PyData.keyHash P (Str.ofString "__firstlineno__"), key := Value.str (Str.ofString "__firstlineno__") 234, val := Value.int 6 233 }, { hash := PyData.keyHash P (Str.ofString "__static_attributes__"), key := Value.str (Str.ofString "__static_attributes__") 235, val := Value.ref 47 }, { hash := PyData.keyHash P (Str.ofString "__doc__"), key := Value.str (Str.ofString "__doc__") 236, val := Value.none }] 2 }), (49, { cls := Value.type "type", data := Data.cls { name := Str.ofString "WrongKind", bases := [Value.ref 24], mro := [Value.ref 49, Value.ref 24, Value.type "ValueError", Value.type "Exception", Value.type "BaseException", Value.type "object"], ns := 48, qualname := Str.ofString "WrongKind" }, slots := #[some (Value.ref 40), none, some (Value.str (Str.ofString "WrongKind") 223), some (Value.str (Str.ofString "WrongKind") 231), some (Value.builtin "ValueError.__new__"), some (Value.bool true)] }), (52, { cls := Value.type "tuple", data := Data.seq #[Value.ref 24] }), (59, { cls := Value.type "tuple", data := Data.seq #[] }), (60, { cls := Value.type "dict", data := Data.dict #[{ hash := PyData.keyHash P (Str.ofString "__module__"), key := Value.str (Str.ofString "__module__") 246, val := Value.str (Str.ofString "stackproof.errors") 187 }, { hash := PyData.keyHash P (Str.ofString "__firstlineno__"), key := Value.str (Str.ofString "__firstlineno__") 250, val := Value.int 8 249 }, { hash := PyData.keyHash P (Str.ofString "__static_attributes__"), key := Value.str (Str.ofString "__static_attributes__") 251, val := Value.ref 59 }, { hash := PyData.keyHash P (Str.ofString "__doc__"), key := Value.str (Str.ofString "__doc__") 252, val := Value.none }] 2 }), (61, { cls := Value.type "type", data := Data.cls { name := Str.ofString "NoBlock", bases := [Value.ref 24], mro := [Value.ref 61, Value.ref 24, Value.type "ValueError", Value.type "Exception", Value.type "BaseException", Value.type "object"], ns := 60, qualname := Str.ofString "NoBlock" }, slots := #[some (Value.ref 52), none, some (Value.str (Str.ofString "NoBlock") 239), some (Value.str (Str.ofString "NoBlock") 247), some (Value.builtin "ValueError.__new__"), some (Value.bool true)] }), (64, { cls := Value.type "tuple", data := Data.seq #[Value.ref 24] }), (71, { cls := Value.type "tuple", data := Data.seq #[] }), (72, { cls := Value.type "dict", data := Data.dict #[{ hash := PyData.keyHash P (Str.ofString "__module__"), key := Value.str (Str.ofString "__module__") 262, val := Value.str (Str.ofString "stackproof.errors") 187 }, { hash := PyData.keyHash P (Str.ofString "__firstlineno__"), key := Value.str (Str.ofString "__firstlineno__") 266, val := Value.int 10 265 }, { hash := PyData.keyHash P (Str.ofString "__static_attributes__"), key := Value.str (Str.ofString "__static_attributes__") 267, val := Value.ref 71 }, { hash := PyData.keyHash P (Str.ofString "__doc__"), key := Value.str (Str.ofString "__doc__") 268, val := Value.none }] 2 }), (73, { cls := Value.type "type", data := Data.cls { name := Str.ofString "Apart", bases := [Value.ref 24], mro := [Value.ref 73, Value.ref 24, Value.type "ValueError", Value.type "Exception", Value.type "BaseException", Value.type "object"], ns := 72, qualname := Str.ofString "Apart" }, slots := #[some (Value.ref 64), none, some (Value.str (Str.ofString "Apart") 255), some (Value.str (Str.ofString "Apart") 263), some (Value.builtin "ValueError.__new__"), some (Value.bool true)] }), (76, { cls := Value.type "tuple", data := Data.seq #[Value.ref 24] }), (83, { cls := Value.type "tuple", data := Data.seq #[] }), (84, { cls := Value.type "dict", data := Data.dict #[{ hash := PyData.keyHash P (Str.ofString "__module__"), key := Value.str (Str.ofString "__module__") 278, val := Value.str (Str.ofString "stackproof.errors") 187 }, { hash := PyData.keyHash P (Str.ofString "__firstlineno__"), key := Value.str (Str.ofString "__firstlineno__") 282, val := Value.int 12 281 }, { hash := PyData.keyHash P (Str.ofString "__static_attributes__"), key := Value.str (Str.ofString "__static_attributes__") 283, val := Value.ref 83 }, { hash := PyData.keyHash P (Str.ofString "__doc__"), key := Value.str (Str.ofString "__doc__") 284, val := Value.none }] 2 }), (85, { cls := Value.type "type", data := Data.cls { name := Str.ofString "Dry", bases := [Value.ref 24], mro := [Value.ref 85, Value.ref 24, Value.type "ValueError", Value.type "Exception", Value.type "BaseException", Value.type "object"], ns := 84, qualname := Str.ofString "Dry" }, slots := #[some (Value.ref 76), none, some (Value.str (Str.ofString "Dry") 271), some (Value.str (Str.ofString "Dry") 279), some (Value.builtin "ValueError.__new__"), some (Value.bool true)] }), (88, { cls := Value.type "dict", data := Data.dict #[{ hash := PyData.keyHash P (Str.ofString "add"), key := Value.str (Str.ofString "add") 293, val := Value.ref 89 }, { hash := PyData.keyHash P (Str.ofString "mul"), key := Value.str (Str.ofString "mul") 296, val := Value.ref 90 }, { hash := PyData.keyHash P (Str.ofString "less"), key := Value.str (Str.ofString "less") 299, val := Value.ref 91 }, { hash := PyData.keyHash P (Str.ofString "join"), key := Value.str (Str.ofString "join") 302, val := Value.ref 92 }, { hash := PyData.keyHash P (Str.ofString "long"), key := Value.str (Str.ofString "long") 305, val := Value.ref 93 }, { hash := PyData.keyHash P (Str.ofString "show"), key := Value.str (Str.ofString "show") 307, val := Value.ref 94 }] 6 }), (89, { cls := Value.type "tuple", data := Data.seq #[Value.str (Str.ofString "num") 294, Value.str (Str.ofString "num") 295] }), (90, { cls := Value.type "tuple", data := Data.seq #[Value.str (Str.ofString "num") 297, Value.str (Str.ofString "num") 298] }), (91, { cls := Value.type "tuple", data := Data.seq #[Value.str (Str.ofString "num") 300, Value.str (Str.ofString "num") 301] }), (92, { cls := Value.type "tuple", data := Data.seq #[Value.str (Str.ofString "text") 303, Value.str (Str.ofString "text") 304] }), (93, { cls := Value.type "tuple", data := Data.seq #[Value.str (Str.ofString "text") 306] }), (94, { cls := Value.type "tuple", data := Data.seq #[Value.str (Str.ofString "num") 308] }), (95, { cls := Value.type "tuple", data := Data.seq #[] }), (97, { cls := Value.type "tuple", data := Data.seq #[Value.str (Str.ofString "stack") 319, Value.str (Str.ofString "kinds") 320, Value.str (Str.ofString "value") 321] }), (98, { cls := Value.type "tuple", data := Data.seq #[] }), (100, { cls := Value.type "code", data := Data.fields #[Value.str (Str.ofString "kinds_of") 316, Value.str (Str.ofString "kinds_of") 317, Value.str (Str.ofString "/claim/cut.py") 318, Value.int 18 0, Value.int 1 0, Value.int 0 0, Value.int 0 0, Value.int 3 0, Value.ref 95, Value.bool true, Value.int 181 0, Value.ref 96, Value.none, Value.ref 97, Value.ref 98, Value.ref 99, Value.int 322 0, Value.int 18 0, Value.str (Str.ofString "/claim/cut.py") 323] }), (102, { cls := Value.type "tuple", data := Data.seq #[] }), (104, { cls := Value.type "tuple", data := Data.seq #[Value.str (Str.ofString "stack") 328, Value.str (Str.ofString "count") 329] }), (105, { cls := Value.type "tuple", data := Data.seq #[] }), (107, { cls := Value.type "code", data := Data.fields #[Value.str (Str.ofString "need") 325, Value.str (Str.ofString "need") 326, Value.str (Str.ofString "/claim/cut.py") 327, Value.int 26 0, Value.int 2 0, Value.int 0 0, Value.int 0 0, Value.int 3 0, Value.ref 102, Value.bool true, Value.int 181 0, Value.ref 103, Value.none, Value.ref 104, Value.ref 105, Value.ref 106, Value.int 330 0, Value.int 26 0, Value.str (Str.ofString "/claim/cut.py") 331] }), (109, { cls := Value.type "tuple", data := Data.seq #[] }), (111, { cls := Value.type "tuple", data := Data.seq #[Value.str (Str.ofString "word") 336, Value.str (Str.ofString "values") 337] }), (112, { cls := Value.type "tuple", data := Data.seq #[] }), (114, { cls := Value.type "code", data := Data.fields #[Value.str (Str.ofString "reckoned") 333, Value.str (Str.ofString "reckoned") 334, Value.str (Str.ofString "/claim/cut.py") 335, Value.int 29 0, Value.int 2 0, Value.int 0 0, Value.int 0 0, Value.int 3 0, Value.ref 109, Value.bool true, Value.int 181 0, Value.ref 110, Value.none, Value.ref 111, Value.ref 112, Value.ref 113, Value.int 338 0, Value.int 29 0, Value.str (Str.ofString "/claim/cut.py") 339] }), (116, { cls := Value.type "tuple", data := Data.seq #[] }), (118, { cls := Value.type "tuple", data := Data.seq #[Value.str (Str.ofString "stack") 344, Value.str (Str.ofString "row") 345, Value.str (Str.ofString "word") 346, Value.str (Str.ofString "size") 347, Value.str (Str.ofString "takes") 348, Value.str (Str.ofString "values") 349] }), (119, { cls := Value.type "tuple", data := Data.seq #[] }), (121, { cls := Value.type "code", data := Data.fields #[Value.str (Str.ofString "done") 341, Value.str (Str.ofString "done") 342, Value.str (Str.ofString "/claim/cut.py") 343, Value.int 41 0, Value.int 2 0, Value.int 0 0, Value.int 0 0, Value.int 3 0, Value.ref 116, Value.bool true, Value.int 181 0, Value.ref 117, Value.none, Value.ref 118, Value.ref 119, Value.ref 120, Value.int 350 0, Value.int 41 0, Value.str (Str.ofString "/claim/cut.py") 351] }), (130, { cls := Value.type "tuple", data := Data.seq #[] }), (132, { cls := Value.type "tuple", data := Data.seq #[Value.str (Str.ofString "self") 370, Value.str (Str.ofString "program") 371, Value.str (Str.ofString "name") 372, Value.str (Str.ofString "stack") 373] }), (133, { cls := Value.type "tuple", data := Data.seq #[] }), (135, { cls := Value.type "code", data := Data.fields #[Value.str (Str.ofString "__init__") 367, Value.str (Str.ofString "Machine.__init__") 368, Value.str (Str.ofString "/claim/cut.py") 369, Value.int 64 0, Value.int 4 0, Value.int 0 0, Value.int 0 0, Value.int 3 0, Value.ref 130, Value.bool true, Value.int 181 0, Value.ref 131, Value.none, Value.ref 132, Value.ref 133, Value.ref 134, Value.int 374 0, Value.int 64 0, Value.str (Str.ofString "/claim/cut.py") 375] }), (137, { cls := Value.type "tuple", data := Data.seq #[] }), (139, { cls := Value.type "tuple", data := Data.seq #[Value.str (Str.ofString "self") 380] }), (140, { cls := Value.type "tuple", data := Data.seq #[] }), (142, { cls := Value.type "code", data := Data.fields #[Value.str (Str.ofString "settle") 377, Value.str (Str.ofString "Machine.settle") 378, Value.str (Str.ofString "/claim/cut.py") 379, Value.int 72 0, Value.int 1 0, Value.int 0 0, Value.int 0 0, Value.int 3 0, Value.ref 137, Value.bool true, Value.int 181 0, Value.ref 138, Value.none, Value.ref 139, Value.ref 140, Value.ref 141, Value.int 381 0, Value.int 72 0, Value.str (Str.ofString "/claim/cut.py") 382] }), (144, { cls := Value.type "tuple", data := Data.seq #[] }), (146, { cls := Value.type "tuple", data := Data.seq #[Value.str (Str.ofString "self") 387] }), (147, { cls := Value.type "tuple", data := Data.seq #[] }), (149, { cls := Value.type "code", data := Data.fields #[Value.str (Str.ofString "over") 384, Value.str (Str.ofString "Machine.over") 385, Value.str (Str.ofString "/claim/cut.py") 386, Value.int 76 0, Value.int 1 0, Value.int 0 0, Value.int 0 0, Value.int 3 0, Value.ref 144, Value.bool true, Value.int 181 0, Value.ref 145, Value.none, Value.ref 146, Value.ref 147, Value.ref 148, Value.int 388 0, Value.int 76 0, Value.str (Str.ofString "/claim/cut.py") 389] }), (151, { cls := Value.type "tuple", data := Data.seq #[] }), (153, { cls := Value.type "tuple", data := Data.seq #[Value.str (Str.ofString "self") 394, Value.str (Str.ofString "row") 395, Value.str (Str.ofString "goal") 396] }), (154, { cls := Value.type "tuple", data := Data.seq #[] }), (156, { cls := Value.type "code", data := Data.fields #[Value.str (Str.ofString "goal_of") 391, Value.str (Str.ofString "Machine.goal_of") 392, Value.str (Str.ofString "/claim/cut.py") 393, Value.int 79 0, Value.int 2 0, Value.int 0 0, Value.int 0 0, Value.int 3 0, Value.ref 151, Value.bool true, Value.int 181 0, Value.ref 152, Value.none, Value.ref 153, Value.ref 154, Value.ref 155, Value.int 397 0, Value.int 79 0, Value.str (Str.ofString "/claim/cut.py") 398] }), (158, { cls := Value.type "tuple", data := Data.seq #[] }), (160, { cls := Value.type "tuple", data := Data.seq #[Value.str (Str.ofString "self") 403, Value.str (Str.ofString "name") 404, Value.str (Str.ofString "place") 405, Value.str (Str.ofString "row") 406, Value.str (Str.ofString "stack") 407, Value.str (Str.ofString "more") 408] }), (161, { cls := Value.type "tuple", data := Data.seq #[] }), (163, { cls := Value.type "code", data := Data.fields #[Value.str (Str.ofString "step") 400, Value.str (Str.ofString "Machine.step") 401, Value.str (Str.ofString "/claim/cut.py") 402, Value.int 92 0, Value.int 1 0, Value.int 0 0, Value.int 0 0, Value.int 3 0, Value.ref 158, Value.bool true, Value.int 181 0, Value.ref 159, Value.none, Value.ref 160, Value.ref 161, Value.ref 162, Value.int 409 0, Value.int 92 0, Value.str (Str.ofString "/claim/cut.py") 410] }), (165, { cls := Value.type "tuple", data := Data.seq #[Value.str (Str.ofString "frames") 412, Value.str (Str.ofString "program") 413, Value.str (Str.ofString "stack") 414] }), (166, { cls := Value.type "dict", data := Data.dict #[{ hash := PyData.keyHash P (Str.ofString "__module__"), key := Value.str (Str.ofString "__module__") 362, val := Value.str (Str.ofString "stackproof.machine") 353 }, { hash := PyData.keyHash P (Str.ofString "__firstlineno__"), key := Value.str (Str.ofString "__firstlineno__") 366, val := Value.int 62 365 }, { hash := PyData.keyHash P (Str.ofString "__init__"), key := Value.str (Str.ofString "__init__") 376, val := Value.ref 136 }, { hash := PyData.keyHash P (Str.ofString "settle"), key := Value.str (Str.ofString "settle") 383, val := Value.ref 143 }, { hash := PyData.keyHash P (Str.ofString "over"), key := Value.str (Str.ofString "over") 390, val := Value.ref 150 }, { hash := PyData.keyHash P (Str.ofString "goal_of"), key := Value.str (Str.ofString "goal_of") 399, val := Value.ref 157 }, { hash := PyData.keyHash P (Str.ofString "step"), key := Value.str (Str.ofString "step") 411, val := Value.ref 164 }, { hash := PyData.keyHash P (Str.ofString "__static_attributes__"), key := Value.str (Str.ofString "__static_attributes__") 415, val := Value.ref 165 }, { hash := PyData.keyHash P (Str.ofString "__dict__"), key := Value.str (Str.ofString "__dict__") 417, val := Value.ref 168 }, { hash := PyData.keyHash P (Str.ofString "__weakref__"), key := Value.str (Str.ofString "__weakref__") 419, val := Value.ref 169 }, { hash := PyData.keyHash P (Str.ofString "__doc__"), key := Value.str (Str.ofString "__doc__") 420, val := Value.none }] 4 }), (167, { cls := Value.type "type", data := Data.cls { name := Str.ofString "Machine", bases := [Value.type "object"], mro := [Value.ref 167, Value.type "object"], ns := 166, qualname := Str.ofString "Machine" }, slots := #[none, none, some (Value.str (Str.ofString "Machine") 355), some (Value.str (Str.ofString "Machine") 363), some (Value.builtin "object.__new__"), some (Value.bool true)] }), (168, { cls := Value.type "getset_descriptor", data := Data.fields #[Value.str (Str.ofString "__dict__") 416, Value.ref 167, Value.builtin "function.__dict__", Value.builtin "function.__dict__#set"] }), (169, { cls := Value.type "getset_descriptor", data := Data.fields #[Value.str (Str.ofString "__weakref__") 418, Value.ref 167, Value.builtin "ExceptionGroup.__weakref__", Value.none] }), (172, { cls := Value.type "tuple", data := Data.seq #[] }), (174, { cls := Value.type "tuple", data := Data.seq #[Value.str (Str.ofString "program") 426, Value.str (Str.ofString "name") 427, Value.str (Str.ofString "stack") 428, Value.str (Str.ofString "fuel") 429, Value.str (Str.ofString "machine") 430, Value.str (Str.ofString "steps") 431] }), (175, { cls := Value.type "tuple", data := Data.seq #[] }), (177, { cls := Value.type "code", data := Data.fields #[Value.str (Str.ofString "run") 423, Value.str (Str.ofString "run") 424, Value.str (Str.ofString "/claim/cut.py") 425, Value.int 109 0, Value.int 4 0, Value.int 0 0, Value.int 0 0, Value.int 3 0, Value.ref 172, Value.bool true, Value.int 181 0, Value.ref 173, Value.none, Value.ref 174, Value.ref 175, Value.ref 176, Value.int 432 0, Value.int 109 0, Value.str (Str.ofString "/claim/cut.py") 433] }), (179, { cls := Value.type "dict", data := Data.dict #[{ hash := PyData.keyHash P (Str.ofString "add"), key := Value.str (Str.ofString "add") 437, val := Value.ref 180 }, { hash := PyData.keyHash P (Str.ofString "mul"), key := Value.str (Str.ofString "mul") 440, val := Value.ref 181 }, { hash := PyData.keyHash P (Str.ofString "less"), key := Value.str (Str.ofString "less") 443, val := Value.ref 182 }, { hash := PyData.keyHash P (Str.ofString "join"), key := Value.str (Str.ofString "join") 446, val := Value.ref 183 }, { hash := PyData.keyHash P (Str.ofString "long"), key := Value.str (Str.ofString "long") 449, val := Value.ref 184 }, { hash := PyData.keyHash P (Str.ofString "show"), key := Value.str (Str.ofString "show") 451, val := Value.ref 185 }] 6 }), (180, { cls := Value.type "tuple", data := Data.seq #[Value.str (Str.ofString "num") 438, Value.str (Str.ofString "num") 439] }), (181, { cls := Value.type "tuple", data := Data.seq #[Value.str (Str.ofString "num") 441, Value.str (Str.ofString "num") 442] }), (182, { cls := Value.type "tuple", data := Data.seq #[Value.str (Str.ofString "num") 444, Value.str (Str.ofString "num") 445] }), (183, { cls := Value.type "tuple", data := Data.seq #[Value.str (Str.ofString "text") 447, Value.str (Str.ofString "text") 448] }), (184, { cls := Value.type "tuple", data := Data.seq #[Value.str (Str.ofString "text") 450] }), (185, { cls := Value.type "tuple", data := Data.seq #[Value.str (Str.ofString "num") 452] }), (186, { cls := Value.type "dict", data := Data.dict #[{ hash := PyData.keyHash P (Str.ofString "add"), key := Value.str (Str.ofString "add") 460, val := Value.str (Str.ofString "num") 461 }, { hash := PyData.keyHash P (Str.ofString "mul"), key := Value.str (Str.ofString "mul") 462, val := Value.str (Str.ofString "num") 463 }, { hash := PyData.keyHash P (Str.ofString "less"), key := Value.str (Str.ofString "less") 464, val := Value.str (Str.ofString "num") 465 }, { hash := PyData.keyHash P (Str.ofString "join"), key := Value.str (Str.ofString "join") 466, val := Value.str (Str.ofString "text") 467 }, { hash := PyData.keyHash P (Str.ofString "long"), key := Value.str (Str.ofString "long") 468, val := Value.str (Str.ofString "num") 469 }, { hash := PyData.keyHash P (Str.ofString "show"), key := Value.str (Str.ofString "show") 470, val := Value.str (Str.ofString "text") 471 }] 6 }), (187, { cls := Value.type "tuple", data := Data.seq #[] }), (189, { cls := Value.type "tuple", data := Data.seq #[Value.str (Str.ofString "kinds") 482, Value.str (Str.ofString "takes") 483, Value.str (Str.ofString "left") 484] }), (190, { cls := Value.type "tuple", data := Data.seq #[] }), (192, { cls := Value.type "code", data := Data.fields #[Value.str (Str.ofString "taken") 479, Value.str (Str.ofString "taken") 480, Value.str (Str.ofString "/claim/cut.py") 481, Value.int 121 0, Value.int 2 0, Value.int 0 0, Value.int 0 0, Value.int 3 0, Value.ref 187, Value.bool true, Value.int 181 0, Value.ref 188, Value.none, Value.ref 189, Value.ref 190, Value.ref 191, Value.int 485 0, Value.int 121 0, Value.str (Str.ofString "/claim/cut.py") 486] }), (194, { cls := Value.type "tuple", data := Data.seq #[] }), (196, { cls := Value.type "tuple", data := Data.seq #[Value.str (Str.ofString "program") 491, Value.str (Str.ofString "name") 492] }), (197, { cls := Value.type "tuple", data := Data.seq #[] }), (199, { cls := Value.type "code", data := Data.fields #[Value.str (Str.ofString "block_of") 488, Value.str (Str.ofString "block_of") 489, Value.str (Str.ofString "/claim/cut.py") 490, Value.int 128 0, Value.int 2 0, Value.int 0 0, Value.int 0 0, Value.int 3 0, Value.ref 194, Value.bool true, Value.int 181 0, Value.ref 195, Value.none, Value.ref 196, Value.ref 197, Value.ref 198, Value.int 493 0, Value.int 128 0, Value.str (Str.ofString "/claim/cut.py") 494] }), (201, { cls := Value.type "tuple", data := Data.seq #[] }), (203, { cls := Value.type "tuple", data := Data.seq #[Value.str (Str.ofString "program") 499, Value.str (Str.ofString "kinds") 500, Value.str (Str.ofString "name") 501, Value.str (Str.ofString "block") 502] }), (204, { cls := Value.type "tuple", data := Data.seq #[] }), (206, { cls := Value.type "code", data := Data.fields #[Value.str (Str.ofString "called") 496, Value.str (Str.ofString "called") 497, Value.str (Str.ofString "/claim/cut.py") 498, Value.int 132 0, Value.int 3 0, Value.int 0 0, Value.int 0 0, Value.int 3 0, Value.ref 201, Value.bool true, Value.int 181 0, Value.ref 202, Value.none, Value.ref 203, Value.ref 204, Value.ref 205, Value.int 503 0, Value.int 132 0, Value.str (Str.ofString "/claim/cut.py") 504] }), (208, { cls := Value.type "tuple", data := Data.seq #[] }), (210, { cls := Value.type "tuple", data := Data.seq #[Value.str (Str.ofString "kinds") 509, Value.str (Str.ofString "row") 510, Value.str (Str.ofString "size") 511, Value.str (Str.ofString "wants") 512] }), (211, { cls := Value.type "tuple", data := Data.seq #[] }), (213, { cls := Value.type "code", data := Data.fields #[Value.str (Str.ofString "moved") 506, Value.str (Str.ofString "moved") 507, Value.str (Str.ofString "/claim/cut.py") 508, Value.int 135 0, Value.int 2 0, Value.int 0 0, Value.int 0 0, Value.int 3 0, Value.ref 208, Value.bool true, Value.int 181 0, Value.ref 209, Value.none, Value.ref 210, Value.ref 211, Value.ref 212, Value.int 513 0, Value.int 135 0, Value.str (Str.ofString "/claim/cut.py") 514] }), (215, { cls := Value.type "tuple", data := Data.seq #[] }), (217, { cls := Value.type "tuple", data := Data.seq #[Value.str (Str.ofString "program") 519, Value.str (Str.ofString "kinds") 520, Value.str (Str.ofString "row") 521, Value.str (Str.ofString "word") 522, Value.str (Str.ofString "left") 523, Value.str (Str.ofString "yes") 524, Value.str (Str.ofString "no") 525] }), (218, { cls := Value.type "tuple", data := Data.seq #[] }), (220, { cls := Value.type "code", data := Data.fields #[Value.str (Str.ofString "behind") 516, Value.str (Str.ofString "behind") 517, Value.str (Str.ofString "/claim/cut.py") 518, Value.int 147 0, Value.int 3 0, Value.int 0 0, Value.int 0 0, Value.int 3 0, Value.ref 215, Value.bool true, Value.int 181 0, Value.ref 216, Value.none, Value.ref 217, Value.ref 218, Value.ref 219, Value.int 526 0, Value.int 147 0, Value.str (Str.ofString "/claim/cut.py") 527] }), (222, { cls := Value.type "tuple", data := Data.seq #[] }), (224, { cls := Value.type "tuple", data := Data.seq #[Value.str (Str.ofString "program") 534, Value.str (Str.ofString "name") 535, Value.str (Str.ofString "block") 536, Value.str (Str.ofString "trail") 537, Value.str (Str.ofString "rows") 538, Value.str (Str.ofString "place") 539, Value.str (Str.ofString "word") 540] }), (225, { cls := Value.type "tuple", data := Data.seq #[] }), (227, { cls := Value.type "code", data := Data.fields #[Value.str (Str.ofString "looked") 531, Value.str (Str.ofString "looked") 532, Value.str (Str.ofString "/claim/cut.py") 533, Value.int 164 0, Value.int 2 0, Value.int 0 0, Value.int 0 0, Value.int 3 0, Value.ref 222, Value.bool true, Value.int 181 0, Value.ref 223, Value.none, Value.ref 224, Value.ref 225, Value.ref 226, Value.int 541 0, Value.int 164 0, Value.str (Str.ofString "/claim/cut.py") 542] }), (229, { cls := Value.type "tuple", data := Data.seq #[] }), (231, { cls := Value.type "tuple", data := Data.seq #[Value.str (Str.ofString "program") 547, Value.str (Str.ofString "name") 548, Value.str (Str.ofString "found") 549] }), (232, { cls := Value.type "tuple", data := Data.seq #[] }), (234, { cls := Value.type "code", data := Data.fields #[Value.str (Str.ofString "trail_of") 544, Value.str (Str.ofString "trail_of") 545, Value.str (Str.ofString "/claim/cut.py") 546, Value.int 185 0, Value.int 2 0, Value.int 0 0, Value.int 0 0, Value.int 3 0, Value.ref 229, Value.bool true, Value.int 181 0, Value.ref 230, Value.none, Value.ref 231, Value.ref 232, Value.ref 233, Value.int 550 0, Value.int 185 0, Value.str (Str.ofString "/claim/cut.py") 551] }), (236, { cls := Value.type "tuple", data := Data.seq #[] }), (238, { cls := Value.type "tuple", data := Data.seq #[Value.str (Str.ofString "program") 556, Value.str (Str.ofString "name") 557] }), (239, { cls := Value.type "tuple", data := Data.seq #[] }), (241, { cls := Value.type "code", data := Data.fields #[Value.str (Str.ofString "fault") 553, Value.str (Str.ofString "fault") 554, Value.str (Str.ofString "/claim/cut.py") 555, Value.int 190 0, Value.int 2 0, Value.int 0 0, Value.int 0 0, Value.int 3 0, Value.ref 236, Value.bool true, Value.int 181 0, Value.ref 237, Value.none, Value.ref 238, Value.ref 239, Value.ref 240, Value.int 558 0, Value.int 190 0, Value.str (Str.ofString "/claim/cut.py") 559] }), (243, { cls := Value.type "tuple", data := Data.seq #[] }), (245, { cls := Value.type "tuple", data := Data.seq #[Value.str (Str.ofString "rows") 564, Value.str (Str.ofString "names") 565, Value.str (Str.ofString "row") 566] }), (246, { cls := Value.type "tuple", data := Data.seq #[] }), (248, { cls := Value.type "code", data := Data.fields #[Value.str (Str.ofString "named") 561, Value.str (Str.ofString "named") 562, Value.str (Str.ofString "/claim/cut.py") 563, Value.int 192 0, Value.int 1 0, Value.int 0 0, Value.int 0 0, Value.int 3 0, Value.ref 243, Value.bool true, Value.int 181 0, Value.ref 244, Value.none, Value.ref 245, Value.ref 246, Value.ref 247, Value.int 567 0, Value.int 192 0, Value.str (Str.ofString "/claim/cut.py") 568] }), (250, { cls := Value.type "tuple", data := Data.seq #[] }), (252, { cls := Value.type "tuple", data := Data.seq #[Value.str (Str.ofString "program") 573, Value.str (Str.ofString "name") 574, Value.str (Str.ofString "found") 575, Value.str (Str.ofString "place") 576, Value.str (Str.ofString "other") 577] }), (253, { cls := Value.type "tuple", data := Data.seq #[] }), (255, { cls := Value.type "code", data := Data.fields #[Value.str (Str.ofString "come_to") 570, Value.str (Str.ofString "come_to") 571, Value.str (Str.ofString "/claim/cut.py") 572, Value.int 201 0, Value.int 2 0, Value.int 0 0, Value.int 0 0, Value.int 3 0, Value.ref 250, Value.bool true, Value.int 181 0, Value.ref 251, Value.none, Value.ref 252, Value.ref 253, Value.ref 254, Value.int 578 0, Value.int 201 0, Value.str (Str.ofString "/claim/cut.py") 579] }), (257, { cls := Value.type "tuple", data := Data.seq #[] }), (259, { cls := Value.type "tuple", data := Data.seq #[Value.str (Str.ofString "program") 584, Value.str (Str.ofString "name") 585, Value.str (Str.ofString "one") 586] }), (260, { cls := Value.type "tuple", data := Data.seq #[] }), (262, { cls := Value.type "code", data := Data.fields #[Value.str (Str.ofString "let_by") 581, Value.str (Str.ofString "let_by") 582, Value.str (Str.ofString "/claim/cut.py") 583, Value.int 211 0, Value.int 2 0, Value.int 0 0, Value.int 0 0, Value.int 3 0, Value.ref 257, Value.bool true, Value.int 181 0, Value.ref 258, Value.none, Value.ref 259, Value.ref 260, Value.ref 261, Value.int 587 0, Value.int 211 0, Value.str (Str.ofString "/claim/cut.py") 588] }), (264, { cls := Value.type "tuple", data := Data.seq #[] }), (267, { cls := Value.type "code", data := Data.fields #[Value.str (Str.ofString "height_by") 590, Value.str (Str.ofString "height_by") 591, Value.str (Str.ofString "/claim/cut.py") 592, Value.int 216 0, Value.int 3 0, Value.int 0 0, Value.int 0 0, Value.int 3 0, Value.ref 264, Value.bool true, Value.int 181 0, Value.ref 265, Value.none, Value.none, Value.none, Value.ref 266, Value.int 593 0, Value.int 216 0, Value.str (Str.ofString "/claim/cut.py") 594] }), (269, { cls := Value.type "tuple", data := Data.seq #[] }), (272, { cls := Value.type "code", data := Data.fields #[Value.str (Str.ofString "height") 596, Value.str (Str.ofString "height") 597, Value.str (Str.ofString "/claim/cut.py") 598, Value.int 228 0, Value.int 2 0, Value.int 0 0, Value.int 0 0, Value.int 3 0, Value.ref 269, Value.bool true, Value.int 181 0, Value.ref 270, Value.none, Value.none, Value.none, Value.ref 271, Value.int 599 0, Value.int 228 0, Value.str (Str.ofString "/claim/cut.py") 600] }), (274, { cls := Value.type "tuple", data := Data.seq #[] }), (276, { cls := Value.type "tuple", data := Data.seq #[Value.str (Str.ofString "_law_script") 607, Value.str (Str.ofString "_law_tape") 608, Value.str (Str.ofString "_law_many") 609, Value.str (Str.ofString "_law_seed") 610, Value.str (Str.ofString "_law_cell") 611] }), (277, { cls := Value.type "tuple", data := Data.seq #[] }), (279, { cls := Value.type "code", data := Data.fields #[Value.str (Str.ofString "_law_draw") 604, Value.str (Str.ofString "_law_draw") 605, Value.str (Str.ofString "/claim/cut.py") 606, Value.int 243 0, Value.int 3 0, Value.int 0 0, Value.int 0 0, Value.int 3 0, Value.ref 274, Value.bool true, Value.int 181 0, Value.ref 275, Value.none, Value.ref 276, Value.ref 277, Value.ref 278, Value.int 612 0, Value.int 243 0, Value.str (Str.ofString "/claim/cut.py") 613] }), (281, { cls := Value.type "tuple", data := Data.seq #[] }), (284, { cls := Value.type "code", data := Data.fields #[Value.str (Str.ofString "_law_words") 615, Value.str (Str.ofString "_law_words") 616, Value.str (Str.ofString "/claim/cut.py") 617, Value.int 251 0, Value.int 2 0, Value.int 0 0, Value.int 0 0, Value.int 3 0, Value.ref 281, Value.bool true, Value.int 181 0, Value.ref 282, Value.none, Value.none, Value.none, Value.ref 283, Value.int 618 0, Value.int 251 0, Value.str (Str.ofString "/claim/cut.py") 619] }), (286, { cls := Value.type "tuple", data := Data.seq #[] }), (288, { cls := Value.type "tuple", data := Data.seq #[Value.str (Str.ofString "_law_script") 624, Value.str (Str.ofString "_law_tape") 625, Value.str (Str.ofString "_law_kind") 626, Value.str (Str.ofString "_law_cell") 627, Value.str (Str.ofString "_law_way") 628] }), (289, { cls := Value.type "tuple", data := Data.seq #[] }), (291, { cls := Value.type "code", data := Data.fields #[Value.str (Str.ofString "_law_value") 621, Value.str (Str.ofString "_law_value") 622, Value.str (Str.ofString "/claim/cut.py") 623, Value.int 255 0, Value.int 3 0, Value.int 0 0, Value.int 0 0, Value.int 3 0, Value.ref 286, Value.bool true, Value.int 181 0, Value.ref 287, Value.none, Value.ref 288, Value.ref 289, Value.ref 290, Value.int 629 0, Value.int 255 0, Value.str (Str.ofString "/claim/cut.py") 630] }), (293, { cls := Value.type "tuple", data := Data.seq #[] }), (295, { cls := Value.type "tuple", data := Data.seq #[Value.str (Str.ofString "_law_found") 635, Value.str (Str.ofString "_law_due") 636, Value.str (Str.ofString "_law_k") 637] }), (296, { cls := Value.type "tuple", data := Data.seq #[] }), (298, { cls := Value.type "code", data := Data.fields #[Value.str (Str.ofString "_law_alike") 632, Value.str (Str.ofString "_law_alike") 633, Value.str (Str.ofString "/claim/cut.py") 634, Value.int 267 0, Value.int 2 0, Value.int 0 0, Value.int 0 0, Value.int 3 0, Value.ref 293, Value.bool true, Value.int 181 0, Value.ref 294, Value.none, Value.ref 295, Value.ref 296, Value.ref 297, Value.int 638 0, Value.int 267 0, Value.str (Str.ofString "/claim/cut.py") 639] }), (300, { cls := Value.type "tuple", data := Data.seq #[] }), (303, { cls := Value.type "code", data := Data.fields #[Value.str (Str.ofString "_law_program") 641, Value.str (Str.ofString "_law_program") 642, Value.str (Str.ofString "/claim/cut.py") 643, Value.int 276 0, Value.int 4 0, Value.int 0 0, Value.int 0 0, Value.int 3 0, Value.ref 300, Value.bool true, Value.int 181 0, Value.ref 301, Value.none, Value.none, Value.none, Value.ref 302, Value.int 644 0, Value.int 276 0, Value.str (Str.ofString "/claim/cut.py") 645] }), (305, { cls := Value.type "tuple", data := Data.seq #[] }), (307, { cls := Value.type "tuple", data := Data.seq #[Value.str (Str.ofString "_law_program_here") 650, Value.str (Str.ofString "_law_name") 651, Value.str (Str.ofString "_law_stack") 652, Value.str (Str.ofString "_law_fuel") 653] }), (308, { cls := Value.type "tuple", data := Data.seq #[] }), (310, { cls := Value.type "code", data := Data.fields #[Value.str (Str.ofString "_law_run") 647, Value.str (Str.ofString "_law_run") 648, Value.str (Str.ofString "/claim/cut.py") 649, Value.int 289 0, Value.int 4 0, Value.int 0 0, Value.int 0 0, Value.int 3 0, Value.ref 305, Value.bool true, Value.int 181 0, Value.ref 306, Value.none, Value.ref 307, Value.ref 308, Value.ref 309, Value.int 654 0, Value.int 289 0, Value.str (Str.ofString "/claim/cut.py") 655] }), (312, { cls := Value.type "tuple", data := Data.seq #[] }), (315, { cls := Value.type "code", data := Data.fields #[Value.str (Str.ofString "_law_deep") 657, Value.str (Str.ofString "_law_deep") 658, Value.str (Str.ofString "/claim/cut.py") 659, Value.int 294 0, Value.int 6 0, Value.int 0 0, Value.int 0 0, Value.int 3 0, Value.ref 312, Value.bool true, Value.int 181 0, Value.ref 313, Value.none, Value.none, Value.none, Value.ref 314, Value.int 660 0, Value.int 294 0, Value.str (Str.ofString "/claim/cut.py") 661] }), (317, { cls := Value.type "tuple", data := Data.seq #[] }), (319, { cls := Value.type "tuple", data := Data.seq #[Value.str (Str.ofString "_law_script") 666, Value.str (Str.ofString "_law_tape") 667, Value.str (Str.ofString "_law_some") 668, Value.str (Str.ofString "_law_many") 669, Value.str (Str.ofString "_law_way") 670, Value.str (Str.ofString "_law_leaves") 671, Value.str (Str.ofString "_law_program_here") 672, Value.str (Str.ofString "_law_names") 673, Value.str (Str.ofString "_law_beneath") 674, Value.str (Str.ofString "_law_k") 675, Value.str (Str.ofString "_law_steps") 676, Value.str (Str.ofString "_law_fuel") 677, Value.str (Str.ofString "_law_found") 678, Value.str (Str.ofString "_law_due") 679] }), (320, { cls := Value.type "tuple", data := Data.seq #[] }), (322, { cls := Value.type "code", data := Data.fields #[Value.str (Str.ofString "law") 663, Value.str (Str.ofString "law") 664, Value.str (Str.ofString "/claim/cut.py") 665, Value.int 310 0, Value.int 1 0, Value.int 0 0, Value.int 0 0, Value.int 3 0, Value.ref 317, Value.bool true, Value.int 181 0, Value.ref 318, Value.none, Value.ref 319, Value.ref 320, Value.ref 321, Value.int 680 0, Value.int 310 0, Value.str (Str.ofString "/claim/cut.py") 681] })]
noncomputable def adrs : List Addr := [2, 3, 15, 22, 23, 24, 25, 28, 35, 36, 37, 40, 47, 48, 49, 52, 59, 60, 61, 64, 71, 72, 73, 76, 83, 84, 85, 88, 89, 90, 91, 92, 93, 94, 95, 97, 98, 100, 102, 104, 105, 107, 109, 111, 112, 114, 116, 118, 119, 121, 130, 132, 133, 135, 137, 139, 140, 142, 144, 146, 147, 149, 151, 153, 154, 156, 158, 160, 161, 163, 165, 166, 167, 168, 169, 172, 174, 175, 177, 179, 180, 181, 182, 183, 184, 185, 186, 187, 189, 190, 192, 194, 196, 197, 199, 201, 203, 204, 206, 208, 210, 211, 213, 215, 217, 218, 220, 222, 224, 225, 227, 229, 231, 232, 234, 236, 238, 239, 241, 243, 245, 246, 248, 250, 252, 253, 255, 257, 259, 260, 262, 264, 267, 269, 272, 274, 276, 277, 279, 281, 284, 286, 288, 289, 291, 293, 295, 296, 298, 300, 303, 305, 307, 308, 310, 312, 315, 317, 319, 320, 322]
abbrev loos : List Str := ["TAKES_rows", "TAKES_kinds", "PUTS"]
noncomputable abbrev hook : Hook := kHook heap_39 adrs (fun _ => by kernel_rfl)
noncomputable abbrev xt : Shared → Bool := fun s => xlAt view_39 [] s && recOk PySem.Challenge.rw_uf030026_13.row.records s
set_option maxRecDepth 1000000
set_option maxHeartbeats 0
theorem bo : ∀ w : World, (fencedOpening treeTable PySem.Challenge.rw_uf030026_13.row.toRowW.1 w 5772).map (fun s => (s.heap, s.gens, s.drawn, s.toks)) = some (boot_heap w.params, Array.mk [], boot_drawn, boot_toks) := boot_open (by kernel_rfl) (by decide) (fun s => by kernel_rfl)
theorem use_boot {o : Option Shared} {h : Heap} {g : Array GenState} {d : Drawn} {t : Nat} (b : o.map (fun s => (s.heap, s.gens, s.drawn, s.toks)) = some (h, g, d, t)) {X : Type} {F : Shared → X} {x : X} (k : ∀ os, F ⟨h, g, d, t, os⟩ = x) : o.map F = some x := by
  obtain ⟨⟨h', g', d', t', os⟩, e, c⟩ := Option.map_eq_some_iff.mp b
  cases c
  rw [e]; exact congrArg some (k os)
noncomputable abbrev topr (w : World) (os : OsState) (x : Bool) : Option Shared := topFrom treeTable PySem.Challenge.rw_uf030026_13.row.toRowW.1 (w.withFollow "special-get-raises" x) 5772 ⟨boot_heap w.params, Array.mk [], boot_drawn, boot_toks, os⟩
theorem lw : looseW view_39 loos = loos := by kernel_rfl
noncomputable abbrev fC (L : List Str) (s : Shared) := ((seen ((recsOf view_39).map (·.name)) (ownsOf view_39) [] { s with gens := #[] }, s.heap.bltView, s.heap.keysOk L ((recsOf view_39).map (·.name)) ((litsOf view_39).map (·.1)) ((clssOf view_39 L).map (·.name)) && s.heap.accountedOkI (importedModules PySem.Challenge.rw_uf030026_13.row.toRowW.1.main.body) && s.heap.isNs mainGlobals && s.heap.isNs builtinsNs && tablesOk view_39 s.heap && xt s && (if true then s.gens.size == 0 else !leftWithCleanup s.gens), tabsOk view_39 s, pinSeenD view_39 (drecsOf view_39) s, plainSeenE view_39 L s, plainSeenD view_39 loos s, wideSeen view_39 s, clsSeenW view_39 loos s), hook.obs s)
noncomputable abbrev gC (L : List Str) (w : World) := ((expectedOf view_39, bltViewBooted, true, true, pinGoodD (drecsOf view_39), plainGoodE view_39 L, plainGoodD view_39 loos, wideGood view_39, clsGoodW view_39 loos), hook.val w)
theorem half (w : World) (os : OsState) : (topr w os false).map (fC loos) = some (gC loos (w.withFollow "special-get-raises" false)) := by kernel_rfl
theorem half' (w : World) (os : OsState) : (topr w os true).map (fC loos) = some (gC loos (w.withFollow "special-get-raises" true)) := by kernel_rfl
theorem whol (w : World) (os : OsState) (x : Bool) (h : (topr w os x).map (fC loos) = some (gC loos (w.withFollow "special-get-raises" x))) : (topr w os x).map (fun s => (openSeen view_39 loos (importedModules PySem.Challenge.rw_uf030026_13.row.toRowW.1.main.body) xt true s, hook.obs s)) = some (openGood view_39 loos, hook.val (w.withFollow "special-get-raises" x)) := by
  replace h : (topr w os x).map (fC (looseW view_39 loos)) = some (gC (looseW view_39 loos) (w.withFollow "special-get-raises" x)) := by rw [lw]; exact h
  exact h
theorem left : LeftO PySem.Challenge.rw_uf030026_13.row.toRowW.1 view_39 loos xt hook.obs hook.val 5772 := LeftO.of_split "special-get-raises" fun w => use_boot (bo w) fun os => congr (congrArg Prod.mk (whol w os false (half w os))) (whol w os true (half' w os))
end Mine.hd
end
section
open PySem
namespace Mine
set_option autoImplicit false

/-- abstract values -/
inductive PV where
  | none
  | bool (b : Bool)
  | int (i : Int)
  | str (s : Str)
  | tup (xs : List PV)
  | obj (a : Addr)
  | exc (c : Nat)
  | fls (xs : List Int)
  | fdt (kvs : List (Str × PV))
  | rng (n : Int)

/-- abstract objects -/
inductive AObj where
  | list (xs : List PV)
  | dict (kvs : List (Str × PV))
  | tape (n : Nat)
  | inst (d : Addr)
  | attrs (kvs : List (Str × PV))

abbrev AHeap := Addr → Option AObj
abbrev Loc := List (Option PV)
abbrev Post := PV → AHeap → Prop
abbrev BPost := Bool → AHeap → Prop
abbrev XPost := Nat → AHeap → Prop
abbrev CallSpec := Str → List PV → AHeap → Post → XPost → Prop

noncomputable def Ext (H H' : AHeap) : Prop := ∀ b o, H b = some o → H' b = some o
noncomputable def ExtB (a : Addr) (H H' : AHeap) : Prop := ∀ b o, b ≠ a → H b = some o → H' b = some o

inductive Blt where
  | len | list | tuple | range | max | min | int | str | all | any | abs
noncomputable def Blt.name : Blt → String
  | .len => "len" | .list => "list" | .tuple => "tuple" | .range => "range" | .max => "max" | .min => "min" | .int => "int" | .str => "str" | .all => "all" | .any => "any" | .abs => "abs"

inductive Meth where
  | append | pop | dpop | insert | count | join
noncomputable def Meth.name : Meth → String
  | .append => "append" | .pop => "pop" | .dpop => "pop" | .insert => "insert" | .count => "count" | .join => "join"

inductive ICls where
  | str | list | tuple | bool | int | intstr | value | own (c : Nat) (x : Str)

set_option genSizeOf false
set_option genInjectivity false
mutual
inductive AE where
  | lit (c : Const) (k : Nat) (p : Pos)
  | var (i : Nat) (p : Pos)
  | glob (x : Str) (p : Pos)
  | bin (l : AE) (o : Operator) (r : AE) (p : Pos)
  | neg (e : AE) (p : Pos)
  | not (e : AE) (p : Pos)
  | bop (o : BoolOp) (es : AEs) (p : Pos)
  | cmp (l : AE) (o : CmpOp) (r : AE) (p : Pos)
  | sub (e i : AE) (p : Pos)
  | sfrom (e i : AE) (ps p : Pos)
  | sto (e i : AE) (ps p : Pos)
  | srev (e : AE) (c ps p : Pos) (cu : Pos)
  | tup (es : AEs) (k : Nat) (p : Pos)
  | list (es : AEs) (p : Pos)
  | tape (pc p : Pos)
  | dict (ks : List (Str × Pos)) (vs : AEs) (p : Pos)
  | call (f : Str) (es : AEs) (pf p : Pos)
  | blt (b : Blt) (es : AEs) (pf p : Pos)
  | isi (e : AE) (c : ICls) (pf p1 p2 p3 p : Pos)
  | meth (o : AE) (nm : Meth) (es : AEs) (pa p : Pos)
  | umeth (o : AE) (c : Str) (nm : Str) (es : AEs) (pa p : Pos)
  | attr (o : AE) (nm : Str) (p : Pos)
  | new (es : AEs) (pf p : Pos)
  | comp (elt : AE) (x : Nat) (px : Pos) (it : AE) (cs : AEs) (sc : Scope) (p : Pos)
inductive AEs where
  | nil
  | cons (e : AE) (es : AEs)
end

mutual
inductive AS where
  | expr (e : AE) (p : Pos)
  | assign (x : Nat) (px : Pos) (e : AE) (p : Pos)
  | assignT (xs : List (Nat × Pos)) (k : Nat) (pt : Pos) (e : AE) (p : Pos)
  | store (o i : AE) (ps : Pos) (e : AE) (p : Pos)
  | sattr (o : AE) (nm : Str) (pa : Pos) (e : AE) (p : Pos)
  | ite (c : AE) (a b : ASs) (p : Pos)
  | for (x : Nat) (px : Pos) (it : AE) (b : ASs) (p : Pos)
  | while (c : AE) (b : ASs) (p : Pos)
  | ret (e : AE) (p : Pos)
  | ret0 (p : Pos)
  | raise (c : Nat) (x : Str) (msg : Str) (k : Nat) (pc pm pk p : Pos)
  | try (b : ASs) (hs : AHs) (p : Pos)
inductive ASs where
  | nil
  | cons (s : AS) (ss : ASs)
inductive AHs where
  | nil
  | cons (c : Nat) (x : Str) (px : Pos) (y : Option Nat) (b : ASs) (p : Pos) (hs : AHs)
end

set_option genSizeOf true
set_option genInjectivity true
section toSyntax
variable (nm : List Str)
noncomputable def slot (i : Nat) : Str := nm.getD i Str.empty
noncomputable def ICls.expr (p1 p2 p3 : Pos) : ICls → Expr
  | .str => .Name "str" p1
  | .list => .Name "list" p1
  | .tuple => .Name "tuple" p1
  | .bool => .Name "bool" p1
  | .int => .Name "int" p1
  | .intstr => .Tuple [.Name "int" p2, .Name "str" p3] 0 p1
  | .value => .Name "ValueError" p1
  | .own _ x => .Name x p1
mutual
noncomputable def AE.toE : AE → Expr
  | .lit c k p => .Constant c k p
  | .var i p => .Name (slot nm i) p
  | .glob x p => .Name x p
  | .bin l o r p => .BinOp l.toE o r.toE p
  | .neg e p => .UnaryOp .USub e.toE p
  | .not e p => .UnaryOp .Not e.toE p
  | .bop o es p => .BoolOp o es.toEs p
  | .cmp l o r p => .Compare l.toE [o] [r.toE] p
  | .sub e i p => .Subscript e.toE i.toE p
  | .sfrom e i ps p => .Subscript e.toE (.Slice (some i.toE) none none ps) p
  | .sto e i ps p => .Subscript e.toE (.Slice none (some i.toE) none ps) p
  | .srev e c ps p cu => .Subscript e.toE (.Slice none none (some (.UnaryOp .USub (.Constant (.int 1) 0 c) cu)) ps) p
  | .tup es k p => .Tuple es.toEs k p
  | .list es p => .List es.toEs p
  | .tape pc p => .List [.Constant (.int 0) 0 pc] p
  | .dict ks vs p => .Dict (ks.map fun x => some (.Constant (.str x.1) 0 x.2)) vs.toEs p
  | .call f es pf p => .Call (.Name f pf) es.toEs [] p
  | .blt b es pf p => .Call (.Name b.name pf) es.toEs [] p
  | .isi e c pf p1 p2 p3 p => .Call (.Name "isinstance" pf) [e.toE, c.expr p1 p2 p3] [] p
  | .meth o m es pa p => .Call (.Attribute o.toE m.name pa) es.toEs [] p
  | .umeth o _ m es pa p => .Call (.Attribute o.toE m pa) es.toEs [] p
  | .attr o m p => .Attribute o.toE m p
  | .new es pf p => .Call (.Name "Machine" pf) es.toEs [] p
  | .comp elt x px it cs sc p => .ListComp elt.toE [{ target := .Name (slot nm x) px, iter := it.toE, ifs := cs.toEs, is_async := 0 }] sc p
noncomputable def AEs.toEs : AEs → List Expr
  | .nil => []
  | .cons e es => e.toE :: es.toEs
end
mutual
noncomputable def AS.toS : AS → Stmt
  | .expr e p => .Expr (e.toE nm) p
  | .assign x px e p => .Assign [.Name (slot nm x) px] (e.toE nm) p
  | .assignT xs k pt e p => .Assign [.Tuple (xs.map fun x => .Name (slot nm x.1) x.2) k pt] (e.toE nm) p
  | .store o i ps e p => .Assign [.Subscript (o.toE nm) (i.toE nm) ps] (e.toE nm) p
  | .sattr o n pa e p => .Assign [.Attribute (o.toE nm) n pa] (e.toE nm) p
  | .ite c a b p => .If (c.toE nm) a.toSs b.toSs p
  | .for x px it b p => .For (.Name (slot nm x) px) (it.toE nm) b.toSs [] p
  | .while c b p => .While (c.toE nm) b.toSs [] p
  | .ret e p => .Return (some (e.toE nm)) p
  | .ret0 p => .Return none p
  | .raise _ x msg k pc pm pk p => .Raise (some (.Call (.Name x pc) [.Constant (.str msg) k pm] [] pk)) none p
  | .try b hs p => .Try b.toSs hs.toHs [] [] p
noncomputable def ASs.toSs : ASs → List Stmt
  | .nil => []
  | .cons s ss => s.toS :: ss.toSs
noncomputable def AHs.toHs : AHs → List ExceptHandler
  | .nil => []
  | .cons _ x px y b p hs => .ExceptHandler (some (.Name x px)) (y.map (slot nm)) b.toSs p :: hs.toHs
end
end toSyntax

/-! the abstract semantics -/
noncomputable def LIM : Nat := 1048576
noncomputable def getO (H : AHeap) (a : Addr) (K : AObj → Prop) : Prop := ∃ o, H a = some o ∧ K o
noncomputable def alloc (o : AObj) (Q : Post) (H : AHeap) : Prop := ∀ a H', H a = none → H' a = some o → Ext H H' → Q (.obj a) H'
noncomputable def mutate (a : Addr) (o : AObj) (K : AHeap → Prop) (H : AHeap) : Prop := ∀ H', H' a = some o → ExtB a H H' → K H'

noncomputable def dget {α : Type} (kvs : List (Str × α)) (k : Str) : Option α := (kvs.find? fun p => decide (p.1 = k)).map (·.2)
noncomputable def dset {α : Type} (kvs : List (Str × α)) (k : Str) (v : α) : List (Str × α) :=
  if kvs.any (fun p => decide (p.1 = k)) then kvs.map (fun p => if p.1 = k then (p.1, v) else p) else kvs ++ [(k, v)]

inductive EqA : PV → PV → Bool → Prop
  | bool (a b : Bool) : EqA (.bool a) (.bool b) (a == b)
  | int (a b : Int) : EqA (.int a) (.int b) (a == b)
  | str (a b : Str) : EqA (.str a) (.str b) (a == b)
  | intstr (a : Int) (b : Str) : EqA (.int a) (.str b) false
  | strint (a : Str) (b : Int) : EqA (.str a) (.int b) false
mutual
inductive EqV (H : AHeap) : Nat → PV → PV → Bool → Prop
  | atom {n : Nat} {p q : PV} {b : Bool} : EqA p q b → EqV H n p q b
  | tup {n : Nat} {xs ys : List PV} {b : Bool} : EqL H n xs ys b → EqV H (n + 1) (.tup xs) (.tup ys) b
  | list {n : Nat} {a b : Addr} {xs ys : List PV} {r : Bool} : H a = some (.list xs) → H b = some (.list ys) → EqL H n xs ys r → EqV H (n + 1) (.obj a) (.obj b) r
inductive EqL (H : AHeap) : Nat → List PV → List PV → Bool → Prop
  | nil {n : Nat} : EqL H n [] [] true
  | l {n : Nat} (x : PV) (xs : List PV) : EqL H n (x :: xs) [] false
  | r {n : Nat} (y : PV) (ys : List PV) : EqL H n [] (y :: ys) false
  | c {n : Nat} {x y : PV} {xs ys : List PV} {a b : Bool} : EqV H n x y a → EqL H n xs ys b → EqL H n (x :: xs) (y :: ys) (a && b)
end
theorem EqV.bool {H : AHeap} {n : Nat} (a b : Bool) : EqV H n (.bool a) (.bool b) (a == b) := .atom (.bool a b)
theorem EqV.int {H : AHeap} {n : Nat} (a b : Int) : EqV H n (.int a) (.int b) (a == b) := .atom (.int a b)
theorem EqV.str {H : AHeap} {n : Nat} (a b : Str) : EqV H n (.str a) (.str b) (a == b) := .atom (.str a b)
inductive EqD (H : AHeap) : List (Str × PV) → List (Str × PV) → Bool → Prop
  | nil {ys : List (Str × PV)} : EqD H ys [] true
  | miss {ys xs : List (Str × PV)} {k : Str} {v : PV} : dget ys k = none → EqD H ys ((k, v) :: xs) false
  | c {ys xs : List (Str × PV)} {k : Str} {v w : PV} {a b : Bool} : dget ys k = some w → EqV H 40 v w a → EqD H ys xs b → EqD H ys ((k, v) :: xs) (a && b)
inductive EqT (H : AHeap) : PV → PV → Bool → Prop
  | val {v w : PV} {b : Bool} : EqV H 40 v w b → EqT H v w b
  | dict {a b : Addr} {xs ys : List (Str × PV)} {r : Bool} : H a = some (.dict xs) → H b = some (.dict ys) → xs.length = ys.length → EqD H ys xs r → EqT H (.obj a) (.obj b) r
  | dictlen {a b : Addr} {xs ys : List (Str × PV)} : H a = some (.dict xs) → H b = some (.dict ys) → xs.length ≠ ys.length → EqT H (.obj a) (.obj b) false

noncomputable def litW (c : Const) (Q : Post) (H : AHeap) : Prop :=
  match c with
  | .none => Q .none H
  | .bool b => Q (.bool b) H
  | .int i => Q (.int i) H
  | .str s => Q (.str s) H
  | _ => False
noncomputable def varW (v : Option PV) (Q : Post) (H : AHeap) : Prop :=
  match v with
  | some v => Q v H
  | none => False
noncomputable def truthW (v : PV) (K : Bool → Prop) : Prop :=
  match v with
  | .bool b => K b
  | _ => False
noncomputable def repL (n : Int) (xs : List PV) : List PV := (List.replicate n.toNat xs).flatten
inductive BinW (Q : Post) (H : AHeap) : Operator → PV → PV → Prop
  | addI (a b : Int) (h : Q (.int (a + b)) H) : BinW Q H .Add (.int a) (.int b)
  | subI (a b : Int) (h : Q (.int (a - b)) H) : BinW Q H .Sub (.int a) (.int b)
  | mulI (a b : Int) (k : a.natAbs < 2 ^ 60 ∨ b.natAbs < 2 ^ 60) (h : Q (.int (a * b)) H) : BinW Q H .Mult (.int a) (.int b)
  | modI (a b : Int) (k : 0 < b) (h : Q (.int (a % b)) H) : BinW Q H .Mod (.int a) (.int b)
  | divI (a b : Int) (k : 0 < b) (k' : b < 1073741824) (h : Q (.int (a / b)) H) : BinW Q H .FloorDiv (.int a) (.int b)
  | powI (h : Q (.int 1000000000) H) : BinW Q H .Pow (.int 10) (.int 9)
  | addS (a b : Str) (k : a.length + b.length ≤ LIM) (h : Q (.str (a ++ b)) H) : BinW Q H .Add (.str a) (.str b)
  | addT (a b : List PV) (k : a.length + b.length ≤ LIM) (h : Q (.tup (a ++ b)) H) : BinW Q H .Add (.tup a) (.tup b)
  | addL (a b : Addr) (xs ys : List PV) (ha : H a = some (.list xs)) (hb : H b = some (.list ys)) (k : xs.length + ys.length ≤ LIM) (h : alloc (.list (xs ++ ys)) Q H) : BinW Q H .Add (.obj a) (.obj b)
  | mulL (a : Addr) (n : Int) (xs : List PV) (ha : H a = some (.list xs)) (k1 : n ≤ LIM) (k2 : -LIM ≤ n) (k3 : xs.length * n.toNat ≤ LIM) (h : alloc (.list (repL n xs)) Q H) : BinW Q H .Mult (.obj a) (.int n)
/-- a told value, or a rule -/
noncomputable def pureOr {α : Type} (f : Option α) (K : α → Prop) (R : Prop) : Prop := match f with
  | some a => K a
  | none => R
theorem pureOr.to {α : Type} {f : Option α} {K : α → Prop} {R : Prop} (h : pureOr f K R) (k : ∀ a, f = some a → K a → R) : R := by
  cases f with
  | none => exact h
  | some a => exact k a rfl h
noncomputable def intF (op : Operator) (a b : Int) : Option Int := match op with
  | .Add => some (a + b)
  | .Sub => some (a - b)
  | .Mod => if 0 < b then some (a % b) else none
  | .FloorDiv => if 0 < b then if b < 1073741824 then some (a / b) else none else none
  | _ => none
noncomputable def binF (op : Operator) (v w : PV) : Option PV := match v with
  | .int a => (match w with
    | .int b => (match intF op a b with | some i => some (.int i) | none => none)
    | _ => none)
  | _ => none
noncomputable def binW (op : Operator) (v w : PV) (Q : Post) (H : AHeap) : Prop := pureOr (binF op v w) (fun u => Q u H) (BinW Q H op v w)
noncomputable def hasKey (kvs : List (Str × PV)) (k : Str) : Bool := (dget kvs k).isSome
noncomputable def isN : PV → Bool
  | .none => true
  | _ => false
inductive CmpW (K : Bool → Prop) (H : AHeap) : CmpOp → PV → PV → Prop
  | eq {v w : PV} {b : Bool} (e : EqT H v w b) (h : K b) : CmpW K H .Eq v w
  | ne {v w : PV} {b : Bool} (e : EqT H v w b) (h : K (!b)) : CmpW K H .NotEq v w
  | lt (a b : Int) (h : K (decide (a < b))) : CmpW K H .Lt (.int a) (.int b)
  | le (a b : Int) (h : K (decide (a ≤ b))) : CmpW K H .LtE (.int a) (.int b)
  | gt (a b : Int) (h : K (decide (b < a))) : CmpW K H .Gt (.int a) (.int b)
  | isN {v : PV} (h : K (Mine.isN v)) : CmpW K H .Is v .none
  | niN {v : PV} (h : K (!Mine.isN v)) : CmpW K H .IsNot v .none
  | isB {a b : Bool} (h : K (a == b)) : CmpW K H .Is (.bool a) (.bool b)
  | niB {a b : Bool} (h : K (a != b)) : CmpW K H .IsNot (.bool a) (.bool b)
  | inD {k : Str} {a : Addr} {kvs : List (Str × PV)} (ha : H a = some (.dict kvs)) (h : K (hasKey kvs k)) : CmpW K H .In (.str k) (.obj a)
  | niD {k : Str} {a : Addr} {kvs : List (Str × PV)} (ha : H a = some (.dict kvs)) (h : K (!hasKey kvs k)) : CmpW K H .NotIn (.str k) (.obj a)
  | inL {k : Str} {a : Addr} {ks : List Str} (ha : H a = some (.list (ks.map .str))) (h : K (decide (k ∈ ks))) : CmpW K H .In (.str k) (.obj a)
  | niL {k : Str} {a : Addr} {ks : List Str} (ha : H a = some (.list (ks.map .str))) (h : K (!decide (k ∈ ks))) : CmpW K H .NotIn (.str k) (.obj a)
noncomputable def cmpI (op : CmpOp) (a b : Int) : Option Bool := match op with
  | .Eq => some (a == b)
  | .NotEq => some (!(a == b))
  | .Lt => some (decide (a < b))
  | .LtE => some (decide (a ≤ b))
  | .Gt => some (decide (b < a))
  | _ => none
noncomputable def cmpS (op : CmpOp) (a b : Str) : Option Bool := match op with
  | .Eq => some (a == b)
  | .NotEq => some (!(a == b))
  | _ => none
noncomputable def noneF (op : CmpOp) (v : PV) : Option Bool := match op with
  | .Is => some (isN v)
  | .IsNot => some (!isN v)
  | _ => none
noncomputable def cmpF (op : CmpOp) (v w : PV) : Option Bool := match v with
  | .int a => (match w with | .int b => cmpI op a b | _ => none)
  | .str a => (match w with | .str b => cmpS op a b | _ => none)
  | v => (match w with | .none => noneF op v | _ => none)
noncomputable def cmpW (op : CmpOp) (v w : PV) (Q : BPost) (H : AHeap) : Prop := pureOr (cmpF op v w) (fun b => Q b H) (CmpW (fun b => Q b H) H op v w)
noncomputable def itemAt {α : Type} (xs : List α) (k : Int) : Option α :=
  if 0 ≤ k then xs[k.toNat]? else if 0 ≤ k + xs.length then xs[(k + xs.length).toNat]? else none
noncomputable def signAt (s : Str) (k : Int) : Option Str := (itemAt s.cps.toList k).map fun c => ⟨#[c]⟩
inductive SubW (Q : Post) (H : AHeap) : PV → PV → Prop
  | tup {xs : List PV} {k : Int} {x : PV} (e : itemAt xs k = some x) (h : Q x H) : SubW Q H (.tup xs) (.int k)
  | str {s x : Str} {k : Int} (l : s.length ≤ LIM) (e : signAt s k = some x) (h : Q (.str x) H) : SubW Q H (.str s) (.int k)
  | fls {xs : List Int} {k x : Int} (e : itemAt xs k = some x) (h : Q (.int x) H) : SubW Q H (.fls xs) (.int k)
  | fdt {kvs : List (Str × PV)} {k : Str} {x : PV} (e : dget kvs k = some x) (h : Q x H) : SubW Q H (.fdt kvs) (.str k)
  | list {a : Addr} {xs : List PV} {k : Int} {x : PV} (ha : H a = some (.list xs)) (e : itemAt xs k = some x) (h : Q x H) : SubW Q H (.obj a) (.int k)
  | dict {a : Addr} {kvs : List (Str × PV)} {k : Str} {x : PV} (ha : H a = some (.dict kvs)) (e : dget kvs k = some x) (h : Q x H) : SubW Q H (.obj a) (.str k)
  | tape {a : Addr} {n : Nat} (ha : H a = some (.tape n)) (h : Q (.int n) H) : SubW Q H (.obj a) (.int 0)
noncomputable def subF (v i : PV) : Option PV := match v with
  | .tup xs => (match i with | .int k => itemAt xs k | _ => none)
  | _ => none
noncomputable def subW (v i : PV) (Q : Post) (H : AHeap) : Prop := pureOr (subF v i) (fun u => Q u H) (SubW Q H v i)
/-- where a cut falls in a row of n -/
noncomputable def cutAt (n : Nat) (k : Int) : Nat := if 0 ≤ k then min k.toNat n else (k + n).toNat
inductive FromW (Q : Post) (H : AHeap) : PV → PV → Prop
  | tup {xs : List PV} {k : Int} (h : Q (.tup (xs.drop (cutAt xs.length k))) H) : FromW Q H (.tup xs) (.int k)
  | str {s : Str} {k : Int} (l : s.length ≤ LIM) (h : Q (.str ⟨(s.cps.toList.drop (cutAt s.length k)).toArray⟩) H) : FromW Q H (.str s) (.int k)
  | list {a : Addr} {xs : List PV} {k : Int} (ha : H a = some (.list xs)) (h : alloc (.list (xs.drop (cutAt xs.length k))) Q H) : FromW Q H (.obj a) (.int k)
inductive ToW (Q : Post) (H : AHeap) : PV → PV → Prop
  | tup {xs : List PV} {k : Int} (h : Q (.tup (xs.take (cutAt xs.length k))) H) : ToW Q H (.tup xs) (.int k)
  | str {s : Str} {k : Int} (l : s.length ≤ LIM) (h : Q (.str ⟨(s.cps.toList.take (cutAt s.length k)).toArray⟩) H) : ToW Q H (.str s) (.int k)
  | fls {xs : List Int} {k : Int} (h : alloc (.list ((xs.take (cutAt xs.length k)).map .int)) Q H) : ToW Q H (.fls xs) (.int k)
  | list {a : Addr} {xs : List PV} {k : Int} (ha : H a = some (.list xs)) (h : alloc (.list (xs.take (cutAt xs.length k))) Q H) : ToW Q H (.obj a) (.int k)
inductive RevW (Q : Post) (H : AHeap) : PV → Prop
  | list {a : Addr} {xs : List PV} (ha : H a = some (.list xs)) (h : alloc (.list xs.reverse) Q H) : RevW Q H (.obj a)
noncomputable def dictOf (ks : List Str) (vs : List PV) : List (Str × PV) := (ks.zip vs).foldl (fun d p => dset d p.1 p.2) []
inductive BltW (Q : Post) (H : AHeap) : Blt → List PV → Prop
  | lenT (xs : List PV) (h : Q (.int xs.length) H) : BltW Q H .len [.tup xs]
  | lenS (s : Str) (l : s.length ≤ LIM) (h : Q (.int s.length) H) : BltW Q H .len [.str s]
  | lenF (xs : List Int) (h : Q (.int xs.length) H) : BltW Q H .len [.fls xs]
  | lenL (a : Addr) (xs : List PV) (ha : H a = some (.list xs)) (h : Q (.int xs.length) H) : BltW Q H .len [.obj a]
  | lenD (a : Addr) (kvs : List (Str × PV)) (ha : H a = some (.dict kvs)) (h : Q (.int kvs.length) H) : BltW Q H .len [.obj a]
  | listT (xs : List PV) (h : alloc (.list xs) Q H) : BltW Q H .list [.tup xs]
  | listL (a : Addr) (xs : List PV) (ha : H a = some (.list xs)) (h : alloc (.list xs) Q H) : BltW Q H .list [.obj a]
  | listD (a : Addr) (kvs : List (Str × PV)) (ha : H a = some (.dict kvs)) (h : alloc (.list (kvs.map fun x => .str x.1)) Q H) : BltW Q H .list [.obj a]
  | tupT (xs : List PV) (h : Q (.tup xs) H) : BltW Q H .tuple [.tup xs]
  | tupL (a : Addr) (xs : List PV) (ha : H a = some (.list xs)) (h : Q (.tup xs) H) : BltW Q H .tuple [.obj a]
  | range (n : Int) (k : n.natAbs ≤ LIM) (h : Q (.rng n) H) : BltW Q H .range [.int n]
  | max (a b : Int) (h : Q (.int (if a < b then b else a)) H) : BltW Q H .max [.int a, .int b]
  | min (a b : Int) (h : Q (.int (if b < a then b else a)) H) : BltW Q H .min [.int a, .int b]
  | intB (b : Bool) (h : Q (.int (if b then 1 else 0)) H) : BltW Q H .int [.bool b]
  | maxL (a : Addr) (ns : List Int) (ha : H a = some (.list (ns.map .int))) (k : 0 < ns.length) (h : ∀ M, M ∈ ns → (∀ x ∈ ns, x ≤ M) → Q (.int M) H) : BltW Q H .max [.obj a]
  | allL (a : Addr) (bs : List Bool) (ha : H a = some (.list (bs.map .bool))) (h : Q (.bool (bs.all id)) H) : BltW Q H .all [.obj a]
noncomputable def blt1 (b : Blt) (v : PV) : Option PV := match v with
  | .tup xs => (match b with | .len => some (.int xs.length) | .tuple => some (.tup xs) | _ => none)
  | .fls xs => (match b with | .len => some (.int xs.length) | _ => none)
  | .bool c => (match b with | .int => some (.int (if c then 1 else 0)) | _ => none)
  | _ => none
noncomputable def blt2 (b : Blt) (v w : PV) : Option PV := match v with
  | .int x => (match w with
    | .int y => (match b with | .max => some (.int (if x < y then y else x)) | .min => some (.int (if y < x then y else x)) | _ => none)
    | _ => none)
  | _ => none
noncomputable def bltF (b : Blt) (vs : List PV) : Option PV := match vs with
  | [v] => blt1 b v
  | [v, w] => blt2 b v w
  | _ => none
noncomputable def bltW (b : Blt) (vs : List PV) (Q : Post) (H : AHeap) : Prop := pureOr (bltF b vs) (fun u => Q u H) (BltW Q H b vs)
noncomputable def isSub (k c : Nat) : Bool := k == c || c == 0
noncomputable def ICls.basic : ICls → Bool
  | .str | .list | .tuple | .bool | .int => true
  | _ => false
noncomputable def ICls.hits (c : ICls) (t : Nat) : Bool := match c with
  | .bool => t == 1
  | .int => t == 1 || t == 2
  | .str => t == 3
  | .tuple => t == 4
  | .list => t == 5
  | _ => false
noncomputable def tagOf : PV → Option Nat
  | .none => some 0
  | .bool _ => some 1
  | .int _ => some 2
  | .str _ => some 3
  | .tup _ => some 4
  | _ => none
inductive IsiW (K : Bool → Prop) (H : AHeap) : ICls → PV → Prop
  | val {c : ICls} {v : PV} {t : Nat} (b : c.basic = true) (e : tagOf v = some t) (h : K (c.hits t)) : IsiW K H c v
  | list {c : ICls} {a : Addr} {xs : List PV} (b : c.basic = true) (ha : H a = some (.list xs)) (h : K (c.hits 5)) : IsiW K H c (.obj a)
noncomputable def isiF (c : ICls) (v : PV) : Option Bool := match c.basic with | true => (match tagOf v with | some t => some (c.hits t) | none => none) | false => none
noncomputable def isiW (c : ICls) (v : PV) (K : Bool → Prop) (H : AHeap) : Prop := pureOr (isiF c v) K (IsiW K H c v)
inductive MethW (Q : Post) (H : AHeap) : Meth → PV → List PV → Prop
  | append (a : Addr) (xs : List PV) (x : PV) (ha : H a = some (.list xs)) (k : xs.length < LIM) (h : mutate a (.list (xs ++ [x])) (fun H' => Q .none H') H) : MethW Q H .append (.obj a) [x]
  | dpop (a : Addr) (kvs : List (Str × PV)) (k : Str) (x : PV) (ha : H a = some (.dict kvs)) (e : dget kvs k = some x) (h : mutate a (.dict (kvs.filter fun p => decide (p.1 ≠ k))) (fun H' => Q x H') H) : MethW Q H .dpop (.obj a) [.str k]
  | join (s : Str) (a : Addr) (ss : List Str) (ha : H a = some (.list (ss.map .str))) (e : s.length = 0) (k : (ss.map (·.length)).sum ≤ LIM) (h : Q (.str (Str.join s ss)) H) : MethW Q H .join (.str s) [.obj a]
noncomputable def methW (m : Meth) (v : PV) (vs : List PV) (Q : Post) (H : AHeap) : Prop := MethW Q H m v vs
noncomputable def Meth.onL : Meth → Bool
  | .append | .pop | .insert | .count => true
  | _ => false
inductive RecvW (P : Prop) (H : AHeap) : Meth → PV → Prop
  | list {m : Meth} {a : Addr} {xs : List PV} (ha : H a = some (.list xs)) (k : m.onL = true) (h : P) : RecvW P H m (.obj a)
  | str {s : Str} (h : P) : RecvW P H .join (.str s)
  | dict {a : Addr} {kvs : List (Str × PV)} (ha : H a = some (.dict kvs)) (h : P) : RecvW P H .dpop (.obj a)
/-- what a loop goes over, and what must stay so -/
inductive ItemsW (K : List PV → (AHeap → Prop) → Prop) (H : AHeap) : PV → Prop
  | tup {xs : List PV} (h : K xs fun _ => True) : ItemsW K H (.tup xs)
  | rng {n : Int} (h : K ((List.range n.toNat).map fun (i : Nat) => .int i) fun _ => True) : ItemsW K H (.rng n)
  | list {a : Addr} {xs : List PV} (ha : H a = some (.list xs)) (h : K xs fun H' => H' a = some (.list xs)) : ItemsW K H (.obj a)
noncomputable def itemsF (v : PV) : Option (List PV) := match v with
  | .tup xs => some xs
  | .rng n => some ((List.range n.toNat).map fun (i : Nat) => .int i)
  | _ => none
noncomputable def itemsW (v : PV) (K : List PV → (AHeap → Prop) → Prop) (H : AHeap) : Prop := pureOr (itemsF v) (fun xs => K xs fun _ => True) (ItemsW K H v)
noncomputable def compW (src : AHeap → Prop) (el : PV → (List PV → AHeap → Prop) → AHeap → Prop) (Q : List PV → AHeap → Prop) : List PV → List PV → AHeap → Prop
  | [], acc, H => src H ∧ Q acc H
  | x :: xs, acc, H => src H ∧ el x (fun vs H' => compW src el Q xs (acc ++ vs) H') H
noncomputable def forW (src : AHeap → Prop) (st : PV → (Loc → AHeap → Prop) → Loc → AHeap → Prop) (N : Loc → AHeap → Prop) : List PV → Loc → AHeap → Prop
  | [], m, H => src H ∧ N m H
  | x :: xs, m, H => src H ∧ st x (fun m' H' => forW src st N xs m' H') m H

noncomputable def boolW (o : BoolOp) (b : Bool) (stop go : Prop) : Prop := match o with
  | .And => if b then go else stop
  | .Or => if b then stop else go
/-! objects of the program's own class -/
inductive AttrW (Q : Post) (H : AHeap) (nm : Str) : PV → Prop
  | mk {a d : Addr} {kvs : List (Str × PV)} {x : PV} (ha : H a = some (.inst d)) (hd : H d = some (.attrs kvs)) (e : dget kvs nm = some x) (h : Q x H) : AttrW Q H nm (.obj a)
inductive UmW (P : Prop) (H : AHeap) (nm : Str) : PV → Prop
  | mk {a d : Addr} {kvs : List (Str × PV)} (ha : H a = some (.inst d)) (hd : H d = some (.attrs kvs)) (e : dget kvs nm = none) (h : P) : UmW P H nm (.obj a)
inductive SattrW (K : AHeap → Prop) (H : AHeap) (nm : Str) (x : PV) : PV → Prop
  | mk {a d : Addr} {kvs : List (Str × PV)} (ha : H a = some (.inst d)) (hd : H d = some (.attrs kvs)) (l : kvs.length < 100) (h : mutate d (.attrs (dset kvs nm x)) K H) : SattrW K H nm x (.obj a)
structure Gl where
  C : CallSpec
  G : Str → Option PV

noncomputable def newW (g : Gl) (vs : List PV) (Q : Post) (X : XPost) (H : AHeap) : Prop := ∀ a d H', H a = none → H d = none → H' a = some (.inst d) → H' d = some (.attrs []) → Ext H H' → g.C "Machine.__init__" (.obj a :: vs) H' (fun r H => r = .none ∧ Q (.obj a) H) X
section
variable (g : Gl)
mutual
noncomputable def awpE : AE → Post → XPost → Loc → AHeap → Prop
  | .lit c _ _, Q, _, _, H => litW c Q H
  | .var i _, Q, _, m, H => varW (m.getD i none) Q H
  | .glob x _, Q, _, _, H => varW (g.G x) Q H
  | .bin l o r _, Q, X, m, H => awpE l (fun v H => awpE r (fun w H => binW o v w Q H) X m H) X m H
  | .neg e _, Q, X, m, H => awpE e (fun v H => match v with | .int i => Q (.int (-i)) H | _ => False) X m H
  | .not e _, Q, X, m, H => awpE e (fun v H => truthW v fun b => Q (.bool !b) H) X m H
  | .bop o es _, Q, X, m, H => awpV o es Q X m H
  | .cmp l o r _, Q, X, m, H => awpE l (fun v H => awpE r (fun w H => cmpW o v w (fun b H => Q (.bool b) H) H) X m H) X m H
  | .sub e i _, Q, X, m, H => awpE e (fun v H => awpE i (fun w H => subW v w Q H) X m H) X m H
  | .sfrom e i _ _, Q, X, m, H => awpE e (fun v H => awpE i (fun w H => FromW Q H v w) X m H) X m H
  | .sto e i _ _, Q, X, m, H => awpE e (fun v H => awpE i (fun w H => ToW Q H v w) X m H) X m H
  | .srev e _ _ _ _, Q, X, m, H => awpE e (fun v H => RevW Q H v) X m H
  | .tup es _ _, Q, X, m, H => awpL es (fun vs H => Q (.tup vs) H) X m H
  | .list es _, Q, X, m, H => awpL es (fun vs H => alloc (.list vs) Q H) X m H
  | .tape _ _, Q, _, _, H => alloc (.tape 0) Q H
  | .dict ks es _, Q, X, m, H => awpL es (fun vs H => alloc (.dict (dictOf (ks.map (·.1)) vs)) Q H) X m H
  | .call f es _ _, Q, X, m, H => awpL es (fun vs H => g.C f vs H Q X) X m H
  | .blt b es _ _, Q, X, m, H => awpL es (fun vs H => bltW b vs Q H) X m H
  | .isi e c _ _ _ _ _, Q, X, m, H => awpE e (fun v H => isiW c v (fun b => Q (.bool b) H) H) X m H
  | .meth e n es _ _, Q, X, m, H => awpE e (fun v H => RecvW (awpL es (fun vs H => methW n v vs Q H) X m H) H n v) X m H
  | .umeth o c nm es _ _, Q, X, m, H => awpE o (fun v H => UmW (awpL es (fun vs H => g.C c (v :: vs) H Q X) X m H) H nm v) X m H
  | .attr o nm _, Q, X, m, H => awpE o (fun v H => AttrW Q H nm v) X m H
  | .new es _ _, Q, X, m, H => awpL es (fun vs H => newW g vs Q X H) X m H
  | .comp e x _ it cs _ _, Q, X, m, H => awpE it (fun v H => itemsW v (fun xs src =>
      compW src (fun y K H => awpC cs (fun b H => if b then awpE e (fun v H => K [v] H) (fun _ _ => False) (m.set x (some y)) H else K [] H) (fun _ _ => False) (m.set x (some y)) H)
        (fun vs H => alloc (.list vs) Q H) xs [] H) H) X m H
noncomputable def awpL : AEs → (List PV → AHeap → Prop) → XPost → Loc → AHeap → Prop
  | .nil, Q, _, _, H => Q [] H
  | .cons e es, Q, X, m, H => awpE e (fun v H => awpL es (fun vs H => Q (v :: vs) H) X m H) X m H
noncomputable def awpV : BoolOp → AEs → Post → XPost → Loc → AHeap → Prop
  | _, .nil, _, _, _, _ => False
  | _, .cons e .nil, Q, X, m, H => awpE e Q X m H
  | o, .cons e es, Q, X, m, H => awpE e (fun v H => truthW v fun b => boolW o b (Q v H) (awpV o es Q X m H)) X m H
noncomputable def awpB : AE → (Post → XPost → Loc → AHeap → Prop) → BPost → XPost → Loc → AHeap → Prop
  | .not e _, _, Q, X, m, H => awpB e (awpE e) (fun b H => Q (!b) H) X m H
  | .bop o es _, _, Q, X, m, H => awpBs o es Q X m H
  | .cmp l o r _, _, Q, X, m, H => awpE l (fun v H => awpE r (fun w H => cmpW o v w Q H) X m H) X m H
  | _, W, Q, X, m, H => W (fun v H => truthW v fun b => Q b H) X m H
noncomputable def awpBs : BoolOp → AEs → BPost → XPost → Loc → AHeap → Prop
  | o, .nil, Q, _, _, H => Q (o == .And) H
  | o, .cons e es, Q, X, m, H => awpB e (awpE e) (fun b H => boolW o b (Q (match o with | .And => false | .Or => true) H) (awpBs o es Q X m H)) X m H
noncomputable def awpC : AEs → BPost → XPost → Loc → AHeap → Prop
  | .nil, Q, _, _, H => Q true H
  | .cons e _, Q, X, m, H => awpB e (awpE e) Q X m H
end

abbrev NPost := Loc → AHeap → Prop
abbrev SXPost := Nat → Loc → AHeap → Prop
noncomputable def unpackW (v : PV) (n : Nat) (K : List PV → Prop) : Prop :=
  match v with
  | .tup xs => xs.length = n ∧ K xs
  | _ => False
noncomputable def setAll : List (Nat × Pos) → List PV → Loc → Loc
  | x :: xs, v :: vs, m => setAll xs vs (m.set x.1 (some v))
  | _, _, m => m
inductive StoreW (K : AHeap → Prop) (H : AHeap) : PV → PV → PV → Prop
  | list {a : Addr} {xs : List PV} {k : Int} {x : PV} (ha : H a = some (.list xs)) (k0 : 0 ≤ k) (k1 : k < xs.length) (h : mutate a (.list (xs.set k.toNat x)) K H) : StoreW K H (.obj a) (.int k) x
  | dict {a : Addr} {kvs : List (Str × PV)} {k : Str} {x : PV} (ha : H a = some (.dict kvs)) (l : kvs.length < LIM) (h : mutate a (.dict (dset kvs k x)) K H) : StoreW K H (.obj a) (.str k) x
  | tape {a : Addr} {n : Nat} {j : Int} (ha : H a = some (.tape n)) (j0 : 0 ≤ j) (h : mutate a (.tape j.toNat) K H) : StoreW K H (.obj a) (.int 0) (.int j)
mutual
noncomputable def awpS : AS → NPost → Post → SXPost → Loc → AHeap → Prop
  | .expr e _, N, _, X, m, H => awpE g e (fun _ H => N m H) (fun c H => X c m H) m H
  | .assign x _ e _, N, _, X, m, H => awpE g e (fun v H => N (m.set x (some v)) H) (fun c H => X c m H) m H
  | .assignT xs _ _ e _, N, _, X, m, H => awpE g e (fun v H => unpackW v xs.length fun vs => N (setAll xs vs m) H) (fun c H => X c m H) m H
  | .store o i _ e _, N, _, X, m, H => awpE g e (fun x H => awpE g o (fun v H => awpE g i (fun w H => StoreW (fun H => N m H) H v w x) (fun c H => X c m H) m H) (fun c H => X c m H) m H) (fun c H => X c m H) m H
  | .sattr o nm _ e _, N, _, X, m, H => awpE g e (fun x H => awpE g o (fun v H => SattrW (fun H => N m H) H nm x v) (fun c H => X c m H) m H) (fun c H => X c m H) m H
  | .ite c a b _, N, R, X, m, H => awpB g c (awpE g c) (fun t H => if t then awpSs a N R X m H else awpSs b N R X m H) (fun c H => X c m H) m H
  | .for x _ it b _, N, R, X, m, H => awpE g it (fun v H => itemsW v (fun xs src => forW src (fun y K m H => awpSs b K R X (m.set x (some y)) H) N xs m H) H) (fun c H => X c m H) m H
  | .while c b _, N, R, X, m, H => ∃ I : Nat → Loc → AHeap → Prop, (∃ k, I k m H) ∧ ∀ k m H, I k m H →
      awpB g c (awpE g c) (fun t H => if t then awpSs b (fun m H => ∃ j, j < k ∧ I j m H) R X m H else N m H) (fun c H => X c m H) m H
  | .ret e _, _, R, X, m, H => awpE g e R (fun c H => X c m H) m H
  | .ret0 _, _, R, _, _, H => R .none H
  | .raise c _ _ _ _ _ _ _, _, _, X, m, H => X c m H
  | .try b hs _, N, R, _, m, H => awpSs b N R (fun c m H => awpHs hs c N R m H) m H
noncomputable def awpSs : ASs → NPost → Post → SXPost → Loc → AHeap → Prop
  | .nil, N, _, _, m, H => N m H
  | .cons s ss, N, R, X, m, H => awpS s (fun m H => awpSs ss N R X m H) R X m H
noncomputable def awpHs : AHs → Nat → NPost → Post → Loc → AHeap → Prop
  | .nil, _, _, _, _, _ => False
  | .cons k _ _ y b _ hs, c, N, R, m, H =>
    if isSub c k then (match y with
      | none => awpSs b N R (fun _ _ _ => False) m H
      | some y => awpSs b (fun m H => N (m.set y none) H) R (fun _ _ _ => False) (m.set y (some (.exc c))) H)
    else awpHs hs c N R m H
end
end
end Mine
end
section
namespace Mine
inductive An3 (p0 p1 p2 : Prop) : Prop
  | mk (h0 : p0) (h1 : p1) (h2 : p2) : An3 p0 p1 p2
inductive An4 (p0 p1 p2 p3 : Prop) : Prop
  | mk (h0 : p0) (h1 : p1) (h2 : p2) (h3 : p3) : An4 p0 p1 p2 p3
inductive An5 (p0 p1 p2 p3 p4 : Prop) : Prop
  | mk (h0 : p0) (h1 : p1) (h2 : p2) (h3 : p3) (h4 : p4) : An5 p0 p1 p2 p3 p4
inductive An6 (p0 p1 p2 p3 p4 p5 : Prop) : Prop
  | mk (h0 : p0) (h1 : p1) (h2 : p2) (h3 : p3) (h4 : p4) (h5 : p5) : An6 p0 p1 p2 p3 p4 p5
inductive An8 (p0 p1 p2 p3 p4 p5 p6 p7 : Prop) : Prop
  | mk (h0 : p0) (h1 : p1) (h2 : p2) (h3 : p3) (h4 : p4) (h5 : p5) (h6 : p6) (h7 : p7) : An8 p0 p1 p2 p3 p4 p5 p6 p7
inductive An9 (p0 p1 p2 p3 p4 p5 p6 p7 p8 : Prop) : Prop
  | mk (h0 : p0) (h1 : p1) (h2 : p2) (h3 : p3) (h4 : p4) (h5 : p5) (h6 : p6) (h7 : p7) (h8 : p8) : An9 p0 p1 p2 p3 p4 p5 p6 p7 p8
inductive An10 (p0 p1 p2 p3 p4 p5 p6 p7 p8 p9 : Prop) : Prop
  | mk (h0 : p0) (h1 : p1) (h2 : p2) (h3 : p3) (h4 : p4) (h5 : p5) (h6 : p6) (h7 : p7) (h8 : p8) (h9 : p9) : An10 p0 p1 p2 p3 p4 p5 p6 p7 p8 p9
inductive An11 (p0 p1 p2 p3 p4 p5 p6 p7 p8 p9 p10 : Prop) : Prop
  | mk (h0 : p0) (h1 : p1) (h2 : p2) (h3 : p3) (h4 : p4) (h5 : p5) (h6 : p6) (h7 : p7) (h8 : p8) (h9 : p9) (h10 : p10) : An11 p0 p1 p2 p3 p4 p5 p6 p7 p8 p9 p10
inductive Ex1 {α0 : Type} (P : α0 → Prop) : Prop
  | mk (x0 : α0) (h : P x0) : Ex1 P
inductive Ex2 {α0 : Type} {α1 : Type} (P : α0 → α1 → Prop) : Prop
  | mk (x0 : α0) (x1 : α1) (h : P x0 x1) : Ex2 P
inductive Ex3 {α0 : Type} {α1 : Type} {α2 : Type} (P : α0 → α1 → α2 → Prop) : Prop
  | mk (x0 : α0) (x1 : α1) (x2 : α2) (h : P x0 x1 x2) : Ex3 P
inductive Ex5 {α0 : Type} {α1 : Type} {α2 : Type} {α3 : Type} {α4 : Type} (P : α0 → α1 → α2 → α3 → α4 → Prop) : Prop
  | mk (x0 : α0) (x1 : α1) (x2 : α2) (x3 : α3) (x4 : α4) (h : P x0 x1 x2 x3 x4) : Ex5 P
inductive Ex6 {α0 : Type} {α1 : Type} {α2 : Type} {α3 : Type} {α4 : Type} {α5 : Type} (P : α0 → α1 → α2 → α3 → α4 → α5 → Prop) : Prop
  | mk (x0 : α0) (x1 : α1) (x2 : α2) (x3 : α3) (x4 : α4) (x5 : α5) (h : P x0 x1 x2 x3 x4 x5) : Ex6 P
inductive Ex4 {α0 : Type} {α1 : Type} {α2 : Type} {α3 : Type} (P : α0 → α1 → α2 → α3 → Prop) : Prop
  | mk (x0 : α0) (x1 : α1) (x2 : α2) (x3 : α3) (h : P x0 x1 x2 x3) : Ex4 P
inductive An7 (p0 p1 p2 p3 p4 p5 p6 : Prop) : Prop
  | mk (h0 : p0) (h1 : p1) (h2 : p2) (h3 : p3) (h4 : p4) (h5 : p5) (h6 : p6) : An7 p0 p1 p2 p3 p4 p5 p6
inductive An12 (p0 p1 p2 p3 p4 p5 p6 p7 p8 p9 p10 p11 : Prop) : Prop
  | mk (h0 : p0) (h1 : p1) (h2 : p2) (h3 : p3) (h4 : p4) (h5 : p5) (h6 : p6) (h7 : p7) (h8 : p8) (h9 : p9) (h10 : p10) (h11 : p11) : An12 p0 p1 p2 p3 p4 p5 p6 p7 p8 p9 p10 p11
inductive An2 (p0 p1 : Prop) : Prop
  | mk (h0 : p0) (h1 : p1) : An2 p0 p1
theorem bd0 {n j k : Nat} (h : n < 2 ^ j) (e : 2 ^ j ≤ 2 ^ k) : n < 2 ^ k := Nat.lt_of_lt_of_le h e
theorem bd1 {n c j k : Nat} (h : n < 2 ^ j) (e : 2 ^ j + c ≤ 2 ^ k) : n + c < 2 ^ k := Nat.lt_of_lt_of_le (Nat.add_lt_add_right h c) e
theorem bd2 {n n' c d j k : Nat} (h : n < 2 ^ j) (q : n' ≤ n + c) (e : 2 ^ j + c + d ≤ 2 ^ k) : n' + d < 2 ^ k := Nat.lt_of_lt_of_le (Nat.add_lt_add_right (Nat.lt_of_le_of_lt q (Nat.add_lt_add_right h c)) d) e
theorem bd3 {n n' c j k : Nat} (h : n < 2 ^ j) (q : n' ≤ n + c) (e : 2 ^ j + c ≤ 2 ^ k) : n' < 2 ^ k := Nat.lt_of_lt_of_le (Nat.lt_of_le_of_lt q (Nat.add_lt_add_right h c)) e
end Mine
end
section
open PySem PySem.Calls PyProof.Rows
namespace Mine
set_option autoImplicit false

structure Cx where
  prog : Program
  w : World
  B : Heap
  cls : Nat → Option Addr
  icls : Option Addr
  mN : Str → Option Value
  ga : Addr
  ba : Addr
abbrev Cx.M (cx : Cx) : Model := model cx.prog cx.w
abbrev Cx.sk (cx : Cx) : KeyKind cx.prog cx.w Str := PySem.strKind cx.prog cx.w

noncomputable def tupObj (items : Array Value) (n : Nat) : Obj := { cls := .type "tuple", data := .seq items n }
noncomputable def lstObj (items : Array Value) (n : Nat) : Obj := { cls := .type "list", data := .seq items n }
noncomputable def rngObj (n : Int) (t u v : Tok) : Obj := { cls := .type "range", dict := none, data := .fields #[.int 0 t, .int n u, .int 1 v], slots := #[] }
noncomputable def insObj (C d : Addr) : Obj := { cls := .ref C, dict := some d }

mutual
inductive Rep (cx : Cx) (h : Heap) : Value → PV → Prop
  | none : Rep cx h .none .none
  | bool (b : Bool) : Rep cx h (.bool b) (.bool b)
  | int (i : Int) (t : Tok) : Rep cx h (.int i t) (.int i)
  | str (x : Str) (t : Tok) : Rep cx h (.str x t) (.str x)
  | tup {a : Addr} {items : Array Value} {n : Nat} {xs : List PV} : h.get? a = some (tupObj items n) → xs.length ≤ LIM → RepL cx h items.toList xs → Rep cx h (.ref a) (.tup xs)
  | obj (a : Addr) : Rep cx h (.ref a) (.obj a)
  | exc {e : Addr} {o : Obj} {vs : Array Value} {c : Nat} {C : Addr} : h.get? e = some o → o.cls = .ref C → o.data = .fields vs → cx.cls c = some C → o.dict = none → Rep cx h (.ref e) (.exc c)
  | fls {a : Addr} {items : Array Value} {ns : List Int} : cx.B.IsList a items → IntsAre items.toList ns → ns.length ≤ LIM → Rep cx h (.ref a) (.fls ns)
  | fdt {a : Addr} {vs : List (Str × Value)} {kvs : List (Str × PV)} : cx.B.DictOf cx.sk a vs → RepK cx h vs kvs → Rep cx h (.ref a) (.fdt kvs)
  | rng {a : Addr} {n : Int} {t u v : Tok} : h.get? a = some (rngObj n t u v) → n.natAbs ≤ LIM → Rep cx h (.ref a) (.rng n)
inductive RepL (cx : Cx) (h : Heap) : List Value → List PV → Prop
  | nil : RepL cx h [] []
  | cons {v : Value} {p : PV} {vs : List Value} {ps : List PV} : Rep cx h v p → RepL cx h vs ps → RepL cx h (v :: vs) (p :: ps)
inductive RepK (cx : Cx) (h : Heap) : List (Str × Value) → List (Str × PV) → Prop
  | nil : RepK cx h [] []
  | cons {k : Str} {v : Value} {p : PV} {vs : List (Str × Value)} {ps : List (Str × PV)} : Rep cx h v p → RepK cx h vs ps → RepK cx h ((k, v) :: vs) ((k, p) :: ps)
end

noncomputable def RepO (cx : Cx) (h : Heap) (a : Addr) : AObj → Prop
  | .list xs => ∃ items n, h.get? a = some (lstObj items n) ∧ RepL cx h items.toList xs ∧ xs.length ≤ LIM
  | .tape k => ∃ t n, h.get? a = some (lstObj #[.int k t] n)
  | .dict kvs => ∃ vs, h.DictOf cx.sk a vs ∧ RepK cx h vs kvs ∧ kvs.length ≤ LIM ∧ (a == sysModules) = false
  | .inst d => ∃ C o, cx.icls = some C ∧ h.get? a = some o ∧ o.cls = .ref C ∧ o.dict = some d ∧ ∀ c, o.data ≠ .cls c
  | .attrs kvs => ∃ m, h.Ns1 a m ∧ h.ExactDictFk a ∧ (∀ x p, dget kvs x = some p → ∃ v, m x = some v ∧ Rep cx h v p) ∧ (∀ x, dget kvs x = none → m x = none) ∧ kvs.length ≤ 100

/-- the objects that values hang on -/
noncomputable def Solid (o : Obj) : Prop := (∃ items n, o = tupObj items n) ∨ (∃ n t u v, o = rngObj n t u v) ∨ ((∃ C, o.cls = .ref C) ∧ o.dict = none ∧ ∃ vs, o.data = .fields vs)
noncomputable def Holds (cx : Cx) (h : Heap) (H : AHeap) : Prop := ∀ a o, H a = some o → RepO cx h a o

theorem RepO.get {cx : Cx} {h : Heap} {a : Addr} {o : AObj} (r : RepO cx h a o) : ∃ ob, h.get? a = some ob ∧ ¬ Solid ob ∧ ∀ vs, ob.data = .fields vs → ob.dict ≠ none ∧ ∃ C, ob.cls = .ref C := by
  cases o with
  | list xs =>
    obtain ⟨items, n, e, _⟩ := r
    exact ⟨_, e, by rintro (⟨i, n, q⟩ | ⟨n, t, u, v, q⟩ | ⟨⟨C, q⟩, _⟩) <;> simp [lstObj, tupObj, rngObj] at q, by simp [lstObj]⟩
  | tape k =>
    obtain ⟨t, n, e⟩ := r
    exact ⟨_, e, by rintro (⟨i, n, q⟩ | ⟨n, t, u, v, q⟩ | ⟨⟨C, q⟩, _⟩) <;> simp [lstObj, tupObj, rngObj] at q, by simp [lstObj]⟩
  | dict kvs =>
    obtain ⟨vs, ⟨o, es, ep, e, ⟨hc, _⟩, hd, _⟩, _⟩ := r
    refine ⟨_, e, ?_, fun vs q => by rw [hd] at q; cases q⟩
    rintro (⟨i, n, q⟩ | ⟨n, t, u, v, q⟩ | ⟨⟨C, q⟩, _⟩)
    · rw [q] at hc; simp [tupObj] at hc
    · rw [q] at hc; simp [rngObj] at hc
    · rw [q] at hc; simp at hc
  | attrs kvs =>
    obtain ⟨m, ⟨o, es, ep, e, hd, _⟩, ⟨od, e', hc, _⟩, _⟩ := r
    rw [e] at e'
    cases e'
    refine ⟨_, e, ?_, fun vs q => by rw [hd] at q; cases q⟩
    rintro (⟨i, n, q⟩ | ⟨n, t, u, v, q⟩ | ⟨⟨C, q⟩, _⟩)
    · rw [q] at hc; simp [tupObj] at hc
    · rw [q] at hc; simp [rngObj] at hc
    · rw [q] at hc; simp at hc
  | inst d =>
    obtain ⟨C, o, _, e, hc, hd, _⟩ := r
    refine ⟨_, e, ?_, fun _ _ => ⟨by rw [hd]; exact fun q => (nomatch q), C, hc⟩⟩
    rintro (⟨i, n, rfl⟩ | ⟨n, t, u, v, rfl⟩ | ⟨_, q, _⟩)
    · cases hd
    · cases hd
    · rw [hd] at q; cases q

mutual
theorem Rep.mono' {cx : Cx} {h h' : Heap} (k : ∀ b o, h.get? b = some o → Solid o → h'.get? b = some o ∨ ((∃ C, o.cls = .ref C) ∧ ∃ o' vs', h'.get? b = some o' ∧ (o'.cls = o.cls ∧ o'.dict = o.dict) ∧ o'.data = .fields vs')) : ∀ {v : Value} {p : PV}, Rep cx h v p → Rep cx h' v p
  | _, _, .none => .none
  | _, _, .bool b => .bool b
  | _, _, .int i t => .int i t
  | _, _, .str x t => .str x t
  | _, _, .tup e l r => by
    rcases k _ _ e (.inl ⟨_, _, rfl⟩) with e' | ⟨⟨C, q⟩, _⟩
    · exact .tup e' l (RepL.mono' k r)
    · cases q
  | _, _, .obj a => .obj a
  | _, _, .exc e c d x y => by
    rcases k _ _ e (.inr (.inr ⟨⟨_, c⟩, y, _, d⟩)) with e' | ⟨_, o', vs', e', c', d'⟩
    · exact .exc e' c d x y
    · exact .exc e' (c'.1.trans c) d' x (c'.2.trans y)
  | _, _, .fls e i l => .fls e i l
  | _, _, .fdt d r => .fdt d (RepK.mono' k r)
  | _, _, .rng e l => by
    rcases k _ _ e (.inr (.inl ⟨_, _, _, _, rfl⟩)) with e' | ⟨⟨C, q⟩, _⟩
    · exact .rng e' l
    · cases q
theorem RepL.mono' {cx : Cx} {h h' : Heap} (k : ∀ b o, h.get? b = some o → Solid o → h'.get? b = some o ∨ ((∃ C, o.cls = .ref C) ∧ ∃ o' vs', h'.get? b = some o' ∧ (o'.cls = o.cls ∧ o'.dict = o.dict) ∧ o'.data = .fields vs')) : ∀ {vs : List Value} {ps : List PV}, RepL cx h vs ps → RepL cx h' vs ps
  | _, _, .nil => .nil
  | _, _, .cons r rs => .cons (Rep.mono' k r) (RepL.mono' k rs)
theorem RepK.mono' {cx : Cx} {h h' : Heap} (k : ∀ b o, h.get? b = some o → Solid o → h'.get? b = some o ∨ ((∃ C, o.cls = .ref C) ∧ ∃ o' vs', h'.get? b = some o' ∧ (o'.cls = o.cls ∧ o'.dict = o.dict) ∧ o'.data = .fields vs')) : ∀ {vs : List (Str × Value)} {ps : List (Str × PV)}, RepK cx h vs ps → RepK cx h' vs ps
  | _, _, .nil => .nil
  | _, _, .cons r rs => .cons (Rep.mono' k r) (RepK.mono' k rs)
end
theorem Rep.mono {cx : Cx} {h h' : Heap} (k : ∀ b o, h.get? b = some o → Solid o → h'.get? b = some o) {v : Value} {p : PV} (r : Rep cx h v p) : Rep cx h' v p := Rep.mono' (fun b o e s => .inl (k b o e s)) r
theorem RepL.mono {cx : Cx} {h h' : Heap} (k : ∀ b o, h.get? b = some o → Solid o → h'.get? b = some o) {vs : List Value} {ps : List PV} (r : RepL cx h vs ps) : RepL cx h' vs ps := RepL.mono' (fun b o e s => .inl (k b o e s)) r
theorem RepK.mono {cx : Cx} {h h' : Heap} (k : ∀ b o, h.get? b = some o → Solid o → h'.get? b = some o) {vs : List (Str × Value)} {ps : List (Str × PV)} (r : RepK cx h vs ps) : RepK cx h' vs ps := RepK.mono' (fun b o e s => .inl (k b o e s)) r

theorem RepL.length {cx : Cx} {h : Heap} : ∀ {vs : List Value} {ps : List PV}, RepL cx h vs ps → vs.length = ps.length
  | _, _, .nil => rfl
  | _, _, .cons _ rs => by simp [RepL.length rs]
theorem RepK.length {cx : Cx} {h : Heap} : ∀ {vs : List (Str × Value)} {ps : List (Str × PV)}, RepK cx h vs ps → vs.length = ps.length
  | _, _, .nil => rfl
  | _, _, .cons _ rs => by simp [RepK.length rs]

noncomputable def SameO (o o' : Obj) : Prop := o' = o ∨ ((∃ es ep, o.data = .dict es ep) ∧ ∃ sl, o' = { o with slots := sl })
theorem SameO.refl (o : Obj) : SameO o o := .inl rfl
theorem SameO.data {o o' : Obj} (h : SameO o o') : o'.data = o.data := by rcases h with rfl | ⟨_, sl, rfl⟩ <;> rfl
theorem SameO.trans {a b c : Obj} (h : SameO a b) (k : SameO b c) : SameO a c := by
  rcases k with rfl | ⟨hc, sl, rfl⟩
  · exact h
  · rcases h with rfl | ⟨hb, sl', rfl⟩
    · exact .inr ⟨hc, sl, rfl⟩
    · exact .inr ⟨hb, sl, rfl⟩
theorem SameO.eq {o o' : Obj} (h : SameO o o') (n : ∀ es ep, o.data ≠ .dict es ep) : o' = o := h.resolve_right fun ⟨⟨es, ep, q⟩, _⟩ => n es ep q

/-- what a piece of a run leaves as it was -/
structure Kp (cx : Cx) (S : List Addr) (H : AHeap) (s : Shared) (H' : AHeap) (s' : Shared) : Prop where
  same : ∃ h' tk, s' = { s with heap := h', toks := tk }
  keep : ∀ b o, s.heap.get? b = some o → b ∉ S → H b = none → H' b = none ∧ ∃ o', s'.heap.get? b = some o' ∧ SameO o o'
  alive : ∀ b o, s.heap.get? b = some o → ∃ o', s'.heap.get? b = some o'
  base : ∀ b o, cx.B.get? b = some o → s.heap.get? b = some o → s'.heap.get? b = some o

theorem Kp.refl (cx : Cx) (S : List Addr) (H : AHeap) (s : Shared) : Kp cx S H s H s :=
  ⟨⟨s.heap, s.toks, rfl⟩, fun _ o e _ h => ⟨h, o, e, .refl o⟩, fun _ o e => ⟨o, e⟩, fun _ _ _ e => e⟩
theorem Kp.trans {cx : Cx} {S : List Addr} {H H₁ H₂ : AHeap} {s s₁ s₂ : Shared} (a : Kp cx S H s H₁ s₁) (b : Kp cx S H₁ s₁ H₂ s₂) : Kp cx S H s H₂ s₂ where
  same := by obtain ⟨h, t, rfl⟩ := a.same; obtain ⟨h', t', rfl⟩ := b.same; exact ⟨h', t', rfl⟩
  keep := fun x o e n hn => by
    obtain ⟨h1, o1, e1, s1⟩ := a.keep x o e n hn
    obtain ⟨h2, o2, e2, s2⟩ := b.keep x o1 e1 n h1
    exact ⟨h2, o2, e2, s1.trans s2⟩
  alive := fun x o e => let ⟨o1, e1⟩ := a.alive x o e; b.alive x o1 e1
  base := fun x o e e' => b.base x o e (a.base x o e e')
theorem Kp.sub {cx : Cx} {S S' : List Addr} {H H' : AHeap} {s s' : Shared} (a : Kp cx S H s H' s') (k : ∀ b o, s.heap.get? b = some o → b ∈ S → b ∈ S') : Kp cx S' H s H' s' :=
  ⟨a.same, fun b o e n hn => a.keep b o e (fun q => n (k b o e q)) hn, a.alive, a.base⟩
theorem Kp.nil {cx : Cx} {S : List Addr} {H H' : AHeap} {s s' : Shared} (a : Kp cx [] H s H' s') : Kp cx S H s H' s' := a.sub fun _ _ _ q => nomatch q
/-- every object stays, the abstract heap is the same or larger by new ones -/
theorem Kp.grow {cx : Cx} {S : List Addr} {H H' : AHeap} {s : Shared} {h' : Heap} {tk : Nat} (k : ∀ b o, s.heap.get? b = some o → h'.get? b = some o)
    (hH : ∀ b o, s.heap.get? b = some o → H b = none → H' b = none) : Kp cx S H s H' { s with heap := h', toks := tk } :=
  ⟨⟨h', tk, rfl⟩, fun b o e _ hn => ⟨hH b o e hn, o, k b o e, .refl o⟩, fun b o e => ⟨o, k b o e⟩, fun b o _ e => k b o e⟩

structure Fm where
  A : Around
  env : Env
  fs : List Env
  nm : List Str
  vis : Nat → Bool

inductive FrAt (cx : Cx) (H : AHeap) (h : Heap) (env : Env) : Prop
  | mk (hk : env.scope.kind ≠ .module) (L : Addr) (o : Obj) (es : Array DictEntry) (ep : Nat) (hf : env.frame = some L) (hH : H L = none) (hb : cx.B.get? L = none) (ho : h.get? L = some o) (hd : o.data = .dict es ep) : FrAt cx H h env
inductive VarsAt (cx : Cx) (F : Fm) (m : Loc) (h : Heap) : Prop
  | mk (o : Obj) (es : Array DictEntry) (ep : Nat) (mc : Str → Option Value) (ho : h.get? F.env.locals = some o) (hd : o.data = .dict es ep) (ns : h.Ns F.env.locals mc)
    (hv : ∀ i v, F.vis i = true → F.env.kindOf (slot F.nm i) = some .local → m.getD i none = some v → ∃ x, mc (slot F.nm i) = some x ∧ Rep cx h x v) : VarsAt cx F m h
inductive CellAt (cx : Cx) (F : Fm) (m : Loc) (H : AHeap) (h : Heap) (n : Str) (c : Addr) : Prop
  | mk (h1 : H c = none) (h2 : cx.B.get? c = none) (o : Obj) (x : Option Value) (ho : h.get? c = some o) (hd : o.data = .cell x)
    (hv : ∀ i v, F.vis i = true → slot F.nm i = n → F.env.kindOf n ≠ some .local → m.getD i none = some v → ∃ y, x = some y ∧ Rep cx h y v) : CellAt cx F m H h n c

structure St (cx : Cx) (F : Fm) (m : Loc) (H : AHeap) (h : Heap) : Prop where
  base : cx.B.StaysIn h
  off : ∀ b o, cx.B.get? b = some o → H b = none
  heap : Holds cx h H
  frames : ∀ env ∈ F.fs, FrAt cx H h env
  own : H F.env.locals = none ∧ cx.B.get? F.env.locals = none
  vars : VarsAt cx F m h
  cells : ∀ n c, F.env.cells.lookup n = some c → CellAt cx F m H h n c

theorem Solid.notLoc {o : Obj} (h : Solid o) : (∀ es ep, o.data ≠ .dict es ep) ∧ ∀ x, o.data ≠ .cell x := by
  rcases h with ⟨i, n, rfl⟩ | ⟨n, t, u, v, rfl⟩ | ⟨_, _, vs, q⟩
  · exact ⟨fun _ _ q => (nomatch q), fun _ q => (nomatch q)⟩
  · exact ⟨fun _ _ q => (nomatch q), fun _ q => (nomatch q)⟩
  · exact ⟨fun _ _ q' => by rw [q] at q'; exact (nomatch q'), fun _ q' => by rw [q] at q'; exact (nomatch q')⟩
theorem Holds.none_of_solid {cx : Cx} {h : Heap} {H : AHeap} (k : Holds cx h H) {b : Addr} {o : Obj} (e : h.get? b = some o) (s : Solid o) : H b = none := by
  cases q : H b with
  | none => rfl
  | some x => obtain ⟨ob, e', n, _⟩ := (k b x q).get; rw [e] at e'; cases e'; exact absurd s n
theorem Holds.fresh {cx : Cx} {h : Heap} {H : AHeap} (k : Holds cx h H) {b : Addr} (e : h.get? b = none) : H b = none := by
  cases q : H b with
  | none => rfl
  | some x => obtain ⟨ob, e', _⟩ := (k b x q).get; rw [e] at e'; cases e'

/-- values stay, S holding names' places alone -/
theorem Kp.solid {cx : Cx} {S : List Addr} {H H' : AHeap} {s s' : Shared} (k : Kp cx S H s H' s') (hh : Holds cx s.heap H)
    (hS : ∀ b ∈ S, ∀ o, s.heap.get? b = some o → (∃ es ep, o.data = .dict es ep) ∨ ∃ x, o.data = .cell x) : ∀ b o, s.heap.get? b = some o → Solid o → s'.heap.get? b = some o := fun b o e so => by
  obtain ⟨_, o', e', sm⟩ := k.keep b o e (fun q => by
    rcases hS b q o e with ⟨es, ep, d⟩ | ⟨x, d⟩
    · exact so.notLoc.1 _ _ d
    · exact so.notLoc.2 _ d) (hh.none_of_solid e so)
  rw [sm.eq so.notLoc.1] at e'; exact e'
theorem Kp.solid0 {cx : Cx} {H H' : AHeap} {s s' : Shared} (k : Kp cx [] H s H' s') (hh : Holds cx s.heap H) : ∀ b o, s.heap.get? b = some o → Solid o → s'.heap.get? b = some o :=
  k.solid hh fun _ q => nomatch q

theorem FrAt.step {cx : Cx} {H H' : AHeap} {S : List Addr} {s s' : Shared} (k : Kp cx S H s H' s') {env : Env} (f : FrAt cx H s.heap env) (n : ∀ L, env.frame = some L → L ∉ S) : FrAt cx H' s'.heap env := by
  obtain ⟨hk, L, o, es, ep, hf, hH, hb, ho, hd⟩ := f
  obtain ⟨hH', o', e', sm⟩ := k.keep L o ho (n L hf) hH
  exact ⟨hk, L, o', es, ep, hf, hH', hb, e', sm.data.trans hd⟩

/-- an expression's step leaves the frame's state -/
theorem St.step {cx : Cx} {F : Fm} {m : Loc} {H H' : AHeap} {s s' : Shared} (t : St cx F m H s.heap) (k : Kp cx [] H s H' s') (hh : Holds cx s'.heap H') : St cx F m H' s'.heap := by
  have so := k.solid0 t.heap
  refine ⟨fun b o e => k.base b o e (t.base b o e), fun b o e => ?_, hh, (fun env he => (t.frames env he).step k (fun L _ q => nomatch q)), ?_, ?_, fun n c hc => ?_⟩
  · exact (k.keep b o (t.base b o e) (fun q => nomatch q) (t.off b o e)).1
  · obtain ⟨o, es, ep, mc, ho, _⟩ := t.vars
    exact ⟨(k.keep _ o ho (fun q => nomatch q) t.own.1).1, t.own.2⟩
  · obtain ⟨o, es, ep, mc, ho, hd, ⟨o1, es1, ep1, ho1, hd1, hk1, hm1⟩, hv⟩ := t.vars
    obtain ⟨_, o', e', sm⟩ := k.keep _ o ho (fun q => nomatch q) t.own.1
    rw [ho] at ho1; cases ho1
    exact ⟨o', es, ep, mc, e', sm.data.trans hd, ⟨o', es1, ep1, e', sm.data.trans hd1, hk1, hm1⟩, fun i v h1 h2 h3 => let ⟨x, q, r⟩ := hv i v h1 h2 h3; ⟨x, q, r.mono so⟩⟩
  · obtain ⟨h1, h2, o, x, ho, hd, hv⟩ := t.cells n c hc
    obtain ⟨h3, o', e', sm⟩ := k.keep c o ho (fun q => nomatch q) h1
    exact ⟨h3, h2, o', x, e', sm.data.trans hd, fun i v a b c d => let ⟨y, q, r⟩ := hv i v a b c d; ⟨y, q, r.mono so⟩⟩

noncomputable def upd (H : AHeap) (a : Addr) (o : AObj) : AHeap := fun b => if b = a then some o else H b
theorem upd_self (H : AHeap) (a : Addr) (o : AObj) : upd H a o a = some o := by simp [upd]
theorem upd_ne {H : AHeap} {a b : Addr} {o : AObj} (n : b ≠ a) : upd H a o b = H b := by simp [upd, n]
theorem upd_ext {H : AHeap} {a : Addr} {o : AObj} (e : H a = none) : Ext H (upd H a o) := fun b x hb => by
  rw [upd_ne]; exact hb
  rintro rfl; rw [e] at hb; cases hb
theorem upd_extB (H : AHeap) (a : Addr) (o : AObj) : ExtB a H (upd H a o) := fun _ _ n hb => by rw [upd_ne n]; exact hb

theorem Holds.grow {cx : Cx} {h h' : Heap} {H : AHeap} (k : Holds cx h H) (g : ∀ b o, h.get? b = some o → h'.get? b = some o) : Holds cx h' H := fun a o e => by
  have r := k a o e
  have so : ∀ b o, h.get? b = some o → Solid o → h'.get? b = some o := fun b o e _ => g b o e
  cases o with
  | list xs => obtain ⟨items, n, e, r, l⟩ := r; exact ⟨items, n, g _ _ e, r.mono so, l⟩
  | tape k => obtain ⟨t, n, e⟩ := r; exact ⟨t, n, g _ _ e⟩
  | dict kvs => obtain ⟨vs, d, r, l⟩ := r; exact ⟨vs, d.keep g, r.mono so, l⟩
  | inst d => obtain ⟨C, o, x, e, y⟩ := r; exact ⟨C, o, x, g _ _ e, y⟩
  | attrs kvs => obtain ⟨m, n1, ed, f, n, l⟩ := r; exact ⟨m, n1.keeps g, ed.keeps g, fun x p e => let ⟨v, a, b⟩ := f x p e; ⟨v, a, b.mono so⟩, n, l⟩
/-- one object put anew -/
theorem Holds.put {cx : Cx} {h h' : Heap} {H : AHeap} {a : Addr} {o : AObj} (k : Holds cx h H) (g : ∀ b o, b ≠ a → h.get? b = some o → h'.get? b = some o)
    (ha : ∀ o, h.get? a = some o → ¬ Solid o) (r : RepO cx h' a o) : Holds cx h' (upd H a o) := fun b x e => by
  by_cases q : b = a
  · subst q; rw [upd_self] at e; cases e; exact r
  · rw [upd_ne q] at e
    have r := k b x e
    have so : ∀ b o, h.get? b = some o → Solid o → h'.get? b = some o := fun b o e s => g b o (by rintro rfl; exact ha o e s) e
    cases x with
    | list xs => obtain ⟨items, n, e, r, l⟩ := r; exact ⟨items, n, g _ _ q e, r.mono so, l⟩
    | tape k => obtain ⟨t, n, e⟩ := r; exact ⟨t, n, g _ _ q e⟩
    | dict kvs => obtain ⟨vs, d, r, l⟩ := r; exact ⟨vs, (let ⟨o, es, ep, ho, y⟩ := d; ⟨o, es, ep, g _ _ q ho, y⟩), r.mono so, l⟩
    | inst d => obtain ⟨C, o, x, e, y⟩ := r; exact ⟨C, o, x, g _ _ q e, y⟩
    | attrs kvs => obtain ⟨m, n1, ed, f, n, l⟩ := r; exact ⟨m, (let ⟨o, es, ep, e, y⟩ := n1; ⟨o, es, ep, g _ _ q e, y⟩), (let ⟨od, e, y⟩ := ed; ⟨od, g _ _ q e, y⟩), fun x p e => let ⟨v, a, b⟩ := f x p e; ⟨v, a, b.mono so⟩, n, l⟩

/-! what an evaluation gives -/
inductive ExcTb (fr : Option Addr) (h₀ h : Heap) (e : Addr) (vs : Array Value) : Prop
  | mk (T : Addr) (oT : Obj) (ts : Array Value) (b1 : vs[1]? = some (.ref T)) (b2 : h₀.get? T = none) (b3 : T ≠ e) (b4 : h.get? T = some oT) (b5 : oT.cls = .type "traceback") (b6 : oT.data = .fields ts) (b7 : ts[3]? = some .none ∨ ∃ L, fr = some L ∧ ts[3]? = some (rawInt L)) : ExcTb fr h₀ h e vs
inductive Exc (cx : Cx) (fr : Option Addr) (h₀ h : Heap) (e : Addr) (c : Nat) : Prop
  | mk (n : h₀.get? e = none) (oe : Obj) (vs : Array Value) (C : Addr) (a0 : Value) (g : h.get? e = some oe) (k : oe.cls = .ref C) (x : cx.cls c = some C ∧ oe.dict = none) (d : oe.data = .fields vs) (z : vs[0]? = some a0) (y : vs[1]? = some .none ∨ ExcTb fr h₀ h e vs) : Exc cx fr h₀ h e c
inductive OkG {α β : Type} (R : Heap → α → β → Prop) (cx : Cx) (F : Fm) (m : Loc) (H : AHeap) (s : Shared) (Q : β → AHeap → Prop) (a : α) (s' : Shared) : Prop
  | mk (b : β) (H' : AHeap) (r : R s'.heap a b) (t : St cx F m H' s'.heap) (k : Kp cx [] H s H' s') (q : Q b H') : OkG R cx F m H s Q a s'
inductive ErP (cx : Cx) (F : Fm) (m : Loc) (H : AHeap) (s : Shared) (X : XPost) (v : Value) (s' : Shared) : Prop
  | mk (e : Addr) (c : Nat) (H' : AHeap) (hv : v = .ref e) (x : Exc cx F.env.frame s.heap s'.heap e c) (t : St cx F m H' s'.heap) (k : Kp cx [] H s H' s') (q : X c H') : ErP cx F m H s X v s'
noncomputable def Ev {α β : Type} (R : Heap → α → β → Prop) (cx : Cx) (F : Fm) (t : Sem α) (m : Loc) (H : AHeap) (s : Shared) (Q : β → AHeap → Prop) (X : XPost) : Prop :=
  wpAny cx.M F.A t (OkG R cx F m H s Q) (ErP cx F m H s X) s

theorem Exc.older {cx : Cx} {fr : Option Addr} {h₀ h₁ h : Heap} {e : Addr} {c : Nat} (x : Exc cx fr h₁ h e c) (al : ∀ b o, h₀.get? b = some o → ∃ o', h₁.get? b = some o') : Exc cx fr h₀ h e c := by
  have f : ∀ b, h₁.get? b = none → h₀.get? b = none := fun b q => by
    cases e : h₀.get? b with
    | none => rfl
    | some o => obtain ⟨o', e'⟩ := al b o e; rw [q] at e'; cases e'
  obtain ⟨n, oe, vs, C, a0, a1, a2, a3, a4, a5, a6⟩ := x
  refine ⟨f _ n, oe, vs, C, a0, a1, a2, a3, a4, a5, a6.imp id ?_⟩
  rintro ⟨T, oT, ts, b1, b2, b3, b4, b5, b6, b7⟩
  exact ⟨T, oT, ts, b1, f _ b2, b3, b4, b5, b6, b7⟩
theorem OkG.older {α β : Type} {R : Heap → α → β → Prop} {cx : Cx} {F : Fm} {m : Loc} {H H₁ : AHeap} {s s₁ : Shared} {Q : β → AHeap → Prop} (k : Kp cx [] H s H₁ s₁) {a : α} {s' : Shared}
    (x : OkG R cx F m H₁ s₁ Q a s') : OkG R cx F m H s Q a s' := let ⟨b, H', r, t, k', q⟩ := x; ⟨b, H', r, t, k.trans k', q⟩
theorem ErP.older {cx : Cx} {F : Fm} {m : Loc} {H H₁ : AHeap} {s s₁ : Shared} {X : XPost} (k : Kp cx [] H s H₁ s₁) {v : Value} {s' : Shared}
    (x : ErP cx F m H₁ s₁ X v s') : ErP cx F m H s X v s' := let ⟨e, c, H', r, y, t, k', q⟩ := x; ⟨e, c, H', r, y.older k.alive, t, k.trans k', q⟩
theorem Ev.older {α β : Type} {R : Heap → α → β → Prop} {cx : Cx} {F : Fm} {m : Loc} {H H₁ : AHeap} {s s₁ : Shared} {Q : β → AHeap → Prop} {X : XPost} {t : Sem α} (k : Kp cx [] H s H₁ s₁)
    (x : Ev R cx F t m H₁ s₁ Q X) : wpAny cx.M F.A t (OkG R cx F m H s Q) (ErP cx F m H s X) s₁ := wpAny_mono x (fun _ _ y => y.older k) fun _ _ y => y.older k
theorem Ev.bind {α β γ δ : Type} {R : Heap → α → β → Prop} {R' : Heap → γ → δ → Prop} {cx : Cx} {F : Fm} {m : Loc} {H : AHeap} {s : Shared} {Q₁ : β → AHeap → Prop} {Q : δ → AHeap → Prop} {X : XPost} {t : Sem α} {f : α → Sem γ}
    (h : Ev R cx F t m H s Q₁ X) (k : ∀ a b s₁ H₁, R s₁.heap a b → St cx F m H₁ s₁.heap → Kp cx [] H s H₁ s₁ → Q₁ b H₁ → Ev R' cx F (f a) m H₁ s₁ Q X) : Ev R' cx F (t >>= f) m H s Q X :=
  wpAny_bind (wpAny_mono h (fun a s₁ ⟨b, H₁, r, st, kp, q⟩ => (k a b s₁ H₁ r st kp q).older kp) fun _ _ y => y)
theorem Ev.pure {α β : Type} {R : Heap → α → β → Prop} {cx : Cx} {F : Fm} {m : Loc} {H : AHeap} {s : Shared} {Q : β → AHeap → Prop} {X : XPost} {a : α} {b : β} (r : R s.heap a b) (t : St cx F m H s.heap) (q : Q b H) :
    Ev R cx F (pure a) m H s Q X := wpAny_pure ⟨b, H, r, t, .refl _ _ _ _, q⟩
theorem Ev.holding {α β : Type} {R : Heap → α → β → Prop} {cx : Cx} {F : Fm} {m : Loc} {H : AHeap} {s : Shared} {Q : β → AHeap → Prop} {X : XPost} {t : Sem α} {vs : List Value} (h : Ev R cx F t m H s Q X) : Ev R cx F (holding vs t) m H s Q X := wpAny_holding h
theorem Ev.stand {α β : Type} {R : Heap → α → β → Prop} {cx : Cx} {F : Fm} {m : Loc} {H : AHeap} {s : Shared} {Q : β → AHeap → Prop} {X : XPost} {p : Pos} {f : Unit → Sem α} (h : Ev R cx F (f ()) m H s Q X) : Ev R cx F (standAt p >>= f) m H s Q X :=
  wpAny_bind (wpAny_standAt h)
/-- the same state, tokens spent -/
theorem OkG.toks {α β : Type} {R : Heap → α → β → Prop} {cx : Cx} {F : Fm} {m : Loc} {H : AHeap} {s : Shared} {Q : β → AHeap → Prop} {a : α} {b : β} (tk : Nat) (r : R s.heap a b) (t : St cx F m H s.heap) (q : Q b H) :
    OkG R cx F m H s Q a { s with toks := tk } := ⟨b, H, r, t, .grow (fun _ _ e => e) (fun _ _ _ e => e), q⟩
/-- new objects, no abstract one -/
theorem OkG.grow {α β : Type} {R : Heap → α → β → Prop} {cx : Cx} {F : Fm} {m : Loc} {H : AHeap} {s : Shared} {Q : β → AHeap → Prop} {a : α} {b : β} {h' : Heap} {tk : Nat} (g : ∀ b o, s.heap.get? b = some o → h'.get? b = some o)
    (r : R h' a b) (t : St cx F m H s.heap) (q : Q b H) : OkG R cx F m H s Q a { s with heap := h', toks := tk } :=
  have k : Kp cx [] H s H { s with heap := h', toks := tk } := .grow g fun _ _ _ e => e
  ⟨b, H, r, t.step k (t.heap.grow g), k, q⟩
/-- a new abstract object at an address that was free -/
theorem OkG.alloc {α β : Type} {R : Heap → α → β → Prop} {cx : Cx} {F : Fm} {m : Loc} {H : AHeap} {s : Shared} {Q : β → AHeap → Prop} {v : α} {b : β} {h' : Heap} {tk : Nat} {a : Addr} {o : AObj} (g : ∀ b o, s.heap.get? b = some o → h'.get? b = some o)
    (fr : s.heap.get? a = none) (r : R h' v b) (ro : RepO cx h' a o) (t : St cx F m H s.heap) (q : Q b (upd H a o)) : OkG R cx F m H s Q v { s with heap := h', toks := tk } :=
  have k : Kp cx [] H s (upd H a o) { s with heap := h', toks := tk } := .grow g fun b ob e hn => by rw [upd_ne (by rintro rfl; rw [fr] at e; cases e)]; exact hn
  ⟨b, _, r, t.step k (t.heap.put (fun b o _ e => g b o e) (fun o e => by rw [fr] at e; cases e) ro), k, q⟩
theorem alloc_use {o : AObj} {Q : Post} {H : AHeap} {a : Addr} (h : alloc o Q H) (e : H a = none) : Q (.obj a) (upd H a o) := h a _ e (upd_self ..) (upd_ext e)
/-- an abstract object put anew -/
theorem OkG.put {α β : Type} {R : Heap → α → β → Prop} {cx : Cx} {F : Fm} {m : Loc} {H : AHeap} {s : Shared} {Q : β → AHeap → Prop} {v : α} {b : β} {h' : Heap} {tk : Nat} {a : Addr} {o o' : AObj} (ha : H a = some o)
    (g : ∀ b o, b ≠ a → s.heap.get? b = some o → h'.get? b = some o) (r : R h' v b) (ro : RepO cx h' a o') (t : St cx F m H s.heap) (q : Q b (upd H a o')) : OkG R cx F m H s Q v { s with heap := h', toks := tk } := by
  have na : ∀ x, s.heap.get? a = some x → ¬ Solid x := fun x e => by
    obtain ⟨ob, e', n, _⟩ := (t.heap a o ha).get; rw [e] at e'; cases e'; exact n
  have k : Kp cx [] H s (upd H a o') { s with heap := h', toks := tk } := by
    refine ⟨⟨h', tk, rfl⟩, fun b ob e _ hn => ?_, fun b ob e => ?_, fun b ob eb e => ?_⟩
    · have n : b ≠ a := by rintro rfl; rw [ha] at hn; cases hn
      exact ⟨by rw [upd_ne n]; exact hn, ob, g b ob n e, .refl _⟩
    · by_cases n : b = a
      · subst n; obtain ⟨ob', e', _⟩ := ro.get; exact ⟨ob', e'⟩
      · exact ⟨ob, g b ob n e⟩
    · exact g b ob (by rintro rfl; rw [t.off _ _ eb] at ha; cases ha) e
  exact ⟨b, _, r, t.step k (t.heap.put g na ro), k, q⟩
theorem mutate_use {o : AObj} {K : AHeap → Prop} {H : AHeap} {a : Addr} (h : mutate a o K H) : K (upd H a o) := h _ (upd_self ..) (upd_extB H a o)
end Mine
end
section
open PySem PySem.Calls PyProof.Rows
namespace Mine
set_option autoImplicit false

theorem RepL.append {cx : Cx} {h : Heap} : ∀ {vs ws : List Value} {ps qs : List PV}, RepL cx h vs ps → RepL cx h ws qs → RepL cx h (vs ++ ws) (ps ++ qs)
  | _, _, _, _, .nil, r => r
  | _, _, _, _, .cons a r, r' => .cons a (RepL.append r r')
theorem RepL.rep {cx : Cx} {h : Heap} {vs : List Value} {ps : List PV} (r : RepL cx h vs ps) : ∀ n : Nat, RepL cx h (List.replicate n vs).flatten (List.replicate n ps).flatten
  | 0 => .nil
  | n + 1 => by rw [List.replicate_succ, List.replicate_succ, List.flatten_cons, List.flatten_cons]; exact r.append (r.rep n)
theorem RepL.get {cx : Cx} {h : Heap} : ∀ {vs : List Value} {ps : List PV}, RepL cx h vs ps → ∀ {i : Nat} {p : PV}, ps[i]? = some p → ∃ v, vs[i]? = some v ∧ Rep cx h v p
  | _, _, .cons a _, 0, _, e => by simp at e; subst e; exact ⟨_, rfl, a⟩
  | _, _, .cons _ r, i + 1, _, e => by simp at e; simpa using r.get e
theorem RepL.drop {cx : Cx} {h : Heap} : ∀ {vs : List Value} {ps : List PV}, RepL cx h vs ps → ∀ n : Nat, RepL cx h (vs.drop n) (ps.drop n)
  | _, _, r, 0 => r
  | _, _, .nil, _ + 1 => .nil
  | _, _, .cons _ r, n + 1 => r.drop n
theorem RepL.take {cx : Cx} {h : Heap} : ∀ {vs : List Value} {ps : List PV}, RepL cx h vs ps → ∀ n : Nat, RepL cx h (vs.take n) (ps.take n)
  | _, _, _, 0 => .nil
  | _, _, .nil, _ + 1 => .nil
  | _, _, .cons a r, n + 1 => .cons a (r.take n)
theorem RepL.reverse {cx : Cx} {h : Heap} : ∀ {vs : List Value} {ps : List PV}, RepL cx h vs ps → RepL cx h vs.reverse ps.reverse
  | _, _, .nil => .nil
  | _, _, .cons a r => by rw [List.reverse_cons, List.reverse_cons]; exact r.reverse.append (.cons a .nil)
theorem RepL.set {cx : Cx} {h : Heap} : ∀ {vs : List Value} {ps : List PV}, RepL cx h vs ps → ∀ (n : Nat) {v : Value} {p : PV}, Rep cx h v p → RepL cx h (vs.set n v) (ps.set n p)
  | _, _, .nil, _, _, _, _ => .nil
  | _, _, .cons _ r, 0, _, _, a => .cons a r
  | _, _, .cons b r, n + 1, _, _, a => .cons b (r.set n a)

theorem Rep.tupI {cx : Cx} {h : Heap} {v : Value} {xs : List PV} (r : Rep cx h v (.tup xs)) : ∃ a items n, v = .ref a ∧ h.get? a = some (tupObj items n) ∧ xs.length ≤ LIM ∧ RepL cx h items.toList xs := by
  cases r with | tup e l r => exact ⟨_, _, _, rfl, e, l, r⟩
theorem RepL.one {cx : Cx} {h : Heap} {vs : List Value} {p : PV} (r : RepL cx h vs [p]) : ∃ v, vs = [v] ∧ Rep cx h v p := by
  obtain _ | ⟨rv, _ | _⟩ := r
  exact ⟨_, rfl, rv⟩
theorem RepL.two {cx : Cx} {h : Heap} {vs : List Value} {p q : PV} (r : RepL cx h vs [p, q]) : ∃ v w, vs = [v, w] ∧ Rep cx h v p ∧ Rep cx h w q := by
  obtain _ | ⟨rv, _ | ⟨rw', _ | _⟩⟩ := r
  exact ⟨_, _, rfl, rv, rw'⟩
theorem RepL.zero {cx : Cx} {h : Heap} {vs : List Value} (r : RepL cx h vs []) : vs = [] := by cases r; rfl
theorem Rep.objI {cx : Cx} {h : Heap} {v : Value} {a : Addr} (r : Rep cx h v (.obj a)) : v = .ref a := by cases r; rfl
theorem Rep.intI {cx : Cx} {h : Heap} {v : Value} {i : Int} (r : Rep cx h v (.int i)) : ∃ t, v = .int i t := by cases r; exact ⟨_, rfl⟩
theorem Rep.strI {cx : Cx} {h : Heap} {v : Value} {i : Str} (r : Rep cx h v (.str i)) : ∃ t, v = .str i t := by cases r; exact ⟨_, rfl⟩
theorem Rep.boolI {cx : Cx} {h : Heap} {v : Value} {b : Bool} (r : Rep cx h v (.bool b)) : v = .bool b := by cases r; rfl
theorem Rep.noneI {cx : Cx} {h : Heap} {v : Value} (r : Rep cx h v .none) : v = .none := by cases r; rfl
theorem Rep.flsI {cx : Cx} {h : Heap} {v : Value} {ns : List Int} (r : Rep cx h v (.fls ns)) : ∃ a items, v = .ref a ∧ cx.B.IsList a items ∧ IntsAre items.toList ns ∧ ns.length ≤ LIM := by
  cases r with | fls e i l => exact ⟨_, _, rfl, e, i, l⟩
theorem Rep.fdtI {cx : Cx} {h : Heap} {v : Value} {kvs : List (Str × PV)} (r : Rep cx h v (.fdt kvs)) : ∃ a vs, v = .ref a ∧ cx.B.DictOf cx.sk a vs ∧ RepK cx h vs kvs := by
  cases r with | fdt e r => exact ⟨_, _, rfl, e, r⟩
theorem Rep.rngI {cx : Cx} {h : Heap} {v : Value} {n : Int} (r : Rep cx h v (.rng n)) : ∃ a t u x, v = .ref a ∧ h.get? a = some (rngObj n t u x) ∧ n.natAbs ≤ LIM := by
  cases r with | rng e l => exact ⟨_, _, _, _, rfl, e, l⟩

section
variable {cx : Cx} {F : Fm} {m : Loc} {H : AHeap} {s : Shared} {Q : Post} {X : XPost}

theorem St.list {a : Addr} {xs : List PV} (t : St cx F m H s.heap) (e : H a = some (.list xs)) : ∃ items n, s.heap.get? a = some (lstObj items n) ∧ RepL cx s.heap items.toList xs ∧ xs.length ≤ LIM := t.heap a _ e
theorem isList_of {h : Heap} {a : Addr} {items : Array Value} {n : Nat} (e : h.get? a = some (lstObj items n)) : h.IsList a items := ⟨_, e, rfl, n, rfl⟩
theorem isList_up {h h' : Heap} {a : Addr} {items : Array Value} (x : h.IsList a items) (k : h.StaysIn h') : h'.IsList a items := let ⟨o, e, r⟩ := x; ⟨o, k _ _ e, r⟩
theorem isTup_of {h : Heap} {a : Addr} {items : Array Value} {n : Nat} (e : h.get? a = some (tupObj items n)) : IsTup h a items := ⟨_, e, rfl, n, rfl⟩
theorem get_size_none (h : Heap) : h.get? h.objs.size = none := by
  cases e : h.get? h.objs.size with
  | none => rfl
  | some o => exact absurd (Heap.lt_size e) (Nat.lt_irrefl _)
theorem get_ge_none {h : Heap} {a : Addr} (l : h.objs.size ≤ a) : h.get? a = none := by
  cases e : h.get? a with
  | none => rfl
  | some o => exact absurd (Heap.lt_size e) (Nat.not_lt.mpr l)

theorem arr_len {cx : Cx} {h : Heap} {items : Array Value} {xs : List PV} (r : RepL cx h items.toList xs) : items.size = xs.length := by rw [← r.length]; simp

/-- a new list -/
theorem new_list {vs : Array Value} {xs : List PV} {c tk : Nat} {h' : Heap} {a : Addr} (t : St cx F m H s.heap) (g : ∀ b o, s.heap.get? b = some o → h'.get? b = some o) (fr : s.heap.get? a = none)
    (e : h'.get? a = some (lstObj vs c)) (r : RepL cx s.heap vs.toList xs) (l : xs.length ≤ LIM) (q : alloc (.list xs) Q H) : OkG (Rep cx) cx F m H s Q (.ref a) { s with heap := h', toks := tk } :=
  .alloc (o := .list xs) g fr (.obj a) ⟨vs, c, e, r.mono (fun b o e _ => g b o e), l⟩ t (alloc_use q (t.heap.fresh fr))
/-- a new tuple -/
theorem new_tup {vs : Array Value} {xs : List PV} {c tk : Nat} {h' : Heap} {a : Addr} (t : St cx F m H s.heap) (g : ∀ b o, s.heap.get? b = some o → h'.get? b = some o)
    (e : h'.get? a = some (tupObj vs c)) (r : RepL cx s.heap vs.toList xs) (l : xs.length ≤ LIM) (q : Q (.tup xs) H) : OkG (Rep cx) cx F m H s Q (.ref a) { s with heap := h', toks := tk } :=
  .grow g (.tup e l (r.mono (fun b o e _ => g b o e))) t q
theorem push_keeps {h : Heap} {o : Obj} : ∀ b x, h.get? b = some x → (h.push o).get? b = some x := fun _ _ e => Heap.get?_push_of_some o e

theorem LIM_le : LIM ≤ sizeLine := by decide
theorem bits_le {a : Int} (h : a.natAbs < 2 ^ 60) : Builtin.Int.intBits a ≤ 64 := by
  unfold Builtin.Int.intBits
  split
  · first | lia | omega
  · rename_i q
    have : a.natAbs.log2 < 60 := (Nat.log2_lt (by simpa using q)).mpr h
    first | lia | omega
theorem mulOk {a b : Int} (h : a.natAbs < 2 ^ 60 ∨ b.natAbs < 2 ^ 60) : IntMulOk a b := h.elim (fun h => .of_left (bits_le h)) fun h => .of_right (bits_le h)

theorem add_tup0 {t b : Addr} {items items2 : Array Value} {n n2 : Nat} {A : Around} {E : Value → Shared → Prop} {s : Shared} {Q : Value → Shared → Prop} {prog : Program} {w : World} (ht : s.heap.get? t = some (tupObj items n)) (hb : s.heap.get? b = some (tupObj items2 n2)) (hsz : items.size + items2.size ≤ sizeLine)
    (h0 : items.isEmpty = true → Q (.ref b) s) (h1 : ¬ items.isEmpty = true → items2.isEmpty = true → Q (.ref t) s)
    (h2 : Q (.ref s.heap.objs.size) { s with heap := s.heap.push (tupObj (items ++ items2) 0) }) :
    wpAny (model prog w) A (binaryOp .Add (.ref t) (.ref b)) Q E s := by
  by_cases a : items.isEmpty = true
  · exact concat_meets ⟨_, ht, rfl⟩ ⟨_, hb, rfl⟩ noFill_tuple_add seq_tuple_add F.slot_tuple_add F.entry_tuple_add (F.args_tuple_add_2 _ _) (AutoSeq1.tuple___add___tuple_tuple_0 t items n b items2 n2 a) ⟨ht, hb, h0 a⟩
  · by_cases c : items2.isEmpty = true
    · exact concat_meets ⟨_, ht, rfl⟩ ⟨_, hb, rfl⟩ noFill_tuple_add seq_tuple_add F.slot_tuple_add F.entry_tuple_add (F.args_tuple_add_2 _ _) (AutoSeq1.tuple___add___tuple_tuple_1 t items n b items2 n2 a c) ⟨ht, hb, h1 a c⟩
    · exact P.add_tuple ht hb a c h2 hsz

theorem mul_lst0 {l : Addr} {items : Array Value} {k : Nat} {x : Int} {u : Tok} {A : Around} {E : Value → Shared → Prop} {s : Shared} {Q : Value → Shared → Prop} {prog : Program} {w : World}
    (hl : s.heap.get? l = some (lstObj items k)) (hlo : -(2 ^ 63 : Int) ≤ x) (hhi : x < 2 ^ 63) (hsz : items.size * x.toNat ≤ 2 ^ 24)
    (h : Q (.ref s.heap.objs.size) { s with heap := s.heap.push (lstObj (List.foldl (fun x1 x2 => x1 ++ x2) #[] (List.replicate (if items.isEmpty = true then 0 else x.toNat) items)) 0) }) :
    wpAny (model prog w) A (binaryOp .Mult (.ref l) (.int x u)) Q E s :=
  wpAny_binaryOp_repeat_ref (T := "list") (U := "int") (by decide) ⟨_, hl, rfl⟩ (fun s' => typeIs_int s' x u) noFill_list_mul PySem.F.fills_int_mul PySem.F.slot_int_rmul repeat_list PySem.F.slot_int_index.lookup
    (call_meets PySem.F.slot_int_rmul (typeIs_int s x u) PySem.F.entry_int_rmul (PySem.F.args_int_rmul_2 _ _) (int___rmul___int_list x u l items k)
      ⟨hl, rfl, ⟨_, hl, rfl⟩, call_meets PySem.F.slot_list_mul ⟨_, hl, rfl⟩ PySem.F.entry_list_mul (PySem.F.args_list_mul_2 _ _)
        (AutoListH.list___mul___list_int_3 l items k x u (by simp [Builtin.List.listFitsIndex]; first | lia | omega) (by first | lia | omega) (by simp [Builtin.List.listTooLong, sizeLine]; first | lia | omega))
        ⟨hl, h⟩⟩)

theorem foldl_arrays (items : Array Value) : ∀ (n : Nat) (acc : Array Value), (List.foldl (fun x1 x2 => x1 ++ x2) acc (List.replicate n items)).toList = acc.toList ++ (List.replicate n items.toList).flatten
  | 0, acc => by simp
  | n + 1, acc => by
    rw [List.replicate_succ, List.foldl_cons, foldl_arrays items n, List.replicate_succ, List.flatten_cons]
    simp

theorem binW_to {op : Operator} {pv pw : PV} (h : binW op pv pw Q H) : BinW Q H op pv pw := h.to fun u e q => by
  unfold binF at e
  split at e
  · split at e
    · split at e
      · rename_i a b i hi
        cases e
        unfold intF at hi
        split at hi
        · cases hi; exact .addI _ _ q
        · cases hi; exact .subI _ _ q
        · split at hi
          · cases hi; exact .modI _ _ (by assumption) q
          · cases hi
        · split at hi
          · split at hi
            · cases hi; exact .divI _ _ (by assumption) (by assumption) q
            · cases hi
          · cases hi
        · cases hi
      · cases e
    · cases e
  · cases e
theorem bin_ok {op : Operator} {v w : Value} {pv pw : PV} (rv : Rep cx s.heap v pv) (rw' : Rep cx s.heap w pw) (t : St cx F m H s.heap) (h : binW op pv pw Q H) :
    Ev (Rep cx) cx F (binaryOp op v w) m H s Q X := by
  replace h := binW_to h
  cases h with
  | addI a b h =>
    (first | (obtain ⟨_, rfl⟩ := Rep.intI rv) | (obtain ⟨_, rfl⟩ := Rep.strI rv) | (obtain rfl := Rep.objI rv) | (obtain rfl := Rep.boolI rv) | (obtain rfl := Rep.noneI rv)); (first | (obtain ⟨_, rfl⟩ := Rep.intI rw') | (obtain ⟨_, rfl⟩ := Rep.strI rw') | (obtain rfl := Rep.objI rw') | (obtain rfl := Rep.boolI rw') | (obtain rfl := Rep.noneI rw')); exact add_int (.toks _ (.int _ _) t h)
  | subI a b h =>
    (first | (obtain ⟨_, rfl⟩ := Rep.intI rv) | (obtain ⟨_, rfl⟩ := Rep.strI rv) | (obtain rfl := Rep.objI rv) | (obtain rfl := Rep.boolI rv) | (obtain rfl := Rep.noneI rv)); (first | (obtain ⟨_, rfl⟩ := Rep.intI rw') | (obtain ⟨_, rfl⟩ := Rep.strI rw') | (obtain rfl := Rep.objI rw') | (obtain rfl := Rep.boolI rw') | (obtain rfl := Rep.noneI rw')); exact sub_int (.toks _ (.int _ _) t h)
  | mulI a b hk h =>
    (first | (obtain ⟨_, rfl⟩ := Rep.intI rv) | (obtain ⟨_, rfl⟩ := Rep.strI rv) | (obtain rfl := Rep.objI rv) | (obtain rfl := Rep.boolI rv) | (obtain rfl := Rep.noneI rv)); (first | (obtain ⟨_, rfl⟩ := Rep.intI rw') | (obtain ⟨_, rfl⟩ := Rep.strI rw') | (obtain rfl := Rep.objI rw') | (obtain rfl := Rep.boolI rw') | (obtain rfl := Rep.noneI rw')); exact mul_int (.toks _ (.int _ _) t h) (mulOk hk)
  | modI a b hk h =>
    (first | (obtain ⟨_, rfl⟩ := Rep.intI rv) | (obtain ⟨_, rfl⟩ := Rep.strI rv) | (obtain rfl := Rep.objI rv) | (obtain rfl := Rep.boolI rv) | (obtain rfl := Rep.noneI rv)); (first | (obtain ⟨_, rfl⟩ := Rep.intI rw') | (obtain ⟨_, rfl⟩ := Rep.strI rw') | (obtain rfl := Rep.objI rw') | (obtain rfl := Rep.boolI rw') | (obtain rfl := Rep.noneI rw'))
    refine mod_int' (by first | lia | omega) (.toks _ (.int _ _) t ?_)
    rw [Int.fmod_eq_emod_of_nonneg _ (by first | lia | omega)]; exact h
  | divI a b hk hk2 h =>
    (first | (obtain ⟨_, rfl⟩ := Rep.intI rv) | (obtain ⟨_, rfl⟩ := Rep.strI rv) | (obtain rfl := Rep.objI rv) | (obtain rfl := Rep.boolI rv) | (obtain rfl := Rep.noneI rv)); (first | (obtain ⟨_, rfl⟩ := Rep.intI rw') | (obtain ⟨_, rfl⟩ := Rep.strI rw') | (obtain rfl := Rep.objI rw') | (obtain rfl := Rep.boolI rw') | (obtain rfl := Rep.noneI rw'))
    refine floordiv_int (by first | lia | omega) (.toks _ (.int _ _) t ?_) (.inl (PyProof.noPylong_small (by first | lia | omega)))
    rw [Int.fdiv_eq_ediv_of_nonneg _ (by first | lia | omega)]; exact h
  | powI h =>
    (first | (obtain ⟨_, rfl⟩ := Rep.intI rv) | (obtain ⟨_, rfl⟩ := Rep.strI rv) | (obtain rfl := Rep.objI rv) | (obtain rfl := Rep.boolI rv) | (obtain rfl := Rep.noneI rv)); (first | (obtain ⟨_, rfl⟩ := Rep.intI rw') | (obtain ⟨_, rfl⟩ := Rep.strI rw') | (obtain rfl := Rep.objI rw') | (obtain rfl := Rep.boolI rw') | (obtain rfl := Rep.noneI rw'))
    exact pow_int (by decide) (by decide) (.toks _ (.int _ _) t h)
  | addS a b hk h =>
    (first | (obtain ⟨_, rfl⟩ := Rep.intI rv) | (obtain ⟨_, rfl⟩ := Rep.strI rv) | (obtain rfl := Rep.objI rv) | (obtain rfl := Rep.boolI rv) | (obtain rfl := Rep.noneI rv)); (first | (obtain ⟨_, rfl⟩ := Rep.intI rw') | (obtain ⟨_, rfl⟩ := Rep.strI rw') | (obtain rfl := Rep.objI rw') | (obtain rfl := Rep.boolI rw') | (obtain rfl := Rep.noneI rw')); exact add_str (fun t' tk => .toks tk (.str _ _) t h) (Nat.le_trans hk LIM_le)
  | addT xs ys hk h =>
    obtain ⟨a, i1, n1, rfl, e1, l1, r1⟩ := rv.tupI
    obtain ⟨b, i2, n2, rfl, e2, l2, r2⟩ := rw'.tupI
    have k1 := arr_len r1
    have k2 := arr_len r2
    have hl := LIM_le
    refine add_tup0 e1 e2 (by first | lia | omega) (fun c => ?_) (fun _ c => ?_) ?_
    · have z : xs = [] := by
        have : i1.size = 0 := by simpa using c
        rw [k1] at this; exact List.length_eq_zero_iff.mp this
      subst z
      exact .toks s.toks (.tup e2 l2 r2) t h
    · have z : ys = [] := by
        have : i2.size = 0 := by simpa using c
        rw [k2] at this; exact List.length_eq_zero_iff.mp this
      subst z
      refine .toks s.toks (.tup e1 l1 r1) t ?_
      simpa using h
    · refine new_tup (tk := s.toks) (c := 0) t push_keeps (Heap.get?_push_size _ rfl) ?_ ?_ h
      · rw [Array.toList_append]; exact r1.append r2
      · simpa using hk
  | addL a b xs ys ha hb hk h =>
    obtain rfl := Rep.objI rv
    obtain rfl := Rep.objI rw'
    obtain ⟨i1, n1, e1, r1, l1⟩ := t.list ha
    obtain ⟨i2, n2, e2, r2, l2⟩ := t.list hb
    have k1 := arr_len r1
    have k2 := arr_len r2
    have hl := LIM_le
    refine P.add_list e1 e2 ?_ (by first | lia | omega)
    refine new_list (tk := s.toks) (c := 0) t push_keeps (get_size_none _) (Heap.get?_push_size _ rfl) ?_ ?_ h
    · rw [Array.toList_append]; exact r1.append r2
    · simpa using hk
  | mulL a x xs ha u1 u2 u3 h =>
    obtain rfl := Rep.objI rv
    obtain ⟨_, rfl⟩ := Rep.intI rw'
    obtain ⟨items, n1, e1, r1, l1⟩ := t.list ha
    have k1 := arr_len r1
    have hl : LIM = 1048576 := rfl
    refine mul_lst0 e1 (by first | lia | omega) (by first | lia | omega) (by rw [k1]; first | lia | omega) ?_
    refine new_list (tk := s.toks) (c := 0) t push_keeps (get_size_none _) (Heap.get?_push_size _ rfl) ?_ ?_ h
    · rw [foldl_arrays]
      cases z : items.isEmpty with
      | false => simpa [repL] using r1.rep x.toNat
      | true =>
        have z' : xs = [] := by
          have : items.size = 0 := by simpa using z
          rw [k1] at this; exact List.length_eq_zero_iff.mp this
        subst z'
        have : repL x [] = [] := by simp [repL]
        rw [this]; exact .nil
    · rw [repL, List.length_flatten]; simp; rw [Nat.mul_comm]; exact u3
end
end Mine
end
section
open PySem PySem.Calls PyProof.Rows
namespace Mine
set_option autoImplicit false
open SeqAt (EqAt RcAt RcNeAt)

section
variable {cx : Cx} {s : Shared} {H : AHeap}
theorem EqA.same {h : Heap} {p q : PV} {b : Bool} (e : EqA p q b) {v : Value} (r : Rep cx h v p) (r' : Rep cx h v q) : b = true := by
  cases e with
  | bool a b => obtain rfl := Rep.boolI r; cases Rep.boolI r'; simp
  | int a b => obtain ⟨_, rfl⟩ := Rep.intI r; obtain ⟨_, q⟩ := Rep.intI r'; cases q; simp
  | str a b => obtain ⟨_, rfl⟩ := Rep.strI r; obtain ⟨_, q⟩ := Rep.strI r'; cases q; simp
  | intstr a b => obtain ⟨_, rfl⟩ := Rep.intI r; obtain ⟨_, q⟩ := Rep.strI r'; cases q
  | strint a b => obtain ⟨_, rfl⟩ := Rep.strI r; obtain ⟨_, q⟩ := Rep.intI r'; cases q
theorem EqL.all {n : Nat} : ∀ {ps qs : List PV} {b : Bool}, EqL H n ps qs b → ∃ f : Nat → Bool, (∀ j x y, ps[j]? = some x → qs[j]? = some y → EqV H n x y (f j)) ∧ b = ((List.range (min ps.length qs.length)).all f && ps.length == qs.length)
  | _, _, _, .nil => ⟨fun _ => true, fun j x y e => (by simp at e), rfl⟩
  | _, _, _, .l x xs => ⟨fun _ => true, fun j x y _ e => (by simp at e), by simp⟩
  | _, _, _, .r x xs => ⟨fun _ => true, fun j x y e => (by simp at e), by simp⟩
  | _, _, _, .c (a := a) e es => by
    obtain ⟨f, h1, h2⟩ := es.all
    refine ⟨fun j => match j with | 0 => a | j + 1 => f j, fun j x y ex ey => ?_, ?_⟩
    · cases j with
      | zero => simp at ex ey; subst ex ey; exact e
      | succ j => simp at ex ey; exact h1 j x y ex ey
    · rw [h2]
      simp only [List.length_cons, Nat.add_min_add_right, List.range_succ_eq_map, List.all_cons, List.all_map, Bool.and_assoc]
      simp [Function.comp_def]

/-- one and the same value -/
theorem EqV.same (t : Holds cx s.heap H) (n : Nat) : ∀ {p q : PV} {b : Bool}, EqV H n p q b → ∀ {v : Value}, Rep cx s.heap v p → Rep cx s.heap v q → b = true := by
  induction n with
  | zero =>
    intro p q b e v r r'
    cases e with
    | atom e => exact e.same r r'
  | succ n ih =>
    intro p q b e v r r'
    have key : ∀ {ps qs : List PV} {b : Bool} {vs : List Value}, EqL H n ps qs b → RepL cx s.heap vs ps → RepL cx s.heap vs qs → b = true := fun {ps qs b vs} el r1 r2 => by
      obtain ⟨f, hf, hb⟩ := el.all
      have hl : ps.length = qs.length := r1.length.symm.trans r2.length
      rw [hb, ← hl, Nat.min_self, beq_self_eq_true, Bool.and_true, List.all_eq_true]
      intro j hj
      have hj1 : j < ps.length := List.mem_range.mp hj
      have e1 : ps[j]? = some ps[j] := List.getElem?_eq_getElem hj1
      have e2 : qs[j]? = some (qs[j]'(hl ▸ hj1)) := List.getElem?_eq_getElem _
      obtain ⟨v1, ev1, rv1⟩ := r1.get e1
      obtain ⟨v2, ev2, rv2⟩ := r2.get e2
      rw [ev1] at ev2
      cases ev2
      exact ih (hf j _ _ e1 e2) rv1 rv2
    cases e with
    | atom e => exact e.same r r'
    | tup el =>
      obtain ⟨a, i, n, rfl, e1, _, r1⟩ := r.tupI
      obtain ⟨a', i', n', q, e2, _, r2⟩ := r'.tupI
      cases q
      rw [e1] at e2
      have : i = i' := by simp [tupObj] at e2; exact e2.1
      subst this
      exact key el r1 r2
    | list ha hb el =>
      obtain rfl := r.objI
      cases r'.objI
      rw [ha] at hb; cases hb
      obtain ⟨i, n, _, r1, _⟩ := t _ _ ha
      exact key el r1 r1

theorem isTuple_of {h : Heap} {a : Addr} {items : Array Value} {n : Nat} (e : h.get? a = some (tupObj items n)) : h.IsTuple a items := ⟨_, e, rfl, n, rfl⟩

theorem RepL.at {h : Heap} {items : Array Value} {xs : List PV} (r : RepL cx h items.toList xs) {j : Nat} (hj : j < items.size) : ∃ p, xs[j]? = some p ∧ Rep cx h items[j] p := by
  have hl := arr_len r
  have e : xs[j]? = some (xs[j]'(by first | lia | omega)) := by simp
  obtain ⟨v, ev, rv⟩ := r.get e
  refine ⟨_, e, ?_⟩
  have : items[j] = v := by
    rw [Array.getElem?_toList] at ev
    rw [Array.getElem?_eq_getElem hj] at ev
    exact Option.some.inj ev
  rw [this]; exact rv

theorem atom_at {p q : PV} {b : Bool} (e : EqA p q b) {v w : Value} (rv : Rep cx s.heap v p) (rw' : Rep cx s.heap w q) (A : Around) : EqAt A s v w b ∧ RcAt A s v w b ∧ RcNeAt A s v w (!b) := by
  cases e with
  | bool a b => obtain rfl := Rep.boolI rv; obtain rfl := Rep.boolI rw'; exact ⟨.bool_bool _ _, .bool_bool _ _, .bool_bool _ _⟩
  | int a b => obtain ⟨_, rfl⟩ := Rep.intI rv; obtain ⟨_, rfl⟩ := Rep.intI rw'; exact ⟨.int_int _ _ _ _, .int_int _ _ _ _, .int_int _ _ _ _⟩
  | str a b => obtain ⟨_, rfl⟩ := Rep.strI rv; obtain ⟨_, rfl⟩ := Rep.strI rw'; exact ⟨.str_str _ _ _ _, .str_str _ _ _ _, .str_str _ _ _ _⟩
  | intstr a b => obtain ⟨_, rfl⟩ := Rep.intI rv; obtain ⟨_, rfl⟩ := Rep.strI rw'; exact ⟨.int_str _ _ _ _, .int_str _ _ _ _, .int_str _ _ _ _⟩
  | strint a b => obtain ⟨_, rfl⟩ := Rep.strI rv; obtain ⟨_, rfl⟩ := Rep.intI rw'; exact ⟨.str_int _ _ _ _, .str_int _ _ _ _, .str_int _ _ _ _⟩
/-- == told by item, of two made rows -/
theorem eqv_at (t : Holds cx s.heap H) : ∀ (n : Nat) {p q : PV} {b : Bool}, EqV H n p q b → ∀ {v w : Value}, Rep cx s.heap v p → Rep cx s.heap w q → ∀ (A : Around), A.units + n < cLine →
    EqAt A s v w b ∧ RcAt A s v w b ∧ RcNeAt A s v w (!b) := by
  intro n
  induction n with
  | zero =>
    intro p q b e v w rv rw' A hu
    cases e with
    | atom e => exact atom_at e rv rw' A
  | succ n ih =>
    intro p q b e v w rv rw' A hu
    have e0 := e
    cases e with
    | atom e => exact atom_at e rv rw' A
    | tup el =>
      obtain ⟨a1, i1, n1, rfl, e1, _, r1⟩ := rv.tupI
      obtain ⟨a2, i2, n2, rfl, e2, _, r2⟩ := rw'.tupI
      obtain ⟨f, hf, hb⟩ := el.all
      have hi : ∀ j (h1 : j < i1.size) (h2 : j < i2.size), EqAt A.in1 s i1[j] i2[j] (f j) := fun j h1 h2 => by
        obtain ⟨p1, q1, s1⟩ := r1.at h1
        obtain ⟨p2, q2, s2⟩ := r2.at h2
        exact (ih (hf j p1 p2 q1 q2) s1 s2 A.in1 (by show A.units + 1 + n < cLine; first | lia | omega)).1
      rw [← arr_len r1, ← arr_len r2] at hb
      have rc : RcAt A s (.ref a1) (.ref a2) b := by rw [hb]; exact RcAt.tuples (isTuple_of e1) (isTuple_of e2) (by first | lia | omega) hi
      have rn : RcNeAt A s (.ref a1) (.ref a2) (!b) := by rw [hb]; exact RcNeAt.tuples (isTuple_of e1) (isTuple_of e2) (by first | lia | omega) hi
      refine ⟨?_, rc, rn⟩
      by_cases q : a1 = a2
      · subst q; rw [EqV.same t _ e0 rv rw']; exact .same _
      · exact .of_refs q rc
    | list ha hb' el =>
      rename_i a1 a2 _ _
      obtain rfl := rv.objI
      obtain rfl := rw'.objI
      obtain ⟨i1, n1, e1, r1, _⟩ := t _ _ ha
      obtain ⟨i2, n2, e2, r2, _⟩ := t _ _ hb'
      obtain ⟨f, hf, hb⟩ := el.all
      have hi : ∀ j (h1 : j < i1.size) (h2 : j < i2.size), EqAt A.in1 s i1[j] i2[j] (f j) := fun j h1 h2 => by
        obtain ⟨p1, q1, s1⟩ := r1.at h1
        obtain ⟨p2, q2, s2⟩ := r2.at h2
        exact (ih (hf j p1 p2 q1 q2) s1 s2 A.in1 (by show A.units + 1 + n < cLine; first | lia | omega)).1
      rw [← arr_len r1, ← arr_len r2] at hb
      have both : RcAt A s (.ref a1) (.ref a2) b ∧ RcNeAt A s (.ref a1) (.ref a2) (!b) := by
        by_cases hs : i1.size = i2.size
        · rw [hb, ← hs, Nat.min_self, beq_self_eq_true, Bool.and_true]
          exact ⟨RcAt.lists (isList_of e1) (isList_of e2) hs (by first | lia | omega) hi, RcNeAt.lists (isList_of e1) (isList_of e2) hs (by first | lia | omega) hi⟩
        · have hz : (i1.size == i2.size) = false := by simpa using hs
          rw [hb, hz, Bool.and_false]
          exact ⟨RcAt.lists_lengths (isList_of e1) (isList_of e2) (by simpa using hs) (by first | lia | omega), RcNeAt.lists_lengths (isList_of e1) (isList_of e2) (by simpa using hs) (by first | lia | omega)⟩
      refine ⟨?_, both.1, both.2⟩
      by_cases q : a1 = a2
      · subst q; rw [EqV.same t _ e0 (.obj _) (.obj _)]; exact .same _
      · exact .of_refs q both.1
end
end Mine
end
section
open PySem PySem.Calls PyProof.Rows
namespace Mine
set_option autoImplicit false
open SeqAt (EqAt RcAt RcNeAt)

section
variable {cx : Cx}
theorem RepK.get {h : Heap} : ∀ {vs : List (Str × Value)} {ps : List (Str × PV)}, RepK cx h vs ps → ∀ {k : Str} {p : PV}, dget ps k = some p → ∃ v, valueAt vs k = some v ∧ Rep cx h v p
  | _, _, .nil, k, p, e => by simp [dget] at e
  | _, _, .cons (k := k') (ps := qs) a r, k, p, e => by
    by_cases q : k' = k
    · subst q; simp [dget] at e; subst e; exact ⟨_, by simp [valueAt], a⟩
    · have e' : dget qs k = some p := by simpa [dget, q] using e
      obtain ⟨v, e1, r1⟩ := r.get e'
      exact ⟨v, by simpa [valueAt, q] using e1, r1⟩
theorem RepK.miss {h : Heap} : ∀ {vs : List (Str × Value)} {ps : List (Str × PV)}, RepK cx h vs ps → ∀ {k : Str}, dget ps k = none → valueAt vs k = none
  | _, _, .nil, k, e => by simp [valueAt]
  | _, _, .cons (k := k') (ps := qs) a r, k, e => by
    by_cases q : k' = k
    · subst q; simp [dget] at e
    · have e' : dget qs k = none := by simpa [dget, q] using e
      have := r.miss e'
      simpa [valueAt, q] using this
theorem RepK.isSome {h : Heap} {vs : List (Str × Value)} {ps : List (Str × PV)} (r : RepK cx h vs ps) (k : Str) : (valueAt vs k).isSome = hasKey ps k := by
  unfold hasKey
  cases e : dget ps k with
  | none => rw [r.miss e]; rfl
  | some p => obtain ⟨v, q, _⟩ := r.get e; rw [q]; rfl

noncomputable def eqStr (k : Str) : Value → Bool
  | .str z _ => z == k
  | _ => false
theorem RepL.strs {h : Heap} : ∀ {vs : List Value} {ks : List Str}, RepL cx h vs (ks.map .str) → (∀ y ∈ vs, ∃ z t, y = .str z t) ∧ ∀ k, vs.any (eqStr k) = decide (k ∈ ks)
  | [], [], _ => ⟨fun _ q => (nomatch q), fun k => by simp⟩
  | v :: vs, z :: ks, .cons a r => by
    obtain ⟨t, rfl⟩ := a.strI
    obtain ⟨h1, h2⟩ := r.strs
    refine ⟨fun y hy => ?_, fun k => ?_⟩
    · rcases List.mem_cons.mp hy with rfl | hy
      · exact ⟨z, t, rfl⟩
      · exact h1 y hy
    · rw [List.any_cons, h2 k]
      by_cases q : z = k
      · subst q; simp [eqStr]
      · have q' : ¬ k = z := fun e => q e.symm
        simp [eqStr, q, q', List.mem_cons]
end

section
variable {cx : Cx} {F : Fm} {m : Loc} {H : AHeap} {s : Shared} {Q : BPost} {X : XPost}
abbrev IsB : Heap → Value → Bool → Prop := fun _ v b => v = .bool b

theorem St.dict {a : Addr} {xs : List (Str × PV)} (t : St cx F m H s.heap) (e : H a = some (.dict xs)) : ∃ vs, s.heap.DictOf cx.sk a vs ∧ RepK cx s.heap vs xs ∧ xs.length ≤ LIM ∧ (a == sysModules) = false := t.heap a _ e

theorem eqd_hits (t : Holds cx s.heap H) {vb : List (Str × Value)} {ys : List (Str × PV)} (rb : RepK cx s.heap vb ys) : ∀ {xs : List (Str × PV)} {r : Bool}, EqD H ys xs r → ∀ {va : List (Str × Value)}, RepK cx s.heap va xs → ∀ A : Around, A.units + 40 < cLine →
    PySem.W.KeqHits A s vb va r
  | _, _, .nil, _, .nil, _, _ => .nil
  | _, _, .miss e, _, .cons _ _, _, _ => .miss (rb.miss e)
  | _, _, .c e ev es, _, .cons a r, A, hu => by
    obtain ⟨v, q, rv⟩ := rb.get e
    exact .hit q (eqv_at t 40 ev a rv A hu).1 (eqd_hits t rb es r A hu)

theorem eq_ok {v w : Value} {p q : PV} {b : Bool} (hu : F.A.units + 100 < cLine) (rv : Rep cx s.heap v p) (rw' : Rep cx s.heap w q) (t : St cx F m H s.heap) (e : EqT H p q b) (Q' : Value → Shared → Prop) (E : Value → Shared → Prop) :
    (Q' (.bool b) s → wpAny cx.M F.A (compareOp .Eq v w) Q' E s) ∧ (Q' (.bool (!b)) s → wpAny cx.M F.A (compareOp .NotEq v w) Q' E s) := by
  cases e with
  | val e =>
    obtain ⟨_, h2, h3⟩ := eqv_at t.heap 40 e rv rw' F.A (by first | lia | omega)
    exact ⟨fun h => h2 _ _ E Q' h, fun h => h3 _ _ E Q' h⟩
  | dict ha hb hl hd =>
    obtain rfl := Rep.objI rv; obtain rfl := Rep.objI rw'
    obtain ⟨va, da, ra, _, na⟩ := t.dict ha
    obtain ⟨vb, db, rb, _, nb⟩ := t.dict hb
    have hh := eqd_hits t.heap rb hd ra F.A.in1 (by show F.A.units + 1 + 40 < cLine; first | lia | omega)
    have hlen : (va.length == vb.length) = true := by rw [ra.length, rb.length, hl]; simp
    exact ⟨fun h => PySem.W.keq_eq na nb da db (by first | lia | omega) (fun _ => hh) (by rw [hlen, Bool.true_and]; exact h), fun h => PySem.W.keq_ne na nb da db (by first | lia | omega) (fun _ => hh) (by rw [hlen, Bool.true_and]; exact h)⟩
  | dictlen ha hb hl =>
    obtain rfl := Rep.objI rv; obtain rfl := Rep.objI rw'
    obtain ⟨va, da, ra, _, na⟩ := t.dict ha
    obtain ⟨vb, db, rb, _, nb⟩ := t.dict hb
    have hne : ¬ va.length = vb.length := by rw [ra.length, rb.length]; exact hl
    have hlen : (va.length == vb.length) = false := by simpa using hne
    exact ⟨fun h => PySem.W.keq_eq (r := true) na nb da db (by first | lia | omega) (fun e => absurd e hne) (by rw [hlen, Bool.false_and]; exact h), fun h => PySem.W.keq_ne (r := true) na nb da db (by first | lia | omega) (fun e => absurd e hne) (by rw [hlen, Bool.false_and]; exact h)⟩

theorem cmpW_to {op : CmpOp} {p q : PV} (h : cmpW op p q Q H) : CmpW (fun b => Q b H) H op p q := h.to fun b e k => by
  unfold cmpF at e
  split at e
  · split at e
    · unfold cmpI at e
      split at e <;> cases e
      · exact .eq (.val (.int _ _)) k
      · exact .ne (.val (.int _ _)) k
      · exact .lt _ _ k
      · exact .le _ _ k
      · exact .gt _ _ k
    · cases e
  · split at e
    · unfold cmpS at e
      split at e <;> cases e
      · exact .eq (.val (.str _ _)) k
      · exact .ne (.val (.str _ _)) k
    · cases e
  · split at e
    · unfold noneF at e
      split at e <;> cases e
      · exact .isN k
      · exact .niN k
    · cases e
theorem none_rep {h : Heap} {v : Value} {p : PV} (r : Rep cx h v p) : (v == .none) = isN p := by cases r <;> rfl
theorem cmp_ok {op : CmpOp} {v w : Value} {p q : PV} (hu : F.A.units + 100 < cLine) (rv : Rep cx s.heap v p) (rw' : Rep cx s.heap w q) (t : St cx F m H s.heap) (h : cmpW op p q Q H) :
    Ev IsB cx F (compareOp op v w) m H s Q X := by
  replace h := cmpW_to h
  cases h with
  | eq e k => exact (eq_ok hu rv rw' t e _ _).1 (.toks s.toks rfl t k)
  | ne e k => exact (eq_ok hu rv rw' t e _ _).2 (.toks s.toks rfl t k)
  | lt a b k => obtain ⟨_, rfl⟩ := Rep.intI rv; obtain ⟨_, rfl⟩ := Rep.intI rw'; exact lt_int (.toks s.toks rfl t k)
  | le a b k => obtain ⟨_, rfl⟩ := Rep.intI rv; obtain ⟨_, rfl⟩ := Rep.intI rw'; exact le_int (.toks s.toks rfl t k)
  | gt a b k => obtain ⟨_, rfl⟩ := Rep.intI rv; obtain ⟨_, rfl⟩ := Rep.intI rw'; exact gt_int (.toks s.toks rfl t k)
  | isN k => obtain rfl := Rep.noneI rw'; exact is_none_gen (by rw [none_rep rv]; exact .toks s.toks rfl t k)
  | niN k => obtain rfl := Rep.noneI rw'; exact isnot_none_gen (by rw [none_rep rv]; exact .toks s.toks rfl t k)
  | isB k => obtain rfl := Rep.boolI rv; obtain rfl := Rep.boolI rw'; exact is_bool (.toks s.toks rfl t k)
  | niB k => obtain rfl := Rep.boolI rv; obtain rfl := Rep.boolI rw'; exact isnot_bool (.toks s.toks rfl t k)
  | inD ha h =>
    obtain ⟨tk, rfl⟩ := rv.strI
    obtain rfl := Rep.objI rw'
    obtain ⟨vs, d, r, _, hn⟩ := t.dict ha
    refine wpAny_in_of (knd := cx.sk) (strKind_is _ _ _ _) hn d.mapOf ?_
    rw [r.isSome]; exact .toks _ rfl t h
  | niD ha h =>
    obtain ⟨tk, rfl⟩ := rv.strI
    obtain rfl := Rep.objI rw'
    obtain ⟨vs, d, r, _, hn⟩ := t.dict ha
    refine wpAny_notIn_of (knd := cx.sk) (strKind_is _ _ _ _) hn d.mapOf ?_
    rw [r.isSome]; exact .toks _ rfl t h
  | inL ha h =>
    rename_i k a ks
    obtain ⟨tk, rfl⟩ := rv.strI
    obtain rfl := Rep.objI rw'
    obtain ⟨items, n, e, r, _⟩ := t.list ha
    obtain ⟨h1, h2⟩ := r.strs
    refine SeqAt.in_listAt (eqStr k) (isList_of e) (fun y hy => ?_) ?_
    · obtain ⟨z, u, rfl⟩ := h1 y (by simpa using hy)
      exact EqAt.str_str _ _ _ _
    · rw [← Array.any_toList, h2]; exact .toks s.toks rfl t h
  | niL ha h =>
    rename_i k a ks
    obtain ⟨tk, rfl⟩ := rv.strI
    obtain rfl := Rep.objI rw'
    obtain ⟨items, n, e, r, _⟩ := t.list ha
    obtain ⟨h1, h2⟩ := r.strs
    refine SeqAt.notIn_listAt (eqStr k) (isList_of e) (fun y hy => ?_) ?_
    · obtain ⟨z, u, rfl⟩ := h1 y (by simpa using hy)
      exact EqAt.str_str _ _ _ _
    · rw [← Array.any_toList, h2]; exact .toks s.toks rfl t h
end
end Mine
end
section
open PySem PySem.Calls PyProof.Rows
namespace Mine
set_option autoImplicit false

section
variable {prog : Program} {w : World} {A : Around} {E : Value → Shared → Prop} {s : Shared}
theorem tail_at {value slice : Expr} {o i : Value} {T id : String} {ops : List Value} {Q : Value → Shared → Prop} (hT : s.TypeIs o T)
    (hl : typeLookup (.type T) "__getitem__" = pure (some (.builtin id))) (h : wpAny (model prog w) A (getItem o i) Q E s)
    (hs : subscripted slice false o i = operate ops (getItem o i)) :
    wpAny (model prog w) A (subscriptTail value slice o i) Q E s := by
  unfold subscriptTail
  refine wpAny_bind ?_
  rw [getitemInPython_of_ne hT.not_modules]
  refine wpAny_bind (wpAny_specialOf hT hl ?_)
  have fin : wpAny (model prog w) A (subscripted slice false o i) (fun r s₃ => wpAny (model prog w) A (letTemporaryGo value o r >>= fun _ => pure r) Q E s₃) E s := by
    rw [hs]
    exact wpAny_operating (wpAny_mono h (fun r s₃ h₃ => wpAny_bind (wpAny_letTemporaryGo (wpAny_pure h₃))) fun _ _ x => x)
  first
    | exact wpAny_pure (wpAny_bind fin)
    | exact wpAny_bind (wpAny_pure (wpAny_bind fin))
    | exact wpAny_bind fin

theorem getItem_lst {l : Addr} {items : Array Value} {k : Int} {t : Tok} {x : Value} {Q : Value → Shared → Prop} (hl : s.heap.IsList l items) (hsz : items.size ≤ LIM) (hx : itemAt items.toList k = some x) (h : Q x s) :
    wpAny (model prog w) A (getItem (.ref l) (.int k t)) Q E s := by
  unfold itemAt at hx
  have hL : LIM = 1048576 := rfl
  simp only [Array.length_toList, Array.getElem?_toList] at hx
  split at hx
  · rename_i h0
    have : k.toNat < items.size := (Array.getElem?_eq_some_iff.mp hx).1
    exact wpAny_getItem_list hl h0 (by first | lia | omega) hx h
  · split at hx
    · exact wpAny_getItem_list_neg hl (by first | lia | omega) (by first | lia | omega) (by first | lia | omega) hx h
    · cases hx
theorem seqIdx {k : Int} {n : Nat} {α : Type} {xs : List α} {x : α} (hn : xs.length = n) (hx : itemAt xs k = some x) : ∃ j, seqIndex? k n = some j ∧ xs[j]? = some x := by
  unfold itemAt at hx
  split at hx
  · rename_i h0
    have : k.toNat < xs.length := (List.getElem?_eq_some_iff.mp hx).1
    exact ⟨_, seqIndex_of h0 (by first | lia | omega), hx⟩
  · split at hx
    · rename_i h0 h1
      refine ⟨_, seqIndex_neg (by first | lia | omega) (by first | lia | omega), ?_⟩
      rw [← hn]; exact hx
    · cases hx
theorem itemAt_range {k : Int} {α : Type} {xs : List α} {x : α} (hx : itemAt xs k = some x) : -(xs.length : Int) ≤ k ∧ k < xs.length := by
  unfold itemAt at hx
  split at hx
  · have : k.toNat < xs.length := (List.getElem?_eq_some_iff.mp hx).1
    first | lia | omega
  · split at hx
    · have : (k + xs.length).toNat < xs.length := (List.getElem?_eq_some_iff.mp hx).1
      first | lia | omega
    · cases hx
end

theorem RepL.item {cx : Cx} {h : Heap} {vs : List Value} {ps : List PV} (r : RepL cx h vs ps) {k : Int} {p : PV} (e : itemAt ps k = some p) : ∃ v, itemAt vs k = some v ∧ Rep cx h v p := by
  unfold itemAt at e ⊢
  rw [r.length]
  split at e
  · rw [if_pos (by assumption)]; exact r.get e
  · rw [if_neg (by assumption)]
    split at e
    · rw [if_pos (by assumption)]; exact r.get e
    · cases e
theorem ints_item {vs : List Value} {ns : List Int} (r : IntsAre vs ns) {k : Int} {n : Int} (e : itemAt ns k = some n) : ∃ t, itemAt vs k = some (.int n t) := by
  have g : ∀ {vs : List Value} {ns : List Int}, IntsAre vs ns → ∀ {j : Nat} {n : Int}, ns[j]? = some n → ∃ t, vs[j]? = some (.int n t) := by
    intro vs ns r
    induction r with
    | nil => intro j n e; simp at e
    | cons a t _ ih =>
      intro j n e
      cases j with
      | zero => simp at e; subst e; exact ⟨t, rfl⟩
      | succ j => simp at e; simpa using ih e
  unfold itemAt at e ⊢
  rw [r.length]
  split at e
  · rw [if_pos (by assumption)]; exact g r e
  · rw [if_neg (by assumption)]
    split at e
    · rw [if_pos (by assumption)]; exact g r e
    · cases e

section
variable {cx : Cx} {F : Fm} {m : Loc} {H : AHeap} {s : Shared} {Q : Post} {X : XPost}

theorem St.tape {a : Addr} {n : Nat} (t : St cx F m H s.heap) (e : H a = some (.tape n)) : ∃ u k, s.heap.get? a = some (lstObj #[.int n u] k) := t.heap a _ e
theorem ints_len {vs : List Value} {ns : List Int} (r : IntsAre vs ns) : vs.length = ns.length := r.length

theorem subW_to {p q : PV} (h : subW p q Q H) : SubW Q H p q := h.to fun u e k => by
  unfold subF at e
  split at e
  · split at e
    · exact .tup e k
    · cases e
  · cases e
theorem sub_ok {value slice : Expr} {v i : Value} {p q : PV} (hs : ∀ o i, subscripted slice false o i = operate [o, i] (getItem o i)) (rv : Rep cx s.heap v p) (ri : Rep cx s.heap i q) (t : St cx F m H s.heap) (h : subW p q Q H) :
    Ev (Rep cx) cx F (subscriptTail value slice v i) m H s Q X := by
  have hL : LIM = 1048576 := rfl
  replace h := subW_to h
  cases h with
  | tup e h =>
    obtain ⟨a, items, n, rfl, g, l, r⟩ := rv.tupI
    obtain ⟨u, rfl⟩ := ri.intI
    obtain ⟨y, ey, ry⟩ := r.item e
    obtain ⟨j, h1, h2⟩ := seqIdx (n := items.size) (by simp) ey
    have := itemAt_range e
    refine tail_at (T := "tuple") ⟨_, g, rfl⟩ slot_tuple_getitem.lookup (P.getItem_tuple g (by first | lia | omega) (by first | lia | omega) h1 (by simpa using h2) (.toks s.toks ry t h)) (hs _ _)
  | str hz e h =>
    rename_i y x k
    obtain ⟨u, rfl⟩ := rv.strI
    obtain ⟨u, rfl⟩ := ri.intI
    unfold signAt at e
    obtain ⟨c, ec, rfl⟩ := Option.map_eq_some_iff.mp e
    have hl : y.cps.toList.length = y.length := by simp [Str.length]
    obtain ⟨j, h1, h2⟩ := seqIdx hl ec
    have := itemAt_range ec
    refine tail_at (T := "str") (typeIs_str _ _ _) PySem.F.slot_str_getitem.lookup (getItem_str (i := k) (c := c) ?_ ?_ (.toks _ (.str _ _) t h)) (hs _ _)
    · simp; first | lia | omega
    · rw [h1]; simpa using h2
  | fls e h =>
    obtain ⟨a, items, rfl, g, ii, l⟩ := rv.flsI
    obtain ⟨u, rfl⟩ := ri.intI
    obtain ⟨y, ey⟩ := ints_item ii e
    have hk := ints_len ii
    have g' := isList_up g t.base
    refine tail_at (T := "list") g'.typeIs slot_list_getitem.lookup (getItem_lst g' (by simp at hk; first | lia | omega) ey (.toks s.toks (.int _ _) t h)) (hs _ _)
  | fdt e h =>
    obtain ⟨a, vs, rfl, d, r⟩ := rv.fdtI
    obtain ⟨u, rfl⟩ := ri.strI
    obtain ⟨y, ey, ry⟩ := r.get e
    have d' := d.keep t.base
    exact tail_at (T := "dict") d'.typeIs slot_dict_getitem.lookup (wpAny_getItem_of (knd := cx.sk) (strKind_is _ _ _ _) d'.mapOf ey (.toks _ ry t h)) (hs _ _)
  | list ha e h =>
    obtain rfl := Rep.objI rv
    obtain ⟨u, rfl⟩ := ri.intI
    obtain ⟨items, n, g, r, l⟩ := t.list ha
    obtain ⟨y, ey, ry⟩ := r.item e
    have hk := arr_len r
    refine tail_at (T := "list") ⟨_, g, rfl⟩ slot_list_getitem.lookup (getItem_lst (isList_of g) (by first | lia | omega) ey (.toks s.toks ry t h)) (hs _ _)
  | dict ha e h =>
    obtain rfl := Rep.objI rv
    obtain ⟨u, rfl⟩ := ri.strI
    obtain ⟨vs, d, r, _⟩ := t.dict ha
    obtain ⟨y, ey, ry⟩ := r.get e
    exact tail_at (T := "dict") d.typeIs slot_dict_getitem.lookup (wpAny_getItem_of (knd := cx.sk) (strKind_is _ _ _ _) d.mapOf ey (.toks _ ry t h)) (hs _ _)
  | tape ha h =>
    obtain rfl := Rep.objI rv
    obtain ⟨u, rfl⟩ := ri.intI
    obtain ⟨u, k, g⟩ := t.tape ha
    exact tail_at (T := "list") ⟨_, g, rfl⟩ slot_list_getitem.lookup (getItem_lst (isList_of g) (by simp [LIM]) rfl (.toks s.toks (.int _ _) t h)) (hs _ _)
end
end Mine
end
section
open PySem PySem.Calls PyProof.Rows
namespace Mine
set_option autoImplicit false
open PySem.Builtin.Str (strSliceIndices)

theorem cutAt_le (n : Nat) (k : Int) : cutAt n k ≤ n := by unfold cutAt; split <;> (first | lia | omega)
theorem clip_cut (n : Nat) (k : Int) : max 0 (min (if k < 0 then k + (n : Int) else k) (n : Int)) = (cutAt n k : Int) := by
  unfold cutAt
  by_cases h : 0 ≤ k
  · rw [if_neg (by first | lia | omega), if_pos h]; first | lia | omega
  · rw [if_pos (by first | lia | omega), if_neg h]; first | lia | omega
theorem bounds_from (n : Nat) (k : Int) : sliceBounds (some k) none none n = ((cutAt n k : Int), (n : Int), 1) := by
  show (max 0 (min (if k < 0 then k + (n : Int) else k) (n : Int)), (n : Int), (1 : Int)) = _
  rw [clip_cut]
theorem bounds_to (n : Nat) (k : Int) : sliceBounds none (some k) none n = ((0 : Int), (cutAt n k : Int), 1) := by
  show ((0 : Int), max 0 (min (if k < 0 then k + (n : Int) else k) (n : Int)), (1 : Int)) = _
  rw [clip_cut]
theorem pick_from' (items : Array Value) (k : Int) : (slicePick items (some k) none none).toList = items.toList.drop (cutAt items.size k) := by
  unfold slicePick
  rw [bounds_from]
  simp only
  rw [sliceRange_one, pick_run, List.take_of_length_le (by simp)]
theorem pick_to' (items : Array Value) (k : Int) : (slicePick items none (some k) none).toList = items.toList.take (cutAt items.size k) := by
  unfold slicePick
  rw [bounds_to]
  simp only
  rw [show (0 : Int) = ((0 : Nat) : Int) from rfl, sliceRange_one, pick_run, List.drop_zero, Nat.sub_zero]
theorem fm_congr {α β : Type} {f g : α → Option β} : ∀ {l : List α}, (∀ x ∈ l, f x = g x) → l.filterMap f = l.filterMap g
  | [], _ => rfl
  | a :: l, h => by rw [List.filterMap_cons, List.filterMap_cons, h a (List.mem_cons_self ..), fm_congr fun x hx => h x (List.mem_cons_of_mem _ hx)]
theorem pick_rev (items : Array Value) : (slicePick items none none (some (-1))).toList = items.toList.reverse := by
  have h := pick_run items.toList.reverse.toArray 0 items.size
  rw [List.drop_zero, List.take_of_length_le (by simp)] at h
  simp only [List.toList_toArray] at h
  refine Eq.trans ?_ h
  unfold slicePick
  rw [show sliceBounds none none (some (-1)) items.size = ((items.size : Int) - 1, -1, -1) from rfl]
  simp only [List.toList_toArray]
  unfold sliceRange
  rw [if_neg (by decide)]
  have hc : (if (items.size : Int) - 1 > -1 then ((items.size : Int) - 1 - -1 - -1 - 1) / (- -1) else 0).toNat = items.size := by
    split
    · rw [show (- -1 : Int) = 1 from rfl, Int.ediv_one]; first | lia | omega
    · first | lia | omega
  simp only [hc]
  rw [List.filterMap_map, List.filterMap_map]
  refine fm_congr fun k hk => ?_
  have hk' : k < items.size := List.mem_range.mp hk
  simp only [Function.comp]
  rw [show ((items.size : Int) - 1 + -1 * (k : Int)).toNat = items.size - 1 - k by first | lia | omega, Nat.zero_add]
  have e : items.toList.reverse.toArray[k]? = items.toList.reverse[k]? := by simp
  rw [e, List.getElem?_reverse (by simpa using hk'), Array.length_toList, Array.getElem?_toList]
theorem str_from (x : Str) (k : Int) : Txt.slice x (some k) none = ⟨(x.cps.toList.drop (cutAt x.length k)).toArray⟩ := by
  have e : strSliceIndices (some k) none 1 x.length = (List.range (x.length - cutAt x.length k)).map (cutAt x.length k + ·) := by
    show sliceRange (max 0 (min (if k < 0 then k + (x.length : Int) else k) (x.length : Int))) (x.length : Int) 1 = _
    rw [clip_cut, sliceRange_one]
  unfold Txt.slice
  rw [e, pick_run]
  split
  · rename_i h
    simp at h
    have hc := cutAt_le x.length k
    have z : cutAt x.length k = 0 ∨ x.length = 0 := by first | lia | omega
    rcases z with z | z
    · rw [z]; simp
    · have : x.cps.toList = [] := by
        have : x.cps.size = 0 := z
        simpa using this
      rw [this]; cases x; simp_all
  · rw [List.take_of_length_le (by simp [Str.length])]
theorem str_to (x : Str) (k : Int) : Txt.slice x none (some k) = ⟨(x.cps.toList.take (cutAt x.length k)).toArray⟩ := by
  have e : strSliceIndices none (some k) 1 x.length = (List.range (cutAt x.length k - 0)).map (0 + ·) := by
    show sliceRange 0 (max 0 (min (if k < 0 then k + (x.length : Int) else k) (x.length : Int))) 1 = _
    rw [clip_cut, show (0 : Int) = ((0 : Nat) : Int) from rfl, sliceRange_one]
  unfold Txt.slice
  rw [e, pick_run]
  split
  · rename_i h
    simp at h
    rw [h, List.take_of_length_le (by simp [Str.length])]
  · rw [List.drop_zero, Nat.sub_zero]

section
variable {prog : Program} {w : World} {A : Around} {E : Value → Shared → Prop} {s : Shared}
theorem slicePart_of {v : Value} {k : Option Int} {Q : Option Int → Shared → Prop} (p : IsPart v k) (h : Q k s) : wpAny (model prog w) A (Builtin.Slice.slicePartIndex v) Q E s := by
  cases p with
  | none => exact slicePart_none h
  | int i t => exact slicePart_int h
theorem sliceApplied_of {sl : Addr} {vl vu : Value} {lo hi : Option Int} {n : Nat} {a b : Nat} {Q : Int × Int × Nat → Shared → Prop} (hs : s.heap.IsSliceOf sl vl vu .none) (pl : IsPart vl lo) (pu : IsPart vu hi)
    (e : Builtin.Slice.sliceAdjust lo hi 1 (n : Int) = ((a : Int), (b : Int))) (h : Q ((a : Int), 1, b - a) s) :
    wpAny (model prog w) A (Builtin.Slice.sliceApplied (.ref sl) (pure (n : Int))) Q E s := by
  obtain ⟨os, hos, hcs, hds⟩ := id hs
  unfold Builtin.Slice.sliceApplied Builtin.Slice.sliceFields
  refine wpAny_bind (wpAny_bind (wpAny_field hos hds (x := vl) rfl (wpAny_bind (wpAny_field hos hds (x := vu) rfl (wpAny_bind (wpAny_field hos hds (x := .none) rfl (wpAny_pure ?_)))))))
  refine wpAny_bind (slicePart_none ?_)
  show wpAny _ _ (if ((1 : Int) == 0) = true then _ else _) _ _ s
  rw [if_neg (by decide)]
  refine wpAny_bind (slicePart_of pl (wpAny_bind (slicePart_of pu (wpAny_bind (wpAny_pure ?_)))))
  show wpAny _ _ (match Builtin.Slice.sliceAdjust lo hi 1 (n : Int) with | (lo, hi) => pure (lo, (1 : Int), Builtin.Slice.slicePlaces lo hi 1)) _ _ s
  rw [e]
  show wpAny _ _ (pure ((a : Int), (1 : Int), Builtin.Slice.slicePlaces (a : Int) (b : Int) 1)) _ _ s
  have : Builtin.Slice.slicePlaces (a : Int) (b : Int) 1 = b - a := by
    unfold Builtin.Slice.slicePlaces
    have h1 : (1 : Int) > 0 := by first | lia | omega
    simp only [h1, if_true, Int.ediv_one]
    split <;> (first | lia | omega)
  rw [this]
  exact wpAny_pure h
theorem pick_cut (xs : Array Value) (a b : Nat) : ((List.range (b - a)).filterMap fun (k : Nat) => xs[((a : Int) + (k : Int) * 1).toNat]?).toArray = ((xs.toList.drop a).take (b - a)).toArray := by
  have e : (fun (k : Nat) => xs[((a : Int) + (k : Int) * 1).toNat]?) = fun k => xs[a + k]? := by
    funext k
    have : ((a : Int) + (k : Int) * 1).toNat = a + k := by first | lia | omega
    rw [this]
  rw [e]
  have := pick_run xs a (b - a)
  rw [List.filterMap_map] at this
  have e2 : ((fun x => xs[x]?) ∘ fun x => a + x) = fun k => xs[a + k]? := rfl
  rw [e2] at this
  rw [this]
theorem getItem_tup_cut {t sl : Addr} {items : Array Value} {k : Nat} {vl vu : Value} {lo hi : Option Int} {a b : Nat} {Q : Value → Shared → Prop} (ht : s.heap.get? t = some (tupObj items k)) (hs : s.heap.IsSliceOf sl vl vu .none)
    (pl : IsPart vl lo) (pu : IsPart vu hi) (e : Builtin.Slice.sliceAdjust lo hi 1 (items.size : Int) = ((a : Int), (b : Int))) (hb : b ≤ items.size) (hsz : items.size ≤ sizeLine)
    (h0 : a = 0 → b - a = items.size → Q (.ref t) s)
    (h : Q (.ref s.heap.objs.size) { s with heap := s.heap.push (tupObj ((items.toList.drop a).take (b - a)).toArray 0) }) : wpAny (model prog w) A (getItem (.ref t) (.ref sl)) Q E s := by
  have hit : IsTup s.heap t items := isTup_of ht
  have hdrop : sizeOk (.seq ((items.toList.drop a).take (b - a)).toArray) := by
    show ((items.toList.drop a).take (b - a)).toArray.size ≤ sizeLine
    rw [List.size_toArray, List.length_take, List.length_drop, Array.length_toList]
    first | lia | omega
  obtain ⟨os, hos, hcs, hds⟩ := id hs
  have hTs : s.TypeIs (.ref sl) "slice" := ⟨os, hos, hcs⟩
  unfold getItem
  try with_reducible refine wpAny_holding ?_
  first | refine wpAny_bind (wpAny_pure ?_) | skip
  refine wpAny_bind (wpAny_sequenceKey hit.typeIs (by decide) ?_)
  refine wpAny_bind (wpAny_callSpecial?_slot (name := Str.ofString "__getitem__") hit.typeIs slot_tuple_getitem
    (wpAny_call_entry slot_tuple_getitem hit.typeIs entry_tuple_getitem ?_ (args_tuple_getitem _ _)))
  show wpAny _ _ (Builtin.Tuple.tupleItemsOf (.ref t) >>= _) _ _ s
  refine wpAny_bind (tupleItemsOf_ hit ?_)
  refine wpAny_bind (wpAny_typeOf hTs ?_)
  rw [if_pos (by decide)]
  refine wpAny_bind (sliceApplied_of hs pl pu e ?_)
  show wpAny _ _ (if ((a : Int) == 0 && (1 : Int) == 1 && (b - a) == items.size) = true then _ else _) _ _ s
  by_cases hc : ((a : Int) == 0 && (1 : Int) == 1 && (b - a) == items.size) = true
  · rw [if_pos hc]
    simp at hc
    have hq := h0 (by first | lia | omega) (by first | lia | omega)
    unfold Builtin.Tuple.tupleIsExact
    refine wpAny_bind (wpAny_bind (wpAny_typeOf hit.typeIs (wpAny_pure ?_)))
    first
      | exact wpAny_bind (wpAny_rule (wpAny_pure ⟨_, rfl, wpAny_pure hq⟩))
      | exact wpAny_bind (wpAny_rule (wpAny_bind (wpAny_pure (wpAny_pure ⟨_, rfl, wpAny_pure hq⟩))))
  · rw [if_neg hc, pick_cut items a b]
    first
      | exact wpAny_bind (m := Builtin.Tuple.tupleExact _) (wpAny_newObj_type (wpAny_pure ⟨_, rfl, wpAny_pure h⟩) hdrop)
      | exact wpAny_bind (m := Builtin.Tuple.tupleExact _) (wpAny_newObj_type (wpAny_bind (wpAny_pure (wpAny_pure ⟨_, rfl, wpAny_pure h⟩))) hdrop)
      | exact wpAny_bind (wpAny_bind (m := Builtin.Tuple.tupleExact _) (wpAny_newObj_type (wpAny_pure (wpAny_pure ⟨_, rfl, wpAny_pure h⟩)) hdrop))
      | exact wpAny_bind (wpAny_bind (m := Builtin.Tuple.tupleExact _) (wpAny_newObj_type (wpAny_pure ⟨_, rfl, wpAny_pure h⟩) hdrop))
end
section
variable {cx : Cx} {F : Fm} {m : Loc} {H : AHeap} {s : Shared} {Q : Post} {X : XPost}
theorem adj_from (n : Nat) (k : Int) : Builtin.Slice.sliceAdjust (some k) none 1 (n : Int) = ((cutAt n k : Int), (n : Int)) := by
  unfold Builtin.Slice.sliceAdjust cutAt
  simp only [show ¬ ((1 : Int) < 0) by first | lia | omega, if_false]
  congr 1
  split <;> split <;> (first | lia | omega)
theorem adj_to (n : Nat) (k : Int) : Builtin.Slice.sliceAdjust none (some k) 1 (n : Int) = (((0 : Nat) : Int), (cutAt n k : Int)) := by
  unfold Builtin.Slice.sliceAdjust cutAt
  simp only [show ¬ ((1 : Int) < 0) by first | lia | omega, if_false]
  congr 1
  split <;> split <;> (first | lia | omega)

theorem repl_ints {cx : Cx} {h : Heap} : ∀ {vs : List Value} {ns : List Int}, IntsAre vs ns → RepL cx h vs (ns.map .int)
  | _, _, .nil => .nil
  | _, _, .cons _ _ r => .cons (.int _ _) (repl_ints r)
noncomputable def slObj (l u st : Value) : Obj := { cls := .type "slice", data := .fields #[l, u, st] }
theorem St.push {o : Obj} (t : St cx F m H s.heap) : St cx F m H (s.heap.push o) :=
  t.step (s := s) (s' := { s with heap := s.heap.push o }) (.grow (tk := s.toks) push_keeps fun _ _ _ e => e) (t.heap.grow push_keeps)

theorem sfrom_ok {value slice : Expr} {v i : Value} {p q : PV} (hs : ∀ o i, subscripted slice false o i = operate [i, o] (getItem o i)) (rv : Rep cx s.heap v p) (ri : Rep cx s.heap i q) (t : St cx F m H s.heap) (h : FromW Q H p q) :
    Ev (Rep cx) cx F (subscriptTail value slice v (.ref s.heap.objs.size)) m H { s with heap := s.heap.push (slObj i .none .none) } Q X := by
  have hL : LIM = 1048576 := rfl
  have hL' := LIM_le
  have so : ∀ b o, s.heap.get? b = some o → Solid o → (s.heap.push (slObj i .none .none)).get? b = some o := fun b o e _ => push_keeps b o e
  have t' := t.push (o := slObj i .none .none)
  have hsl := Heap.IsSliceOf.new s.heap i .none .none
  replace rv := rv.mono so
  cases h with
  | tup h =>
    rename_i xs k
    obtain ⟨a, items, n, rfl, g, l, r⟩ := rv.tupI
    obtain ⟨u, rfl⟩ := ri.intI
    have hk := arr_len r
    refine tail_at (T := "tuple") ⟨_, g, rfl⟩ slot_tuple_getitem.lookup (getItem_tup_cut g hsl (.int _ _) .none (adj_from _ _) (Nat.le_refl _) (by first | lia | omega) (fun h1 h2 => ?_) ?_) (hs _ _)
    · refine .toks s.toks (.tup (xs := _) g l r) t' ?_
      rw [← hk, h1] at h; exact h
    · refine new_tup (tk := s.toks) (c := 0) t' push_keeps (Heap.get?_push_size _ rfl) ?_ ?_ h
      · rw [List.take_of_length_le (by simp), ← hk]; exact r.drop _
      · simp; first | lia | omega
  | str hz h =>
    rename_i x k
    obtain ⟨u, rfl⟩ := rv.strI
    obtain ⟨u, rfl⟩ := ri.intI
    refine tail_at (T := "str") (typeIs_str _ _ _) PySem.F.slot_str_getitem.lookup (wpAny_getItem_str_slice (l := some (k, u)) (u := none) (st := none) ⟨_, Heap.get?_push_size _ rfl, rfl, rfl⟩ rfl
      (post_val_or_str ⟨Nat.le_trans (Txt.slice_le x _ _) (by first | lia | omega), fun t'' k' => ?_⟩)) (hs _ _)
    show OkG _ _ _ _ _ _ _ (Value.str (Txt.slice x (some k) none) t'') _
    rw [str_from]; exact .toks _ (.str _ _) t' h
  | list ha h =>
      obtain rfl := Rep.objI rv
      obtain ⟨u, rfl⟩ := ri.intI
      obtain ⟨items, n, g, r, l⟩ := t'.list (s := { s with heap := _ }) ha
      have hk := arr_len r
      refine tail_at (T := "list") ⟨_, g, rfl⟩ slot_list_getitem.lookup (wpAny_getItem_list_slice (isList_of g) hsl (.int _ _) .none .none (by simp) ?_ (by first | lia | omega)) (hs _ _)
      refine new_list (tk := s.toks) (c := 0) t' push_keeps (get_size_none _) (Heap.get?_push_size _ rfl) ?_ ?_ h
      · rw [pick_from', hk]; exact r.drop _
      · simp; first | lia | omega

theorem rev_ok {value slice : Expr} {v : Value} {u : Tok} {p : PV} (hs : ∀ o i, subscripted slice false o i = operate [o, i] (getItem o i)) (rv : Rep cx s.heap v p) (t : St cx F m H s.heap) (h : RevW Q H p) :
    Ev (Rep cx) cx F (subscriptTail value slice v (.ref s.heap.objs.size)) m H { s with heap := s.heap.push (slObj .none .none (.int (-1) u)) } Q X := by
  have hL : LIM = 1048576 := rfl
  have hL' := LIM_le
  have t' := t.push (o := slObj .none .none (.int (-1) u))
  cases h with
  | list ha h =>
    obtain rfl := Rep.objI rv
    obtain ⟨items, n, g, r, l⟩ := t'.list (s := { s with heap := _ }) ha
    have hk := arr_len r
    refine tail_at (T := "list") ⟨_, g, rfl⟩ slot_list_getitem.lookup (wpAny_getItem_list_slice (isList_of g) (Heap.IsSliceOf.new s.heap .none .none (.int (-1) u)) .none .none (.int _ _) (by simp) ?_ (by first | lia | omega)) (hs _ _)
    refine new_list (tk := s.toks) (c := 0) t' push_keeps (get_size_none _) (Heap.get?_push_size _ rfl) ?_ ?_ h
    · rw [pick_rev]; exact r.reverse
    · simpa using l
theorem sto_ok {value slice : Expr} {v i : Value} {p q : PV} (hs : ∀ o i, subscripted slice false o i = operate [i, o] (getItem o i)) (rv : Rep cx s.heap v p) (ri : Rep cx s.heap i q) (t : St cx F m H s.heap) (h : ToW Q H p q) :
    Ev (Rep cx) cx F (subscriptTail value slice v (.ref s.heap.objs.size)) m H { s with heap := s.heap.push (slObj .none i .none) } Q X := by
  have hL : LIM = 1048576 := rfl
  have hL' := LIM_le
  have so : ∀ b o, s.heap.get? b = some o → Solid o → (s.heap.push (slObj .none i .none)).get? b = some o := fun b o e _ => push_keeps b o e
  have t' := t.push (o := slObj .none i .none)
  have hsl := Heap.IsSliceOf.new s.heap .none i .none
  replace rv := rv.mono so
  cases h with
  | tup h =>
    rename_i xs k
    obtain ⟨a, items, n, rfl, g, l, r⟩ := rv.tupI
    obtain ⟨u, rfl⟩ := ri.intI
    have hk := arr_len r
    have hc := cutAt_le items.size k
    refine tail_at (T := "tuple") ⟨_, g, rfl⟩ slot_tuple_getitem.lookup (getItem_tup_cut g hsl .none (.int _ _) (adj_to _ _) hc (by first | lia | omega) (fun h1 h2 => ?_) ?_) (hs _ _)
    · refine .toks s.toks (.tup (xs := _) g l r) t' ?_
      rw [List.take_of_length_le (by rw [← hk]; first | lia | omega)] at h; exact h
    · refine new_tup (tk := s.toks) (c := 0) t' push_keeps (Heap.get?_push_size _ rfl) ?_ ?_ h
      · rw [List.drop_zero, Nat.sub_zero, hk]; exact r.take _
      · simp; first | lia | omega
  | str hz h =>
    rename_i x k
    obtain ⟨u, rfl⟩ := rv.strI
    obtain ⟨u, rfl⟩ := ri.intI
    refine tail_at (T := "str") (typeIs_str _ _ _) PySem.F.slot_str_getitem.lookup (wpAny_getItem_str_slice (l := none) (u := some (k, u)) (st := none) ⟨_, Heap.get?_push_size _ rfl, rfl, rfl⟩ rfl
      (post_val_or_str ⟨Nat.le_trans (Txt.slice_le x _ _) (by first | lia | omega), fun t'' k' => ?_⟩)) (hs _ _)
    show OkG _ _ _ _ _ _ _ (Value.str (Txt.slice x none (some k)) t'') _
    rw [str_to]; exact .toks _ (.str _ _) t' h
  | fls h =>
    obtain ⟨a, items, rfl, g, ii, l⟩ := rv.flsI
    obtain ⟨u, rfl⟩ := ri.intI
    have hk := ints_len ii
    rw [Array.length_toList] at hk
    have g' := isList_up g t'.base
    refine tail_at (T := "list") g'.typeIs slot_list_getitem.lookup (wpAny_getItem_list_slice g' hsl .none (.int _ _) .none (by simp) ?_ (by first | lia | omega)) (hs _ _)
    refine new_list (tk := s.toks) (c := 0) t' push_keeps (get_size_none _) (Heap.get?_push_size _ rfl) ?_ ?_ h
    · rw [pick_to', hk]; exact repl_ints (ii.take _)
    · simp; first | lia | omega
  | list ha h =>
      obtain rfl := Rep.objI rv
      obtain ⟨u, rfl⟩ := ri.intI
      obtain ⟨items, n, g, r, l⟩ := t'.list (s := { s with heap := _ }) ha
      have hk := arr_len r
      refine tail_at (T := "list") ⟨_, g, rfl⟩ slot_list_getitem.lookup (wpAny_getItem_list_slice (isList_of g) hsl .none (.int _ _) .none (by simp) ?_ (by first | lia | omega)) (hs _ _)
      refine new_list (tk := s.toks) (c := 0) t' push_keeps (get_size_none _) (Heap.get?_push_size _ rfl) ?_ ?_ h
      · rw [pick_to', hk]; exact r.take _
      · simp; first | lia | omega
end
end Mine
end
section
open PySem PySem.Calls PyProof.Rows
namespace Mine
set_option autoImplicit false

noncomputable def Blt.val : Blt → Value
  | .len => .builtin "len" | .list => .type "list" | .tuple => .type "tuple" | .range => .type "range" | .max => .builtin "max" | .min => .builtin "min" | .int => .type "int" | .str => .type "str"
  | .all => .builtin "all" | .any => .builtin "any" | .abs => .builtin "abs"

section
variable {cx : Cx} {F : Fm} {m : Loc} {H : AHeap} {s : Shared} {Q : Post} {X : XPost}

theorem list_ok {a : Addr} {T : String} {o : Obj} {items : Array Value} {n : Nat} {xs : List PV} (hT : T = "list" ∨ T = "tuple") (g : s.heap.get? a = some o) (hc : o.cls = .type T) (hd : o.data = .seq items n) (r : RepL cx s.heap items.toList xs) (l : xs.length ≤ LIM)
    (t : St cx F m H s.heap) (h : alloc (.list xs) Q H) : Ev (Rep cx) cx F (call (.type "list") [.ref a]) m H s Q X := by
  have hk := arr_len r
  have hL' := LIM_le
  exact call_list_seq a hT g hc hd (fun h' c' gr e => new_list (tk := s.toks) t gr (get_size_none _) e r l h) (by first | lia | omega)

theorem strs_of_keys {h : Heap} : ∀ {vs : List (Str × Value)} {ps : List (Str × PV)} {zs : List Value}, RepK cx h vs ps → zs.length = vs.length →
    (∀ (j : Nat) v, zs[j]? = some v → ∃ k x, vs[j]? = some (k, x) ∧ cx.sk.is k v = true) → RepL cx h zs (ps.map fun x => .str x.1)
  | _, _, [], .nil, _, _ => .nil
  | _, _, [], .cons _ _, e, _ => by simp at e
  | _, _, z :: zs, .nil, e, _ => by simp at e
  | _, _, z :: zs, .cons a r, e, f => by
    refine .cons ?_ (strs_of_keys r (by simpa using e) fun j v q => by simpa using f (j + 1) v (by simpa using q))
    obtain ⟨k, x, h1, h2⟩ := f 0 z rfl
    simp at h1
    obtain ⟨rfl, rfl⟩ := h1
    obtain ⟨t, rfl⟩ := Value.isStrOf_shape h2
    exact .str _ _

theorem ints_rep {h : Heap} : ∀ {vs : List Value} {ns : List Int}, RepL cx h vs (ns.map .int) → IntsAre vs ns
  | _, [], r => by cases r; exact .nil
  | _, b :: bs, r => by
    cases r with
    | cons a r => obtain ⟨t, rfl⟩ := a.intI; exact .cons _ _ (ints_rep r)
theorem bools_are {h : Heap} : ∀ {vs : List Value} {bs : List Bool}, RepL cx h vs (bs.map .bool) → vs = bs.map .bool
  | _, [], r => by cases r; rfl
  | _, b :: bs, r => by
    cases r with
    | cons a r => rw [a.boolI, bools_are r]; rfl
theorem bltW_to {b : Blt} {ps : List PV} (h : bltW b ps Q H) : BltW Q H b ps := h.to fun u e k => by
  unfold bltF at e
  split at e
  · unfold blt1 at e
    split at e
    · split at e <;> cases e
      · exact .lenT _ k
      · exact .tupT _ k
    · split at e <;> cases e
      exact .lenF _ k
    · split at e <;> cases e
      exact .intB _ k
    · cases e
  · unfold blt2 at e
    split at e
    · split at e
      · split at e <;> cases e
        · exact .max _ _ k
        · exact .min _ _ k
      · cases e
    · cases e
  · cases e
theorem blt_ok {b : Blt} {vs : List Value} {ps : List PV} (hh : F.A.handled = none) (r : RepL cx s.heap vs ps) (t : St cx F m H s.heap) (h : bltW b ps Q H) : Ev (Rep cx) cx F (call b.val vs []) m H s Q X := by
  have hL : LIM = 1048576 := rfl
  have hL' := LIM_le
  replace h := bltW_to h
  cases h with
  | lenT xs h =>
    obtain ⟨_, rfl, rv⟩ := r.one
    obtain ⟨a, items, n, rfl, g, l, r⟩ := rv.tupI
    have hk := arr_len r
    refine P.len_tuple g (by first | lia | omega) (.toks _ ?_ t h)
    rw [hk]; exact .int _ _
  | lenS x l h =>
    obtain ⟨_, rfl, rv⟩ := r.one
    obtain ⟨u, rfl⟩ := rv.strI
    exact PyProof.Rows.len_str (by first | lia | omega) (.toks _ (.int _ _) t h)
  | lenF xs h =>
    obtain ⟨_, rfl, rv⟩ := r.one
    obtain ⟨a, items, rfl, g, ii, l⟩ := rv.flsI
    have hk := ints_len ii
    rw [Array.length_toList] at hk
    refine call_len_list (isList_up g t.base) (by first | lia | omega) (.toks _ ?_ t h)
    rw [hk]; exact .int _ _
  | lenL a xs ha h =>
    obtain ⟨_, rfl, rv⟩ := r.one
    obtain rfl := Rep.objI rv
    obtain ⟨items, n, g, r, l⟩ := t.list ha
    have hk := arr_len r
    refine call_len_list (isList_of g) (by first | lia | omega) (.toks _ ?_ t h)
    rw [hk]; exact .int _ _
  | lenD a kvs ha h =>
    obtain ⟨_, rfl, rv⟩ := r.one
    obtain rfl := Rep.objI rv
    obtain ⟨vs, d, r, l, hn⟩ := t.dict ha
    have hk := r.length
    refine call_len_dict hn d (by first | lia | omega) (.toks _ ?_ t h)
    rw [hk]; exact .int _ _
  | listT xs h =>
    obtain ⟨_, rfl, rv⟩ := r.one
    obtain ⟨a, items, n, rfl, g, l, r⟩ := rv.tupI
    exact list_ok (.inr rfl) g rfl rfl r l t h
  | listL a xs ha h =>
    obtain ⟨_, rfl, rv⟩ := r.one
    obtain rfl := Rep.objI rv
    obtain ⟨items, n, g, r, l⟩ := t.list ha
    exact list_ok (.inl rfl) g rfl rfl r l t h
  | listD a kvs ha h =>
    obtain ⟨_, rfl, rv⟩ := r.one
    obtain rfl := Rep.objI rv
    obtain ⟨vs, d, r, l, hn⟩ := t.dict ha
    obtain ⟨ep, d'⟩ := d.dictAt
    have hk := r.length
    refine PySem.W.kdl_call (PySem.W.kdl_dict (knd := cx.sk) hn) hh d' (by first | lia | omega) fun h' tk acc c gr e it => ?_
    refine new_list t gr (get_size_none _) e (strs_of_keys r ?_ fun j v q => ?_) (by simpa using l) h
    · rw [Array.length_toList]; exact it.1
    · exact it.2 j v (by rw [← Array.getElem?_toList]; exact q)
  | tupT xs h =>
    obtain ⟨_, rfl, rv⟩ := r.one
    obtain ⟨a, items, n, rfl, g, l, r⟩ := rv.tupI
    exact call_tuple_same (isTuple_of g) (.toks s.toks (.tup g l r) t h)
  | tupL a xs ha h =>
    obtain ⟨_, rfl, rv⟩ := r.one
    obtain rfl := Rep.objI rv
    obtain ⟨items, n, g, r, l⟩ := t.list ha
    have hk := arr_len r
    refine call_tuple_list (isList_of g) (fun h' gr => ?_) (by first | lia | omega)
    exact new_tup (tk := s.toks) (c := 0) t (fun b o e => push_keeps b o (gr b o e)) (Heap.get?_push_size _ rfl) r l h
  | range n k h =>
    obtain ⟨_, rfl, rv⟩ := r.one
    obtain ⟨u, rfl⟩ := rv.intI
    exact call_range_1 (.grow push_keeps (.rng (Heap.get?_push_size _ rfl) k) t h)
  | max a b h =>
    obtain ⟨_, _, rfl, ra, rb⟩ := r.two
    obtain ⟨u, rfl⟩ := ra.intI
    obtain ⟨v, rfl⟩ := rb.intI
    refine max_two_ints hh fun h' tk g => ?_
    refine .grow g ?_ t h
    split <;> exact .int _ _
  | min a b h =>
    obtain ⟨_, _, rfl, ra, rb⟩ := r.two
    obtain ⟨u, rfl⟩ := ra.intI
    obtain ⟨v, rfl⟩ := rb.intI
    refine min_two_ints hh fun h' tk g => ?_
    refine .grow g ?_ t h
    split <;> exact .int _ _
  | intB b h =>
    obtain ⟨_, rfl, rv⟩ := r.one
    obtain rfl := Rep.boolI rv
    exact call_int_bool (.toks _ (.int _ _) t h)
  | maxL a ns ha k h =>
    obtain ⟨_, rfl, rv⟩ := r.one
    obtain rfl := Rep.objI rv
    obtain ⟨items, n, g, r, l⟩ := t.list ha
    have hi := ints_rep r
    obtain ⟨xs, e⟩ := hi.allInts.items
    have hns : ns = xs.toList.map (·.1) := by rw [← hi.numsOf, ← nums_intItems, ← e]
    have hsz : 0 < xs.size := by rw [hns, List.length_map, Array.length_toList] at k; exact k
    have hl : s.heap.IsList a (intItems xs) := by rw [← e]; exact isList_of g
    refine max_intList hh hl hsz fun v h' tk hv hk => ?_
    obtain ⟨u, rfl⟩ := intItems_at hv
    obtain ⟨h1, h2⟩ := argBest_gt (numAt xs) (xs.size - 1)
    refine .grow hk (.int _ _) t (h _ ?_ fun a ha => ?_)
    · rw [hns, numAt_eq]; exact getD_mem (by rw [List.length_map, Array.length_toList]; (first | lia | omega))
    · rw [hns] at ha
      obtain ⟨j, hj, rfl⟩ := mem_getD ha
      rw [List.length_map, Array.length_toList] at hj
      rw [← numAt_eq]; exact h2 j (by first | lia | omega)
  | allL a bs ha h =>
    obtain ⟨_, rfl, rv⟩ := r.one
    obtain rfl := Rep.objI rv
    obtain ⟨items, n, g, r, l⟩ := t.list ha
    have hlt : a < s.heap.objs.size := Heap.lt_size g
    have hl := isList_of g
    have hb := bools_are r
    refine call_all_walk (wpAny_pyIter_list hl ?_)
    refine ⟨s.heap.objs.size, [s.heap.objs.size, a], [s.heap.objs.size], items.size, _, _, fun i => (bs[i]?).getD true, rfl, Walks.list (A := F.A.in1) hh _ a (Nat.ne_of_lt hlt) items,
      ⟨⟨_, Heap.get?_push_size _ rfl, rfl, rfl⟩, hl.push _⟩, fun i v s' Q' E' hP hQ => ?_, fun h' tk hk => ?_⟩
    · have hv : items.toList[i]? = some v := by simpa using hP
      replace hQ : Q' ((bs[i]?).getD true) s' := hQ
      rw [hb, List.getElem?_map] at hv
      cases hi : bs[i]? with
      | none => rw [hi] at hv; cases hv
      | some b =>
        rw [hi] at hv hQ
        cases hv
        exact wpAny_truthy_bool hQ
    · have e : ((List.range items.size).all fun i => (bs[i]?).getD true) = bs.all id := by
        have : items.size = bs.length := by rw [← Array.length_toList, hb, List.length_map]
        rw [this]; exact LSm.range_all bs
      rw [e]
      exact .grow (LSm.kept_iter hk) (.bool _) t h
end
end Mine
end
section
open PySem PySem.Calls PyProof.Rows
namespace Mine
set_option autoImplicit false

noncomputable def ICls.T : ICls → Option String
  | .str => some "str" | .list => some "list" | .tuple => some "tuple" | .bool => some "bool" | .int => some "int" | _ => none

section
variable {cx : Cx} {F : Fm} {m : Loc} {H : AHeap} {s : Shared} {K : Bool → Prop} {X : XPost}
theorem inEmpty (h : Heap) : PySem.W.Frag.In [] h := fun _ _ e => nomatch e

theorem isiW_to {c : ICls} {p : PV} (h : isiW c p K H) : IsiW K H c p := h.to fun b e k => by
  unfold isiF at e
  split at e
  · split at e
    · cases e; exact .val (by assumption) (by assumption) k
    · cases e
  · cases e
theorem isi_val {c : ICls} {T : String} {v : Value} {p : PV} {n : Nat} {Q : Post} (hT : c.T = some T) (rv : Rep cx s.heap v p) (t : St cx F m H s.heap) (e : tagOf p = some n) (h : Q (.bool (c.hits n)) H) :
    Ev (Rep cx) cx F (call (.builtin "isinstance") [v, .type T]) m H s Q X := by
  cases rv <;> cases e
  · exact PySem.W.kia_one PySem.W.kitx_none (inEmpty _) trivial (by cases c <;> cases hT <;> decide +kernel) (by cases c <;> cases hT <;> simp) fun tk => .toks tk (.bool _) t h
  · exact PySem.W.kia_one PySem.W.kitx_bool (inEmpty _) trivial (by cases c <;> cases hT <;> decide +kernel) (by cases c <;> cases hT <;> simp) fun tk => .toks tk (.bool _) t h
  · exact PySem.W.kia_one PySem.W.kitx_int (inEmpty _) trivial (by cases c <;> cases hT <;> decide +kernel) (by cases c <;> cases hT <;> simp) fun tk => .toks tk (.bool _) t h
  · exact PySem.W.kia_one PySem.W.kitx_str (inEmpty _) trivial (by cases c <;> cases hT <;> decide +kernel) (by cases c <;> cases hT <;> simp) fun tk => .toks tk (.bool _) t h
  · exact PySem.W.kia_one PySem.W.kitx_tuple (inEmpty _) ⟨_, by assumption, rfl⟩ (by cases c <;> cases hT <;> decide +kernel) (by cases c <;> cases hT <;> simp) fun tk => .toks tk (.bool _) t h
theorem isi_list {c : ICls} {T : String} {a : Addr} {xs : List PV} {Q : Post} (hT : c.T = some T) (t : St cx F m H s.heap) (ha : H a = some (.list xs)) (h : Q (.bool (c.hits 5)) H) :
    Ev (Rep cx) cx F (call (.builtin "isinstance") [.ref a, .type T]) m H s Q X := by
  obtain ⟨items, n, g, r, l⟩ := t.list ha
  cases c <;> cases hT <;> exact PySem.W.kia_one PySem.W.kitx_list (inEmpty _) ⟨_, g, rfl⟩ (by decide +kernel) (by simp) fun tk => .toks tk (.bool _) t h
end
end Mine
end
section
open PySem PySem.Calls PyProof.Rows
namespace Mine
set_option autoImplicit false
open SeqAt (EqAt RcAt RcNeAt)

noncomputable def Meth.id : Meth → String
  | .append => "list.append" | .pop => "list.pop" | .dpop => "dict.pop" | .insert => "list.insert" | .count => "list.count" | .join => "str.join"
noncomputable def Meth.ty : Meth → String
  | .append => "list" | .pop => "list" | .dpop => "dict" | .insert => "list" | .count => "list" | .join => "str"

section
variable {cx : Cx} {F : Fm} {m : Loc} {H : AHeap} {s : Shared} {Q : Post} {X : XPost}

theorem lst_update {h : Heap} {l : Addr} {items : Array Value} {n : Nat} (x : h.get? l = some (lstObj items n)) (f : Array Value → Array Value) :
    ∃ n', (h.update l (Obj.mapSeq f)).get? l = some (lstObj (f items) n') := ⟨_, Heap.get?_update_self _ x rfl⟩
theorem upd_keeps {h : Heap} {l : Addr} {f : Obj → Obj} : ∀ b o, b ≠ l → h.get? b = some o → (h.update l f).get? b = some o := fun _ _ n e => (Heap.get?_update_other h f (Ne.symm n)).trans e

/-- a list's row put anew -/
theorem put_list {α β : Type} {R : Heap → α → β → Prop} {Q : β → AHeap → Prop} {l : Addr} {items : Array Value} {n : Nat} {xs ys : List PV} {f : Array Value → Array Value} {v : α} {p : β} {tk : Nat} (t : St cx F m H s.heap) (ha : H l = some (.list xs)) (g : s.heap.get? l = some (lstObj items n))
    (r : RepL cx s.heap (f items).toList ys) (ly : ys.length ≤ LIM) (rv : ∀ h', (∀ b o, s.heap.get? b = some o → Solid o → h'.get? b = some o) → R h' v p) (q : Q p (upd H l (.list ys))) :
    OkG R cx F m H s Q v { s with heap := s.heap.update l (Obj.mapSeq f), toks := tk } := by
  have so : ∀ b o, s.heap.get? b = some o → Solid o → (s.heap.update l (Obj.mapSeq f)).get? b = some o := fun b o e so => upd_keeps b o (by
    rintro rfl; rw [g] at e; cases e
    rcases so with ⟨i, n, q⟩ | ⟨n, t, u, v, q⟩ | ⟨⟨C, q⟩, _⟩ <;> simp [lstObj, tupObj, rngObj] at q) e
  obtain ⟨n', g'⟩ := lst_update g f
  have ro : RepO cx (s.heap.update l (Obj.mapSeq f)) l (.list ys) := ⟨f items, n', g', r.mono so, ly⟩
  exact .put ha upd_keeps (rv _ so) ro t q

theorem bools_rep {h : Heap} : ∀ {vs : List Value} {bs : List Bool}, RepL cx h vs (bs.map .bool) → vs = bs.map .bool
  | _, [], r => by cases r; rfl
  | _, b :: bs, r => by
    cases r with
    | cons a r => rw [a.boolI, bools_rep r]; rfl
theorem strs_rep {h : Heap} : ∀ {vs : List Value} {ss : List Str}, RepL cx h vs (ss.map .str) → StrsAre vs ss
  | _, [], r => by cases r; exact .nil
  | _, b :: bs, r => by
    cases r with
    | cons a r => obtain ⟨t, rfl⟩ := a.strI; exact .cons _ _ (strs_rep r)


theorem RepK.without {h : Heap} {k : Str} : ∀ {vs : List (Str × Value)} {ps : List (Str × PV)}, RepK cx h vs ps → RepK cx h (without vs k) (ps.filter fun p => decide (p.1 ≠ k))
  | _, _, .nil => .nil
  | _, _, .cons (k := k') a r => by
    unfold PySem.without
    by_cases q : k' = k
    · rw [List.filter_cons_of_neg (by simp [q]), List.filter_cons_of_neg (by simp [q])]; exact r.without
    · rw [List.filter_cons_of_pos (by simp [q]), List.filter_cons_of_pos (by simp [q])]; exact .cons a r.without
theorem meth_ok {k : Meth} {v : Value} {p : PV} {vs : List Value} {ps : List PV} (rv : Rep cx s.heap v p) (r : RepL cx s.heap vs ps) (t : St cx F m H s.heap) (h : methW k p ps Q H) : Ev (Rep cx) cx F (call (.builtin k.id) (v :: vs) []) m H s Q X := by
  have hL : LIM = 1048576 := rfl
  have hL' := LIM_le
  cases h with
  | append a xs x ha hlt h =>
    obtain ⟨_, rfl, rx⟩ := r.one
    (first | (obtain ⟨_, rfl⟩ := Rep.intI rv) | (obtain ⟨_, rfl⟩ := Rep.strI rv) | (obtain rfl := Rep.objI rv) | (obtain rfl := Rep.boolI rv) | (obtain rfl := Rep.noneI rv))
    obtain ⟨items, n, g, r, l⟩ := t.list ha
    have hk := arr_len r
    refine call_meets PySem.F.slot_list_append ⟨_, g, rfl⟩ PySem.F.entry_list_append (PySem.F.args_list_append_2 _ _) (list_append _ items n _ (by first | lia | omega)) ⟨g, ?_⟩
    exact put_list (R := Rep cx) (f := fun xs => xs.push _) t ha g (by simpa using r.append (.cons rx .nil)) (by simp; first | lia | omega) (fun _ _ => .none) (mutate_use h)
  | dpop a kvs k x ha e h =>
    obtain ⟨_, rfl, rx⟩ := r.one
    obtain rfl := Rep.objI rv
    obtain ⟨u, rfl⟩ := rx.strI
    obtain ⟨vs, d, rk, l, hn⟩ := t.dict ha
    obtain ⟨v, hv, rv⟩ := rk.get e
    have hk := rk.length
    refine call_meetsIn PySem.F.slot_dict_pop d.typeIs PySem.F.entry_dict_pop (PySem.F.args_dict_pop_2 _ _) (meets_dict_pop_there cx.sk a (k := k) (by simp [Cx.sk, PySem.strKind, Value.isStrOf]) [] (.inl rfl) rfl) ⟨vs, v, d, by (first | lia | omega), hv, fun h' d' sb => ?_⟩
    have hs : ∀ b o, b ≠ a → s.heap.get? b = some o → h'.get? b = some o := fun b o n e => (sb.2 b n).trans e
    have so : ∀ b o, s.heap.get? b = some o → Solid o → h'.get? b = some o := fun b o e so => hs b o (by
      rintro rfl
      obtain ⟨ob, e', n, _⟩ := (t.heap _ _ ha).get; rw [e] at e'; cases e'; exact n so) e
    have ro : RepO cx h' a (.dict (kvs.filter fun p => decide (p.1 ≠ k))) := ⟨_, d', rk.without.mono so, Nat.le_trans (List.length_filter_le ..) l, hn⟩
    exact .put ha hs (rv.mono so) ro t (mutate_use h)
  | join sep a ss ha h0 hs h =>
    obtain ⟨_, rfl, rx⟩ := r.one
    obtain ⟨u, rfl⟩ := rv.strI
    (first | (obtain ⟨_, rfl⟩ := Rep.intI rx) | (obtain ⟨_, rfl⟩ := Rep.strI rx) | (obtain rfl := Rep.objI rx) | (obtain rfl := Rep.boolI rx) | (obtain rfl := Rep.noneI rx))
    obtain ⟨items, n, g, r, l⟩ := t.list ha
    refine join_list (isList_of g) (strs_rep r) (by rw [h0]; first | lia | omega) fun t' k => ?_
    rw [show Txt.join _ ss = Str.join _ ss from StrLaws.glued_eq_join _ _]
    exact .toks _ (.str _ _) t h
end
end Mine
end
section
open PySem PySem.Calls PyProof.Rows
namespace Mine
set_option autoImplicit false

section
variable {prog : Program} {w : World} {A : Around} {E : Value → Shared → Prop} {s : Shared}
theorem set_lst0 {l : Addr} {items : Array Value} {n : Nat} {k : Int} {t : Tok} {v : Value} {Q : Unit → Shared → Prop} (g : s.heap.get? l = some (lstObj items n))
    (h0 : 0 ≤ k) (hfit : k < 2 ^ 63) (hn : k < items.size) (hQ : Q () { s with heap := s.heap.update l (Obj.mapSeq (·.setIfInBounds k.toNat v)) }) :
    wpAny (model prog w) A (setItem (.ref l) (.int k t) v) Q E s := by
  have hl := isList_of g
  unfold setItem
  try with_reducible refine wpAny_holding ?_
  first | refine wpAny_bind (wpAny_pure ?_) | skip
  refine wpAny_bind (wpAny_sequenceKey hl.typeIs (by decide) ?_)
  refine wpAny_bind (wpAny_callSpecial?_slot (name := Str.ofString "__setitem__") hl.typeIs slot_list_setitem
    (wpAny_call_entry slot_list_setitem hl.typeIs entry_list_setitem ?_ (args_list_setitem _ _ _)))
  show wpAny _ _ (Builtin.List.listSubscript? (.int k t) >>= _) _ _ s
  refine wpAny_bind (wpAny_listSubscript_int (fitsIndex_of h0 hfit) ?_)
  clear hfit
  obtain ⟨j, rfl⟩ := Int.eq_ofNat_of_zero_le h0
  have hn : j < items.size := by first | lia | omega
  show wpAny _ _ ((seqItemAt l j >>= fun r => pure (r.map (j, ·))) >>= _) _ _ s
  refine wpAny_bind (wpAny_bind (wpAny_seqItemAt g rfl (wpAny_pure ?_)))
  rw [show items[j]? = some items[j] from Array.getElem?_eq_getElem hn]
  show wpAny _ _ (setSeqItemAt l j v >>= _) _ _ s
  refine wpAny_bind (wpAny_setSeqItemAt g rfl ?_)
  first
    | exact wpAny_bind (wpAny_pure (wpAny_pure ⟨.none, rfl, wpAny_pure hQ⟩))
    | exact wpAny_pure ⟨.none, rfl, wpAny_pure hQ⟩
end

section
variable {cx : Cx} {F : Fm} {m : Loc} {H : AHeap} {s : Shared} {Q : Post} {X : XPost}

theorem RepK.any {h : Heap} {k : Str} : ∀ {vs : List (Str × Value)} {ps : List (Str × PV)}, RepK cx h vs ps → vs.any (fun kv => decide (kv.1 = k)) = ps.any (fun kv => decide (kv.1 = k))
  | _, _, .nil => rfl
  | _, _, .cons _ r => by simp only [List.any_cons]; rw [RepK.any r]
theorem RepK.map {h : Heap} {k : Str} {v : Value} {p : PV} (r : Rep cx h v p) : ∀ {vs : List (Str × Value)} {ps : List (Str × PV)}, RepK cx h vs ps →
    RepK cx h (vs.map fun kv => if kv.1 = k then (kv.1, v) else kv) (ps.map fun kv => if kv.1 = k then (kv.1, p) else kv)
  | _, _, .nil => .nil
  | _, _, .cons (k := k') a rs => by
    simp only [List.map_cons]
    by_cases q : k' = k
    · simp only [q, if_true]; exact .cons r (RepK.map r rs)
    · simp only [q, if_false]; exact .cons a (RepK.map r rs)
theorem RepK.snoc {h : Heap} {k : Str} {v : Value} {p : PV} (r : Rep cx h v p) : ∀ {vs : List (Str × Value)} {ps : List (Str × PV)}, RepK cx h vs ps → RepK cx h (vs ++ [(k, v)]) (ps ++ [(k, p)])
  | _, _, .nil => .cons r .nil
  | _, _, .cons a rs => .cons a (RepK.snoc r rs)
theorem RepK.dset {h : Heap} {k : Str} {v : Value} {p : PV} {vs : List (Str × Value)} {ps : List (Str × PV)} (rs : RepK cx h vs ps) (r : Rep cx h v p) : RepK cx h (stored vs k v) (dset ps k p) := by
  unfold stored Mine.dset
  rw [RepK.any rs]
  split
  · exact RepK.map r rs
  · exact RepK.snoc r rs
theorem dset_length_le {α : Type} (kvs : List (Str × α)) (k : Str) (v : α) : (dset kvs k v).length ≤ kvs.length + 1 := by
  unfold dset; split <;> simp

theorem SameBut.keeps {h h' : Heap} {a : Addr} (x : Heap.SameBut a h h') : ∀ b o, b ≠ a → h.get? b = some o → h'.get? b = some o := fun b o n e => by
  have := x.2 b n
  rw [this]; exact e

theorem store_ok {v i x : Value} {p q y : PV} {K : AHeap → Prop} (rv : Rep cx s.heap v p) (ri : Rep cx s.heap i q) (rx : Rep cx s.heap x y) (t : St cx F m H s.heap) (h : StoreW K H p q y) :
    Ev (fun _ (_ : Unit) (_ : Unit) => True) cx F (setItem v i x) m H s (fun _ H => K H) X := by
  have hL : LIM = 1048576 := rfl
  have hL' := LIM_le
  cases h with
  | list ha h0 h1 h =>
    rename_i a xs k
    obtain rfl := Rep.objI rv
    obtain ⟨u, rfl⟩ := ri.intI
    obtain ⟨items, n, g, r, l⟩ := t.list ha
    have hk := arr_len r
    refine set_lst0 g h0 (by first | lia | omega) (by first | lia | omega) ?_
    exact put_list (p := ()) (tk := s.toks) (f := (·.setIfInBounds k.toNat x)) t ha g (by simpa using r.set k.toNat rx) (by simp; first | lia | omega) (fun _ _ => trivial) (mutate_use h)
  | dict ha h1 h =>
    rename_i a kvs k
    obtain rfl := Rep.objI rv
    obtain ⟨u, rfl⟩ := ri.strI
    obtain ⟨vs, d, r, l, hn⟩ := t.dict ha
    have hk := r.length
    refine wpAny_setItem_pairs (knd := cx.sk) (k := k) (by simp [Cx.sk, PySem.strKind, Value.isStrOf]) d (fun h' d' sb => ?_) (by first | lia | omega)
    have hs := SameBut.keeps sb
    have so : ∀ b o, s.heap.get? b = some o → Solid o → h'.get? b = some o := fun b o e so => hs b o (by
      rintro rfl
      obtain ⟨ob, e', n, _⟩ := (t.heap _ _ ha).get; rw [e] at e'; cases e'; exact n so) e
    have ro : RepO cx h' a (.dict (dset kvs k y)) := ⟨_, d', (r.dset rx).mono so, Nat.le_trans (dset_length_le ..) (by first | lia | omega), hn⟩
    exact .put (b := ()) ha hs trivial ro t (mutate_use h)
  | tape ha h0 h =>
    rename_i a n0 j
    obtain rfl := Rep.objI rv
    obtain ⟨u, rfl⟩ := ri.intI
    obtain ⟨u', rfl⟩ := rx.intI
    obtain ⟨tt, n, g⟩ := t.heap _ _ ha
    obtain ⟨j, rfl⟩ := Int.eq_ofNat_of_zero_le h0
    refine set_lst0 g (by first | lia | omega) (by first | lia | omega) (by simp) ?_
    obtain ⟨n', g'⟩ := lst_update g (·.setIfInBounds 0 (.int j u'))
    have ro : RepO cx (s.heap.update a (Obj.mapSeq (·.setIfInBounds 0 (.int j u')))) a (.tape j) := ⟨u', n', by simpa using g'⟩
    exact .put (b := ()) (tk := s.toks) ha upd_keeps trivial ro t (mutate_use h)
end
end Mine
end
section
open PySem PySem.Calls PyProof.Rows
namespace Mine
set_option autoImplicit false

/-! static facts -/
abbrev Kd := Str → Option NameKind
noncomputable def onms : List (Str × Nat) := [("StackError", 0), ("Empty", 1), ("WrongKind", 2), ("NoBlock", 3), ("Apart", 4), ("Dry", 5)]
noncomputable def onm (x : Str) : Option Nat := onms.lookup x
noncomputable def relab (kd : Kd) (sc : Scope) : Kd := fun x => (sc.names.map fun (n, k) => if (k == .free && kd n == some .cell) then (n, .cell) else (n, k)).lookup x
noncomputable def isVar (kd : Kd) (x : Str) : Bool := kd x == some .local || kd x == some .cell || kd x == some .free
noncomputable def isGlob (kd : Kd) (x : Str) : Bool := kd x == some .globalImplicit && !(x == ("__debug__" : Str))
noncomputable def visC (kd' : Kd) (nm : List Str) (vis : Nat → Bool) (x : Nat) : Nat → Bool := fun i => i == x || (vis i && (kd' (slot nm i) == some .cell || kd' (slot nm i) == some .free))
noncomputable def scOk (kd kd' : Kd) (sc : Scope) (x : Str) : Bool := decide (sc.kind = .function) && !sc.isGenerator && !sc.isCoroutine && sc.names.all (fun p => p.2 != .cell) && sc.names.all (fun p => p.2 != .local || sc.names.lookup p.1 == some .local)
  && sc.names.all (fun p => p.2 != .free || kd p.1 == some .cell || kd p.1 == some .free) && kd' x == some .local && !(x == ("__debug__" : Str))
noncomputable def blbase : AE → Bool
  | .call _ .nil _ _ => false
  | .blt _ .nil _ _ => false
  | .new _ _ _ => false
  | _ => true
noncomputable def iclsOk (kd : Kd) : ICls → Bool
  | .str => isGlob kd "str" | .list => isGlob kd "list" | .tuple => isGlob kd "tuple" | .bool => isGlob kd "bool" | .int => isGlob kd "int"
  | .intstr => isGlob kd "int" && isGlob kd "str" | .value => isGlob kd "ValueError" | .own c x => isGlob kd x && onm x == some c
noncomputable def AEs.len : AEs → Nat
  | .nil => 0
  | .cons _ es => es.len + 1
noncomputable def AEs.lits : AEs → Bool
  | .nil => true
  | .cons (.lit _ _ _) es => es.lits
  | .cons _ _ => false
/-! the program's own class: methods, attributes -/
noncomputable def mtab : List (Str × Str) := [("__init__", "Machine.__init__"), ("settle", "Machine.settle"), ("over", "Machine.over"), ("goal_of", "Machine.goal_of"), ("step", "Machine.step")]
noncomputable def isMeth (f : Str) : Bool := mtab.any fun p => p.2 == f
noncomputable def atns : List Str := ["program", "stack", "frames"]
noncomputable def fad (cx : Cx) (mg : Str → Option Value) (f : Str) : Option Value := match mtab.find? fun p => p.2 == f with
  | some p => cx.mN p.1
  | none => mg f
section
variable (fl : List Str) (nm : List Str)
mutual
noncomputable def okE (q : Bool) (vis : Nat → Bool) (kd : Kd) : AE → Bool
  | .lit _ _ _ => true
  | .var i _ => vis i && isVar kd (slot nm i) && !(slot nm i == ("__debug__" : Str)) && !(slot nm i == ("__classdict__" : Str))
  | .glob x _ => isGlob kd x
  | .bin l _ r _ => okE q vis kd l && okE q vis kd r
  | .neg e _ => okE q vis kd e
  | .not e _ => okE q vis kd e
  | .bop _ es _ => okEs q vis kd es
  | .cmp l _ r _ => okE q vis kd l && okE q vis kd r
  | .sub e i _ => okE q vis kd e && okE q vis kd i
  | .sfrom e i _ _ => okE q vis kd e && okE q vis kd i
  | .sto e i _ _ => okE q vis kd e && okE q vis kd i
  | .srev e _ _ _ _ => okE q vis kd e
  | .tup es _ _ => okEs q vis kd es && decide (es.len ≤ 100)
  | .list es _ => okEs q vis kd es && decide (es.len ≤ 100)
  | .tape _ _ => true
  | .dict ks vs _ => vs.lits && decide (ks.length = vs.len) && decide (vs.len ≤ 15)
  | .call f es _ _ => q && isGlob kd f && fl.contains f && okEs q vis kd es && !isMeth f
  | .blt b es _ _ => q && isGlob kd b.name && okEs q vis kd es
  | .isi e c _ _ _ _ _ => isGlob kd "isinstance" && iclsOk kd c && okE q vis kd e
  | .meth o _ es pa p => okE q vis kd o && okEs q vis kd es && (pa.endLine == p.line) && decide (es.len ≤ 3) && blbase o
  | .umeth o c m es pa p => okE q vis kd o && okEs q vis kd es && (pa.endLine == p.line) && decide (es.len ≤ 3) && blbase o && fl.contains c && q && decide (mtab.lookup m = some c)
  | .attr o m _ => okE q vis kd o && blbase o && decide (m ∈ atns)
  | .new es _ _ => q && isGlob kd "Machine" && fl.contains "Machine.__init__" && okEs q vis kd es && decide (0 < es.len)
  | .comp e x _ it cs sc _ => okE q vis kd it && scOk kd (relab kd sc) sc (slot nm x) && okE q (visC (relab kd sc) nm vis x) (relab kd sc) e && okEs q (visC (relab kd sc) nm vis x) (relab kd sc) cs && decide (cs.len ≤ 1) && q
noncomputable def okEs (q : Bool) (vis : Nat → Bool) (kd : Kd) : AEs → Bool
  | .nil => true
  | .cons e es => okE q vis kd e && okEs q vis kd es
end
end

structure Fok (cx : Cx) (n : Nat) (q : Bool) (kd : Kd) (F : Fm) : Prop where
  fr : F.A.frames = some F.fs
  kind : F.env.scope.kind = .function
  kdo : F.env.kindOf = kd
  glob : F.env.globals = cx.ga
  bltn : F.env.builtins = cx.ba
  quiet : q = true → F.A.handled = none
  depth : F.A.depth + 2 * n + 1 ≤ 900
  units : F.A.units + 8 * n + 204 ≤ cLine
  cells : ∀ x, (kd x = some .cell ∨ kd x = some .free) → ∃ c, F.env.cells.lookup x = some c
  apart : ∀ x y c, F.env.cells.lookup x = some c → F.env.cells.lookup y = some c → x = y
  inj : ∀ i j, F.vis i = true → F.vis j = true → slot F.nm i = slot F.nm j → i = j

/-- what a call asks of its frame -/
structure Fcl (n : Nat) (F : Fm) : Prop where
  fr : F.A.frames = some F.fs
  quiet : F.A.handled = none
  depth : F.A.depth + 2 * n ≤ 900
  units : F.A.units + 8 * n + 200 ≤ cLine
structure Cok (cx : Cx) (g : Gl) (fl : List Str) (mg mb : Str → Option Value) (n : Nat) : Prop where
  gns : cx.B.Ns cx.ga mg
  mods : ∃ a o, sysModules < a ∧ cx.B.get? a = some o
  bns : cx.B.Ns cx.ba mb
  consts : ∀ x p, g.G x = some p → ∃ v, mg x = some v ∧ Rep cx cx.B v p
  blts : ∀ b : Blt, mg b.name = none ∧ mb b.name = some b.val
  isi : mg "isinstance" = none ∧ mb "isinstance" = some (.builtin "isinstance")
  bty : ∀ T ∈ ["str", "list", "tuple", "bool", "int", "ValueError"], mg (Str.ofString T) = none ∧ mb (Str.ofString T) = some (.type T)
  own : ∀ x c, onm x = some c → ∃ C, cx.cls c = some C ∧ mg x = some (.ref C)
  rais : ∀ {F : Fm} {kd : Kd} {m : Loc} {H : AHeap} {s : Shared} {c : Nat} {x msg : Str} {k : Nat} {pc pm pk p : Pos} {QQ : Flow → Shared → Prop} {E : Value → Shared → Prop}, Fok cx n true kd F → isGlob kd x = true → onm x = some c → St cx F m H s.heap →
    (∀ e s', Exc cx F.env.frame s.heap s'.heap e c → St cx F m H s'.heap → Kp cx [] H s H s' → E (.ref e) s') → wpAny cx.M F.A (exec (.Raise (some (.Call (.Name x pc) [.Constant (.str msg) k pm] [] pk)) none p) F.env) QQ E s
  mats : ∀ {A : Around} {s : Shared} {e : Value} {k c : Nat} {C : Addr} {QQ : Bool → Shared → Prop} {E : Value → Shared → Prop}, cx.B.StaysIn s.heap → Rep cx s.heap e (.exc k) → cx.cls c = some C → (∀ tk, QQ (isSub k c) { s with toks := tk }) → wpAny cx.M A (excMatches e (.ref C)) QQ E s
  mach : ∃ C N, cx.icls = some C ∧ mg "Machine" = some (.ref C) ∧ ClsAt cx.B C N cx.mN ∧ ∀ x ∈ (["__getattribute__", "__getattr__", "__setattr__"] : List Str) ++ atns, cx.mN x = none
  fns : ∀ f, fl.contains f = true → ∃ a o fd, fad cx mg f = some (.ref a) ∧ cx.B.get? a = some o ∧ o.data = .func fd ∧ (isMeth f = true → o.cls = .type "function")
  calls : ∀ f, fl.contains f = true → ∀ {ps : List PV} {H : AHeap} {Q : Post} {X : XPost}, g.C f ps H Q X → ∀ {F : Fm} {m : Loc} {s : Shared} {vs : List Value} {a : Addr}, Fcl n F → fad cx mg f = some (.ref a) →
    RepL cx s.heap vs ps → St cx F m H s.heap → Ev (Rep cx) cx F (call (.ref a) vs []) m H s Q X
theorem Fok.fcl {cx : Cx} {n : Nat} {kd : Kd} {F : Fm} (fo : Fok cx n true kd F) : Fcl n F := ⟨fo.fr, fo.quiet rfl, by have := fo.depth; (first | lia | omega), by have := fo.units; (first | lia | omega)⟩
theorem fad_glob {cx : Cx} {mg : Str → Option Value} {f : Str} (h : isMeth f = false) : fad cx mg f = mg f := by
  unfold fad
  cases e : mtab.find? fun p => p.2 == f with
  | none => rfl
  | some p =>
    have h1 := List.find?_some e
    have : isMeth f = true := List.any_eq_true.mpr ⟨p, List.mem_of_find?_eq_some e, h1⟩
    rw [h] at this; cases this
end Mine
end
section
open PySem PySem.Calls PyProof.Rows
namespace Mine
set_option autoImplicit false

section
variable {cx : Cx} {F : Fm} {m : Loc} {H H' : AHeap} {s s' : Shared} {I : Addr}

/-- nothing but I's record changes -/
noncomputable def Tch (I : Addr) (s s' : Shared) : Prop := ∃ h' tk, s' = { s with heap := h', toks := tk } ∧ ∀ b o, b ≠ I → s.heap.get? b = some o → h'.get? b = some o
noncomputable def Clean (cx : Cx) (H : AHeap) (h : Heap) (I : Addr) : Prop := H I = none ∧ cx.B.get? I = none ∧ ∃ o T vs, h.get? I = some o ∧ o.cls = .type T ∧ T ≠ "range" ∧ o.data = .fields vs

theorem notSolid_of {o : Obj} {T : String} {vs : Array Value} (hc : o.cls = .type T) (hT : T ≠ "range") (hd : o.data = .fields vs) : ¬ Solid o := by
  rintro (⟨i, n, rfl⟩ | ⟨n, t, u, v, rfl⟩ | ⟨⟨C, q⟩, _⟩)
  · cases hd
  · simp [rngObj] at hc; exact hT hc.symm
  · rw [hc] at q; cases q

theorem Holds.keepBut {h h' : Heap} (k : Holds cx h H) (hI : H I = none) (g : ∀ b o, b ≠ I → h.get? b = some o → h'.get? b = some o) (ns : ∀ o, h.get? I = some o → ¬ Solid o) : Holds cx h' H := fun b x e => by
  have q : b ≠ I := by rintro rfl; rw [hI] at e; cases e
  have r := k b x e
  have so : ∀ b o, h.get? b = some o → Solid o → h'.get? b = some o := fun b o e s => g b o (by rintro rfl; exact ns o e s) e
  cases x with
  | list xs => obtain ⟨items, n, e, r, l⟩ := r; exact ⟨items, n, g _ _ q e, r.mono so, l⟩
  | tape k => obtain ⟨t, n, e⟩ := r; exact ⟨t, n, g _ _ q e⟩
  | dict kvs => obtain ⟨vs, d, r, l⟩ := r; exact ⟨vs, (let ⟨o, es, ep, ho, y⟩ := d; ⟨o, es, ep, g _ _ q ho, y⟩), r.mono so, l⟩
  | inst d => obtain ⟨C, o, x, e, y⟩ := r; exact ⟨C, o, x, g _ _ q e, y⟩
  | attrs kvs => obtain ⟨m, n1, ed, f, n, l⟩ := r; exact ⟨m, (let ⟨o, es, ep, e, y⟩ := n1; ⟨o, es, ep, g _ _ q e, y⟩), (let ⟨od, e, y⟩ := ed; ⟨od, g _ _ q e, y⟩), fun x p e => let ⟨v, a, b⟩ := f x p e; ⟨v, a, b.mono so⟩, n, l⟩

theorem St.touch {h h' : Heap} (t : St cx F m H h) (c : Clean cx H h I) (k : ∀ b o, b ≠ I → h.get? b = some o → h'.get? b = some o) : St cx F m H h' := by
  obtain ⟨hI, hB, oI, T, vs, gI, hc, hT, hd⟩ := c
  have ns : ∀ o, h.get? I = some o → ¬ Solid o := fun o e => by rw [gI] at e; cases e; exact notSolid_of hc hT hd
  have so : ∀ b o, h.get? b = some o → Solid o → h'.get? b = some o := fun b o e s => k b o (by rintro rfl; exact ns o e s) e
  have nd : ∀ b o es ep, h.get? b = some o → o.data = .dict es ep → b ≠ I := fun b o es ep e q => by rintro rfl; rw [gI] at e; cases e; rw [hd] at q; cases q
  refine ⟨fun b o e => k b o (by rintro rfl; rw [hB] at e; cases e) (t.base b o e), t.off, t.heap.keepBut hI k ns, fun env he => ?_, t.own, ?_, fun n c hc' => ?_⟩
  · obtain ⟨hk, L, o, es, ep, hf, hH, hb, ho, hd'⟩ := t.frames env he
    exact ⟨hk, L, o, es, ep, hf, hH, hb, k L o (nd L o es ep ho hd') ho, hd'⟩
  · obtain ⟨o, es, ep, mc, ho, hd', ⟨o1, es1, ep1, ho1, hd1, hk1, hm1⟩, hv⟩ := t.vars
    have n := nd _ o es ep ho hd'
    exact ⟨o, es, ep, mc, k _ o n ho, hd', ⟨o1, es1, ep1, k _ o1 n ho1, hd1, hk1, hm1⟩, fun i v h1 h2 h3 => let ⟨x, q, r⟩ := hv i v h1 h2 h3; ⟨x, q, r.mono so⟩⟩
  · obtain ⟨h1, h2, o, x, ho, hd', hv⟩ := t.cells n c hc'
    exact ⟨h1, h2, o, x, k c o (by rintro rfl; rw [gI] at ho; cases ho; rw [hd] at hd'; cases hd') ho, hd', fun i v a b c d => let ⟨y, q, r⟩ := hv i v a b c d; ⟨y, q, r.mono so⟩⟩

theorem Kp.touch {S : List Addr} {H₁ : AHeap} {s₁ s₂ : Shared} (k : Kp cx S H s H₁ s₁) (f : s.heap.get? I = none) (tc : Tch I s₁ s₂) (hB : cx.B.get? I = none) : Kp cx S H s H₁ s₂ := by
  obtain ⟨h', tk, rfl, g⟩ := tc
  have n : ∀ b o, s.heap.get? b = some o → b ≠ I := fun b o e => by rintro rfl; rw [f] at e; cases e
  refine ⟨?_, fun b o e hS hH => ?_, fun b o e => ?_, fun b o e e' => ?_⟩
  · obtain ⟨h, t, rfl⟩ := k.same; exact ⟨h', tk, rfl⟩
  · obtain ⟨h1, o', e', sm⟩ := k.keep b o e hS hH; exact ⟨h1, o', g b o' (n b o e) e', sm⟩
  · obtain ⟨o', e'⟩ := k.alive b o e; exact ⟨o', g b o' (n b o e) e'⟩
  · exact g b o (by rintro rfl; rw [hB] at e; cases e) (k.base b o e e')

noncomputable def Src (p : PV) (xs : List PV) (H : AHeap) : Prop :=
  match p with
  | .obj a => H a = some (.list xs)
  | _ => True
noncomputable def Itr (cx : Cx) (h : Heap) (I : Addr) (i : Nat) (xs : List PV) : PV → Prop
  | .obj a => h.IsListIter I a i ∧ a ≠ I
  | .tup _ => ∃ t items n, h.IsTupleIter I t i ∧ h.get? t = some (tupObj items n) ∧ RepL cx h items.toList xs ∧ t ≠ I
  | .rng n => IsRangeIter h I i ((n.toNat : Int) - i) 1 ∧ xs = (List.range n.toNat).map fun i => .int i
  | _ => False

theorem Itr.clean {h : Heap} {i : Nat} {xs : List PV} {p : PV} (it : Itr cx h I i xs p) : ∃ o T vs, h.get? I = some o ∧ o.cls = .type T ∧ T ≠ "range" ∧ o.data = .fields vs := by
  cases p <;> try exact it.elim
  · obtain ⟨t, items, n, ⟨o, ho, hc, hd⟩, _⟩ := it; exact ⟨o, _, _, ho, hc, by decide, hd⟩
  · obtain ⟨⟨o, ho, hc, hd⟩, _⟩ := it; exact ⟨o, _, _, ho, hc, by decide, hd⟩
  · exact ⟨_, _, _, it.1, rfl, by decide, rfl⟩
theorem Itr.keep {h h' : Heap} {i : Nat} {xs : List PV} {p : PV} (it : Itr cx h I i xs p) (so : ∀ b o, h.get? b = some o → Solid o → h'.get? b = some o) (kI : ∀ o, h.get? I = some o → h'.get? I = some o) : Itr cx h' I i xs p := by
  cases p <;> try exact it.elim
  · obtain ⟨t, items, n, ⟨o, ho, hc, hd⟩, ht, r, ne⟩ := it
    exact ⟨t, items, n, ⟨o, kI o ho, hc, hd⟩, so _ _ ht (.inl ⟨_, _, rfl⟩), r.mono so, ne⟩
  · obtain ⟨⟨o, ho, hc, hd⟩, ne⟩ := it
    exact ⟨⟨o, kI o ho, hc, hd⟩, ne⟩
  · exact ⟨kI _ it.1, it.2⟩

theorem itemsW_to {p : PV} {K : List PV → (AHeap → Prop) → Prop} (h : itemsW p K H) : ItemsW K H p := h.to fun xs e k => by
  unfold itemsF at e
  split at e <;> cases e
  · exact .tup k
  · exact .rng k
theorem iter_ok {v : Value} {p : PV} {K : List PV → (AHeap → Prop) → Prop} {Q : Value → Shared → Prop} {E : Value → Shared → Prop} (rv : Rep cx s.heap v p) (t : St cx F m H s.heap) (h : itemsW p K H)
    (hQ : ∀ I xs h', s.heap.get? I = none → (∀ b o, s.heap.get? b = some o → h'.get? b = some o) → Itr cx h' I 0 xs p → Clean cx H h' I → Src p xs H → xs.length ≤ LIM → K xs (Src p xs) → Q (.ref I) { s with heap := h' }) :
    wpAny cx.M F.A (pyIter v) Q E s := by
  have hL : LIM = 1048576 := rfl
  have fr := get_size_none s.heap
  have hH : H s.heap.objs.size = none := t.heap.fresh fr
  have hB : cx.B.get? s.heap.objs.size = none := by
    cases e : cx.B.get? s.heap.objs.size with
    | none => rfl
    | some o => have := t.base _ _ e; rw [fr] at this; cases this
  replace h := itemsW_to h
  cases h with
  | tup h =>
    obtain ⟨a, items, n, rfl, g, l, r⟩ := rv.tupI
    refine wpAny_pyIter_tuple (isTuple_of g) (hQ _ _ _ fr push_keeps ⟨a, items, n, ⟨_, Heap.get?_push_size _ rfl, rfl, rfl⟩, push_keeps _ _ g, r.mono fun b o e _ => push_keeps b o e, ?_⟩ ⟨hH, hB, _, _, _, Heap.get?_push_size _ rfl, rfl, by decide, rfl⟩ trivial l h)
    rintro rfl; rw [fr] at g; cases g
  | rng h =>
    rename_i n
    obtain ⟨a, t1, u1, v1, rfl, g, l⟩ := rv.rngI
    have e : Builtin.Range.rangeSize 0 n 1 = n.toNat := by unfold Builtin.Range.rangeSize; simp; split <;> (first | lia | omega)
    refine wpAny_pyIter_range g ?_ (hQ _ _ _ fr push_keeps ⟨?_, rfl⟩ ⟨hH, hB, _, _, _, Heap.get?_push_size _ rfl, rfl, by decide, rfl⟩ trivial ?_ h)
    · unfold Builtin.Range.small Builtin.Range.rangeFitsLong
      rw [e]
      simp
      first | lia | omega
    · rw [e]
      show _ = some _
      rw [Heap.get?_push_size _ rfl]
      simp
    · simp; first | lia | omega
  | list ha h =>
      obtain rfl := Rep.objI rv
      obtain ⟨items, n, g, r, l⟩ := t.list ha
      refine wpAny_pyIter_list (isList_of g) (hQ _ _ _ fr push_keeps ⟨⟨_, Heap.get?_push_size _ rfl, rfl, rfl⟩, ?_⟩ ⟨hH, hB, _, _, _, Heap.get?_push_size _ rfl, rfl, by decide, rfl⟩ ha l h)
      rintro rfl; rw [fr] at g; cases g

theorem next_ok {i : Nat} {xs : List PV} {p x : PV} {Q : Option Value → Shared → Prop} {E : Value → Shared → Prop} (t : St cx F m H s.heap) (it : Itr cx s.heap I i xs p) (sr : Src p xs H) (cl : Clean cx H s.heap I) (xi : xs[i]? = some x)
    (hQ : ∀ v s', Rep cx s'.heap v x → Itr cx s'.heap I (i + 1) xs p → Clean cx H s'.heap I → Tch I s s' → Q (some v) s') : wpAny cx.M F.A (pyNext (.ref I)) Q E s := by
  obtain ⟨hI, hB, oI, T, vs, gI, hc, hT, hd⟩ := cl
  have so : ∀ h', Heap.SameBut I s.heap h' → ∀ b o, s.heap.get? b = some o → Solid o → h'.get? b = some o := fun h' sb b o e so => by
    rw [sb.2 b (by rintro rfl; rw [gI] at e; cases e; exact notSolid_of hc hT hd so)]; exact e
  have fin : ∀ v h' tk, Heap.SameBut I s.heap h' → Rep cx s.heap v x → Itr cx h' I (i + 1) xs p → Q (some v) { s with heap := h', toks := tk } := fun v h' tk sb r it' =>
    hQ v _ (r.mono (so h' sb)) it' ⟨hI, hB, it'.clean⟩ ⟨h', tk, rfl, fun b o n e => by rw [sb.2 b n]; exact e⟩
  cases p <;> try exact it.elim
  · obtain ⟨tt, items, n, hit, g, r, ne⟩ := it
    obtain ⟨v, ev, rv⟩ := r.get xi
    rw [Array.getElem?_toList] at ev
    refine wpAny_pyNext_tuple_item hit (isTuple_of g) ev fun h' hit' sb => fin v h' s.toks sb rv ⟨tt, items, n, hit', ?_, r.mono (so h' sb), ne⟩
    rw [sb.2 _ ne]; exact g
  · obtain ⟨hit, ne⟩ := it
    obtain ⟨items, n, g, r, l⟩ := t.list sr
    obtain ⟨v, ev, rv⟩ := r.get xi
    rw [Array.getElem?_toList] at ev
    exact wpAny_pyNext_list_item hit (isList_of g) ev fun h' hit' sb => fin v h' s.toks sb rv ⟨hit', ne⟩
  · obtain ⟨hit, rfl⟩ := it
    simp only [List.getElem?_map] at xi
    obtain ⟨j, hj, rfl⟩ := Option.map_eq_some_iff.mp xi
    have hlt := (List.getElem?_eq_some_iff.mp hj).1
    simp at hlt
    have hj' : j = i := by simpa [hlt] using hj.symm
    subst hj'
    refine wpAny_pyNext_range_item hit (by first | lia | omega) fun h' hit' sb => fin _ h' _ sb (.int _ _) ⟨?_, rfl⟩
    have e1 : ((j + 1 : Nat) : Int) = (j : Int) + 1 := by first | lia | omega
    have e2 : ∀ n : Nat, (n : Int) - ((j + 1 : Nat) : Int) = (n : Int) - (j : Int) - 1 := by intro n; first | lia | omega
    rw [e2, e1]; exact hit'

theorem end_ok {i : Nat} {xs : List PV} {p : PV} {Q : Option Value → Shared → Prop} {E : Value → Shared → Prop} (hh : F.A.handled = none) (t : St cx F m H s.heap) (it : Itr cx s.heap I i xs p) (sr : Src p xs H) (xi : xs[i]? = none)
    (hQ : ∀ s', Tch I s s' → Q none s') : wpAny cx.M F.A (pyNext (.ref I)) Q E s := by
  have hle := List.getElem?_eq_none_iff.mp xi
  cases p <;> try exact it.elim
  · obtain ⟨tt, items, n, hit, g, r, ne⟩ := it
    have hk := arr_len r
    exact wpAny_pyNext_tuple_end hh hit (isTuple_of g) (by simp; first | lia | omega) fun h' sb => hQ _ ⟨h', s.toks, rfl, fun b o n e => sb b o n e⟩
  · obtain ⟨hit, ne⟩ := it
    obtain ⟨items, n, g, r, l⟩ := t.list sr
    have hk := arr_len r
    exact wpAny_pyNext_list_end hh hit (isList_of g) (by simp; first | lia | omega) fun h' sb => hQ _ ⟨h', s.toks, rfl, fun b o n e => sb b o n e⟩
  · obtain ⟨hit, rfl⟩ := it
    simp at hle
    exact wpAny_pyNext_range_end hh hit (by first | lia | omega) fun h' sb => hQ _ ⟨h', s.toks, rfl, fun b o n e => sb b o n e⟩
theorem self_ok {A : Around} {i : Nat} {xs : List PV} {p : PV} {Q : Value → Shared → Prop} {E : Value → Shared → Prop} (it : Itr cx s.heap I i xs p) (hQ : Q (.ref I) s) : wpAny cx.M A (pyIter (.ref I)) Q E s := by
  cases p <;> try exact it.elim
  · obtain ⟨t, items, n, hit, _⟩ := it; exact wpAny_pyIter_tupleiter hit hQ
  · exact wpAny_pyIter_listiter it.1 hQ
  · exact wpAny_pyIter_rangeiter it.1 hQ
end
end Mine
end
section
open PySem PySem.Calls PyProof.Rows
namespace Mine
set_option autoImplicit false

section
variable {cx : Cx} {F : Fm} {m : Loc} {H H' : AHeap} {s s' : Shared} {I : Addr}

theorem Loc.get_set {m : Loc} {x i : Nat} {p v : PV} (h : (m.set x (some p)).getD i none = some v) : (i = x ∧ v = p) ∨ (i ≠ x ∧ m.getD i none = some v) := by
  by_cases q : i = x
  · subst q
    by_cases l : i < m.length
    · left; simp [List.getD, l] at h; exact ⟨rfl, h.symm⟩
    · simp [List.getD, l] at h
  · right
    refine ⟨q, ?_⟩
    simpa [List.getD, List.getElem?_set, Ne.symm q] using h
theorem Loc.get_set0 {m : Loc} {x i : Nat} {v : PV} (h : (m.set x none).getD i none = some v) : i ≠ x ∧ m.getD i none = some v := by
  by_cases q : i = x
  · subst q
    by_cases l : i < m.length
    · simp [List.getD, l] at h
    · simp [List.getD, l] at h
  · refine ⟨q, ?_⟩
    simpa [List.getD, List.getElem?_set, Ne.symm q] using h

theorem notSolid_dict {o : Obj} {es : Array DictEntry} {ep : Nat} (hd : o.data = .dict es ep) : ¬ Solid o := fun h => h.notLoc.1 _ _ hd
theorem notSolid_cell {o : Obj} {x : Option Value} (hd : o.data = .cell x) : ¬ Solid o := fun h => h.notLoc.2 _ hd

/-- a name put anew in the frame's own row -/
theorem St.setLocal {h h' : Heap} {x : Nat} {v : Value} {p : PV} {mc mc' : Str → Option Value} (t : St cx F m H h) (inj : ∀ i j, F.vis i = true → F.vis j = true → slot F.nm i = slot F.nm j → i = j) (vx : F.vis x = true) (kl : F.env.kindOf (slot F.nm x) = some .local)
    (ns : h.Ns F.env.locals mc) (ns' : h'.Ns F.env.locals mc') (hm : mc' = fun z => if z = slot F.nm x then some v else mc z) (sb : Heap.SameBut F.env.locals h h') (rv : Rep cx h v p) : St cx F (m.set x (some p)) H h' := by
  obtain ⟨o, es, ep, mc₀, ho, hd, ns₀, hv⟩ := t.vars
  have e0 : mc₀ = mc := funext (ns₀.agree ns)
  subst e0
  have ns1 : ∀ o, h.get? F.env.locals = some o → ¬ Solid o := fun o' e => by rw [ho] at e; cases e; exact notSolid_dict hd
  have k : ∀ b o, b ≠ F.env.locals → h.get? b = some o → h'.get? b = some o := fun b o n e => by rw [sb.2 b n]; exact e
  have so : ∀ b o, h.get? b = some o → Solid o → h'.get? b = some o := fun b o e s => k b o (by rintro rfl; exact ns1 o e s) e
  obtain ⟨o', es', ep', ho', hd', r'⟩ := id ns'
  refine ⟨fun b o e => k b o (by rintro rfl; rw [t.own.2] at e; cases e) (t.base b o e), t.off, t.heap.keepBut t.own.1 k ns1, fun env he => ?_, t.own, ⟨o', es', ep', mc', ho', hd', ns', fun i w h1 h2 h3 => ?_⟩, fun n c hc' => ?_⟩
  · obtain ⟨hk, L, o1, es1, ep1, hf, hH, hb, ho1, hd1⟩ := t.frames env he
    by_cases q : L = F.env.locals
    · subst q; exact ⟨hk, _, o', es', ep', hf, hH, hb, ho', hd'⟩
    · exact ⟨hk, L, o1, es1, ep1, hf, hH, hb, k L o1 q ho1, hd1⟩
  · rcases Loc.get_set h3 with ⟨rfl, rfl⟩ | ⟨n, h3⟩
    · exact ⟨v, by simp [hm], rv.mono so⟩
    · obtain ⟨y, e, r⟩ := hv i w h1 h2 h3
      refine ⟨y, ?_, r.mono so⟩
      rw [hm]
      simp only
      rw [if_neg (fun q => n (inj i x h1 vx q))]; exact e
  · obtain ⟨h1, h2, oc, y, hoc, hdc, hvc⟩ := t.cells n c hc'
    have nc : c ≠ F.env.locals := by rintro rfl; rw [ho] at hoc; cases hoc; rw [hd] at hdc; cases hdc
    refine ⟨h1, h2, oc, y, k c oc nc hoc, hdc, fun i w a b c' d => ?_⟩
    rcases Loc.get_set d with ⟨rfl, rfl⟩ | ⟨ne, d⟩
    · subst b; exact absurd kl c'
    · obtain ⟨z, q, r⟩ := hvc i w a b c' d
      exact ⟨z, q, r.mono so⟩

theorem St.forget {h : Heap} (x : Nat) (t : St cx F m H h) : St cx F (m.set x none) H h := by
  refine ⟨t.base, t.off, t.heap, t.frames, t.own, ?_, fun n c hc => ?_⟩
  · obtain ⟨o, es, ep, mc, ho, hd, ns, hv⟩ := t.vars
    exact ⟨o, es, ep, mc, ho, hd, ns, fun i v h1 h2 h3 => hv i v h1 h2 (Loc.get_set0 h3).2⟩
  · obtain ⟨h1, h2, o, y, ho, hd, hv⟩ := t.cells n c hc
    exact ⟨h1, h2, o, y, ho, hd, fun i v a b c' d => hv i v a b c' (Loc.get_set0 d).2⟩

theorem St.solidNow {h : Heap} (_ : St cx F m H h) : True := trivial

/-- the comprehension's own frame -/
noncomputable def compF (F : Fm) (sc : Scope) (cl : List (Str × Addr)) (C : Addr) (x : Nat) (kd' : Kd) : Fm := { F with env := compEnvC sc cl C F.env, vis := visC kd' F.nm F.vis x }

theorem relab_eq {kd : Kd} {n : Nat} {q : Bool} {sc : Scope} {cl : List (Str × Addr)} {C : Addr} (fo : Fok cx n q kd F) : (compEnvC sc cl C F.env).kindOf = relab kd sc := by
  funext x
  show List.lookup x (List.map _ sc.names) = _
  unfold relab
  have e1 : (F.env.scope.kind == ScopeKind.function) = true := by rw [fo.kind]; rfl
  simp only [e1, fo.kdo, Bool.and_true]

theorem closure_lookup {env : Env} {kd : Kd} (hc : ∀ x, (kd x = some .cell ∨ kd x = some .free) → ∃ c, env.cells.lookup x = some c) :
    ∀ (names : List (Str × NameKind)) (acc : List (Str × Addr)), (names.all fun p => p.2 != .free || kd p.1 == some .cell || kd p.1 == some .free) = true → (∀ n c, acc.lookup n = some c → env.cells.lookup n = some c) →
      ∃ cl, (forIn names acc (fun x cs => if x.2 == .free then (do let c ← cellOf env x.1; pure (ForInStep.yield ((x.1, c) :: cs))) else pure (ForInStep.yield cs)) : Sem (List (Str × Addr))) = pure cl ∧
        (∀ n c, cl.lookup n = some c → env.cells.lookup n = some c) ∧ (∀ n, (acc.lookup n).isSome = true → (cl.lookup n).isSome = true) ∧ ∀ n, (n, NameKind.free) ∈ names → (cl.lookup n).isSome = true
  | [], acc, _, ha => ⟨acc, by simp, ha, fun _ h => h, fun _ h => by simp at h⟩
  | (y, k) :: r, acc, hall, ha => by
    simp only [List.all_cons, Bool.and_eq_true] at hall
    rw [List.forIn_cons]
    by_cases hk : k = .free
    · subst hk
      have hy : kd y = some .cell ∨ kd y = some .free := by
        have := hall.1; simp at this; exact this
      obtain ⟨c, hc'⟩ := hc y hy
      obtain ⟨cl, e, h1, h2, h3⟩ := closure_lookup hc r ((y, c) :: acc) hall.2 (fun n d h => by
        rw [List.lookup_cons] at h
        by_cases q : n = y
        · subst q; simp at h; subst h; exact hc'
        · rw [show (n == y) = false by simpa using q] at h; exact ha n d h)
      refine ⟨cl, ?_, h1, fun n h => h2 n ?_, fun n h => ?_⟩
      · simp only [cellOf, hc']
        exact e
      · rw [List.lookup_cons]; split <;> simp_all
      · rcases List.mem_cons.mp h with q | q
        · cases q; exact h2 _ (by simp)
        · exact h3 n q
    · obtain ⟨cl, e, h1, h2, h3⟩ := closure_lookup hc r acc hall.2 ha
      refine ⟨cl, ?_, h1, h2, fun n h => ?_⟩
      · have : (k == NameKind.free) = false := by simpa using hk
        simp only [this]
        exact e
      · rcases List.mem_cons.mp h with q | q
        · cases q; exact absurd rfl hk
        · exact h3 n q
theorem closure_ok {env : Env} {kd : Kd} {sc : Scope} (hc : ∀ x, (kd x = some .cell ∨ kd x = some .free) → ∃ c, env.cells.lookup x = some c)
    (hall : (sc.names.all fun p => p.2 != .free || kd p.1 == some .cell || kd p.1 == some .free) = true) : ∃ cl, closureFor sc env = pure cl ∧ (∀ n c, cl.lookup n = some c → env.cells.lookup n = some c) ∧ ∀ n, (n, NameKind.free) ∈ sc.names → (cl.lookup n).isSome = true := by
  obtain ⟨cl, e, h1, _, h3⟩ := closure_lookup hc sc.names [] hall (fun _ _ h => by simp at h)
  refine ⟨cl, ?_, h1, h3⟩
  unfold closureFor
  rw [← e]
  simp only [bind_pure]
end
end Mine
end
section
open PySem PySem.Calls PyProof.Rows
namespace Mine
set_option autoImplicit false

section
variable {cx : Cx} {F : Fm} {m : Loc} {H H' : AHeap} {s s' : Shared} {I : Addr} {kd : Kd} {sc : Scope} {x n : Nat} {q : Bool} {cl : List (Str × Addr)} {C : Addr}

theorem lookup_map_free {kd : Kd} {y : Str} {k : NameKind} : ∀ {names : List (Str × NameKind)}, (names.map fun (n, k) => if (k == .free && kd n == some .cell) then (n, .cell) else (n, k)).lookup y = some k →
    ∃ k₀, (y, k₀) ∈ names ∧ k = if (k₀ == .free && kd y == some .cell) then .cell else k₀
  | [], h => by simp at h
  | (z, k₀) :: r, h => by
    have hs : ∀ p : Str × NameKind, (if (k₀ == NameKind.free && kd z == some .cell) = true then (z, NameKind.cell) else (z, k₀)) = p → p.1 = z := fun p e => by rw [← e]; split <;> rfl
    rw [List.map_cons] at h
    simp only at h
    generalize hp : (if (k₀ == NameKind.free && kd z == some .cell) = true then (z, NameKind.cell) else (z, k₀)) = p at h
    have h1 := hs p hp
    obtain ⟨p1, p2⟩ := p
    simp only at h1
    subst h1
    rw [List.lookup_cons] at h
    by_cases e : y = p1
    · subst e
      simp at h
      subst h
      refine ⟨k₀, List.mem_cons_self, ?_⟩
      split at hp <;> simp_all
    · rw [show (y == p1) = false by simpa using e] at h
      obtain ⟨k₁, h2, h3⟩ := lookup_map_free h
      exact ⟨k₁, List.mem_cons_of_mem _ h2, h3⟩

theorem relab_free (hsc : scOk kd (relab kd sc) sc (slot F.nm x) = true) {y : Str} (h : relab kd sc y = some .cell ∨ relab kd sc y = some .free) : (y, NameKind.free) ∈ sc.names ∧ (kd y = some .cell ∨ kd y = some .free) := by
  unfold scOk at hsc
  simp only [Bool.and_eq_true] at hsc
  obtain ⟨⟨⟨⟨⟨⟨⟨_, _⟩, _⟩, hnc⟩, _⟩, hfr⟩, _⟩, _⟩ := hsc
  have key : ∀ k, relab kd sc y = some k → k = .cell ∨ k = .free → (y, NameKind.free) ∈ sc.names := fun k e hk => by
    obtain ⟨k₀, h1, h2⟩ := lookup_map_free e
    have h3 := List.all_eq_true.mp hnc _ h1
    simp at h3
    cases k₀ <;> simp_all
  have hm : (y, NameKind.free) ∈ sc.names := h.elim (fun e => key _ e (.inl rfl)) fun e => key _ e (.inr rfl)
  have := List.all_eq_true.mp hfr _ hm
  simp at this
  exact ⟨hm, this⟩

theorem compF_ok (fo : Fok cx n q kd F) (hsc : scOk kd (relab kd sc) sc (slot F.nm x) = true) (hcl1 : ∀ n c, cl.lookup n = some c → F.env.cells.lookup n = some c) (hcl : ∀ n, (n, NameKind.free) ∈ sc.names → (cl.lookup n).isSome = true) :
    Fok cx n q (relab kd sc) (compF F sc cl C x (relab kd sc)) where
  fr := fo.fr
  kind := by
    unfold scOk at hsc
    simp only [Bool.and_eq_true, decide_eq_true_eq] at hsc
    exact hsc.1.1.1.1.1.1.1
  kdo := relab_eq fo
  glob := fo.glob
  bltn := fo.bltn
  quiet := fo.quiet
  depth := fo.depth
  units := fo.units
  cells := fun y h => Option.isSome_iff_exists.mp (hcl y (relab_free hsc h).1)
  apart := fun x y c h1 h2 => fo.apart x y c (hcl1 x c h1) (hcl1 y c h2)
  inj := fun i j hi hj e => by
    have hx : relab kd sc (slot F.nm x) = some .local := by
      unfold scOk at hsc
      simp only [Bool.and_eq_true, beq_iff_eq] at hsc
      exact hsc.1.2
    simp only [compF, visC, Bool.or_eq_true, Bool.and_eq_true, beq_iff_eq] at hi hj e
    rcases hi with rfl | ⟨hi, ki⟩ <;> rcases hj with rfl | ⟨hj, kj⟩
    · rfl
    · rw [← e, hx] at kj; simp at kj
    · rw [e, hx] at ki; simp at ki
    · exact fo.inj i j hi hj e

theorem comp_start {h' : Heap} {mc : Str → Option Value} (fo : Fok cx n q kd F) (hsc : scOk kd (relab kd sc) sc (slot F.nm x) = true) (hcl : ∀ n c, cl.lookup n = some c → F.env.cells.lookup n = some c)
    (t : St cx F m H s.heap) (fr : s.heap.get? C = none) (g : ∀ b o, s.heap.get? b = some o → h'.get? b = some o) (ns : h'.Ns C mc) : St cx (compF F sc cl C x (relab kd sc)) (m.set x none) H h' := by
  have hx : relab kd sc (slot F.nm x) = some .local := by
    unfold scOk at hsc
    simp only [Bool.and_eq_true, beq_iff_eq] at hsc
    exact hsc.1.2
  have so : ∀ b o, s.heap.get? b = some o → Solid o → h'.get? b = some o := fun b o e _ => g b o e
  obtain ⟨o, es, ep, ho, hd, r⟩ := id ns
  refine ⟨fun b o e => g b o (t.base b o e), t.off, t.heap.grow g, fun env he => ?_, ⟨t.heap.fresh fr, ?_⟩, ⟨o, es, ep, mc, ho, hd, ns, fun i v h1 h2 h3 => ?_⟩, fun y c hc => ?_⟩
  · obtain ⟨hk, L, o, es, ep, hf, hH, hb, ho, hd'⟩ := t.frames env he
    exact ⟨hk, L, o, es, ep, hf, hH, hb, g L o ho, hd'⟩
  · show cx.B.get? C = none
    cases e : cx.B.get? C with
    | none => rfl
    | some o => rw [t.base _ _ e] at fr; cases fr
  · exfalso
    rw [show (compF F sc cl C x (relab kd sc)).env.kindOf = relab kd sc from relab_eq fo] at h2
    obtain ⟨ne, h3⟩ := Loc.get_set0 h3
    simp only [compF, visC, Bool.or_eq_true, Bool.and_eq_true, beq_iff_eq] at h1 h2
    rcases h1 with rfl | ⟨_, hk⟩
    · exact ne rfl
    · rw [h2] at hk; simp at hk
  · obtain ⟨h1, h2, o, w, ho, hd, hv⟩ := t.cells y c (hcl y c hc)
    refine ⟨h1, h2, o, w, g c o ho, hd, fun i v a b c' d => ?_⟩
    obtain ⟨ne, d⟩ := Loc.get_set0 d
    simp only [compF, visC, Bool.or_eq_true, Bool.and_eq_true, beq_iff_eq] at a b
    rcases a with rfl | ⟨a, hk⟩
    · exact absurd rfl ne
    · obtain ⟨z, e, r⟩ := hv i v a b (by
        rw [fo.kdo]
        rw [b] at hk
        rcases (relab_free hsc hk).2 with q | q <;> rw [q] <;> decide) d
      exact ⟨z, e, r.mono so⟩
end
end Mine
end
section
open PySem PySem.Calls PyProof.Rows
namespace Mine
set_option autoImplicit false

abbrev testsSem (ifs : List Expr) (env : Env) : Sem Bool := forIn ifs true fun c r => if r = true then do let ok ← isTrue c env (eval c env); pure (ForInStep.yield ok) else pure (ForInStep.yield r)
abbrev IsBB : Heap → Bool → Bool → Prop := fun _ a b => a = b

inductive CompI (cx : Cx) (F' : Fm) (m0 : Loc) (H : AHeap) (s₀ : Shared) (I D : Addr) (xs : List PV) (p : PV) (W : List PV → List PV → AHeap → Prop) (k : Nat) (s' : Shared) : Prop
  | mk (i : Nat) (acc : List PV) (Hk : AHeap) (ys : Array Value) (c : Nat) (hi : i ≤ xs.length) (hk : k = xs.length - i) (ti : St cx F' m0 Hk s'.heap) (ki : Kp cx [] H s₀ Hk s') (iti : Itr cx s'.heap I i xs p) (ci : Clean cx Hk s'.heap I)
    (hDi : s'.heap.get? D = some (lstObj ys c)) (ri : RepL cx s'.heap ys.toList acc) (hHD : Hk D = none) (hacc : acc.length ≤ i) (hw : W (xs.drop i) acc Hk) : CompI cx F' m0 H s₀ I D xs p W k s'
section
variable {cx : Cx} {F : Fm} {m : Loc} {H H' : AHeap} {s s' : Shared} {I : Addr} {kd : Kd} {sc : Scope} {x n : Nat} {q : Bool} {cl : List (Str × Addr)}

/-- what no name or list holds stays -/
theorem Kp.same1 {s₁ s₂ : Shared} {H₁ H₂ : AHeap} (k : Kp cx [] H₁ s₁ H₂ s₂) {b : Addr} {o : Obj} (e : s₁.heap.get? b = some o) (hb : H₁ b = none) (hd : ∀ es ep, o.data ≠ .dict es ep) : H₂ b = none ∧ s₂.heap.get? b = some o := by
  obtain ⟨h, o', e', sm⟩ := k.keep b o e (fun q => nomatch q) hb
  rw [sm.eq hd] at e'; exact ⟨h, e'⟩

theorem comp_block {elt iter : Expr} {ifs : List Expr} {px pos : Pos} {xs : List PV} {p : PV} {aT : BPost → Loc → AHeap → Prop} {aE : Post → Loc → AHeap → Prop} {QF : List PV → AHeap → Prop}
    {RR : Value → Addr → Result → Shared → Prop} {E : Value → Shared → Prop} {s₀ s₂ : Shared} {h₂ : Heap} (fo : Fok cx n true kd F) (hsc : scOk kd (relab kd sc) sc (slot F.nm x) = true)
    (hcl1 : ∀ n c, cl.lookup n = some c → F.env.cells.lookup n = some c) (hcl2 : ∀ n, (n, NameKind.free) ∈ sc.names → (cl.lookup n).isSome = true)
    (hT : ∀ {C : Addr} {m' : Loc} {H : AHeap} {s : Shared} {Q : BPost}, Fok cx n true (relab kd sc) (compF F sc cl C x (relab kd sc)) → St cx (compF F sc cl C x (relab kd sc)) m' H s.heap → aT Q m' H →
      Ev IsBB cx (compF F sc cl C x (relab kd sc)) (testsSem ifs (compEnvC sc cl C F.env)) m' H s Q fun _ _ => False)
    (hE : ∀ {C : Addr} {m' : Loc} {H : AHeap} {s : Shared} {Q : Post}, Fok cx n true (relab kd sc) (compF F sc cl C x (relab kd sc)) → St cx (compF F sc cl C x (relab kd sc)) m' H s.heap → aE Q m' H →
      Ev (Rep cx) cx (compF F sc cl C x (relab kd sc)) (eval elt (compEnvC sc cl C F.env)) m' H s Q fun _ _ => False)
    (t : St cx F m H s₀.heap) (hs₂ : s₂ = { s₀ with heap := h₂ }) (g₂ : ∀ b o, s₀.heap.get? b = some o → h₂.get? b = some o) (fI : s₀.heap.get? I = none) (it : Itr cx h₂ I 0 xs p) (cI : Clean cx H h₂ I) (hl : xs.length ≤ LIM)
    (h : compW (Src p xs) (fun y K H => aT (fun b H => if b then aE (fun v H => K [v] H) (m.set x (some y)) H else K [] H) (m.set x (some y)) H) QF xs [] H)
    (hRR : ∀ D C s' H' vs mc, s₀.heap.get? C = none → s₀.heap.get? D = none → D ≠ C → s'.heap.Ns C mc → (∃ ys k, s'.heap.get? D = some (lstObj ys k) ∧ RepL cx s'.heap ys.toList vs ∧ vs.length ≤ LIM) → H' D = none → H' C = none → Holds cx s'.heap H' →
      Kp cx [] H s₀ H' s' → QF vs H' → RR (.ref D) C (.ok .next) s') :
    wpAny cx.M F.A (newList []) (fun acc s₃ => wpAny cx.M F.A (newFunctionEnv sc F.env.globals cl [] F.env.qual none .none (some F.env)) (fun cenv s₄ =>
      codeAny cx.M F.A (.compStart (.ListComp elt [⟨.Name (slot F.nm x) px, iter, ifs, 0⟩] sc pos) 0 (.ref I) acc { cenv with scope := relabel sc F.env }) (RR acc cenv.locals) s₄) E s₃) E s₂ := by
  have hL : LIM = 1048576 := rfl
  have hL' := LIM_le
  have hsc' := hsc
  unfold scOk at hsc'
  simp only [Bool.and_eq_true, beq_iff_eq, decide_eq_true_eq] at hsc'
  obtain ⟨⟨⟨⟨⟨⟨⟨hkind, _⟩, _⟩, hnc⟩, hloc⟩, hfr⟩, hx⟩, _⟩ := hsc'
  have hcell : ∀ y ∈ sc.names, y.2 ≠ .cell := fun y hy => by have := List.all_eq_true.mp hnc y hy; simpa using this
  subst hs₂
  refine wpAny_newObj_type (wpAny_newFunctionEnv hcell (by intro y hy; simp at hy) (fun h₁ hns₁ hsb₁ => ?_) hkind)
  dsimp only at hns₁ hsb₁ ⊢
  generalize hH2 : h₂.push { cls := .type "list", dict := none, data := .seq ([] : List Value).toArray } = H2 at hns₁ hsb₁ ⊢
  have hC : H2.objs.size = h₂.objs.size + 1 := by rw [← hH2, Heap.size_push]
  have hDC : h₂.objs.size ≠ H2.objs.size := by rw [hC]; exact Nat.ne_of_lt (Nat.lt_succ_self _)
  have below : ∀ b, b < h₂.objs.size → b ≠ H2.objs.size ∧ b ≠ h₂.objs.size := fun b hb => ⟨by rw [hC]; exact Nat.ne_of_lt (Nat.lt_succ_of_lt hb), Nat.ne_of_lt hb⟩
  have old : ∀ b o, h₂.get? b = some o → h₁.get? b = some o := fun b o e => hsb₁.extBut b o (below b (Heap.lt_size e)).1 (Heap.get?_push_of_some _ (hH2 ▸ Heap.get?_push_of_some _ e))
  have hD₁ : h₁.get? h₂.objs.size = some (lstObj #[] 0) := hsb₁.extBut _ _ hDC (Heap.get?_push_of_some _ (hH2 ▸ Heap.get?_push_size _ rfl))
  have fresh : ∀ a, h₂.objs.size ≤ a → s₀.heap.get? a = none := fun a ha => by
    cases e : s₀.heap.get? a with
    | none => rfl
    | some o' => exact absurd (Heap.lt_size (g₂ _ _ e)) (Nat.not_lt.mpr ha)
  have fC : s₀.heap.get? H2.objs.size = none := fresh _ (by rw [hC]; exact Nat.le_succ _)
  have fD : s₀.heap.get? h₂.objs.size = none := fresh _ (Nat.le_refl _)
  have bnone : ∀ a, s₀.heap.get? a = none → cx.B.get? a = none := fun a f => by
    cases e : cx.B.get? a with
    | none => rfl
    | some o => rw [t.base _ _ e] at f; cases f
  generalize hCg : H2.objs.size = C at *
  generalize hDg : h₂.objs.size = D at *
  clear hH2
  have hID : I ≠ D := by obtain ⟨_, _, oI, _, _, gI, _⟩ := cI; exact Nat.ne_of_lt (hDg ▸ Heap.lt_size gI)
  have fo' := compF_ok (C := C) fo hsc hcl1 hcl2
  have keep₁ : ∀ b o, s₀.heap.get? b = some o → h₁.get? b = some o := fun b o e => old b o (g₂ b o e)
  have t₁ : St cx (compF F sc cl C x (relab kd sc)) (m.set x none) H h₁ := comp_start fo hsc hcl1 t fC keep₁ hns₁
  have it₁ : Itr cx h₁ I 0 xs p := it.keep (fun b o e _ => old b o e) fun o e => old _ o e
  have cI₁ : Clean cx H h₁ I := ⟨cI.1, cI.2.1, it₁.clean⟩
  have hp : ((compEnvC sc cl C F.env).scope.kind == .class || ((compEnvC sc cl C F.env).scope.kind == .module && (compEnvC sc cl C F.env).locals != (compEnvC sc cl C F.env).globals)) = false := by
    simp [compEnvC, relabel, hkind]
  have hkx : (compEnvC sc cl C F.env).kindOf (slot F.nm x) = some .local := by rw [relab_eq fo]; exact hx
  have loop : ∀ s₃ : Shared, s₃ = { s₀ with heap := h₁, toks := s₀.toks + ([] : List (Str × Value)).length } →
      codeAny cx.M F.A (.compLoop (.ListComp elt [⟨.Name (slot F.nm x) px, iter, ifs, 0⟩] sc pos) 0 (.ref I) (.ref D) (compEnvC sc cl C F.env)) (RR (.ref D) C) s₃ := by
    rintro s₃ rfl
    refine codeAny_compLoop_tests (CompI cx (compF F sc cl C x (relab kd sc)) (m.set x none) H s₀ I D xs p (compW (Src p xs) (fun y K H => aT (fun b H => if b then aE (fun v H => K [v] H) (m.set x (some y)) H else K [] H) (m.set x (some y)) H) QF)) ?_ xs.length
      ⟨0, [], H, #[], 0, Nat.zero_le _, rfl, t₁, .grow keep₁ (fun _ _ _ e => e), it₁, cI₁, hD₁, .nil, t.heap.fresh fD, Nat.le_refl _, h⟩
    rintro k s' ⟨i, acc, Hk, ys, c, hi, rfl, ti, ki, iti, ci, hDi, ri, hHD, hacc, hw⟩
    by_cases hlt : i < xs.length
    · have hx1 : xs[i]? = some xs[i] := List.getElem?_eq_getElem hlt
      rw [List.drop_eq_getElem_cons hlt] at hw
      obtain ⟨sr, hw⟩ := hw
      refine next_ok (F := compF F sc cl C x (relab kd sc)) ti iti sr ci hx1 fun v s₄ rv it₄ c₄ tc₄ => ?_
      obtain ⟨h₄, tk₄, rfl, k₄⟩ := id tc₄
      have t₄ : St cx (compF F sc cl C x (relab kd sc)) (m.set x none) Hk h₄ := ti.touch ci k₄
      have kp₄ := ki.touch fI tc₄ ci.2.1
      have hD₄ : h₄.get? D = some (lstObj ys c) := k₄ D _ (Ne.symm hID) hDi
      have so₄ : ∀ b o, s'.heap.get? b = some o → Solid o → h₄.get? b = some o := fun b o e so => k₄ b o (by
        rintro rfl; obtain ⟨_, _, oI, T, vs, gI, hc, hT, hd⟩ := ci; rw [gI] at e; cases e; exact notSolid_of hc hT hd so) e
      obtain ⟨oC, esC, epC, mc, hoC, hdC, nsC, _⟩ := t₄.vars
      refine wpAny_assign_Name (wpAny_storeName_local hkx nsC (fun h₅ ns₅ sb₅ => ?_) hp)
      have nsC' : h₄.Ns C mc := nsC
      have sb₅' : Heap.SameBut C h₄ h₅ := sb₅
      have t₅ : St cx (compF F sc cl C x (relab kd sc)) (m.set x (some xs[i])) Hk h₅ := by
        have := t₄.setLocal (x := x) fo'.inj (by simp [compF, visC]) hkx nsC ns₅ rfl sb₅ rv
        rw [List.set_set] at this; exact this
      have hCD : C ≠ D := Ne.symm hDC
      have kk₅ : ∀ b o, b ≠ C → h₄.get? b = some o → h₅.get? b = some o := fun b o n e => by rw [sb₅'.2 b n]; exact e
      have so₅ : ∀ b o, h₄.get? b = some o → Solid o → h₅.get? b = some o := fun b o e so => kk₅ b o (by rintro rfl; rw [show h₄.get? b = some oC from hoC] at e; cases e; exact notSolid_dict hdC so) e
      have kp₅ : Kp cx [] H s₀ Hk { s' with heap := h₅, toks := tk₄ + 1 } := kp₄.touch (I := C) fC ⟨h₅, tk₄ + 1, rfl, kk₅⟩ (bnone _ fC)
      have hIC : I ≠ C := by
        obtain ⟨_, _, oI, _, _, gI, _, _, hd⟩ := c₄
        rintro rfl
        rw [show h₄.get? I = some oC from hoC] at gI; cases gI; rw [hdC] at hd; cases hd
      have it₅ : Itr cx h₅ I (i + 1) xs p := it₄.keep so₅ fun o e => kk₅ _ o hIC e
      have c₅ : Clean cx Hk h₅ I := ⟨c₄.1, c₄.2.1, it₅.clean⟩
      have hD₅ : h₅.get? D = some (lstObj ys c) := kk₅ D _ hDC hD₄
      have r₅ : RepL cx h₅ ys.toList acc := (ri.mono so₄).mono so₅
      refine wpAny_mono (hT fo' t₅ hw) (fun ok s₆ h₆ => ?_) fun _ _ ⟨_, _, _, _, _, _, _, f⟩ => f.elim
      obtain ⟨b, H₆, rfl, t₆, kp₆, hb⟩ := h₆
      have nd : ∀ es ep, (lstObj ys c).data ≠ .dict es ep := fun _ _ q => nomatch q
      have so₆ : ∀ b o, h₅.get? b = some o → Solid o → s₆.heap.get? b = some o := kp₆.solid0 t₅.heap
      have hD₆ := kp₆.same1 (b := D) hD₅ hHD nd
      have stepI : ∀ {sa sb : Shared} {Ha Hb : AHeap} {ma : Loc}, Kp cx [] Ha sa Hb sb → St cx (compF F sc cl C x (relab kd sc)) ma Ha sa.heap → Itr cx sa.heap I (i + 1) xs p → Clean cx Ha sa.heap I → Itr cx sb.heap I (i + 1) xs p ∧ Clean cx Hb sb.heap I := fun {sa sb Ha Hb ma} kp ta ita ca => by
        obtain ⟨hI, hB, oI, T, vs, gI, hc, hT, hd⟩ := ca
        have e1 := kp.same1 gI hI (fun _ _ q => by rw [hd] at q; cases q)
        have itb := ita.keep (kp.solid0 ta.heap) fun o e => by rw [gI] at e; cases e; exact e1.2
        exact ⟨itb, e1.1, hB, itb.clean⟩
      obtain ⟨it₆, c₆⟩ := stepI kp₆ t₅ it₅ c₅
      cases ok with
      | false =>
        rw [if_neg (by decide)] at hb ⊢
        exact ⟨xs.length - (i + 1), by first | lia | omega, i + 1, acc, H₆, ys, c, hlt, rfl, by have := t₆.forget x; rw [List.set_set] at this; exact this, kp₅.trans kp₆, it₆, c₆, hD₆.2, r₅.mono so₆, hD₆.1, Nat.le_succ_of_le hacc, by simpa using hb⟩
      | true =>
        rw [if_pos rfl] at hb ⊢
        refine wpAny_mono (hE fo' t₆ hb) (fun v₇ s₇ h₇ => ?_) fun _ _ ⟨_, _, _, _, _, _, _, f⟩ => f.elim
        obtain ⟨y, H₇, r₇, t₇, kp₇, hy⟩ := h₇
        have hD₇ := kp₇.same1 (b := D) hD₆.2 hD₆.1 nd
        have so₇ := kp₇.solid0 t₆.heap
        obtain ⟨it₇, c₇⟩ := stepI kp₇ t₆ it₆ c₆
        have ry : RepL cx s₇.heap ys.toList acc := (r₅.mono so₆).mono so₇
        have hsz := arr_len ry
        refine call_meets PySem.F.slot_list_append ⟨_, hD₇.2, rfl⟩ PySem.F.entry_list_append (PySem.F.args_list_append_2 _ _) (list_append _ ys c _ (by first | lia | omega)) ⟨hD₇.2, ?_⟩
        obtain ⟨c', g'⟩ := lst_update hD₇.2 (fun z => z.push v₇)
        have nsD : ∀ o, s₇.heap.get? D = some o → ¬ Solid o := fun o e => by
          rw [hD₇.2] at e; cases e
          rintro (⟨i, n, q⟩ | ⟨n, t, u, v, q⟩ | ⟨⟨C, q⟩, _⟩) <;> simp [lstObj, tupObj, rngObj] at q
        have so₈ : ∀ b o, s₇.heap.get? b = some o → Solid o → (s₇.heap.update D (Obj.mapSeq fun z => z.push v₇)).get? b = some o := fun b o e so => upd_keeps b o (by rintro rfl; exact nsD o e so) e
        have bD := bnone _ fD
        have t₈ : St cx (compF F sc cl C x (relab kd sc)) (m.set x (some xs[i])) H₇ (s₇.heap.update D (Obj.mapSeq fun z => z.push v₇)) := by
          have ndl : ∀ b o es ep, s₇.heap.get? b = some o → o.data = .dict es ep → b ≠ D := fun b o es ep e q => by rintro rfl; rw [hD₇.2] at e; cases e; cases q
          refine ⟨fun b o e => upd_keeps b o (by rintro rfl; rw [bD] at e; cases e) (t₇.base b o e), t₇.off, t₇.heap.keepBut hD₇.1 upd_keeps nsD, fun env he => ?_, t₇.own, ?_, fun nn cc hc' => ?_⟩
          · obtain ⟨hk, L, o, es, ep, hf, hH, hb, ho, hd'⟩ := t₇.frames env he
            exact ⟨hk, L, o, es, ep, hf, hH, hb, upd_keeps L o (ndl L o es ep ho hd') ho, hd'⟩
          · obtain ⟨o, es, ep, mc, ho, hd', ns, hv⟩ := t₇.vars
            have nn := ndl _ o es ep ho hd'
            exact ⟨o, es, ep, mc, upd_keeps _ o nn ho, hd', ns.at fun o e => upd_keeps _ o nn e, fun i v h1 h2 h3 => let ⟨x, q, r⟩ := hv i v h1 h2 h3; ⟨x, q, r.mono so₈⟩⟩
          · obtain ⟨h1, h2, o, xx, ho, hd', hv⟩ := t₇.cells nn cc hc'
            exact ⟨h1, h2, o, xx, upd_keeps cc o (by rintro rfl; rw [hD₇.2] at ho; cases ho; cases hd') ho, hd', fun i v a b c d => let ⟨y, q, r⟩ := hv i v a b c d; ⟨y, q, r.mono so₈⟩⟩
        have kp₈ : Kp cx [] H s₀ H₇ { s₇ with heap := s₇.heap.update D (Obj.mapSeq fun z => z.push v₇), toks := s₇.toks } := ((kp₅.trans kp₆).trans kp₇).touch (I := D) fD ⟨_, s₇.toks, rfl, upd_keeps⟩ bD
        have it₈ : Itr cx (s₇.heap.update D (Obj.mapSeq fun z => z.push v₇)) I (i + 1) xs p := it₇.keep so₈ fun o e => upd_keeps _ o hID e
        refine ⟨xs.length - (i + 1), by first | lia | omega, i + 1, acc ++ [y], H₇, ys.push v₇, c', hlt, rfl, by have := t₈.forget x; rw [List.set_set] at this; exact this, kp₈, it₈, ⟨c₇.1, c₇.2.1, it₈.clean⟩, g', ?_, hD₇.1, by simp; first | lia | omega, hy⟩
        have := (ry.append (.cons r₇ .nil)).mono so₈
        simpa using this
    · have hi' : i = xs.length := by first | lia | omega
      subst hi'
      rw [List.drop_length] at hw
      obtain ⟨sr, hw⟩ := hw
      refine end_ok (F := compF F sc cl C x (relab kd sc)) (fo'.quiet rfl) ti iti sr (by simp) fun s₄ tc₄ => ?_
      obtain ⟨h₄, tk₄, rfl, k₄⟩ := id tc₄
      have t₄ : St cx (compF F sc cl C x (relab kd sc)) (m.set x none) Hk h₄ := ti.touch ci k₄
      obtain ⟨oC, esC, epC, mc, hoC, hdC, nsC, _⟩ := t₄.vars
      have so₄ : ∀ b o, s'.heap.get? b = some o → Solid o → h₄.get? b = some o := fun b o e so => k₄ b o (by
        rintro rfl; obtain ⟨_, _, oI, T, vs, gI, hc, hT, hd⟩ := ci; rw [gI] at e; cases e; exact notSolid_of hc hT hd so) e
      exact hRR D C _ Hk acc mc fC fD hDC nsC ⟨ys, c, k₄ D _ (Ne.symm hID) hDi, ri.mono so₄, by first | lia | omega⟩ hHD t₄.own.1 t₄.heap (ki.touch fI tc₄ ci.2.1) hw
  exact codeAny_compStart_list (loop _ rfl) (self_ok it₁ (loop _ rfl))
end
end Mine
end
section
open PySem PySem.Calls PyProof.Rows
namespace Mine
set_option autoImplicit false

section
variable {cx : Cx} {F : Fm} {m : Loc} {H H' : AHeap} {s s' : Shared} {I : Addr} {kd : Kd} {sc : Scope} {x n : Nat} {q : Bool} {cl : List (Str × Addr)} {Q : Post} {X : XPost}

abbrev RepLs (cx : Cx) (k : Nat) : Heap → List Value → List PV → Prop := fun h vs ps => RepL cx h vs ps ∧ ps.length = k

theorem comp_fin' {vs : List PV} {D C : Addr} {mc : Str → Option Value} (t : St cx F m H s.heap) (fC : s.heap.get? C = none) (fD : s.heap.get? D = none) (hDC : D ≠ C) (ns : s'.heap.Ns C mc)
    (hD : ∃ ys k, s'.heap.get? D = some (lstObj ys k) ∧ RepL cx s'.heap ys.toList vs ∧ vs.length ≤ LIM) (hHD : H' D = none) (hHC : H' C = none) (hh : Holds cx s'.heap H') (k : Kp cx [] H s H' s') (h : alloc (.list vs) Q H')
    {h' : Heap} (sb : Heap.SameBut C s'.heap h') : St cx F m (upd H' D (.list vs)) h' ∧ Kp cx [] H s (upd H' D (.list vs)) { s' with heap := h' } ∧ Q (.obj D) (upd H' D (.list vs)) := by
  obtain ⟨ys, c, gD, r, l⟩ := hD
  obtain ⟨oC, es, ep, hoC, hdC, _⟩ := ns
  have bC : cx.B.get? C = none := by
    cases e : cx.B.get? C with
    | none => rfl
    | some o => rw [t.base _ _ e] at fC; cases fC
  have g : ∀ b o, b ≠ C → s'.heap.get? b = some o → h'.get? b = some o := fun b o n e => by rw [sb.2 b n]; exact e
  have nsC : ∀ o, s'.heap.get? C = some o → ¬ Solid o := fun o e => by rw [hoC] at e; cases e; exact notSolid_dict hdC
  have so : ∀ b o, s'.heap.get? b = some o → Solid o → h'.get? b = some o := fun b o e s => g b o (by rintro rfl; exact nsC o e s) e
  have hh' : Holds cx h' H' := hh.keepBut hHC g nsC
  have gD' := g D _ hDC gD
  have hu : Holds cx h' (upd H' D (.list vs)) := hh'.put (fun b o _ e => e) (fun o e => by
    rw [gD'] at e; cases e
    rintro (⟨i, n, q⟩ | ⟨n, t, u, v, q⟩ | ⟨⟨C, q⟩, _⟩) <;> simp [lstObj, tupObj, rngObj] at q) ⟨ys, c, gD', r.mono so, l⟩
  have k₁ : Kp cx [] H s H' { s' with heap := h' } := k.touch fC ⟨h', s'.toks, rfl, g⟩ bC
  have k₂ : Kp cx [] H s (upd H' D (.list vs)) { s' with heap := h' } := ⟨k₁.same, fun b o e nS hn => by
      obtain ⟨h1, o', e', sm⟩ := k₁.keep b o e nS hn
      exact ⟨by rw [upd_ne (by rintro rfl; rw [fD] at e; cases e)]; exact h1, o', e', sm⟩, k₁.alive, k₁.base⟩
  exact ⟨t.step k₂ hu, k₂, alloc_use h hHD⟩
theorem comp_fin {vs : List PV} {D C : Addr} {mc : Str → Option Value} (t : St cx F m H s.heap) (fC : s.heap.get? C = none) (fD : s.heap.get? D = none) (hDC : D ≠ C) (ns : s'.heap.Ns C mc)
    (hD : ∃ ys k, s'.heap.get? D = some (lstObj ys k) ∧ RepL cx s'.heap ys.toList vs ∧ vs.length ≤ LIM) (hHD : H' D = none) (hHC : H' C = none) (hh : Holds cx s'.heap H') (k : Kp cx [] H s H' s') (h : alloc (.list vs) Q H')
    {h' : Heap} (sb : Heap.SameBut C s'.heap h') : OkG (Rep cx) cx F m H s Q (.ref D) { s' with heap := h' } :=
  let ⟨a, b, c⟩ := comp_fin' t fC fD hDC ns hD hHD hHC hh k h sb; ⟨_, _, .obj D, a, b, c⟩

theorem comp_ok {elt iter : Expr} {ifs : List Expr} {px pos : Pos} {aT : BPost → Loc → AHeap → Prop} {aE : Post → Loc → AHeap → Prop}
    (fo : Fok cx n true kd F) (hsc : scOk kd (relab kd sc) sc (slot F.nm x) = true)
    (hIt : Ev (Rep cx) cx F (eval iter F.env) m H s (fun v H => itemsW v (fun xs src => compW src (fun y K H => aT (fun b H => if b then aE (fun v H => K [v] H) (m.set x (some y)) H else K [] H) (m.set x (some y)) H)
      (fun vs H => alloc (.list vs) Q H) xs [] H) H) X)
    (hT : ∀ {cl : List (Str × Addr)} {C : Addr} {m' : Loc} {H : AHeap} {s : Shared} {Q : BPost}, Fok cx n true (relab kd sc) (compF F sc cl C x (relab kd sc)) → St cx (compF F sc cl C x (relab kd sc)) m' H s.heap → aT Q m' H →
      Ev IsBB cx (compF F sc cl C x (relab kd sc)) (testsSem ifs (compEnvC sc cl C F.env)) m' H s Q fun _ _ => False)
    (hE : ∀ {cl : List (Str × Addr)} {C : Addr} {m' : Loc} {H : AHeap} {s : Shared} {Q : Post}, Fok cx n true (relab kd sc) (compF F sc cl C x (relab kd sc)) → St cx (compF F sc cl C x (relab kd sc)) m' H s.heap → aE Q m' H →
      Ev (Rep cx) cx (compF F sc cl C x (relab kd sc)) (eval elt (compEnvC sc cl C F.env)) m' H s Q fun _ _ => False)
    (hs : ∀ x, foldedSetIterable iter F.env x = pure x) :
    Ev (Rep cx) cx F (eval (.ListComp elt [⟨.Name (slot F.nm x) px, iter, ifs, 0⟩] sc pos) F.env) m H s Q X := by
  have hsc' := hsc
  unfold scOk at hsc'
  simp only [Bool.and_eq_true, beq_iff_eq, decide_eq_true_eq] at hsc'
  obtain ⟨⟨⟨⟨⟨⟨⟨hkind, _⟩, _⟩, hnc⟩, hloc⟩, hfr⟩, hx⟩, _⟩ := hsc'
  obtain ⟨cl, hclos, hcl1, hcl2⟩ := closure_ok fo.cells hfr
  have hnames : ∀ y ∈ sc.names, y.2 = .local → sc.names.lookup y.1 = some .local := fun y hy hl => by
    have := List.all_eq_true.mp hloc y hy
    simp [hl] at this; exact this
  unfold Ev
  rw [eval_ListComp]
  refine wpAny_comprehension_free (use := none) rfl hs hclos hkind hnames (wpAny_mono hIt (fun xv s₁ h₁ => ?_) fun _ _ e => e)
  obtain ⟨p, H₁, rv, t₁, k₁, hw⟩ := h₁
  refine iter_ok (F := F) rv t₁ hw fun I xs h' fI g it cI sr hl hc => ?_
  refine comp_block (RR := fun acc C => compPost cx.M F.A _ none _ acc C) fo hsc hcl1 hcl2 hT hE t₁ rfl g fI it cI hl hc ?_
  intro D C s' H' vs mc fC fD hDC ns hD hHD hHC hh k hq
  exact ⟨mc, ns, fun h'' sb => (comp_fin t₁ fC fD hDC ns hD hHD hHC hh k hq sb).older k₁⟩

theorem args_sem {f : Value} {k : Nat} {trees : List (Bool × Sem Value)} {Q : List PV → AHeap → Prop} (hp : ∀ x ∈ trees, x.1 = false) (h : Ev (RepLs cx k) cx F (spliced trees) m H s Q X) {QQ : Args → Shared → Prop}
    (hk : ∀ vs s', OkG (RepLs cx k) cx F m H s Q vs s' → QQ ⟨vs, []⟩ s') : wpAny cx.M F.A (evalArgs f true trees []) QQ (ErP cx F m H s X) s := by
  cases trees with
  | nil =>
    unfold evalArgs
    show wpAny cx.M F.A (spliced [] >>= _) QQ _ s
    refine wpAny_bind (wpAny_mono h (fun vs s' h' => ?_) fun _ _ x => x)
    refine wpAny_holding ?_
    exact wpAny_bind (wpAny_pure (wpAny_bind (wpAny_pure (wpAny_pure (hk vs s' h')))))
  | cons a r =>
    obtain ⟨b, x⟩ := a
    have := hp (b, x) List.mem_cons_self
    simp only at this
    subst this
    exact evalArgs_plain (wpAny_mono h (fun vs s' h' => hk vs s' h') fun _ _ e => e)

noncomputable def litV : Const → Option PV
  | .none => some .none
  | .bool b => some (.bool b)
  | .int i => some (.int i)
  | .str s => some (.str s)
  | _ => none
theorem litW_iff {c : Const} {Q : Post} (h : litW c Q H) : ∃ v, litV c = some v ∧ Q v H := by
  unfold litW at h
  split at h <;> first | exact ⟨_, rfl, h⟩ | exact h.elim
theorem lit_ok {c : Const} {k : Nat} {p : Pos} {v : PV} {A : Around} {env : Env} {QQ : Value → Shared → Prop} {E : Value → Shared → Prop} (hv : litV c = some v)
    (hQ : ∀ x tk, (∀ h, Rep cx h x v) → QQ x { s with toks := tk }) : wpAny cx.M A (eval (.Constant c k p) env) QQ E s := by
  unfold litV at hv
  split at hv <;> cases hv
  · exact wpAny_pure (hQ _ s.toks fun _ => .none)
  · exact wpAny_pure (hQ _ s.toks fun _ => .bool _)
  · exact fun _ _ _ => hQ _ _ fun _ => .int _ _
  · exact fun _ _ _ => hQ _ _ fun _ => .str _ _

theorem pairs_ok {g : Gl} {env : Env} {A : Around} {pos : Pos} : ∀ (ks : List (Str × Pos)) (es : AEs) {nm : List Str} {m : Loc} {Q : List PV → AHeap → Prop} {X : XPost} {s : Shared} {QQ : List (Value × Value) → Shared → Prop} {E : Value → Shared → Prop}, es.lits = true → ks.length = es.len →
    awpL g es Q X m H → (∀ prs tk kvs ps, Carries cx.sk prs kvs → kvs.map (·.1) = ks.map (·.1) → (∀ h, RepL cx h (kvs.map (·.2)) ps) → Q ps H → QQ prs { s with toks := tk }) →
    wpAny cx.M A (evalPairs (pairTrees (ks.map fun x => some (.Constant (.str x.1) 0 x.2)) (es.toEs nm) env pos)) QQ E s
  | [], .nil, _, _, _, _, s, _, _, _, _, h, hQ => pairTrees_nil_walk (hQ [] s.toks [] [] trivial rfl (fun _ => .nil) h)
  | [], .cons _ _, _, _, _, _, _, _, _, _, hl, _, _ => nomatch hl
  | _ :: _, .nil, _, _, _, _, _, _, _, _, hl, _, _ => nomatch hl
  | k :: ks, .cons e es, nm, m, Q, X, s, QQ, E, hlit, hl, h, hQ => by
    obtain ⟨c, kk, pp, rfl⟩ : ∃ c kk pp, e = .lit c kk pp := by
      cases e with
      | lit c kk pp => exact ⟨c, kk, pp, rfl⟩
      | _ => exact nomatch (show false = true from hlit)
    have hlit' : es.lits = true := hlit
    have hw : litW c (fun v H => awpL g es (fun vs H => Q (v :: vs) H) X m H) H := h
    obtain ⟨v, hv, hw⟩ := litW_iff hw
    refine pairTrees_cons_walk ?_
    refine Constant_str ?_
    refine lit_ok hv fun y tk ry => ?_
    refine pairs_ok ks es hlit' (by simpa [AEs.len] using hl) hw fun prs tk' kvs ps c1 c2 c3 c4 => ?_
    refine hQ _ tk' ((k.1, y) :: kvs) (v :: ps) ⟨by simp [Cx.sk, PySem.strKind, Value.isStrOf], rfl, c1⟩ (by simp [c2]) (fun h => .cons (ry h) (c3 h)) c4

theorem merged_rep {h : Heap} : ∀ {kvs : List (Str × Value)} {ks : List Str} {ps : List PV} {acc : List (Str × Value)} {pcc : List (Str × PV)}, kvs.map (·.1) = ks → RepL cx h (kvs.map (·.2)) ps → RepK cx h acc pcc →
    RepK cx h (merged acc kvs) ((ks.zip ps).foldl (fun d p => dset d p.1 p.2) pcc)
  | [], _, _, _, _, rfl, .nil, r => r
  | (k, v) :: kvs, _, _, acc, pcc, rfl, .cons a rs, r => by
    simp only [List.map_cons, List.zip_cons_cons, List.foldl_cons]
    exact merged_rep (acc := stored acc k v) rfl rs (r.dset a)
theorem dictOf_len (ks : List Str) (ps : List PV) : (dictOf ks ps).length ≤ ks.length := by
  unfold dictOf
  have : ∀ (l : List (Str × PV)) (acc : List (Str × PV)), (l.foldl (fun d p => dset d p.1 p.2) acc).length ≤ acc.length + l.length := by
    intro l
    induction l with
    | nil => intro acc; simp
    | cons a l ih =>
      intro acc
      have h1 := ih (dset acc a.1 a.2)
      have h2 := dset_length_le acc a.1 a.2
      simp only [List.foldl_cons, List.length_cons]
      first | lia | omega
  have h := this (ks.zip ps) []
  have : (ks.zip ps).length ≤ ks.length := by simp [List.length_zip]; exact Nat.min_le_left _ _
  simp at h; simp at this; first | lia | omega

theorem dict_ok {g : Gl} {ks : List (Str × Pos)} {es : AEs} {pos : Pos} (hm : ∃ a o, sysModules < a ∧ cx.B.get? a = some o) (hlit : es.lits = true) (hl : ks.length = es.len) (hn : es.len ≤ 15) (t : St cx F m H s.heap)
    (h : awpL g es (fun vs H => alloc (.dict (dictOf (ks.map (·.1)) vs)) Q H) X m H) :
    Ev (Rep cx) cx F (eval (.Dict (ks.map fun x => some (.Constant (.str x.1) 0 x.2)) (es.toEs F.nm) pos) F.env) m H s Q X := by
  have hL : LIM = 1048576 := rfl
  have lenE : ∀ es : AEs, (es.toEs F.nm).length = es.len := fun es => by
    have : ∀ k (es : AEs), es.len = k → (es.toEs F.nm).length = k := by
      intro k
      induction k with
      | zero => intro es h; cases es <;> simp_all [AEs.len, AEs.toEs]
      | succ k ih => intro es h; cases es <;> simp_all [AEs.len, AEs.toEs]
    exact this _ es rfl
  have fr := get_size_none s.heap
  have nm : (s.heap.objs.size == sysModules) = false := by
    obtain ⟨a, o, la, e⟩ := hm
    have := Heap.lt_size (t.base _ _ e)
    simp only [beq_eq_false_iff_ne]
    intro q; rw [← q] at la; exact absurd (Nat.lt_trans la this) (Nat.lt_irrefl _)
  cases ks with
  | nil =>
    cases es with
    | cons _ _ => simp [AEs.len] at hl
    | nil =>
      refine wpAny_Dict_empty (M := cx.M) ?_
      refine .alloc (tk := s.toks) (a := s.heap.objs.size) push_keeps fr (.obj _) ?_ t (alloc_use h (t.heap.fresh fr))
      exact ⟨[], Heap.DictOf.new _, .nil, by simp [dictOf], nm⟩
  | cons k ks =>
    refine wpAny_Dict_walk (knd := cx.sk) (by simp) (by rw [lenE]; simpa using hl) (by simp) (by rw [List.length_map]; first | lia | omega) ?_
    refine pairs_ok (H := H) (cx := cx) (k :: ks) es hlit hl h fun prs tk kvs ps c1 c2 c3 c4 => ?_
    have hD : (s.heap.push { cls := .type "dict", data := .dict #[] }).DictOf cx.sk s.heap.objs.size [] := Heap.DictOf.new _
    refine ⟨kvs, c1, hD, fun h' hm' sb => ?_⟩
    have keep : ∀ b o, s.heap.get? b = some o → h'.get? b = some o := fun b o e => by
      rw [sb.2 b (by rintro rfl; rw [fr] at e; cases e)]; exact push_keeps b o e
    have hk2 : kvs.length = ks.length + 1 := by have := congrArg List.length c2; simpa using this
    refine .alloc (a := s.heap.objs.size) keep fr (.obj _) ?_ t (alloc_use c4 (t.heap.fresh fr))
    refine ⟨_, hm', ?_, ?_, nm⟩
    · exact merged_rep c2 (c3 _) .nil
    · have := dictOf_len ((k :: ks).map (·.1)) ps
      simp only [List.length_map] at this
      simp only [List.length_cons] at this hl
      first | lia | omega
end
end Mine
end
section
open PySem PySem.Calls PyProof.Rows
namespace Mine
set_option autoImplicit false

section
variable {cx : Cx} {g : Gl} {fl : List Str} {mg mb : Str → Option Value} {n : Nat}

theorem St.ns_g {F : Fm} {m : Loc} {H : AHeap} {h : Heap} {a : Addr} {mm : Str → Option Value} (t : St cx F m H h) (x : cx.B.Ns a mm) : h.Ns a mm := x.keeps t.base

theorem glob_ok {F : Fm} {kd : Kd} {q : Bool} {m : Loc} {H : AHeap} {s : Shared} {x : Str} {p : Pos} {v : Value} {QQ : Value → Shared → Prop} {E : Value → Shared → Prop} (fo : Fok cx n q kd F) (gk : isGlob kd x = true) (t : St cx F m H s.heap) (gns : cx.B.Ns cx.ga mg)
    (hv : mg x = some v) (hQ : QQ v s) : wpAny cx.M F.A (eval (.Name x p) F.env) QQ E s := by
  unfold isGlob at gk
  simp only [Bool.and_eq_true, beq_iff_eq, Bool.not_eq_true'] at gk
  refine Name_function_global fo.kind (by rw [fo.kdo]; exact gk.1) ?_ gk.2
  exact loadGlobal_global (by rw [fo.glob]; exact t.ns_g gns) hv hQ
theorem bglob_ok {F : Fm} {kd : Kd} {q : Bool} {m : Loc} {H : AHeap} {s : Shared} {x : Str} {p : Pos} {v : Value} {QQ : Value → Shared → Prop} {E : Value → Shared → Prop} (fo : Fok cx n q kd F) (gk : isGlob kd x = true) (t : St cx F m H s.heap) (gns : cx.B.Ns cx.ga mg) (bns : cx.B.Ns cx.ba mb)
    (hm : mg x = none) (hv : mb x = some v) (hQ : QQ v s) : wpAny cx.M F.A (eval (.Name x p) F.env) QQ E s := by
  unfold isGlob at gk
  simp only [Bool.and_eq_true, beq_iff_eq, Bool.not_eq_true'] at gk
  refine Name_function_global fo.kind (by rw [fo.kdo]; exact gk.1) ?_ gk.2
  exact loadGlobal_builtin (by rw [fo.glob]; exact t.ns_g gns) hm (by rw [fo.bltn]; exact t.ns_g bns) hv hQ

theorem var_ok {F : Fm} {kd : Kd} {q : Bool} {m : Loc} {H : AHeap} {s : Shared} {i : Nat} {p : Pos} {Q : Post} {X : XPost} (fo : Fok cx n q kd F) (hv : F.vis i = true) (hk : isVar kd (slot F.nm i) = true) (hd : (slot F.nm i == ("__debug__" : Str)) = false) (hcd : (slot F.nm i == ("__classdict__" : Str)) = false)
    (t : St cx F m H s.heap) (h : varW (m.getD i none) Q H) : Ev (Rep cx) cx F (eval (.Name (slot F.nm i) p) F.env) m H s Q X := by
  unfold varW at h
  split at h
  · rename_i v hm
    refine wpAny_Name ?_ hd
    unfold isVar at hk
    simp only [Bool.or_eq_true, beq_iff_eq] at hk
    have cellCase : F.env.kindOf (slot F.nm i) ≠ some .local → ∀ c, F.env.cells.lookup (slot F.nm i) = some c → ∃ y, s.heap.IsCell c (some y) ∧ Rep cx s.heap y v := fun nl c hc => by
      obtain ⟨_, _, o, x, ho, hd, hv'⟩ := t.cells _ c hc
      obtain ⟨y, rfl, r⟩ := hv' i v hv rfl nl hm
      exact ⟨y, ⟨o, ho, hd⟩, r⟩
    rcases hk with (hk | hk) | hk
    · obtain ⟨o, es, ep, mc, ho, hd, ns, hv'⟩ := t.vars
      have hl : F.env.kindOf (slot F.nm i) = some .local := by rw [fo.kdo]; exact hk
      obtain ⟨x, hx, r⟩ := hv' i v hv hl hm
      exact wpAny_loadName_local fo.kind hl ns hx (.toks s.toks r t h)
    · have hl : F.env.kindOf (slot F.nm i) = some .cell := by rw [fo.kdo]; exact hk
      obtain ⟨c, hc⟩ := fo.cells _ (.inl hk)
      obtain ⟨y, hy, r⟩ := cellCase (by rw [hl]; decide) c hc
      exact wpAny_loadName_cell fo.kind hl hc hy (.toks s.toks r t h)
    · have hl : F.env.kindOf (slot F.nm i) = some .free := by rw [fo.kdo]; exact hk
      obtain ⟨c, hc⟩ := fo.cells _ (.inr hk)
      obtain ⟨y, hy, r⟩ := cellCase (by rw [hl]; decide) c hc
      exact wpAny_loadName_free fo.kind hl hc hy (.toks s.toks r t h) hcd
  · exact h.elim

noncomputable def semL (nm : List Str) (env : Env) : AEs → List (Bool × Sem Value)
  | .nil => []
  | .cons e es => (false, eval (e.toE nm) env) :: semL nm env es
theorem starEach_toEs (nm : List Str) (env : Env) : ∀ es : AEs, starEach (es.toEs nm) env = semL nm env es
  | .nil => rfl
  | .cons e es => by
    show starEach (e.toE nm :: es.toEs nm) env = _
    rw [show starEach (e.toE nm :: es.toEs nm) env = (false, eval (e.toE nm) env) :: starEach (es.toEs nm) env by cases e <;> rfl, starEach_toEs nm env es]
    rfl
theorem backTo_sem (nm : List Str) (env : Env) (pos : Pos) : ∀ es : AEs, backTo pos (semL nm env es) = semL nm env es
  | .nil => rfl
  | .cons e es => by
    have := backTo_sem nm env pos es
    unfold backTo at this ⊢
    simp only [semL, List.map_cons, this]
    rfl
theorem semL_plain (nm : List Str) (env : Env) : ∀ es : AEs, ∀ x ∈ semL nm env es, x.1 = false
  | .nil, x, h => by simp [semL] at h
  | .cons e es, x, h => by
    rcases List.mem_cons.mp h with rfl | h
    · rfl
    · exact semL_plain nm env es x h
theorem len_toEs (nm : List Str) : ∀ es : AEs, (es.toEs nm).length = es.len
  | .nil => rfl
  | .cons e es => by simp [AEs.toEs, AEs.len, len_toEs nm es]
theorem folded_ok (nm : List Str) (env : Env) (e : AE) (x : Value) : foldedSetIterable (e.toE nm) env x = pure x := by cases e <;> rfl
theorem marked_ok (nm : List Str) (o : CmpOp) (e : AE) (t : Sem Value) : markedBehindIn o (e.toE nm) t = t := by cases e <;> rfl
theorem isTrue_plain (nm : List Str) (env : Env) (e : AE) (w : Sem Value) (h1 : ∀ x p, e ≠ .not x p) (h2 : ∀ o es p, e ≠ .bop o es p) (h3 : ∀ l o r p, e ≠ .cmp l o r p) :
    isTrue (e.toE nm) env w = (do let v ← w; standAt (e.toE nm).pos; holding [v] (truthy v)) := by
  cases e with
  | not x p => exact absurd rfl (h1 x p)
  | bop o es p => exact absurd rfl (h2 o es p)
  | cmp l o r p => exact absurd rfl (h3 l o r p)
  | _ => rfl
theorem subscripted_plain (nm : List Str) (e : AE) : ∀ o i, subscripted (e.toE nm) false o i = operate [o, i] (getItem o i) := fun _ _ => by cases e <;> rfl
theorem base_ok (nm : List Str) (env : Env) (e : AE) (a : Str) (w : Sem Value) (h : blbase e = true) : attributeBase (e.toE nm) a env w = w := by
  cases e with
  | call f es pf p =>
    cases es with
    | nil => exact nomatch (show false = true from h)
    | cons e es => rfl
  | blt b es pf p =>
    cases es with
    | nil => exact nomatch (show false = true from h)
    | cons e es => rfl
  | new es pf p => exact nomatch (show false = true from h)
  | _ => rfl
end
end Mine
end
section
open PySem PySem.Calls PyProof.Rows
namespace Mine
set_option autoImplicit false

section
variable {cx : Cx} {g : Gl} {fl : List Str} {mg mb : Str → Option Value} {n : Nat}

/-- carry a value over a later step -/
theorem Ev.two {F : Fm} {m : Loc} {H : AHeap} {s : Shared} {X : XPost} {Q : Post} {α : Type} {β : Type} {R : Heap → α → β → Prop} {QQ : β → AHeap → Prop} {t : Sem α} {f : α → Sem Value}
    (h : Ev R cx F t m H s QQ X) (k : ∀ a b s₁ H₁, R s₁.heap a b → St cx F m H₁ s₁.heap → (∀ x o, s.heap.get? x = some o → Solid o → s₁.heap.get? x = some o) → QQ b H₁ → Ev (Rep cx) cx F (f a) m H₁ s₁ Q X) (t₀ : St cx F m H s.heap) :
    Ev (Rep cx) cx F (t >>= f) m H s Q X := Ev.bind h fun a b s₁ H₁ r st kp q => k a b s₁ H₁ r st (kp.solid0 t₀.heap) q

theorem Ev.mono_rep {F : Fm} {m : Loc} {H : AHeap} {s : Shared} {X : XPost} {Q : BPost} {t : Sem Value} (h : Ev IsB cx F t m H s Q X) : Ev (Rep cx) cx F t m H s (fun v H => ∃ b, v = .bool b ∧ Q b H) X :=
  wpAny_mono h (fun _ _ ⟨b, H', r, st, k, q⟩ => ⟨.bool b, H', by subst r; exact .bool b, st, k, b, rfl, q⟩) fun _ _ e => e
theorem Ev.weaken {α β : Type} {R : Heap → α → β → Prop} {F : Fm} {m : Loc} {H : AHeap} {s : Shared} {X : XPost} {Q Q' : β → AHeap → Prop} {t : Sem α} (h : Ev R cx F t m H s Q X) (k : ∀ b H, Q b H → Q' b H) : Ev R cx F t m H s Q' X :=
  wpAny_mono h (fun _ _ ⟨b, H', r, st, kp, q⟩ => ⟨b, H', r, st, kp, k b H' q⟩) fun _ _ e => e

theorem meth_case {F : Fm} {m : Loc} {H : AHeap} {s : Shared} {Q : Post} {X : XPost} {k : Meth} {o : AE} {es : AEs} {pa p : Pos}
    (hline : (pa.endLine == p.line) = true) (hlen : es.len ≤ 3) (hb : blbase o = true)
    (ho : Ev (Rep cx) cx F (eval (o.toE F.nm) F.env) m H s (fun v H => RecvW (awpL g es (fun vs H => methW k v vs Q H) X m H) H k v) X)
    (hes : ∀ {H : AHeap} {s : Shared} {QQ : List PV → AHeap → Prop}, St cx F m H s.heap → awpL g es QQ X m H → Ev (RepLs cx es.len) cx F (spliced (semL F.nm F.env es)) m H s QQ X) :
    Ev (Rep cx) cx F (eval (.Call (.Attribute (o.toE F.nm) k.name pa) (es.toEs F.nm) [] p) F.env) m H s Q X := by
  have hst : backTo p (starEach (es.toEs F.nm) F.env) = semL F.nm F.env es := by rw [starEach_toEs, backTo_sem]
  refine wpAny_Call_method_late (trees := semL F.nm F.env es) (base_ok _ _ _ _ _ hb) ?_ hline hst ?_
  · rw [hst]
    have : (semL F.nm F.env es).all (fun x => !x.1) = true := List.all_eq_true.mpr fun x hx => by rw [semL_plain _ _ _ x hx]; rfl
    rw [this, len_toEs]
    simp only [List.length_nil, List.isEmpty_nil, if_true]
    have : decide (es.len + 0 + 0 < 30) = true := by simp; first | lia | omega
    rw [this]; rfl
  · refine wpAny_mono ho (fun ov s₁ h₁ => ?_) fun _ _ e => e
    obtain ⟨v, H₁, rv, t₁, k₁, hr⟩ := h₁
    have fin : awpL g es (fun vs H => methW k v vs Q H) X m H₁ → wpAny cx.M F.A (callWith p (.builtin k.id) [ov] (semL F.nm F.env es) []) (OkG (Rep cx) cx F m H s Q) (ErP cx F m H s X) s₁ := fun hw => by
      refine callWith_builtin ?_ ?_
      · rw [List.any_eq_false]; intro x hx; rw [semL_plain _ _ _ x hx]; decide
      · refine wpAny_mono (args_sem (semL_plain _ _ _) (hes t₁ hw) (QQ := fun a s₂ => wpAny cx.M F.A (call (.builtin k.id) ([ov] ++ a.pos) a.kw) (OkG (Rep cx) cx F m H s Q) (ErP cx F m H s X) s₂) fun vs s₂ h₂ => ?_) (fun _ _ h => h) fun _ _ e => e.older k₁
        obtain ⟨ps, H₂, rs, t₂, k₂, hm⟩ := h₂
        exact Ev.older (k₁.trans k₂) (meth_ok (rv.mono (k₂.solid0 t₁.heap)) rs.1 t₂ hm)
    cases hr with
    | list ha hk hw =>
      rename_i a xs
      obtain rfl := Rep.objI rv
      obtain ⟨items, nn, gg, _⟩ := t₁.list ha
      have e2 : ∀ b, Value.ref a = .ref b → ∃ ob, s₁.heap.get? b = some ob ∧ ob.dict = none := fun b e => by cases e; exact ⟨_, gg, rfl⟩
      cases k <;> cases hk
      · exact ⟨"list", _, PySem.F.plainAttrs_list, PySem.F.slot_list_append, PySem.F.type_list_append, ⟨_, gg, rfl⟩, e2, fin hw⟩
      · exact ⟨"list", _, PySem.F.plainAttrs_list, PySem.F.slot_list_pop, PySem.F.type_list_pop, ⟨_, gg, rfl⟩, e2, fin hw⟩
      · exact ⟨"list", _, PySem.F.plainAttrs_list, PySem.F.slot_list_insert, PySem.F.type_list_insert, ⟨_, gg, rfl⟩, e2, fin hw⟩
      · exact ⟨"list", _, PySem.F.plainAttrs_list, PySem.F.slot_list_count, PySem.F.type_list_count, ⟨_, gg, rfl⟩, e2, fin hw⟩
    | dict ha hw =>
      obtain rfl := Rep.objI rv
      obtain ⟨vs, d, _, _, _⟩ := t₁.dict ha
      obtain ⟨ob, es, ep, gg, hx, _⟩ := id d
      exact ⟨"dict", _, PySem.F.plainAttrs_dict, PySem.F.slot_dict_pop, PySem.F.type_dict_pop, d.typeIs, fun b e => by cases e; exact ⟨ob, gg, hx.2.1⟩, fin hw⟩
    | str hw =>
      obtain ⟨u, rfl⟩ := rv.strI
      exact ⟨"str", _, PySem.F.plainAttrs_str, PySem.F.slot_str_join, PySem.F.type_str_join, typeIs_str _ _ _, (fun _ e => nomatch e), fin hw⟩

variable (ck : Cok cx g fl mg mb n)
include ck

theorem call_case {F : Fm} {kd : Kd} {m : Loc} {H : AHeap} {s : Shared} {Q : Post} {X : XPost} {f : Str} {es : AEs} {pf p : Pos} (fo : Fok cx n true kd F) (t : St cx F m H s.heap)
    (hg : isGlob kd f = true) (hf : fl.contains f = true) (hnm : isMeth f = false) (hw : awpL g es (fun vs H => g.C f vs H Q X) X m H)
    (hes : ∀ {H : AHeap} {s : Shared} {QQ : List PV → AHeap → Prop}, St cx F m H s.heap → awpL g es QQ X m H → Ev (RepLs cx es.len) cx F (spliced (semL F.nm F.env es)) m H s QQ X) :
    Ev (Rep cx) cx F (eval (.Call (.Name f pf) (es.toEs F.nm) [] p) F.env) m H s Q X := by
  obtain ⟨a, o, fd, hm, ho, hd, _⟩ := ck.fns f hf
  unfold Ev
  rw [arm_eval_Call_Name', starEach_toEs, backTo_sem]
  refine wpAny_bind (glob_ok fo hg t ck.gns ((fad_glob hnm).symm.trans hm) ?_)
  refine callWith_function (o := o) (fd := fd) (first := []) ?_
  refine args_sem (semL_plain _ _ _) (hes t hw) fun vs s₂ h₂ => ?_
  obtain ⟨ps, H₂, rs, t₂, k₂, hc⟩ := h₂
  exact ⟨⟨t₂.base _ _ ho, hd⟩, Ev.older k₂ (ck.calls f hf hc fo.fcl hm rs.1 t₂)⟩

theorem blt_case {F : Fm} {kd : Kd} {q : Bool} {m : Loc} {H : AHeap} {s : Shared} {Q : Post} {X : XPost} {b : Blt} {es : AEs} {pf p : Pos} (fo : Fok cx n q kd F) (t : St cx F m H s.heap) (hh : F.A.handled = none)
    (hg : isGlob kd b.name = true) (hw : awpL g es (fun vs H => bltW b vs Q H) X m H)
    (hes : ∀ {H : AHeap} {s : Shared} {QQ : List PV → AHeap → Prop}, St cx F m H s.heap → awpL g es QQ X m H → Ev (RepLs cx es.len) cx F (spliced (semL F.nm F.env es)) m H s QQ X) :
    Ev (Rep cx) cx F (eval (.Call (.Name b.name pf) (es.toEs F.nm) [] p) F.env) m H s Q X := by
  obtain ⟨h1, h2⟩ := ck.blts b
  unfold Ev
  rw [arm_eval_Call_Name', starEach_toEs, backTo_sem]
  refine wpAny_bind (bglob_ok fo hg t ck.gns ck.bns h1 h2 ?_)
  have hany : (semL F.nm F.env es).any (·.1) = false := by rw [List.any_eq_false]; intro x hx; rw [semL_plain _ _ _ x hx]; decide
  have key : ∀ {f : Value}, f = b.val → wpAny cx.M F.A (evalArgs f true (semL F.nm F.env es) []) (fun a s₁ => wpAny cx.M F.A (call f ([] ++ a.pos) a.kw) (OkG (Rep cx) cx F m H s Q) (ErP cx F m H s X) s₁) (ErP cx F m H s X) s := by
    rintro f rfl
    refine args_sem (semL_plain _ _ _) (hes t hw) fun vs s₂ h₂ => ?_
    obtain ⟨ps, H₂, rs, t₂, k₂, hc⟩ := h₂
    exact Ev.older k₂ (blt_ok hh rs.1 t₂ hc)
  have hk := key rfl
  have hb : (∃ id, b.val = .builtin id) ∨ ∃ T, b.val = .type T := by cases b <;> first | exact .inl ⟨_, rfl⟩ | exact .inr ⟨_, rfl⟩
  generalize b.val = f at hk hb ⊢
  rcases hb with ⟨id, rfl⟩ | ⟨T, rfl⟩
  · exact callWith_builtin hany hk
  · exact PySem.callWith_type hany hk
end
end Mine
end
section
open PySem PySem.Calls PyProof.Rows
namespace Mine
set_option autoImplicit false

theorem lk_atns : ∀ k ∈ atns, typeLookup (.type "object") k = pure none := by
  intro k hk
  rcases List.mem_cons.mp hk with rfl | hk
  · rw [typeLookup_type, builtinLookup_eq_fast]; kernel_rfl
  rcases List.mem_cons.mp hk with rfl | hk
  · rw [typeLookup_type, builtinLookup_eq_fast]; kernel_rfl
  rw [List.mem_singleton.mp hk, typeLookup_type, builtinLookup_eq_fast]; kernel_rfl
theorem lk_mtab : ∀ p ∈ mtab, ∃ y, typeLookup (.type "object") p.1 = pure y := by
  intro p hp
  exact ⟨_, typeLookup_type ..⟩
theorem fad_meth {cx : Cx} {mg : Str → Option Value} : ∀ p ∈ mtab, fad cx mg p.2 = cx.mN p.1 := by
  intro p hp
  rcases List.mem_cons.mp hp with rfl | hp
  · rfl
  rcases List.mem_cons.mp hp with rfl | hp
  · rfl
  rcases List.mem_cons.mp hp with rfl | hp
  · rfl
  rcases List.mem_cons.mp hp with rfl | hp
  · rfl
  rw [List.mem_singleton.mp hp]; rfl
theorem isMeth_of {p : Str × Str} (h : p ∈ mtab) : isMeth p.2 = true := List.any_eq_true.mpr ⟨p, h, beq_self_eq_true _⟩
section
variable {cx : Cx} {g : Gl} {fl : List Str} {mg mb : Str → Option Value} {n : Nat} (ck : Cok cx g fl mg mb n) {F : Fm} {m : Loc} {H : AHeap} {s : Shared} {Q : Post} {X : XPost}

theorem Rep.handed {h : Heap} {v : Value} {p : PV} (r : Rep cx h v p) : handedOut v = pure v := by cases r <;> rfl
theorem St.around {A A' : Around} {env : Env} {fs : List Env} {nm : List Str} {vis : Nat → Bool} {h : Heap} (t : St cx ⟨A, env, fs, nm, vis⟩ m H h) : St cx ⟨A', env, fs, nm, vis⟩ m H h := ⟨t.base, t.off, t.heap, t.frames, t.own, (let ⟨o, es, ep, mc, a, b, c, d⟩ := t.vars; ⟨o, es, ep, mc, a, b, c, d⟩), fun n c h => let ⟨a, b, o, x, d, e, f⟩ := t.cells n c h; ⟨a, b, o, x, d, e, f⟩⟩
theorem dget_dset {α : Type} {es : List (Str × α)} {k : Str} {v : α} (x : Str) : dget (dset es k v) x = if x = k then some v else dget es x := by
  unfold dset
  split
  · rename_i h
    induction es with
    | nil => simp at h
    | cons p es ih =>
      unfold dget
      rw [List.map_cons, List.find?_cons]
      by_cases hp : p.1 = k
      · simp only [hp, if_true]
        by_cases hx : x = k
        · subst hx; simp
        · have hx' : ¬ (k = x) := fun e => hx e.symm
          simp only [hx', decide_false, hx, if_false]
          rw [List.find?_cons]
          simp only [hp, hx', decide_false]
          by_cases ha : es.any (fun p => decide (p.1 = k)) = true
          · have := ih ha
            unfold dget at this
            rw [if_neg hx] at this
            exact this
          · have hm : es.map (fun p => if p.1 = k then (p.1, v) else p) = es := by
              conv => rhs; rw [← List.map_id es]
              refine List.map_congr_left fun q hq => ?_
              rw [if_neg fun e => ha (List.any_eq_true.mpr ⟨q, hq, by simp [e]⟩)]; rfl
            rw [hm]
      · simp only [hp, if_false]
        rw [List.any_cons] at h
        simp only [hp, decide_false, Bool.false_or] at h
        have := ih h
        unfold dget at this
        rw [List.find?_cons]
        by_cases hx : p.1 = x
        · have hxk : x ≠ k := fun e => hp (hx.trans e)
          simp [hx, hxk]
        · simp only [hx, decide_false]
          exact this
  · rename_i h
    unfold dget
    rw [List.find?_append]
    by_cases hx : x = k
    · subst hx
      have : es.find? (fun p => decide (p.1 = x)) = none := by
        rw [List.find?_eq_none]
        intro p hp
        simp only [decide_eq_true_eq]
        intro e
        exact h (List.any_eq_true.mpr ⟨p, hp, by simp [e]⟩)
      rw [this]; simp
    · have hx' : ¬ (k = x) := fun e => hx e.symm
      simp [hx, hx']
include ck
theorem inst_at {a d : Addr} {kvs : List (Str × PV)} (t : St cx F m H s.heap) (ha : H a = some (.inst d)) (hd : H d = some (.attrs kvs)) : ∃ C N mA, ClsAt s.heap C N cx.mN ∧ s.heap.InstFk a C mA ∧ (∀ x ∈ (["__getattribute__", "__getattr__", "__setattr__"] : List Str) ++ atns, cx.mN x = none)
    ∧ (∀ x p, dget kvs x = some p → ∃ v, mA x = some v ∧ Rep cx s.heap v p) ∧ (∀ x, dget kvs x = none → mA x = none) := by
  obtain ⟨C, N, hC, _, hcl, hid⟩ := ck.mach
  obtain ⟨C', o, hC', go, hc, hdd, hnc⟩ := t.heap a _ ha
  rw [hC] at hC'; cases hC'
  obtain ⟨mA, n1, ed, f, n, l⟩ := t.heap d _ hd
  have hne : d ≠ a := by rintro rfl; rw [ha] at hd; cases hd
  exact ⟨C, N, mA, hcl.keeps t.base, ⟨o, go, hc, hnc, .inr ⟨d, hdd, hne, n1, ed⟩⟩, hid, f, n⟩

theorem attr_ok {v : Value} {p : PV} {k : Str} (hk : k ∈ atns) (rv : Rep cx s.heap v p) (t : St cx F m H s.heap) (h : AttrW Q H k p) : Ev (Rep cx) cx F (getAttr v k true) m H s Q X := by
  cases h with
  | mk ha hd e h =>
    obtain rfl := Rep.objI rv
    obtain ⟨C, N, mA, hcl, I, hid, f, _⟩ := inst_at ck t ha hd
    obtain ⟨nm, q, bs, sn, sub, col, dd, k0, k1, k2, k3, k5, hC⟩ := hcl.obj
    obtain ⟨v, hv, rv⟩ := f _ _ e
    exact load_attrFk hC hcl.ns (hid _ (List.mem_append.mpr (.inl (by decide)))) (hid _ (List.mem_append.mpr (.inr hk))) (lk_atns k hk) I hv rv.handed (.toks _ rv t h)

theorem attr_case {o : AE} {k : Str} {p : Pos} (hb : blbase o = true) (hk : k ∈ atns) (ho : Ev (Rep cx) cx F (eval (o.toE F.nm) F.env) m H s (fun v H => AttrW Q H k v) X) :
    Ev (Rep cx) cx F (eval (.Attribute (o.toE F.nm) k p) F.env) m H s Q X := by
  unfold Ev
  rw [arm_eval_Attribute, base_ok _ _ _ _ _ hb]
  refine wpAny_bind (wpAny_mono ho (fun ov s₁ h₁ => ?_) fun _ _ e => e)
  obtain ⟨v, H₁, rv, t₁, k₁, hw⟩ := h₁
  exact wpAny_bind (wpAny_standAt (wpAny_bind (wpAny_holding (wpAny_mono (attr_ok ck hk rv t₁ hw) (fun r s₂ h₂ => wpAny_bind (wpAny_letTemporaryGo (wpAny_pure (h₂.older k₁)))) fun _ _ e => e.older k₁))))

theorem sattr_ok {v x : Value} {p y : PV} {k : Str} {K : AHeap → Prop} (hk : k ∈ atns) (rv : Rep cx s.heap v p) (rx : Rep cx s.heap x y) (t : St cx F m H s.heap) (h : SattrW K H k y p) :
    Ev (fun _ (_ : Unit) (_ : Unit) => True) cx F (setAttr v k x) m H s (fun _ H => K H) X := by
  cases h with
  | @mk a d kvs ha hd l h =>
    obtain rfl := Rep.objI rv
    obtain ⟨C, N, mA, hcl, I, hid, f, hno⟩ := inst_at ck t ha hd
    obtain ⟨nm, q, bs, sn, sub, col, dd, k0, k1, k2, k3, k5, hC⟩ := hcl.obj
    obtain ⟨C', o, hC', go, hc, hdd, hnc⟩ := t.heap a _ ha
    have hxC : a ≠ C := by
      rintro rfl
      rw [go] at hC
      cases hC
      exact hnc _ rfl
    have hda : a ≠ d := by rintro rfl; rw [ha] at hd; cases hd
    have hin : PySem.Within mA (kvs.map Prod.fst) := fun y hy => by
      cases hq : dget kvs y with
      | none => exact absurd (hno y hq) hy
      | some p =>
        unfold dget at hq
        obtain ⟨z, hz, _⟩ := Option.map_eq_some_iff.mp hq
        have h1 := List.find?_some hz
        exact List.mem_map.mpr ⟨z, List.mem_of_find?_eq_some hz, of_decide_eq_true h1⟩
    refine store_attrFk (ns := kvs.map Prod.fst) PySem.F.store_object hC hcl.ns (hid _ (List.mem_append.mpr (.inl (by decide)))) (hid _ (List.mem_append.mpr (.inr hk))) (lk_atns k hk) hxC I (fun h' tk I' hkeep hsame => ?_) hin (by rw [List.length_map, sizeLine_eq]; (first | lia | omega))
    have g : ∀ b o, b ≠ d → s.heap.get? b = some o → h'.get? b = some o := fun b o₂ hb e => by
      by_cases hba : b = a
      · subst hba
        rw [go] at e; cases e
        obtain ⟨o₁, e1, c1, c2, c3, c4⟩ := hsame o go
        have : o₁ = o := by
          obtain ⟨a1, a2, a3, a4⟩ := o₁
          obtain ⟨b1, b2, b3, b4⟩ := o
          have := c4 d hdd
          simp only at c1 c2 c3 this hdd
          subst c1 c2 c3
          rw [this, hdd]
        rw [e1, this]
      · exact hkeep b o₂ hba (fun o₀ dx g0 d0 => by rw [go] at g0; cases g0; rw [hdd] at d0; cases d0; exact hb) e
    have so : ∀ b o, s.heap.get? b = some o → Solid o → h'.get? b = some o := fun b o e so => g b o (by
      rintro rfl
      obtain ⟨ob, e', n, _⟩ := (t.heap _ _ hd).get; rw [e] at e'; cases e'; exact n so) e
    obtain ⟨o', go', _, _, hd'⟩ := I'
    rw [g a o hda go] at go'
    cases go'
    rcases hd' with ⟨q, _⟩ | ⟨d', q, _, n1', ed'⟩
    · rw [hdd] at q; cases q
    rw [hdd] at q; cases q
    have ro : RepO cx h' d (.attrs (dset kvs k y)) := by
      refine ⟨_, n1', ed', fun z p e => ?_, fun z e => ?_, Nat.le_trans (dset_length_le ..) l⟩
      · rw [dget_dset] at e
        by_cases hz : z = k
        · rw [if_pos hz] at e; cases e; exact ⟨x, if_pos hz, rx.mono so⟩
        · rw [if_neg hz] at e
          obtain ⟨v, hv, r⟩ := f z p e
          exact ⟨v, (if_neg hz).trans hv, r.mono so⟩
      · rw [dget_dset] at e
        by_cases hz : z = k
        · rw [if_pos hz] at e; cases e
        · rw [if_neg hz] at e
          exact (if_neg hz).trans (hno z e)
    exact .put (b := ()) hd g trivial ro t (mutate_use h)

theorem umeth_case {kd : Kd} {k c : Str} {o : AE} {es : AEs} {pa p : Pos} (fo : Fok cx n true kd F)
    (hline : (pa.endLine == p.line) = true) (hlen : es.len ≤ 3) (hb : blbase o = true) (hf : fl.contains c = true) (hm : mtab.lookup k = some c)
    (ho : Ev (Rep cx) cx F (eval (o.toE F.nm) F.env) m H s (fun v H => UmW (awpL g es (fun vs H => g.C c (v :: vs) H Q X) X m H) H k v) X)
    (hes : ∀ {H : AHeap} {s : Shared} {QQ : List PV → AHeap → Prop}, St cx F m H s.heap → awpL g es QQ X m H → Ev (RepLs cx es.len) cx F (spliced (semL F.nm F.env es)) m H s QQ X) :
    Ev (Rep cx) cx F (eval (.Call (.Attribute (o.toE F.nm) k pa) (es.toEs F.nm) [] p) F.env) m H s Q X := by
  have hst : backTo p (starEach (es.toEs F.nm) F.env) = semL F.nm F.env es := by rw [starEach_toEs, backTo_sem]
  unfold Ev
  rw [arm_eval_Call, base_ok _ _ _ _ _ hb, hst]
  refine wpAny_bind (wpAny_mono ho (fun ov s₁ h₁ => ?_) fun _ _ e => e)
  obtain ⟨v, H₁, rv, t₁, k₁, hw⟩ := h₁
  refine wpAny_bind (wpAny_standAt ?_)
  have hform : methodCallForm ((es.toEs F.nm).length + ([] : List Keyword).length) (semL F.nm F.env es) (backToKw p (keywordEach [] F.env)) = true := by
    show ((semL F.nm F.env es).all (fun x => !x.1) && (backToKw p (keywordEach [] F.env)).all (fun x => x.1.isSome) && decide ((es.toEs F.nm).length + ([] : List Keyword).length + (if ([] : List Keyword).isEmpty then 0 else 1) < 30)) = true
    have : (semL F.nm F.env es).all (fun x => !x.1) = true := List.all_eq_true.mpr fun x hx => by rw [semL_plain _ _ _ x hx]; rfl
    rw [this, len_toEs]
    simp only [List.length_nil, List.isEmpty_nil, if_true]
    have : decide (es.len + 0 + 0 < 30) = true := by simp; first | lia | omega
    rw [this]; rfl
  have hpos : methodCallPos true (o.toE F.nm) F.env pa p = pure p := by unfold methodCallPos; simp [hline]
  unfold methodCall
  rw [hform]
  obtain ⟨fa, oo, fd, hfa, hfo, hfd, hfc⟩ := ck.fns c hf
  have hmm := mem_of_lookup hm
  have hmn : cx.mN k = some (.ref fa) := (fad_meth (cx := cx) (mg := mg) (k, c) hmm).symm.trans hfa
  obtain ⟨y, hy⟩ := lk_mtab (k, c) hmm
  cases hw with
  | @mk a d kvs ha hd he hw =>
    obtain rfl := Rep.objI rv
    obtain ⟨C, N, mA, hcl, I, hid, f, hno⟩ := inst_at ck t₁ ha hd
    obtain ⟨nm, q, bs, sn, sub, col, dd, k0, k1, k2, k3, k5, hC⟩ := hcl.obj
    refine wpAny_bind (wpAny_holding (method_ofFk hC hcl.ns (hid _ (List.mem_append.mpr (.inl (by decide)))) (hid _ (List.mem_append.mpr (.inl (by decide)))) hmn (t₁.base _ _ hfo) (hfc (isMeth_of (p := (k, c)) hmm)) hy I (hno _ he) ?_))
    refine wpAny_bind (wpAny_of_eq hpos ?_)
    refine callWith_function (o := oo) (fd := fd) (first := [.ref a]) ?_
    refine wpAny_mono (args_sem (semL_plain _ _ _) (hes t₁ hw) (QQ := fun x s₂ => (s₂.heap.get? fa = some oo ∧ oo.data = .func fd) ∧ wpAny cx.M F.A (call (.ref fa) ([.ref a] ++ x.pos) x.kw) (OkG (Rep cx) cx F m H s Q) (ErP cx F m H s X) s₂) fun vs s₂ h₂ => ?_) (fun _ _ h => h) fun _ _ e => e.older k₁
    obtain ⟨ps, H₂, rs, t₂, k₂, hc⟩ := h₂
    exact ⟨⟨t₂.base _ _ hfo, hfd⟩, Ev.older (k₁.trans k₂) (ck.calls c hf hc fo.fcl hfa (.cons (.obj a) rs.1) t₂)⟩

theorem new_case {kd : Kd} {es : AEs} {pf p : Pos} (fo : Fok cx n true kd F) (t : St cx F m H s.heap) (hg : isGlob kd "Machine" = true) (hf : fl.contains "Machine.__init__" = true) (hne : 0 < es.len)
    (hw : awpL g es (fun vs H => newW g vs Q X H) X m H)
    (hes : ∀ {H : AHeap} {s : Shared} {QQ : List PV → AHeap → Prop}, St cx F m H s.heap → awpL g es QQ X m H → Ev (RepLs cx es.len) cx F (spliced (semL F.nm F.env es)) m H s QQ X) :
    Ev (Rep cx) cx F (eval (.Call (.Name "Machine" pf) (es.toEs F.nm) [] p) F.env) m H s Q X := by
  obtain ⟨C, N, hC, hmg, hcl, hid⟩ := ck.mach
  obtain ⟨fa, oo, fd, hfa, hfo, hfd, hfc⟩ := ck.fns _ hf
  have hst : backTo p (starEach (es.toEs F.nm) F.env) = semL F.nm F.env es := by rw [starEach_toEs, backTo_sem]
  unfold Ev
  rw [arm_eval_Call_Name']
  refine wpAny_bind (glob_ok fo hg t ck.gns hmg ?_)
  cases es with
  | nil => exact absurd hne (by decide)
  | cons e es =>
  refine callWith_cls (h₀ := cx.B) (C := C) (N := N) (mN := cx.mN) (e := e.toE F.nm) (rest := es.toEs F.nm) hcl ?_ ?_ ?_
  · show wpAny _ _ (spliced (backTo p (starEach ((AEs.cons e es).toEs F.nm) F.env))) _ _ _
    rw [hst]
    refine wpAny_mono (hes t hw) (fun vs s₂ h₂ => ?_) fun _ _ e => e
    obtain ⟨ps, H₂, rs, t₂, k₂, hn⟩ := h₂
    refine ⟨t₂.base, ?_⟩
    obtain ⟨nm, q, bs, sn, sub, col, dd, k0, k1, k2, k3, k5, hCo⟩ := (hcl.keeps t₂.base).obj
    refine wpAny_call_obj_initFk PySem.F.objNew hCo (hcl.keeps t₂.base).ns hfa (t₂.base _ _ hfo) (hfc rfl) fun h' x dx Mk => ?_
    obtain ⟨o, go, hc, hnc, hd⟩ := Mk.inst
    have hod := Mk.dict o go
    rcases hd with ⟨q, _⟩ | ⟨d', q, hdx, n1, ed⟩
    · rw [hod] at q; cases q
    rw [hod] at q; cases q
    have fx := t₂.heap.fresh Mk.newX
    have fd' := t₂.heap.fresh Mk.newD
    have ro1 : RepO cx h' dx (.attrs []) := ⟨_, n1, ed, fun _ _ e => (nomatch e), fun _ _ => rfl, Nat.zero_le _⟩
    have ro2 : RepO cx h' x (.inst dx) := ⟨C, o, hC, go, hc, hod, hnc⟩
    have hh1 : Holds cx h' (upd H₂ dx (.attrs [])) := t₂.heap.put (fun b ob _ e => Mk.keeps b ob e) (fun o e => by rw [Mk.newD] at e; cases e) ro1
    have hh2 : Holds cx h' (upd (upd H₂ dx (.attrs [])) x (.inst dx)) := hh1.put (fun _ _ _ e => e) (fun o' e => by
      obtain ⟨ob, e', ns, _⟩ := ro2.get; rw [e] at e'; cases e'; exact ns) ro2
    have k₃ : Kp cx [] H₂ s₂ (upd (upd H₂ dx (.attrs [])) x (.inst dx)) { s₂ with heap := h' } := .grow (tk := s₂.toks) Mk.keeps fun b ob e hb => by
      rw [upd_ne (by rintro rfl; rw [Mk.newX] at e; cases e), upd_ne (by rintro rfl; rw [Mk.newD] at e; cases e)]; exact hb
    have t₃ := t₂.step k₃ hh2
    have hx := upd_self (upd H₂ dx (.attrs [])) x (.inst dx)
    have hdx' : upd (upd H₂ dx (.attrs [])) x (.inst dx) dx = some (.attrs []) := by rw [upd_ne hdx, upd_self]
    have ex : Ext H₂ (upd (upd H₂ dx (.attrs [])) x (.inst dx)) := fun b ob e => upd_ext (by rw [upd_ne (Ne.symm hdx)]; exact fx) b ob (upd_ext fd' b ob e)
    have hcall := ck.calls _ hf (hn x dx _ fx fd' hx hdx' ex) (F := { F with A := F.A.under (.builtin "type.__call__" ⟨.ref C :: vs, []⟩) }) ⟨fo.fr, fo.quiet rfl, by show F.A.depth + 1 + 2 * n ≤ 900; have := fo.depth; (first | lia | omega), by show F.A.units + 1 + 8 * n + 200 ≤ cLine; have := fo.units; (first | lia | omega)⟩ hfa (.cons (.obj x) (rs.1.mono fun b o e _ => Mk.keeps b o e)) t₃.around
    refine wpAny_mono hcall (fun r s' h' => ?_) fun e s' h' => ?_
    · obtain ⟨pr, H', rr, t', k', rfl, hq⟩ := h'
      exact ⟨Rep.noneI rr, .obj x, H', .obj x, t'.around, (k₂.trans k₃).trans k', hq⟩
    · obtain ⟨e, c, H', rfl, x', t', k', hq⟩ := h'
      exact ErP.older (k₂.trans k₃) ⟨e, c, H', rfl, x', t'.around, k', hq⟩
  · have h1 := starEach_toEs F.nm F.env (.cons e es)
    have h2 := starEach_toEs F.nm F.env es
    rw [h2]; exact h1
  · rw [starEach_toEs, backTo_sem, List.any_eq_false]
    intro x hx
    rw [semL_plain _ _ _ x hx]; decide
end
end Mine
end
section
open PySem PySem.Calls PyProof.Rows
namespace Mine
set_option autoImplicit false
set_option linter.unusedSectionVars false
set_option linter.unusedVariables false

section
variable {cx : Cx} {g : Gl} {fl : List Str} {mg mb : Str → Option Value} {n : Nat}
variable (ck : Cok cx g fl mg mb n)

theorem tup_made {F : Fm} {m : Loc} {H : AHeap} {s : Shared} {vs : List Value} {ps : List PV} {Q : Post} {X : XPost} (r : RepL cx s.heap vs ps) (l : ps.length ≤ LIM) (t : St cx F m H s.heap) (h : Q (.tup ps) H) : Ev (Rep cx) cx F (newTuple vs) m H s Q X := by
  have hl := r.length
  have := LIM_le
  refine wpAny_newTuple ?_ (by first | lia | omega)
  exact new_tup (tk := s.toks) (c := 0) t push_keeps (Heap.get?_push_size _ rfl) (by simpa using r) l h
theorem list_made {F : Fm} {m : Loc} {H : AHeap} {s : Shared} {vs : List Value} {ps : List PV} {Q : Post} {X : XPost} (r : RepL cx s.heap vs ps) (l : ps.length ≤ LIM) (t : St cx F m H s.heap) (h : alloc (.list ps) Q H) : Ev (Rep cx) cx F (newList vs) m H s Q X := by
  have hl := r.length
  have := LIM_le
  refine wpAny_newList ?_ (by first | lia | omega)
  exact new_list (tk := s.toks) (c := 0) t push_keeps (get_size_none _) (Heap.get?_push_size _ rfl) (by simpa using r) l h

theorem truth_ok {F : Fm} {m : Loc} {H : AHeap} {s : Shared} {v : Value} {p : PV} {Q : BPost} {X : XPost} (r : Rep cx s.heap v p) (t : St cx F m H s.heap) (h : truthW p fun b => Q b H) : Ev IsBB cx F (truthy v) m H s Q X := by
  unfold truthW at h
  split at h
  · (first | (obtain ⟨_, rfl⟩ := Rep.intI r) | (obtain ⟨_, rfl⟩ := Rep.strI r) | (obtain rfl := Rep.objI r) | (obtain rfl := Rep.boolI r) | (obtain rfl := Rep.noneI r)); exact wpAny_truthy_bool (.toks s.toks rfl t h)
  · exact h.elim
theorem neg_ok {F : Fm} {m : Loc} {H : AHeap} {s : Shared} {i : Int} {u : Tok} {Q : Post} {X : XPost} (t : St cx F m H s.heap) (h : Q (.int (-i)) H) : Ev (Rep cx) cx F (unaryOp .USub (.int i u)) m H s Q X :=
  PyProof.Rows.neg_int (.toks _ (.int _ _) t h)
theorem not_ok {F : Fm} {m : Loc} {H : AHeap} {s : Shared} {b : Bool} {Q : Post} {X : XPost} (t : St cx F m H s.heap) (h : Q (.bool (!b)) H) : Ev (Rep cx) cx F (unaryOp .Not (.bool b)) m H s Q X :=
  PyProof.Rows.not_of (wpAny_truthy_bool (.toks s.toks (.bool _) t h))
theorem soundW {F : Fm} {m : Loc} {H : AHeap} {s : Shared} {Q : BPost} {X : XPost} (e : AE) (h1 : ∀ x p, e ≠ .not x p) (h2 : ∀ o es p, e ≠ .bop o es p) (h3 : ∀ l o r p, e ≠ .cmp l o r p)
    (h : Ev (Rep cx) cx F (eval (e.toE F.nm) F.env) m H s (fun v H => truthW v fun b => Q b H) X) : Ev IsBB cx F (isTrue (e.toE F.nm) F.env (eval (e.toE F.nm) F.env)) m H s Q X := by
  rw [isTrue_plain _ _ _ _ h1 h2 h3]
  exact Ev.bind h fun a pa s₁ H₁ ra t₁ k₁ h₁ => Ev.stand (Ev.holding (truth_ok ra t₁ h₁))

theorem m1_ok {F : Fm} {m : Loc} {H : AHeap} {s : Shared} {Q : Post} {X : XPost} {c cu : Pos} (t : St cx F m H s.heap) (h : Q (.int (-1)) H) : Ev (Rep cx) cx F (eval (.UnaryOp .USub (.Constant (.int 1) 0 c) cu) F.env) m H s Q X := by
  refine Ev.two (Q := Q) (QQ := fun v H => v = .int 1 ∧ Q (.int (-1)) H) (lit_ok (cx := cx) (c := .int 1) rfl fun x tk r => .toks tk (r _) t ⟨rfl, h⟩) (fun a pa s₁ H₁ ra t₁ _ h₁ => ?_) t
  obtain ⟨rfl, h₁⟩ := h₁
  refine Ev.stand (Ev.holding ?_)
  obtain ⟨u, rfl⟩ := ra.intI
  exact neg_ok t₁ h₁
noncomputable def evalEachL (nm : List Str) (env : Env) : AEs → List (Sem Value)
  | .nil => []
  | .cons e es => eval (e.toE nm) env :: evalEachL nm env es
theorem evalEach_toEs (nm : List Str) (env : Env) : ∀ es : AEs, evalEach (es.toEs nm) env = evalEachL nm env es
  | .nil => rfl
  | .cons e es => by
    show eval (e.toE nm) env :: evalEach (es.toEs nm) env = _
    rw [evalEach_toEs nm env es]; rfl

include ck
theorem isi_case {F : Fm} {kd : Kd} {q : Bool} {m : Loc} {H : AHeap} {s : Shared} {Q : Post} {X : XPost} {e : AE} {c : ICls} {pf p1 p2 p3 p : Pos} (fo : Fok cx n q kd F) (hi : isGlob kd "isinstance" = true) (hc : iclsOk kd c = true) (t : St cx F m H s.heap)
    (h : Ev (Rep cx) cx F (eval (e.toE F.nm) F.env) m H s (fun v H => isiW c v (fun b => Q (.bool b) H) H) X) : Ev (Rep cx) cx F (eval ((AE.isi e c pf p1 p2 p3 p).toE F.nm) F.env) m H s Q X := by
  have hst : starEach [e.toE F.nm, c.expr p1 p2 p3] F.env = [(false, eval (e.toE F.nm) F.env), (false, eval (c.expr p1 p2 p3) F.env)] := by
    have h1 : ∀ r, starEach (e.toE F.nm :: r) F.env = (false, eval (e.toE F.nm) F.env) :: starEach r F.env := fun r => by cases e <;> rfl
    rw [h1]
    cases c <;> rfl
  show wpAny cx.M F.A (eval (.Call (.Name "isinstance" pf) [e.toE F.nm, c.expr p1 p2 p3] [] p) F.env) _ _ s
  rw [arm_eval_Call_Name', hst]
  refine wpAny_bind (bglob_ok fo hi t ck.gns ck.bns ck.isi.1 ck.isi.2 ?_)
  refine callWith_builtin rfl (evalArgs_plain (spliced_cons (wpAny_mono h (fun v s₁ h₁ => ?_) fun _ _ e => e)))
  obtain ⟨pv, H₁, rv, t₁, k₁, h₁⟩ := h₁
  have bt : ∀ (T : String), T ∈ ["str", "list", "tuple", "bool", "int", "ValueError"] → isGlob kd (Str.ofString T) = true → Ev (Rep cx) cx F (call (.builtin "isinstance") [v, .type T]) m H₁ s₁ Q X →
      wpAny cx.M F.A (spliced [(false, eval (.Name (Str.ofString T) p1) F.env)]) (fun vs s₂ => wpAny cx.M F.A (call (.builtin "isinstance") ([] ++ v :: vs) []) (OkG (Rep cx) cx F m H s Q) (ErP cx F m H s X) s₂) (ErP cx F m H s X) s₁ := fun T hT hg hw =>
    spliced_cons (bglob_ok fo hg t₁ ck.gns ck.bns (ck.bty T hT).1 (ck.bty T hT).2 (spliced_nil (Ev.older k₁ hw)))
  have bas : c.basic = true → (∀ T, c.T = some T → Ev (Rep cx) cx F (call (.builtin "isinstance") [v, .type T]) m H₁ s₁ Q X) →
      wpAny cx.M F.A (spliced [(false, eval (c.expr p1 p2 p3) F.env)]) (fun vs s₂ => wpAny cx.M F.A (call (.builtin "isinstance") ([] ++ v :: vs) []) (OkG (Rep cx) cx F m H s Q) (ErP cx F m H s X) s₂) (ErP cx F m H s X) s₁ := fun hb hT => by
    cases c <;> cases hb
    · exact bt "str" (by decide) hc (hT _ rfl)
    · exact bt "list" (by decide) hc (hT _ rfl)
    · exact bt "tuple" (by decide) hc (hT _ rfl)
    · exact bt "bool" (by decide) hc (hT _ rfl)
    · exact bt "int" (by decide) hc (hT _ rfl)
  cases isiW_to h₁ with
  | val b e q => exact bas b fun T hT => isi_val hT rv t₁ e q
  | list b ha q => obtain rfl := Rep.objI rv; exact bas b fun T hT => isi_list hT t₁ ha q

mutual
theorem soundE : ∀ (e : AE) {F : Fm} {kd : Kd} {q : Bool} {m : Loc} {H : AHeap} {s : Shared} {Q : Post} {X : XPost}, Fok cx n q kd F → okE fl F.nm q F.vis kd e = true → St cx F m H s.heap → awpE g e Q X m H →
    Ev (Rep cx) cx F (eval (e.toE F.nm) F.env) m H s Q X
  | .lit c k p, F, kd, q, m, H, s, Q, X, fo, ok, t, h => by
    obtain ⟨v, hv, h⟩ := litW_iff h
    exact lit_ok (cx := cx) hv fun x tk r => .toks tk (r _) t h
  | .var i p, F, kd, q, m, H, s, Q, X, fo, ok, t, h => by
    replace ok := (show (_ && _) = true from ok); simp only [Bool.and_eq_true, Bool.not_eq_true'] at ok
    exact var_ok fo ok.1.1.1 ok.1.1.2 ok.1.2 ok.2 t h
  | .glob x p, F, kd, q, m, H, s, Q, X, fo, ok, t, h => by
    have h' : varW (g.G x) Q H := h
    unfold varW at h'
    split at h'
    · rename_i v hv
      obtain ⟨w, hw, r⟩ := ck.consts x v hv
      exact glob_ok fo ok t ck.gns hw (.toks s.toks (r.mono fun b o e _ => t.base b o e) t h')
    · exact h'.elim
  | .bin l o r p, F, kd, q, m, H, s, Q, X, fo, ok, t, h => by
    replace ok := (show (_ && _) = true from ok); simp only [Bool.and_eq_true] at ok
    refine Ev.two (soundE l fo ok.1 t h) (fun a pa s₁ H₁ ra t₁ _ h₁ => ?_) t
    refine Ev.two (Ev.holding (soundE r fo ok.2 t₁ h₁)) (fun b pb s₂ H₂ rb t₂ so h₂ => ?_) t₁
    exact Ev.stand (wpAny_operating (bin_ok (ra.mono so) rb t₂ h₂))
  | .neg e p, F, kd, q, m, H, s, Q, X, fo, ok, t, h => by
    refine Ev.two (soundE e fo ok t h) (fun a pa s₁ H₁ ra t₁ _ h₁ => ?_) t
    refine Ev.stand (Ev.holding ?_)
    split at h₁
    · obtain ⟨u, rfl⟩ := ra.intI; exact neg_ok t₁ h₁
    · exact h₁.elim
  | .not e p, F, kd, q, m, H, s, Q, X, fo, ok, t, h => by
    refine Ev.two (soundE e fo ok t h) (fun a pa s₁ H₁ ra t₁ _ h₁ => ?_) t
    refine Ev.stand (Ev.holding ?_)
    unfold truthW at h₁
    split at h₁
    · cases ra; exact not_ok t₁ h₁
    · exact h₁.elim
  | .bop o es p, F, kd, q, m, H, s, Q, X, fo, ok, t, h => by
    show Ev (Rep cx) cx F (boolOp p o (evalEach (es.toEs F.nm) F.env)) m H s Q X
    rw [evalEach_toEs]
    exact soundV o p es fo ok t h
  | .cmp l o r p, F, kd, q, m, H, s, Q, X, fo, ok, t, h => by
    replace ok := (show (_ && _) = true from ok); simp only [Bool.and_eq_true] at ok
    refine Ev.two (soundE l fo ok.1 t h) (fun a pa s₁ H₁ ra t₁ _ h₁ => ?_) t
    show Ev (Rep cx) cx F (compareChain p a [o] [markedBehindIn o (r.toE F.nm) (eval (r.toE F.nm) F.env)]) m H₁ s₁ Q X
    rw [marked_ok]
    refine Ev.two (Ev.holding (soundE r fo ok.2 t₁ h₁)) (fun b pb s₂ H₂ rb t₂ so h₂ => ?_) t₁
    refine Ev.stand (wpAny_operating ?_)
    have hu := fo.units
    exact (Ev.mono_rep (cmp_ok (by first | lia | omega) (ra.mono so) rb t₂ h₂)).weaken fun v H ⟨b, e, q⟩ => by subst e; exact q
  | .sub e i p, F, kd, q, m, H, s, Q, X, fo, ok, t, h => by
    replace ok := (show (_ && _) = true from ok); simp only [Bool.and_eq_true] at ok
    refine Ev.two (soundE e fo ok.1 t h) (fun a pa s₁ H₁ ra t₁ _ h₁ => ?_) t
    refine Ev.two (Ev.holding (soundE i fo ok.2 t₁ h₁)) (fun b pb s₂ H₂ rb t₂ so h₂ => ?_) t₁
    exact Ev.stand (sub_ok (subscripted_plain _ _) (ra.mono so) rb t₂ h₂)
  | .sfrom e i ps p, F, kd, q, m, H, s, Q, X, fo, ok, t, h => by
    replace ok := (show (_ && _) = true from ok); simp only [Bool.and_eq_true] at ok
    refine Subscript_ (wpAny_mono (soundE e fo ok.1 t h) (fun a s₁ h₁ => ?_) fun _ _ e => e)
    obtain ⟨pa, H₁, ra, t₁, k₁, h₁⟩ := h₁
    refine wpAny_bind (wpAny_mono (soundE i fo ok.2 t₁ h₁) (fun b s₂ h₂ => ?_) fun _ _ e => e.older k₁)
    obtain ⟨pb, H₂, rb, t₂, k₂, h₂⟩ := h₂
    refine wpAny_bind (wpAny_holding (wpAny_pure (wpAny_bind (wpAny_holding (wpAny_pure (wpAny_newObj_type ?_))))))
    exact Ev.older (((k₁.trans k₂)).trans (.grow (tk := s₂.toks) push_keeps fun _ _ _ e => e)) (sfrom_ok (fun _ _ => rfl) (ra.mono (k₂.solid0 t₁.heap)) rb t₂ h₂)
  | .sto e i ps p, F, kd, q, m, H, s, Q, X, fo, ok, t, h => by
    replace ok := (show (_ && _) = true from ok); simp only [Bool.and_eq_true] at ok
    refine Subscript_ (wpAny_mono (soundE e fo ok.1 t h) (fun a s₁ h₁ => ?_) fun _ _ e => e)
    obtain ⟨pa, H₁, ra, t₁, k₁, h₁⟩ := h₁
    refine wpAny_bind (wpAny_pure (wpAny_bind (wpAny_holding (wpAny_mono (soundE i fo ok.2 t₁ h₁) (fun b s₂ h₂ => ?_) fun _ _ e => e.older k₁))))
    obtain ⟨pb, H₂, rb, t₂, k₂, h₂⟩ := h₂
    refine wpAny_bind (wpAny_holding (wpAny_pure (wpAny_newObj_type ?_)))
    exact Ev.older (((k₁.trans k₂)).trans (.grow (tk := s₂.toks) push_keeps fun _ _ _ e => e)) (sto_ok (fun _ _ => rfl) (ra.mono (k₂.solid0 t₁.heap)) rb t₂ h₂)
  | .srev e c ps p cu, F, kd, q, m, H, s, Q, X, fo, ok, t, h => by
    refine Subscript_ (wpAny_mono (soundE e fo ok t h) (fun a s₁ h₁ => ?_) fun _ _ e => e)
    obtain ⟨pa, H₁, ra, t₁, k₁, h₁⟩ := h₁
    refine wpAny_bind (wpAny_pure (wpAny_bind (wpAny_holding (wpAny_pure (wpAny_bind (wpAny_holding (wpAny_mono (m1_ok (Q := fun w H => w = .int (-1) ∧ RevW Q H pa) (X := X) t₁ ⟨rfl, h₁⟩) (fun b s₂ h₂ => ?_) fun _ _ e => e.older k₁)))))))
    obtain ⟨pb, H₂, rb, t₂, k₂, rfl, h₂⟩ := h₂
    obtain ⟨u, rfl⟩ := rb.intI
    refine wpAny_newObj_type ?_
    exact Ev.older (((k₁.trans k₂)).trans (.grow (tk := s₂.toks) push_keeps fun _ _ _ e => e)) (rev_ok (fun _ _ => rfl) (ra.mono (k₂.solid0 t₁.heap)) t₂ h₂)
  | .tup es k p, F, kd, q, m, H, s, Q, X, fo, ok, t, h => by
    replace ok := (show (_ && _) = true from ok); simp only [Bool.and_eq_true, decide_eq_true_eq] at ok
    show Ev (Rep cx) cx F (do standAt p; newTuple (← spliced (backTo p (starEach (es.toEs F.nm) F.env)))) m H s Q X
    rw [starEach_toEs, backTo_sem]
    refine Ev.stand (Ev.two (soundL es fo ok.1 t h) (fun a ps s₁ H₁ ra t₁ _ h₁ => ?_) t)
    have hL : LIM = 1048576 := rfl
    have hl := ra.2
    exact tup_made ra.1 (by first | lia | omega) t₁ h₁
  | .list es p, F, kd, q, m, H, s, Q, X, fo, ok, t, h => by
    replace ok := (show (_ && _) = true from ok); simp only [Bool.and_eq_true, decide_eq_true_eq] at ok
    show Ev (Rep cx) cx F (do standAt p; newList (← spliced (backTo p (starEach (es.toEs F.nm) F.env)))) m H s Q X
    rw [starEach_toEs, backTo_sem]
    refine Ev.stand (Ev.two (soundL es fo ok.1 t h) (fun a ps s₁ H₁ ra t₁ _ h₁ => ?_) t)
    have hL : LIM = 1048576 := rfl
    have hl := ra.2
    exact list_made ra.1 (by first | lia | omega) t₁ h₁
  | .tape pc p, F, kd, q, m, H, s, Q, X, fo, ok, t, h => by
    refine Ev.stand (f := fun _ => spliced [(false, eval (.Constant (.int 0) 0 pc) F.env)] >>= fun vs => newList vs) ?_
    refine wpAny_bind (spliced_cons (lit_ok (cx := cx) (v := .int 0) rfl fun x tk r => spliced_nil ?_))
    obtain ⟨u, rfl⟩ := (r s.heap).intI
    refine wpAny_newList ?_ (by rw [sizeLine_eq]; simp)
    have fr := get_size_none s.heap
    have ro : RepO cx (s.heap.push (lstObj #[.int 0 u] 0)) s.heap.objs.size (.tape 0) := ⟨u, 0, Heap.get?_push_size _ rfl⟩
    exact .alloc (a := s.heap.objs.size) push_keeps fr (.obj _) ro t (alloc_use h (t.heap.fresh fr))
  | .dict ks vs p, F, kd, q, m, H, s, Q, X, fo, ok, t, h => by
    replace ok := (show (_ && _) = true from ok); simp only [Bool.and_eq_true, decide_eq_true_eq] at ok
    exact dict_ok ck.mods ok.1.1 ok.1.2 ok.2 t h
  | .call f es pf p, F, kd, q, m, H, s, Q, X, fo, ok, t, h => by
    replace ok := (show (_ && _) = true from ok); simp only [Bool.and_eq_true] at ok
    obtain ⟨⟨⟨⟨rfl, hg⟩, hf⟩, hes⟩, hnm⟩ := ok
    exact call_case ck fo t hg hf (by simpa using hnm) h fun t' h' => soundL es fo hes t' h'
  | .blt b es pf p, F, kd, q, m, H, s, Q, X, fo, ok, t, h => by
    replace ok := (show (_ && _) = true from ok); simp only [Bool.and_eq_true] at ok
    exact blt_case ck fo t (fo.quiet ok.1.1) ok.1.2 h fun t' h' => soundL es fo ok.2 t' h'
  | .isi e c pf p1 p2 p3 p, F, kd, q, m, H, s, Q, X, fo, ok, t, h => by
    replace ok := (show (_ && _) = true from ok); simp only [Bool.and_eq_true] at ok
    exact isi_case ck fo ok.1.1 ok.1.2 t (soundE e fo ok.2 t h)
  | .meth o k es pa p, F, kd, q, m, H, s, Q, X, fo, ok, t, h => by
    replace ok := (show (_ && _) = true from ok); simp only [Bool.and_eq_true, decide_eq_true_eq] at ok
    exact meth_case ok.1.1.2 ok.1.2 ok.2 (soundE o fo ok.1.1.1.1 t h) fun t' h' => soundL es fo ok.1.1.1.2 t' h'
  | .umeth o c k es pa p, F, kd, q, m, H, s, Q, X, fo, ok, t, h => by
    replace ok := (show (_ && _) = true from ok); simp only [Bool.and_eq_true, decide_eq_true_eq] at ok
    obtain ⟨⟨⟨⟨⟨⟨⟨ho, hes⟩, hl⟩, hn⟩, hb⟩, hf⟩, rfl⟩, hm⟩ := ok
    exact umeth_case ck fo hl hn hb hf hm (soundE o fo ho t h) fun t' h' => soundL es fo hes t' h'
  | .attr o k p, F, kd, q, m, H, s, Q, X, fo, ok, t, h => by
    replace ok := (show (_ && _) = true from ok); simp only [Bool.and_eq_true, decide_eq_true_eq] at ok
    exact attr_case ck ok.1.2 ok.2 (soundE o fo ok.1.1 t h)
  | .new es pf p, F, kd, q, m, H, s, Q, X, fo, ok, t, h => by
    replace ok := (show (_ && _) = true from ok); simp only [Bool.and_eq_true, decide_eq_true_eq] at ok
    obtain ⟨⟨⟨⟨rfl, hg⟩, hf⟩, hes⟩, hne⟩ := ok
    exact new_case ck fo t hg hf hne h fun t' h' => soundL es fo hes t' h'
  | .comp e x px it cs sc p, F, kd, q, m, H, s, Q, X, fo, ok, t, h => by
    replace ok := (show (_ && _) = true from ok); simp only [Bool.and_eq_true, decide_eq_true_eq] at ok
    obtain ⟨⟨⟨⟨⟨hit, hsc⟩, he⟩, hcs⟩, hlen⟩, rfl⟩ := ok
    refine comp_ok (aT := fun Q m H => awpC g cs Q (fun _ _ => False) m H) (aE := fun Q m H => awpE g e Q (fun _ _ => False) m H) fo hsc (soundE it fo hit t h) (fun {cl C m' H s Q} fo' t' h' => ?_) (fun {cl C m' H s Q} fo' t' h' => ?_) (folded_ok _ _ _)
    · exact soundC cs fo' hcs hlen t' h'
    · exact soundE e fo' he t' h'
theorem soundL : ∀ (es : AEs) {F : Fm} {kd : Kd} {q : Bool} {m : Loc} {H : AHeap} {s : Shared} {Q : List PV → AHeap → Prop} {X : XPost}, Fok cx n q kd F → okEs fl F.nm q F.vis kd es = true → St cx F m H s.heap → awpL g es Q X m H →
    Ev (RepLs cx es.len) cx F (spliced (semL F.nm F.env es)) m H s Q X
  | .nil, F, kd, q, m, H, s, Q, X, fo, ok, t, h => spliced_nil (.toks s.toks ⟨.nil, rfl⟩ t h)
  | .cons e es, F, kd, q, m, H, s, Q, X, fo, ok, t, h => by
    replace ok := (show (_ && _) = true from ok); simp only [Bool.and_eq_true] at ok
    refine spliced_cons (wpAny_mono (soundE e fo ok.1 t h) (fun v s₁ h₁ => ?_) fun _ _ x => x)
    obtain ⟨pv, H₁, rv, t₁, k₁, h₁⟩ := h₁
    refine wpAny_mono (soundL es fo ok.2 t₁ h₁) (fun vs s₂ h₂ => ?_) fun _ _ x => x.older k₁
    obtain ⟨ps, H₂, rs, t₂, k₂, h₂⟩ := h₂
    exact ⟨pv :: ps, H₂, ⟨.cons (rv.mono (k₂.solid0 t₁.heap)) rs.1, by simp [AEs.len, rs.2]⟩, t₂, k₁.trans k₂, h₂⟩
theorem soundV : ∀ (o : BoolOp) (p : Pos) (es : AEs) {F : Fm} {kd : Kd} {q : Bool} {m : Loc} {H : AHeap} {s : Shared} {Q : Post} {X : XPost}, Fok cx n q kd F → okEs fl F.nm q F.vis kd es = true → St cx F m H s.heap → awpV g o es Q X m H →
    Ev (Rep cx) cx F (boolOp p o (evalEachL F.nm F.env es)) m H s Q X
  | _, _, .nil, _, _, _, _, _, _, _, _, _, _, _, h => False.elim h
  | o, p, .cons e .nil, F, kd, q, m, H, s, Q, X, fo, ok, t, h => by
    replace ok := (show (_ && _) = true from ok); simp only [Bool.and_eq_true] at ok
    exact soundE e fo ok.1 t h
  | o, p, .cons e (.cons e' es), F, kd, q, m, H, s, Q, X, fo, ok, t, h => by
    replace ok := (show (_ && _) = true from ok); simp only [Bool.and_eq_true] at ok
    have ok' : okEs fl F.nm q F.vis kd (.cons e' es) = true := ok.2
    refine Ev.two (soundE e fo ok.1 t h) (fun a pa s₁ H₁ ra t₁ _ h₁ => ?_) t
    unfold truthW at h₁
    split at h₁
    · rename_i b
      cases ra
      refine Ev.stand (wpAny_bind (wpAny_holding (wpAny_truthy_bool ?_)))
      cases o <;> cases b
      · exact Ev.pure (.bool _) t₁ h₁
      · exact soundV .And p (.cons e' es) fo ok' t₁ h₁
      · exact soundV .Or p (.cons e' es) fo ok' t₁ h₁
      · exact Ev.pure (.bool _) t₁ h₁
    · exact h₁.elim
theorem soundB : ∀ (e : AE) {F : Fm} {kd : Kd} {q : Bool} {m : Loc} {H : AHeap} {s : Shared} {Q : BPost} {X : XPost}, Fok cx n q kd F → okE fl F.nm q F.vis kd e = true →
    (∀ {m : Loc} {H : AHeap} {s : Shared} {Q : Post} {X : XPost}, St cx F m H s.heap → awpE g e Q X m H → Ev (Rep cx) cx F (eval (e.toE F.nm) F.env) m H s Q X) → St cx F m H s.heap → awpB g e (awpE g e) Q X m H →
    Ev IsBB cx F (isTrue (e.toE F.nm) F.env (eval (e.toE F.nm) F.env)) m H s Q X
  | .not e p, F, kd, q, m, H, s, Q, X, fo, ok, hW, t, h => by
    refine Ev.bind (soundB e fo ok (fun t h => soundE e fo ok t h) t h) fun b b' s₁ H₁ rb t₁ k₁ h₁ => ?_
    have rb : b = b' := rb
    subst rb
    exact Ev.pure rfl t₁ h₁
  | .bop o es p, F, kd, q, m, H, s, Q, X, fo, ok, hW, t, h => soundBs o es fo ok t h
  | .cmp l o r p, F, kd, q, m, H, s, Q, X, fo, ok, hW, t, h => by
    replace ok := (show (_ && _) = true from ok); simp only [Bool.and_eq_true] at ok
    refine Ev.bind (soundE l fo ok.1 t h) fun a pa s₁ H₁ ra t₁ k₁ h₁ => ?_
    show Ev IsBB cx F (testChain p a [o] [markedBehindIn o (r.toE F.nm) (eval (r.toE F.nm) F.env)]) m H₁ s₁ Q X
    rw [marked_ok]
    refine Ev.bind (Ev.holding (soundE r fo ok.2 t₁ h₁)) fun b pb s₂ H₂ rb t₂ k₂ h₂ => ?_
    have hu := fo.units
    refine Ev.stand (Ev.bind (wpAny_operating (cmp_ok (by first | lia | omega) (ra.mono (k₂.solid0 t₁.heap)) rb t₂ h₂)) fun c c' s₃ H₃ rc t₃ k₃ h₃ => ?_)
    have rc : c = .bool c' := rc
    subst rc
    exact Ev.holding (wpAny_truthy_bool (.toks s₃.toks rfl t₃ h₃))
  | .lit c k p, F, kd, q, m, H, s, Q, X, fo, ok, hW, t, h => soundW _ (fun _ _ => (nomatch ·)) (fun _ _ _ => (nomatch ·)) (fun _ _ _ _ => (nomatch ·)) (hW t h)
  | .var i p, F, kd, q, m, H, s, Q, X, fo, ok, hW, t, h => soundW _ (fun _ _ => (nomatch ·)) (fun _ _ _ => (nomatch ·)) (fun _ _ _ _ => (nomatch ·)) (hW t h)
  | .glob x p, F, kd, q, m, H, s, Q, X, fo, ok, hW, t, h => soundW _ (fun _ _ => (nomatch ·)) (fun _ _ _ => (nomatch ·)) (fun _ _ _ _ => (nomatch ·)) (hW t h)
  | .bin l o r p, F, kd, q, m, H, s, Q, X, fo, ok, hW, t, h => soundW _ (fun _ _ => (nomatch ·)) (fun _ _ _ => (nomatch ·)) (fun _ _ _ _ => (nomatch ·)) (hW t h)
  | .neg e p, F, kd, q, m, H, s, Q, X, fo, ok, hW, t, h => soundW _ (fun _ _ => (nomatch ·)) (fun _ _ _ => (nomatch ·)) (fun _ _ _ _ => (nomatch ·)) (hW t h)
  | .sub e i p, F, kd, q, m, H, s, Q, X, fo, ok, hW, t, h => soundW _ (fun _ _ => (nomatch ·)) (fun _ _ _ => (nomatch ·)) (fun _ _ _ _ => (nomatch ·)) (hW t h)
  | .sfrom e i ps p, F, kd, q, m, H, s, Q, X, fo, ok, hW, t, h => soundW _ (fun _ _ => (nomatch ·)) (fun _ _ _ => (nomatch ·)) (fun _ _ _ _ => (nomatch ·)) (hW t h)
  | .sto e i ps p, F, kd, q, m, H, s, Q, X, fo, ok, hW, t, h => soundW _ (fun _ _ => (nomatch ·)) (fun _ _ _ => (nomatch ·)) (fun _ _ _ _ => (nomatch ·)) (hW t h)
  | .srev e c ps p cu, F, kd, q, m, H, s, Q, X, fo, ok, hW, t, h => soundW _ (fun _ _ => (nomatch ·)) (fun _ _ _ => (nomatch ·)) (fun _ _ _ _ => (nomatch ·)) (hW t h)
  | .tup es k p, F, kd, q, m, H, s, Q, X, fo, ok, hW, t, h => soundW _ (fun _ _ => (nomatch ·)) (fun _ _ _ => (nomatch ·)) (fun _ _ _ _ => (nomatch ·)) (hW t h)
  | .list es p, F, kd, q, m, H, s, Q, X, fo, ok, hW, t, h => soundW _ (fun _ _ => (nomatch ·)) (fun _ _ _ => (nomatch ·)) (fun _ _ _ _ => (nomatch ·)) (hW t h)
  | .tape pc p, F, kd, q, m, H, s, Q, X, fo, ok, hW, t, h => soundW _ (fun _ _ => (nomatch ·)) (fun _ _ _ => (nomatch ·)) (fun _ _ _ _ => (nomatch ·)) (hW t h)
  | .dict ks vs p, F, kd, q, m, H, s, Q, X, fo, ok, hW, t, h => soundW _ (fun _ _ => (nomatch ·)) (fun _ _ _ => (nomatch ·)) (fun _ _ _ _ => (nomatch ·)) (hW t h)
  | .call f es pf p, F, kd, q, m, H, s, Q, X, fo, ok, hW, t, h => soundW _ (fun _ _ => (nomatch ·)) (fun _ _ _ => (nomatch ·)) (fun _ _ _ _ => (nomatch ·)) (hW t h)
  | .blt b es pf p, F, kd, q, m, H, s, Q, X, fo, ok, hW, t, h => soundW _ (fun _ _ => (nomatch ·)) (fun _ _ _ => (nomatch ·)) (fun _ _ _ _ => (nomatch ·)) (hW t h)
  | .isi e c pf p1 p2 p3 p, F, kd, q, m, H, s, Q, X, fo, ok, hW, t, h => soundW _ (fun _ _ => (nomatch ·)) (fun _ _ _ => (nomatch ·)) (fun _ _ _ _ => (nomatch ·)) (hW t h)
  | .meth o k es pa p, F, kd, q, m, H, s, Q, X, fo, ok, hW, t, h => soundW _ (fun _ _ => (nomatch ·)) (fun _ _ _ => (nomatch ·)) (fun _ _ _ _ => (nomatch ·)) (hW t h)
  | .umeth o c k es pa p, F, kd, q, m, H, s, Q, X, fo, ok, hW, t, h => soundW _ (fun _ _ => (nomatch ·)) (fun _ _ _ => (nomatch ·)) (fun _ _ _ _ => (nomatch ·)) (hW t h)
  | .attr o k p, F, kd, q, m, H, s, Q, X, fo, ok, hW, t, h => soundW _ (fun _ _ => (nomatch ·)) (fun _ _ _ => (nomatch ·)) (fun _ _ _ _ => (nomatch ·)) (hW t h)
  | .new es pf p, F, kd, q, m, H, s, Q, X, fo, ok, hW, t, h => soundW _ (fun _ _ => (nomatch ·)) (fun _ _ _ => (nomatch ·)) (fun _ _ _ _ => (nomatch ·)) (hW t h)
  | .comp e x px it cs sc p, F, kd, q, m, H, s, Q, X, fo, ok, hW, t, h => soundW _ (fun _ _ => (nomatch ·)) (fun _ _ _ => (nomatch ·)) (fun _ _ _ _ => (nomatch ·)) (hW t h)
theorem soundBs : ∀ (o : BoolOp) (es : AEs) {F : Fm} {kd : Kd} {q : Bool} {m : Loc} {H : AHeap} {s : Shared} {Q : BPost} {X : XPost}, Fok cx n q kd F → okEs fl F.nm q F.vis kd es = true → St cx F m H s.heap → awpBs g o es Q X m H →
    Ev IsBB cx F (allTrue o (es.toEs F.nm) F.env) m H s Q X
  | o, .nil, F, kd, q, m, H, s, Q, X, fo, ok, t, h => Ev.pure rfl t h
  | o, .cons e es, F, kd, q, m, H, s, Q, X, fo, ok, t, h => by
    replace ok := (show (_ && _) = true from ok); simp only [Bool.and_eq_true] at ok
    refine Ev.bind (soundB e fo ok.1 (fun t h => soundE e fo ok.1 t h) t h) fun b b' s₁ H₁ rb t₁ k₁ h₁ => ?_
    have rb : b = b' := rb
    subst rb
    cases o <;> cases b
    · exact Ev.pure rfl t₁ h₁
    · exact soundBs .And es fo ok.2 t₁ h₁
    · exact soundBs .Or es fo ok.2 t₁ h₁
    · exact Ev.pure rfl t₁ h₁
theorem soundC : ∀ (cs : AEs) {F : Fm} {kd : Kd} {q : Bool} {m : Loc} {H : AHeap} {s : Shared} {Q : BPost} {X : XPost}, Fok cx n q kd F → okEs fl F.nm q F.vis kd cs = true → cs.len ≤ 1 → St cx F m H s.heap → awpC g cs Q X m H →
    Ev IsBB cx F (testsSem (cs.toEs F.nm) F.env) m H s Q X
  | .nil, F, kd, q, m, H, s, Q, X, fo, ok, hl, t, h => wpAny_tests_nil (.toks s.toks rfl t h)
  | .cons c .nil, F, kd, q, m, H, s, Q, X, fo, ok, hl, t, h => by
    replace ok := (show (_ && _) = true from ok); simp only [Bool.and_eq_true] at ok
    exact wpAny_tests_one (soundB c fo ok.1 (fun t h => soundE c fo ok.1 t h) t h)
  | .cons c (.cons d ds), F, kd, q, m, H, s, Q, X, fo, ok, hl, t, h => by simp [AEs.len] at hl
end
end
end Mine
end
section
open PySem PySem.Calls PyProof.Rows
namespace Mine
set_option autoImplicit false


/-- the error's own record and its traceback change, of frames the slots alone -/
structure Fly (F : Fm) (e : Addr) (P : Addr → Prop) (h h' : Heap) : Prop where
  oth : ∀ b o, h.get? b = some o → b ≠ e → ¬ P b → h'.get? b = some o ∨ ((∃ env ∈ F.fs, env.frame = some b) ∧ ∃ sl, h'.get? b = some { o with slots := sl })
  exc : ∀ o vs, h.get? e = some o → o.data = .fields vs → ∃ o' vs', h'.get? e = some o' ∧ (o'.cls = o.cls ∧ o'.dict = o.dict) ∧ o'.data = .fields vs'
  tb : ∀ b, P b → b ≠ e ∧ ∃ o ts, h.get? b = some o ∧ o.cls = .type "traceback" ∧ o.data = .fields ts

theorem dict_mapFields (f : Array Value → Array Value) (o : Obj) : (Obj.mapFields f o).dict = o.dict := by
  obtain ⟨c, d, dt, sl⟩ := o
  cases dt <;> rfl

section
variable {cx : Cx} {F : Fm} {m : Loc} {H H₁ : AHeap} {s s₁ : Shared} {e : Addr} {P : Addr → Prop}

theorem St.fly {h h' : Heap} (t : St cx F m H h) (f : Fly F e P h h') (he : ∃ o C vs, h.get? e = some o ∧ o.cls = .ref C ∧ o.dict = none ∧ o.data = .fields vs) (hB : cx.B.get? e = none) (hP : ∀ b, P b → cx.B.get? b = none) : St cx F m H h' := by
  obtain ⟨oe, C, vs, ge, hc, hy, hd⟩ := he
  obtain ⟨oe', vs', ge', hc', hd'⟩ := f.exc oe vs ge hd
  have nP : ∀ b o, h.get? b = some o → (∀ ts, o.data = .fields ts → o.dict ≠ none ∧ ∃ C, o.cls = .ref C) → b ≠ e ∧ ¬ P b := fun b o g n => ⟨by rintro rfl; rw [ge] at g; cases g; exact (n _ hd).1 hy, fun p => by
    obtain ⟨_, ob, ts, g', c, d⟩ := f.tb b p; rw [g] at g'; cases g'; obtain ⟨_, C, q⟩ := n _ d; rw [c] at q; cases q⟩
  have frame : ∀ b, (∃ env ∈ F.fs, env.frame = some b) → H b = none ∧ cx.B.get? b = none ∧ ∃ o es ep, h.get? b = some o ∧ o.data = .dict es ep := fun b ⟨env, hm, hf⟩ => by
    obtain ⟨_, L, o, es, ep, hf', hH, hb, ho, hd⟩ := t.frames env hm
    rw [hf] at hf'; cases hf'
    exact ⟨hH, hb, o, es, ep, ho, hd⟩
  have notF : ∀ b o, h.get? b = some o → (∀ es ep, o.data ≠ .dict es ep) → ¬ ∃ env ∈ F.fs, env.frame = some b := fun b o g n q => by
    obtain ⟨_, _, o', es, ep, g', d⟩ := frame b q; rw [g] at g'; cases g'; exact n _ _ d
  have so : ∀ b o, h.get? b = some o → Solid o → h'.get? b = some o ∨ ((∃ C, o.cls = .ref C) ∧ ∃ o' vs', h'.get? b = some o' ∧ (o'.cls = o.cls ∧ o'.dict = o.dict) ∧ o'.data = .fields vs') := fun b o g sl => by
    by_cases q : b = e
    · subst q; rw [ge] at g; cases g; exact .inr ⟨⟨C, hc⟩, oe', vs', ge', hc', hd'⟩
    · by_cases p : P b
      · obtain ⟨_, ob, ts, g', c', d⟩ := f.tb b p
        rw [g] at g'; cases g'
        exact absurd sl (notSolid_of c' (by decide) d)
      · exact .inl ((f.oth b o g q p).resolve_right fun x => notF b o g sl.notLoc.1 x.1)
  have keepA : ∀ b o, H b = some o → ∀ ob, h.get? b = some ob → h'.get? b = some ob := fun b o hb ob g => by
    obtain ⟨ob', g', ns, nf⟩ := (t.heap b o hb).get
    rw [g] at g'; cases g'
    obtain ⟨n1, n2⟩ := nP b ob g nf
    exact (f.oth b ob g n1 n2).resolve_right fun x => by have := (frame b x.1).1; rw [hb] at this; cases this
  have upto : ∀ b o, h.get? b = some o → (∀ ts, o.data ≠ .fields ts) → ∃ sl, h'.get? b = some { o with slots := sl } := fun b o g n => by
    obtain ⟨n1, n2⟩ := nP b o g fun ts q => absurd q (n ts)
    rcases f.oth b o g n1 n2 with g' | ⟨_, sl, g'⟩
    · exact ⟨o.slots, g'⟩
    · exact ⟨sl, g'⟩
  refine ⟨fun b o g => ?_, t.off, fun a o ha => ?_, fun env hm => ?_, t.own, ?_, fun n c hc' => ?_⟩
  · have g1 := t.base b o g
    refine (f.oth b o g1 (by rintro rfl; rw [hB] at g; cases g) (fun p => by rw [hP b p] at g; cases g)).resolve_right fun x => ?_
    have := (frame b x.1).2.1; rw [g] at this; cases this
  · have r := t.heap a o ha
    cases o with
    | list xs => obtain ⟨items, n, e, r, l⟩ := r; exact ⟨items, n, keepA _ _ ha _ e, r.mono' so, l⟩
    | tape k => obtain ⟨t, n, e⟩ := r; exact ⟨t, n, keepA _ _ ha _ e⟩
    | dict kvs => obtain ⟨vs, d, r, l⟩ := r; exact ⟨vs, (let ⟨o, es, ep, ho, y⟩ := d; ⟨o, es, ep, keepA _ _ ha _ ho, y⟩), r.mono' so, l⟩
    | inst d => obtain ⟨C, o, x, e, y⟩ := r; exact ⟨C, o, x, keepA _ _ ha _ e, y⟩
    | attrs kvs => obtain ⟨m, n1, ed, f, n, l⟩ := r; exact ⟨m, (let ⟨o, es, ep, e, y⟩ := n1; ⟨o, es, ep, keepA _ _ ha _ e, y⟩), (let ⟨od, e, y⟩ := ed; ⟨od, keepA _ _ ha _ e, y⟩), fun x p e => let ⟨v, a, b⟩ := f x p e; ⟨v, a, b.mono' so⟩, n, l⟩
  · obtain ⟨hk, L, o, es, ep, hf, hH, hb, ho, hd⟩ := t.frames env hm
    obtain ⟨sl, g'⟩ := upto L o ho (fun ts q => by rw [hd] at q; cases q)
    exact ⟨hk, L, _, es, ep, hf, hH, hb, g', hd⟩
  · obtain ⟨o, es, ep, mc, ho, hd, ⟨o1, es1, ep1, ho1, hd1, hk1, hm1⟩, hv⟩ := t.vars
    rw [ho] at ho1; cases ho1
    obtain ⟨sl, g'⟩ := upto _ o ho (fun ts q => by rw [hd] at q; cases q)
    exact ⟨_, es, ep, mc, g', hd, ⟨_, es1, ep1, g', hd1, hk1, hm1⟩, fun i v h1 h2 h3 => let ⟨x, q, r⟩ := hv i v h1 h2 h3; ⟨x, q, r.mono' so⟩⟩
  · obtain ⟨h1, h2, o, x, ho, hd, hv⟩ := t.cells n c hc'
    have n0 : ∀ ts, o.data ≠ .fields ts := fun ts q => by rw [hd] at q; cases q
    obtain ⟨n1, n2⟩ := nP c o ho fun ts q => absurd q (n0 ts)
    have g' := (f.oth c o ho n1 n2).resolve_right fun x => notF c o ho (fun _ _ q => by rw [hd] at q; cases q) x.1
    exact ⟨h1, h2, o, x, g', hd, fun i v a b c d => let ⟨y, q, r⟩ := hv i v a b c d; ⟨y, q, r.mono' so⟩⟩

theorem Kp.fly {S : List Addr} {h' : Heap} (k : Kp cx S H s H₁ s₁) (t : St cx F m H₁ s₁.heap) (f : Fly F e P s₁.heap h') (fe : s.heap.get? e = none) (fP : ∀ b, P b → s.heap.get? b = none) (hB : cx.B.get? e = none) (hP : ∀ b, P b → cx.B.get? b = none) :
    Kp cx S H s H₁ { s₁ with heap := h' } := by
  have frame : ∀ b, (∃ env ∈ F.fs, env.frame = some b) → cx.B.get? b = none ∧ ∃ o es ep, s₁.heap.get? b = some o ∧ o.data = .dict es ep := fun b ⟨env, hm, hf⟩ => by
    obtain ⟨_, L, o, es, ep, hf', hH, hb, ho, hd⟩ := t.frames env hm
    rw [hf] at hf'; cases hf'
    exact ⟨hb, o, es, ep, ho, hd⟩
  have step : ∀ b o, s.heap.get? b = some o → ∀ o₁, s₁.heap.get? b = some o₁ → ∃ o', h'.get? b = some o' ∧ SameO o₁ o' := fun b o g o₁ g₁ => by
    rcases f.oth b o₁ g₁ (by rintro rfl; rw [fe] at g; cases g) (fun p => by rw [fP b p] at g; cases g) with g' | ⟨fr, sl, g'⟩
    · exact ⟨o₁, g', .refl _⟩
    · obtain ⟨_, o2, es, ep, g2, d⟩ := frame b fr
      rw [g₁] at g2; cases g2
      exact ⟨_, g', .inr ⟨⟨es, ep, d⟩, sl, rfl⟩⟩
  refine ⟨?_, fun b o g nS hn => ?_, fun b o g => ?_, fun b o gB g => ?_⟩
  · obtain ⟨h, tk, e⟩ := k.same; exact ⟨h', tk, by rw [e]⟩
  · obtain ⟨h1, o₁, g₁, sm⟩ := k.keep b o g nS hn
    obtain ⟨o', g', sm'⟩ := step b o g o₁ g₁
    exact ⟨h1, o', g', sm.trans sm'⟩
  · obtain ⟨o₁, g₁⟩ := k.alive b o g
    obtain ⟨o', g', _⟩ := step b o g o₁ g₁
    exact ⟨o', g'⟩
  · have g₁ := k.base b o gB g
    refine (f.oth b o g₁ (by rintro rfl; rw [hB] at gB; cases gB) (fun p => by rw [hP b p] at gB; cases gB)).resolve_right fun x => ?_
    have := (frame b x.1).1; rw [gB] at this; cases this

/-- an error in flight, its traceback's top entry standing in the frame -/
inductive ExcAt (cx : Cx) (h₀ h : Heap) (e : Addr) (c : Nat) (v3 : Value) : Prop
  | mk (n : h₀.get? e = none) (oe : Obj) (vs : Array Value) (C : Addr) (a0 : Value) (g : h.get? e = some oe) (k : oe.cls = .ref C) (x : cx.cls c = some C ∧ oe.dict = none) (d : oe.data = .fields vs) (z : vs[0]? = some a0)
    (T : Addr) (oT : Obj) (ts : Array Value) (b1 : vs[1]? = some (.ref T)) (b2 : h₀.get? T = none) (b3 : T ≠ e) (b4 : h.get? T = some oT) (b5 : oT.cls = .type "traceback") (b6 : oT.data = .fields ts) (b7 : ts[3]? = some v3) : ExcAt cx h₀ h e c v3
abbrev ExcIn (cx : Cx) (L : Addr) (h₀ h : Heap) (e : Addr) (c : Nat) : Prop := ExcAt cx h₀ h e c (rawInt L)
theorem ExcIn.exc {L : Addr} {h₀ h : Heap} {c : Nat} (x : ExcIn cx L h₀ h e c) : Exc cx (some L) h₀ h e c := by
  obtain ⟨a, oe, vs, C, a0, b, c, d, f, g, T, oT, ts, h1, h2, h3, h4, h5, h6, h7⟩ := x
  exact ⟨a, oe, vs, C, a0, b, c, d, f, g, .inr ⟨T, oT, ts, h1, h2, h3, h4, h5, h6, .inr ⟨L, rfl, h7⟩⟩⟩

theorem funFrames_of {h : Heap} (hh : ∀ env ∈ F.fs, FrAt cx H h env) : ∀ l : List Env, (∀ env ∈ l, env ∈ F.fs) → h.FunFrames cx.B l
  | [], _ => trivial
  | env :: r, hl => by
    obtain ⟨hk, L, o, es, ep, hf, _, hb, ho, hd⟩ := hh env (hl env List.mem_cons_self)
    exact ⟨hk, ⟨L, o, hf, hb, ho, fun vs q => by rw [hd] at q; cases q⟩, funFrames_of hh r fun x hx => hl x (List.mem_cons_of_mem _ hx)⟩

theorem entry_own {A : Around} {outer : List Env} {L : Addr} {oe : Obj} {vs : Array Value} {head : Value} {hadNext : Bool} {Q : Unit → Shared → Prop} {E : Value → Shared → Prop}
    (hfr : A.frames = some F.fs) (hfs : F.fs = F.env :: outer) (t : St cx F m H s.heap) (hf : F.env.frame = some L) (he : s.heap.get? e = some oe) (hd : oe.data = .fields vs) (hsz : 1 < vs.size)
    (h : ∀ h' T oT ts oe' vs', (∀ b o, s.heap.get? b = some o → b ≠ e → h'.get? b = some o ∨ ((∃ env ∈ F.fs, env.frame = some b) ∧ ∃ sl, h'.get? b = some { o with slots := sl })) → s.heap.get? T = none → T ≠ e →
      h'.get? e = some oe' → (oe'.cls = oe.cls ∧ oe'.dict = oe.dict) → oe'.data = .fields vs' → vs'[0]? = vs[0]? → vs'[1]? = some (.ref T) → h'.get? T = some oT → oT.cls = .type "traceback" → oT.data = .fields ts → ts[3]? = some (rawInt L) → Q () { s with heap := h' }) :
    wpAny cx.M A (do let a ← frameOf F.env; let pl ← entryPlaceOf L hadNext; let b ← EntryCells.newEntry head a .none (rawInt L) .none pl; setField (.ref e) 1 b) Q E s := by
  have hl : s.heap.FunFrames cx.B (F.env :: outer) := funFrames_of t.frames _ fun env hm => hfs ▸ hm
  have hene : e ∉ (F.env :: outer).filterMap (·.frame) := fun hm => by
    obtain ⟨_, o, ho, hnf⟩ := hl.mem hm
    rw [he] at ho; injection ho with ho; subst ho; exact hnf vs hd
  refine wpAny_bind (wpAny_frameOf_fun (by rw [hfr, hfs]) hl hf fun h₁ hs₁ => ?_)
  refine wpAny_bind (wpAny_entryPlaceOf fun pl hpl => ?_)
  unfold EntryCells.newEntry newFields
  refine wpAny_bind (wpAny_newObj_type ?_ (hpl.sizeOk5 _ _ _ _ _))
  have he₁ : h₁.get? e = some oe := (hs₁.2.1 e hene).trans he
  have he₂ := Heap.get?_push_of_some (h := h₁) { cls := .type "traceback", dict := none, data := .fields ([head, .ref L, .none, rawInt L, .none] ++ (if pl.isEmpty then List.replicate 6 Value.none else pl)).toArray } he₁
  have hTe : h₁.objs.size ≠ e := Nat.ne_of_gt (Heap.lt_size he₁)
  have hd₃ := Obj.data_mapFields hd (·.setIfInBounds 1 (Value.ref h₁.objs.size))
  have he₃ := Heap.get?_update_self (Obj.mapFields (·.setIfInBounds 1 (Value.ref h₁.objs.size))) he₂ (Obj.isFreed_of_fields hd₃)
  have hT₃ := (Heap.get?_update_other (h₁.push { cls := .type "traceback", dict := none, data := .fields ([head, .ref L, .none, rawInt L, .none] ++ (if pl.isEmpty then List.replicate 6 Value.none else pl)).toArray })
    (Obj.mapFields (·.setIfInBounds 1 (Value.ref h₁.objs.size))) (Ne.symm hTe)).trans (Heap.get?_push_size h₁ rfl)
  refine wpAny_setField he₂ hd hsz (h _ h₁.objs.size _ _ _ _ (fun b o g n => ?_) ?_ hTe he₃ ⟨Obj.cls_mapFields _ _, dict_mapFields _ _⟩ hd₃ ?_ ?_ hT₃ rfl rfl ?_)
  · by_cases hm : b ∈ (F.env :: outer).filterMap (·.frame)
    · right
      obtain ⟨env, h1, h2⟩ := List.mem_filterMap.mp hm
      refine ⟨⟨env, hfs ▸ h1, h2⟩, ?_⟩
      obtain ⟨sl, g'⟩ := hs₁.2.2 b o g
      exact ⟨sl, by rw [Heap.get?_update_other _ _ (Ne.symm n)]; exact Heap.get?_push_of_some _ g'⟩
    · left
      rw [Heap.get?_update_other _ _ (Ne.symm n)]; exact Heap.get?_push_of_some _ ((hs₁.2.1 b hm).trans g)
  · cases q : s.heap.get? h₁.objs.size with
    | none => rfl
    | some o => have := Heap.lt_size q; rw [hs₁.1] at this; exact absurd this (Nat.lt_irrefl _)
  · rw [Array.getElem?_setIfInBounds_ne (by decide)]
  · simp [hsz]
  · first | (simp; done) | (rcases hpl with rfl | ⟨_, _, _, _, _, _, _, rfl⟩ <;> simp)

theorem note_ok {S : List Addr} {outer : List Env} {L : Addr} {c : Nat} {Q : Unit → Shared → Prop} {E : Value → Shared → Prop} {A : Around} (hfr : A.frames = some F.fs) (hfs : F.fs = F.env :: outer) (hf : F.env.frame = some L) (t : St cx F m H₁ s₁.heap) (k : Kp cx S H s H₁ s₁)
    (t₀ : cx.B.StaysIn s.heap) (x : Exc cx F.env.frame s.heap s₁.heap e c) (hQ : ∀ s₂, St cx F m H₁ s₂.heap → Kp cx S H s H₁ s₂ → ExcIn cx L s.heap s₂.heap e c → Q () s₂) : wpAny cx.M A (noteFrame (.ref e) F.env) Q E s₁ := by
  obtain ⟨fe, oe, vs, C, a0, ge, hc, hC, hd, h0, hx⟩ := x
  have hBn : ∀ b, s.heap.get? b = none → cx.B.get? b = none := fun b f => by
    cases q : cx.B.get? b with
    | none => rfl
    | some o => rw [t₀ _ _ q] at f; cases f
  have he : ∃ o C vs, s₁.heap.get? e = some o ∧ o.cls = .ref C ∧ o.dict = none ∧ o.data = .fields vs := ⟨oe, C, vs, ge, hc, hC.2, hd⟩
  unfold noteFrame
  simp only [hf]
  rcases hx with h1 | ⟨T, oT, ts, h1, fT, hTe, gT, cT, dT, h3⟩
  · refine wpAny_bind (wpAny_field ge hd h1 ?_)
    rw [if_neg (by decide)]
    refine entry_own hfr hfs t hf ge hd (Array.getElem?_eq_some_iff.mp h1).1 fun h' T oT ts oe' vs' oth fT hTe ge' ce' de' h0' h1' gT' cT dT h3 => ?_
    have f : Fly F e (fun _ => False) s₁.heap h' := ⟨fun b o g n _ => oth b o g n, fun o vs g d => by rw [ge] at g; cases g; exact ⟨oe', vs', ge', ce', de'⟩, fun _ q => q.elim⟩
    have fT0 : s.heap.get? T = none := by
      cases q : s.heap.get? T with
      | none => rfl
      | some o => obtain ⟨o', e'⟩ := k.alive T o q; rw [fT] at e'; cases e'
    exact hQ { s₁ with heap := h' } (t.fly f he (hBn _ fe) fun _ q => q.elim) (k.fly t f fe (fun _ q => q.elim) (hBn _ fe) fun _ q => q.elim)
      ⟨fe, oe', vs', C, a0, ge', ce'.1.trans hc, ⟨hC.1, ce'.2.trans hC.2⟩, de', h0'.trans h0, T, oT, ts, h1', fT0, hTe, gT', cT, dT, h3⟩
  · refine wpAny_bind (wpAny_field ge hd h1 ?_)
    rw [if_pos (show (Value.ref T != Value.none) = true from by simp)]
    rcases h3 with h3 | ⟨L', hL', h3⟩
    · refine wpAny_bind (wpAny_field gT dT h3 ?_)
      rw [if_neg (show ¬ ((Value.none == rawInt L) = true) from by simp [rawInt])]
      refine wpAny_bind (wpAny_setField gT dT (Array.getElem?_eq_some_iff.mp h3).1 ?_)
      have dT' := Obj.data_mapFields dT (·.setIfInBounds 3 Value.none)
      have gT' := Heap.get?_update_self (Obj.mapFields (·.setIfInBounds 3 Value.none)) gT (Obj.isFreed_of_fields dT')
      have f : Fly F e (fun b => b = T) s₁.heap (s₁.heap.update T (Obj.mapFields (·.setIfInBounds 3 Value.none))) :=
        ⟨fun b o g n q => .inl (upd_keeps b o q g), fun o vs' g d => ⟨o, vs', upd_keeps e o (Ne.symm hTe) g, ⟨rfl, rfl⟩, d⟩, fun b q => by subst q; exact ⟨hTe, oT, ts, gT, cT, dT⟩⟩
      have t₂ := t.fly f he (hBn _ fe) fun b q => by subst q; exact hBn _ fT
      have k₂ := k.fly t f fe (fun b q => by subst q; exact fT) (hBn _ fe) fun b q => by subst q; exact hBn _ fT
      have ge₂ := upd_keeps (f := Obj.mapFields (·.setIfInBounds 3 Value.none)) e oe (Ne.symm hTe) ge
      refine entry_own (s := { s₁ with heap := s₁.heap.update T (Obj.mapFields (·.setIfInBounds 3 Value.none)) }) hfr hfs t₂ hf ge₂ hd (Array.getElem?_eq_some_iff.mp h1).1 fun h' T₂ oT₂ ts₂ oe' vs' oth fT₂ hTe₂ ge' ce' de' h0' h1' gT₂ cT₂ dT₂ h3₂ => ?_
      have f₂ : Fly F e (fun _ => False) (s₁.heap.update T (Obj.mapFields (·.setIfInBounds 3 Value.none))) h' := ⟨fun b o g n _ => oth b o g n, fun o vs g d => by rw [ge₂] at g; cases g; exact ⟨oe', vs', ge', ce', de'⟩, fun _ q => q.elim⟩
      have fT0 : s.heap.get? T₂ = none := by
        cases q : s.heap.get? T₂ with
        | none => rfl
        | some o => obtain ⟨o', e'⟩ := k₂.alive T₂ o q; rw [fT₂] at e'; cases e'
      exact hQ { s₁ with heap := h' } (t₂.fly f₂ ⟨oe, C, vs, ge₂, hc, hC.2, hd⟩ (hBn _ fe) fun _ q => q.elim) (k₂.fly (s₁ := { s₁ with heap := s₁.heap.update T (Obj.mapFields (·.setIfInBounds 3 Value.none)) }) t₂ f₂ fe (fun _ q => q.elim) (hBn _ fe) fun _ q => q.elim)
        ⟨fe, oe', vs', C, a0, ge', ce'.1.trans hc, ⟨hC.1, ce'.2.trans hC.2⟩, de', h0'.trans h0, T₂, oT₂, ts₂, h1', fT0, hTe₂, gT₂, cT₂, dT₂, h3₂⟩
    · rw [hf] at hL'; cases hL'
      refine wpAny_bind (wpAny_field gT dT h3 ?_)
      rw [if_pos (show (rawInt L == rawInt L) = true from by simp)]
      exact wpAny_pure (hQ s₁ t k ⟨fe, oe, vs, C, a0, ge, hc, hC, hd, h0, T, oT, ts, h1, fT, hTe, gT, cT, dT, h3⟩)

/-- the flight ends: the record lies still -/
abbrev ExcOut (cx : Cx) (h₀ h : Heap) (e : Addr) (c : Nat) : Prop := ExcAt cx h₀ h e c .none
theorem ExcOut.exc {fr : Option Addr} {h₀ h : Heap} {c : Nat} (x : ExcOut cx h₀ h e c) : Exc cx fr h₀ h e c := by
  obtain ⟨a, oe, vs, C, a0, b, c, d, f, g, T, oT, ts, h1, h2, h3, h4, h5, h6, h7⟩ := x
  exact ⟨a, oe, vs, C, a0, b, c, d, f, g, .inr ⟨T, oT, ts, h1, h2, h3, h4, h5, h6, .inl h7⟩⟩
theorem ExcOut.rep {h₀ h : Heap} {c : Nat} (x : ExcOut cx h₀ h e c) : Rep cx h (.ref e) (.exc c) := by
  obtain ⟨a, oe, vs, C, a0, b, c, d, f, _⟩ := x
  exact .exc b c f d.1 d.2

theorem unflight_ok {S : List Addr} {c : Nat} {Q : Unit → Shared → Prop} {E : Value → Shared → Prop} {A : Around} {v3 : Value} (t : St cx F m H₁ s₁.heap) (k : Kp cx S H s H₁ s₁) (t₀ : cx.B.StaysIn s.heap)
    (x : ExcAt cx s.heap s₁.heap e c v3)
    (hQ : ∀ s₂, St cx F m H₁ s₂.heap → Kp cx S H s H₁ s₂ → ExcOut cx s.heap s₂.heap e c → Q () s₂) : wpAny cx.M A (setFlight (.ref e) none) Q E s₁ := by
  obtain ⟨fe, oe, vs, C, a0, ge, hc, hC, hd, h0, T, oT, ts, h1, fT, hTe, gT, cT, dT, h3⟩ := x
  have hBn : ∀ b, s.heap.get? b = none → cx.B.get? b = none := fun b f => by
    cases q : cx.B.get? b with
    | none => rfl
    | some o => rw [t₀ _ _ q] at f; cases f
  have hsz := (Array.getElem?_eq_some_iff.mp h3).1
  refine wpAny_setFlight_none ge hd h1 gT dT hsz ?_
  have dT' := Obj.data_mapFields dT (·.setIfInBounds 3 Value.none)
  have gT' := Heap.get?_update_self (Obj.mapFields (·.setIfInBounds 3 Value.none)) gT (Obj.isFreed_of_fields dT')
  have f : Fly F e (fun b => b = T) s₁.heap (s₁.heap.update T (Obj.mapFields (·.setIfInBounds 3 Value.none))) :=
    ⟨fun b o g n q => .inl (upd_keeps b o q g), fun o vs' g d => ⟨o, vs', upd_keeps e o (Ne.symm hTe) g, ⟨rfl, rfl⟩, d⟩, fun b q => by subst q; exact ⟨hTe, oT, ts, gT, cT, dT⟩⟩
  have t₂ := t.fly f ⟨oe, C, vs, ge, hc, hC.2, hd⟩ (hBn _ fe) fun b q => by subst q; exact hBn _ fT
  have k₂ := k.fly t f fe (fun b q => by subst q; exact fT) (hBn _ fe) fun b q => by subst q; exact hBn _ fT
  exact hQ { s₁ with heap := _ } t₂ k₂ ⟨fe, oe, vs, C, a0, upd_keeps e oe (Ne.symm hTe) ge, hc, hC, hd, h0, T, _, _, h1, fT, hTe, gT', (Obj.cls_mapFields _ _).trans cT, dT', by simp [hsz]⟩
end
end Mine
end
section
open PySem PySem.Calls PyProof.Rows
namespace Mine
set_option autoImplicit false

noncomputable def plc (F : Fm) : List Addr := F.env.locals :: F.env.cells.filterMap fun p => F.env.cells.lookup p.1
theorem mem_plc_cell {F : Fm} {x : Str} {c : Addr} (h : F.env.cells.lookup x = some c) : c ∈ plc F := List.mem_cons_of_mem _ (List.mem_filterMap.mpr ⟨(x, c), mem_of_lookup h, h⟩)

section
variable {cx : Cx} {F : Fm} {m : Loc} {H H₁ : AHeap} {s s₁ : Shared} {kd : Kd} {n : Nat} {q : Bool}

theorem St.setCell {h h' : Heap} {x : Nat} {v : Value} {p : PV} {c : Addr} (t : St cx F m H h) (fo : Fok cx n q kd F) (vx : F.vis x = true) (kl : F.env.kindOf (slot F.nm x) ≠ some .local)
    (hc : F.env.cells.lookup (slot F.nm x) = some c) (hc' : h'.IsCell c (some v)) (sb : Heap.SameBut c h h') (rv : Rep cx h v p) : St cx F (m.set x (some p)) H h' := by
  obtain ⟨hHc, hBc, oc, y, goc, dc, _⟩ := t.cells _ c hc
  have ns1 : ∀ o, h.get? c = some o → ¬ Solid o := fun o' e => by rw [goc] at e; cases e; exact notSolid_cell dc
  have k : ∀ b o, b ≠ c → h.get? b = some o → h'.get? b = some o := fun b o n e => by rw [sb.2 b n]; exact e
  have so : ∀ b o, h.get? b = some o → Solid o → h'.get? b = some o := fun b o e s => k b o (by rintro rfl; exact ns1 o e s) e
  have nd : ∀ b o es ep, h.get? b = some o → o.data = .dict es ep → b ≠ c := fun b o es ep e q => by rintro rfl; rw [goc] at e; cases e; rw [dc] at q; cases q
  refine ⟨fun b o e => k b o (by rintro rfl; rw [hBc] at e; cases e) (t.base b o e), t.off, t.heap.keepBut hHc k ns1, fun env he => ?_, t.own, ?_, fun nn c₂ hc₂ => ?_⟩
  · obtain ⟨hk, L, o, es, ep, hf, hH, hb, ho, hd'⟩ := t.frames env he
    exact ⟨hk, L, o, es, ep, hf, hH, hb, k L o (nd L o es ep ho hd') ho, hd'⟩
  · obtain ⟨o, es, ep, mc, ho, hd', ns, hv⟩ := t.vars
    have n := nd _ o es ep ho hd'
    refine ⟨o, es, ep, mc, k _ o n ho, hd', ns.at fun o e => k _ o n e, fun i w h1 h2 h3 => ?_⟩
    rcases Loc.get_set h3 with ⟨rfl, rfl⟩ | ⟨_, h3⟩
    · exact absurd h2 kl
    · obtain ⟨x, q, r⟩ := hv i w h1 h2 h3; exact ⟨x, q, r.mono so⟩
  · obtain ⟨h1, h2, o, w, ho, hd', hv⟩ := t.cells nn c₂ hc₂
    by_cases qc : c₂ = c
    · subst qc
      have e1 : nn = slot F.nm x := fo.apart _ _ _ hc₂ hc
      subst e1
      obtain ⟨o', go', do'⟩ := hc'
      refine ⟨h1, h2, o', some v, go', do', fun i w a b _ d => ?_⟩
      have : i = x := fo.inj i x a vx b
      subst this
      rcases Loc.get_set d with ⟨_, rfl⟩ | ⟨ne, _⟩
      · exact ⟨v, rfl, rv.mono so⟩
      · exact absurd rfl ne
    · refine ⟨h1, h2, o, w, k c₂ o qc ho, hd', fun i w' a b c' d => ?_⟩
      rcases Loc.get_set d with ⟨rfl, rfl⟩ | ⟨_, d⟩
      · subst b; rw [hc] at hc₂; cases hc₂; exact absurd rfl qc
      · obtain ⟨z, q, r⟩ := hv i w' a b c' d; exact ⟨z, q, r.mono so⟩

theorem Kp.one {h' : Heap} {tk : Nat} {a : Addr} (ha : a ∈ plc F) (hB : cx.B.get? a = none) (ga : ∃ o, h'.get? a = some o) (k : ∀ b o, b ≠ a → s.heap.get? b = some o → h'.get? b = some o) : Kp cx (plc F) H s H { s with heap := h', toks := tk } := by
  refine ⟨⟨h', tk, rfl⟩, fun b o e nS hn => ⟨hn, o, k b o (by rintro rfl; exact nS ha) e, .refl _⟩, fun b o e => ?_, fun b o eB e => k b o (by rintro rfl; rw [hB] at eB; cases eB) e⟩
  by_cases q : b = a
  · subst q; exact ga
  · exact ⟨o, k b o q e⟩

theorem store_name {x : Nat} {v : Value} {p : PV} {QQ : Unit → Shared → Prop} {E : Value → Shared → Prop} {A : Around} (fo : Fok cx n q kd F) (vx : F.vis x = true) (hk : kd (slot F.nm x) = some .local ∨ kd (slot F.nm x) = some .cell) (t : St cx F m H s.heap) (rv : Rep cx s.heap v p)
    (hQ : ∀ s', St cx F (m.set x (some p)) H s'.heap → Kp cx (plc F) H s H s' → (∀ b o, s.heap.get? b = some o → Solid o → s'.heap.get? b = some o) → QQ () s') : wpAny cx.M A (storeName F.env (slot F.nm x) v) QQ E s := by
  rcases hk with hk | hk
  · have hl : F.env.kindOf (slot F.nm x) = some .local := by rw [fo.kdo]; exact hk
    obtain ⟨o, es, ep, mc, ho, hd, ns, _⟩ := t.vars
    refine wpAny_storeName_local hl ns (fun h' ns' sb => ?_) (by rw [fo.kind]; rfl)
    have kk : ∀ b o, b ≠ F.env.locals → s.heap.get? b = some o → h'.get? b = some o := fun b o n e => by rw [sb.2 b n]; exact e
    refine hQ _ (t.setLocal fo.inj vx hl ns ns' rfl sb rv) (Kp.one (List.mem_cons_self ..) t.own.2 (let ⟨o, _, _, g, _⟩ := ns'; ⟨o, g⟩) kk) fun b o e so => kk b o ?_ e
    rintro rfl; rw [ho] at e; cases e; exact notSolid_dict hd so
  · have hl : F.env.kindOf (slot F.nm x) = some .cell := by rw [fo.kdo]; exact hk
    obtain ⟨c, hc⟩ := fo.cells _ (.inl hk)
    obtain ⟨hHc, hBc, oc, y, goc, dc, _⟩ := t.cells _ c hc
    refine wpAny_storeName_cell fo.kind hl hc ⟨oc, goc, dc⟩ fun h' hc' sb => ?_
    have kk : ∀ b o, b ≠ c → s.heap.get? b = some o → h'.get? b = some o := fun b o n e => by rw [sb.2 b n]; exact e
    refine hQ _ (t.setCell fo vx (by rw [hl]; decide) hc hc' sb rv) (Kp.one (tk := s.toks) (mem_plc_cell hc) hBc (let ⟨o, g, _⟩ := hc'; ⟨o, g⟩) kk) fun b o e so => kk b o ?_ e
    rintro rfl; rw [goc] at e; cases e; exact notSolid_cell dc so

/-! statements -/
inductive OkN (cx : Cx) (F : Fm) (H : AHeap) (s : Shared) (N : NPost) (s' : Shared) : Prop
  | mk (m' : Loc) (H' : AHeap) (t : St cx F m' H' s'.heap) (k : Kp cx (plc F) H s H' s') (q : N m' H') : OkN cx F H s N s'
inductive OkR (cx : Cx) (F : Fm) (H : AHeap) (s : Shared) (R : Post) (v : Value) (s' : Shared) : Prop
  | mk (p : PV) (m' : Loc) (H' : AHeap) (r : Rep cx s'.heap v p) (t : St cx F m' H' s'.heap) (k : Kp cx (plc F) H s H' s') (q : R p H') : OkR cx F H s R v s'
noncomputable def OkS (cx : Cx) (F : Fm) (H : AHeap) (s : Shared) (N : NPost) (R : Post) : Flow → Shared → Prop := fun f s' => match f with
  | .next => OkN cx F H s N s'
  | .ret v => OkR cx F H s R v s'
  | _ => False
inductive ErS (cx : Cx) (F : Fm) (H : AHeap) (s : Shared) (X : SXPost) (v : Value) (s' : Shared) : Prop
  | mk (e : Addr) (c : Nat) (m' : Loc) (H' : AHeap) (hv : v = .ref e) (x : Exc cx F.env.frame s.heap s'.heap e c) (t : St cx F m' H' s'.heap) (k : Kp cx (plc F) H s H' s') (q : X c m' H') : ErS cx F H s X v s'
noncomputable def EvS (cx : Cx) (F : Fm) (t : Sem Flow) (H : AHeap) (s : Shared) (N : NPost) (R : Post) (X : SXPost) : Prop := wpAny cx.M F.A t (OkS cx F H s N R) (ErS cx F H s X) s

theorem OkS.older {N : NPost} {R : Post} {f : Flow} {s' : Shared} (k : Kp cx (plc F) H s H₁ s₁) (x : OkS cx F H₁ s₁ N R f s') : OkS cx F H s N R f s' := by
  cases f with
  | next => obtain ⟨m', H', t, k', h⟩ := x; exact ⟨m', H', t, k.trans k', h⟩
  | ret v => obtain ⟨p, m', H', r, t, k', h⟩ := x; exact ⟨p, m', H', r, t, k.trans k', h⟩
  | _ => exact x.elim
theorem ErS.older {X : SXPost} {v : Value} {s' : Shared} (k : Kp cx (plc F) H s H₁ s₁) (x : ErS cx F H₁ s₁ X v s') : ErS cx F H s X v s' := by
  obtain ⟨e, c, m', H', r, y, t, k', h⟩ := x
  exact ⟨e, c, m', H', r, y.older k.alive, t, k.trans k', h⟩
theorem EvS.older {N : NPost} {R : Post} {X : SXPost} {t : Sem Flow} (k : Kp cx (plc F) H s H₁ s₁) (x : EvS cx F t H₁ s₁ N R X) : wpAny cx.M F.A t (OkS cx F H s N R) (ErS cx F H s X) s₁ :=
  wpAny_mono x (fun _ _ y => y.older k) fun _ _ y => y.older k
theorem ErP.toS {X : SXPost} {v : Value} {s' : Shared} (x : ErP cx F m H s (fun c H => X c m H) v s') : ErS cx F H s X v s' := by
  obtain ⟨e, c, H', r, y, t, k, h⟩ := x; exact ⟨e, c, m, H', r, y, t, k.nil, h⟩
/-- an expression, then the rest of the statement -/
theorem EvS.after {α β : Type} {RR : Heap → α → β → Prop} {Q : β → AHeap → Prop} {N : NPost} {R : Post} {X : SXPost} {t : Sem α} {f : α → Sem Flow} (h : Ev RR cx F t m H s Q fun c H => X c m H)
    (k : ∀ a b s₁ H₁, RR s₁.heap a b → St cx F m H₁ s₁.heap → Kp cx [] H s H₁ s₁ → Q b H₁ → EvS cx F (f a) H₁ s₁ N R X) : EvS cx F (t >>= f) H s N R X :=
  wpAny_bind (wpAny_mono h (fun a s₁ ⟨b, H₁, r, st, kp, q⟩ => (k a b s₁ H₁ r st kp q).older kp.nil) fun _ _ y => y.toS)
theorem EvS.seq {N N₁ : NPost} {R : Post} {X : SXPost} {st : Stmt} {rest : List Stmt} (h : EvS cx F (exec st F.env) H s N₁ R X)
    (k : ∀ m₁ s₁ H₁, St cx F m₁ H₁ s₁.heap → N₁ m₁ H₁ → EvS cx F (execs rest F.env) H₁ s₁ N R X) : EvS cx F (execs (st :: rest) F.env) H s N R X := by
  refine wpAny_execs_cons (wpAny_mono h (fun f s' h' => ?_) fun _ _ e => e)
  cases f with
  | next => obtain ⟨m', H', t, kp, hn⟩ := h'; exact (k m' s' H' t hn).older kp
  | ret v => exact h'
  | brk => exact h'
  | cont => exact h'
end
end Mine
end
section
open PySem PySem.Calls PyProof.Rows
namespace Mine
set_option autoImplicit false

noncomputable def isComp : AE → Bool
  | .comp .. => true
  | _ => false
noncomputable def isTup : AE → Bool
  | .tup .. => true
  | _ => false
noncomputable def ASs.isNil : ASs → Bool
  | .nil => true
  | _ => false
noncomputable def AHs.isNil : AHs → Bool
  | .nil => true
  | _ => false
section
variable (fl : List Str) (nm : List Str) (vis : Nat → Bool) (kd : Kd)
noncomputable def stOk (x : Nat) : Bool := vis x && (kd (slot nm x) == some .local || kd (slot nm x) == some .cell)
mutual
noncomputable def okS (q : Bool) : AS → Bool
  | .expr e _ => okE fl nm q vis kd e && !isComp e
  | .assign x _ e _ => okE fl nm q vis kd e && stOk nm vis kd x
  | .assignT xs _ _ e _ => q && okE fl nm q vis kd e && !isComp e && !isTup e && xs.all fun x => stOk nm vis kd x.1
  | .store o i _ e _ => okE fl nm q vis kd o && okE fl nm q vis kd i && okE fl nm q vis kd e && !isComp e
  | .sattr o k _ e _ => okE fl nm q vis kd o && okE fl nm q vis kd e && !isComp e && decide (k ∈ atns)
  | .ite c a b _ => okE fl nm q vis kd c && okSs q a && okSs q b
  | .for x _ it b _ => q && okE fl nm q vis kd it && stOk nm vis kd x && okSs q b
  | .while c b _ => q && okE fl nm q vis kd c && okSs q b
  | .ret e _ => okE fl nm q vis kd e
  | .ret0 _ => true
  | .raise c x _ _ _ _ _ _ => q && isGlob kd x && onm x == some c
  | .try b hs _ => q && okSs q b && okHs hs && !hs.isNil
noncomputable def okSs (q : Bool) : ASs → Bool
  | .nil => true
  | .cons s ss => okS q s && okSs q ss
noncomputable def okHs : AHs → Bool
  | .nil => true
  | .cons c x _ y b _ hs => isGlob kd x && onm x == some c && (match y with | none => true | some y => vis y && kd (slot nm y) == some .local) && okSs false b && !b.isNil && okHs hs
end
end

inductive ForI (cx : Cx) (F : Fm) (H₁ : AHeap) (s₁ : Shared) (I : Addr) (xs : List PV) (p : PV) (W : List PV → Loc → AHeap → Prop) (k : Nat) (s' : Shared) : Prop
  | mk (i : Nat) (mk : Loc) (Hk : AHeap) (hi : i ≤ xs.length) (hk : k = xs.length - i) (ti : St cx F mk Hk s'.heap) (ki : Kp cx (plc F) H₁ s₁ Hk s') (iti : Itr cx s'.heap I i xs p) (ci : Clean cx Hk s'.heap I) (hw : W (xs.drop i) mk Hk) : ForI cx F H₁ s₁ I xs p W k s'
section
variable {cx : Cx} {F : Fm} {m : Loc} {H H₁ : AHeap} {s s₁ : Shared} {kd : Kd} {n : Nat} {q : Bool} {e : Addr}

theorem St.plcData {h : Heap} (t : St cx F m H h) : ∀ b ∈ plc F, ∀ o, h.get? b = some o → (∃ es ep, o.data = .dict es ep) ∨ ∃ x, o.data = .cell x := fun b hb o g => by
  rcases List.mem_cons.mp hb with rfl | hb
  · obtain ⟨o', es, ep, _, g', d, _⟩ := t.vars; rw [g] at g'; cases g'; exact .inl ⟨es, ep, d⟩
  · obtain ⟨p, _, hl⟩ := List.mem_filterMap.mp hb
    obtain ⟨_, _, o', x, g', d, _⟩ := t.cells _ b hl
    rw [g] at g'; cases g'; exact .inr ⟨x, d⟩
theorem Kp.solidP (k : Kp cx (plc F) H s H₁ s₁) (t : St cx F m H s.heap) : ∀ b o, s.heap.get? b = some o → Solid o → s₁.heap.get? b = some o := k.solid t.heap t.plcData
/-- a record that no name holds stays -/
theorem Kp.sameP (k : Kp cx (plc F) H s H₁ s₁) (t : St cx F m H s.heap) {b : Addr} {o : Obj} {vs : Array Value} (g : s.heap.get? b = some o) (hb : H b = none) (hd : o.data = .fields vs) : H₁ b = none ∧ s₁.heap.get? b = some o := by
  obtain ⟨h, o', e', sm⟩ := k.keep b o g (fun q => by
    rcases t.plcData b q o g with ⟨es, ep, d⟩ | ⟨x, d⟩ <;> rw [hd] at d <;> cases d) hb
  rw [sm.eq fun _ _ q => by rw [hd] at q; cases q] at e'; exact ⟨h, e'⟩
theorem Itr.over {I : Addr} {i : Nat} {xs : List PV} {p : PV} (it : Itr cx s.heap I i xs p) (k : Kp cx (plc F) H s H₁ s₁) (t : St cx F m H s.heap) (c : Clean cx H s.heap I) : Itr cx s₁.heap I i xs p ∧ Clean cx H₁ s₁.heap I := by
  obtain ⟨hI, hB, oI, T, vs, gI, hc, hT, hd⟩ := c
  have e1 := k.sameP t gI hI hd
  have itb := it.keep (k.solidP t) fun o e => by rw [gI] at e; cases e; exact e1.2
  exact ⟨itb, e1.1, hB, itb.clean⟩

theorem flight_ok {S : List Addr} {c : Nat} {L : Addr} {Q : Unit → Shared → Prop} {E : Value → Shared → Prop} {A : Around} (hf : F.env.frame = some L) (t : St cx F m H₁ s₁.heap) (k : Kp cx S H s H₁ s₁) (t₀ : cx.B.StaysIn s.heap) (x : ExcIn cx L s.heap s₁.heap e c)
    (hQ : ∀ s₂, St cx F m H₁ s₂.heap → Kp cx S H s H₁ s₂ → ExcIn cx L s.heap s₂.heap e c → Q () s₂) : wpAny cx.M A (do
      if (← field (.ref e) 1) == .none then unsupported "frame.own-activation:exception-without-traceback"
      setFlight (.ref e) F.env.frame) Q E s₁ := by
  obtain ⟨fe, oe, vs, C, a0, ge, hc, hC, hd, h0, T, oT, ts, h1, fT, hTe, gT, cT, dT, h3⟩ := x
  have hBn : ∀ b, s.heap.get? b = none → cx.B.get? b = none := fun b f => by
    cases q : cx.B.get? b with
    | none => rfl
    | some o => rw [t₀ _ _ q] at f; cases f
  have hsz := (Array.getElem?_eq_some_iff.mp h3).1
  refine wpAny_bind (wpAny_field ge hd h1 ?_)
  rw [if_neg (show ¬ ((Value.ref T == Value.none) = true) from by simp)]
  unfold setFlight
  refine wpAny_bind (wpAny_field ge hd h1 ?_)
  rw [if_pos (show (Value.ref T != Value.none) = true from by simp), hf]
  refine wpAny_setField gT dT hsz ?_
  show Q () { s₁ with heap := s₁.heap.update T (Obj.mapFields (·.setIfInBounds 3 (rawInt L))) }
  have dT' := Obj.data_mapFields dT (·.setIfInBounds 3 (rawInt L))
  have gT' := Heap.get?_update_self (Obj.mapFields (·.setIfInBounds 3 (rawInt L))) gT (Obj.isFreed_of_fields dT')
  have f : Fly F e (fun b => b = T) s₁.heap (s₁.heap.update T (Obj.mapFields (·.setIfInBounds 3 (rawInt L)))) :=
    ⟨fun b o g n q => .inl (upd_keeps b o q g), fun o vs' g d => ⟨o, vs', upd_keeps e o (Ne.symm hTe) g, ⟨rfl, rfl⟩, d⟩, fun b q => by subst q; exact ⟨hTe, oT, ts, gT, cT, dT⟩⟩
  have t₂ := t.fly f ⟨oe, C, vs, ge, hc, hC.2, hd⟩ (hBn _ fe) fun b q => by subst q; exact hBn _ fT
  have k₂ := k.fly t f fe (fun b q => by subst q; exact fT) (hBn _ fe) fun b q => by subst q; exact hBn _ fT
  exact hQ { s₁ with heap := _ } t₂ k₂ ⟨fe, oe, vs, C, a0, upd_keeps e oe (Ne.symm hTe) ge, hc, hC, hd, h0, T, _, _, h1, fT, hTe, gT', (Obj.cls_mapFields _ _).trans cT, dT', by simp [hsz]⟩

/-- an error out of a loop of the frame's own -/
theorem noted_ok {outer : List Env} {L : Addr} {X : SXPost} {v : Value} (hfr : F.A.frames = some F.fs) (hfs : F.fs = F.env :: outer) (hf : F.env.frame = some L) (t₀ : cx.B.StaysIn s.heap) (x : ErS cx F H s X v s₁) :
    notedBy cx.M F.A F.env (fun e s' => cameBackBy cx.M F.A F.env (ErS cx F H s X) e s') v s₁ := by
  obtain ⟨e, c, m', H', rfl, y, t, k, h⟩ := x
  refine note_ok hfr hfs hf t k t₀ y fun s₂ t₂ k₂ x₂ => ?_
  exact flight_ok hf t₂ k₂ t₀ x₂ fun s₃ t₃ k₃ x₃ => ⟨e, c, m', H', rfl, by rw [hf]; exact x₃.exc, t₃, k₃, h⟩

theorem names_ok {A : Around} {E : Value → Shared → Prop} (fo : Fok cx n q kd F) : ∀ (xs : List (Nat × Pos)) (ys : List PV) (vs : List Value) {m : Loc} {H : AHeap} {s : Shared} {QQ : Unit → Shared → Prop}, xs.length = ys.length →
    (∀ x ∈ xs, F.vis x.1 = true ∧ (kd (slot F.nm x.1) = some .local ∨ kd (slot F.nm x.1) = some .cell)) → RepL cx s.heap vs ys → St cx F m H s.heap →
    (∀ s', St cx F (setAll xs ys m) H s'.heap → Kp cx (plc F) H s H s' → QQ () s') → wpAny cx.M A (assignInOrder ((assignEach (xs.map fun x => Expr.Name (slot F.nm x.1) x.2) F.env).map (·.2)) vs) QQ E s
  | [], [], _, m, H, s, QQ, _, _, rs, t, hQ => by
    cases rs
    exact wpAny_assignInOrder_none (hQ s t (.refl _ _ _ _))
  | x :: xs, y :: ys, _, m, H, s, QQ, hl, hx, rs, t, hQ => by
    cases rs with
    | cons r rs =>
      have h1 := hx x (List.mem_cons_self ..)
      refine wpAny_assignInOrder_more (wpAny_assign_Name (store_name fo h1.1 h1.2 t r fun s' t' k' so => ?_))
      exact names_ok fo xs ys _ (by simpa using hl) (fun z hz => hx z (List.mem_cons_of_mem _ hz)) (rs.mono so) t' fun s'' t'' k'' => hQ s'' t'' (k'.trans k'')
  | [], _ :: _, _, _, _, _, _, hl, _, _, _, _ => by simp at hl
  | _ :: _, [], _, _, _, _, _, hl, _, _, _, _ => by simp at hl
theorem names_len (nm : List Str) (env : Env) : ∀ xs : List (Nat × Pos), (assignEach (xs.map fun x => Expr.Name (slot nm x.1) x.2) env).length = xs.length ∧ (assignEach (xs.map fun x => Expr.Name (slot nm x.1) x.2) env).findIdx? (·.1) = none
  | [] => ⟨rfl, rfl⟩
  | x :: xs => by
    have ih := names_len nm env xs
    refine ⟨?_, ?_⟩
    · show (assignEach (Expr.Name (slot nm x.1) x.2 :: xs.map fun x => Expr.Name (slot nm x.1) x.2) env).length = _
      exact congrArg (· + 1) ih.1
    · show (assignEach (Expr.Name (slot nm x.1) x.2 :: xs.map fun x => Expr.Name (slot nm x.1) x.2) env).findIdx? (·.1) = none
      change List.findIdx? (·.1) ((false, _) :: assignEach (xs.map fun x => Expr.Name (slot nm x.1) x.2) env) = none
      rw [List.findIdx?_cons, ih.2]; rfl

theorem for_ok {outer : List Env} {L : Addr} {x : Nat} {px pos : Pos} {iter : Expr} {body : List Stmt} {N : NPost} {R : Post} {X : SXPost} {st : PV → (Loc → AHeap → Prop) → Loc → AHeap → Prop} (fo : Fok cx n true kd F) (hfs : F.fs = F.env :: outer) (hf : F.env.frame = some L)
    (vx : F.vis x = true) (hk : kd (slot F.nm x) = some .local ∨ kd (slot F.nm x) = some .cell) (t : St cx F m H s.heap)
    (hIt : Ev (Rep cx) cx F (eval iter F.env) m H s (fun v H => itemsW v (fun xs src => forW src st N xs m H) H) fun c H => X c m H)
    (hB : ∀ {y : PV} {K : NPost} {m' : Loc} {H : AHeap} {s : Shared}, St cx F (m'.set x (some y)) H s.heap → st y K m' H → EvS cx F (execs body F.env) H s K R X)
    (hs : ∀ x, foldedSetIterable iter F.env x = pure x) :
    EvS cx F (exec (.For (.Name (slot F.nm x) px) iter body [] pos) F.env) H s N R X := by
  refine wpAny_For (wpAny_mono hIt (fun xv s₁ h₁ => ?_) fun _ _ e => e.toS) hs
  obtain ⟨p, H₁, rv, t₁, k₁, hw⟩ := h₁
  have t₀ : cx.B.StaysIn s.heap := t.base
  refine iter_ok (F := F) rv t₁ hw fun I xs h' fI g it cI sr hl hc => ?_
  refine codeAny_forLoop (ForI cx F H₁ s₁ I xs p (forW (Src p xs) st N)) ?_ xs.length
    ⟨0, m, H₁, Nat.zero_le _, rfl, t₁.step (s' := { s₁ with heap := h' }) (.grow (tk := s₁.toks) g fun _ _ _ e => e) (t₁.heap.grow g), .grow (tk := s₁.toks) g (fun _ _ _ e => e), it, cI, hc⟩
  rintro k s' ⟨i, mk, Hk, hi, rfl, ti, ki, iti, ci, hw⟩
  by_cases hlt : i < xs.length
  · have hx1 : xs[i]? = some xs[i] := List.getElem?_eq_getElem hlt
    rw [List.drop_eq_getElem_cons hlt] at hw
    obtain ⟨sr, hw⟩ := hw
    refine next_ok ti iti sr ci hx1 fun v s₄ rv it₄ c₄ tc₄ => ?_
    obtain ⟨h₄, tk₄, rfl, k₄⟩ := id tc₄
    have t₄ : St cx F mk Hk h₄ := ti.touch ci k₄
    have kp₄ := ki.touch fI tc₄ ci.2.1
    refine wpAny_assign_Name (store_name (s := { s' with heap := h₄, toks := tk₄ }) fo vx hk t₄ rv fun s₅ t₅ kp₅ so₅ => ?_)
    obtain ⟨it₅, c₅⟩ := it₄.over kp₅ t₄ c₄
    refine wpAny_mono (hB t₅ hw) (fun f s₆ h₆ => ?_) fun v s₆ h₆ => ?_
    · cases f with
      | next =>
        obtain ⟨m₆, H₆, t₆, kp₆, h₆⟩ := h₆
        obtain ⟨it₆, c₆⟩ := it₅.over kp₆ t₅ c₅
        exact ⟨xs.length - (i + 1), by first | lia | omega, i + 1, m₆, H₆, hlt, rfl, t₆, (kp₄.trans kp₅).trans kp₆, it₆, c₆, h₆⟩
      | ret v => exact OkS.older (f := .ret v) ((k₁.nil.trans kp₄).trans kp₅) h₆
      | brk => exact h₆.elim
      | cont => exact h₆.elim
    · exact noted_ok fo.fr hfs hf t₀ (h₆.older ((k₁.nil.trans kp₄).trans kp₅))
  · have hi' : i = xs.length := by first | lia | omega
    subst hi'
    rw [List.drop_length] at hw
    obtain ⟨sr, hw⟩ := hw
    refine end_ok (fo.quiet rfl) ti iti sr (by simp) fun s₄ tc₄ => ?_
    obtain ⟨h₄, tk₄, rfl, k₄⟩ := id tc₄
    exact wpAny_execs_nil ⟨mk, Hk, ti.touch ci k₄, k₁.nil.trans (ki.touch fI tc₄ ci.2.1), hw⟩

noncomputable def Fm.mark (F : Fm) (e : Value) : Fm := { F with A := F.A.mark (some e) }
theorem St.mark {h : Heap} {v : Value} (t : St cx F m H h) : St cx (F.mark v) m H h := ⟨t.base, t.off, t.heap, t.frames, t.own, (let ⟨o, es, ep, mc, a, b, c, d⟩ := t.vars; ⟨o, es, ep, mc, a, b, c, d⟩), fun n c h => let ⟨a, b, o, x, d, e, f⟩ := t.cells n c h; ⟨a, b, o, x, d, e, f⟩⟩
theorem St.unmark {h : Heap} {v : Value} (t : St cx (F.mark v) m H h) : St cx F m H h := ⟨t.base, t.off, t.heap, t.frames, t.own, (let ⟨o, es, ep, mc, a, b, c, d⟩ := t.vars; ⟨o, es, ep, mc, a, b, c, d⟩), fun n c h => let ⟨a, b, o, x, d, e, f⟩ := t.cells n c h; ⟨a, b, o, x, d, e, f⟩⟩
theorem Fok.mark {v : Value} (fo : Fok cx n q kd F) : Fok cx n false kd (F.mark v) := ⟨fo.fr, fo.kind, fo.kdo, fo.glob, fo.bltn, fun q => (nomatch q), fo.depth, fo.units, fo.cells, fo.apart, fo.inj⟩
theorem OkS.unmark {v : Value} {N : NPost} {R : Post} {f : Flow} {s' : Shared} (x : OkS cx (F.mark v) H s N R f s') : OkS cx F H s N R f s' := by
  cases f with
  | next => obtain ⟨m', H', t, k', h⟩ := x; exact ⟨m', H', t.unmark, k', h⟩
  | ret v => obtain ⟨p, m', H', r, t, k', h⟩ := x; exact ⟨p, m', H', r, t.unmark, k', h⟩
  | _ => exact x.elim

/-- the caught error's name goes -/
theorem unbind_ok {y : Nat} {pos : Pos} {QQ : Unit → Shared → Prop} {E : Value → Shared → Prop} {A : Around} (fo : Fok cx n q kd F) (vy : F.vis y = true) (hk : kd (slot F.nm y) = some .local) (t : St cx F m H s.heap)
    (hQ : ∀ s', St cx F (m.set y none) H s'.heap → Kp cx (plc F) H s H s' → (∀ b o, s.heap.get? b = some o → Solid o → s'.heap.get? b = some o) → QQ () s') : wpAny cx.M A (do bindName F.env (slot F.nm y) .none; unbindBehindTheSuite F.env (slot F.nm y) pos) QQ E s := by
  have hl : F.env.kindOf (slot F.nm y) = some .local := by rw [fo.kdo]; exact hk
  obtain ⟨o, es, ep, mc, ho, hd, ns, _⟩ := t.vars
  have hp : (F.env.scope.kind == .class || (F.env.scope.kind == .module && F.env.locals != F.env.globals)) = false := by rw [fo.kind]; rfl
  refine wpAny_bind (wpAny_bindName (wpAny_storeName_local hl ns (fun h' ns' sb => ?_) hp))
  unfold unbindBehindTheSuite
  refine wpAny_onRaise ?_
  refine wpAny_unbindName_local hl ns' (v := .none) (by simp) hp fun h'' u ns'' sb' => ?_
  have kk : ∀ b o, b ≠ F.env.locals → s.heap.get? b = some o → h''.get? b = some o := fun b o n e => by rw [sb'.2 b n, sb.2 b n]; exact e
  have t' : St cx F (m.set y (some .none)) H h' := t.setLocal fo.inj vy hl ns ns' rfl sb .none
  have nsl : ∀ o, s.heap.get? F.env.locals = some o → ¬ Solid o := fun o' e => by rw [ho] at e; cases e; exact notSolid_dict hd
  have so : ∀ b o, s.heap.get? b = some o → Solid o → h''.get? b = some o := fun b o e so => kk b o (by rintro rfl; exact nsl o e so) e
  refine hQ _ ?_ (Kp.one (tk := s.toks + 1) (List.mem_cons_self ..) t.own.2 (let ⟨o, _, _, g, _⟩ := ns''; ⟨o, g⟩) kk) so
  have t₁ := t.forget y
  obtain ⟨o₁, es₁, ep₁, mc₁, ho₁, hd₁, ns₁, hv₁⟩ := t₁.vars
  have e0 : mc₁ = mc := funext (ns₁.agree ns)
  subst e0
  obtain ⟨o', es', ep', ho', hd', r'⟩ := id ns''
  refine ⟨fun b o e => kk b o (by rintro rfl; rw [t.own.2] at e; cases e) (t.base b o e), t.off, t.heap.keepBut t.own.1 kk nsl, fun env he => ?_, t.own, ⟨o', es', ep', _, ho', hd', ns'', fun i w h1 h2 h3 => ?_⟩, fun nn c hc' => ?_⟩
  · obtain ⟨hk, L, o1, es1, ep1, hf, hH, hb, ho1, hd1⟩ := t.frames env he
    by_cases q : L = F.env.locals
    · subst q; exact ⟨hk, _, o', es', ep', hf, hH, hb, ho', hd'⟩
    · exact ⟨hk, L, o1, es1, ep1, hf, hH, hb, kk L o1 q ho1, hd1⟩
  · obtain ⟨x, q, r⟩ := hv₁ i w h1 h2 h3
    have ne := (Loc.get_set0 h3).1
    have nn : slot F.nm i ≠ slot F.nm y := fun q => ne (fo.inj i y h1 vy q)
    exact ⟨x, by simp only [nn, if_false]; exact q, r.mono so⟩
  · obtain ⟨h1, h2, oc, z, hoc, hdc, hvc⟩ := t₁.cells nn c hc'
    have nc : c ≠ F.env.locals := by rintro rfl; rw [ho] at hoc; cases hoc; rw [hd] at hdc; cases hdc
    exact ⟨h1, h2, oc, z, kk c oc nc hoc, hdc, fun i w a b c' d => let ⟨z', q, r⟩ := hvc i w a b c' d; ⟨z', q, r.mono so⟩⟩
end
end Mine
end
section
open PySem PySem.Calls PyProof.Rows
namespace Mine
set_option autoImplicit false

section
variable {cx : Cx} {F : Fm} {m : Loc} {H H₁ : AHeap} {s s₁ : Shared} {kd : Kd} {n : Nat} {q : Bool} {e : Addr} {sc : Scope}

theorem St.touchAt {h h' : Heap} {I : Addr} (t : St cx F m H h) (hI : H I = none) (hB : cx.B.get? I = none) (ns : ∀ o, h.get? I = some o → ¬ Solid o) (nf : ∀ env ∈ F.fs, env.frame ≠ some I) (nl : F.env.locals ≠ I) (nc : ∀ n c, F.env.cells.lookup n = some c → c ≠ I)
    (k : ∀ b o, b ≠ I → h.get? b = some o → h'.get? b = some o) : St cx F m H h' := by
  have so : ∀ b o, h.get? b = some o → Solid o → h'.get? b = some o := fun b o e s => k b o (by rintro rfl; exact ns o e s) e
  refine ⟨fun b o e => k b o (by rintro rfl; rw [hB] at e; cases e) (t.base b o e), t.off, t.heap.keepBut hI k ns, fun env he => ?_, t.own, ?_, fun n c hc' => ?_⟩
  · obtain ⟨hk, L, o, es, ep, hf, hH, hb, ho, hd'⟩ := t.frames env he
    exact ⟨hk, L, o, es, ep, hf, hH, hb, k L o (by rintro rfl; exact nf env he hf) ho, hd'⟩
  · obtain ⟨o, es, ep, mc, ho, hd', ns', hv⟩ := t.vars
    exact ⟨o, es, ep, mc, k _ o nl ho, hd', ns'.at fun o e => k _ o nl e, fun i v h1 h2 h3 => let ⟨x, q, r⟩ := hv i v h1 h2 h3; ⟨x, q, r.mono so⟩⟩
  · obtain ⟨h1, h2, o, x, ho, hd', hv⟩ := t.cells n c hc'
    exact ⟨h1, h2, o, x, k c o (nc n c hc') ho, hd', fun i v a b c d => let ⟨y, q, r⟩ := hv i v a b c d; ⟨y, q, r.mono so⟩⟩

theorem assign_comp {elt iter : Expr} {ifs : List Expr} {x y : Nat} {px py pc pos : Pos} {N : NPost} {R : Post} {X : SXPost} {aT : BPost → Loc → AHeap → Prop} {aE : Post → Loc → AHeap → Prop}
    (fo : Fok cx n true kd F) (hsc : scOk kd (relab kd sc) sc (slot F.nm x) = true) (vy : F.vis y = true) (hky : kd (slot F.nm y) = some .local ∨ kd (slot F.nm y) = some .cell)
    (hIt : Ev (Rep cx) cx F (eval iter F.env) m H s (fun v H => itemsW v (fun xs src => compW src (fun y K H => aT (fun b H => if b then aE (fun v H => K [v] H) (m.set x (some y)) H else K [] H) (m.set x (some y)) H)
      (fun vs H => alloc (.list vs) (fun v H => N (m.set y (some v)) H) H) xs [] H) H) fun c H => X c m H)
    (hT : ∀ {cl : List (Str × Addr)} {C : Addr} {m' : Loc} {H : AHeap} {s : Shared} {Q : BPost}, Fok cx n true (relab kd sc) (compF F sc cl C x (relab kd sc)) → St cx (compF F sc cl C x (relab kd sc)) m' H s.heap → aT Q m' H →
      Ev IsBB cx (compF F sc cl C x (relab kd sc)) (testsSem ifs (compEnvC sc cl C F.env)) m' H s Q fun _ _ => False)
    (hE : ∀ {cl : List (Str × Addr)} {C : Addr} {m' : Loc} {H : AHeap} {s : Shared} {Q : Post}, Fok cx n true (relab kd sc) (compF F sc cl C x (relab kd sc)) → St cx (compF F sc cl C x (relab kd sc)) m' H s.heap → aE Q m' H →
      Ev (Rep cx) cx (compF F sc cl C x (relab kd sc)) (eval elt (compEnvC sc cl C F.env)) m' H s Q fun _ _ => False)
    (hs : ∀ x, foldedSetIterable iter F.env x = pure x) :
    EvS cx F (exec (.Assign [.Name (slot F.nm y) py] (.ListComp elt [⟨.Name (slot F.nm x) px, iter, ifs, 0⟩] sc pc) pos) F.env) H s N R X := by
  obtain ⟨b, hb⟩ : ∃ b, swapsWith (.ListComp elt [⟨.Name (slot F.nm x) px, iter, ifs, 0⟩] sc pc) (some (.Name (slot F.nm y) py)) pos.line F.env = pure b := ⟨_, rfl⟩
  cases b with
  | false =>
    refine wpAny_Assign_Name (wpAny_mono (comp_ok fo hsc hIt hT hE hs) (fun v s₁ h₁ => ?_) fun _ _ e => e.toS) hb
    obtain ⟨p, H₁, rv, t₁, k₁, hN⟩ := h₁
    exact store_name fo vy hky t₁ rv fun s' t' kp' _ => ⟨_, _, t', k₁.nil.trans kp', hN⟩
  | true =>
    have hsc' := hsc
    unfold scOk at hsc'
    simp only [Bool.and_eq_true, beq_iff_eq, decide_eq_true_eq] at hsc'
    obtain ⟨⟨⟨⟨⟨⟨⟨hkind, _⟩, _⟩, hnc⟩, hloc⟩, hfr⟩, hx⟩, _⟩ := hsc'
    obtain ⟨cl, hclos, hcl1, hcl2⟩ := closure_ok fo.cells hfr
    have hnames : ∀ y ∈ sc.names, y.2 = .local → sc.names.lookup y.1 = some .local := fun y hy hl => by
      have := List.all_eq_true.mp hloc y hy
      simp [hl] at this; exact this
    unfold EvS
    rw [exec_Assign_Name_used _ _ _ _ hb]
    refine wpAny_bind (wpAny_standAt (wpAny_bind ?_))
    show wpAny _ F.A (do let _ ← comprehension (.ListComp elt [⟨.Name (slot F.nm x) px, iter, ifs, 0⟩] sc pc) sc F.env _ (newList []) false (eval iter F.env) (some (assign (.Name (slot F.nm y) py) F.env))) _ _ s
    refine wpAny_bind (wpAny_mono (wpAny_comprehension_free (use := some (assign (.Name (slot F.nm y) py) F.env)) (Q := fun _ s' => OkS cx F H s N R .next s') rfl hs hclos hkind hnames
      (wpAny_mono hIt (fun xv s₁ h₁ => ?_) fun _ _ e => e.toS)) (fun _ s' hq => wpAny_pure (wpAny_pure hq)) fun _ _ e => e)
    obtain ⟨p, H₁, rv, t₁, k₁, hw⟩ := h₁
    refine iter_ok (F := F) rv t₁ hw fun I xs h' fI g it cI sr hl hc => ?_
    refine comp_block (RR := fun acc C => compPost cx.M F.A _ (some (assign (.Name (slot F.nm y) py) F.env)) _ acc C) fo hsc hcl1 hcl2 hT hE t₁ rfl g fI it cI hl hc ?_
    intro D C s' H' vs mc fC fD hDC ns hD hHD hHC hh k hq
    obtain ⟨t₂, k₂, hN⟩ := comp_fin' t₁ fC fD hDC ns hD hHD hHC hh k hq (Heap.SameBut.refl C s'.heap)
    refine wpAny_assign_Name (store_name fo vy hky t₂ (.obj D) fun s'' t'' kp'' _ => ?_)
    have bC : cx.B.get? C = none := by
      cases e : cx.B.get? C with
      | none => rfl
      | some o => rw [t₁.base _ _ e] at fC; cases fC
    have hH₂C : upd H' D (.list vs) C = none := by rw [upd_ne (Ne.symm hDC)]; exact hHC
    obtain ⟨oC, es, ep, gC, dC, rC⟩ := ns
    have npl : C ∉ plc F := fun hm => by
      rcases List.mem_cons.mp hm with q | hm
      · obtain ⟨o, _, _, _, g, _⟩ := t₁.vars; rw [← q, fC] at g; cases g
      · obtain ⟨p, _, hl⟩ := List.mem_filterMap.mp hm
        obtain ⟨_, _, o, _, g, _⟩ := t₁.cells _ C hl; rw [fC] at g; cases g
    obtain ⟨hC'', oC'', gC'', sm⟩ := kp''.keep C oC gC npl hH₂C
    refine ⟨mc, ⟨oC'', es, ep, gC'', sm.data.trans dC, rC⟩, fun h'' sb => ?_⟩
    have kk : ∀ b o, b ≠ C → s''.heap.get? b = some o → h''.get? b = some o := fun b o n e => by rw [sb.2 b n]; exact e
    have kp₀ : Kp cx (plc F) H s (upd H' D (.list vs)) { s'' with heap := h'' } := by
      have a : Kp cx (plc F) H₁ s₁ (upd H' D (.list vs)) s'' := k₂.nil.trans kp''
      exact k₁.nil.trans (a.touch (I := C) fC ⟨h'', s''.toks, rfl, kk⟩ bC)
    refine ⟨_, _, t''.touchAt (I := C) hC'' bC (fun o e => ?_) (fun env he hf => ?_) (fun q => ?_) (fun nn c hl q => ?_) kk, kp₀, hN⟩
    · rw [gC''] at e; cases e; exact notSolid_dict (sm.data.trans dC)
    · obtain ⟨_, L, o, _, _, hf', _, _, g, _⟩ := t₁.frames env he
      rw [hf] at hf'; cases hf'; rw [fC] at g; cases g
    · exact npl (by rw [← q]; exact List.mem_cons_self ..)
    · exact npl (by rw [← q]; exact mem_plc_cell hl)
end
end Mine
end
section
open PySem PySem.Calls PyProof.Rows
namespace Mine
set_option autoImplicit false
set_option linter.unusedSectionVars false
set_option linter.unusedVariables false

section
variable {cx : Cx} {g : Gl} {fl : List Str} {mg mb : Str → Option Value} {n : Nat}

theorem swaps_none (nm : List Str) (e : AE) (t : Option Expr) (l : Nat) (env : Env) (h : isComp e = false) : swapsWith (e.toE nm) t l env = pure false := by
  cases e with
  | comp => exact nomatch (show true = false from h)
  | _ => rfl
theorem stores_none (nm : List Str) (e : AE) (xs : List Expr) (k : Nat) (p : Pos) (env : Env) (h : isTup e = false) : swappedStores [.Tuple xs k p] (e.toE nm) env = pure none := by
  cases e with
  | tup => exact nomatch (show true = false from h)
  | _ => rfl
theorem noninter {F : Fm} {kd : Kd} {q : Bool} (fo : Fok cx n q kd F) : interactive F.env = false := by unfold interactive; rw [fo.kind]; rfl
theorem stOk_of {nm : List Str} {vis : Nat → Bool} {kd : Kd} {x : Nat} (h : stOk nm vis kd x = true) : vis x = true ∧ (kd (slot nm x) = some .local ∨ kd (slot nm x) = some .cell) := by
  simpa [stOk] using h

variable (ck : Cok cx g fl mg mb n)
include ck
mutual
theorem soundS : ∀ (st : AS) {F : Fm} {kd : Kd} {q : Bool} {m : Loc} {H : AHeap} {s : Shared} {N : NPost} {R : Post} {X : SXPost} {outer : List Env} {L : Addr}, Fok cx n q kd F → F.fs = F.env :: outer → F.env.frame = some L → okS fl F.nm F.vis kd q st = true → St cx F m H s.heap →
    awpS g st N R X m H → EvS cx F (exec (st.toS F.nm) F.env) H s N R X
  | .expr e p, F, kd, q, m, H, s, N, R, X, outer, L, fo, hfs, hf, ok, t, h => by
    replace ok := (show (_ && _) = true from ok); simp only [Bool.and_eq_true, Bool.not_eq_true'] at ok
    refine wpAny_Expr_any (wpAny_mono (soundE ck e fo ok.1 t h) (fun v s₁ h₁ => ?_) fun _ _ e => e.toS) (noninter fo) (swaps_none _ _ _ _ _ ok.2)
    obtain ⟨p, H₁, rv, t₁, k₁, h₁⟩ := h₁
    exact ⟨m, H₁, t₁, k₁.nil, h₁⟩
  | .assign x px e p, F, kd, q, m, H, s, N, R, X, outer, L, fo, hfs, hf, ok, t, h => by
    replace ok := (show (_ && _) = true from ok); simp only [Bool.and_eq_true] at ok
    obtain ⟨vx, hk⟩ := stOk_of ok.2
    by_cases hc : isComp e = true
    · cases e with
      | comp elt y py it cs sc pc =>
        have ok1 := ok.1
        replace ok1 := (show (_ && _) = true from ok1); simp only [Bool.and_eq_true, decide_eq_true_eq] at ok1
        obtain ⟨⟨⟨⟨⟨hit, hsc⟩, he⟩, hcs⟩, hlen⟩, rfl⟩ := ok1
        refine assign_comp (aT := fun Q m H => awpC g cs Q (fun _ _ => False) m H) (aE := fun Q m H => awpE g elt Q (fun _ _ => False) m H) fo hsc vx hk (soundE ck it fo hit t h) (fun {cl C m' H s Q} fo' t' h' => ?_) (fun {cl C m' H s Q} fo' t' h' => ?_) (folded_ok _ _ _)
        · exact soundC ck cs fo' hcs hlen t' h'
        · exact soundE ck elt fo' he t' h'
      | _ => exact nomatch (show false = true from hc)
    · refine wpAny_Assign_Name (wpAny_mono (soundE ck e fo ok.1 t h) (fun v s₁ h₁ => ?_) fun _ _ e => e.toS) (swaps_none _ _ _ _ _ (by simpa using hc))
      obtain ⟨p, H₁, rv, t₁, k₁, hN⟩ := h₁
      exact store_name fo vx hk t₁ rv fun s' t' kp' _ => ⟨_, _, t', k₁.nil.trans kp', hN⟩
  | .assignT xs k pt e p, F, kd, q, m, H, s, N, R, X, outer, L, fo, hfs, hf, ok, t, h => by
    replace ok := (show (_ && _) = true from ok); simp only [Bool.and_eq_true, Bool.not_eq_true'] at ok
    obtain ⟨⟨⟨⟨rfl, he⟩, hc⟩, htp⟩, hxs⟩ := ok
    refine wpAny_Assign_stores (wpAny_mono (soundE ck e fo he t h) (fun v s₁ h₁ => ?_) fun _ _ e => e.toS) (by rw [show swapsWithSole [Expr.Tuple (xs.map fun x => Expr.Name (slot F.nm x.1) x.2) k pt] (AE.toE F.nm e) p.line F.env = swapsWith (AE.toE F.nm e) (some (Expr.Tuple (xs.map fun x => Expr.Name (slot F.nm x.1) x.2) k pt)) p.line F.env by unfold swapsWithSole; rfl]; exact swaps_none _ _ _ _ _ hc) (stores_none _ _ _ _ _ _ htp)
    obtain ⟨pv, H₁, rv, t₁, k₁, hu⟩ := h₁
    cases pv with
    | tup ys =>
      obtain ⟨hyl, hN⟩ := hu
      cases rv with
      | tup ge hle rs =>
        have nl := names_len F.nm F.env xs
        refine wpAny_assign_Tuple (x1 := k) (fo.quiet rfl) ⟨_, ge, rfl, _, rfl⟩ (by rw [nl.1, ← hyl, ← rs.length]; simp) nl.2 fun h' ex => ?_
        have g : ∀ b o, s₁.heap.get? b = some o → h'.get? b = some o := fun b o e => ex b o (Nat.ne_of_lt (Heap.lt_size e)) e
        have kp : Kp cx (plc F) H₁ s₁ H₁ { s₁ with heap := h' } := .grow (tk := s₁.toks) g fun _ _ _ e => e
        have kp0 : Kp cx [] H₁ s₁ H₁ { s₁ with heap := h' } := .grow (tk := s₁.toks) g fun _ _ _ e => e
        refine names_ok (s := { s₁ with heap := h' }) fo xs ys _ hyl.symm (fun x hx => stOk_of (List.all_eq_true.mp hxs x hx)) (rs.mono fun b o e _ => g b o e) (t₁.step kp0 (t₁.heap.grow g)) fun s' t' k' => ?_
        exact ⟨_, _, t', (k₁.nil.trans kp).trans k', hN⟩
    | _ => exact hu.elim
  | .store o i ps e p, F, kd, q, m, H, s, N, R, X, outer, L, fo, hfs, hf, ok, t, h => by
    replace ok := (show (_ && _) = true from ok); simp only [Bool.and_eq_true, Bool.not_eq_true'] at ok
    obtain ⟨⟨⟨ho, hi⟩, he⟩, hc⟩ := ok
    refine wpAny_Assign_Subscript (wpAny_mono (soundE ck e fo he t h) (fun v s₁ h₁ => ?_) fun _ _ e => e.toS) (swaps_none _ _ _ _ _ hc)
    obtain ⟨pv, H₁, rv, t₁, k₁, h₁⟩ := h₁
    refine wpAny_mono (soundE ck o fo ho t₁ h₁) (fun ov s₂ h₂ => ?_) fun _ _ e => (e.older k₁).toS
    obtain ⟨po, H₂, ro, t₂, k₂, h₂⟩ := h₂
    refine wpAny_mono (soundE ck i fo hi t₂ h₂) (fun iv s₃ h₃ => ?_) fun _ _ e => (e.older (k₁.trans k₂)).toS
    obtain ⟨pi, H₃, ri, t₃, k₃, h₃⟩ := h₃
    have so₂ := k₂.solid0 t₁.heap
    have so₃ := k₃.solid0 t₂.heap
    refine wpAny_mono (store_ok (X := fun c H => X c m H) (ro.mono so₃) ri ((rv.mono so₂).mono so₃) t₃ h₃) (fun _ s₄ h₄ => ?_) fun _ _ e => (e.older ((k₁.trans k₂).trans k₃)).toS
    obtain ⟨_, H₄, _, t₄, k₄, h₄⟩ := h₄
    exact ⟨m, H₄, t₄, (((k₁.trans k₂).trans k₃).trans k₄).nil, h₄⟩
  | .sattr o k pa e p, F, kd, q, m, H, s, N, R, X, outer, L, fo, hfs, hf, ok, t, h => by
    replace ok := (show (_ && _) = true from ok); simp only [Bool.and_eq_true, Bool.not_eq_true', decide_eq_true_eq] at ok
    obtain ⟨⟨⟨ho, he⟩, hc⟩, hk⟩ := ok
    refine plainObj_wpAny_Assign_Attribute (wpAny_mono (soundE ck e fo he t h) (fun v s₁ h₁ => ?_) fun _ _ e => e.toS) (swaps_none _ _ _ _ _ hc)
    obtain ⟨pv, H₁, rv, t₁, k₁, h₁⟩ := h₁
    refine wpAny_mono (soundE ck o fo ho t₁ h₁) (fun ov s₂ h₂ => ?_) fun _ _ e => (e.older k₁).toS
    obtain ⟨po, H₂, ro, t₂, k₂, h₂⟩ := h₂
    refine wpAny_mono (sattr_ok (X := fun c H => X c m H) ck hk ro (rv.mono (k₂.solid0 t₁.heap)) t₂ h₂) (fun _ s₃ h₃ => ?_) fun _ _ e => (e.older (k₁.trans k₂)).toS
    obtain ⟨_, H₃, _, t₃, k₃, h₃⟩ := h₃
    exact ⟨m, H₃, t₃, ((k₁.trans k₂).trans k₃).nil, h₃⟩
  | .ite c a b p, F, kd, q, m, H, s, N, R, X, outer, L, fo, hfs, hf, ok, t, h => by
    replace ok := (show (_ && _) = true from ok); simp only [Bool.and_eq_true] at ok
    obtain ⟨⟨hc, ha⟩, hb⟩ := ok
    refine wpAny_bind (wpAny_standAt ?_)
    refine EvS.after (soundB ck c fo hc (fun t h => soundE ck c fo hc t h) t h) fun v b' s₁ H₁ rv t₁ k₁ h₁ => ?_
    have rv : v = b' := rv
    subst rv
    cases v with
    | true => exact soundSs a fo hfs hf ha t₁ (by simpa using h₁)
    | false => exact soundSs b fo hfs hf hb t₁ (by simpa using h₁)
  | .for x px it b p, F, kd, q, m, H, s, N, R, X, outer, L, fo, hfs, hf, ok, t, h => by
    replace ok := (show (_ && _) = true from ok); simp only [Bool.and_eq_true] at ok
    obtain ⟨⟨⟨rfl, hit⟩, hx⟩, hb⟩ := ok
    obtain ⟨vx, hk⟩ := stOk_of hx
    exact for_ok (st := fun y K m H => awpSs g b K R X (m.set x (some y)) H) fo hfs hf vx hk t (soundE ck it fo hit t h) (fun t' h' => soundSs b fo hfs hf hb t' h') (folded_ok _ _ _)
  | .while c b p, F, kd, q, m, H, s, N, R, X, outer, L, fo, hfs, hf, ok, t, h => by
    replace ok := (show (_ && _) = true from ok); simp only [Bool.and_eq_true] at ok
    obtain ⟨⟨rfl, hc⟩, hb⟩ := ok
    obtain ⟨I, ⟨k, hI⟩, hstep⟩ := h
    refine wpAny_While (codeAny_whileLoop (fun k s' => ∃ m' H', St cx F m' H' s'.heap ∧ Kp cx (plc F) H s H' s' ∧ I k m' H') ?_ k ⟨m, H, t, .refl _ _ _ _, hI⟩)
    rintro k s' ⟨m', H', t', k', hI'⟩
    refine wpAny_mono (soundB ck c fo hc (fun t h => soundE ck c fo hc t h) t' (hstep k m' H' hI')) (fun v s₁ h₁ => ?_) fun v s₁ h₁ => ?_
    · obtain ⟨b', H₁, rv, t₁, k₁, h₁⟩ := h₁
      have rv : v = b' := rv
      subst rv
      cases v with
      | true =>
        simp only [if_true] at h₁ ⊢
        refine wpAny_mono (soundSs b fo hfs hf hb t₁ h₁) (fun f s₂ h₂ => ?_) fun v s₂ h₂ => ?_
        · have h₂ := OkS.older (k'.trans k₁.nil) h₂
          cases f with
          | next => obtain ⟨m₂, H₂, t₂, k₂, j, hj, hI₂⟩ := h₂; exact ⟨j, hj, m₂, H₂, t₂, k₂, hI₂⟩
          | ret v => exact h₂
          | brk => exact h₂.elim
          | cont => exact h₂.elim
        · exact noted_ok fo.fr hfs hf t.base (ErS.older (k'.trans k₁.nil) h₂)
      | false =>
        simp only [Bool.false_eq_true, if_false] at h₁ ⊢
        exact wpAny_execs_nil ⟨m', H₁, t₁, k'.trans k₁.nil, h₁⟩
    · exact noted_ok fo.fr hfs hf t.base (ErS.older k' (ErP.toS h₁))
  | .ret e p, F, kd, q, m, H, s, N, R, X, outer, L, fo, hfs, hf, ok, t, h => by
    refine wpAny_Return_some (wpAny_mono (soundE ck e fo ok t h) (fun v s₁ h₁ => ?_) fun _ _ e => e.toS)
    obtain ⟨p, H₁, rv, t₁, k₁, h₁⟩ := h₁
    exact ⟨p, m, H₁, rv, t₁, k₁.nil, h₁⟩
  | .ret0 p, F, kd, q, m, H, s, N, R, X, outer, L, fo, hfs, hf, ok, t, h => wpAny_Return_none ⟨.none, m, H, .none, t, .refl _ _ _ _, h⟩
  | .raise c x msg k pc pm pk p, F, kd, q, m, H, s, N, R, X, outer, L, fo, hfs, hf, ok, t, h => by
    replace ok := (show (_ && _) = true from ok); simp only [Bool.and_eq_true, beq_iff_eq] at ok
    obtain ⟨⟨rfl, hx⟩, ho⟩ := ok
    exact ck.rais fo hx ho t fun e s' y t' k' => ⟨e, c, m, H, rfl, y, t', k'.nil, h⟩
  | .try b hs p, F, kd, q, m, H, s, N, R, X, outer, L, fo, hfs, hf, ok, t, h => by
    replace ok := (show (_ && _) = true from ok); simp only [Bool.and_eq_true, Bool.not_eq_true'] at ok
    obtain ⟨⟨⟨rfl, hb⟩, hh⟩, hnil⟩ := ok
    cases hs with
    | nil => simp [AHs.isNil] at hnil
    | cons k x px y b' p' hs' =>
      have hsb : EvS cx F (execs (b.toSs F.nm) F.env) H s N R (fun c m H => awpHs g (.cons k x px y b' p' hs') c N R m H) := soundSs b fo hfs hf hb t h
      refine wpAny_Try_except (wpAny_mono hsb (fun f s₁ h₁ => ?_) fun v s₁ h₁ => ?_)
      · cases f with
        | next => exact wpAny_execs_nil h₁
        | ret v => exact h₁
        | brk => exact h₁
        | cont => exact h₁
      · obtain ⟨e, c, m', H', rfl, y', t', k', h'⟩ := h₁
        refine note_ok fo.fr hfs hf t' k' t.base y' fun s₂ t₂ k₂ x₂ => ?_
        refine unflight_ok t₂ k₂ t.base x₂ fun s₃ t₃ k₃ x₃ => ?_
        exact soundHs (.cons k x px y b' p' hs') fo hfs hf hh t₃ t.base k₃ x₃ h'
theorem soundSs : ∀ (ss : ASs) {F : Fm} {kd : Kd} {q : Bool} {m : Loc} {H : AHeap} {s : Shared} {N : NPost} {R : Post} {X : SXPost} {outer : List Env} {L : Addr}, Fok cx n q kd F → F.fs = F.env :: outer → F.env.frame = some L → okSs fl F.nm F.vis kd q ss = true → St cx F m H s.heap →
    awpSs g ss N R X m H → EvS cx F (execs (ss.toSs F.nm) F.env) H s N R X
  | .nil, F, kd, q, m, H, s, N, R, X, outer, L, fo, hfs, hf, ok, t, h => wpAny_execs_nil ⟨m, H, t, .refl _ _ _ _, h⟩
  | .cons st ss, F, kd, q, m, H, s, N, R, X, outer, L, fo, hfs, hf, ok, t, h => by
    replace ok := (show (_ && _) = true from ok); simp only [Bool.and_eq_true] at ok
    exact EvS.seq (soundS st fo hfs hf ok.1 t h) fun m₁ s₁ H₁ t₁ h₁ => soundSs ss fo hfs hf ok.2 t₁ h₁
theorem soundHs : ∀ (hs : AHs) {F : Fm} {kd : Kd} {m : Loc} {H H₀ : AHeap} {s s₀ : Shared} {N : NPost} {R : Post} {outer : List Env} {L e : Addr} {c : Nat} {E : Value → Shared → Prop}, Fok cx n true kd F → F.fs = F.env :: outer → F.env.frame = some L → okHs fl F.nm F.vis kd hs = true → St cx F m H s.heap →
    cx.B.StaysIn s₀.heap → Kp cx (plc F) H₀ s₀ H s → ExcOut cx s₀.heap s.heap e c → awpHs g hs c N R m H → wpAny cx.M F.A (handleBy (.ref e) F.env (hs.toHs F.nm)) (OkS cx F H₀ s₀ N R) E s
  | .nil, F, kd, m, H, H₀, s, s₀, N, R, outer, L, e, c, E, fo, hfs, hf, ok, t, t₀, k, x, h => False.elim h
  | .cons kc xn px y b p hs, F, kd, m, H, H₀, s, s₀, N, R, outer, L, e, c, E, fo, hfs, hf, ok, t, t₀, k, x, h => by
    replace ok := (show (_ && _) = true from ok); simp only [Bool.and_eq_true, beq_iff_eq, Bool.not_eq_true'] at ok
    obtain ⟨⟨⟨⟨⟨hg, ho⟩, hy⟩, hb⟩, hnil⟩, hhs⟩ := ok
    obtain ⟨C, hC, hm⟩ := ck.own xn kc ho
    have fo' : Fok cx n false kd (F.mark (.ref e)) := fo.mark
    refine wpAny_handleBy_cons (codeAny_handlers_test (glob_ok (F := F.mark (.ref e)) fo' hg t.mark ck.gns hm ?_)) (by intro q; cases q)
    refine ck.mats t.base x.rep hC fun tk => ?_
    have k' : Kp cx (plc F) H₀ s₀ H { s with toks := tk } := k.trans (.grow (fun _ _ e => e) fun _ _ _ e => e)
    have h' : (if isSub c kc = true then _ else _) := h
    cases hsub : isSub c kc with
    | false =>
      rw [hsub] at h'
      simp only [Bool.false_eq_true, if_false] at h'
      exact soundHs hs (s := { s with toks := tk }) fo hfs hf hhs t t₀ k' x h'
    | true =>
      rw [hsub] at h'
      simp only [if_true] at h'
      cases b with
      | nil => simp [ASs.isNil] at hnil
      | cons b₀ bs =>
        cases y with
        | none =>
          refine codeAny_handlers_suite ?_
          refine unflight_ok (s₁ := { s with toks := tk }) t k' t₀ x fun s₂ t₂ k₂ x₂ => ?_
          have := soundSs (.cons b₀ bs) (F := F.mark (.ref e)) fo' hfs hf hb t₂.mark h'
          exact wpAny_mono this (fun f s₃ h₃ => (OkS.unmark h₃).older k₂) fun _ _ ⟨_, _, _, _, _, _, _, _, f⟩ => f.elim
        | some y =>
          simp only [Bool.and_eq_true, beq_iff_eq] at hy
          refine codeAny_handlers_suite_as ?_
          refine unflight_ok (s₁ := { s with toks := tk }) t k' t₀ x fun s₂ t₂ k₂ x₂ => ?_
          refine store_name fo hy.1 (.inl hy.2) t₂ x₂.rep fun s₃ t₃ k₃ _ => ?_
          have := soundSs (.cons b₀ bs) (F := F.mark (.ref e)) fo' hfs hf hb t₃.mark h'
          refine wpAny_mono this (fun f s₄ h₄ => ?_) fun _ _ ⟨_, _, _, _, _, _, _, _, f⟩ => f.elim
          have h₅ := (OkS.unmark h₄).older (k₂.trans k₃)
          cases f with
          | next =>
            obtain ⟨m₅, H₅, t₅, k₅, hN⟩ := h₅
            exact unbind_ok fo hy.1 hy.2 t₅ fun s₆ t₆ k₆ _ => ⟨_, _, t₆, k₅.trans k₆, hN⟩
          | ret v =>
            obtain ⟨p, m₅, H₅, r₅, t₅, k₅, hR⟩ := h₅
            exact unbind_ok fo hy.1 hy.2 t₅ fun s₆ t₆ k₆ so => ⟨p, _, _, r₅.mono so, t₆, k₅.trans k₆, hR⟩
          | brk => exact h₅.elim
          | cont => exact h₅.elim
end
end
end Mine
end
section
open PySem PySem.Calls PyProof.Rows
namespace Mine
set_option autoImplicit false

structure FnOk (cx : Cx) (fl : List Str) (fd : FuncData) (nm : List Str) (np k : Nat) (kd : Kd) (body : ASs) : Prop where
  glob : fd.globals = cx.ga
  bltn : fd.builtins = cx.ba
  clo : fd.closure = []
  co : fd.scope.isCoroutine = false
  gen : fd.scope.isGenerator = false
  kind : fd.scope.kind = .function
  kdo : kd = fun x => fd.scope.names.lookup x
  nofree : (fd.scope.names.all fun p => p.2 != .free) = true
  bdy : fd.body = .stmts (body.toSs nm)
  bind : ∀ vals : List Value, vals.length = np → bindArgs fd ⟨vals, []⟩ = pure ((nm.take np).zip vals)
  nodup : (nm.take k).Nodup
  le : np ≤ k ∧ k ≤ nm.length
  pkind : ((nm.take np).all fun x => fd.scope.names.lookup x == some .local || fd.scope.names.lookup x == some .cell) = true
  okb : okSs fl nm (fun i => decide (i < k)) (fun x => fd.scope.names.lookup x) true body = true

section
variable {kindOf : Str → Option NameKind}
theorem bindL_other {y : Str} : ∀ (bs : List (Str × Value)) (m : Str → Option Value), y ∉ bs.map (·.1) → bindL kindOf bs m y = m y
  | [], _, _ => rfl
  | (x, v) :: r, m, h => by
    simp only [List.map_cons, List.mem_cons, not_or] at h
    unfold bindL
    rw [bindL_other r _ h.2]
    split
    · simp [h.1]
    · rfl
theorem bindC_other {y : Str} : ∀ (bs : List (Str × Value)) (m : Str → Option Value), y ∉ bs.map (·.1) → bindC kindOf bs m y = m y
  | [], _, _ => rfl
  | (x, v) :: r, m, h => by
    simp only [List.map_cons, List.mem_cons, not_or] at h
    unfold bindC
    rw [bindC_other r _ h.2]
    split
    · rfl
    · simp [h.1]
theorem bindL_at {y : Str} {v : Value} (hk : kindOf y = some .local) : ∀ (bs : List (Str × Value)) (m : Str → Option Value), (bs.map (·.1)).Nodup → (y, v) ∈ bs → bindL kindOf bs m y = some v
  | [], _, _, h => by simp at h
  | (x, w) :: r, m, hn, h => by
    simp only [List.map_cons, List.nodup_cons] at hn
    unfold bindL
    rcases List.mem_cons.mp h with e | h
    · cases e
      rw [bindL_other r _ hn.1, if_pos hk]; simp
    · exact bindL_at hk r _ hn.2 h
theorem bindC_at {y : Str} {v : Value} (hk : kindOf y ≠ some .local) : ∀ (bs : List (Str × Value)) (m : Str → Option Value), (bs.map (·.1)).Nodup → (y, v) ∈ bs → bindC kindOf bs m y = some v
  | [], _, _, h => by simp at h
  | (x, w) :: r, m, hn, h => by
    simp only [List.map_cons, List.nodup_cons] at hn
    unfold bindC
    rcases List.mem_cons.mp h with e | h
    · cases e
      rw [bindC_other r _ hn.1, if_neg hk]; simp
    · exact bindC_at hk r _ hn.2 h
end

theorem cellsFrom_has {x : Str} : ∀ (names : List (Str × NameKind)) (n : Nat) (acc : List (Str × Addr)), ((x, NameKind.cell) ∈ names ∨ (acc.lookup x).isSome = true) → ((cellsFrom n names acc).lookup x).isSome = true
  | [], _, acc, h => by rcases h with h | h; simp at h; exact h
  | (y, k) :: r, n, acc, h => by
    unfold cellsFrom
    split
    · refine cellsFrom_has r _ _ ?_
      rcases h with h | h
      · rcases List.mem_cons.mp h with e | h
        · cases e; right; simp
        · exact .inl h
      · right; rw [List.lookup_cons]; split <;> simp_all
    · rename_i hk
      refine cellsFrom_has r _ _ ?_
      rcases h with h | h
      · rcases List.mem_cons.mp h with e | h
        · cases e; simp at hk
        · exact .inl h
      · exact .inr h
theorem lookup_mem {α : Type} {l : List (Str × α)} {x : Str} {k : α} (h : l.lookup x = some k) : (x, k) ∈ l := mem_of_lookup h

noncomputable def initL (nm : List Str) (np : Nat) (ps : List PV) : Loc := ps.map some ++ List.replicate (nm.length - np) none

section
variable {cx : Cx} {g : Gl} {fl : List Str} {mg mb : Str → Option Value} {n : Nat}

theorem core_fn (ck : Cok cx g fl mg mb n) {fd : FuncData} {nm : List Str} {np k : Nat} {kd : Kd} {body : ASs} {a : Addr} {o : Obj} (fn : FnOk cx fl fd nm np k kd body) (lim : cx.B.NoLimit) (ho : cx.B.get? a = some o) (hd : o.data = .func fd) (hcd : cx.B.CodeRec fd.code fd.qualname)
    {A : Around} {fs : List Env} {H : AHeap} {s : Shared} {vs : List Value} {ps : List PV} {Q : Post} {X : XPost} {R : Result → Shared → Prop} (hfr : A.frames = some fs) (hqu : A.handled = none) (hdep : A.depth + 2 * (n + 1) ≤ 900) (huni : A.units + 8 * (n + 1) + 200 ≤ cLine)
    (tb : cx.B.StaysIn s.heap) (toff : ∀ b o, cx.B.get? b = some o → H b = none) (th : Holds cx s.heap H) (tfr : ∀ env ∈ fs, FrAt cx H s.heap env) (rs : RepL cx s.heap vs ps) (hlen : ps.length = np)
    (h : awpSs g body (fun _ H => Q .none H) Q (fun c _ H => X c H) (initL nm np ps) H)
    (hR : ∀ v p H' s', Rep cx s'.heap v p → Kp cx [] H s H' s' → Holds cx s'.heap H' → Q p H' → R (.ok (.ret v)) s')
    (hX : ∀ e c H' s', ExcOut cx s.heap s'.heap e c → Kp cx [] H s H' s' → Holds cx s'.heap H' → X c H' → R (.error (.ref e)) s') : codeAny cx.M A (.call (.ref a) ⟨vs, []⟩) R s := by
  have hvl : vs.length = np := by rw [rs.length]; exact hlen
  have fresh : ∀ b, s.heap.objs.size ≤ b → s.heap.get? b = none := fun b hb => get_ge_none hb
  have bnone : ∀ b, s.heap.objs.size ≤ b → cx.B.get? b = none := fun b hb => by
    cases e : cx.B.get? b with
    | none => rfl
    | some o => have := fresh b hb; rw [tb _ _ e] at this; cases this
  have hnd : ((nm.take np).Nodup) := by
    have h1 : nm.take np = (nm.take k).take np := by rw [List.take_take, Nat.min_eq_left fn.le.1]
    rw [h1]; exact fn.nodup.sublist (List.take_sublist _ _)
  have htl : (nm.take np).length = np := by rw [List.length_take]; have := fn.le; first | lia | omega
  have hmapz : ((nm.take np).zip vs).map (·.1) = nm.take np := by rw [List.map_fst_zip]; first | lia | omega
  refine (codeAny_call_cells (binds := (nm.take np).zip vs) (by show _ < 1000; first | lia | omega) (tb _ _ ho) hd (lim.keeps tb) (hcd.keeps tb) fn.bdy (fn.bind vs hvl) fn.clo (fun x hx => ?_) (fun s₁ ic => ?_) fn.co fn.gen fn.kind)
  · have hx1 : x.1 ∈ nm.take np := by rw [← hmapz]; exact List.mem_map_of_mem hx
    have := List.all_eq_true.mp fn.pkind x.1 hx1
    simp only [Bool.or_eq_true, beq_iff_eq] at this
    rcases this with h1 | h1
    · exact .inl h1
    · exact .inr ⟨h1, cellsFrom_has _ _ _ (.inl (lookup_mem h1))⟩
  · generalize hEnv : callEnvC fd s.heap.objs.size a = env at ic ⊢
    have eL : env.locals = s.heap.objs.size := by rw [← hEnv]; rfl
    have eF : env.frame = some s.heap.objs.size := by rw [← hEnv]; rfl
    have eK : env.kindOf = fun x => fd.scope.names.lookup x := by rw [← hEnv]; rfl
    have eC : env.cells = cellsFrom (s.heap.objs.size + 1) fd.scope.names [] := by rw [← hEnv]; rfl
    have eG : env.globals = cx.ga := by rw [← hEnv, ← fn.glob]; rfl
    have eB : env.builtins = cx.ba := by rw [← hEnv, ← fn.bltn]; rfl
    have eS : env.scope.kind = .function := by rw [← hEnv]; exact fn.kind
    have eD : fd.scope.names = env.scope.names := by rw [← hEnv]; rfl
    clear hEnv
    have keep := ic.toInCall.keep
    have so : ∀ b o, s.heap.get? b = some o → Solid o → s₁.heap.get? b = some o := fun b o e _ => keep b o e
    let F' : Fm := { A := A.deeper env, env := env, fs := env :: fs, nm := nm, vis := fun i => decide (i < k) }
    have memz : ∀ i v, i < k → (initL nm np ps).getD i none = some v → ∃ x, (slot nm i, x) ∈ (nm.take np).zip vs ∧ Rep cx s₁.heap x v := fun i v hi hv => by
      have hlt : i < np := by
        apply Classical.byContradiction
        intro hge
        have : (initL nm np ps).getD i none = none := by
          unfold initL
          rw [List.getD_eq_getElem?_getD, List.getElem?_append_right (by simp; first | lia | omega)]
          cases e : (List.replicate (nm.length - np) (none : Option PV))[i - (ps.map some).length]? with
          | none => rfl
          | some o => rw [List.getElem?_replicate] at e; split at e <;> simp_all
        rw [this] at hv; cases hv
      have hp : ps[i]? = some v := by
        unfold initL at hv
        rw [List.getD_eq_getElem?_getD, List.getElem?_append_left (by simp; first | lia | omega)] at hv
        rw [List.getElem?_map] at hv
        cases e : ps[i]? with
        | none => rw [e] at hv; simp at hv
        | some w => rw [e] at hv; simp at hv; rw [hv]
      obtain ⟨x, ex, rx⟩ := rs.get hp
      refine ⟨x, ?_, rx.mono so⟩
      have hin : i < nm.length := by have := fn.le; first | lia | omega
      have e1 : (nm.take np)[i]? = some (slot nm i) := by
        rw [List.getElem?_take, if_pos hlt]
        unfold slot
        rw [List.getD_eq_getElem?_getD, List.getElem?_eq_getElem hin]; rfl
      have : ((nm.take np).zip vs)[i]? = some (slot nm i, x) := by rw [List.getElem?_zip_eq_some]; exact ⟨e1, ex⟩
      exact List.mem_of_getElem? this
    have fo' : Fok cx n true kd F' := by
      refine ⟨?_, eS, by rw [fn.kdo]; exact eK, eG, eB, fun _ => hqu, ?_, ?_, fun x hx => ?_, fun x y c h1 h2 => ?_, fun i j hi hj e => ?_⟩
      · show (A.deeper env).frames = some (env :: fs)
        unfold Around.deeper; rw [hfr]; rfl
      · show A.depth + 1 + 2 * n + 1 ≤ 900; first | lia | omega
      · show A.units + 3 + 8 * n + 204 ≤ cLine; first | lia | omega
      · rw [fn.kdo] at hx
        rcases hx with hx | hx
        · exact Option.isSome_iff_exists.mp (by show (env.cells.lookup x).isSome = true; rw [eC]; exact cellsFrom_has _ _ _ (.inl (lookup_mem hx)))
        · have := List.all_eq_true.mp fn.nofree _ (lookup_mem hx)
          simp at this
      · exact name_of_addr ic.apart (mem_of_lookup h1) (mem_of_lookup h2)
      · have hi' : i < k := of_decide_eq_true hi
        have hj' : j < k := of_decide_eq_true hj
        have hl := fn.le.2
        have ei : (nm.take k)[i]? = some (slot nm i) := by
          rw [List.getElem?_take, if_pos hi']; unfold slot; rw [List.getD_eq_getElem?_getD, List.getElem?_eq_getElem (by first | lia | omega)]; rfl
        have ej : (nm.take k)[j]? = some (slot nm j) := by
          rw [List.getElem?_take, if_pos hj']; unfold slot; rw [List.getD_eq_getElem?_getD, List.getElem?_eq_getElem (by first | lia | omega)]; rfl
        have e' : slot nm i = slot nm j := e
        rw [e'] at ei
        exact (List.getElem?_inj (by rw [List.length_take]; first | lia | omega) fn.nodup).mp (by rw [ei, ej])
    have st' : St cx F' (initL nm np ps) H s₁.heap := by
      obtain ⟨oL, es, ep, gL, dL, rL⟩ := id ic.toInCall.ns
      rw [eL] at gL
      refine ⟨fun b o e => keep b o (tb b o e), toff, th.grow keep, fun env' he => ?_, ⟨?_, ?_⟩, ⟨oL, es, ep, _, by rw [← eL] at gL; exact gL, dL, ic.toInCall.ns, fun i v h1 h2 h3 => ?_⟩, fun nn c hc => ?_⟩
      · rcases List.mem_cons.mp he with rfl | he
        · exact ⟨by rw [eS]; decide, s.heap.objs.size, oL, es, ep, eF, th.fresh (fresh _ (Nat.le_refl _)), bnone _ (Nat.le_refl _), gL, dL⟩
        · obtain ⟨hk, L, o, es, ep, hf, hH, hb, ho, hd'⟩ := tfr env' he
          exact ⟨hk, L, o, es, ep, hf, hH, hb, keep L o ho, hd'⟩
      · show H env.locals = none
        rw [eL]; exact th.fresh (fresh _ (Nat.le_refl _))
      · show cx.B.get? env.locals = none
        rw [eL]; exact bnone _ (Nat.le_refl _)
      · obtain ⟨x, hx, rx⟩ := memz i v (of_decide_eq_true h1) h3
        exact ⟨x, bindL_at h2 _ _ (by rw [hmapz]; exact hnd) hx, rx⟩
      · obtain ⟨oc, gc, dc⟩ := ic.cell nn c hc
        have hlt := ic.above nn c (mem_of_lookup hc)
        rw [eL] at hlt
        refine ⟨th.fresh (fresh _ (Nat.le_of_lt hlt)), bnone _ (Nat.le_of_lt hlt), oc, _, gc, dc, fun i v h1 h2 h3 h4 => ?_⟩
        obtain ⟨x, hx, rx⟩ := memz i v (of_decide_eq_true h1) h4
        subst h2
        exact ⟨x, bindC_at h3 _ _ (by rw [hmapz]; exact hnd) hx, rx⟩
    have kp₁ : Kp cx (plc F') H s H s₁ := by
      obtain ⟨h', tk, e⟩ := ic.toInCall.same
      rw [e]
      exact .grow (fun b o q => by have := keep b o q; rw [e] at this; exact this) fun _ _ _ q => q
    have down : ∀ {H' : AHeap} {s' : Shared}, Kp cx (plc F') H s H' s' → Kp cx [] H s H' s' := fun {H' s'} kp => kp.sub fun b o e hb => by
      exfalso
      rcases List.mem_cons.mp hb with q | hb
      · rw [q] at e; have : s.heap.get? env.locals = none := by rw [eL]; exact fresh _ (Nat.le_refl _)
        rw [show F'.env.locals = env.locals from rfl, this] at e; cases e
      · obtain ⟨p, _, hl⟩ := List.mem_filterMap.mp hb
        have hlt := ic.above p.1 b (mem_of_lookup hl)
        rw [eL] at hlt
        rw [fresh b (Nat.le_of_lt hlt)] at e; cases e
    have body := soundSs ck body (F := F') (outer := fs) (L := s.heap.objs.size) fo' rfl eF (by rw [fn.kdo]; exact fn.okb) st' h
    refine wpAny_mono body (fun f s' h' => ?_) fun e s' h' => ?_
    · cases f with
      | next =>
        obtain ⟨m', H', t', kp', hq⟩ := h'
        exact hR .none .none H' _ .none (down (kp₁.trans kp')) t'.heap hq
      | ret v =>
        obtain ⟨p, m', H', rv, t', kp', hq⟩ := h'
        exact hR v p H' _ rv (down (kp₁.trans kp')) t'.heap hq
      | brk => exact h'.elim
      | cont => exact h'.elim
    · obtain ⟨e, c, m', H', rfl, x', t', kp', hx⟩ := h'
      have kpp := kp₁.trans kp'
      have x₀ := x'.older kp₁.alive
      unfold leaving
      refine wpAny_bind (note_ok (F := F') (outer := fs) fo'.fr rfl eF t' kpp tb x₀ fun s₂ t₂ k₂ x₂ => ?_)
      refine unflight_ok t₂ k₂ tb x₂ fun s₃ t₃ k₃ x₃ => ?_
      exact hX e c H' _ x₃ (down k₃) t₃.heap hx
theorem call_fn (ck : Cok cx g fl mg mb n) {fd : FuncData} {nm : List Str} {np k : Nat} {kd : Kd} {body : ASs} {a : Addr} {o : Obj} (fn : FnOk cx fl fd nm np k kd body) (lim : cx.B.NoLimit) (ho : cx.B.get? a = some o) (hd : o.data = .func fd) (hcd : cx.B.CodeRec fd.code fd.qualname)
    {F : Fm} {m : Loc} {H : AHeap} {s : Shared} {vs : List Value} {ps : List PV} {Q : Post} {X : XPost} (fF : Fcl (n + 1) F) (rs : RepL cx s.heap vs ps) (hlen : ps.length = np) (t : St cx F m H s.heap)
    (h : awpSs g body (fun _ H => Q .none H) Q (fun c _ H => X c H) (initL nm np ps) H) : Ev (Rep cx) cx F (call (.ref a) vs []) m H s Q X :=
  wpAny_call (core_fn ck fn lim ho hd hcd fF.fr fF.quiet fF.depth fF.units t.base t.off t.heap t.frames rs hlen h (fun v p H' s' rv kp hh q => ⟨p, H', rv, t.step kp hh, kp, q⟩) fun e c H' s' x kp hh q => ⟨e, c, H', rfl, x.exc, t.step kp hh, kp, q⟩)
end
end Mine
end
section
open PySem PySem.W PySem.Calls PyProof.Rows
namespace Mine
set_option autoImplicit false
set_option maxRecDepth 100000

/-! the program's globals, told from its laid heap -/
noncomputable def kmg (K : Frag) (x : Str) : Option Value := match K.lookup mainGlobals with
  | some o => (match o.data with | .dict es _ => nsFind es x | _ => none)
  | none => none
theorem kmg_eq {K : Frag} {h : Heap} {mg : Str → Option Value} (X : K.In h) (hs : (K.lookup mainGlobals).isSome = true) (hn : h.Ns mainGlobals mg) : mg = kmg K := by
  obtain ⟨o, e⟩ := Option.isSome_iff_exists.mp hs
  rw [hn.eq_nsMap]
  funext x
  unfold Heap.nsMap kmg
  rw [X _ _ e, e]
  cases o.data <;> rfl

noncomputable def ownChk (K : Frag) (cs : List Addr) : Bool := onms.all fun p => kmg K p.1 == (cs[p.2]?).map Value.ref && (cs[p.2]?).isSome
noncomputable def clsChk (K : Frag) (D : Addr) : Bool := ((findIn K (.ref D) "__getattribute__" == some (some (.builtin "BaseException.__getattribute__"))) && (findIn K (.ref D) "__getattr__" == some none) && (subIn K (.ref D) (.type "BaseException") == some true)) && (clsIn K D).isSome && (findIn K (.ref D) "__class__" == some (some (.builtin "object.__class__")))
  && (specialIn K (.builtin "object.__class__") "__get__" == some (some (.builtin "getset_descriptor.__get__"))) && (takesIn K (.builtin "object.__class__") == some true) && (mroIn K D (.type "object") == some true)
  && (kitOne K (.ref D) (.type "ValueError") == some true)
noncomputable def excChk (K : Frag) (cs : List Addr) : Bool := cs.all (clsChk K) && (List.range cs.length).all fun k => (List.range cs.length).all fun c =>
  match cs[k]?, cs[c]? with
  | some A, some B => (kitOne K (.ref A) (.ref B) == some (isSub k c)) && (exmOne K (.ref A) (.ref B) == some (isSub k c))
  | _, _ => false
noncomputable def bltNames : List Str := ["len", "list", "tuple", "range", "max", "min", "int", "str", "all", "any", "abs", "isinstance", "bool", "ValueError"]
noncomputable def bltChk (K : Frag) : Bool := bltNames.all fun x => kmg K x == none

theorem excChk_at {K : Frag} {cs : List Addr} (h : excChk K cs = true) {k c : Nat} {A B : Addr} (hk : cs[k]? = some A) (hc : cs[c]? = some B) : clsChk K A = true ∧ kitOne K (.ref A) (.ref B) = some (isSub k c) ∧ exmOne K (.ref A) (.ref B) = some (isSub k c) := by
  unfold excChk at h
  simp only [Bool.and_eq_true] at h
  have h1 := List.all_eq_true.mp h.1 A (List.mem_of_getElem? hk)
  have kl : k < cs.length := (List.getElem?_eq_some_iff.mp hk).1
  have cl : c < cs.length := (List.getElem?_eq_some_iff.mp hc).1
  have h2 := List.all_eq_true.mp (List.all_eq_true.mp h.2 k (List.mem_range.mpr kl)) c (List.mem_range.mpr cl)
  rw [hk, hc] at h2
  simp only [Bool.and_eq_true, beq_iff_eq] at h2
  exact ⟨h1, h2.1, h2.2⟩

section
variable {K : Frag} {x D : Addr} {ox : Obj} {prog : Program} {w : World} {A : Around} {E : Value → Shared → Prop} {s : Shared}
end

section
variable {K : Frag} {x D : Addr} {ox : Obj}

end

section
variable {cx : Cx} {K : Frag} {cs : List Addr} {mg mb : Str → Option Value}

theorem Rep.excI {h : Heap} {v : Value} {k : Nat} (r : Rep cx h v (.exc k)) : ∃ e o vs C, v = .ref e ∧ h.get? e = some o ∧ o.cls = .ref C ∧ o.data = .fields vs ∧ cx.cls k = some C ∧ o.dict = Option.none := by
  cases r with | exc e c d x y => exact ⟨_, _, _, _, rfl, e, c, d, x, y⟩
theorem instAt_of {h : Heap} {e C : Addr} {o : Obj} {vs : Array Value} (g : h.get? e = some o) (c : o.cls = .ref C) (d : o.data = .fields vs) (y : o.dict = none) : InstAt h e o C none :=
  ⟨g, c, by unfold notCls; rw [d], by rw [y]; trivial⟩

theorem mats_ok (X : K.In cx.B) (hcs : cx.cls = fun c => cs[c]?) (hk : excChk K cs = true) {A : Around} {s : Shared} {e : Value} {k c : Nat} {C : Addr} {QQ : Bool → Shared → Prop} {E : Value → Shared → Prop} (t : cx.B.StaysIn s.heap) (r : Rep cx s.heap e (.exc k)) (hc : cx.cls c = some C)
    (hQ : ∀ tk, QQ (isSub k c) { s with toks := tk }) : wpAny cx.M A (excMatches e (.ref C)) QQ E s := by
  obtain ⟨a, o, vs, D, rfl, g, hcl, hd, hD, hy⟩ := r.excI
  rw [hcs] at hc hD
  obtain ⟨_, _, h2⟩ := excChk_at hk hD hc
  exact exm_one (M := cx.M) (X.keeps t) (instAt_of g hcl hd hy).type h2 _ _ _ _ (fun _ _ e => e) (hQ s.toks)

theorem rais_ok {n : Nat} (gns : cx.B.Ns cx.ga mg) {F : Fm} {kd : Kd} {m : Loc} {H : AHeap} {s : Shared} {c : Nat} {x msg : Str} {k : Nat} {pc pm pk p : Pos} {QQ : Flow → Shared → Prop} {E : Value → Shared → Prop} {C : Addr} {bm : List Value} {newId initId B : String}
    (O : OwnCls x C bm newId mg cx.B) (FB : ExcBaseFacts B newId initId bm) (hC : cx.cls c = some C)
    (fo : Fok cx n true kd F) (gk : isGlob kd x = true) (t : St cx F m H s.heap) (hE : ∀ e s', Exc cx F.env.frame s.heap s'.heap e c → St cx F m H s'.heap → Kp cx [] H s H s' → E (.ref e) s') :
    wpAny cx.M F.A (exec (.Raise (some (.Call (.Name x pc) [.Constant (.str msg) k pm] [] pk)) none p) F.env) QQ E s := by
  obtain ⟨tl, N, nm, q, bs, hdct, sn, sub, ab, col, dd, k0, k1, k2, k3, k5, mN, gC, hN, hni, T⟩ := O.obj
  refine wpAny_Raise_call_subT (C := C) (nm := nm) (q := q) (N := N) (bs := bs) (bm := tl) (hdct := hdct) (sn := sn) (sub := sub) (ab := ab) (col := col) (dd := dd) (k0 := k0) (k1 := k1) (k2 := k2) (k3 := k3) (k5 := k5)
    FB (mN := mN) (T.hasType FB.hasBase) (fo.quiet rfl) rfl hni (glob_ok fo gk t gns O.bound ⟨rfl, ?_⟩)
  refine evalArgs_plain (spliced_cons (Constant_str (k := k) (pos := pm) (spliced_nil ⟨rfl, by rw [sizeLine_eq]; simp, t.base _ _ gC, hN.keeps t.base, T.keeps t.base, fun h' e hm => ?_⟩)))
  obtain ⟨tt, ge, _, _⟩ := hm.there
  have kp : Kp cx [] H s H { s with heap := h', toks := s.toks + 1 } := .grow hm.keeps fun _ _ _ q => q
  exact hE e _ ⟨hm.new, _, _, C, _, ge, rfl, ⟨hC, rfl⟩, rfl, rfl, .inl rfl⟩ (t.step kp (t.heap.grow hm.keeps)) kp

theorem boot_blt : ∀ b : Blt, bootBuiltins b.name = some b.val := by intro b; cases b <;> decide +kernel
theorem boot_isi : bootBuiltins "isinstance" = some (.builtin "isinstance") := by decide +kernel
theorem boot_bty : ∀ T ∈ ["str", "list", "tuple", "bool", "int", "ValueError"], bootBuiltins (Str.ofString T) = some (.type T) := by decide +kernel
end
end Mine
end
section
open PySem PySem.W PySem.Calls PyProof.Rows
namespace Mine
set_option autoImplicit false

noncomputable def bmVE : List Value := [.type "ValueError", .type "Exception", .type "BaseException", .type "object"]
noncomputable def ownsChk (p : Program) : Bool := onms.all fun q => (ownsOf p).any fun o => o.name == q.1 && o.newId == "ValueError.__new__" && o.bm == bmVE

theorem lookup_in {x : Str} {c : Nat} (h : onm x = some c) : (x, c) ∈ onms := mem_of_lookup h

section
variable {cx : Cx} {K : Frag} {cs : List Addr} {mg mb : Str → Option Value} {g : Gl} {p : Program} {loose : List Str} {mean : ExcName → Option Value}

theorem cok_base (X : K.In cx.B) (hs : (K.lookup mainGlobals).isSome = true) (T : Top p loose mean mg mb cx.B) (hga : cx.ga = mainGlobals) (hba : cx.ba = builtinsNs) (hcs : cx.cls = fun c => cs[c]?) (hk : excChk K cs = true) (how : ownChk K cs = true) (hbl : bltChk K = true) (hoc : ownsChk p = true)
    (mach : ∃ C N, cx.icls = some C ∧ mg "Machine" = some (.ref C) ∧ ClsAt cx.B C N cx.mN ∧ ∀ x ∈ (["__getattribute__", "__getattr__", "__setattr__"] : List Str) ++ atns, cx.mN x = none) (consts : ∀ x q, g.G x = some q → ∃ v, mg x = some v ∧ Rep cx cx.B v q) : Cok cx g [] mg mb 0 := by
  have hmg := kmg_eq X hs T.g
  have free : ∀ x ∈ bltNames, mg x = none := fun x hx => by
    rw [hmg]
    have := List.all_eq_true.mp hbl x hx
    simpa using this
  have nn : ∀ x ∈ bltNames, x ≠ Str.ofString "__name__" := by decide +kernel
  have own : ∀ x c, onm x = some c → ∃ C, cx.cls c = some C ∧ mg x = some (.ref C) := fun x c hx => by
    have := List.all_eq_true.mp how (x, c) (lookup_in hx)
    simp only [Bool.and_eq_true, beq_iff_eq] at this
    obtain ⟨C, hC⟩ := Option.isSome_iff_exists.mp this.2
    refine ⟨C, by rw [hcs]; exact hC, ?_⟩
    rw [hmg, this.1, hC]; rfl
  refine ⟨by rw [hga]; exact T.g, ?_, by rw [hba]; exact T.b, consts, fun b => ?_, ⟨free _ (by decide +kernel), (T.builtins _ (by decide +kernel)).trans boot_isi⟩, fun t ht => ?_, own, ?_, ?_, mach, fun f hf => ?_, fun f hf => ?_⟩
  · obtain ⟨o, e⟩ := Option.isSome_iff_exists.mp hs
    exact ⟨mainGlobals, o, by decide, X _ _ e⟩
  · have hb : Str.ofString b.name ∈ bltNames := by cases b <;> decide +kernel
    exact ⟨free _ hb, (T.builtins _ (nn _ hb)).trans (boot_blt b)⟩
  · have hb : ∀ t ∈ ["str", "list", "tuple", "bool", "int", "ValueError"], Str.ofString t ∈ bltNames := by decide +kernel
    exact ⟨free _ (hb t ht), (T.builtins _ (nn _ (hb t ht))).trans (boot_bty t ht)⟩
  · intro F kd m H s c x msg k pc pm pk pp QQ E fo gk ho t hE
    have := List.all_eq_true.mp hoc (x, c) (lookup_in ho)
    obtain ⟨o, hom, hoo⟩ := List.any_eq_true.mp this
    simp only [Bool.and_eq_true, beq_iff_eq] at hoo
    obtain ⟨⟨h1, h2⟩, h3⟩ := hoo
    obtain ⟨C, O, _⟩ := T.own o hom
    obtain ⟨C', hC', hb'⟩ := own x c ho
    have O' := O.own
    rw [h1, h2, h3] at O'
    have : C = C' := by have := O'.bound; rw [hb'] at this; cases this; rfl
    subst this
    exact rais_ok (by rw [hga]; exact T.g) O' PySem.F.excBase_ValueError hC' fo gk t hE
  · exact fun t r hc hQ => mats_ok X hcs hk t r hc hQ
  · simp at hf
  · simp at hf
end

section
variable {cx : Cx} {mg mb : Str → Option Value} {g : Gl} {fl : List Str} {n : Nat}
theorem Fcl.less {F : Fm} (fo : Fcl (n + 1) F) : Fcl n F := ⟨fo.fr, fo.quiet, by have := fo.depth; (first | lia | omega), by have := fo.units; (first | lia | omega)⟩
theorem Fok.less {q : Bool} {kd : Kd} {F : Fm} (fo : Fok cx (n + 1) q kd F) : Fok cx n q kd F := ⟨fo.fr, fo.kind, fo.kdo, fo.glob, fo.bltn, fo.quiet, by have := fo.depth; (first | lia | omega), by have := fo.units; (first | lia | omega), fo.cells, fo.apart, fo.inj⟩

theorem Cok.add (ck : Cok cx g fl mg mb n) {f : Str} {fd : FuncData} {nm : List Str} {np k : Nat} {kd : Kd} {body : ASs} {a : Addr} {o : Obj} (hf : fad cx mg f = some (.ref a)) (hcl : isMeth f = true → o.cls = .type "function") (fn : FnOk cx fl fd nm np k kd body) (lim : cx.B.NoLimit) (ho : cx.B.get? a = some o) (hd : o.data = .func fd) (hcd : cx.B.CodeRec fd.code fd.qualname)
    (spec : ∀ {ps : List PV} {H : AHeap} {Q : Post} {X : XPost}, g.C f ps H Q X → ps.length = np ∧ awpSs g body (fun _ H => Q .none H) Q (fun c _ H => X c H) (initL nm np ps) H) : Cok cx g (f :: fl) mg mb (n + 1) := by
  refine ⟨ck.gns, ck.mods, ck.bns, ck.consts, ck.blts, ck.isi, ck.bty, ck.own, fun fo gk ho t hE => ck.rais fo.less gk ho t hE, ck.mats, ck.mach, fun f' h' => ?_, fun f' h' {ps H Q X} hc {F m s vs a'} fo hm rs t => ?_⟩
  · rw [List.contains_cons, Bool.or_eq_true] at h'
    rcases h' with h' | h'
    · rw [beq_iff_eq.mp h']; exact ⟨a, o, fd, hf, ho, hd, hcl⟩
    · exact ck.fns f' h'
  · by_cases e : f' = f
    · subst e
      rw [hf] at hm; cases hm
      obtain ⟨h1, h2⟩ := spec hc
      exact call_fn ck fn lim ho hd hcd fo rs h1 t h2
    · rw [List.contains_cons, Bool.or_eq_true] at h'
      exact ck.calls f' (h'.resolve_left fun q => e (beq_iff_eq.mp q)) hc fo.less hm rs t

noncomputable def fnChk (fl : List Str) (nm : List Str) (np k : Nat) (sc : Scope) (body : ASs) : Bool :=
  !sc.isCoroutine && !sc.isGenerator && decide (sc.kind = .function) && (sc.names.all fun p => p.2 != .free) && decide ((nm.take k).Nodup) && decide (np ≤ k) && decide (k ≤ nm.length)
    && ((nm.take np).all fun x => sc.names.lookup x == some .local || sc.names.lookup x == some .cell) && okSs fl nm (fun i => decide (i < k)) (fun x => sc.names.lookup x) true body

theorem Cok.addT {p : Program} {loose : List Str} {mean : ExcName → Option Value} (ck : Cok cx g fl mg mb n) {f : Str} (hnm : isMeth f = false) (T : Top p loose mean mg mb cx.B) (hga : cx.ga = mainGlobals) (hba : cx.ba = builtinsNs) {d : DefRec} {nm : List Str} {np k : Nat} {sc : Scope} {body : ASs}
    (hd : d ∈ recsOf p) (h1 : d.name = f) (h2 : d.body = body.toSs nm) (h3 : d.scope = sc) (hb : ∀ (pm code doc : Value) (vals : List Value), vals.length = np → bindArgs (docDef d.name d.params d.body d.scope pm code doc) ⟨vals, []⟩ = pure ((nm.take np).zip vals))
    (hc : fnChk fl nm np k sc body = true)
    (spec : ∀ {ps : List PV} {H : AHeap} {Q : Post} {X : XPost}, g.C f ps H Q X → ps.length = np ∧ awpSs g body (fun _ H => Q .none H) Q (fun c _ H => X c H) (initL nm np ps) H) : Cok cx g (f :: fl) mg mb (n + 1) := by
  obtain ⟨a, o, pm, code, doc, hm, ho, hdat, hcd⟩ := T.fn d hd
  unfold fnChk at hc
  simp only [Bool.and_eq_true, Bool.not_eq_true', decide_eq_true_eq] at hc
  obtain ⟨⟨⟨⟨⟨⟨⟨⟨c1, c2⟩, c3⟩, c4⟩, c5⟩, c6⟩, c7⟩, c8⟩, c9⟩ := hc
  rw [h1] at hm
  subst h3
  exact ck.add (kd := fun x => d.scope.names.lookup x) ((fad_glob hnm).trans hm) (fun q => by rw [hnm] at q; cases q) ⟨hga.symm, hba.symm, rfl, c1, c2, c3, rfl, c4, by show FuncBody.stmts d.body = _; rw [h2], hb pm code doc, c5, ⟨c6, c7⟩, c8, c9⟩ T.nolimit ho hdat hcd spec
theorem Cok.addM {c : ClsRec} {C N : Addr} (ck : Cok cx g fl mg mb n) (P : PlainAt cx.B c C N cx.mN) (lim : cx.B.NoLimit) (hga : cx.ga = mainGlobals) (hba : cx.ba = builtinsNs) {q f : Str} {r : MethRec} {nm : List Str} {np k : Nat} {sc : Scope} {body : ASs}
    (hq : (q, f) ∈ mtab) (hr : r ∈ c.meths) (h1 : r.name = q) (h2 : r.body = body.toSs nm) (h3 : r.scope = sc) (hb : ∀ (pm code doc : Value) (vals : List Value), vals.length = np → bindArgs (methDef r.name (c.name ++ "." ++ r.name) r.params r.body r.scope pm code doc) ⟨vals, []⟩ = pure ((nm.take np).zip vals))
    (hc : fnChk fl nm np k sc body = true)
    (spec : ∀ {ps : List PV} {H : AHeap} {Q : Post} {X : XPost}, g.C f ps H Q X → ps.length = np ∧ awpSs g body (fun _ H => Q .none H) Q (fun c _ H => X c H) (initL nm np ps) H) : Cok cx g (f :: fl) mg mb (n + 1) := by
  obtain ⟨a, o, pm, code, doc, hm, ho, hcl, hdat, hcd⟩ := P.meths r hr
  unfold fnChk at hc
  simp only [Bool.and_eq_true, Bool.not_eq_true', decide_eq_true_eq] at hc
  obtain ⟨⟨⟨⟨⟨⟨⟨⟨c1, c2⟩, c3⟩, c4⟩, c5⟩, c6⟩, c7⟩, c8⟩, c9⟩ := hc
  rw [h1] at hm
  subst h3
  exact ck.add (kd := fun x => r.scope.names.lookup x) ((fad_meth (q, f) hq).trans hm) (fun _ => hcl) ⟨hga.symm, hba.symm, rfl, c1, c2, c3, rfl, c4, by show FuncBody.stmts r.body = _; rw [h2], hb pm code doc, c5, ⟨c6, c7⟩, c8, c9⟩ lim ho hdat hcd spec
end
end Mine
end
section
open PySem PySem.W PySem.Calls PyProof.Rows
namespace Mine
set_option autoImplicit false

noncomputable def strOf? : Value → Option Str
  | .str x _ => some x
  | _ => none
noncomputable def tupChk (K : Frag) (b : Addr) (ss : List Str) : Bool := match K.lookup b with
  | some ⟨.type "tuple", none, .seq items _, sl⟩ => (sl.size == 0) && (items.toList.map strOf? == ss.map some) && decide (ss.length ≤ 100)
  | _ => false
noncomputable def strChk (K : Frag) (P : Str → Option Value) (x s : Str) : Bool := false

section
variable {cx : Cx} {K : Frag}
theorem strs_repl {h : Heap} : ∀ {vs : List Value} {ss : List Str}, vs.map strOf? = ss.map some → RepL cx h vs (ss.map .str)
  | [], [], _ => .nil
  | [], _ :: _, e => by simp at e
  | _ :: _, [], e => by simp at e
  | v :: vs, s :: ss, e => by
    simp only [List.map_cons, List.cons.injEq] at e
    refine .cons ?_ (strs_repl e.2)
    cases v <;> simp [strOf?] at e
    obtain ⟨rfl, _⟩ := e
    exact .str _ _
theorem tup_of {h : Heap} (X : K.In h) {b : Addr} {ss : List Str} (hk : tupChk K b ss = true) : Rep cx h (.ref b) (.tup (ss.map .str)) := by
  have hL : LIM = 1048576 := rfl
  unfold tupChk at hk
  split at hk
  · rename_i items n sl e
    simp only [Bool.and_eq_true, beq_iff_eq, decide_eq_true_eq] at hk
    have hsl : sl = #[] := Array.eq_empty_of_size_eq_zero hk.1.1
    subst hsl
    exact .tup (X _ _ e) (by simp; first | lia | omega) (strs_repl hk.1.2)
  · cases hk


end
end Mine
end
section
open PySem PySem.W PySem.Calls PyProof.Rows
namespace Mine
set_option autoImplicit false

/-! steps of the abstract walk: what the definitions do not tell by themselves -/
section
variable {g : Gl} {N : NPost} {R : Post} {X : SXPost} {E : XPost} {m : Loc} {H : AHeap} {Q : Post} {QB : BPost}
theorem O_ite {c A B : Prop} [Decidable c] (a : c → A) (b : ¬ c → B) : if c then A else B := by
  split
  · rename_i h; exact a h
  · rename_i h; exact b h
theorem O_glob {x : Str} {v : PV} (e : g.G x = some v) (h : Q v H) : varW (g.G x) Q H := by rw [e]; exact h
theorem O_mulI {a b : Int} (k : a.natAbs < 2 ^ 60 ∨ b.natAbs < 2 ^ 60) (h : Q (.int (a * b)) H) : BinW Q H .Mult (.int a) (.int b) := .mulI a b k h
theorem O_modI {a b : Int} {K : PV → Prop} {R : Prop} (k : 0 < b) (h : K (.int (a % b))) : pureOr (binF .Mod (.int a) (.int b)) K R := by
  show pureOr (match (if 0 < b then some (a % b) else none) with | some i => some (PV.int i) | none => none) _ _
  rw [if_pos k]; exact h
theorem O_divI {a b : Int} {K : PV → Prop} {R : Prop} (k : 0 < b) (k' : b < 1073741824) (h : K (.int (a / b))) : pureOr (binF .FloorDiv (.int a) (.int b)) K R := by
  show pureOr (match (if 0 < b then if b < 1073741824 then some (a / b) else none else none) with | some i => some (PV.int i) | none => none) _ _
  rw [if_pos k, if_pos k']; exact h
theorem O_recvS {s : Str} {P : Prop} (h : P) : RecvW P H .join (.str s) := .str h
theorem O_powI (h : Q (.int 1000000000) H) : BinW Q H .Pow (.int 10) (.int 9) := .powI h
theorem O_addS {a b : Str} (k : a.length + b.length ≤ LIM) (h : Q (.str (a ++ b)) H) : BinW Q H .Add (.str a) (.str b) := .addS a b k h
theorem O_addT {a b : List PV} (k : a.length + b.length ≤ LIM) (h : Q (.tup (a ++ b)) H) : BinW Q H .Add (.tup a) (.tup b) := .addT a b k h
theorem O_addL {a b : Addr} {xs ys : List PV} (ha : H a = some (.list xs)) (hb : H b = some (.list ys)) (k : xs.length + ys.length ≤ LIM) (h : ∀ c H', H c = none → H' c = some (.list (xs ++ ys)) → Ext H H' → Q (.obj c) H') : BinW Q H .Add (.obj a) (.obj b) := .addL a b xs ys ha hb k h
theorem O_mulL {a : Addr} {n : Int} {xs : List PV} (ha : H a = some (.list xs)) (k1 : n ≤ LIM) (k2 : -LIM ≤ n) (k3 : xs.length * n.toNat ≤ LIM) (h : ∀ c H', H c = none → H' c = some (.list (repL n xs)) → Ext H H' → Q (.obj c) H') : BinW Q H .Mult (.obj a) (.int n) := .mulL a n xs ha k1 k2 k3 h
theorem cmpF_eqT {v w : PV} {b c : Bool} (e : EqT H v w b) (h : cmpF .Eq v w = some c) : c = b := by
  unfold cmpF at h
  split at h
  · split at h
    · cases e with | val e => cases e with | atom e => cases e; exact (Option.some.inj h).symm
    · cases h
  · split at h
    · cases e with | val e => cases e with | atom e => cases e; exact (Option.some.inj h).symm
    · cases h
  · split at h <;> cases h
theorem cmpF_not (v w : PV) : cmpF .NotEq v w = (cmpF .Eq v w).map (!·) := by
  unfold cmpF
  split
  · split <;> rfl
  · split <;> rfl
  · split <;> rfl
theorem O_eqT {v w : PV} {b : Bool} {K : Bool → Prop} (e : EqT H v w b) (h : K b) : pureOr (cmpF .Eq v w) K (CmpW K H .Eq v w) := by
  cases q : cmpF .Eq v w with
  | none => exact .eq e h
  | some c => rw [cmpF_eqT e q]; exact h
theorem O_neT {v w : PV} {b : Bool} {K : Bool → Prop} (e : EqT H v w b) (h : K (!b)) : pureOr (cmpF .NotEq v w) K (CmpW K H .NotEq v w) := by
  rw [cmpF_not]
  cases q : cmpF .Eq v w with
  | none => exact .ne e h
  | some c => rw [cmpF_eqT e q]; exact h
theorem O_inD {K : Bool → Prop} {k : Str} {a : Addr} {kvs : List (Str × PV)} (ha : H a = some (.dict kvs)) (h : K (hasKey kvs k)) : CmpW K H .In (.str k) (.obj a) := .inD ha h
theorem O_niD {K : Bool → Prop} {k : Str} {a : Addr} {kvs : List (Str × PV)} (ha : H a = some (.dict kvs)) (h : K (!hasKey kvs k)) : CmpW K H .NotIn (.str k) (.obj a) := .niD ha h
theorem O_subT {xs : List PV} {k : Int} {x : PV} {K : PV → Prop} {R : Prop} (e : itemAt xs k = some x) (h : K x) : pureOr (subF (.tup xs) (.int k)) K R := by
  show pureOr (itemAt xs k) _ _
  rw [e]; exact h
theorem O_subL {a : Addr} {xs : List PV} {k : Int} {x : PV} (ha : H a = some (.list xs)) (e : itemAt xs k = some x) (h : Q x H) : SubW Q H (.obj a) (.int k) := .list ha e h
theorem O_subTape {a : Addr} {n : Nat} (ha : H a = some (.tape n)) (h : Q (.int n) H) : SubW Q H (.obj a) (.int 0) := .tape ha h
theorem O_subD {a : Addr} {kvs : List (Str × PV)} {k : Str} {x : PV} (ha : H a = some (.dict kvs)) (e : dget kvs k = some x) (h : Q x H) : SubW Q H (.obj a) (.str k) := .dict ha e h
theorem O_subF {kvs : List (Str × PV)} {k : Str} {x : PV} (e : dget kvs k = some x) (h : Q x H) : SubW Q H (.fdt kvs) (.str k) := .fdt e h
theorem O_subFls {xs : List Int} {k x : Int} (e : itemAt xs k = some x) (h : Q (.int x) H) : SubW Q H (.fls xs) (.int k) := .fls e h
theorem O_subS {s x : Str} {k : Int} (l : s.length ≤ LIM) (e : signAt s k = some x) (h : Q (.str x) H) : SubW Q H (.str s) (.int k) := .str l e h
theorem O_fromL {a : Addr} {xs : List PV} {k : Int} (ha : H a = some (.list xs)) (h : ∀ c H', H c = none → H' c = some (.list (xs.drop (cutAt xs.length k))) → Ext H H' → Q (.obj c) H') : FromW Q H (.obj a) (.int k) := .list ha h
theorem O_toL {a : Addr} {xs : List PV} {k : Int} (ha : H a = some (.list xs)) (h : ∀ c H', H c = none → H' c = some (.list (xs.take (cutAt xs.length k))) → Ext H H' → Q (.obj c) H') : ToW Q H (.obj a) (.int k) := .list ha h
theorem O_toF {xs : List Int} {k : Int} (h : ∀ c H', H c = none → H' c = some (.list ((xs.take (cutAt xs.length k)).map .int)) → Ext H H' → Q (.obj c) H') : ToW Q H (.fls xs) (.int k) := .fls h
theorem O_toS {s : Str} {k : Int} (l : s.length ≤ LIM) (h : Q (.str ⟨(s.cps.toList.take (cutAt s.length k)).toArray⟩) H) : ToW Q H (.str s) (.int k) := .str l h
theorem O_fromT {xs ys : List PV} {k : Int} (e : xs.drop (cutAt xs.length k) = ys) (h : Q (.tup ys) H) : FromW Q H (.tup xs) (.int k) := .tup (by rw [e]; exact h)
theorem O_toT {xs ys : List PV} {k : Int} (e : xs.take (cutAt xs.length k) = ys) (h : Q (.tup ys) H) : ToW Q H (.tup xs) (.int k) := .tup (by rw [e]; exact h)
theorem O_alloc {o : AObj} (h : ∀ c H', H c = none → H' c = some o → Ext H H' → Q (.obj c) H') : alloc o Q H := h
theorem O_lenS {s : Str} (l : s.length ≤ LIM) (h : Q (.int s.length) H) : BltW Q H .len [.str s] := .lenS s l h
theorem O_lenL {a : Addr} {xs : List PV} (ha : H a = some (.list xs)) (h : Q (.int xs.length) H) : BltW Q H .len [.obj a] := .lenL a xs ha h
theorem O_lenD {a : Addr} {kvs : List (Str × PV)} (ha : H a = some (.dict kvs)) (h : Q (.int kvs.length) H) : BltW Q H .len [.obj a] := .lenD a kvs ha h
theorem O_listL {a : Addr} {xs : List PV} (ha : H a = some (.list xs)) (h : ∀ c H', H c = none → H' c = some (.list xs) → Ext H H' → Q (.obj c) H') : BltW Q H .list [.obj a] := .listL a xs ha h
theorem O_listT {xs : List PV} (h : ∀ c H', H c = none → H' c = some (.list xs) → Ext H H' → Q (.obj c) H') : BltW Q H .list [.tup xs] := .listT xs h
theorem O_tupL {a : Addr} {xs : List PV} (ha : H a = some (.list xs)) (h : Q (.tup xs) H) : BltW Q H .tuple [.obj a] := .tupL a xs ha h
theorem O_range {n : Int} (k : n.natAbs ≤ LIM) (h : Q (.rng n) H) : BltW Q H .range [.int n] := .range n k h
theorem O_maxL {a : Addr} {ns : List Int} (ha : H a = some (.list (ns.map .int))) (k : 0 < ns.length) (h : ∀ M, M ∈ ns → (∀ x ∈ ns, x ≤ M) → Q (.int M) H) : BltW Q H .max [.obj a] := .maxL a ns ha k h
theorem O_allL {a : Addr} {bs : List Bool} (ha : H a = some (.list (bs.map .bool))) (h : Q (.bool (bs.all id)) H) : BltW Q H .all [.obj a] := .allL a bs ha h
theorem O_recvD {a : Addr} {kvs : List (Str × PV)} {P : Prop} (ha : H a = some (.dict kvs)) (h : P) : RecvW P H .dpop (.obj a) := .dict ha h
theorem O_dpop {a : Addr} {kvs : List (Str × PV)} {k : Str} {x : PV} (ha : H a = some (.dict kvs)) (e : dget kvs k = some x) (h : ∀ H', H' a = some (.dict (kvs.filter fun p => decide (p.1 ≠ k))) → ExtB a H H' → Q x H') : MethW Q H .dpop (.obj a) [.str k] := .dpop a kvs k x ha e h
theorem O_attr {a d : Addr} {kvs : List (Str × PV)} {nm : Str} {x : PV} (ha : H a = some (.inst d)) (hd : H d = some (.attrs kvs)) (e : dget kvs nm = some x) (h : Q x H) : AttrW Q H nm (.obj a) := .mk ha hd e h
theorem O_umeth {a d : Addr} {kvs : List (Str × PV)} {nm : Str} {P : Prop} (ha : H a = some (.inst d)) (hd : H d = some (.attrs kvs)) (e : dget kvs nm = none) (h : P) : UmW P H nm (.obj a) := .mk ha hd e h
theorem O_sattr {a d : Addr} {kvs : List (Str × PV)} {nm : Str} {x : PV} {K : AHeap → Prop} (ha : H a = some (.inst d)) (hd : H d = some (.attrs kvs)) (l : kvs.length < 100) (h : ∀ H', H' d = some (.attrs (dset kvs nm x)) → ExtB d H H' → K H') : SattrW K H nm x (.obj a) := .mk ha hd l h
theorem O_recv {m : Meth} {a : Addr} {xs : List PV} {P : Prop} (ha : H a = some (.list xs)) (k : m.onL = true) (h : P) : RecvW P H m (.obj a) := .list ha k h
theorem O_append {a : Addr} {xs : List PV} {x : PV} (ha : H a = some (.list xs)) (k : xs.length < LIM) (h : ∀ H', H' a = some (.list (xs ++ [x])) → ExtB a H H' → Q .none H') : MethW Q H .append (.obj a) [x] := .append a xs x ha k h
theorem O_join {s : Str} {a : Addr} {ss : List Str} (ha : H a = some (.list (ss.map .str))) (e : s.length = 0) (k : (ss.map (·.length)).sum ≤ LIM) (h : Q (.str (Str.join s ss)) H) : MethW Q H .join (.str s) [.obj a] := .join s a ss ha e k h
theorem O_storeD {a : Addr} {kvs : List (Str × PV)} {k : Str} {x : PV} {K : AHeap → Prop} (ha : H a = some (.dict kvs)) (l : kvs.length < LIM) (h : ∀ H', H' a = some (.dict (dset kvs k x)) → ExtB a H H' → K H') : StoreW K H (.obj a) (.str k) x := .dict ha l h
theorem O_storeT {a : Addr} {n : Nat} {j : Int} {K : AHeap → Prop} (ha : H a = some (.tape n)) (j0 : 0 ≤ j) (h : ∀ H', H' a = some (.tape j.toNat) → ExtB a H H' → K H') : StoreW K H (.obj a) (.int 0) (.int j) := .tape ha j0 h
theorem O_isL {c : ICls} {a : Addr} {xs : List PV} {K : Bool → Prop} (ha : H a = some (.list xs)) (b : c.basic = true) (h : K (c.hits 5)) : IsiW K H c (.obj a) := .list b ha h
theorem O_itL {a : Addr} {xs : List PV} {K : List PV → (AHeap → Prop) → Prop} (ha : H a = some (.list xs)) (h : K xs fun H' => H' a = some (.list xs)) : ItemsW K H (.obj a) := .list ha h
end

theorem forW_ind {src : AHeap → Prop} {st : PV → (Loc → AHeap → Prop) → Loc → AHeap → Prop} {N : Loc → AHeap → Prop} (I : List PV → Loc → AHeap → Prop) (h0 : ∀ m H, I [] m H → src H ∧ N m H)
    (h1 : ∀ x xs m H, I (x :: xs) m H → src H ∧ ∀ K : Loc → AHeap → Prop, (∀ m' H', I xs m' H' → K m' H') → st x K m H) : ∀ xs m H, I xs m H → forW src st N xs m H
  | [], m, H, h => h0 m H h
  | x :: xs, m, H, h => ⟨(h1 x xs m H h).1, (h1 x xs m H h).2 _ fun m' H' h' => forW_ind I h0 h1 xs m' H' h'⟩
theorem compW_ind {src : AHeap → Prop} {el : PV → (List PV → AHeap → Prop) → AHeap → Prop} {Q : List PV → AHeap → Prop} (I : List PV → List PV → AHeap → Prop) (h0 : ∀ acc H, I [] acc H → src H ∧ Q acc H)
    (h1 : ∀ x xs acc H, I (x :: xs) acc H → src H ∧ ∀ K : List PV → AHeap → Prop, (∀ vs H', I xs (acc ++ vs) H' → K vs H') → el x K H) : ∀ xs acc H, I xs acc H → compW src el Q xs acc H
  | [], acc, H, h => h0 acc H h
  | x :: xs, acc, H, h => ⟨(h1 x xs acc H h).1, (h1 x xs acc H h).2 _ fun vs H' h' => compW_ind I h0 h1 xs (acc ++ vs) H' h'⟩

theorem mod_lt {a k : Int} (h : 0 < k) : 0 ≤ a % k ∧ a % k < k := ⟨Int.emod_nonneg _ (by first | lia | omega), Int.emod_lt_of_pos _ h⟩
theorem Ext.at {H H' : AHeap} {a : Addr} {o : AObj} (e : Ext H H') (h : H a = some o) : H' a = some o := e a o h
theorem ExtB.at {H H' : AHeap} {a b : Addr} {o : AObj} (e : ExtB a H H') (n : b ≠ a) (h : H b = some o) : H' b = some o := e b o n h
theorem ne_of {H : AHeap} {a b : Addr} {o : AObj} (h : H a = some o) (h' : H b = none) : a ≠ b := by rintro rfl; rw [h] at h'; cases h'
theorem Ext.refl (H : AHeap) : Ext H H := fun _ _ e => e
theorem Ext.trans {H H₁ H₂ : AHeap} (a : Ext H H₁) (b : Ext H₁ H₂) : Ext H H₂ := fun x o e => b x o (a x o e)
theorem ExtB.trans {H H₁ H₂ : AHeap} {t : Addr} (a : ExtB t H H₁) (b : ExtB t H₁ H₂) : ExtB t H H₂ := fun x o n e => b x o n (a x o n e)
theorem Ext.toB {H H' : AHeap} (e : Ext H H') (t : Addr) : ExtB t H H' := fun x o _ h => e x o h
/-- a new list that was changed is still new -/
theorem ExtB.fresh {H H₁ H₂ : AHeap} {a : Addr} (n : H a = none) (e : Ext H H₁) (b : ExtB a H₁ H₂) : Ext H H₂ := fun x o h => b x o (ne_of h n) (e x o h)
theorem itemAt_nat {α : Type} {xs : List α} {n : Nat} {x : α} {i : Int} (hi : i = n) (h : xs[n]? = some x) : itemAt xs i = some x := by
  subst hi; unfold itemAt; rw [if_pos (by first | lia | omega)]; simpa using h
theorem O_addS' {H : AHeap} {Q : Post} {a b : Str} (k : a.length + b.length ≤ LIM) (h : ∀ S, S = a ++ b → Q (.str S) H) : BinW Q H .Add (.str a) (.str b) := .addS a b k (h _ rfl)
theorem str_len_append (a b : Str) : (a ++ b).length = a.length + b.length := by
  show (a.cps ++ b.cps).size = a.cps.size + b.cps.size
  simp
theorem join_len {e : Str} (he : e.length = 0) : ∀ ss : List Str, (∀ s ∈ ss, s.length = 1) → (Str.join e ss).length = ss.length
  | [], _ => rfl
  | [x], h => by simpa [Str.join] using h x (by simp)
  | x :: y :: r, h => by
    have ih := join_len he (y :: r) fun s hs => h s (List.mem_cons_of_mem _ hs)
    show (x ++ e ++ Str.join e (y :: r)).length = _
    rw [str_len_append, str_len_append, ih, he, h x (by simp)]
    simp; first | lia | omega
theorem sum_ones : ∀ ss : List Str, (∀ s ∈ ss, s.length = 1) → (ss.map (·.length)).sum = ss.length
  | [], _ => rfl
  | x :: r, h => by
    rw [List.map_cons, List.sum_cons, sum_ones r fun s hs => h s (List.mem_cons_of_mem _ hs), h x (by simp), List.length_cons]; first | lia | omega
theorem sign_at {s : Str} {i : Int} (h0 : 0 ≤ i) (h1 : i < s.length) : ∃ x, signAt s i = some x ∧ x.length = 1 := by
  obtain ⟨n, rfl⟩ := Int.eq_ofNat_of_zero_le h0
  have hn : n < s.cps.toList.length := by
    have : n < s.length := by first | lia | omega
    simpa [Str.length] using this
  refine ⟨⟨#[s.cps.toList[n]]⟩, ?_, rfl⟩
  unfold signAt
  rw [itemAt_nat rfl (List.getElem?_eq_getElem hn)]
  rfl
theorem I_pos {c : Prop} [Decidable c] {A B : Prop} (h : c) (a : A) : if c then A else B := by rw [if_pos h]; exact a
theorem I_neg {c : Prop} [Decidable c] {A B : Prop} (h : ¬ c) (b : B) : if c then A else B := by rw [if_neg h]; exact b
theorem EqL.strs {H : AHeap} {n : Nat} : ∀ ss tt : List Str, EqL H n (ss.map .str) (tt.map .str) (decide (ss = tt))
  | [], [] => .nil
  | [], t :: tt => by simpa using EqL.r (H := H) (n := n) (.str t) (tt.map .str)
  | s :: ss, [] => by simpa using EqL.l (H := H) (n := n) (.str s) (ss.map .str)
  | s :: ss, t :: tt => by
    have := EqL.c (EqV.str (H := H) (n := n) s t) (EqL.strs ss tt)
    have e : decide (s :: ss = t :: tt) = ((s == t) && decide (ss = tt)) := by
      by_cases h1 : s = t <;> by_cases h2 : ss = tt <;> simp [h1, h2]
    rw [e]; exact this
theorem eq_strs {H : AHeap} (ss tt : List Str) : EqT H (.tup (ss.map .str)) (.tup (tt.map .str)) (decide (ss = tt)) := .val (.tup (n := 39) (EqL.strs ss tt))
end Mine
end
section
open PySem PySem.W PySem.Calls PyProof.Rows
namespace Mine
set_option autoImplicit false
/-! the call from outside -/
section
variable {cx : Cx} {g : Gl} {fl : List Str} {mg mb : Str → Option Value} {n : Nat}
theorem top_fn (ck : Cok cx g fl mg mb n) {fd : FuncData} {nm : List Str} {np k : Nat} {kd : Kd} {body : ASs} {a : Addr} {o : Obj} (fn : FnOk cx fl fd nm np k kd body) (lim : cx.B.NoLimit) (ho : cx.B.get? a = some o) (hd : o.data = .func fd) (hcd : cx.B.CodeRec fd.code fd.qualname)
    {A : Around} {s : Shared} {vs : List Value} {ps : List PV} {Q : Post} {R : Result → Shared → Prop} (hfr : A.frames = some []) (hqu : A.handled = none) (hdep : A.depth + 2 * (n + 1) ≤ 900) (huni : A.units + 8 * (n + 1) + 200 ≤ cLine)
    (tb : cx.B.StaysIn s.heap) (rs : RepL cx s.heap vs ps) (hlen : ps.length = np)
    (h : awpSs g body (fun _ H => Q .none H) Q (fun _ _ _ => False) (initL nm np ps) (fun _ => none))
    (hR : ∀ v p H' s', Rep cx s'.heap v p → Kp cx [] (fun _ => none) s H' s' → Q p H' → R (.ok (.ret v)) s') : codeAny cx.M A (.call (.ref a) ⟨vs, []⟩) R s :=
  core_fn (X := fun _ _ => False) ck fn lim ho hd hcd hfr hqu hdep huni tb (fun _ _ _ => rfl) (fun _ _ e => nomatch e) (fun _ he => nomatch he) rs hlen h (fun v p H' s' rv kp _ q => hR v p H' s' rv kp q) fun _ _ _ _ _ _ _ f => f.elim

theorem law_top {p : Program} {loose : List Str} {mean : ExcName → Option Value} (ck : Cok cx g fl mg mb n) (T : Top p loose mean mg mb cx.B) (hga : cx.ga = mainGlobals) (hba : cx.ba = builtinsNs) {d : DefRec} {nm : List Str} {k : Nat} {sc : Scope} {body : ASs}
    (hd : d ∈ recsOf p) (h1 : d.name = "law") (h2 : d.body = body.toSs nm) (h3 : d.scope = sc) (hb : ∀ (pm code doc : Value) (vals : List Value), vals.length = 1 → bindArgs (docDef d.name d.params d.body d.scope pm code doc) ⟨vals, []⟩ = pure ((nm.take 1).zip vals))
    (hc : fnChk fl nm 1 k sc body = true) {s : Shared} (hs : cx.B = s.heap) {fa l : Addr} {items : Array Value} {ns : List Int} (hmg : mg "law" = some (.ref fa)) (il : s.heap.IsList l items) (ia : IntsAre items.toList ns) (hl : ns.length ≤ LIM) (hn : n ≤ 200)
    (spec : ∀ {Q : Post}, (∀ H, Q (.bool true) H) → awpSs g body (fun _ H => Q .none H) Q (fun _ _ _ => False) (initL nm 1 [.fls ns]) (fun _ => none))
    {R : Result → Shared → Prop} (hR : ∀ h' tk, (∀ b o, s.heap.get? b = some o → h'.get? b = some o) → R (.ok (.ret (.bool true))) { s with heap := h', toks := tk }) : codeAny cx.M callerA (.call (.ref fa) ⟨[.ref l], []⟩) R s := by
  obtain ⟨a, o, pm, code, doc, hm, ho, hdat, hcd⟩ := T.fn d hd
  unfold fnChk at hc
  simp only [Bool.and_eq_true, Bool.not_eq_true', decide_eq_true_eq] at hc
  obtain ⟨⟨⟨⟨⟨⟨⟨⟨c1, c2⟩, c3⟩, c4⟩, c5⟩, c6⟩, c7⟩, c8⟩, c9⟩ := hc
  rw [h1, hmg] at hm
  cases hm
  subst h3
  have hB : cx.B.StaysIn s.heap := by rw [hs]; exact fun _ _ e => e
  refine top_fn (Q := fun p _ => p = .bool true) (kd := fun x => d.scope.names.lookup x) ck ⟨hga.symm, hba.symm, rfl, c1, c2, c3, rfl, c4, by show FuncBody.stmts d.body = _; rw [h2], hb pm code doc, c5, ⟨c6, c7⟩, c8, c9⟩ T.nolimit ho hdat hcd
    (A := callerA) rfl rfl ?_ ?_ hB (.cons (.fls (by rw [hs]; exact il) ia hl) .nil) rfl (spec (Q := fun p _ => p = .bool true) fun _ => rfl) fun v p H' s' rv kp hq => ?_
  · have : callerA.depth = 301 := by decide +kernel
    first | lia | omega
  · have : callerA.units = 4 := rfl
    have : 4 + 8 * 501 + 200 ≤ cLine := by decide +kernel
    first | lia | omega
  · subst hq
    cases rv
    obtain ⟨h', tk, rfl⟩ := kp.same
    exact hR h' tk fun b o e => kp.base b o (by rw [hs]; exact e) e
end
end Mine
end
section
open PySem PySem.W PySem.Calls PyProof.Rows
namespace Mine
set_option autoImplicit false

/-! the program's constants, told from its laid heap -/
noncomputable def refAt (K : Frag) (x : Str) : Addr := match kmg K x with
  | some (.ref a) => a
  | _ => 0
noncomputable def dictL (K : Frag) (a : Addr) : List (Str × Tok × Value) := match K.lookup a with
  | some o => (match o.data with
    | .dict es _ => es.toList.filterMap fun e => match e.key with | .str s t => some (s, t, e.val) | _ => none
    | _ => [])
  | none => []
noncomputable def dictEp (K : Frag) (a : Addr) : Nat := match K.lookup a with
  | some o => (match o.data with | .dict _ n => n | _ => 0)
  | none => 0
noncomputable def entV (P : Params) (l : List (Str × Tok × Value)) : Array DictEntry := (l.map fun e => ({ hash := PyData.keyHash P e.1, key := .str e.1 e.2.1, val := e.2.2 } : DictEntry)).toArray
noncomputable def valChk (K : Frag) (v : Value) : PV → Bool
  | .str s => strOf? v == some s
  | .tup xs => (match v with
    | .ref b => (match xs.mapM fun x => (match x with | .str s => some s | _ => none) with | some ss => tupChk K b ss | none => false)
    | _ => false)
  | _ => false

section
variable {cx : Cx} {K : Frag}
theorem mapM_strs : ∀ {xs : List PV} {ss : List Str}, (xs.mapM fun x => (match x with | .str s => some s | _ => none : Option Str)) = some ss → xs = ss.map .str
  | [], ss, h => by simp at h; subst h; rfl
  | x :: xs, ss, h => by
    rw [List.mapM_cons] at h
    cases x with
    | str s =>
      cases q : xs.mapM (fun x => (match x with | .str s => some s | _ => none : Option Str)) with
      | none => rw [q] at h; simp at h
      | some tt =>
        rw [q] at h
        simp at h
        subst h
        rw [mapM_strs q]; rfl
    | _ => simp at h
theorem val_of {h : Heap} (X : K.In h) {v : Value} {q : PV} (hk : valChk K v q = true) : Rep cx h v q := by
  cases q with
  | str s =>
    cases v <;> simp [valChk, strOf?] at hk
    subst hk
    exact .str _ _
  | tup xs =>
    cases v with
    | ref b =>
      simp only [valChk] at hk
      split at hk
      · rename_i ss e
        rw [mapM_strs e]
        exact tup_of X hk
      · cases hk
    | _ => simp [valChk] at hk
  | _ => simp [valChk] at hk
theorem fdt_pairsV {h : Heap} (X : K.In h) : ∀ {l : List (Str × Tok × Value)} {kvs : List (Str × PV)}, l.map (·.1) = kvs.map (·.1) → ((l.zip kvs).all fun e => valChk K e.1.2.2 e.2.2) = true → RepK cx h (l.map fun e => (e.1, e.2.2)) kvs
  | [], [], _, _ => .nil
  | [], _ :: _, e, _ => by simp at e
  | _ :: _, [], e, _ => by simp at e
  | (k, t, a) :: l, (k', q) :: kvs, e, hk => by
    simp only [List.map_cons, List.cons.injEq] at e
    simp only [List.zip_cons_cons, List.all_cons, Bool.and_eq_true] at hk
    obtain ⟨rfl, e⟩ := e
    exact .cons (val_of X hk.1) (fdt_pairsV X e hk.2)
theorem fdt_ofV {h : Heap} (X : K.In cx.B) {x : Str} {mg : Str → Option Value} {kvs : List (Str × PV)} (hm : mg = kmg K) (h1 : kmg K x = some (.ref (refAt K x)))
    (hl : K.lookup (refAt K x) = some { cls := .type "dict", data := .dict (entV cx.w.params (dictL K (refAt K x))) (dictEp K (refAt K x)) })
    (hkv : (dictL K (refAt K x)).map (·.1) = kvs.map (·.1)) (hn : (kvs.map (·.1)).Nodup) (hk : (((dictL K (refAt K x)).zip kvs).all fun e => valChk K e.1.2.2 e.2.2) = true) (hh : cx.B.StaysIn h) : ∃ v, mg x = some v ∧ Rep cx h v (.fdt kvs) := by
  refine ⟨_, by rw [hm]; exact h1, ?_⟩
  generalize hla : dictL K (refAt K x) = l at hl hkv hk
  refine .fdt (vs := l.map fun e => (e.1, e.2.2)) ⟨_, _, _, X _ _ hl, ⟨rfl, rfl, rfl⟩, rfl, ?_, ?_, ?_⟩ (fdt_pairsV (X.keeps hh) hkv hk)
  · intro e he
    unfold entV at he
    simp only [List.mem_toArray, List.mem_map] at he
    obtain ⟨x, _, rfl⟩ := he
    exact ⟨x.1, by simp [Cx.sk, PySem.strKind, Value.isStrOf], rfl⟩
  · unfold entV
    simp only [List.toList_toArray]
    clear hl hla hn hkv hk h1
    induction l with
    | nil => exact .nil
    | cons x l ih => exact .cons (by simp [Cx.sk, PySem.strKind, Value.isStrOf]) rfl ih
  · rw [List.map_map]
    show (l.map (·.1)).Nodup
    rw [hkv]; exact hn
end
noncomputable def intChk (K : Frag) (x : Str) (i : Int) : Bool := match kmg K x with
  | some (.int j _) => j == i
  | _ => false
theorem int_of {cx : Cx} {K : Frag} {x : Str} {i : Int} {mg : Str → Option Value} {h : Heap} (hm : mg = kmg K) (hk : intChk K x i = true) : ∃ v, mg x = some v ∧ Rep cx h v (.int i) := by
  unfold intChk at hk
  split at hk
  · rename_i j t e
    rw [beq_iff_eq] at hk
    subst hk
    exact ⟨_, by rw [hm]; exact e, .int _ _⟩
  · cases hk
end Mine
end
section
open PySem PySem.W PySem.Calls PyProof.Rows
namespace Mine
set_option autoImplicit false
noncomputable def N_kinds_of : List Str := ["stack", "kinds", "value"]
noncomputable def B_kinds_of : ASs :=
    (.cons (.assign 1 ⟨19, 4, 19, 9⟩ (.list .nil ⟨19, 12, 19, 14⟩) ⟨19, 4, 19, 14⟩)
    (.cons (.for 2 ⟨20, 8, 20, 13⟩ (.var 0 ⟨20, 17, 20, 22⟩) (.cons (.ite (.isi (.var 2 ⟨21, 22, 21, 27⟩) .str ⟨21, 11, 21, 21⟩ ⟨21, 29, 21, 32⟩ default default ⟨21, 11, 21, 33⟩) (.cons (.expr (.meth (.var 1 ⟨22, 12, 22, 17⟩) .append (.cons (.lit (.str "text") 0 ⟨22, 25, 22, 31⟩) .nil) ⟨22, 12, 22, 24⟩ ⟨22, 12, 22, 32⟩) ⟨22, 12, 22, 32⟩)
    .nil) (.cons (.expr (.meth (.var 1 ⟨24, 12, 24, 17⟩) .append (.cons (.lit (.str "num") 0 ⟨24, 25, 24, 30⟩) .nil) ⟨24, 12, 24, 24⟩ ⟨24, 12, 24, 31⟩) ⟨24, 12, 24, 31⟩)
    .nil) ⟨21, 8, 24, 31⟩)
    .nil) ⟨20, 4, 24, 31⟩)
    (.cons (.ret (.blt .tuple (.cons (.var 1 ⟨25, 17, 25, 22⟩) .nil) ⟨25, 11, 25, 16⟩ ⟨25, 11, 25, 23⟩) ⟨25, 4, 25, 23⟩)
    .nil)))
noncomputable def S_kinds_of : Scope := {
              kind := PySem.ScopeKind.function,
              names := [
                (PySem.Str.ofString "stack", PySem.NameKind.local),
                (PySem.Str.ofString "kinds", PySem.NameKind.local),
                (PySem.Str.ofString "value", PySem.NameKind.local),
                (PySem.Str.ofString "isinstance", PySem.NameKind.globalImplicit),
                (PySem.Str.ofString "str", PySem.NameKind.globalImplicit),
                (PySem.Str.ofString "tuple", PySem.NameKind.globalImplicit)],
              isGenerator := false,
              isCoroutine := false,
              more := [] : PySem.Scope }

noncomputable def N_need : List Str := ["stack", "count"]
noncomputable def B_need : ASs :=
    (.cons (.ite (.cmp (.blt .len (.cons (.var 0 ⟨27, 11, 27, 16⟩) .nil) ⟨27, 7, 27, 10⟩ ⟨27, 7, 27, 17⟩) .Lt (.var 1 ⟨27, 20, 27, 25⟩) ⟨27, 7, 27, 25⟩) (.cons (.raise 1 "Empty" "too few values" 0 ⟨28, 14, 28, 19⟩ ⟨28, 20, 28, 36⟩ ⟨28, 14, 28, 37⟩ ⟨28, 8, 28, 37⟩)
    .nil) .nil ⟨27, 4, 28, 37⟩)
    .nil)
noncomputable def S_need : Scope := {
              kind := PySem.ScopeKind.function,
              names := [
                (PySem.Str.ofString "stack", PySem.NameKind.local),
                (PySem.Str.ofString "count", PySem.NameKind.local),
                (PySem.Str.ofString "len", PySem.NameKind.globalImplicit),
                (PySem.Str.ofString "Empty", PySem.NameKind.globalImplicit)],
              isGenerator := false,
              isCoroutine := false,
              more := [] : PySem.Scope }

noncomputable def N_reckoned : List Str := ["word", "values"]
noncomputable def B_reckoned : ASs :=
    (.cons (.ite (.cmp (.var 0 ⟨30, 7, 30, 11⟩) .Eq (.lit (.str "add") 0 ⟨30, 15, 30, 20⟩) ⟨30, 7, 30, 20⟩) (.cons (.ret (.bin (.bin (.sub (.var 1 ⟨31, 16, 31, 22⟩) (.lit (.int 0) 0 ⟨31, 23, 31, 24⟩) ⟨31, 16, 31, 25⟩) .Add (.sub (.var 1 ⟨31, 28, 31, 34⟩) (.lit (.int 1) 0 ⟨31, 35, 31, 36⟩) ⟨31, 28, 31, 37⟩) ⟨31, 16, 31, 37⟩) .Mod (.glob "BOUND" ⟨31, 41, 31, 46⟩) ⟨31, 15, 31, 46⟩) ⟨31, 8, 31, 46⟩)
    .nil) .nil ⟨30, 4, 31, 46⟩)
    (.cons (.ite (.cmp (.var 0 ⟨32, 7, 32, 11⟩) .Eq (.lit (.str "mul") 0 ⟨32, 15, 32, 20⟩) ⟨32, 7, 32, 20⟩) (.cons (.ret (.bin (.bin (.sub (.var 1 ⟨33, 15, 33, 21⟩) (.lit (.int 0) 0 ⟨33, 22, 33, 23⟩) ⟨33, 15, 33, 24⟩) .Mult (.sub (.var 1 ⟨33, 27, 33, 33⟩) (.lit (.int 1) 0 ⟨33, 34, 33, 35⟩) ⟨33, 27, 33, 36⟩) ⟨33, 15, 33, 36⟩) .Mod (.glob "BOUND" ⟨33, 39, 33, 44⟩) ⟨33, 15, 33, 44⟩) ⟨33, 8, 33, 44⟩)
    .nil) .nil ⟨32, 4, 33, 44⟩)
    (.cons (.ite (.cmp (.var 0 ⟨34, 7, 34, 11⟩) .Eq (.lit (.str "less") 0 ⟨34, 15, 34, 21⟩) ⟨34, 7, 34, 21⟩) (.cons (.ret (.blt .int (.cons (.cmp (.sub (.var 1 ⟨35, 19, 35, 25⟩) (.lit (.int 0) 0 ⟨35, 26, 35, 27⟩) ⟨35, 19, 35, 28⟩) .Lt (.sub (.var 1 ⟨35, 31, 35, 37⟩) (.lit (.int 1) 0 ⟨35, 38, 35, 39⟩) ⟨35, 31, 35, 40⟩) ⟨35, 19, 35, 40⟩) .nil) ⟨35, 15, 35, 18⟩ ⟨35, 15, 35, 41⟩) ⟨35, 8, 35, 41⟩)
    .nil) .nil ⟨34, 4, 35, 41⟩)
    (.cons (.ite (.cmp (.var 0 ⟨36, 7, 36, 11⟩) .Eq (.lit (.str "join") 0 ⟨36, 15, 36, 21⟩) ⟨36, 7, 36, 21⟩) (.cons (.ret (.sto (.bin (.sub (.var 1 ⟨37, 16, 37, 22⟩) (.lit (.int 0) 0 ⟨37, 23, 37, 24⟩) ⟨37, 16, 37, 25⟩) .Add (.sub (.var 1 ⟨37, 28, 37, 34⟩) (.lit (.int 1) 0 ⟨37, 35, 37, 36⟩) ⟨37, 28, 37, 37⟩) ⟨37, 16, 37, 37⟩) (.glob "LONGEST" ⟨37, 40, 37, 47⟩) ⟨37, 39, 37, 47⟩ ⟨37, 15, 37, 48⟩) ⟨37, 8, 37, 48⟩)
    .nil) .nil ⟨36, 4, 37, 48⟩)
    (.cons (.ite (.cmp (.var 0 ⟨38, 7, 38, 11⟩) .Eq (.lit (.str "long") 0 ⟨38, 15, 38, 21⟩) ⟨38, 7, 38, 21⟩) (.cons (.ret (.blt .len (.cons (.sub (.var 1 ⟨39, 19, 39, 25⟩) (.lit (.int 0) 0 ⟨39, 26, 39, 27⟩) ⟨39, 19, 39, 28⟩) .nil) ⟨39, 15, 39, 18⟩ ⟨39, 15, 39, 29⟩) ⟨39, 8, 39, 29⟩)
    .nil) .nil ⟨38, 4, 39, 29⟩)
    (.cons (.ret (.blt .str (.cons (.sub (.var 1 ⟨40, 15, 40, 21⟩) (.lit (.int 0) 0 ⟨40, 22, 40, 23⟩) ⟨40, 15, 40, 24⟩) .nil) ⟨40, 11, 40, 14⟩ ⟨40, 11, 40, 25⟩) ⟨40, 4, 40, 25⟩)
    .nil))))))
noncomputable def S_reckoned : Scope := {
              kind := PySem.ScopeKind.function,
              names := [
                (PySem.Str.ofString "word", PySem.NameKind.local),
                (PySem.Str.ofString "values", PySem.NameKind.local),
                (PySem.Str.ofString "BOUND", PySem.NameKind.globalImplicit),
                (PySem.Str.ofString "int", PySem.NameKind.globalImplicit),
                (PySem.Str.ofString "LONGEST", PySem.NameKind.globalImplicit),
                (PySem.Str.ofString "len", PySem.NameKind.globalImplicit),
                (PySem.Str.ofString "str", PySem.NameKind.globalImplicit)],
              isGenerator := false,
              isCoroutine := false,
              more := [] : PySem.Scope }

noncomputable def N_done : List Str := ["stack", "row", "word", "size", "takes", "values"]
noncomputable def B_done : ASs :=
    (.cons (.assign 2 ⟨42, 4, 42, 8⟩ (.sub (.var 1 ⟨42, 11, 42, 14⟩) (.lit (.int 0) 0 ⟨42, 15, 42, 16⟩) ⟨42, 11, 42, 17⟩) ⟨42, 4, 42, 17⟩)
    (.cons (.assign 3 ⟨43, 4, 43, 8⟩ (.blt .len (.cons (.var 0 ⟨43, 15, 43, 20⟩) .nil) ⟨43, 11, 43, 14⟩ ⟨43, 11, 43, 21⟩) ⟨43, 4, 43, 21⟩)
    (.cons (.ite (.bop .Or (.cons (.cmp (.var 2 ⟨44, 7, 44, 11⟩) .Eq (.lit (.str "num") 0 ⟨44, 15, 44, 20⟩) ⟨44, 7, 44, 20⟩) (.cons (.cmp (.var 2 ⟨44, 24, 44, 28⟩) .Eq (.lit (.str "text") 0 ⟨44, 32, 44, 38⟩) ⟨44, 24, 44, 38⟩) .nil)) ⟨44, 7, 44, 38⟩) (.cons (.ret (.bin (.blt .list (.cons (.var 0 ⟨45, 20, 45, 25⟩) .nil) ⟨45, 15, 45, 19⟩ ⟨45, 15, 45, 26⟩) .Add (.list (.cons (.sub (.var 1 ⟨45, 30, 45, 33⟩) (.lit (.int 1) 0 ⟨45, 34, 45, 35⟩) ⟨45, 30, 45, 36⟩) .nil) ⟨45, 29, 45, 37⟩) ⟨45, 15, 45, 37⟩) ⟨45, 8, 45, 37⟩)
    .nil) .nil ⟨44, 4, 45, 37⟩)
    (.cons (.ite (.cmp (.var 2 ⟨46, 7, 46, 11⟩) .Eq (.lit (.str "copy") 0 ⟨46, 15, 46, 21⟩) ⟨46, 7, 46, 21⟩) (.cons (.expr (.call "need" (.cons (.var 0 ⟨47, 13, 47, 18⟩) (.cons (.bin (.sub (.var 1 ⟨47, 20, 47, 23⟩) (.lit (.int 1) 0 ⟨47, 24, 47, 25⟩) ⟨47, 20, 47, 26⟩) .Add (.lit (.int 1) 0 ⟨47, 29, 47, 30⟩) ⟨47, 20, 47, 30⟩) .nil)) ⟨47, 8, 47, 12⟩ ⟨47, 8, 47, 31⟩) ⟨47, 8, 47, 31⟩)
    (.cons (.ret (.bin (.blt .list (.cons (.var 0 ⟨48, 20, 48, 25⟩) .nil) ⟨48, 15, 48, 19⟩ ⟨48, 15, 48, 26⟩) .Add (.list (.cons (.sub (.var 0 ⟨48, 30, 48, 35⟩) (.bin (.bin (.var 3 ⟨48, 36, 48, 40⟩) .Sub (.lit (.int 1) 0 ⟨48, 43, 48, 44⟩) ⟨48, 36, 48, 44⟩) .Sub (.sub (.var 1 ⟨48, 47, 48, 50⟩) (.lit (.int 1) 0 ⟨48, 51, 48, 52⟩) ⟨48, 47, 48, 53⟩) ⟨48, 36, 48, 53⟩) ⟨48, 30, 48, 54⟩) .nil) ⟨48, 29, 48, 55⟩) ⟨48, 15, 48, 55⟩) ⟨48, 8, 48, 55⟩)
    .nil)) .nil ⟨46, 4, 48, 55⟩)
    (.cons (.ite (.cmp (.var 2 ⟨49, 7, 49, 11⟩) .Eq (.lit (.str "swap") 0 ⟨49, 15, 49, 21⟩) ⟨49, 7, 49, 21⟩) (.cons (.expr (.call "need" (.cons (.var 0 ⟨50, 13, 50, 18⟩) (.cons (.lit (.int 2) 0 ⟨50, 20, 50, 21⟩) .nil)) ⟨50, 8, 50, 12⟩ ⟨50, 8, 50, 22⟩) ⟨50, 8, 50, 22⟩)
    (.cons (.ret (.bin (.blt .list (.cons (.sto (.var 0 ⟨51, 20, 51, 25⟩) (.bin (.var 3 ⟨51, 27, 51, 31⟩) .Sub (.lit (.int 2) 0 ⟨51, 34, 51, 35⟩) ⟨51, 27, 51, 35⟩) ⟨51, 26, 51, 35⟩ ⟨51, 20, 51, 36⟩) .nil) ⟨51, 15, 51, 19⟩ ⟨51, 15, 51, 37⟩) .Add (.list (.cons (.sub (.var 0 ⟨51, 41, 51, 46⟩) (.bin (.var 3 ⟨51, 47, 51, 51⟩) .Sub (.lit (.int 1) 0 ⟨51, 54, 51, 55⟩) ⟨51, 47, 51, 55⟩) ⟨51, 41, 51, 56⟩) (.cons (.sub (.var 0 ⟨51, 58, 51, 63⟩) (.bin (.var 3 ⟨51, 64, 51, 68⟩) .Sub (.lit (.int 2) 0 ⟨51, 71, 51, 72⟩) ⟨51, 64, 51, 72⟩) ⟨51, 58, 51, 73⟩) .nil)) ⟨51, 40, 51, 74⟩) ⟨51, 15, 51, 74⟩) ⟨51, 8, 51, 74⟩)
    .nil)) .nil ⟨49, 4, 51, 74⟩)
    (.cons (.ite (.cmp (.var 2 ⟨52, 7, 52, 11⟩) .Eq (.lit (.str "drop") 0 ⟨52, 15, 52, 21⟩) ⟨52, 7, 52, 21⟩) (.cons (.expr (.call "need" (.cons (.var 0 ⟨53, 13, 53, 18⟩) (.cons (.lit (.int 1) 0 ⟨53, 20, 53, 21⟩) .nil)) ⟨53, 8, 53, 12⟩ ⟨53, 8, 53, 22⟩) ⟨53, 8, 53, 22⟩)
    (.cons (.ret (.blt .list (.cons (.sto (.var 0 ⟨54, 20, 54, 25⟩) (.bin (.var 3 ⟨54, 27, 54, 31⟩) .Sub (.lit (.int 1) 0 ⟨54, 34, 54, 35⟩) ⟨54, 27, 54, 35⟩) ⟨54, 26, 54, 35⟩ ⟨54, 20, 54, 36⟩) .nil) ⟨54, 15, 54, 19⟩ ⟨54, 15, 54, 37⟩) ⟨54, 8, 54, 37⟩)
    .nil)) .nil ⟨52, 4, 54, 37⟩)
    (.cons (.assign 4 ⟨55, 4, 55, 9⟩ (.sub (.glob "TAKES_rows" ⟨55, 12, 55, 22⟩) (.var 2 ⟨55, 23, 55, 27⟩) ⟨55, 12, 55, 28⟩) ⟨55, 4, 55, 28⟩)
    (.cons (.expr (.call "need" (.cons (.var 0 ⟨56, 9, 56, 14⟩) (.cons (.blt .len (.cons (.var 4 ⟨56, 20, 56, 25⟩) .nil) ⟨56, 16, 56, 19⟩ ⟨56, 16, 56, 26⟩) .nil)) ⟨56, 4, 56, 8⟩ ⟨56, 4, 56, 27⟩) ⟨56, 4, 56, 27⟩)
    (.cons (.assign 5 ⟨57, 4, 57, 10⟩ (.blt .list (.cons (.sfrom (.var 0 ⟨57, 18, 57, 23⟩) (.bin (.var 3 ⟨57, 24, 57, 28⟩) .Sub (.blt .len (.cons (.var 4 ⟨57, 35, 57, 40⟩) .nil) ⟨57, 31, 57, 34⟩ ⟨57, 31, 57, 41⟩) ⟨57, 24, 57, 41⟩) ⟨57, 24, 57, 42⟩ ⟨57, 18, 57, 43⟩) .nil) ⟨57, 13, 57, 17⟩ ⟨57, 13, 57, 44⟩) ⟨57, 4, 57, 44⟩)
    (.cons (.ite (.cmp (.call "kinds_of" (.cons (.var 5 ⟨58, 16, 58, 22⟩) .nil) ⟨58, 7, 58, 15⟩ ⟨58, 7, 58, 23⟩) .NotEq (.var 4 ⟨58, 27, 58, 32⟩) ⟨58, 7, 58, 32⟩) (.cons (.raise 2 "WrongKind" "a value of another kind is wanted" 0 ⟨59, 14, 59, 23⟩ ⟨59, 24, 59, 59⟩ ⟨59, 14, 59, 60⟩ ⟨59, 8, 59, 60⟩)
    .nil) .nil ⟨58, 4, 59, 60⟩)
    (.cons (.ret (.bin (.blt .list (.cons (.sto (.var 0 ⟨60, 16, 60, 21⟩) (.bin (.var 3 ⟨60, 23, 60, 27⟩) .Sub (.blt .len (.cons (.var 4 ⟨60, 34, 60, 39⟩) .nil) ⟨60, 30, 60, 33⟩ ⟨60, 30, 60, 40⟩) ⟨60, 23, 60, 40⟩) ⟨60, 22, 60, 40⟩ ⟨60, 16, 60, 41⟩) .nil) ⟨60, 11, 60, 15⟩ ⟨60, 11, 60, 42⟩) .Add (.list (.cons (.call "reckoned" (.cons (.var 2 ⟨60, 55, 60, 59⟩) (.cons (.var 5 ⟨60, 61, 60, 67⟩) .nil)) ⟨60, 46, 60, 54⟩ ⟨60, 46, 60, 68⟩) .nil) ⟨60, 45, 60, 69⟩) ⟨60, 11, 60, 69⟩) ⟨60, 4, 60, 69⟩)
    .nil)))))))))))
noncomputable def S_done : Scope := {
              kind := PySem.ScopeKind.function,
              names := [
                (PySem.Str.ofString "stack", PySem.NameKind.local),
                (PySem.Str.ofString "row", PySem.NameKind.local),
                (PySem.Str.ofString "word", PySem.NameKind.local),
                (PySem.Str.ofString "size", PySem.NameKind.local),
                (PySem.Str.ofString "takes", PySem.NameKind.local),
                (PySem.Str.ofString "values", PySem.NameKind.local),
                (PySem.Str.ofString "len", PySem.NameKind.globalImplicit),
                (PySem.Str.ofString "list", PySem.NameKind.globalImplicit),
                (PySem.Str.ofString "need", PySem.NameKind.globalImplicit),
                (PySem.Str.ofString "TAKES_rows", PySem.NameKind.globalImplicit),
                (PySem.Str.ofString "kinds_of", PySem.NameKind.globalImplicit),
                (PySem.Str.ofString "WrongKind", PySem.NameKind.globalImplicit),
                (PySem.Str.ofString "reckoned", PySem.NameKind.globalImplicit)],
              isGenerator := false,
              isCoroutine := false,
              more := [] : PySem.Scope }

noncomputable def N_Machine___init__ : List Str := ["self", "program", "name", "stack"]
noncomputable def B_Machine___init__ : ASs :=
    (.cons (.ite (.cmp (.var 2 ⟨65, 11, 65, 15⟩) .NotIn (.var 1 ⟨65, 23, 65, 30⟩) ⟨65, 11, 65, 30⟩) (.cons (.raise 3 "NoBlock" "no such block" 0 ⟨66, 18, 66, 25⟩ ⟨66, 26, 66, 41⟩ ⟨66, 18, 66, 42⟩ ⟨66, 12, 66, 42⟩)
    .nil) .nil ⟨65, 8, 66, 42⟩)
    (.cons (.sattr (.var 0 ⟨67, 8, 67, 12⟩) "program" ⟨67, 8, 67, 20⟩ (.var 1 ⟨67, 23, 67, 30⟩) ⟨67, 8, 67, 30⟩)
    (.cons (.sattr (.var 0 ⟨68, 8, 68, 12⟩) "stack" ⟨68, 8, 68, 18⟩ (.blt .list (.cons (.var 3 ⟨68, 26, 68, 31⟩) .nil) ⟨68, 21, 68, 25⟩ ⟨68, 21, 68, 32⟩) ⟨68, 8, 68, 32⟩)
    (.cons (.sattr (.var 0 ⟨69, 8, 69, 12⟩) "frames" ⟨69, 8, 69, 19⟩ (.list (.cons (.tup (.cons (.var 2 ⟨69, 24, 69, 28⟩) (.cons (.lit (.int 0) 0 ⟨69, 30, 69, 31⟩) .nil)) 0 ⟨69, 23, 69, 32⟩) .nil) ⟨69, 22, 69, 33⟩) ⟨69, 8, 69, 33⟩)
    (.cons (.expr (.umeth (.var 0 ⟨70, 8, 70, 12⟩) "Machine.settle" "settle" .nil ⟨70, 8, 70, 19⟩ ⟨70, 8, 70, 21⟩) ⟨70, 8, 70, 21⟩)
    .nil)))))
noncomputable def S_Machine___init__ : Scope := {
                  kind := PySem.ScopeKind.function,
                  names := [
                    (PySem.Str.ofString "self", PySem.NameKind.local),
                    (PySem.Str.ofString "program", PySem.NameKind.local),
                    (PySem.Str.ofString "name", PySem.NameKind.local),
                    (PySem.Str.ofString "stack", PySem.NameKind.local),
                    (PySem.Str.ofString "NoBlock", PySem.NameKind.globalImplicit),
                    (PySem.Str.ofString "list", PySem.NameKind.globalImplicit)],
                  isGenerator := false,
                  isCoroutine := false,
                  more := [] : PySem.Scope }

noncomputable def N_Machine_settle : List Str := ["self"]
noncomputable def B_Machine_settle : ASs :=
    (.cons (.while (.bop .And (.cons (.cmp (.blt .len (.cons (.attr (.var 0 ⟨73, 18, 73, 22⟩) "frames" ⟨73, 18, 73, 29⟩) .nil) ⟨73, 14, 73, 17⟩ ⟨73, 14, 73, 30⟩) .Gt (.lit (.int 0) 0 ⟨73, 33, 73, 34⟩) ⟨73, 14, 73, 34⟩) (.cons (.cmp (.sub (.sub (.attr (.var 0 ⟨73, 39, 73, 43⟩) "frames" ⟨73, 39, 73, 50⟩) (.neg (.lit (.int 1) 0 ⟨73, 52, 73, 53⟩) ⟨73, 51, 73, 53⟩) ⟨73, 39, 73, 54⟩) (.lit (.int 1) 0 ⟨73, 55, 73, 56⟩) ⟨73, 39, 73, 57⟩) .Eq (.blt .len (.cons (.sub (.sub (.attr (.var 0 ⟨73, 65, 73, 69⟩) "program" ⟨73, 65, 73, 77⟩) (.sub (.sub (.attr (.var 0 ⟨73, 78, 73, 82⟩) "frames" ⟨73, 78, 73, 89⟩) (.neg (.lit (.int 1) 0 ⟨73, 91, 73, 92⟩) ⟨73, 90, 73, 92⟩) ⟨73, 78, 73, 93⟩) (.lit (.int 0) 0 ⟨73, 94, 73, 95⟩) ⟨73, 78, 73, 96⟩) ⟨73, 65, 73, 97⟩) (.lit (.int 2) 0 ⟨73, 98, 73, 99⟩) ⟨73, 65, 73, 100⟩) .nil) ⟨73, 61, 73, 64⟩ ⟨73, 61, 73, 101⟩) ⟨73, 39, 73, 101⟩) .nil)) ⟨73, 14, 73, 101⟩) (.cons (.sattr (.var 0 ⟨74, 12, 74, 16⟩) "frames" ⟨74, 12, 74, 23⟩ (.sto (.attr (.var 0 ⟨74, 26, 74, 30⟩) "frames" ⟨74, 26, 74, 37⟩) (.neg (.lit (.int 1) 0 ⟨74, 40, 74, 41⟩) ⟨74, 39, 74, 41⟩) ⟨74, 38, 74, 41⟩ ⟨74, 26, 74, 42⟩) ⟨74, 12, 74, 42⟩)
    .nil) ⟨73, 8, 74, 42⟩)
    .nil)
noncomputable def S_Machine_settle : Scope := {
                  kind := PySem.ScopeKind.function,
                  names := [(PySem.Str.ofString "self", PySem.NameKind.local), (PySem.Str.ofString "len", PySem.NameKind.globalImplicit)],
                  isGenerator := false,
                  isCoroutine := false,
                  more := [] : PySem.Scope }

noncomputable def N_Machine_over : List Str := ["self"]
noncomputable def B_Machine_over : ASs :=
    (.cons (.ret (.cmp (.blt .len (.cons (.attr (.var 0 ⟨77, 19, 77, 23⟩) "frames" ⟨77, 19, 77, 30⟩) .nil) ⟨77, 15, 77, 18⟩ ⟨77, 15, 77, 31⟩) .Eq (.lit (.int 0) 0 ⟨77, 35, 77, 36⟩) ⟨77, 15, 77, 36⟩) ⟨77, 8, 77, 36⟩)
    .nil)
noncomputable def S_Machine_over : Scope := {
                  kind := PySem.ScopeKind.function,
                  names := [(PySem.Str.ofString "self", PySem.NameKind.local), (PySem.Str.ofString "len", PySem.NameKind.globalImplicit)],
                  isGenerator := false,
                  isCoroutine := false,
                  more := [] : PySem.Scope }

noncomputable def N_Machine_goal_of : List Str := ["self", "row", "goal"]
noncomputable def B_Machine_goal_of : ASs :=
    (.cons (.assign 2 ⟨80, 8, 80, 12⟩ (.sub (.var 1 ⟨80, 15, 80, 18⟩) (.lit (.int 1) 0 ⟨80, 19, 80, 20⟩) ⟨80, 15, 80, 21⟩) ⟨80, 8, 80, 21⟩)
    (.cons (.ite (.cmp (.sub (.var 1 ⟨81, 11, 81, 14⟩) (.lit (.int 0) 0 ⟨81, 15, 81, 16⟩) ⟨81, 11, 81, 17⟩) .Eq (.lit (.str "if") 0 ⟨81, 21, 81, 25⟩) ⟨81, 11, 81, 25⟩) (.cons (.ite (.cmp (.blt .len (.cons (.attr (.var 0 ⟨82, 19, 82, 23⟩) "stack" ⟨82, 19, 82, 29⟩) .nil) ⟨82, 15, 82, 18⟩ ⟨82, 15, 82, 30⟩) .Eq (.lit (.int 0) 0 ⟨82, 34, 82, 35⟩) ⟨82, 15, 82, 35⟩) (.cons (.raise 1 "Empty" "a number is wanted" 0 ⟨83, 22, 83, 27⟩ ⟨83, 28, 83, 48⟩ ⟨83, 22, 83, 49⟩ ⟨83, 16, 83, 49⟩)
    .nil) .nil ⟨82, 12, 83, 49⟩)
    (.cons (.ite (.cmp (.call "kinds_of" (.cons (.sfrom (.attr (.var 0 ⟨84, 24, 84, 28⟩) "stack" ⟨84, 24, 84, 34⟩) (.neg (.lit (.int 1) 0 ⟨84, 36, 84, 37⟩) ⟨84, 35, 84, 37⟩) ⟨84, 35, 84, 38⟩ ⟨84, 24, 84, 39⟩) .nil) ⟨84, 15, 84, 23⟩ ⟨84, 15, 84, 40⟩) .NotEq (.tup (.cons (.lit (.str "num") 0 ⟨84, 45, 84, 50⟩) .nil) 0 ⟨84, 44, 84, 52⟩) ⟨84, 15, 84, 52⟩) (.cons (.raise 2 "WrongKind" "a number is wanted" 0 ⟨85, 22, 85, 31⟩ ⟨85, 32, 85, 52⟩ ⟨85, 22, 85, 53⟩ ⟨85, 16, 85, 53⟩)
    .nil) .nil ⟨84, 12, 85, 53⟩)
    (.cons (.ite (.cmp (.sub (.attr (.var 0 ⟨86, 15, 86, 19⟩) "stack" ⟨86, 15, 86, 25⟩) (.neg (.lit (.int 1) 0 ⟨86, 27, 86, 28⟩) ⟨86, 26, 86, 28⟩) ⟨86, 15, 86, 29⟩) .Eq (.lit (.int 0) 0 ⟨86, 33, 86, 34⟩) ⟨86, 15, 86, 34⟩) (.cons (.assign 2 ⟨87, 16, 87, 20⟩ (.sub (.var 1 ⟨87, 23, 87, 26⟩) (.lit (.int 2) 0 ⟨87, 27, 87, 28⟩) ⟨87, 23, 87, 29⟩) ⟨87, 16, 87, 29⟩)
    .nil) .nil ⟨86, 12, 87, 29⟩)
    .nil))) .nil ⟨81, 8, 87, 29⟩)
    (.cons (.ite (.cmp (.var 2 ⟨88, 11, 88, 15⟩) .NotIn (.attr (.var 0 ⟨88, 23, 88, 27⟩) "program" ⟨88, 23, 88, 35⟩) ⟨88, 11, 88, 35⟩) (.cons (.raise 3 "NoBlock" "no such block" 0 ⟨89, 18, 89, 25⟩ ⟨89, 26, 89, 41⟩ ⟨89, 18, 89, 42⟩ ⟨89, 12, 89, 42⟩)
    .nil) .nil ⟨88, 8, 89, 42⟩)
    (.cons (.ret (.var 2 ⟨90, 15, 90, 19⟩) ⟨90, 8, 90, 19⟩)
    .nil))))
noncomputable def S_Machine_goal_of : Scope := {
                  kind := PySem.ScopeKind.function,
                  names := [
                    (PySem.Str.ofString "self", PySem.NameKind.local),
                    (PySem.Str.ofString "row", PySem.NameKind.local),
                    (PySem.Str.ofString "goal", PySem.NameKind.local),
                    (PySem.Str.ofString "len", PySem.NameKind.globalImplicit),
                    (PySem.Str.ofString "Empty", PySem.NameKind.globalImplicit),
                    (PySem.Str.ofString "kinds_of", PySem.NameKind.globalImplicit),
                    (PySem.Str.ofString "WrongKind", PySem.NameKind.globalImplicit),
                    (PySem.Str.ofString "NoBlock", PySem.NameKind.globalImplicit)],
                  isGenerator := false,
                  isCoroutine := false,
                  more := [] : PySem.Scope }

noncomputable def N_Machine_step : List Str := ["self", "name", "place", "row", "stack", "more"]
noncomputable def B_Machine_step : ASs :=
    (.cons (.ite (.umeth (.var 0 ⟨93, 11, 93, 15⟩) "Machine.over" "over" .nil ⟨93, 11, 93, 20⟩ ⟨93, 11, 93, 22⟩) (.cons (.ret0 ⟨94, 12, 94, 18⟩)
    .nil) .nil ⟨93, 8, 94, 18⟩)
    (.cons (.assign 1 ⟨95, 8, 95, 12⟩ (.sub (.sub (.attr (.var 0 ⟨95, 15, 95, 19⟩) "frames" ⟨95, 15, 95, 26⟩) (.neg (.lit (.int 1) 0 ⟨95, 28, 95, 29⟩) ⟨95, 27, 95, 29⟩) ⟨95, 15, 95, 30⟩) (.lit (.int 0) 0 ⟨95, 31, 95, 32⟩) ⟨95, 15, 95, 33⟩) ⟨95, 8, 95, 33⟩)
    (.cons (.assign 2 ⟨96, 8, 96, 13⟩ (.sub (.sub (.attr (.var 0 ⟨96, 16, 96, 20⟩) "frames" ⟨96, 16, 96, 27⟩) (.neg (.lit (.int 1) 0 ⟨96, 29, 96, 30⟩) ⟨96, 28, 96, 30⟩) ⟨96, 16, 96, 31⟩) (.lit (.int 1) 0 ⟨96, 32, 96, 33⟩) ⟨96, 16, 96, 34⟩) ⟨96, 8, 96, 34⟩)
    (.cons (.assign 3 ⟨97, 8, 97, 11⟩ (.sub (.sub (.sub (.attr (.var 0 ⟨97, 14, 97, 18⟩) "program" ⟨97, 14, 97, 26⟩) (.var 1 ⟨97, 27, 97, 31⟩) ⟨97, 14, 97, 32⟩) (.lit (.int 2) 0 ⟨97, 33, 97, 34⟩) ⟨97, 14, 97, 35⟩) (.var 2 ⟨97, 36, 97, 41⟩) ⟨97, 14, 97, 42⟩) ⟨97, 8, 97, 42⟩)
    (.cons (.assign 4 ⟨98, 8, 98, 13⟩ (.attr (.var 0 ⟨98, 16, 98, 20⟩) "stack" ⟨98, 16, 98, 26⟩) ⟨98, 8, 98, 26⟩)
    (.cons (.assign 5 ⟨99, 8, 99, 12⟩ (.list .nil ⟨99, 15, 99, 17⟩) ⟨99, 8, 99, 17⟩)
    (.cons (.ite (.bop .Or (.cons (.cmp (.sub (.var 3 ⟨100, 11, 100, 14⟩) (.lit (.int 0) 0 ⟨100, 15, 100, 16⟩) ⟨100, 11, 100, 17⟩) .Eq (.lit (.str "call") 0 ⟨100, 21, 100, 27⟩) ⟨100, 11, 100, 27⟩) (.cons (.cmp (.sub (.var 3 ⟨100, 31, 100, 34⟩) (.lit (.int 0) 0 ⟨100, 35, 100, 36⟩) ⟨100, 31, 100, 37⟩) .Eq (.lit (.str "if") 0 ⟨100, 41, 100, 45⟩) ⟨100, 31, 100, 45⟩) .nil)) ⟨100, 11, 100, 45⟩) (.cons (.assign 5 ⟨101, 12, 101, 16⟩ (.list (.cons (.tup (.cons (.umeth (.var 0 ⟨101, 21, 101, 25⟩) "Machine.goal_of" "goal_of" (.cons (.var 3 ⟨101, 34, 101, 37⟩) .nil) ⟨101, 21, 101, 33⟩ ⟨101, 21, 101, 38⟩) (.cons (.lit (.int 0) 0 ⟨101, 40, 101, 41⟩) .nil)) 0 ⟨101, 20, 101, 42⟩) .nil) ⟨101, 19, 101, 43⟩) ⟨101, 12, 101, 43⟩)
    (.cons (.ite (.cmp (.sub (.var 3 ⟨102, 15, 102, 18⟩) (.lit (.int 0) 0 ⟨102, 19, 102, 20⟩) ⟨102, 15, 102, 21⟩) .Eq (.lit (.str "if") 0 ⟨102, 25, 102, 29⟩) ⟨102, 15, 102, 29⟩) (.cons (.assign 4 ⟨103, 16, 103, 21⟩ (.sto (.var 4 ⟨103, 24, 103, 29⟩) (.neg (.lit (.int 1) 0 ⟨103, 32, 103, 33⟩) ⟨103, 31, 103, 33⟩) ⟨103, 30, 103, 33⟩ ⟨103, 24, 103, 34⟩) ⟨103, 16, 103, 34⟩)
    .nil) .nil ⟨102, 12, 103, 34⟩)
    .nil)) (.cons (.assign 4 ⟨105, 12, 105, 17⟩ (.call "done" (.cons (.var 4 ⟨105, 25, 105, 30⟩) (.cons (.var 3 ⟨105, 32, 105, 35⟩) .nil)) ⟨105, 20, 105, 24⟩ ⟨105, 20, 105, 36⟩) ⟨105, 12, 105, 36⟩)
    .nil) ⟨100, 8, 105, 36⟩)
    (.cons (.sattr (.var 0 ⟨106, 8, 106, 12⟩) "stack" ⟨106, 8, 106, 18⟩ (.var 4 ⟨106, 21, 106, 26⟩) ⟨106, 8, 106, 26⟩)
    (.cons (.sattr (.var 0 ⟨107, 8, 107, 12⟩) "frames" ⟨107, 8, 107, 19⟩ (.bin (.bin (.sto (.attr (.var 0 ⟨107, 22, 107, 26⟩) "frames" ⟨107, 22, 107, 33⟩) (.neg (.lit (.int 1) 0 ⟨107, 36, 107, 37⟩) ⟨107, 35, 107, 37⟩) ⟨107, 34, 107, 37⟩ ⟨107, 22, 107, 38⟩) .Add (.list (.cons (.tup (.cons (.var 1 ⟨107, 43, 107, 47⟩) (.cons (.bin (.var 2 ⟨107, 49, 107, 54⟩) .Add (.lit (.int 1) 0 ⟨107, 57, 107, 58⟩) ⟨107, 49, 107, 58⟩) .nil)) 0 ⟨107, 42, 107, 59⟩) .nil) ⟨107, 41, 107, 60⟩) ⟨107, 22, 107, 60⟩) .Add (.var 5 ⟨107, 63, 107, 67⟩) ⟨107, 22, 107, 67⟩) ⟨107, 8, 107, 67⟩)
    (.cons (.expr (.umeth (.var 0 ⟨108, 8, 108, 12⟩) "Machine.settle" "settle" .nil ⟨108, 8, 108, 19⟩ ⟨108, 8, 108, 21⟩) ⟨108, 8, 108, 21⟩)
    .nil))))))))))
noncomputable def S_Machine_step : Scope := {
                  kind := PySem.ScopeKind.function,
                  names := [
                    (PySem.Str.ofString "self", PySem.NameKind.local),
                    (PySem.Str.ofString "name", PySem.NameKind.local),
                    (PySem.Str.ofString "place", PySem.NameKind.local),
                    (PySem.Str.ofString "row", PySem.NameKind.local),
                    (PySem.Str.ofString "stack", PySem.NameKind.local),
                    (PySem.Str.ofString "more", PySem.NameKind.local),
                    (PySem.Str.ofString "done", PySem.NameKind.globalImplicit)],
                  isGenerator := false,
                  isCoroutine := false,
                  more := [] : PySem.Scope }

noncomputable def N_run : List Str := ["program", "name", "stack", "fuel", "machine", "steps"]
noncomputable def B_run : ASs :=
    (.cons (.assign 4 ⟨110, 4, 110, 11⟩ (.new (.cons (.var 0 ⟨110, 22, 110, 29⟩) (.cons (.var 1 ⟨110, 31, 110, 35⟩) (.cons (.var 2 ⟨110, 37, 110, 42⟩) .nil))) ⟨110, 14, 110, 21⟩ ⟨110, 14, 110, 43⟩) ⟨110, 4, 110, 43⟩)
    (.cons (.assign 5 ⟨111, 4, 111, 9⟩ (.lit (.int 0) 0 ⟨111, 12, 111, 13⟩) ⟨111, 4, 111, 13⟩)
    (.cons (.while (.not (.umeth (.var 4 ⟨112, 14, 112, 21⟩) "Machine.over" "over" .nil ⟨112, 14, 112, 26⟩ ⟨112, 14, 112, 28⟩) ⟨112, 10, 112, 28⟩) (.cons (.ite (.cmp (.var 5 ⟨113, 11, 113, 16⟩) .Eq (.var 3 ⟨113, 20, 113, 24⟩) ⟨113, 11, 113, 24⟩) (.cons (.raise 5 "Dry" "no fuel left" 0 ⟨114, 18, 114, 21⟩ ⟨114, 22, 114, 36⟩ ⟨114, 18, 114, 37⟩ ⟨114, 12, 114, 37⟩)
    .nil) .nil ⟨113, 8, 114, 37⟩)
    (.cons (.expr (.umeth (.var 4 ⟨115, 8, 115, 15⟩) "Machine.step" "step" .nil ⟨115, 8, 115, 20⟩ ⟨115, 8, 115, 22⟩) ⟨115, 8, 115, 22⟩)
    (.cons (.assign 5 ⟨116, 8, 116, 13⟩ (.bin (.var 5 ⟨116, 16, 116, 21⟩) .Add (.lit (.int 1) 0 ⟨116, 24, 116, 25⟩) ⟨116, 16, 116, 25⟩) ⟨116, 8, 116, 25⟩)
    .nil))) ⟨112, 4, 116, 25⟩)
    (.cons (.ret (.attr (.var 4 ⟨117, 11, 117, 18⟩) "stack" ⟨117, 11, 117, 24⟩) ⟨117, 4, 117, 24⟩)
    .nil))))
noncomputable def S_run : Scope := {
              kind := PySem.ScopeKind.function,
              names := [
                (PySem.Str.ofString "program", PySem.NameKind.local),
                (PySem.Str.ofString "name", PySem.NameKind.local),
                (PySem.Str.ofString "stack", PySem.NameKind.local),
                (PySem.Str.ofString "fuel", PySem.NameKind.local),
                (PySem.Str.ofString "machine", PySem.NameKind.local),
                (PySem.Str.ofString "steps", PySem.NameKind.local),
                (PySem.Str.ofString "Machine", PySem.NameKind.globalImplicit),
                (PySem.Str.ofString "Dry", PySem.NameKind.globalImplicit)],
              isGenerator := false,
              isCoroutine := false,
              more := [] : PySem.Scope }

noncomputable def N_taken : List Str := ["kinds", "takes", "left"]
noncomputable def B_taken : ASs :=
    (.cons (.assign 2 ⟨122, 4, 122, 8⟩ (.bin (.blt .len (.cons (.var 0 ⟨122, 15, 122, 20⟩) .nil) ⟨122, 11, 122, 14⟩ ⟨122, 11, 122, 21⟩) .Sub (.blt .len (.cons (.var 1 ⟨122, 28, 122, 33⟩) .nil) ⟨122, 24, 122, 27⟩ ⟨122, 24, 122, 34⟩) ⟨122, 11, 122, 34⟩) ⟨122, 4, 122, 34⟩)
    (.cons (.ite (.cmp (.var 2 ⟨123, 7, 123, 11⟩) .Lt (.lit (.int 0) 0 ⟨123, 14, 123, 15⟩) ⟨123, 7, 123, 15⟩) (.cons (.raise 1 "Empty" "too few kinds" 0 ⟨124, 14, 124, 19⟩ ⟨124, 20, 124, 35⟩ ⟨124, 14, 124, 36⟩ ⟨124, 8, 124, 36⟩)
    .nil) .nil ⟨123, 4, 124, 36⟩)
    (.cons (.ite (.cmp (.sfrom (.var 0 ⟨125, 7, 125, 12⟩) (.var 2 ⟨125, 13, 125, 17⟩) ⟨125, 13, 125, 18⟩ ⟨125, 7, 125, 19⟩) .NotEq (.var 1 ⟨125, 23, 125, 28⟩) ⟨125, 7, 125, 28⟩) (.cons (.raise 2 "WrongKind" "another kind is wanted" 0 ⟨126, 14, 126, 23⟩ ⟨126, 24, 126, 48⟩ ⟨126, 14, 126, 49⟩ ⟨126, 8, 126, 49⟩)
    .nil) .nil ⟨125, 4, 126, 49⟩)
    (.cons (.ret (.sto (.var 0 ⟨127, 11, 127, 16⟩) (.var 2 ⟨127, 18, 127, 22⟩) ⟨127, 17, 127, 22⟩ ⟨127, 11, 127, 23⟩) ⟨127, 4, 127, 23⟩)
    .nil))))
noncomputable def S_taken : Scope := {
              kind := PySem.ScopeKind.function,
              names := [
                (PySem.Str.ofString "kinds", PySem.NameKind.local),
                (PySem.Str.ofString "takes", PySem.NameKind.local),
                (PySem.Str.ofString "left", PySem.NameKind.local),
                (PySem.Str.ofString "len", PySem.NameKind.globalImplicit),
                (PySem.Str.ofString "Empty", PySem.NameKind.globalImplicit),
                (PySem.Str.ofString "WrongKind", PySem.NameKind.globalImplicit)],
              isGenerator := false,
              isCoroutine := false,
              more := [] : PySem.Scope }

noncomputable def N_block_of : List Str := ["program", "name"]
noncomputable def B_block_of : ASs :=
    (.cons (.ite (.cmp (.var 1 ⟨129, 7, 129, 11⟩) .NotIn (.var 0 ⟨129, 19, 129, 26⟩) ⟨129, 7, 129, 26⟩) (.cons (.raise 3 "NoBlock" "no such block" 0 ⟨130, 14, 130, 21⟩ ⟨130, 22, 130, 37⟩ ⟨130, 14, 130, 38⟩ ⟨130, 8, 130, 38⟩)
    .nil) .nil ⟨129, 4, 130, 38⟩)
    (.cons (.ret (.sub (.var 0 ⟨131, 11, 131, 18⟩) (.var 1 ⟨131, 19, 131, 23⟩) ⟨131, 11, 131, 24⟩) ⟨131, 4, 131, 24⟩)
    .nil))
noncomputable def S_block_of : Scope := {
              kind := PySem.ScopeKind.function,
              names := [
                (PySem.Str.ofString "program", PySem.NameKind.local),
                (PySem.Str.ofString "name", PySem.NameKind.local),
                (PySem.Str.ofString "NoBlock", PySem.NameKind.globalImplicit)],
              isGenerator := false,
              isCoroutine := false,
              more := [] : PySem.Scope }

noncomputable def N_called : List Str := ["program", "kinds", "name", "block"]
noncomputable def B_called : ASs :=
    (.cons (.assign 3 ⟨133, 4, 133, 9⟩ (.call "block_of" (.cons (.var 0 ⟨133, 21, 133, 28⟩) (.cons (.var 2 ⟨133, 30, 133, 34⟩) .nil)) ⟨133, 12, 133, 20⟩ ⟨133, 12, 133, 35⟩) ⟨133, 4, 133, 35⟩)
    (.cons (.ret (.bin (.call "taken" (.cons (.var 1 ⟨134, 17, 134, 22⟩) (.cons (.blt .tuple (.cons (.sub (.var 3 ⟨134, 30, 134, 35⟩) (.lit (.int 0) 0 ⟨134, 36, 134, 37⟩) ⟨134, 30, 134, 38⟩) .nil) ⟨134, 24, 134, 29⟩ ⟨134, 24, 134, 39⟩) .nil)) ⟨134, 11, 134, 16⟩ ⟨134, 11, 134, 40⟩) .Add (.blt .tuple (.cons (.sub (.var 3 ⟨134, 49, 134, 54⟩) (.lit (.int 1) 0 ⟨134, 55, 134, 56⟩) ⟨134, 49, 134, 57⟩) .nil) ⟨134, 43, 134, 48⟩ ⟨134, 43, 134, 58⟩) ⟨134, 11, 134, 58⟩) ⟨134, 4, 134, 58⟩)
    .nil))
noncomputable def S_called : Scope := {
              kind := PySem.ScopeKind.function,
              names := [
                (PySem.Str.ofString "program", PySem.NameKind.local),
                (PySem.Str.ofString "kinds", PySem.NameKind.local),
                (PySem.Str.ofString "name", PySem.NameKind.local),
                (PySem.Str.ofString "block", PySem.NameKind.local),
                (PySem.Str.ofString "block_of", PySem.NameKind.globalImplicit),
                (PySem.Str.ofString "taken", PySem.NameKind.globalImplicit),
                (PySem.Str.ofString "tuple", PySem.NameKind.globalImplicit)],
              isGenerator := false,
              isCoroutine := false,
              more := [] : PySem.Scope }

noncomputable def N_moved : List Str := ["kinds", "row", "size", "wants"]
noncomputable def B_moved : ASs :=
    (.cons (.assign 2 ⟨136, 4, 136, 8⟩ (.blt .len (.cons (.var 0 ⟨136, 15, 136, 20⟩) .nil) ⟨136, 11, 136, 14⟩ ⟨136, 11, 136, 21⟩) ⟨136, 4, 136, 21⟩)
    (.cons (.assign 3 ⟨137, 4, 137, 9⟩ (.dict [("swap", ⟨137, 13, 137, 19⟩), ("drop", ⟨137, 24, 137, 30⟩)] (.cons (.lit (.int 2) 0 ⟨137, 21, 137, 22⟩) (.cons (.lit (.int 1) 0 ⟨137, 32, 137, 33⟩) .nil)) ⟨137, 12, 137, 34⟩) ⟨137, 4, 137, 34⟩)
    (.cons (.ite (.cmp (.sub (.var 1 ⟨138, 7, 138, 10⟩) (.lit (.int 0) 0 ⟨138, 11, 138, 12⟩) ⟨138, 7, 138, 13⟩) .Eq (.lit (.str "copy") 0 ⟨138, 17, 138, 23⟩) ⟨138, 7, 138, 23⟩) (.cons (.ite (.cmp (.var 2 ⟨139, 11, 139, 15⟩) .Lt (.bin (.sub (.var 1 ⟨139, 18, 139, 21⟩) (.lit (.int 1) 0 ⟨139, 22, 139, 23⟩) ⟨139, 18, 139, 24⟩) .Add (.lit (.int 1) 0 ⟨139, 27, 139, 28⟩) ⟨139, 18, 139, 28⟩) ⟨139, 11, 139, 28⟩) (.cons (.raise 1 "Empty" "too few kinds" 0 ⟨140, 18, 140, 23⟩ ⟨140, 24, 140, 39⟩ ⟨140, 18, 140, 40⟩ ⟨140, 12, 140, 40⟩)
    .nil) .nil ⟨139, 8, 140, 40⟩)
    (.cons (.ret (.bin (.var 0 ⟨141, 15, 141, 20⟩) .Add (.tup (.cons (.sub (.var 0 ⟨141, 24, 141, 29⟩) (.bin (.bin (.var 2 ⟨141, 30, 141, 34⟩) .Sub (.lit (.int 1) 0 ⟨141, 37, 141, 38⟩) ⟨141, 30, 141, 38⟩) .Sub (.sub (.var 1 ⟨141, 41, 141, 44⟩) (.lit (.int 1) 0 ⟨141, 45, 141, 46⟩) ⟨141, 41, 141, 47⟩) ⟨141, 30, 141, 47⟩) ⟨141, 24, 141, 48⟩) .nil) 0 ⟨141, 23, 141, 50⟩) ⟨141, 15, 141, 50⟩) ⟨141, 8, 141, 50⟩)
    .nil)) .nil ⟨138, 4, 141, 50⟩)
    (.cons (.ite (.cmp (.var 2 ⟨142, 7, 142, 11⟩) .Lt (.sub (.var 3 ⟨142, 14, 142, 19⟩) (.sub (.var 1 ⟨142, 20, 142, 23⟩) (.lit (.int 0) 0 ⟨142, 24, 142, 25⟩) ⟨142, 20, 142, 26⟩) ⟨142, 14, 142, 27⟩) ⟨142, 7, 142, 27⟩) (.cons (.raise 1 "Empty" "too few kinds" 0 ⟨143, 14, 143, 19⟩ ⟨143, 20, 143, 35⟩ ⟨143, 14, 143, 36⟩ ⟨143, 8, 143, 36⟩)
    .nil) .nil ⟨142, 4, 143, 36⟩)
    (.cons (.ite (.cmp (.sub (.var 1 ⟨144, 7, 144, 10⟩) (.lit (.int 0) 0 ⟨144, 11, 144, 12⟩) ⟨144, 7, 144, 13⟩) .Eq (.lit (.str "swap") 0 ⟨144, 17, 144, 23⟩) ⟨144, 7, 144, 23⟩) (.cons (.ret (.bin (.sto (.var 0 ⟨145, 15, 145, 20⟩) (.bin (.var 2 ⟨145, 22, 145, 26⟩) .Sub (.lit (.int 2) 0 ⟨145, 29, 145, 30⟩) ⟨145, 22, 145, 30⟩) ⟨145, 21, 145, 30⟩ ⟨145, 15, 145, 31⟩) .Add (.tup (.cons (.sub (.var 0 ⟨145, 35, 145, 40⟩) (.bin (.var 2 ⟨145, 41, 145, 45⟩) .Sub (.lit (.int 1) 0 ⟨145, 48, 145, 49⟩) ⟨145, 41, 145, 49⟩) ⟨145, 35, 145, 50⟩) (.cons (.sub (.var 0 ⟨145, 52, 145, 57⟩) (.bin (.var 2 ⟨145, 58, 145, 62⟩) .Sub (.lit (.int 2) 0 ⟨145, 65, 145, 66⟩) ⟨145, 58, 145, 66⟩) ⟨145, 52, 145, 67⟩) .nil)) 0 ⟨145, 34, 145, 68⟩) ⟨145, 15, 145, 68⟩) ⟨145, 8, 145, 68⟩)
    .nil) .nil ⟨144, 4, 145, 68⟩)
    (.cons (.ret (.sto (.var 0 ⟨146, 11, 146, 16⟩) (.bin (.var 2 ⟨146, 18, 146, 22⟩) .Sub (.lit (.int 1) 0 ⟨146, 25, 146, 26⟩) ⟨146, 18, 146, 26⟩) ⟨146, 17, 146, 26⟩ ⟨146, 11, 146, 27⟩) ⟨146, 4, 146, 27⟩)
    .nil))))))
noncomputable def S_moved : Scope := {
              kind := PySem.ScopeKind.function,
              names := [
                (PySem.Str.ofString "kinds", PySem.NameKind.local),
                (PySem.Str.ofString "row", PySem.NameKind.local),
                (PySem.Str.ofString "size", PySem.NameKind.local),
                (PySem.Str.ofString "wants", PySem.NameKind.local),
                (PySem.Str.ofString "len", PySem.NameKind.globalImplicit),
                (PySem.Str.ofString "Empty", PySem.NameKind.globalImplicit)],
              isGenerator := false,
              isCoroutine := false,
              more := [] : PySem.Scope }

noncomputable def N_behind : List Str := ["program", "kinds", "row", "word", "left", "yes", "no"]
noncomputable def B_behind : ASs :=
    (.cons (.assign 3 ⟨148, 4, 148, 8⟩ (.sub (.var 2 ⟨148, 11, 148, 14⟩) (.lit (.int 0) 0 ⟨148, 15, 148, 16⟩) ⟨148, 11, 148, 17⟩) ⟨148, 4, 148, 17⟩)
    (.cons (.ite (.bop .Or (.cons (.cmp (.var 3 ⟨149, 7, 149, 11⟩) .Eq (.lit (.str "num") 0 ⟨149, 15, 149, 20⟩) ⟨149, 7, 149, 20⟩) (.cons (.cmp (.var 3 ⟨149, 24, 149, 28⟩) .Eq (.lit (.str "text") 0 ⟨149, 32, 149, 38⟩) ⟨149, 24, 149, 38⟩) .nil)) ⟨149, 7, 149, 38⟩) (.cons (.ret (.bin (.var 1 ⟨150, 15, 150, 20⟩) .Add (.tup (.cons (.var 3 ⟨150, 24, 150, 28⟩) .nil) 0 ⟨150, 23, 150, 30⟩) ⟨150, 15, 150, 30⟩) ⟨150, 8, 150, 30⟩)
    .nil) .nil ⟨149, 4, 150, 30⟩)
    (.cons (.ite (.bop .Or (.cons (.cmp (.var 3 ⟨151, 7, 151, 11⟩) .Eq (.lit (.str "copy") 0 ⟨151, 15, 151, 21⟩) ⟨151, 7, 151, 21⟩) (.cons (.cmp (.var 3 ⟨151, 25, 151, 29⟩) .Eq (.lit (.str "swap") 0 ⟨151, 33, 151, 39⟩) ⟨151, 25, 151, 39⟩) (.cons (.cmp (.var 3 ⟨151, 43, 151, 47⟩) .Eq (.lit (.str "drop") 0 ⟨151, 51, 151, 57⟩) ⟨151, 43, 151, 57⟩) .nil))) ⟨151, 7, 151, 57⟩) (.cons (.ret (.call "moved" (.cons (.var 1 ⟨152, 21, 152, 26⟩) (.cons (.var 2 ⟨152, 28, 152, 31⟩) .nil)) ⟨152, 15, 152, 20⟩ ⟨152, 15, 152, 32⟩) ⟨152, 8, 152, 32⟩)
    .nil) .nil ⟨151, 4, 152, 32⟩)
    (.cons (.ite (.cmp (.var 3 ⟨153, 7, 153, 11⟩) .Eq (.lit (.str "call") 0 ⟨153, 15, 153, 21⟩) ⟨153, 7, 153, 21⟩) (.cons (.ret (.call "called" (.cons (.var 0 ⟨154, 22, 154, 29⟩) (.cons (.var 1 ⟨154, 31, 154, 36⟩) (.cons (.sub (.var 2 ⟨154, 38, 154, 41⟩) (.lit (.int 1) 0 ⟨154, 42, 154, 43⟩) ⟨154, 38, 154, 44⟩) .nil))) ⟨154, 15, 154, 21⟩ ⟨154, 15, 154, 45⟩) ⟨154, 8, 154, 45⟩)
    .nil) .nil ⟨153, 4, 154, 45⟩)
    (.cons (.ite (.cmp (.var 3 ⟨155, 7, 155, 11⟩) .Eq (.lit (.str "if") 0 ⟨155, 15, 155, 19⟩) ⟨155, 7, 155, 19⟩) (.cons (.assign 4 ⟨156, 8, 156, 12⟩ (.call "taken" (.cons (.var 1 ⟨156, 21, 156, 26⟩) (.cons (.tup (.cons (.lit (.str "num") 0 ⟨156, 29, 156, 34⟩) .nil) 0 ⟨156, 28, 156, 36⟩) .nil)) ⟨156, 15, 156, 20⟩ ⟨156, 15, 156, 37⟩) ⟨156, 8, 156, 37⟩)
    (.cons (.assign 5 ⟨157, 8, 157, 11⟩ (.call "block_of" (.cons (.var 0 ⟨157, 23, 157, 30⟩) (.cons (.sub (.var 2 ⟨157, 32, 157, 35⟩) (.lit (.int 1) 0 ⟨157, 36, 157, 37⟩) ⟨157, 32, 157, 38⟩) .nil)) ⟨157, 14, 157, 22⟩ ⟨157, 14, 157, 39⟩) ⟨157, 8, 157, 39⟩)
    (.cons (.assign 6 ⟨158, 8, 158, 10⟩ (.call "block_of" (.cons (.var 0 ⟨158, 22, 158, 29⟩) (.cons (.sub (.var 2 ⟨158, 31, 158, 34⟩) (.lit (.int 2) 0 ⟨158, 35, 158, 36⟩) ⟨158, 31, 158, 37⟩) .nil)) ⟨158, 13, 158, 21⟩ ⟨158, 13, 158, 38⟩) ⟨158, 8, 158, 38⟩)
    (.cons (.ite (.bop .Or (.cons (.cmp (.blt .tuple (.cons (.sub (.var 5 ⟨159, 17, 159, 20⟩) (.lit (.int 0) 0 ⟨159, 21, 159, 22⟩) ⟨159, 17, 159, 23⟩) .nil) ⟨159, 11, 159, 16⟩ ⟨159, 11, 159, 24⟩) .NotEq (.blt .tuple (.cons (.sub (.var 6 ⟨159, 34, 159, 36⟩) (.lit (.int 0) 0 ⟨159, 37, 159, 38⟩) ⟨159, 34, 159, 39⟩) .nil) ⟨159, 28, 159, 33⟩ ⟨159, 28, 159, 40⟩) ⟨159, 11, 159, 40⟩) (.cons (.cmp (.blt .tuple (.cons (.sub (.var 5 ⟨159, 50, 159, 53⟩) (.lit (.int 1) 0 ⟨159, 54, 159, 55⟩) ⟨159, 50, 159, 56⟩) .nil) ⟨159, 44, 159, 49⟩ ⟨159, 44, 159, 57⟩) .NotEq (.blt .tuple (.cons (.sub (.var 6 ⟨159, 67, 159, 69⟩) (.lit (.int 1) 0 ⟨159, 70, 159, 71⟩) ⟨159, 67, 159, 72⟩) .nil) ⟨159, 61, 159, 66⟩ ⟨159, 61, 159, 73⟩) ⟨159, 44, 159, 73⟩) .nil)) ⟨159, 11, 159, 73⟩) (.cons (.raise 4 "Apart" "both blocks tell unlike kinds" 0 ⟨160, 18, 160, 23⟩ ⟨160, 24, 160, 55⟩ ⟨160, 18, 160, 56⟩ ⟨160, 12, 160, 56⟩)
    .nil) .nil ⟨159, 8, 160, 56⟩)
    (.cons (.ret (.call "called" (.cons (.var 0 ⟨161, 22, 161, 29⟩) (.cons (.var 4 ⟨161, 31, 161, 35⟩) (.cons (.sub (.var 2 ⟨161, 37, 161, 40⟩) (.lit (.int 1) 0 ⟨161, 41, 161, 42⟩) ⟨161, 37, 161, 43⟩) .nil))) ⟨161, 15, 161, 21⟩ ⟨161, 15, 161, 44⟩) ⟨161, 8, 161, 44⟩)
    .nil))))) .nil ⟨155, 4, 161, 44⟩)
    (.cons (.ret (.bin (.call "taken" (.cons (.var 1 ⟨162, 17, 162, 22⟩) (.cons (.sub (.glob "TAKES_kinds" ⟨162, 24, 162, 35⟩) (.var 3 ⟨162, 36, 162, 40⟩) ⟨162, 24, 162, 41⟩) .nil)) ⟨162, 11, 162, 16⟩ ⟨162, 11, 162, 42⟩) .Add (.tup (.cons (.sub (.glob "PUTS" ⟨162, 46, 162, 50⟩) (.var 3 ⟨162, 51, 162, 55⟩) ⟨162, 46, 162, 56⟩) .nil) 0 ⟨162, 45, 162, 58⟩) ⟨162, 11, 162, 58⟩) ⟨162, 4, 162, 58⟩)
    .nil))))))
noncomputable def S_behind : Scope := {
              kind := PySem.ScopeKind.function,
              names := [
                (PySem.Str.ofString "program", PySem.NameKind.local),
                (PySem.Str.ofString "kinds", PySem.NameKind.local),
                (PySem.Str.ofString "row", PySem.NameKind.local),
                (PySem.Str.ofString "word", PySem.NameKind.local),
                (PySem.Str.ofString "left", PySem.NameKind.local),
                (PySem.Str.ofString "yes", PySem.NameKind.local),
                (PySem.Str.ofString "no", PySem.NameKind.local),
                (PySem.Str.ofString "moved", PySem.NameKind.globalImplicit),
                (PySem.Str.ofString "called", PySem.NameKind.globalImplicit),
                (PySem.Str.ofString "taken", PySem.NameKind.globalImplicit),
                (PySem.Str.ofString "block_of", PySem.NameKind.globalImplicit),
                (PySem.Str.ofString "tuple", PySem.NameKind.globalImplicit),
                (PySem.Str.ofString "Apart", PySem.NameKind.globalImplicit),
                (PySem.Str.ofString "TAKES_kinds", PySem.NameKind.globalImplicit),
                (PySem.Str.ofString "PUTS", PySem.NameKind.globalImplicit)],
              isGenerator := false,
              isCoroutine := false,
              more := [] : PySem.Scope }

noncomputable def N_looked : List Str := ["program", "name", "block", "trail", "rows", "place", "word"]
noncomputable def B_looked : ASs :=
    (.cons (.assign 2 ⟨165, 4, 165, 9⟩ (.sub (.var 0 ⟨165, 12, 165, 19⟩) (.var 1 ⟨165, 20, 165, 24⟩) ⟨165, 12, 165, 25⟩) ⟨165, 4, 165, 25⟩)
    (.cons (.assign 3 ⟨166, 4, 166, 9⟩ (.list (.cons (.blt .tuple (.cons (.sub (.var 2 ⟨166, 19, 166, 24⟩) (.lit (.int 0) 0 ⟨166, 25, 166, 26⟩) ⟨166, 19, 166, 27⟩) .nil) ⟨166, 13, 166, 18⟩ ⟨166, 13, 166, 28⟩) .nil) ⟨166, 12, 166, 29⟩) ⟨166, 4, 166, 29⟩)
    (.cons (.assign 4 ⟨167, 4, 167, 8⟩ (.sub (.var 2 ⟨167, 11, 167, 16⟩) (.lit (.int 2) 0 ⟨167, 17, 167, 18⟩) ⟨167, 11, 167, 19⟩) ⟨167, 4, 167, 19⟩)
    (.cons (.for 5 ⟨168, 8, 168, 13⟩ (.blt .range (.cons (.blt .len (.cons (.var 4 ⟨168, 27, 168, 31⟩) .nil) ⟨168, 23, 168, 26⟩ ⟨168, 23, 168, 32⟩) .nil) ⟨168, 17, 168, 22⟩ ⟨168, 17, 168, 33⟩) (.cons (.assign 6 ⟨169, 8, 169, 12⟩ (.lit (.str "") 0 ⟨169, 15, 169, 17⟩) ⟨169, 8, 169, 17⟩)
    (.cons (.try (.cons (.expr (.meth (.var 3 ⟨171, 12, 171, 17⟩) .append (.cons (.call "behind" (.cons (.var 0 ⟨171, 32, 171, 39⟩) (.cons (.sub (.var 3 ⟨171, 41, 171, 46⟩) (.var 5 ⟨171, 47, 171, 52⟩) ⟨171, 41, 171, 53⟩) (.cons (.sub (.var 4 ⟨171, 55, 171, 59⟩) (.var 5 ⟨171, 60, 171, 65⟩) ⟨171, 55, 171, 66⟩) .nil))) ⟨171, 25, 171, 31⟩ ⟨171, 25, 171, 67⟩) .nil) ⟨171, 12, 171, 24⟩ ⟨171, 12, 171, 68⟩) ⟨171, 12, 171, 68⟩)
    .nil) (.cons 1 "Empty" ⟨172, 15, 172, 20⟩ none (.cons (.assign 6 ⟨173, 12, 173, 16⟩ (.lit (.str "empty") 0 ⟨173, 19, 173, 26⟩) ⟨173, 12, 173, 26⟩)
    .nil) ⟨172, 8, 173, 26⟩ (.cons 2 "WrongKind" ⟨174, 15, 174, 24⟩ none (.cons (.assign 6 ⟨175, 12, 175, 16⟩ (.lit (.str "kind") 0 ⟨175, 19, 175, 25⟩) ⟨175, 12, 175, 25⟩)
    .nil) ⟨174, 8, 175, 25⟩ (.cons 3 "NoBlock" ⟨176, 15, 176, 22⟩ none (.cons (.assign 6 ⟨177, 12, 177, 16⟩ (.lit (.str "block") 0 ⟨177, 19, 177, 26⟩) ⟨177, 12, 177, 26⟩)
    .nil) ⟨176, 8, 177, 26⟩ (.cons 4 "Apart" ⟨178, 15, 178, 20⟩ none (.cons (.assign 6 ⟨179, 12, 179, 16⟩ (.lit (.str "apart") 0 ⟨179, 19, 179, 26⟩) ⟨179, 12, 179, 26⟩)
    .nil) ⟨178, 8, 179, 26⟩ .nil)))) ⟨170, 8, 179, 26⟩)
    (.cons (.ite (.cmp (.var 6 ⟨180, 11, 180, 15⟩) .NotEq (.lit (.str "") 0 ⟨180, 19, 180, 21⟩) ⟨180, 11, 180, 21⟩) (.cons (.ret (.tup (.cons (.var 3 ⟨181, 20, 181, 25⟩) (.cons (.tup (.cons (.var 5 ⟨181, 28, 181, 33⟩) (.cons (.var 6 ⟨181, 35, 181, 39⟩) .nil)) 0 ⟨181, 27, 181, 40⟩) .nil)) 0 ⟨181, 19, 181, 41⟩) ⟨181, 12, 181, 41⟩)
    .nil) .nil ⟨180, 8, 181, 41⟩)
    .nil))) ⟨168, 4, 181, 41⟩)
    (.cons (.ite (.cmp (.sub (.var 3 ⟨182, 7, 182, 12⟩) (.neg (.lit (.int 1) 0 ⟨182, 14, 182, 15⟩) ⟨182, 13, 182, 15⟩) ⟨182, 7, 182, 16⟩) .NotEq (.blt .tuple (.cons (.sub (.var 2 ⟨182, 26, 182, 31⟩) (.lit (.int 1) 0 ⟨182, 32, 182, 33⟩) ⟨182, 26, 182, 34⟩) .nil) ⟨182, 20, 182, 25⟩ ⟨182, 20, 182, 35⟩) ⟨182, 7, 182, 35⟩) (.cons (.ret (.tup (.cons (.var 3 ⟨183, 16, 183, 21⟩) (.cons (.tup (.cons (.blt .len (.cons (.var 4 ⟨183, 28, 183, 32⟩) .nil) ⟨183, 24, 183, 27⟩ ⟨183, 24, 183, 33⟩) (.cons (.lit (.str "end") 0 ⟨183, 35, 183, 40⟩) .nil)) 0 ⟨183, 23, 183, 41⟩) .nil)) 0 ⟨183, 15, 183, 42⟩) ⟨183, 8, 183, 42⟩)
    .nil) .nil ⟨182, 4, 183, 42⟩)
    (.cons (.ret (.tup (.cons (.var 3 ⟨184, 12, 184, 17⟩) (.cons (.lit .none 0 ⟨184, 19, 184, 23⟩) .nil)) 0 ⟨184, 11, 184, 24⟩) ⟨184, 4, 184, 24⟩)
    .nil))))))
noncomputable def S_looked : Scope := {
              kind := PySem.ScopeKind.function,
              names := [
                (PySem.Str.ofString "program", PySem.NameKind.local),
                (PySem.Str.ofString "name", PySem.NameKind.local),
                (PySem.Str.ofString "block", PySem.NameKind.local),
                (PySem.Str.ofString "trail", PySem.NameKind.local),
                (PySem.Str.ofString "rows", PySem.NameKind.local),
                (PySem.Str.ofString "place", PySem.NameKind.local),
                (PySem.Str.ofString "word", PySem.NameKind.local),
                (PySem.Str.ofString "tuple", PySem.NameKind.globalImplicit),
                (PySem.Str.ofString "range", PySem.NameKind.globalImplicit),
                (PySem.Str.ofString "len", PySem.NameKind.globalImplicit),
                (PySem.Str.ofString "behind", PySem.NameKind.globalImplicit),
                (PySem.Str.ofString "Empty", PySem.NameKind.globalImplicit),
                (PySem.Str.ofString "WrongKind", PySem.NameKind.globalImplicit),
                (PySem.Str.ofString "NoBlock", PySem.NameKind.globalImplicit),
                (PySem.Str.ofString "Apart", PySem.NameKind.globalImplicit)],
              isGenerator := false,
              isCoroutine := false,
              more := [] : PySem.Scope }

noncomputable def N_trail_of : List Str := ["program", "name", "found"]
noncomputable def B_trail_of : ASs :=
    (.cons (.assign 2 ⟨186, 4, 186, 9⟩ (.call "looked" (.cons (.var 0 ⟨186, 19, 186, 26⟩) (.cons (.var 1 ⟨186, 28, 186, 32⟩) .nil)) ⟨186, 12, 186, 18⟩ ⟨186, 12, 186, 33⟩) ⟨186, 4, 186, 33⟩)
    (.cons (.ite (.cmp (.sub (.var 2 ⟨187, 7, 187, 12⟩) (.lit (.int 1) 0 ⟨187, 13, 187, 14⟩) ⟨187, 7, 187, 15⟩) .Is (.lit .none 0 ⟨187, 19, 187, 23⟩) ⟨187, 7, 187, 23⟩) (.cons (.ret (.sub (.var 2 ⟨188, 15, 188, 20⟩) (.lit (.int 0) 0 ⟨188, 21, 188, 22⟩) ⟨188, 15, 188, 23⟩) ⟨188, 8, 188, 23⟩)
    .nil) .nil ⟨187, 4, 188, 23⟩)
    (.cons (.ret (.lit .none 0 ⟨189, 11, 189, 15⟩) ⟨189, 4, 189, 15⟩)
    .nil)))
noncomputable def S_trail_of : Scope := {
              kind := PySem.ScopeKind.function,
              names := [
                (PySem.Str.ofString "program", PySem.NameKind.local),
                (PySem.Str.ofString "name", PySem.NameKind.local),
                (PySem.Str.ofString "found", PySem.NameKind.local),
                (PySem.Str.ofString "looked", PySem.NameKind.globalImplicit)],
              isGenerator := false,
              isCoroutine := false,
              more := [] : PySem.Scope }

noncomputable def N_fault : List Str := ["program", "name"]
noncomputable def B_fault : ASs :=
    (.cons (.ret (.sub (.call "looked" (.cons (.var 0 ⟨191, 18, 191, 25⟩) (.cons (.var 1 ⟨191, 27, 191, 31⟩) .nil)) ⟨191, 11, 191, 17⟩ ⟨191, 11, 191, 32⟩) (.lit (.int 1) 0 ⟨191, 33, 191, 34⟩) ⟨191, 11, 191, 35⟩) ⟨191, 4, 191, 35⟩)
    .nil)
noncomputable def S_fault : Scope := {
              kind := PySem.ScopeKind.function,
              names := [
                (PySem.Str.ofString "program", PySem.NameKind.local),
                (PySem.Str.ofString "name", PySem.NameKind.local),
                (PySem.Str.ofString "looked", PySem.NameKind.globalImplicit)],
              isGenerator := false,
              isCoroutine := false,
              more := [] : PySem.Scope }

noncomputable def N_named : List Str := ["rows", "names", "row"]
noncomputable def B_named : ASs :=
    (.cons (.assign 1 ⟨193, 4, 193, 9⟩ (.list .nil ⟨193, 12, 193, 14⟩) ⟨193, 4, 193, 14⟩)
    (.cons (.for 2 ⟨194, 8, 194, 11⟩ (.var 0 ⟨194, 15, 194, 19⟩) (.cons (.ite (.cmp (.sub (.var 2 ⟨195, 11, 195, 14⟩) (.lit (.int 0) 0 ⟨195, 15, 195, 16⟩) ⟨195, 11, 195, 17⟩) .Eq (.lit (.str "call") 0 ⟨195, 21, 195, 27⟩) ⟨195, 11, 195, 27⟩) (.cons (.expr (.meth (.var 1 ⟨196, 12, 196, 17⟩) .append (.cons (.sub (.var 2 ⟨196, 25, 196, 28⟩) (.lit (.int 1) 0 ⟨196, 29, 196, 30⟩) ⟨196, 25, 196, 31⟩) .nil) ⟨196, 12, 196, 24⟩ ⟨196, 12, 196, 32⟩) ⟨196, 12, 196, 32⟩)
    .nil) .nil ⟨195, 8, 196, 32⟩)
    (.cons (.ite (.cmp (.sub (.var 2 ⟨197, 11, 197, 14⟩) (.lit (.int 0) 0 ⟨197, 15, 197, 16⟩) ⟨197, 11, 197, 17⟩) .Eq (.lit (.str "if") 0 ⟨197, 21, 197, 25⟩) ⟨197, 11, 197, 25⟩) (.cons (.expr (.meth (.var 1 ⟨198, 12, 198, 17⟩) .append (.cons (.sub (.var 2 ⟨198, 25, 198, 28⟩) (.lit (.int 1) 0 ⟨198, 29, 198, 30⟩) ⟨198, 25, 198, 31⟩) .nil) ⟨198, 12, 198, 24⟩ ⟨198, 12, 198, 32⟩) ⟨198, 12, 198, 32⟩)
    (.cons (.expr (.meth (.var 1 ⟨199, 12, 199, 17⟩) .append (.cons (.sub (.var 2 ⟨199, 25, 199, 28⟩) (.lit (.int 2) 0 ⟨199, 29, 199, 30⟩) ⟨199, 25, 199, 31⟩) .nil) ⟨199, 12, 199, 24⟩ ⟨199, 12, 199, 32⟩) ⟨199, 12, 199, 32⟩)
    .nil)) .nil ⟨197, 8, 199, 32⟩)
    .nil)) ⟨194, 4, 199, 32⟩)
    (.cons (.ret (.var 1 ⟨200, 11, 200, 16⟩) ⟨200, 4, 200, 16⟩)
    .nil)))
noncomputable def S_named : Scope := {
              kind := PySem.ScopeKind.function,
              names := [
                (PySem.Str.ofString "rows", PySem.NameKind.local),
                (PySem.Str.ofString "names", PySem.NameKind.local),
                (PySem.Str.ofString "row", PySem.NameKind.local)],
              isGenerator := false,
              isCoroutine := false,
              more := [] : PySem.Scope }

noncomputable def N_come_to : List Str := ["program", "name", "found", "place", "other"]
noncomputable def B_come_to : ASs :=
    (.cons (.assign 2 ⟨202, 4, 202, 9⟩ (.list (.cons (.var 1 ⟨202, 13, 202, 17⟩) .nil) ⟨202, 12, 202, 18⟩) ⟨202, 4, 202, 18⟩)
    (.cons (.assign 3 ⟨203, 4, 203, 9⟩ (.lit (.int 0) 0 ⟨203, 12, 203, 13⟩) ⟨203, 4, 203, 13⟩)
    (.cons (.while (.cmp (.var 3 ⟨204, 10, 204, 15⟩) .Lt (.blt .len (.cons (.var 2 ⟨204, 22, 204, 27⟩) .nil) ⟨204, 18, 204, 21⟩ ⟨204, 18, 204, 28⟩) ⟨204, 10, 204, 28⟩) (.cons (.ite (.cmp (.sub (.var 2 ⟨205, 11, 205, 16⟩) (.var 3 ⟨205, 17, 205, 22⟩) ⟨205, 11, 205, 23⟩) .In (.var 0 ⟨205, 27, 205, 34⟩) ⟨205, 11, 205, 34⟩) (.cons (.for 4 ⟨206, 16, 206, 21⟩ (.call "named" (.cons (.sub (.sub (.var 0 ⟨206, 31, 206, 38⟩) (.sub (.var 2 ⟨206, 39, 206, 44⟩) (.var 3 ⟨206, 45, 206, 50⟩) ⟨206, 39, 206, 51⟩) ⟨206, 31, 206, 52⟩) (.lit (.int 2) 0 ⟨206, 53, 206, 54⟩) ⟨206, 31, 206, 55⟩) .nil) ⟨206, 25, 206, 30⟩ ⟨206, 25, 206, 56⟩) (.cons (.ite (.cmp (.var 4 ⟨207, 19, 207, 24⟩) .NotIn (.var 2 ⟨207, 32, 207, 37⟩) ⟨207, 19, 207, 37⟩) (.cons (.expr (.meth (.var 2 ⟨208, 20, 208, 25⟩) .append (.cons (.var 4 ⟨208, 33, 208, 38⟩) .nil) ⟨208, 20, 208, 32⟩ ⟨208, 20, 208, 39⟩) ⟨208, 20, 208, 39⟩)
    .nil) .nil ⟨207, 16, 208, 39⟩)
    .nil) ⟨206, 12, 208, 39⟩)
    .nil) .nil ⟨205, 8, 208, 39⟩)
    (.cons (.assign 3 ⟨209, 8, 209, 13⟩ (.bin (.var 3 ⟨209, 16, 209, 21⟩) .Add (.lit (.int 1) 0 ⟨209, 24, 209, 25⟩) ⟨209, 16, 209, 25⟩) ⟨209, 8, 209, 25⟩)
    .nil)) ⟨204, 4, 209, 25⟩)
    (.cons (.ret (.var 2 ⟨210, 11, 210, 16⟩) ⟨210, 4, 210, 16⟩)
    .nil))))
noncomputable def S_come_to : Scope := {
              kind := PySem.ScopeKind.function,
              names := [
                (PySem.Str.ofString "program", PySem.NameKind.local),
                (PySem.Str.ofString "name", PySem.NameKind.local),
                (PySem.Str.ofString "found", PySem.NameKind.local),
                (PySem.Str.ofString "place", PySem.NameKind.local),
                (PySem.Str.ofString "other", PySem.NameKind.local),
                (PySem.Str.ofString "len", PySem.NameKind.globalImplicit),
                (PySem.Str.ofString "named", PySem.NameKind.globalImplicit)],
              isGenerator := false,
              isCoroutine := false,
              more := [] : PySem.Scope }

noncomputable def N_let_by : List Str := ["program", "name", "one"]
noncomputable def B_let_by : ASs :=
    (.cons (.for 2 ⟨212, 8, 212, 11⟩ (.call "come_to" (.cons (.var 0 ⟨212, 23, 212, 30⟩) (.cons (.var 1 ⟨212, 32, 212, 36⟩) .nil)) ⟨212, 15, 212, 22⟩ ⟨212, 15, 212, 37⟩) (.cons (.ite (.bop .Or (.cons (.cmp (.var 2 ⟨213, 11, 213, 14⟩) .NotIn (.var 0 ⟨213, 22, 213, 29⟩) ⟨213, 11, 213, 29⟩) (.cons (.cmp (.call "fault" (.cons (.var 0 ⟨213, 39, 213, 46⟩) (.cons (.var 2 ⟨213, 48, 213, 51⟩) .nil)) ⟨213, 33, 213, 38⟩ ⟨213, 33, 213, 52⟩) .IsNot (.lit .none 0 ⟨213, 60, 213, 64⟩) ⟨213, 33, 213, 64⟩) .nil)) ⟨213, 11, 213, 64⟩) (.cons (.ret (.lit (.bool false) 0 ⟨214, 19, 214, 24⟩) ⟨214, 12, 214, 24⟩)
    .nil) .nil ⟨213, 8, 214, 24⟩)
    .nil) ⟨212, 4, 214, 24⟩)
    (.cons (.ret (.lit (.bool true) 0 ⟨215, 11, 215, 15⟩) ⟨215, 4, 215, 15⟩)
    .nil))
noncomputable def S_let_by : Scope := {
              kind := PySem.ScopeKind.function,
              names := [
                (PySem.Str.ofString "program", PySem.NameKind.local),
                (PySem.Str.ofString "name", PySem.NameKind.local),
                (PySem.Str.ofString "one", PySem.NameKind.local),
                (PySem.Str.ofString "come_to", PySem.NameKind.globalImplicit),
                (PySem.Str.ofString "fault", PySem.NameKind.globalImplicit)],
              isGenerator := false,
              isCoroutine := false,
              more := [] : PySem.Scope }

noncomputable def N_height_by : List Str := ["program", "name", "known", "trail", "rows", "best", "place", "row", "more", "kinds"]
noncomputable def B_height_by : ASs :=
    (.cons (.assign 3 ⟨217, 4, 217, 9⟩ (.call "trail_of" (.cons (.var 0 ⟨217, 21, 217, 28⟩) (.cons (.var 1 ⟨217, 30, 217, 34⟩) .nil)) ⟨217, 12, 217, 20⟩ ⟨217, 12, 217, 35⟩) ⟨217, 4, 217, 35⟩)
    (.cons (.assign 4 ⟨218, 4, 218, 8⟩ (.sub (.sub (.var 0 ⟨218, 11, 218, 18⟩) (.var 1 ⟨218, 19, 218, 23⟩) ⟨218, 11, 218, 24⟩) (.lit (.int 2) 0 ⟨218, 25, 218, 26⟩) ⟨218, 11, 218, 27⟩) ⟨218, 4, 218, 27⟩)
    (.cons (.assign 5 ⟨219, 4, 219, 8⟩ (.blt .max (.cons (.comp (.blt .len (.cons (.var 9 ⟨219, 20, 219, 25⟩) .nil) ⟨219, 16, 219, 19⟩ ⟨219, 16, 219, 26⟩) 9 ⟨219, 31, 219, 36⟩ (.var 3 ⟨219, 40, 219, 45⟩) .nil {                         kind := PySem.ScopeKind.function,                         names := [                           (PySem.Str.ofString ".0", PySem.NameKind.local),                           (PySem.Str.ofString "kinds", PySem.NameKind.local),                           (PySem.Str.ofString "len", PySem.NameKind.globalImplicit)],                         isGenerator := false,                         isCoroutine := false,                         more := [] : PySem.Scope } ⟨219, 15, 219, 46⟩) .nil) ⟨219, 11, 219, 14⟩ ⟨219, 11, 219, 47⟩) ⟨219, 4, 219, 47⟩)
    (.cons (.for 6 ⟨220, 8, 220, 13⟩ (.blt .range (.cons (.blt .len (.cons (.var 4 ⟨220, 27, 220, 31⟩) .nil) ⟨220, 23, 220, 26⟩ ⟨220, 23, 220, 32⟩) .nil) ⟨220, 17, 220, 22⟩ ⟨220, 17, 220, 33⟩) (.cons (.assign 7 ⟨221, 8, 221, 11⟩ (.sub (.var 4 ⟨221, 14, 221, 18⟩) (.var 6 ⟨221, 19, 221, 24⟩) ⟨221, 14, 221, 25⟩) ⟨221, 8, 221, 25⟩)
    (.cons (.ite (.cmp (.sub (.var 7 ⟨222, 11, 222, 14⟩) (.lit (.int 0) 0 ⟨222, 15, 222, 16⟩) ⟨222, 11, 222, 17⟩) .Eq (.lit (.str "call") 0 ⟨222, 21, 222, 27⟩) ⟨222, 11, 222, 27⟩) (.cons (.assign 5 ⟨223, 12, 223, 16⟩ (.blt .max (.cons (.var 5 ⟨223, 23, 223, 27⟩) (.cons (.bin (.bin (.blt .len (.cons (.sub (.var 3 ⟨223, 33, 223, 38⟩) (.var 6 ⟨223, 39, 223, 44⟩) ⟨223, 33, 223, 45⟩) .nil) ⟨223, 29, 223, 32⟩ ⟨223, 29, 223, 46⟩) .Sub (.blt .len (.cons (.sub (.sub (.var 0 ⟨223, 53, 223, 60⟩) (.sub (.var 7 ⟨223, 61, 223, 64⟩) (.lit (.int 1) 0 ⟨223, 65, 223, 66⟩) ⟨223, 61, 223, 67⟩) ⟨223, 53, 223, 68⟩) (.lit (.int 0) 0 ⟨223, 69, 223, 70⟩) ⟨223, 53, 223, 71⟩) .nil) ⟨223, 49, 223, 52⟩ ⟨223, 49, 223, 72⟩) ⟨223, 29, 223, 72⟩) .Add (.sub (.var 2 ⟨223, 75, 223, 80⟩) (.sub (.var 7 ⟨223, 81, 223, 84⟩) (.lit (.int 1) 0 ⟨223, 85, 223, 86⟩) ⟨223, 81, 223, 87⟩) ⟨223, 75, 223, 88⟩) ⟨223, 29, 223, 88⟩) .nil)) ⟨223, 19, 223, 22⟩ ⟨223, 19, 223, 89⟩) ⟨223, 12, 223, 89⟩)
    .nil) .nil ⟨222, 8, 223, 89⟩)
    (.cons (.ite (.cmp (.sub (.var 7 ⟨224, 11, 224, 14⟩) (.lit (.int 0) 0 ⟨224, 15, 224, 16⟩) ⟨224, 11, 224, 17⟩) .Eq (.lit (.str "if") 0 ⟨224, 21, 224, 25⟩) ⟨224, 11, 224, 25⟩) (.cons (.assign 8 ⟨225, 12, 225, 16⟩ (.blt .max (.cons (.sub (.var 2 ⟨225, 23, 225, 28⟩) (.sub (.var 7 ⟨225, 29, 225, 32⟩) (.lit (.int 1) 0 ⟨225, 33, 225, 34⟩) ⟨225, 29, 225, 35⟩) ⟨225, 23, 225, 36⟩) (.cons (.sub (.var 2 ⟨225, 38, 225, 43⟩) (.sub (.var 7 ⟨225, 44, 225, 47⟩) (.lit (.int 2) 0 ⟨225, 48, 225, 49⟩) ⟨225, 44, 225, 50⟩) ⟨225, 38, 225, 51⟩) .nil)) ⟨225, 19, 225, 22⟩ ⟨225, 19, 225, 52⟩) ⟨225, 12, 225, 52⟩)
    (.cons (.assign 5 ⟨226, 12, 226, 16⟩ (.blt .max (.cons (.var 5 ⟨226, 23, 226, 27⟩) (.cons (.bin (.bin (.bin (.blt .len (.cons (.sub (.var 3 ⟨226, 33, 226, 38⟩) (.var 6 ⟨226, 39, 226, 44⟩) ⟨226, 33, 226, 45⟩) .nil) ⟨226, 29, 226, 32⟩ ⟨226, 29, 226, 46⟩) .Sub (.lit (.int 1) 0 ⟨226, 49, 226, 50⟩) ⟨226, 29, 226, 50⟩) .Sub (.blt .len (.cons (.sub (.sub (.var 0 ⟨226, 57, 226, 64⟩) (.sub (.var 7 ⟨226, 65, 226, 68⟩) (.lit (.int 1) 0 ⟨226, 69, 226, 70⟩) ⟨226, 65, 226, 71⟩) ⟨226, 57, 226, 72⟩) (.lit (.int 0) 0 ⟨226, 73, 226, 74⟩) ⟨226, 57, 226, 75⟩) .nil) ⟨226, 53, 226, 56⟩ ⟨226, 53, 226, 76⟩) ⟨226, 29, 226, 76⟩) .Add (.var 8 ⟨226, 79, 226, 83⟩) ⟨226, 29, 226, 83⟩) .nil)) ⟨226, 19, 226, 22⟩ ⟨226, 19, 226, 84⟩) ⟨226, 12, 226, 84⟩)
    .nil)) .nil ⟨224, 8, 226, 84⟩)
    .nil))) ⟨220, 4, 226, 84⟩)
    (.cons (.ret (.var 5 ⟨227, 11, 227, 15⟩) ⟨227, 4, 227, 15⟩)
    .nil)))))
noncomputable def S_height_by : Scope := {
              kind := PySem.ScopeKind.function,
              names := [
                (PySem.Str.ofString "program", PySem.NameKind.local),
                (PySem.Str.ofString "name", PySem.NameKind.local),
                (PySem.Str.ofString "known", PySem.NameKind.local),
                (PySem.Str.ofString "trail", PySem.NameKind.local),
                (PySem.Str.ofString "rows", PySem.NameKind.local),
                (PySem.Str.ofString "best", PySem.NameKind.local),
                (PySem.Str.ofString "place", PySem.NameKind.local),
                (PySem.Str.ofString "row", PySem.NameKind.local),
                (PySem.Str.ofString "more", PySem.NameKind.local),
                (PySem.Str.ofString "trail_of", PySem.NameKind.globalImplicit),
                (PySem.Str.ofString "max", PySem.NameKind.globalImplicit),
                (PySem.Str.ofString "range", PySem.NameKind.globalImplicit),
                (PySem.Str.ofString "len", PySem.NameKind.globalImplicit)],
              isGenerator := false,
              isCoroutine := false,
              more := [
                (PySem.Str.ofString "fast", (PySem.Const.str "program")),
                (PySem.Str.ofString "fast", (PySem.Const.str "name")),
                (PySem.Str.ofString "fast", (PySem.Const.str "known")),
                (PySem.Str.ofString "fast", (PySem.Const.str "trail")),
                (PySem.Str.ofString "fast", (PySem.Const.str "rows")),
                (PySem.Str.ofString "fast", (PySem.Const.str "kinds")),
                (PySem.Str.ofString "fast", (PySem.Const.str "best")),
                (PySem.Str.ofString "fast", (PySem.Const.str "place")),
                (PySem.Str.ofString "fast", (PySem.Const.str "row")),
                (PySem.Str.ofString "fast", (PySem.Const.str "more"))] : PySem.Scope }

noncomputable def N_height : List Str := ["program", "name", "waiting", "known", "left", "one", "other"]
noncomputable def B_height : ASs :=
    (.cons (.assign 2 ⟨229, 4, 229, 11⟩ (.call "come_to" (.cons (.var 0 ⟨229, 22, 229, 29⟩) (.cons (.var 1 ⟨229, 31, 229, 35⟩) .nil)) ⟨229, 14, 229, 21⟩ ⟨229, 14, 229, 36⟩) ⟨229, 4, 229, 36⟩)
    (.cons (.assign 3 ⟨230, 4, 230, 9⟩ (.dict [] .nil ⟨230, 12, 230, 14⟩) ⟨230, 4, 230, 14⟩)
    (.cons (.while (.cmp (.blt .len (.cons (.var 2 ⟨231, 14, 231, 21⟩) .nil) ⟨231, 10, 231, 13⟩ ⟨231, 10, 231, 22⟩) .Gt (.lit (.int 0) 0 ⟨231, 25, 231, 26⟩) ⟨231, 10, 231, 26⟩) (.cons (.assign 4 ⟨232, 8, 232, 12⟩ (.list .nil ⟨232, 15, 232, 17⟩) ⟨232, 8, 232, 17⟩)
    (.cons (.for 5 ⟨233, 12, 233, 15⟩ (.var 2 ⟨233, 19, 233, 26⟩) (.cons (.ite (.blt .all (.cons (.comp (.cmp (.var 6 ⟨234, 20, 234, 25⟩) .In (.var 3 ⟨234, 29, 234, 34⟩) ⟨234, 20, 234, 34⟩) 6 ⟨234, 39, 234, 44⟩ (.call "named" (.cons (.sub (.sub (.var 0 ⟨234, 54, 234, 61⟩) (.var 5 ⟨234, 62, 234, 65⟩) ⟨234, 54, 234, 66⟩) (.lit (.int 2) 0 ⟨234, 67, 234, 68⟩) ⟨234, 54, 234, 69⟩) .nil) ⟨234, 48, 234, 53⟩ ⟨234, 48, 234, 70⟩) .nil {                                 kind := PySem.ScopeKind.function,                                 names := [                                   (PySem.Str.ofString ".0", PySem.NameKind.local),                                   (PySem.Str.ofString "other", PySem.NameKind.local),                                   (PySem.Str.ofString "known", PySem.NameKind.free)],                                 isGenerator := false,                                 isCoroutine := false,                                 more := [] : PySem.Scope } ⟨234, 19, 234, 71⟩) .nil) ⟨234, 15, 234, 18⟩ ⟨234, 15, 234, 72⟩) (.cons (.store (.var 3 ⟨235, 16, 235, 21⟩) (.var 5 ⟨235, 22, 235, 25⟩) ⟨235, 16, 235, 26⟩ (.call "height_by" (.cons (.var 0 ⟨235, 39, 235, 46⟩) (.cons (.var 5 ⟨235, 48, 235, 51⟩) (.cons (.var 3 ⟨235, 53, 235, 58⟩) .nil))) ⟨235, 29, 235, 38⟩ ⟨235, 29, 235, 59⟩) ⟨235, 16, 235, 59⟩)
    .nil) (.cons (.expr (.meth (.var 4 ⟨237, 16, 237, 20⟩) .append (.cons (.var 5 ⟨237, 28, 237, 31⟩) .nil) ⟨237, 16, 237, 27⟩ ⟨237, 16, 237, 32⟩) ⟨237, 16, 237, 32⟩)
    .nil) ⟨234, 12, 237, 32⟩)
    .nil) ⟨233, 8, 237, 32⟩)
    (.cons (.ite (.cmp (.blt .len (.cons (.var 4 ⟨238, 15, 238, 19⟩) .nil) ⟨238, 11, 238, 14⟩ ⟨238, 11, 238, 20⟩) .Eq (.blt .len (.cons (.var 2 ⟨238, 28, 238, 35⟩) .nil) ⟨238, 24, 238, 27⟩ ⟨238, 24, 238, 36⟩) ⟨238, 11, 238, 36⟩) (.cons (.ret (.lit .none 0 ⟨239, 19, 239, 23⟩) ⟨239, 12, 239, 23⟩)
    .nil) .nil ⟨238, 8, 239, 23⟩)
    (.cons (.assign 2 ⟨240, 8, 240, 15⟩ (.var 4 ⟨240, 18, 240, 22⟩) ⟨240, 8, 240, 22⟩)
    .nil)))) ⟨231, 4, 240, 22⟩)
    (.cons (.ret (.sub (.var 3 ⟨241, 11, 241, 16⟩) (.var 1 ⟨241, 17, 241, 21⟩) ⟨241, 11, 241, 22⟩) ⟨241, 4, 241, 22⟩)
    .nil))))
noncomputable def S_height : Scope := {
              kind := PySem.ScopeKind.function,
              names := [
                (PySem.Str.ofString "program", PySem.NameKind.local),
                (PySem.Str.ofString "name", PySem.NameKind.local),
                (PySem.Str.ofString "waiting", PySem.NameKind.local),
                (PySem.Str.ofString "known", PySem.NameKind.cell),
                (PySem.Str.ofString "left", PySem.NameKind.local),
                (PySem.Str.ofString "one", PySem.NameKind.local),
                (PySem.Str.ofString "come_to", PySem.NameKind.globalImplicit),
                (PySem.Str.ofString "len", PySem.NameKind.globalImplicit),
                (PySem.Str.ofString "all", PySem.NameKind.globalImplicit),
                (PySem.Str.ofString "named", PySem.NameKind.globalImplicit),
                (PySem.Str.ofString "height_by", PySem.NameKind.globalImplicit)],
              isGenerator := false,
              isCoroutine := false,
              more := [
                (PySem.Str.ofString "fast", (PySem.Const.str "program")),
                (PySem.Str.ofString "fast", (PySem.Const.str "name")),
                (PySem.Str.ofString "fast", (PySem.Const.str "waiting")),
                (PySem.Str.ofString "fast", (PySem.Const.str "known")),
                (PySem.Str.ofString "fast", (PySem.Const.str "left")),
                (PySem.Str.ofString "fast", (PySem.Const.str "one")),
                (PySem.Str.ofString "fast", (PySem.Const.str "other"))] : PySem.Scope }

noncomputable def N_law_draw : List Str := ["_law_script", "_law_tape", "_law_many", "_law_seed", "_law_cell"]
noncomputable def B_law_draw : ASs :=
    (.cons (.store (.var 1 ⟨244, 4, 244, 13⟩) (.lit (.int 0) 0 ⟨244, 14, 244, 15⟩) ⟨244, 4, 244, 16⟩ (.bin (.sub (.var 1 ⟨244, 19, 244, 28⟩) (.lit (.int 0) 0 ⟨244, 29, 244, 30⟩) ⟨244, 19, 244, 31⟩) .Add (.lit (.int 1) 0 ⟨244, 34, 244, 35⟩) ⟨244, 19, 244, 35⟩) ⟨244, 4, 244, 35⟩)
    (.cons (.ite (.cmp (.sub (.var 1 ⟨245, 7, 245, 16⟩) (.lit (.int 0) 0 ⟨245, 17, 245, 18⟩) ⟨245, 7, 245, 19⟩) .LtE (.blt .len (.cons (.var 0 ⟨245, 27, 245, 38⟩) .nil) ⟨245, 23, 245, 26⟩ ⟨245, 23, 245, 39⟩) ⟨245, 7, 245, 39⟩) (.cons (.ret (.bin (.sub (.var 0 ⟨246, 15, 246, 26⟩) (.bin (.sub (.var 1 ⟨246, 27, 246, 36⟩) (.lit (.int 0) 0 ⟨246, 37, 246, 38⟩) ⟨246, 27, 246, 39⟩) .Sub (.lit (.int 1) 0 ⟨246, 42, 246, 43⟩) ⟨246, 27, 246, 43⟩) ⟨246, 15, 246, 44⟩) .Mod (.var 2 ⟨246, 47, 246, 56⟩) ⟨246, 15, 246, 56⟩) ⟨246, 8, 246, 56⟩)
    .nil) .nil ⟨245, 4, 246, 56⟩)
    (.cons (.assign 3 ⟨247, 4, 247, 13⟩ (.blt .len (.cons (.var 0 ⟨247, 20, 247, 31⟩) .nil) ⟨247, 16, 247, 19⟩ ⟨247, 16, 247, 32⟩) ⟨247, 4, 247, 32⟩)
    (.cons (.for 4 ⟨248, 8, 248, 17⟩ (.sto (.var 0 ⟨248, 21, 248, 32⟩) (.lit (.int 4) 0 ⟨248, 34, 248, 35⟩) ⟨248, 33, 248, 35⟩ ⟨248, 21, 248, 36⟩) (.cons (.assign 3 ⟨249, 8, 249, 17⟩ (.bin (.bin (.bin (.var 3 ⟨249, 21, 249, 30⟩) .Mult (.lit (.int 131) 0 ⟨249, 33, 249, 36⟩) ⟨249, 21, 249, 36⟩) .Add (.var 4 ⟨249, 39, 249, 48⟩) ⟨249, 21, 249, 48⟩) .Mod (.lit (.int 1000003) 0 ⟨249, 52, 249, 59⟩) ⟨249, 20, 249, 59⟩) ⟨249, 8, 249, 59⟩)
    .nil) ⟨248, 4, 249, 59⟩)
    (.cons (.ret (.bin (.bin (.bin (.bin (.var 3 ⟨250, 12, 250, 21⟩) .Add (.lit (.int 7) 0 ⟨250, 24, 250, 25⟩) ⟨250, 12, 250, 25⟩) .Mult (.bin (.bin (.sub (.var 1 ⟨250, 30, 250, 39⟩) (.lit (.int 0) 0 ⟨250, 40, 250, 41⟩) ⟨250, 30, 250, 42⟩) .Mult (.sub (.var 1 ⟨250, 45, 250, 54⟩) (.lit (.int 0) 0 ⟨250, 55, 250, 56⟩) ⟨250, 45, 250, 57⟩) ⟨250, 30, 250, 57⟩) .Add (.lit (.int 48271) 0 ⟨250, 60, 250, 65⟩) ⟨250, 30, 250, 65⟩) ⟨250, 11, 250, 66⟩) .Mod (.lit (.int 1000003) 0 ⟨250, 69, 250, 76⟩) ⟨250, 11, 250, 76⟩) .Mod (.var 2 ⟨250, 79, 250, 88⟩) ⟨250, 11, 250, 88⟩) ⟨250, 4, 250, 88⟩)
    .nil)))))
noncomputable def S_law_draw : Scope := {
              kind := PySem.ScopeKind.function,
              names := [
                (PySem.Str.ofString "_law_script", PySem.NameKind.local),
                (PySem.Str.ofString "_law_tape", PySem.NameKind.local),
                (PySem.Str.ofString "_law_many", PySem.NameKind.local),
                (PySem.Str.ofString "_law_seed", PySem.NameKind.local),
                (PySem.Str.ofString "_law_cell", PySem.NameKind.local),
                (PySem.Str.ofString "len", PySem.NameKind.globalImplicit)],
              isGenerator := false,
              isCoroutine := false,
              more := [] : PySem.Scope }

noncomputable def N_law_words : List Str := ["_law_cell", "_law_size", "_law_signs", "_law_k"]
noncomputable def B_law_words : ASs :=
    (.cons (.assign 2 ⟨252, 4, 252, 14⟩ (.lit (.str "abcdefghijklmnopqrstuvwxyzABCDEFGHIJKLMNOPQRSTUVWXYZ0123456789") 0 ⟨252, 17, 252, 81⟩) ⟨252, 4, 252, 81⟩)
    (.cons (.assign 2 ⟨253, 4, 253, 14⟩ (.bin (.var 2 ⟨253, 17, 253, 27⟩) .Add (.lit (.str " .,;:!?'\"()[]{}<>+-*/=&|^~_#$@\\`") 0 ⟨253, 30, 253, 66⟩) ⟨253, 17, 253, 66⟩) ⟨253, 4, 253, 66⟩)
    (.cons (.ret (.meth (.lit (.str "") 0 ⟨254, 11, 254, 13⟩) .join (.cons (.comp (.sub (.var 2 ⟨254, 20, 254, 30⟩) (.bin (.bin (.bin (.var 0 ⟨254, 32, 254, 41⟩) .FloorDiv (.bin (.var 3 ⟨254, 46, 254, 52⟩) .Add (.lit (.int 1) 0 ⟨254, 55, 254, 56⟩) ⟨254, 46, 254, 56⟩) ⟨254, 32, 254, 57⟩) .Add (.bin (.lit (.int 5) 0 ⟨254, 60, 254, 61⟩) .Mult (.var 3 ⟨254, 64, 254, 70⟩) ⟨254, 60, 254, 70⟩) ⟨254, 32, 254, 70⟩) .Mod (.lit (.int 94) 0 ⟨254, 74, 254, 76⟩) ⟨254, 31, 254, 76⟩) ⟨254, 20, 254, 77⟩) 3 ⟨254, 82, 254, 88⟩ (.blt .range (.cons (.var 1 ⟨254, 98, 254, 107⟩) .nil) ⟨254, 92, 254, 97⟩ ⟨254, 92, 254, 108⟩) .nil {                           kind := PySem.ScopeKind.function,                           names := [                             (PySem.Str.ofString ".0", PySem.NameKind.local),                             (PySem.Str.ofString "_law_k", PySem.NameKind.local),                             (PySem.Str.ofString "_law_cell", PySem.NameKind.free),                             (PySem.Str.ofString "_law_signs", PySem.NameKind.free)],                           isGenerator := false,                           isCoroutine := false,                           more := [] : PySem.Scope } ⟨254, 19, 254, 109⟩) .nil) ⟨254, 11, 254, 18⟩ ⟨254, 11, 254, 110⟩) ⟨254, 4, 254, 110⟩)
    .nil)))
noncomputable def S_law_words : Scope := {
              kind := PySem.ScopeKind.function,
              names := [
                (PySem.Str.ofString "_law_cell", PySem.NameKind.cell),
                (PySem.Str.ofString "_law_size", PySem.NameKind.local),
                (PySem.Str.ofString "_law_signs", PySem.NameKind.cell),
                (PySem.Str.ofString "range", PySem.NameKind.globalImplicit)],
              isGenerator := false,
              isCoroutine := false,
              more := [
                (PySem.Str.ofString "fast", (PySem.Const.str "_law_cell")),
                (PySem.Str.ofString "fast", (PySem.Const.str "_law_size")),
                (PySem.Str.ofString "fast", (PySem.Const.str "_law_signs")),
                (PySem.Str.ofString "fast", (PySem.Const.str "_law_k"))] : PySem.Scope }

noncomputable def N_law_value : List Str := ["_law_script", "_law_tape", "_law_kind", "_law_cell", "_law_way"]
noncomputable def B_law_value : ASs :=
    (.cons (.assign 3 ⟨256, 4, 256, 13⟩ (.call "_law_draw" (.cons (.var 0 ⟨256, 26, 256, 37⟩) (.cons (.var 1 ⟨256, 39, 256, 48⟩) (.cons (.lit (.int 1000000000) 0 ⟨256, 50, 256, 60⟩) .nil))) ⟨256, 16, 256, 25⟩ ⟨256, 16, 256, 61⟩) ⟨256, 4, 256, 61⟩)
    (.cons (.assign 4 ⟨257, 4, 257, 12⟩ (.call "_law_draw" (.cons (.var 0 ⟨257, 25, 257, 36⟩) (.cons (.var 1 ⟨257, 38, 257, 47⟩) (.cons (.lit (.int 6) 0 ⟨257, 49, 257, 50⟩) .nil))) ⟨257, 15, 257, 24⟩ ⟨257, 15, 257, 51⟩) ⟨257, 4, 257, 51⟩)
    (.cons (.ite (.cmp (.var 2 ⟨258, 7, 258, 16⟩) .Eq (.lit (.str "text") 0 ⟨258, 20, 258, 26⟩) ⟨258, 7, 258, 26⟩) (.cons (.ite (.cmp (.var 4 ⟨259, 11, 259, 19⟩) .Eq (.lit (.int 0) 0 ⟨259, 23, 259, 24⟩) ⟨259, 11, 259, 24⟩) (.cons (.ret (.call "_law_words" (.cons (.var 3 ⟨260, 30, 260, 39⟩) (.cons (.bin (.lit (.int 58) 0 ⟨260, 41, 260, 43⟩) .Add (.bin (.var 3 ⟨260, 46, 260, 55⟩) .Mod (.lit (.int 3) 0 ⟨260, 58, 260, 59⟩) ⟨260, 46, 260, 59⟩) ⟨260, 41, 260, 59⟩) .nil)) ⟨260, 19, 260, 29⟩ ⟨260, 19, 260, 60⟩) ⟨260, 12, 260, 60⟩)
    .nil) .nil ⟨259, 8, 260, 60⟩)
    (.cons (.ret (.call "_law_words" (.cons (.var 3 ⟨261, 26, 261, 35⟩) (.cons (.bin (.bin (.var 3 ⟨261, 37, 261, 46⟩) .FloorDiv (.lit (.int 94) 0 ⟨261, 50, 261, 52⟩) ⟨261, 37, 261, 52⟩) .Mod (.lit (.int 8) 0 ⟨261, 55, 261, 56⟩) ⟨261, 37, 261, 56⟩) .nil)) ⟨261, 15, 261, 25⟩ ⟨261, 15, 261, 57⟩) ⟨261, 8, 261, 57⟩)
    .nil)) .nil ⟨258, 4, 261, 57⟩)
    (.cons (.ite (.cmp (.var 4 ⟨262, 7, 262, 15⟩) .Eq (.lit (.int 0) 0 ⟨262, 19, 262, 20⟩) ⟨262, 7, 262, 20⟩) (.cons (.ret (.bin (.lit (.int 999999999) 0 ⟨263, 15, 263, 24⟩) .Sub (.bin (.var 3 ⟨263, 27, 263, 36⟩) .Mod (.lit (.int 3) 0 ⟨263, 39, 263, 40⟩) ⟨263, 27, 263, 40⟩) ⟨263, 15, 263, 40⟩) ⟨263, 8, 263, 40⟩)
    .nil) .nil ⟨262, 4, 263, 40⟩)
    (.cons (.ite (.cmp (.var 4 ⟨264, 7, 264, 15⟩) .Lt (.lit (.int 3) 0 ⟨264, 18, 264, 19⟩) ⟨264, 7, 264, 19⟩) (.cons (.ret (.bin (.var 3 ⟨265, 15, 265, 24⟩) .Mod (.lit (.int 4) 0 ⟨265, 27, 265, 28⟩) ⟨265, 15, 265, 28⟩) ⟨265, 8, 265, 28⟩)
    .nil) .nil ⟨264, 4, 265, 28⟩)
    (.cons (.ret (.var 3 ⟨266, 11, 266, 20⟩) ⟨266, 4, 266, 20⟩)
    .nil))))))
noncomputable def S_law_value : Scope := {
              kind := PySem.ScopeKind.function,
              names := [
                (PySem.Str.ofString "_law_script", PySem.NameKind.local),
                (PySem.Str.ofString "_law_tape", PySem.NameKind.local),
                (PySem.Str.ofString "_law_kind", PySem.NameKind.local),
                (PySem.Str.ofString "_law_cell", PySem.NameKind.local),
                (PySem.Str.ofString "_law_way", PySem.NameKind.local),
                (PySem.Str.ofString "_law_draw", PySem.NameKind.globalImplicit),
                (PySem.Str.ofString "_law_words", PySem.NameKind.globalImplicit)],
              isGenerator := false,
              isCoroutine := false,
              more := [] : PySem.Scope }

noncomputable def N_law_alike : List Str := ["_law_found", "_law_due", "_law_k"]
noncomputable def B_law_alike : ASs :=
    (.cons (.ite (.bop .Or (.cons (.not (.isi (.var 0 ⟨268, 22, 268, 32⟩) .list ⟨268, 11, 268, 21⟩ ⟨268, 34, 268, 38⟩ default default ⟨268, 11, 268, 39⟩) ⟨268, 7, 268, 39⟩) (.cons (.cmp (.blt .len (.cons (.var 0 ⟨268, 47, 268, 57⟩) .nil) ⟨268, 43, 268, 46⟩ ⟨268, 43, 268, 58⟩) .NotEq (.blt .len (.cons (.var 1 ⟨268, 66, 268, 74⟩) .nil) ⟨268, 62, 268, 65⟩ ⟨268, 62, 268, 75⟩) ⟨268, 43, 268, 75⟩) .nil)) ⟨268, 7, 268, 75⟩) (.cons (.ret (.lit (.bool false) 0 ⟨269, 15, 269, 20⟩) ⟨269, 8, 269, 20⟩)
    .nil) .nil ⟨268, 4, 269, 20⟩)
    (.cons (.for 2 ⟨270, 8, 270, 14⟩ (.blt .range (.cons (.blt .len (.cons (.var 1 ⟨270, 28, 270, 36⟩) .nil) ⟨270, 24, 270, 27⟩ ⟨270, 24, 270, 37⟩) .nil) ⟨270, 18, 270, 23⟩ ⟨270, 18, 270, 38⟩) (.cons (.ite (.cmp (.isi (.sub (.var 1 ⟨271, 22, 271, 30⟩) (.var 2 ⟨271, 31, 271, 37⟩) ⟨271, 22, 271, 38⟩) .str ⟨271, 11, 271, 21⟩ ⟨271, 40, 271, 43⟩ default default ⟨271, 11, 271, 44⟩) .NotEq (.isi (.sub (.var 0 ⟨271, 59, 271, 69⟩) (.var 2 ⟨271, 70, 271, 76⟩) ⟨271, 59, 271, 77⟩) .str ⟨271, 48, 271, 58⟩ ⟨271, 79, 271, 82⟩ default default ⟨271, 48, 271, 83⟩) ⟨271, 11, 271, 83⟩) (.cons (.ret (.lit (.bool false) 0 ⟨272, 19, 272, 24⟩) ⟨272, 12, 272, 24⟩)
    .nil) .nil ⟨271, 8, 272, 24⟩)
    (.cons (.ite (.bop .And (.cons (.not (.isi (.sub (.var 1 ⟨273, 26, 273, 34⟩) (.var 2 ⟨273, 35, 273, 41⟩) ⟨273, 26, 273, 42⟩) .str ⟨273, 15, 273, 25⟩ ⟨273, 44, 273, 47⟩ default default ⟨273, 15, 273, 48⟩) ⟨273, 11, 273, 48⟩) (.cons (.bop .Or (.cons (.isi (.sub (.var 0 ⟨273, 65, 273, 75⟩) (.var 2 ⟨273, 76, 273, 82⟩) ⟨273, 65, 273, 83⟩) .bool ⟨273, 54, 273, 64⟩ ⟨273, 85, 273, 89⟩ default default ⟨273, 54, 273, 90⟩) (.cons (.not (.isi (.sub (.var 0 ⟨273, 109, 273, 119⟩) (.var 2 ⟨273, 120, 273, 126⟩) ⟨273, 109, 273, 127⟩) .int ⟨273, 98, 273, 108⟩ ⟨273, 129, 273, 132⟩ default default ⟨273, 98, 273, 133⟩) ⟨273, 94, 273, 133⟩) .nil)) ⟨273, 54, 273, 133⟩) .nil)) ⟨273, 11, 273, 134⟩) (.cons (.ret (.lit (.bool false) 0 ⟨274, 19, 274, 24⟩) ⟨274, 12, 274, 24⟩)
    .nil) .nil ⟨273, 8, 274, 24⟩)
    .nil)) ⟨270, 4, 274, 24⟩)
    (.cons (.ret (.cmp (.var 0 ⟨275, 11, 275, 21⟩) .Eq (.var 1 ⟨275, 25, 275, 33⟩) ⟨275, 11, 275, 33⟩) ⟨275, 4, 275, 33⟩)
    .nil)))
noncomputable def S_law_alike : Scope := {
              kind := PySem.ScopeKind.function,
              names := [
                (PySem.Str.ofString "_law_found", PySem.NameKind.local),
                (PySem.Str.ofString "_law_due", PySem.NameKind.local),
                (PySem.Str.ofString "_law_k", PySem.NameKind.local),
                (PySem.Str.ofString "isinstance", PySem.NameKind.globalImplicit),
                (PySem.Str.ofString "list", PySem.NameKind.globalImplicit),
                (PySem.Str.ofString "len", PySem.NameKind.globalImplicit),
                (PySem.Str.ofString "range", PySem.NameKind.globalImplicit),
                (PySem.Str.ofString "str", PySem.NameKind.globalImplicit),
                (PySem.Str.ofString "bool", PySem.NameKind.globalImplicit),
                (PySem.Str.ofString "int", PySem.NameKind.globalImplicit)],
              isGenerator := false,
              isCoroutine := false,
              more := [] : PySem.Scope }

noncomputable def N_law_program : List Str := ["_law_script", "_law_tape", "_law_some", "_law_leaves", "_law_begin", "_law_names", "_law_kinds", "_law_first", "_law_second", "_law_program_here", "_law_letter"]
noncomputable def B_law_program : ASs :=
    (.cons (.assign 4 ⟨277, 4, 277, 14⟩ (.call "_law_words" (.cons (.call "_law_draw" (.cons (.var 0 ⟨277, 38, 277, 49⟩) (.cons (.var 1 ⟨277, 51, 277, 60⟩) (.cons (.lit (.int 1000000) 0 ⟨277, 62, 277, 69⟩) .nil))) ⟨277, 28, 277, 37⟩ ⟨277, 28, 277, 70⟩) (.cons (.sub (.list (.cons (.lit (.int 0) 0 ⟨277, 73, 277, 74⟩) (.cons (.lit (.int 1) 0 ⟨277, 76, 277, 77⟩) (.cons (.lit (.int 50) 0 ⟨277, 79, 277, 81⟩) .nil))) ⟨277, 72, 277, 82⟩) (.call "_law_draw" (.cons (.var 0 ⟨277, 93, 277, 104⟩) (.cons (.var 1 ⟨277, 106, 277, 115⟩) (.cons (.lit (.int 3) 0 ⟨277, 117, 277, 118⟩) .nil))) ⟨277, 83, 277, 92⟩ ⟨277, 83, 277, 119⟩) ⟨277, 72, 277, 120⟩) .nil)) ⟨277, 17, 277, 27⟩ ⟨277, 17, 277, 121⟩) ⟨277, 4, 277, 121⟩)
    (.cons (.assign 5 ⟨278, 4, 278, 14⟩ (.comp (.bin (.bin (.var 4 ⟨278, 18, 278, 28⟩) .Add (.var 10 ⟨278, 31, 278, 42⟩) ⟨278, 18, 278, 42⟩) .Add (.var 4 ⟨278, 45, 278, 55⟩) ⟨278, 18, 278, 55⟩) 10 ⟨278, 60, 278, 71⟩ (.list (.cons (.lit (.str "X") 0 ⟨278, 76, 278, 79⟩) (.cons (.lit (.str "Y") 0 ⟨278, 81, 278, 84⟩) (.cons (.lit (.str "Z") 0 ⟨278, 86, 278, 89⟩) .nil))) ⟨278, 75, 278, 90⟩) .nil {                     kind := PySem.ScopeKind.function,                     names := [                       (PySem.Str.ofString ".0", PySem.NameKind.local),                       (PySem.Str.ofString "_law_letter", PySem.NameKind.local),                       (PySem.Str.ofString "_law_begin", PySem.NameKind.free)],                     isGenerator := false,                     isCoroutine := false,                     more := [] : PySem.Scope } ⟨278, 17, 278, 91⟩) ⟨278, 4, 278, 91⟩)
    (.cons (.assign 6 ⟨279, 4, 279, 14⟩ (.tup (.cons (.lit (.str "num") 0 ⟨279, 18, 279, 23⟩) .nil) 0 ⟨279, 17, 279, 25⟩) ⟨279, 4, 279, 25⟩)
    (.cons (.assign 7 ⟨280, 4, 280, 14⟩ (.list (.cons (.tup (.cons (.lit (.str "copy") 0 ⟨280, 19, 280, 25⟩) (.cons (.lit (.int 0) 0 ⟨280, 27, 280, 28⟩) .nil)) 0 ⟨280, 18, 280, 29⟩) (.cons (.tup (.cons (.lit (.str "if") 0 ⟨280, 32, 280, 36⟩) (.cons (.sub (.var 5 ⟨280, 38, 280, 48⟩) (.lit (.int 1) 0 ⟨280, 49, 280, 50⟩) ⟨280, 38, 280, 51⟩) (.cons (.sub (.var 5 ⟨280, 53, 280, 63⟩) (.lit (.int 2) 0 ⟨280, 64, 280, 65⟩) ⟨280, 53, 280, 66⟩) .nil))) 0 ⟨280, 31, 280, 67⟩) .nil)) ⟨280, 17, 280, 68⟩) ⟨280, 4, 280, 68⟩)
    (.cons (.assign 8 ⟨281, 4, 281, 15⟩ (.list (.cons (.tup (.cons (.lit (.str "num") 0 ⟨281, 20, 281, 25⟩) (.cons (.lit (.int 999999999) 0 ⟨281, 27, 281, 36⟩) .nil)) 0 ⟨281, 19, 281, 37⟩) (.cons (.tup (.cons (.lit (.str "add") 0 ⟨281, 40, 281, 45⟩) .nil) 0 ⟨281, 39, 281, 47⟩) (.cons (.tup (.cons (.lit (.str "call") 0 ⟨281, 50, 281, 56⟩) (.cons (.sub (.var 5 ⟨281, 58, 281, 68⟩) (.lit (.int 0) 0 ⟨281, 69, 281, 70⟩) ⟨281, 58, 281, 71⟩) .nil)) 0 ⟨281, 49, 281, 72⟩) (.cons (.tup (.cons (.lit (.str "num") 0 ⟨281, 75, 281, 80⟩) (.cons (.var 2 ⟨281, 82, 281, 91⟩) .nil)) 0 ⟨281, 74, 281, 92⟩) (.cons (.tup (.cons (.lit (.str "add") 0 ⟨281, 95, 281, 100⟩) .nil) 0 ⟨281, 94, 281, 102⟩) .nil))))) ⟨281, 18, 281, 103⟩) ⟨281, 4, 281, 103⟩)
    (.cons (.ite (.var 3 ⟨282, 7, 282, 18⟩) (.cons (.assign 8 ⟨283, 8, 283, 19⟩ (.list (.cons (.tup (.cons (.lit (.str "copy") 0 ⟨283, 24, 283, 30⟩) (.cons (.lit (.int 0) 0 ⟨283, 32, 283, 33⟩) .nil)) 0 ⟨283, 23, 283, 34⟩) (.cons (.tup (.cons (.lit (.str "num") 0 ⟨283, 37, 283, 42⟩) (.cons (.lit (.int 999999999) 0 ⟨283, 44, 283, 53⟩) .nil)) 0 ⟨283, 36, 283, 54⟩) (.cons (.tup (.cons (.lit (.str "add") 0 ⟨283, 57, 283, 62⟩) .nil) 0 ⟨283, 56, 283, 64⟩) (.cons (.tup (.cons (.lit (.str "call") 0 ⟨283, 67, 283, 73⟩) (.cons (.sub (.var 5 ⟨283, 75, 283, 85⟩) (.lit (.int 0) 0 ⟨283, 86, 283, 87⟩) ⟨283, 75, 283, 88⟩) .nil)) 0 ⟨283, 66, 283, 89⟩) (.cons (.tup (.cons (.lit (.str "add") 0 ⟨283, 92, 283, 97⟩) .nil) 0 ⟨283, 91, 283, 99⟩) .nil))))) ⟨283, 22, 283, 100⟩) ⟨283, 8, 283, 100⟩)
    .nil) .nil ⟨282, 4, 283, 100⟩)
    (.cons (.assign 9 ⟨284, 4, 284, 21⟩ (.dict [] .nil ⟨284, 24, 284, 26⟩) ⟨284, 4, 284, 26⟩)
    (.cons (.store (.var 9 ⟨285, 4, 285, 21⟩) (.sub (.var 5 ⟨285, 22, 285, 32⟩) (.lit (.int 2) 0 ⟨285, 33, 285, 34⟩) ⟨285, 22, 285, 35⟩) ⟨285, 4, 285, 36⟩ (.tup (.cons (.var 6 ⟨285, 40, 285, 50⟩) (.cons (.var 6 ⟨285, 52, 285, 62⟩) (.cons (.list .nil ⟨285, 64, 285, 66⟩) .nil))) 0 ⟨285, 39, 285, 67⟩) ⟨285, 4, 285, 67⟩)
    (.cons (.store (.var 9 ⟨286, 4, 286, 21⟩) (.sub (.var 5 ⟨286, 22, 286, 32⟩) (.lit (.int 0) 0 ⟨286, 33, 286, 34⟩) ⟨286, 22, 286, 35⟩) ⟨286, 4, 286, 36⟩ (.tup (.cons (.var 6 ⟨286, 40, 286, 50⟩) (.cons (.var 6 ⟨286, 52, 286, 62⟩) (.cons (.var 7 ⟨286, 64, 286, 74⟩) .nil))) 0 ⟨286, 39, 286, 75⟩) ⟨286, 4, 286, 75⟩)
    (.cons (.store (.var 9 ⟨287, 4, 287, 21⟩) (.sub (.var 5 ⟨287, 22, 287, 32⟩) (.lit (.int 1) 0 ⟨287, 33, 287, 34⟩) ⟨287, 22, 287, 35⟩) ⟨287, 4, 287, 36⟩ (.tup (.cons (.var 6 ⟨287, 40, 287, 50⟩) (.cons (.var 6 ⟨287, 52, 287, 62⟩) (.cons (.var 8 ⟨287, 64, 287, 75⟩) .nil))) 0 ⟨287, 39, 287, 76⟩) ⟨287, 4, 287, 76⟩)
    (.cons (.ret (.tup (.cons (.var 9 ⟨288, 12, 288, 29⟩) (.cons (.var 5 ⟨288, 31, 288, 41⟩) .nil)) 0 ⟨288, 11, 288, 42⟩) ⟨288, 4, 288, 42⟩)
    .nil)))))))))))
noncomputable def S_law_program : Scope := {
              kind := PySem.ScopeKind.function,
              names := [
                (PySem.Str.ofString "_law_script", PySem.NameKind.local),
                (PySem.Str.ofString "_law_tape", PySem.NameKind.local),
                (PySem.Str.ofString "_law_some", PySem.NameKind.local),
                (PySem.Str.ofString "_law_leaves", PySem.NameKind.local),
                (PySem.Str.ofString "_law_begin", PySem.NameKind.cell),
                (PySem.Str.ofString "_law_names", PySem.NameKind.local),
                (PySem.Str.ofString "_law_kinds", PySem.NameKind.local),
                (PySem.Str.ofString "_law_first", PySem.NameKind.local),
                (PySem.Str.ofString "_law_second", PySem.NameKind.local),
                (PySem.Str.ofString "_law_program_here", PySem.NameKind.local),
                (PySem.Str.ofString "_law_words", PySem.NameKind.globalImplicit),
                (PySem.Str.ofString "_law_draw", PySem.NameKind.globalImplicit)],
              isGenerator := false,
              isCoroutine := false,
              more := [
                (PySem.Str.ofString "fast", (PySem.Const.str "_law_script")),
                (PySem.Str.ofString "fast", (PySem.Const.str "_law_tape")),
                (PySem.Str.ofString "fast", (PySem.Const.str "_law_some")),
                (PySem.Str.ofString "fast", (PySem.Const.str "_law_leaves")),
                (PySem.Str.ofString "fast", (PySem.Const.str "_law_begin")),
                (PySem.Str.ofString "fast", (PySem.Const.str "_law_letter")),
                (PySem.Str.ofString "fast", (PySem.Const.str "_law_names")),
                (PySem.Str.ofString "fast", (PySem.Const.str "_law_kinds")),
                (PySem.Str.ofString "fast", (PySem.Const.str "_law_first")),
                (PySem.Str.ofString "fast", (PySem.Const.str "_law_second")),
                (PySem.Str.ofString "fast", (PySem.Const.str "_law_program_here"))] : PySem.Scope }

noncomputable def N_law_run : List Str := ["_law_program_here", "_law_name", "_law_stack", "_law_fuel"]
noncomputable def B_law_run : ASs :=
    (.cons (.try (.cons (.ret (.call "run" (.cons (.var 0 ⟨291, 19, 291, 36⟩) (.cons (.var 1 ⟨291, 38, 291, 47⟩) (.cons (.var 2 ⟨291, 49, 291, 59⟩) (.cons (.var 3 ⟨291, 61, 291, 70⟩) .nil)))) ⟨291, 15, 291, 18⟩ ⟨291, 15, 291, 71⟩) ⟨291, 8, 291, 71⟩)
    .nil) (.cons 5 "Dry" ⟨292, 11, 292, 14⟩ none (.cons (.ret (.lit (.str "dry") 0 ⟨293, 15, 293, 20⟩) ⟨293, 8, 293, 20⟩)
    .nil) ⟨292, 4, 293, 20⟩ .nil) ⟨290, 4, 293, 20⟩)
    .nil)
noncomputable def S_law_run : Scope := {
              kind := PySem.ScopeKind.function,
              names := [
                (PySem.Str.ofString "_law_program_here", PySem.NameKind.local),
                (PySem.Str.ofString "_law_name", PySem.NameKind.local),
                (PySem.Str.ofString "_law_stack", PySem.NameKind.local),
                (PySem.Str.ofString "_law_fuel", PySem.NameKind.local),
                (PySem.Str.ofString "run", PySem.NameKind.globalImplicit),
                (PySem.Str.ofString "Dry", PySem.NameKind.globalImplicit)],
              isGenerator := false,
              isCoroutine := false,
              more := [] : PySem.Scope }

noncomputable def N_law_deep : List Str := ["_law_program_here", "_law_names", "_law_beneath", "_law_many", "_law_leaves", "_law_some", "_law_machine", "_law_other", "_law_left", "_law_turn", "_law_due", "_law_turn"]
noncomputable def B_law_deep : ASs :=
    (.cons (.assign 6 ⟨295, 4, 295, 16⟩ (.new (.cons (.var 0 ⟨295, 27, 295, 44⟩) (.cons (.sub (.var 1 ⟨295, 46, 295, 56⟩) (.lit (.int 0) 0 ⟨295, 57, 295, 58⟩) ⟨295, 46, 295, 59⟩) (.cons (.bin (.var 2 ⟨295, 61, 295, 73⟩) .Add (.list (.cons (.var 3 ⟨295, 77, 295, 86⟩) .nil) ⟨295, 76, 295, 87⟩) ⟨295, 61, 295, 87⟩) .nil))) ⟨295, 19, 295, 26⟩ ⟨295, 19, 295, 88⟩) ⟨295, 4, 295, 88⟩)
    (.cons (.assign 7 ⟨296, 4, 296, 14⟩ (.new (.cons (.var 0 ⟨296, 25, 296, 42⟩) (.cons (.sub (.var 1 ⟨296, 44, 296, 54⟩) (.lit (.int 0) 0 ⟨296, 55, 296, 56⟩) ⟨296, 44, 296, 57⟩) (.cons (.bin (.var 2 ⟨296, 59, 296, 71⟩) .Add (.list (.cons (.lit (.int 1) 0 ⟨296, 75, 296, 76⟩) .nil) ⟨296, 74, 296, 77⟩) ⟨296, 59, 296, 77⟩) .nil))) ⟨296, 17, 296, 24⟩ ⟨296, 17, 296, 78⟩) ⟨296, 4, 296, 78⟩)
    (.cons (.assign 8 ⟨297, 4, 297, 13⟩ (.list .nil ⟨297, 16, 297, 18⟩) ⟨297, 4, 297, 18⟩)
    (.cons (.for 9 ⟨298, 8, 298, 17⟩ (.blt .range (.cons (.bin (.bin (.lit (.int 5) 0 ⟨298, 28, 298, 29⟩) .Add (.blt .int (.cons (.var 4 ⟨298, 36, 298, 47⟩) .nil) ⟨298, 32, 298, 35⟩ ⟨298, 32, 298, 48⟩) ⟨298, 28, 298, 48⟩) .Mult (.var 3 ⟨298, 52, 298, 61⟩) ⟨298, 27, 298, 61⟩) .nil) ⟨298, 21, 298, 26⟩ ⟨298, 21, 298, 62⟩) (.cons (.expr (.umeth (.var 6 ⟨299, 8, 299, 20⟩) "Machine.step" "step" .nil ⟨299, 8, 299, 25⟩ ⟨299, 8, 299, 27⟩) ⟨299, 8, 299, 27⟩)
    (.cons (.ite (.cmp (.bin (.var 9 ⟨300, 11, 300, 20⟩) .Mod (.lit (.int 3) 0 ⟨300, 23, 300, 24⟩) ⟨300, 11, 300, 24⟩) .Eq (.lit (.int 0) 0 ⟨300, 28, 300, 29⟩) ⟨300, 11, 300, 29⟩) (.cons (.expr (.umeth (.var 7 ⟨301, 12, 301, 22⟩) "Machine.step" "step" .nil ⟨301, 12, 301, 27⟩ ⟨301, 12, 301, 29⟩) ⟨301, 12, 301, 29⟩)
    .nil) .nil ⟨300, 8, 301, 29⟩)
    .nil)) ⟨298, 4, 301, 29⟩)
    (.cons (.for 9 ⟨302, 8, 302, 17⟩ (.blt .range (.cons (.lit (.int 9) 0 ⟨302, 27, 302, 28⟩) .nil) ⟨302, 21, 302, 26⟩ ⟨302, 21, 302, 29⟩) (.cons (.expr (.umeth (.var 7 ⟨303, 8, 303, 18⟩) "Machine.step" "step" .nil ⟨303, 8, 303, 23⟩ ⟨303, 8, 303, 25⟩) ⟨303, 8, 303, 25⟩)
    .nil) ⟨302, 4, 303, 25⟩)
    (.cons (.ite (.bop .Or (.cons (.not (.umeth (.var 7 ⟨304, 11, 304, 21⟩) "Machine.over" "over" .nil ⟨304, 11, 304, 26⟩ ⟨304, 11, 304, 28⟩) ⟨304, 7, 304, 28⟩) (.cons (.not (.call "_law_alike" (.cons (.attr (.var 7 ⟨304, 47, 304, 57⟩) "stack" ⟨304, 47, 304, 63⟩) (.cons (.bin (.var 2 ⟨304, 65, 304, 77⟩) .Add (.list (.cons (.sub (.list (.cons (.var 5 ⟨304, 82, 304, 91⟩) (.cons (.lit (.int 1) 0 ⟨304, 93, 304, 94⟩) .nil)) ⟨304, 81, 304, 95⟩) (.blt .int (.cons (.var 4 ⟨304, 100, 304, 111⟩) .nil) ⟨304, 96, 304, 99⟩ ⟨304, 96, 304, 112⟩) ⟨304, 81, 304, 113⟩) .nil) ⟨304, 80, 304, 114⟩) ⟨304, 65, 304, 114⟩) .nil)) ⟨304, 36, 304, 46⟩ ⟨304, 36, 304, 115⟩) ⟨304, 32, 304, 115⟩) .nil)) ⟨304, 7, 304, 115⟩) (.cons (.ret (.lit (.bool false) 0 ⟨305, 15, 305, 20⟩) ⟨305, 8, 305, 20⟩)
    .nil) .nil ⟨304, 4, 305, 20⟩)
    (.cons (.ite (.var 4 ⟨306, 7, 306, 18⟩) (.cons (.assign 8 ⟨307, 8, 307, 17⟩ (.comp (.bin (.var 3 ⟨307, 21, 307, 30⟩) .Sub (.var 11 ⟨307, 33, 307, 42⟩) ⟨307, 21, 307, 42⟩) 11 ⟨307, 47, 307, 56⟩ (.blt .range (.cons (.var 3 ⟨307, 66, 307, 75⟩) .nil) ⟨307, 60, 307, 65⟩ ⟨307, 60, 307, 76⟩) .nil {                         kind := PySem.ScopeKind.function,                         names := [                           (PySem.Str.ofString ".0", PySem.NameKind.local),                           (PySem.Str.ofString "_law_turn", PySem.NameKind.local),                           (PySem.Str.ofString "_law_many", PySem.NameKind.free)],                         isGenerator := false,                         isCoroutine := false,                         more := [] : PySem.Scope } ⟨307, 20, 307, 77⟩) ⟨307, 8, 307, 77⟩)
    .nil) .nil ⟨306, 4, 307, 77⟩)
    (.cons (.assign 10 ⟨308, 4, 308, 12⟩ (.bin (.bin (.list (.cons (.tup (.cons (.sub (.var 1 ⟨308, 17, 308, 27⟩) (.lit (.int 0) 0 ⟨308, 28, 308, 29⟩) ⟨308, 17, 308, 30⟩) (.cons (.lit (.int 2) 0 ⟨308, 32, 308, 33⟩) .nil)) 0 ⟨308, 16, 308, 34⟩) (.cons (.tup (.cons (.sub (.var 1 ⟨308, 37, 308, 47⟩) (.lit (.int 1) 0 ⟨308, 48, 308, 49⟩) ⟨308, 37, 308, 50⟩) (.cons (.bin (.lit (.int 3) 0 ⟨308, 52, 308, 53⟩) .Add (.blt .int (.cons (.var 4 ⟨308, 60, 308, 71⟩) .nil) ⟨308, 56, 308, 59⟩ ⟨308, 56, 308, 72⟩) ⟨308, 52, 308, 72⟩) .nil)) 0 ⟨308, 36, 308, 73⟩) .nil)) ⟨308, 15, 308, 74⟩) .Mult (.var 3 ⟨308, 77, 308, 86⟩) ⟨308, 15, 308, 86⟩) .Add (.list (.cons (.tup (.cons (.sub (.var 1 ⟨308, 91, 308, 101⟩) (.lit (.int 0) 0 ⟨308, 102, 308, 103⟩) ⟨308, 91, 308, 104⟩) (.cons (.lit (.int 0) 0 ⟨308, 106, 308, 107⟩) .nil)) 0 ⟨308, 90, 308, 108⟩) .nil) ⟨308, 89, 308, 109⟩) ⟨308, 15, 308, 109⟩) ⟨308, 4, 308, 109⟩)
    (.cons (.ret (.bop .And (.cons (.cmp (.attr (.var 6 ⟨309, 11, 309, 23⟩) "frames" ⟨309, 11, 309, 30⟩) .Eq (.var 10 ⟨309, 34, 309, 42⟩) ⟨309, 11, 309, 42⟩) (.cons (.not (.umeth (.var 6 ⟨309, 52, 309, 64⟩) "Machine.over" "over" .nil ⟨309, 52, 309, 69⟩ ⟨309, 52, 309, 71⟩) ⟨309, 48, 309, 71⟩) (.cons (.call "_law_alike" (.cons (.attr (.var 6 ⟨309, 88, 309, 100⟩) "stack" ⟨309, 88, 309, 106⟩) (.cons (.bin (.bin (.var 2 ⟨309, 108, 309, 120⟩) .Add (.var 8 ⟨309, 123, 309, 132⟩) ⟨309, 108, 309, 132⟩) .Add (.list (.cons (.lit (.int 0) 0 ⟨309, 136, 309, 137⟩) .nil) ⟨309, 135, 309, 138⟩) ⟨309, 108, 309, 138⟩) .nil)) ⟨309, 77, 309, 87⟩ ⟨309, 77, 309, 139⟩) .nil))) ⟨309, 11, 309, 139⟩) ⟨309, 4, 309, 139⟩)
    .nil)))))))))
noncomputable def S_law_deep : Scope := {
              kind := PySem.ScopeKind.function,
              names := [
                (PySem.Str.ofString "_law_program_here", PySem.NameKind.local),
                (PySem.Str.ofString "_law_names", PySem.NameKind.local),
                (PySem.Str.ofString "_law_beneath", PySem.NameKind.local),
                (PySem.Str.ofString "_law_many", PySem.NameKind.cell),
                (PySem.Str.ofString "_law_leaves", PySem.NameKind.local),
                (PySem.Str.ofString "_law_some", PySem.NameKind.local),
                (PySem.Str.ofString "_law_machine", PySem.NameKind.local),
                (PySem.Str.ofString "_law_other", PySem.NameKind.local),
                (PySem.Str.ofString "_law_left", PySem.NameKind.local),
                (PySem.Str.ofString "_law_turn", PySem.NameKind.local),
                (PySem.Str.ofString "_law_due", PySem.NameKind.local),
                (PySem.Str.ofString "Machine", PySem.NameKind.globalImplicit),
                (PySem.Str.ofString "range", PySem.NameKind.globalImplicit),
                (PySem.Str.ofString "int", PySem.NameKind.globalImplicit),
                (PySem.Str.ofString "_law_alike", PySem.NameKind.globalImplicit)],
              isGenerator := false,
              isCoroutine := false,
              more := [
                (PySem.Str.ofString "fast", (PySem.Const.str "_law_program_here")),
                (PySem.Str.ofString "fast", (PySem.Const.str "_law_names")),
                (PySem.Str.ofString "fast", (PySem.Const.str "_law_beneath")),
                (PySem.Str.ofString "fast", (PySem.Const.str "_law_many")),
                (PySem.Str.ofString "fast", (PySem.Const.str "_law_leaves")),
                (PySem.Str.ofString "fast", (PySem.Const.str "_law_some")),
                (PySem.Str.ofString "fast", (PySem.Const.str "_law_machine")),
                (PySem.Str.ofString "fast", (PySem.Const.str "_law_other")),
                (PySem.Str.ofString "fast", (PySem.Const.str "_law_left")),
                (PySem.Str.ofString "fast", (PySem.Const.str "_law_turn")),
                (PySem.Str.ofString "fast", (PySem.Const.str "_law_due"))] : PySem.Scope }

noncomputable def N_law : List Str := ["_law_script", "_law_tape", "_law_some", "_law_many", "_law_way", "_law_leaves", "_law_program_here", "_law_names", "_law_beneath", "_law_k", "_law_steps", "_law_fuel", "_law_found", "_law_due"]
noncomputable def B_law : ASs :=
    (.cons (.assign 1 ⟨311, 4, 311, 13⟩ (.tape ⟨311, 17, 311, 18⟩ ⟨311, 16, 311, 19⟩) ⟨311, 4, 311, 19⟩)
    (.cons (.assign 2 ⟨312, 4, 312, 13⟩ (.call "_law_value" (.cons (.var 0 ⟨312, 27, 312, 38⟩) (.cons (.var 1 ⟨312, 40, 312, 49⟩) (.cons (.lit (.str "num") 0 ⟨312, 51, 312, 56⟩) .nil))) ⟨312, 16, 312, 26⟩ ⟨312, 16, 312, 57⟩) ⟨312, 4, 312, 57⟩)
    (.cons (.assign 3 ⟨313, 4, 313, 13⟩ (.call "_law_draw" (.cons (.var 0 ⟨313, 26, 313, 37⟩) (.cons (.var 1 ⟨313, 39, 313, 48⟩) (.cons (.lit (.int 12) 0 ⟨313, 50, 313, 52⟩) .nil))) ⟨313, 16, 313, 25⟩ ⟨313, 16, 313, 53⟩) ⟨313, 4, 313, 53⟩)
    (.cons (.ite (.cmp (.call "_law_draw" (.cons (.var 0 ⟨314, 17, 314, 28⟩) (.cons (.var 1 ⟨314, 30, 314, 39⟩) (.cons (.lit (.int 6) 0 ⟨314, 41, 314, 42⟩) .nil))) ⟨314, 7, 314, 16⟩ ⟨314, 7, 314, 43⟩) .Eq (.lit (.int 1) 0 ⟨314, 47, 314, 48⟩) ⟨314, 7, 314, 48⟩) (.cons (.assign 3 ⟨315, 8, 315, 17⟩ (.bin (.call "_law_draw" (.cons (.var 0 ⟨315, 30, 315, 41⟩) (.cons (.var 1 ⟨315, 43, 315, 52⟩) (.cons (.lit (.int 91) 0 ⟨315, 54, 315, 56⟩) .nil))) ⟨315, 20, 315, 29⟩ ⟨315, 20, 315, 57⟩) .Add (.bin (.lit (.int 300) 0 ⟨315, 60, 315, 63⟩) .Mult (.blt .int (.cons (.cmp (.call "_law_draw" (.cons (.var 0 ⟨315, 80, 315, 91⟩) (.cons (.var 1 ⟨315, 93, 315, 102⟩) (.cons (.lit (.int 4) 0 ⟨315, 104, 315, 105⟩) .nil))) ⟨315, 70, 315, 79⟩ ⟨315, 70, 315, 106⟩) .Eq (.lit (.int 1) 0 ⟨315, 110, 315, 111⟩) ⟨315, 70, 315, 111⟩) .nil) ⟨315, 66, 315, 69⟩ ⟨315, 66, 315, 112⟩) ⟨315, 60, 315, 112⟩) ⟨315, 20, 315, 112⟩) ⟨315, 8, 315, 112⟩)
    .nil) .nil ⟨314, 4, 315, 112⟩)
    (.cons (.assign 4 ⟨316, 4, 316, 12⟩ (.call "_law_draw" (.cons (.var 0 ⟨316, 25, 316, 36⟩) (.cons (.var 1 ⟨316, 38, 316, 47⟩) (.cons (.lit (.int 3) 0 ⟨316, 49, 316, 50⟩) .nil))) ⟨316, 15, 316, 24⟩ ⟨316, 15, 316, 51⟩) ⟨316, 4, 316, 51⟩)
    (.cons (.assign 5 ⟨317, 4, 317, 15⟩ (.cmp (.call "_law_draw" (.cons (.var 0 ⟨317, 28, 317, 39⟩) (.cons (.var 1 ⟨317, 41, 317, 50⟩) (.cons (.lit (.int 2) 0 ⟨317, 52, 317, 53⟩) .nil))) ⟨317, 18, 317, 27⟩ ⟨317, 18, 317, 54⟩) .Eq (.lit (.int 0) 0 ⟨317, 58, 317, 59⟩) ⟨317, 18, 317, 59⟩) ⟨317, 4, 317, 59⟩)
    (.cons (.assignT [(6, ⟨318, 4, 318, 21⟩), (7, ⟨318, 23, 318, 33⟩)] 0 ⟨318, 4, 318, 33⟩ (.call "_law_program" (.cons (.var 0 ⟨318, 49, 318, 60⟩) (.cons (.var 1 ⟨318, 62, 318, 71⟩) (.cons (.var 2 ⟨318, 73, 318, 82⟩) (.cons (.var 5 ⟨318, 84, 318, 95⟩) .nil)))) ⟨318, 36, 318, 48⟩ ⟨318, 36, 318, 96⟩) ⟨318, 4, 318, 96⟩)
    (.cons (.assign 8 ⟨319, 4, 319, 16⟩ (.list .nil ⟨319, 19, 319, 21⟩) ⟨319, 4, 319, 21⟩)
    (.cons (.for 9 ⟨320, 8, 320, 14⟩ (.blt .range (.cons (.bin (.call "_law_draw" (.cons (.var 0 ⟨320, 34, 320, 45⟩) (.cons (.var 1 ⟨320, 47, 320, 56⟩) (.cons (.lit (.int 4) 0 ⟨320, 58, 320, 59⟩) .nil))) ⟨320, 24, 320, 33⟩ ⟨320, 24, 320, 60⟩) .Add (.sub (.list (.cons (.lit (.int 0) 0 ⟨320, 64, 320, 65⟩) (.cons (.lit (.int 0) 0 ⟨320, 67, 320, 68⟩) (.cons (.lit (.int 0) 0 ⟨320, 70, 320, 71⟩) (.cons (.lit (.int 0) 0 ⟨320, 73, 320, 74⟩) (.cons (.lit (.int 0) 0 ⟨320, 76, 320, 77⟩) (.cons (.lit (.int 60) 0 ⟨320, 79, 320, 81⟩) .nil)))))) ⟨320, 63, 320, 82⟩) (.call "_law_draw" (.cons (.var 0 ⟨320, 93, 320, 104⟩) (.cons (.var 1 ⟨320, 106, 320, 115⟩) (.cons (.lit (.int 6) 0 ⟨320, 117, 320, 118⟩) .nil))) ⟨320, 83, 320, 92⟩ ⟨320, 83, 320, 119⟩) ⟨320, 63, 320, 120⟩) ⟨320, 24, 320, 120⟩) .nil) ⟨320, 18, 320, 23⟩ ⟨320, 18, 320, 121⟩) (.cons (.expr (.meth (.var 8 ⟨321, 8, 321, 20⟩) .append (.cons (.call "_law_value" (.cons (.var 0 ⟨321, 39, 321, 50⟩) (.cons (.var 1 ⟨321, 52, 321, 61⟩) (.cons (.sub (.list (.cons (.lit (.str "num") 0 ⟨321, 64, 321, 69⟩) (.cons (.lit (.str "text") 0 ⟨321, 71, 321, 77⟩) .nil)) ⟨321, 63, 321, 78⟩) (.call "_law_draw" (.cons (.var 0 ⟨321, 89, 321, 100⟩) (.cons (.var 1 ⟨321, 102, 321, 111⟩) (.cons (.lit (.int 2) 0 ⟨321, 113, 321, 114⟩) .nil))) ⟨321, 79, 321, 88⟩ ⟨321, 79, 321, 115⟩) ⟨321, 63, 321, 116⟩) .nil))) ⟨321, 28, 321, 38⟩ ⟨321, 28, 321, 117⟩) .nil) ⟨321, 8, 321, 27⟩ ⟨321, 8, 321, 118⟩) ⟨321, 8, 321, 118⟩)
    .nil) ⟨320, 4, 321, 118⟩)
    (.cons (.assign 10 ⟨322, 4, 322, 14⟩ (.bin (.bin (.lit (.int 7) 0 ⟨322, 17, 322, 18⟩) .Mult (.var 3 ⟨322, 21, 322, 30⟩) ⟨322, 17, 322, 30⟩) .Add (.lit (.int 2) 0 ⟨322, 33, 322, 34⟩) ⟨322, 17, 322, 34⟩) ⟨322, 4, 322, 34⟩)
    (.cons (.ite (.bop .Or (.cons (.cmp (.call "let_by" (.cons (.var 6 ⟨323, 14, 323, 31⟩) (.cons (.sub (.var 7 ⟨323, 33, 323, 43⟩) (.lit (.int 0) 0 ⟨323, 44, 323, 45⟩) ⟨323, 33, 323, 46⟩) .nil)) ⟨323, 7, 323, 13⟩ ⟨323, 7, 323, 47⟩) .IsNot (.lit (.bool true) 0 ⟨323, 55, 323, 59⟩) ⟨323, 7, 323, 59⟩) (.cons (.cmp (.call "height" (.cons (.var 6 ⟨323, 70, 323, 87⟩) (.cons (.sub (.var 7 ⟨323, 89, 323, 99⟩) (.lit (.int 0) 0 ⟨323, 100, 323, 101⟩) ⟨323, 89, 323, 102⟩) .nil)) ⟨323, 63, 323, 69⟩ ⟨323, 63, 323, 103⟩) .IsNot (.lit .none 0 ⟨323, 111, 323, 115⟩) ⟨323, 63, 323, 115⟩) .nil)) ⟨323, 7, 323, 115⟩) (.cons (.ret (.lit (.bool false) 0 ⟨324, 15, 324, 20⟩) ⟨324, 8, 324, 20⟩)
    .nil) .nil ⟨323, 4, 324, 20⟩)
    (.cons (.assign 11 ⟨325, 4, 325, 13⟩ (.var 10 ⟨325, 16, 325, 26⟩) ⟨325, 4, 325, 26⟩)
    (.cons (.ite (.cmp (.var 4 ⟨326, 7, 326, 15⟩) .Eq (.lit (.int 1) 0 ⟨326, 19, 326, 20⟩) ⟨326, 7, 326, 20⟩) (.cons (.assign 11 ⟨327, 8, 327, 17⟩ (.call "_law_draw" (.cons (.var 0 ⟨327, 30, 327, 41⟩) (.cons (.var 1 ⟨327, 43, 327, 52⟩) (.cons (.var 10 ⟨327, 54, 327, 64⟩) .nil))) ⟨327, 20, 327, 29⟩ ⟨327, 20, 327, 65⟩) ⟨327, 8, 327, 65⟩)
    .nil) .nil ⟨326, 4, 327, 65⟩)
    (.cons (.ite (.cmp (.var 4 ⟨328, 7, 328, 15⟩) .Eq (.lit (.int 2) 0 ⟨328, 19, 328, 20⟩) ⟨328, 7, 328, 20⟩) (.cons (.assign 11 ⟨329, 8, 329, 17⟩ (.bin (.bin (.var 10 ⟨329, 20, 329, 30⟩) .Add (.lit (.int 1) 0 ⟨329, 33, 329, 34⟩) ⟨329, 20, 329, 34⟩) .Add (.call "_law_draw" (.cons (.var 0 ⟨329, 47, 329, 58⟩) (.cons (.var 1 ⟨329, 60, 329, 69⟩) (.cons (.lit (.int 1000) 0 ⟨329, 71, 329, 75⟩) .nil))) ⟨329, 37, 329, 46⟩ ⟨329, 37, 329, 76⟩) ⟨329, 20, 329, 76⟩) ⟨329, 8, 329, 76⟩)
    .nil) .nil ⟨328, 4, 329, 76⟩)
    (.cons (.assign 12 ⟨330, 4, 330, 14⟩ (.call "_law_run" (.cons (.var 6 ⟨330, 26, 330, 43⟩) (.cons (.sub (.var 7 ⟨330, 45, 330, 55⟩) (.lit (.int 0) 0 ⟨330, 56, 330, 57⟩) ⟨330, 45, 330, 58⟩) (.cons (.bin (.var 8 ⟨330, 60, 330, 72⟩) .Add (.list (.cons (.var 3 ⟨330, 76, 330, 85⟩) .nil) ⟨330, 75, 330, 86⟩) ⟨330, 60, 330, 86⟩) (.cons (.var 11 ⟨330, 88, 330, 97⟩) .nil)))) ⟨330, 17, 330, 25⟩ ⟨330, 17, 330, 98⟩) ⟨330, 4, 330, 98⟩)
    (.cons (.ite (.cmp (.var 11 ⟨331, 7, 331, 16⟩) .Lt (.var 10 ⟨331, 19, 331, 29⟩) ⟨331, 7, 331, 29⟩) (.cons (.ret (.bop .And (.cons (.isi (.var 12 ⟨332, 26, 332, 36⟩) .str ⟨332, 15, 332, 25⟩ ⟨332, 38, 332, 41⟩ default default ⟨332, 15, 332, 42⟩) (.cons (.cmp (.var 12 ⟨332, 47, 332, 57⟩) .Eq (.lit (.str "dry") 0 ⟨332, 61, 332, 66⟩) ⟨332, 47, 332, 66⟩) .nil)) ⟨332, 15, 332, 66⟩) ⟨332, 8, 332, 66⟩)
    .nil) .nil ⟨331, 4, 332, 66⟩)
    (.cons (.assign 13 ⟨333, 4, 333, 12⟩ (.bin (.bin (.var 3 ⟨333, 15, 333, 24⟩) .Mult (.var 2 ⟨333, 27, 333, 36⟩) ⟨333, 15, 333, 36⟩) .Mod (.bin (.lit (.int 10) 0 ⟨333, 39, 333, 41⟩) .Pow (.lit (.int 9) 0 ⟨333, 45, 333, 46⟩) ⟨333, 39, 333, 46⟩) ⟨333, 15, 333, 46⟩) ⟨333, 4, 333, 46⟩)
    (.cons (.ite (.var 5 ⟨334, 7, 334, 18⟩) (.cons (.assign 13 ⟨335, 8, 335, 16⟩ (.bin (.bin (.var 3 ⟨335, 19, 335, 28⟩) .Mult (.bin (.var 3 ⟨335, 32, 335, 41⟩) .Add (.lit (.int 1) 0 ⟨335, 44, 335, 45⟩) ⟨335, 32, 335, 45⟩) ⟨335, 19, 335, 46⟩) .FloorDiv (.lit (.int 2) 0 ⟨335, 50, 335, 51⟩) ⟨335, 19, 335, 51⟩) ⟨335, 8, 335, 51⟩)
    .nil) .nil ⟨334, 4, 335, 51⟩)
    (.cons (.ret (.bop .And (.cons (.call "_law_alike" (.cons (.var 12 ⟨336, 22, 336, 32⟩) (.cons (.bin (.var 8 ⟨336, 34, 336, 46⟩) .Add (.list (.cons (.var 13 ⟨336, 50, 336, 58⟩) .nil) ⟨336, 49, 336, 59⟩) ⟨336, 34, 336, 59⟩) .nil)) ⟨336, 11, 336, 21⟩ ⟨336, 11, 336, 60⟩) (.cons (.call "_law_deep" (.cons (.var 6 ⟨336, 75, 336, 92⟩) (.cons (.var 7 ⟨336, 94, 336, 104⟩) (.cons (.var 8 ⟨336, 106, 336, 118⟩) (.cons (.var 3 ⟨336, 120, 336, 129⟩) (.cons (.var 5 ⟨336, 131, 336, 142⟩) (.cons (.var 2 ⟨336, 144, 336, 153⟩) .nil)))))) ⟨336, 65, 336, 74⟩ ⟨336, 65, 336, 154⟩) .nil)) ⟨336, 11, 336, 154⟩) ⟨336, 4, 336, 154⟩)
    .nil)))))))))))))))))))
noncomputable def S_law : Scope := {
              kind := PySem.ScopeKind.function,
              names := [
                (PySem.Str.ofString "_law_script", PySem.NameKind.local),
                (PySem.Str.ofString "_law_tape", PySem.NameKind.local),
                (PySem.Str.ofString "_law_some", PySem.NameKind.local),
                (PySem.Str.ofString "_law_many", PySem.NameKind.local),
                (PySem.Str.ofString "_law_way", PySem.NameKind.local),
                (PySem.Str.ofString "_law_leaves", PySem.NameKind.local),
                (PySem.Str.ofString "_law_program_here", PySem.NameKind.local),
                (PySem.Str.ofString "_law_names", PySem.NameKind.local),
                (PySem.Str.ofString "_law_beneath", PySem.NameKind.local),
                (PySem.Str.ofString "_law_k", PySem.NameKind.local),
                (PySem.Str.ofString "_law_steps", PySem.NameKind.local),
                (PySem.Str.ofString "_law_fuel", PySem.NameKind.local),
                (PySem.Str.ofString "_law_found", PySem.NameKind.local),
                (PySem.Str.ofString "_law_due", PySem.NameKind.local),
                (PySem.Str.ofString "_law_value", PySem.NameKind.globalImplicit),
                (PySem.Str.ofString "_law_draw", PySem.NameKind.globalImplicit),
                (PySem.Str.ofString "int", PySem.NameKind.globalImplicit),
                (PySem.Str.ofString "_law_program", PySem.NameKind.globalImplicit),
                (PySem.Str.ofString "range", PySem.NameKind.globalImplicit),
                (PySem.Str.ofString "let_by", PySem.NameKind.globalImplicit),
                (PySem.Str.ofString "height", PySem.NameKind.globalImplicit),
                (PySem.Str.ofString "_law_run", PySem.NameKind.globalImplicit),
                (PySem.Str.ofString "isinstance", PySem.NameKind.globalImplicit),
                (PySem.Str.ofString "str", PySem.NameKind.globalImplicit),
                (PySem.Str.ofString "_law_alike", PySem.NameKind.globalImplicit),
                (PySem.Str.ofString "_law_deep", PySem.NameKind.globalImplicit)],
              isGenerator := false,
              isCoroutine := false,
              more := [] : PySem.Scope }

end Mine
end
section
open PySem PySem.W PySem.Calls PyProof.Rows
namespace Mine
set_option autoImplicit false
set_option maxRecDepth 100000
noncomputable def clsM0 : ClsRec := (plainsOf _root_.Mine.hd.view_39 _root_.Mine.hd.loos)[0]'(by decide +kernel)
noncomputable def clsM : ClsRec := clsM0.withCmp
theorem clsM_mem : clsM0 ∈ plainsOf _root_.Mine.hd.view_39 (looseW _root_.Mine.hd.view_39 _root_.Mine.hd.loos) := by rw [_root_.Mine.hd.lw]; exact List.getElem_mem _
theorem clsM_name : clsM0.name = "Machine" := by kernel_rfl
theorem clsM_hid : (((["__getattribute__", "__getattr__", "__setattr__"] : List Str) ++ atns).all fun x => clsM.quiet.contains x) = true := by kernel_rfl

theorem R_Machine___init__ : ∃ r ∈ clsM.meths, r.name = "__init__" ∧ r.body = B_Machine___init__.toSs N_Machine___init__ ∧ r.scope = S_Machine___init__ ∧ ∀ (pm code doc : Value) (vals : List Value), vals.length = 4 → bindArgs (methDef r.name (clsM.name ++ "." ++ r.name) r.params r.body r.scope pm code doc) ⟨vals, []⟩ = pure ((N_Machine___init__.take 4).zip vals) := by
  refine ⟨clsM.meths[0]'(by decide +kernel), List.getElem_mem _, by kernel_rfl, by kernel_rfl, by kernel_rfl, fun pm code doc vals h => ?_⟩
  match vals, h with
  | [v0, v1, v2, v3], _ => kernel_rfl

theorem R_Machine_settle : ∃ r ∈ clsM.meths, r.name = "settle" ∧ r.body = B_Machine_settle.toSs N_Machine_settle ∧ r.scope = S_Machine_settle ∧ ∀ (pm code doc : Value) (vals : List Value), vals.length = 1 → bindArgs (methDef r.name (clsM.name ++ "." ++ r.name) r.params r.body r.scope pm code doc) ⟨vals, []⟩ = pure ((N_Machine_settle.take 1).zip vals) := by
  refine ⟨clsM.meths[1]'(by decide +kernel), List.getElem_mem _, by kernel_rfl, by kernel_rfl, by kernel_rfl, fun pm code doc vals h => ?_⟩
  match vals, h with
  | [v0], _ => kernel_rfl

theorem R_Machine_over : ∃ r ∈ clsM.meths, r.name = "over" ∧ r.body = B_Machine_over.toSs N_Machine_over ∧ r.scope = S_Machine_over ∧ ∀ (pm code doc : Value) (vals : List Value), vals.length = 1 → bindArgs (methDef r.name (clsM.name ++ "." ++ r.name) r.params r.body r.scope pm code doc) ⟨vals, []⟩ = pure ((N_Machine_over.take 1).zip vals) := by
  refine ⟨clsM.meths[2]'(by decide +kernel), List.getElem_mem _, by kernel_rfl, by kernel_rfl, by kernel_rfl, fun pm code doc vals h => ?_⟩
  match vals, h with
  | [v0], _ => kernel_rfl

theorem R_Machine_goal_of : ∃ r ∈ clsM.meths, r.name = "goal_of" ∧ r.body = B_Machine_goal_of.toSs N_Machine_goal_of ∧ r.scope = S_Machine_goal_of ∧ ∀ (pm code doc : Value) (vals : List Value), vals.length = 2 → bindArgs (methDef r.name (clsM.name ++ "." ++ r.name) r.params r.body r.scope pm code doc) ⟨vals, []⟩ = pure ((N_Machine_goal_of.take 2).zip vals) := by
  refine ⟨clsM.meths[3]'(by decide +kernel), List.getElem_mem _, by kernel_rfl, by kernel_rfl, by kernel_rfl, fun pm code doc vals h => ?_⟩
  match vals, h with
  | [v0, v1], _ => kernel_rfl

theorem R_Machine_step : ∃ r ∈ clsM.meths, r.name = "step" ∧ r.body = B_Machine_step.toSs N_Machine_step ∧ r.scope = S_Machine_step ∧ ∀ (pm code doc : Value) (vals : List Value), vals.length = 1 → bindArgs (methDef r.name (clsM.name ++ "." ++ r.name) r.params r.body r.scope pm code doc) ⟨vals, []⟩ = pure ((N_Machine_step.take 1).zip vals) := by
  refine ⟨clsM.meths[4]'(by decide +kernel), List.getElem_mem _, by kernel_rfl, by kernel_rfl, by kernel_rfl, fun pm code doc vals h => ?_⟩
  match vals, h with
  | [v0], _ => kernel_rfl

theorem R_kinds_of : ∃ d ∈ recsOf _root_.Mine.hd.view_39, d.name = "kinds_of" ∧ d.body = B_kinds_of.toSs N_kinds_of ∧ d.scope = S_kinds_of ∧ ∀ (pm code doc : Value) (vals : List Value), vals.length = 1 → bindArgs (docDef d.name d.params d.body d.scope pm code doc) ⟨vals, []⟩ = pure ((N_kinds_of.take 1).zip vals) := by
  refine ⟨(recsOf _root_.Mine.hd.view_39)[0]'(by decide +kernel), List.getElem_mem _, by kernel_rfl, by kernel_rfl, by kernel_rfl, fun pm code doc vals h => ?_⟩
  match vals, h with
  | [v0], _ => kernel_rfl

theorem R_need : ∃ d ∈ recsOf _root_.Mine.hd.view_39, d.name = "need" ∧ d.body = B_need.toSs N_need ∧ d.scope = S_need ∧ ∀ (pm code doc : Value) (vals : List Value), vals.length = 2 → bindArgs (docDef d.name d.params d.body d.scope pm code doc) ⟨vals, []⟩ = pure ((N_need.take 2).zip vals) := by
  refine ⟨(recsOf _root_.Mine.hd.view_39)[1]'(by decide +kernel), List.getElem_mem _, by kernel_rfl, by kernel_rfl, by kernel_rfl, fun pm code doc vals h => ?_⟩
  match vals, h with
  | [v0, v1], _ => kernel_rfl

theorem R_reckoned : ∃ d ∈ recsOf _root_.Mine.hd.view_39, d.name = "reckoned" ∧ d.body = B_reckoned.toSs N_reckoned ∧ d.scope = S_reckoned ∧ ∀ (pm code doc : Value) (vals : List Value), vals.length = 2 → bindArgs (docDef d.name d.params d.body d.scope pm code doc) ⟨vals, []⟩ = pure ((N_reckoned.take 2).zip vals) := by
  refine ⟨(recsOf _root_.Mine.hd.view_39)[2]'(by decide +kernel), List.getElem_mem _, by kernel_rfl, by kernel_rfl, by kernel_rfl, fun pm code doc vals h => ?_⟩
  match vals, h with
  | [v0, v1], _ => kernel_rfl

theorem R_done : ∃ d ∈ recsOf _root_.Mine.hd.view_39, d.name = "done" ∧ d.body = B_done.toSs N_done ∧ d.scope = S_done ∧ ∀ (pm code doc : Value) (vals : List Value), vals.length = 2 → bindArgs (docDef d.name d.params d.body d.scope pm code doc) ⟨vals, []⟩ = pure ((N_done.take 2).zip vals) := by
  refine ⟨(recsOf _root_.Mine.hd.view_39)[3]'(by decide +kernel), List.getElem_mem _, by kernel_rfl, by kernel_rfl, by kernel_rfl, fun pm code doc vals h => ?_⟩
  match vals, h with
  | [v0, v1], _ => kernel_rfl

theorem R_run : ∃ d ∈ recsOf _root_.Mine.hd.view_39, d.name = "run" ∧ d.body = B_run.toSs N_run ∧ d.scope = S_run ∧ ∀ (pm code doc : Value) (vals : List Value), vals.length = 4 → bindArgs (docDef d.name d.params d.body d.scope pm code doc) ⟨vals, []⟩ = pure ((N_run.take 4).zip vals) := by
  refine ⟨(recsOf _root_.Mine.hd.view_39)[4]'(by decide +kernel), List.getElem_mem _, by kernel_rfl, by kernel_rfl, by kernel_rfl, fun pm code doc vals h => ?_⟩
  match vals, h with
  | [v0, v1, v2, v3], _ => kernel_rfl

theorem R_taken : ∃ d ∈ recsOf _root_.Mine.hd.view_39, d.name = "taken" ∧ d.body = B_taken.toSs N_taken ∧ d.scope = S_taken ∧ ∀ (pm code doc : Value) (vals : List Value), vals.length = 2 → bindArgs (docDef d.name d.params d.body d.scope pm code doc) ⟨vals, []⟩ = pure ((N_taken.take 2).zip vals) := by
  refine ⟨(recsOf _root_.Mine.hd.view_39)[5]'(by decide +kernel), List.getElem_mem _, by kernel_rfl, by kernel_rfl, by kernel_rfl, fun pm code doc vals h => ?_⟩
  match vals, h with
  | [v0, v1], _ => kernel_rfl

theorem R_block_of : ∃ d ∈ recsOf _root_.Mine.hd.view_39, d.name = "block_of" ∧ d.body = B_block_of.toSs N_block_of ∧ d.scope = S_block_of ∧ ∀ (pm code doc : Value) (vals : List Value), vals.length = 2 → bindArgs (docDef d.name d.params d.body d.scope pm code doc) ⟨vals, []⟩ = pure ((N_block_of.take 2).zip vals) := by
  refine ⟨(recsOf _root_.Mine.hd.view_39)[6]'(by decide +kernel), List.getElem_mem _, by kernel_rfl, by kernel_rfl, by kernel_rfl, fun pm code doc vals h => ?_⟩
  match vals, h with
  | [v0, v1], _ => kernel_rfl

theorem R_called : ∃ d ∈ recsOf _root_.Mine.hd.view_39, d.name = "called" ∧ d.body = B_called.toSs N_called ∧ d.scope = S_called ∧ ∀ (pm code doc : Value) (vals : List Value), vals.length = 3 → bindArgs (docDef d.name d.params d.body d.scope pm code doc) ⟨vals, []⟩ = pure ((N_called.take 3).zip vals) := by
  refine ⟨(recsOf _root_.Mine.hd.view_39)[7]'(by decide +kernel), List.getElem_mem _, by kernel_rfl, by kernel_rfl, by kernel_rfl, fun pm code doc vals h => ?_⟩
  match vals, h with
  | [v0, v1, v2], _ => kernel_rfl

theorem R_moved : ∃ d ∈ recsOf _root_.Mine.hd.view_39, d.name = "moved" ∧ d.body = B_moved.toSs N_moved ∧ d.scope = S_moved ∧ ∀ (pm code doc : Value) (vals : List Value), vals.length = 2 → bindArgs (docDef d.name d.params d.body d.scope pm code doc) ⟨vals, []⟩ = pure ((N_moved.take 2).zip vals) := by
  refine ⟨(recsOf _root_.Mine.hd.view_39)[8]'(by decide +kernel), List.getElem_mem _, by kernel_rfl, by kernel_rfl, by kernel_rfl, fun pm code doc vals h => ?_⟩
  match vals, h with
  | [v0, v1], _ => kernel_rfl

theorem R_behind : ∃ d ∈ recsOf _root_.Mine.hd.view_39, d.name = "behind" ∧ d.body = B_behind.toSs N_behind ∧ d.scope = S_behind ∧ ∀ (pm code doc : Value) (vals : List Value), vals.length = 3 → bindArgs (docDef d.name d.params d.body d.scope pm code doc) ⟨vals, []⟩ = pure ((N_behind.take 3).zip vals) := by
  refine ⟨(recsOf _root_.Mine.hd.view_39)[9]'(by decide +kernel), List.getElem_mem _, by kernel_rfl, by kernel_rfl, by kernel_rfl, fun pm code doc vals h => ?_⟩
  match vals, h with
  | [v0, v1, v2], _ => kernel_rfl

theorem R_looked : ∃ d ∈ recsOf _root_.Mine.hd.view_39, d.name = "looked" ∧ d.body = B_looked.toSs N_looked ∧ d.scope = S_looked ∧ ∀ (pm code doc : Value) (vals : List Value), vals.length = 2 → bindArgs (docDef d.name d.params d.body d.scope pm code doc) ⟨vals, []⟩ = pure ((N_looked.take 2).zip vals) := by
  refine ⟨(recsOf _root_.Mine.hd.view_39)[10]'(by decide +kernel), List.getElem_mem _, by kernel_rfl, by kernel_rfl, by kernel_rfl, fun pm code doc vals h => ?_⟩
  match vals, h with
  | [v0, v1], _ => kernel_rfl

theorem R_trail_of : ∃ d ∈ recsOf _root_.Mine.hd.view_39, d.name = "trail_of" ∧ d.body = B_trail_of.toSs N_trail_of ∧ d.scope = S_trail_of ∧ ∀ (pm code doc : Value) (vals : List Value), vals.length = 2 → bindArgs (docDef d.name d.params d.body d.scope pm code doc) ⟨vals, []⟩ = pure ((N_trail_of.take 2).zip vals) := by
  refine ⟨(recsOf _root_.Mine.hd.view_39)[11]'(by decide +kernel), List.getElem_mem _, by kernel_rfl, by kernel_rfl, by kernel_rfl, fun pm code doc vals h => ?_⟩
  match vals, h with
  | [v0, v1], _ => kernel_rfl

theorem R_fault : ∃ d ∈ recsOf _root_.Mine.hd.view_39, d.name = "fault" ∧ d.body = B_fault.toSs N_fault ∧ d.scope = S_fault ∧ ∀ (pm code doc : Value) (vals : List Value), vals.length = 2 → bindArgs (docDef d.name d.params d.body d.scope pm code doc) ⟨vals, []⟩ = pure ((N_fault.take 2).zip vals) := by
  refine ⟨(recsOf _root_.Mine.hd.view_39)[12]'(by decide +kernel), List.getElem_mem _, by kernel_rfl, by kernel_rfl, by kernel_rfl, fun pm code doc vals h => ?_⟩
  match vals, h with
  | [v0, v1], _ => kernel_rfl

theorem R_named : ∃ d ∈ recsOf _root_.Mine.hd.view_39, d.name = "named" ∧ d.body = B_named.toSs N_named ∧ d.scope = S_named ∧ ∀ (pm code doc : Value) (vals : List Value), vals.length = 1 → bindArgs (docDef d.name d.params d.body d.scope pm code doc) ⟨vals, []⟩ = pure ((N_named.take 1).zip vals) := by
  refine ⟨(recsOf _root_.Mine.hd.view_39)[13]'(by decide +kernel), List.getElem_mem _, by kernel_rfl, by kernel_rfl, by kernel_rfl, fun pm code doc vals h => ?_⟩
  match vals, h with
  | [v0], _ => kernel_rfl

theorem R_come_to : ∃ d ∈ recsOf _root_.Mine.hd.view_39, d.name = "come_to" ∧ d.body = B_come_to.toSs N_come_to ∧ d.scope = S_come_to ∧ ∀ (pm code doc : Value) (vals : List Value), vals.length = 2 → bindArgs (docDef d.name d.params d.body d.scope pm code doc) ⟨vals, []⟩ = pure ((N_come_to.take 2).zip vals) := by
  refine ⟨(recsOf _root_.Mine.hd.view_39)[14]'(by decide +kernel), List.getElem_mem _, by kernel_rfl, by kernel_rfl, by kernel_rfl, fun pm code doc vals h => ?_⟩
  match vals, h with
  | [v0, v1], _ => kernel_rfl

theorem R_let_by : ∃ d ∈ recsOf _root_.Mine.hd.view_39, d.name = "let_by" ∧ d.body = B_let_by.toSs N_let_by ∧ d.scope = S_let_by ∧ ∀ (pm code doc : Value) (vals : List Value), vals.length = 2 → bindArgs (docDef d.name d.params d.body d.scope pm code doc) ⟨vals, []⟩ = pure ((N_let_by.take 2).zip vals) := by
  refine ⟨(recsOf _root_.Mine.hd.view_39)[15]'(by decide +kernel), List.getElem_mem _, by kernel_rfl, by kernel_rfl, by kernel_rfl, fun pm code doc vals h => ?_⟩
  match vals, h with
  | [v0, v1], _ => kernel_rfl

theorem R_height_by : ∃ d ∈ recsOf _root_.Mine.hd.view_39, d.name = "height_by" ∧ d.body = B_height_by.toSs N_height_by ∧ d.scope = S_height_by ∧ ∀ (pm code doc : Value) (vals : List Value), vals.length = 3 → bindArgs (docDef d.name d.params d.body d.scope pm code doc) ⟨vals, []⟩ = pure ((N_height_by.take 3).zip vals) := by
  refine ⟨(recsOf _root_.Mine.hd.view_39)[16]'(by decide +kernel), List.getElem_mem _, by kernel_rfl, by kernel_rfl, by kernel_rfl, fun pm code doc vals h => ?_⟩
  match vals, h with
  | [v0, v1, v2], _ => kernel_rfl

theorem R_height : ∃ d ∈ recsOf _root_.Mine.hd.view_39, d.name = "height" ∧ d.body = B_height.toSs N_height ∧ d.scope = S_height ∧ ∀ (pm code doc : Value) (vals : List Value), vals.length = 2 → bindArgs (docDef d.name d.params d.body d.scope pm code doc) ⟨vals, []⟩ = pure ((N_height.take 2).zip vals) := by
  refine ⟨(recsOf _root_.Mine.hd.view_39)[17]'(by decide +kernel), List.getElem_mem _, by kernel_rfl, by kernel_rfl, by kernel_rfl, fun pm code doc vals h => ?_⟩
  match vals, h with
  | [v0, v1], _ => kernel_rfl

theorem R_law_draw : ∃ d ∈ recsOf _root_.Mine.hd.view_39, d.name = "_law_draw" ∧ d.body = B_law_draw.toSs N_law_draw ∧ d.scope = S_law_draw ∧ ∀ (pm code doc : Value) (vals : List Value), vals.length = 3 → bindArgs (docDef d.name d.params d.body d.scope pm code doc) ⟨vals, []⟩ = pure ((N_law_draw.take 3).zip vals) := by
  refine ⟨(recsOf _root_.Mine.hd.view_39)[18]'(by decide +kernel), List.getElem_mem _, by kernel_rfl, by kernel_rfl, by kernel_rfl, fun pm code doc vals h => ?_⟩
  match vals, h with
  | [v0, v1, v2], _ => kernel_rfl

theorem R_law_words : ∃ d ∈ recsOf _root_.Mine.hd.view_39, d.name = "_law_words" ∧ d.body = B_law_words.toSs N_law_words ∧ d.scope = S_law_words ∧ ∀ (pm code doc : Value) (vals : List Value), vals.length = 2 → bindArgs (docDef d.name d.params d.body d.scope pm code doc) ⟨vals, []⟩ = pure ((N_law_words.take 2).zip vals) := by
  refine ⟨(recsOf _root_.Mine.hd.view_39)[19]'(by decide +kernel), List.getElem_mem _, by kernel_rfl, by kernel_rfl, by kernel_rfl, fun pm code doc vals h => ?_⟩
  match vals, h with
  | [v0, v1], _ => kernel_rfl

theorem R_law_value : ∃ d ∈ recsOf _root_.Mine.hd.view_39, d.name = "_law_value" ∧ d.body = B_law_value.toSs N_law_value ∧ d.scope = S_law_value ∧ ∀ (pm code doc : Value) (vals : List Value), vals.length = 3 → bindArgs (docDef d.name d.params d.body d.scope pm code doc) ⟨vals, []⟩ = pure ((N_law_value.take 3).zip vals) := by
  refine ⟨(recsOf _root_.Mine.hd.view_39)[20]'(by decide +kernel), List.getElem_mem _, by kernel_rfl, by kernel_rfl, by kernel_rfl, fun pm code doc vals h => ?_⟩
  match vals, h with
  | [v0, v1, v2], _ => kernel_rfl

theorem R_law_alike : ∃ d ∈ recsOf _root_.Mine.hd.view_39, d.name = "_law_alike" ∧ d.body = B_law_alike.toSs N_law_alike ∧ d.scope = S_law_alike ∧ ∀ (pm code doc : Value) (vals : List Value), vals.length = 2 → bindArgs (docDef d.name d.params d.body d.scope pm code doc) ⟨vals, []⟩ = pure ((N_law_alike.take 2).zip vals) := by
  refine ⟨(recsOf _root_.Mine.hd.view_39)[21]'(by decide +kernel), List.getElem_mem _, by kernel_rfl, by kernel_rfl, by kernel_rfl, fun pm code doc vals h => ?_⟩
  match vals, h with
  | [v0, v1], _ => kernel_rfl

theorem R_law_program : ∃ d ∈ recsOf _root_.Mine.hd.view_39, d.name = "_law_program" ∧ d.body = B_law_program.toSs N_law_program ∧ d.scope = S_law_program ∧ ∀ (pm code doc : Value) (vals : List Value), vals.length = 4 → bindArgs (docDef d.name d.params d.body d.scope pm code doc) ⟨vals, []⟩ = pure ((N_law_program.take 4).zip vals) := by
  refine ⟨(recsOf _root_.Mine.hd.view_39)[22]'(by decide +kernel), List.getElem_mem _, by kernel_rfl, by kernel_rfl, by kernel_rfl, fun pm code doc vals h => ?_⟩
  match vals, h with
  | [v0, v1, v2, v3], _ => kernel_rfl

theorem R_law_run : ∃ d ∈ recsOf _root_.Mine.hd.view_39, d.name = "_law_run" ∧ d.body = B_law_run.toSs N_law_run ∧ d.scope = S_law_run ∧ ∀ (pm code doc : Value) (vals : List Value), vals.length = 4 → bindArgs (docDef d.name d.params d.body d.scope pm code doc) ⟨vals, []⟩ = pure ((N_law_run.take 4).zip vals) := by
  refine ⟨(recsOf _root_.Mine.hd.view_39)[23]'(by decide +kernel), List.getElem_mem _, by kernel_rfl, by kernel_rfl, by kernel_rfl, fun pm code doc vals h => ?_⟩
  match vals, h with
  | [v0, v1, v2, v3], _ => kernel_rfl

theorem R_law_deep : ∃ d ∈ recsOf _root_.Mine.hd.view_39, d.name = "_law_deep" ∧ d.body = B_law_deep.toSs N_law_deep ∧ d.scope = S_law_deep ∧ ∀ (pm code doc : Value) (vals : List Value), vals.length = 6 → bindArgs (docDef d.name d.params d.body d.scope pm code doc) ⟨vals, []⟩ = pure ((N_law_deep.take 6).zip vals) := by
  refine ⟨(recsOf _root_.Mine.hd.view_39)[24]'(by decide +kernel), List.getElem_mem _, by kernel_rfl, by kernel_rfl, by kernel_rfl, fun pm code doc vals h => ?_⟩
  match vals, h with
  | [v0, v1, v2, v3, v4, v5], _ => kernel_rfl

theorem R_law : ∃ d ∈ recsOf _root_.Mine.hd.view_39, d.name = "law" ∧ d.body = B_law.toSs N_law ∧ d.scope = S_law ∧ ∀ (pm code doc : Value) (vals : List Value), vals.length = 1 → bindArgs (docDef d.name d.params d.body d.scope pm code doc) ⟨vals, []⟩ = pure ((N_law.take 1).zip vals) := by
  refine ⟨(recsOf _root_.Mine.hd.view_39)[25]'(by decide +kernel), List.getElem_mem _, by kernel_rfl, by kernel_rfl, by kernel_rfl, fun pm code doc vals h => ?_⟩
  match vals, h with
  | [v0], _ => kernel_rfl

end Mine
end
section
open PySem PySem.W PySem.Calls PyProof.Rows
namespace Mine
set_option autoImplicit false
set_option maxRecDepth 100000
noncomputable def P0 : Params := { strHash := fun _ => 0, shareClass := fun _ => 0, mergeTok := id, idOf := fun _ => 0, idOfShared := fun _ _ => 0, followText := fun _ => false, idOfImm := fun _ => 0 }
noncomputable def csL : List Addr := onms.map fun p => refAt (_root_.Mine.hd.heap_39 P0) p.1
theorem k1 (P : Params) : ((_root_.Mine.hd.heap_39 P).lookup mainGlobals).isSome = true := by kernel_rfl
theorem k3 (P : Params) : excChk (_root_.Mine.hd.heap_39 P) csL = true := by kernel_rfl
theorem k4 (P : Params) : ownChk (_root_.Mine.hd.heap_39 P) csL = true := by kernel_rfl
theorem k5 (P : Params) : bltChk (_root_.Mine.hd.heap_39 P) = true := by kernel_rfl
theorem k6 : ownsChk _root_.Mine.hd.view_39 = true := by kernel_rfl
end Mine
end
section
open PySem PySem.W PySem.Calls PyProof.Rows
namespace Mine
set_option autoImplicit false

abbrev Sp := List PV → AHeap → Post → XPost → Prop
/-! rows, values, programs of this law -/
inductive R where
  | num (i : Int) | copy | add | call (n : Str) | iff (n m : Str)
noncomputable def R.row : R → List PV
  | .num i => [.str "num", .int i] | .copy => [.str "copy", .int 0] | .add => [.str "add"] | .call n => [.str "call", .str n] | .iff n m => [.str "if", .str n, .str m]
noncomputable def rowsPV (rs : List R) : List PV := rs.map fun r => .tup r.row
noncomputable def R.names : R → List Str
  | .call n => [n] | .iff n m => [n, m] | _ => []
noncomputable def namesOf (rs : List R) : List Str := rs.flatMap R.names
noncomputable def Okv (v : PV) : Prop := (∃ i, v = .int i ∧ 0 ≤ i ∧ i < 1000000000) ∨ ∃ s, v = .str s ∧ s.length ≤ 60
noncomputable def kindS : PV → Str
  | .str _ => "text"
  | _ => "num"
noncomputable def blk (a : Addr) : PV := .tup [.tup [.str "num"], .tup [.str "num"], .obj a]
/-- a program in the heap: what its names lead to -/
structure Pg (H : AHeap) (p : Addr) (rw : Str → List R) (ns : List Str) (kvs : List (Str × PV)) : Prop where
  ha : H p = some (.dict kvs)
  at' : ∀ n ∈ ns, ∃ a, dget kvs n = some (blk a) ∧ H a = some (.list (rowsPV (rw n)))
  sm : ∀ n ∈ ns, (rw n).length ≤ 10
  cl : ∀ n ∈ ns, ∀ u ∈ namesOf (rw n), u ∈ ns
/-- the three blocks -/
structure P3 (rw : Str → List R) (X Y Z : Str) (some : Int) (lv : Bool) : Prop where
  xy : X ≠ Y
  xz : X ≠ Z
  yz : Y ≠ Z
  rx : rw X = [.copy, .iff Y Z]
  ry : rw Y = if lv then [.copy, .num 999999999, .add, .call X, .add] else [.num 999999999, .add, .call X, .num some, .add]
  rz : rw Z = []
noncomputable def nums (k : Nat) : List PV := (List.replicate k ("num" : Str)).map .str
noncomputable def beh : R → Nat → Option Nat
  | .num _, k => some (k + 1)
  | .copy, k => if 1 ≤ k then some (k + 1) else none
  | .add, k => if 2 ≤ k then some (k - 1) else none
  | .call _, k => if 1 ≤ k then some k else none
  | .iff _ _, k => if 2 ≤ k then some (k - 1) else none
/-- how many kinds there are before each row -/
structure Tl (rs : List R) (ks : List Nat) : Prop where
  len : ks.length = rs.length + 1
  fst : ks[0]? = some 1
  step : ∀ (j : Nat) (r : R), rs[j]? = some r → ∃ k k', ks[j]? = some k ∧ beh r k = some k' ∧ ks[j + 1]? = some k'
  last : ks[rs.length]? = some 1
  small : ∀ k ∈ ks, k ≤ 10
noncomputable def trPV (ks : List Nat) : List PV := ks.map fun k => .tup (nums k)
inductive DoneR : R → List PV → List PV → Prop
  | num (i : Int) (st : List PV) : DoneR (.num i) st (st ++ [.int i])
  | copy (st : List PV) (v : PV) : DoneR .copy (st ++ [v]) (st ++ [v, v])
  | add (st : List PV) (a b : Int) : DoneR .add (st ++ [.int a, .int b]) (st ++ [.int ((a + b) % 1000000000)])
abbrev Frs := List (Str × Nat)
noncomputable def frPV (fr : Frs) : List PV := fr.map fun f => .tup [.str f.1, .int f.2]
/-- what a row does to the stack, and which frame it opens -/
inductive Eff (ns : List Str) : R → List PV → List PV → Frs → Prop
  | pl {r : R} {st st' : List PV} (h : DoneR r st st') : Eff ns r st st' []
  | call {n : Str} {st : List PV} (h : n ∈ ns) : Eff ns (.call n) st st [(n, 0)]
  | ifT {n m : Str} {st : List PV} {c : Int} (hc : c ≠ 0) (h : n ∈ ns) : Eff ns (.iff n m) (st ++ [.int c]) st [(n, 0)]
  | ifF {n m : Str} {st : List PV} (h : m ∈ ns) : Eff ns (.iff n m) (st ++ [.int 0]) st [(m, 0)]
structure Stl (rw : Str → List R) (keep drop : Frs) : Prop where
  fin : ∀ f ∈ drop, f.2 = (rw f.1).length
  not : ∀ f, keep.getLast? = some f → f.2 ≠ (rw f.1).length
inductive Sp1 (rw : Str → List R) (ns : List Str) : List PV → Frs → List PV → Frs → Prop
  | mk {pre keep drop more : Frs} {n : Str} {k : Nat} {r : R} {st st' : List PV} (hr : (rw n)[k]? = some r) (he : Eff ns r st st' more) (hs : pre ++ [(n, k + 1)] ++ more = keep ++ drop) (hl : Stl rw keep drop)
      (hn : ∀ f ∈ pre ++ [(n, k)], f.1 ∈ ns) (b1 : st.length ≤ 10000) (b2 : pre.length ≤ 10000) : Sp1 rw ns st (pre ++ [(n, k)]) st' keep
/-- a number of steps -/
inductive Sps (rw : Str → List R) (ns : List Str) : Nat → List PV → Frs → List PV → Frs → Prop
  | nil (st : List PV) (fr : Frs) : Sps rw ns 0 st fr st fr
  | cons {j : Nat} {st st₁ st₂ : List PV} {fr fr₁ fr₂ : Frs} (h : Sp1 rw ns st fr st₁ fr₁) (t : Sps rw ns j st₁ fr₁ st₂ fr₂) : Sps rw ns (j + 1) st fr st₂ fr₂
noncomputable def MA (p sA fA : Addr) : List (Str × PV) := [("program", .obj p), ("stack", .obj sA), ("frames", .obj fA)]
inductive Mch (H : AHeap) (a d p : Addr) (st : List PV) (fr : Frs) : Prop
  | mk (sA fA : Addr) (ha : H a = some (.inst d)) (hd : H d = some (.attrs (MA p sA fA))) (hs : H sA = some (.list st)) (hf : H fA = some (.list (frPV fr))) : Mch H a d p st fr
inductive spDraw (ps : List PV) (H : AHeap) (Q : Post) (_ : XPost) : Prop
  | mk (xs) (t) (k) (n) (a0 : ps = [.fls xs, .obj t, .int k]) (a1 : xs.length ≤ 100) (a2 : H t = some (.tape n)) (a3 : n < 2 ^ 59) (a4 : 0 < k) (a5 : ∀ r H', 0 ≤ r → r < k → H' t = some (.tape (n + 1)) → ExtB t H H' → Q (.int r) H')
inductive spWords (ps : List PV) (H : AHeap) (Q : Post) (_ : XPost) : Prop
  | mk (c) (n) (a0 : ps = [.int c, .int n]) (a1 : 0 ≤ n) (a2 : n ≤ 100) (a3 : ∀ s H', s.length = n.toNat → Ext H H' → Q (.str s) H')
inductive spValue (ps : List PV) (H : AHeap) (Q : Post) (_ : XPost) : Prop
  | mk (xs : List Int) (t : Addr) (kd : Str) (n : Nat) (a0 : ps = [.fls xs, .obj t, .str kd]) (a1 : xs.length ≤ 100) (a2 : H t = some (.tape n)) (a3 : n < 2 ^ 58) (a4 : ∀ v H', Okv v → kindS v = (if kd == "text" then "text" else "num") → H' t = some (.tape (n + 2)) → ExtB t H H' → Q v H')
inductive spKindsOf (ps : List PV) (H : AHeap) (Q : Post) (_ : XPost) : Prop
  | mk (a : Addr) (is : List Int) (a0 : ps = [.obj a]) (a1 : H a = some (.list (is.map .int))) (a2 : is.length ≤ 2) (a3 : ∀ H', Ext H H' → Q (.tup (nums is.length)) H')
inductive spNeed (ps : List PV) (H : AHeap) (Q : Post) (_ : XPost) : Prop
  | mk (a : Addr) (st : List PV) (c : Int) (a0 : ps = [.obj a, .int c]) (a1 : H a = some (.list st)) (a2 : c ≤ st.length) (a3 : Q .none H)
inductive spReckoned (ps : List PV) (H : AHeap) (Q : Post) (_ : XPost) : Prop
  | mk (v : Addr) (a b : Int) (a0 : ps = [.str "add", .obj v]) (a1 : H v = some (.list [.int a, .int b])) (a3 : Q (.int ((a + b) % 1000000000)) H)
inductive spDone (ps : List PV) (H : AHeap) (Q : Post) (_ : XPost) : Prop
  | mk (a : Addr) (r : R) (st st' : List PV) (a0 : ps = [.obj a, .tup r.row]) (a1 : H a = some (.list st)) (a2 : DoneR r st st') (a3 : st.length ≤ 10000) (a4 : ∀ c H', H c = none → H' c = some (.list st') → Ext H H' → Q (.obj c) H')
inductive spInit (ps : List PV) (H : AHeap) (Q : Post) (_ : XPost) : Prop
  | mk (a d p s : Addr) (n : Str) (st : List PV) (rw : Str → List R) (ns : List Str) (kvs) (a0 : ps = [.obj a, .obj p, .str n, .obj s]) (a1 : H a = some (.inst d)) (a2 : H d = some (.attrs [])) (a3 : Pg H p rw ns kvs) (a4 : n ∈ ns) (a5 : rw n ≠ []) (a6 : H s = some (.list st)) (a7 : ∀ H', Mch H' a d p st [(n, 0)] → ExtB d H H' → Q .none H')
inductive spSettle (ps : List PV) (H : AHeap) (Q : Post) (_ : XPost) : Prop
  | mk (a d p : Addr) (st : List PV) (keep drop : Frs) (rw : Str → List R) (ns : List Str) (kvs) (a0 : ps = [.obj a]) (a1 : Mch H a d p st (keep ++ drop)) (a2 : Pg H p rw ns kvs) (a3 : ∀ f ∈ keep ++ drop, f.1 ∈ ns) (a4 : Stl rw keep drop) (a5 : ∀ H', Mch H' a d p st keep → ExtB d H H' → Q .none H')
inductive spOver (ps : List PV) (H : AHeap) (Q : Post) (_ : XPost) : Prop
  | mk (a d p : Addr) (st : List PV) (fr : Frs) (a0 : ps = [.obj a]) (a1 : Mch H a d p st fr) (a2 : Q (.bool (fr.isEmpty)) H)
inductive spGoalOf (ps : List PV) (H : AHeap) (Q : Post) (_ : XPost) : Prop
  | mk (a d p : Addr) (r : R) (st st' : List PV) (fr : Frs) (g : Str) (rw : Str → List R) (ns : List Str) (kvs) (a0 : ps = [.obj a, .tup r.row]) (a1 : Mch H a d p st fr) (a2 : Pg H p rw ns kvs) (a3 : Eff ns r st st' [(g, 0)]) (a4 : ∀ H', Ext H H' → Q (.str g) H')
inductive spStep (ps : List PV) (H : AHeap) (Q : Post) (_ : XPost) : Prop
  | mk (a d p : Addr) (st st' : List PV) (fr fr' : Frs) (rw : Str → List R) (ns : List Str) (kvs) (a0 : ps = [.obj a]) (a1 : Mch H a d p st fr) (a2 : Pg H p rw ns kvs) (a3 : (fr = [] ∧ fr' = [] ∧ st' = st) ∨ Sp1 rw ns st fr st' fr') (a4 : ∀ H', Mch H' a d p st' fr' → ExtB d H H' → Q .none H')
inductive spRun (ps : List PV) (H : AHeap) (Q : Post) (X : XPost) : Prop
  | mk (p s : Addr) (n : Str) (st st' : List PV) (j : Nat) (fuel : Nat) (rw : Str → List R) (ns : List Str) (kvs) (a0 : ps = [.obj p, .str n, .obj s, .int fuel]) (a1 : Pg H p rw ns kvs) (a2 : n ∈ ns) (a3 : rw n ≠ []) (a4 : H s = some (.list st)) (a5 : Sps rw ns j st [(n, 0)] st' [])
      (a6 : j ≤ fuel → ∀ c H', H' c = some (.list st') → Ext H H' → Q (.obj c) H') (a7 : fuel < j → ∀ H', Ext H H' → X 5 H')
inductive spLRun (ps : List PV) (H : AHeap) (Q : Post) (X : XPost) : Prop
  | mk (p s : Addr) (n : Str) (st st' : List PV) (j : Nat) (fuel : Nat) (rw : Str → List R) (ns : List Str) (kvs) (a0 : ps = [.obj p, .str n, .obj s, .int fuel]) (a1 : Pg H p rw ns kvs) (a2 : n ∈ ns) (a3 : rw n ≠ []) (a4 : H s = some (.list st)) (a5 : Sps rw ns j st [(n, 0)] st' [])
      (a6 : j ≤ fuel → ∀ c H', H' c = some (.list st') → Ext H H' → Q (.obj c) H') (a7 : fuel < j → ∀ H', Ext H H' → Q (.str "dry") H')
inductive spTaken (ps : List PV) (H : AHeap) (Q : Post) (_ : XPost) : Prop
  | mk (k j : Nat) (a0 : ps = [.tup (nums k), .tup (nums j)]) (a1 : j ≤ k) (a2 : k ≤ 100) (a3 : Q (.tup (nums (k - j))) H)
inductive spBlockOf (ps : List PV) (H : AHeap) (Q : Post) (_ : XPost) : Prop
  | mk (p : Addr) (n : Str) (rw : Str → List R) (ns : List Str) (kvs) (a0 : ps = [.obj p, .str n]) (a1 : Pg H p rw ns kvs) (a2 : n ∈ ns) (a3 : ∀ a, Q (blk a) H)
inductive spCalled (ps : List PV) (H : AHeap) (Q : Post) (_ : XPost) : Prop
  | mk (p : Addr) (n : Str) (k : Nat) (rw : Str → List R) (ns : List Str) (kvs) (a0 : ps = [.obj p, .tup (nums k), .str n]) (a1 : Pg H p rw ns kvs) (a2 : n ∈ ns) (a3 : 1 ≤ k) (a4 : k ≤ 100) (a5 : Q (.tup (nums k)) H)
inductive spMoved (ps : List PV) (H : AHeap) (Q : Post) (_ : XPost) : Prop
  | mk (k : Nat) (a0 : ps = [.tup (nums k), .tup R.copy.row]) (a1 : 1 ≤ k) (a2 : k ≤ 100) (a3 : ∀ H', Ext H H' → Q (.tup (nums (k + 1))) H')
inductive spBehind (ps : List PV) (H : AHeap) (Q : Post) (_ : XPost) : Prop
  | mk (p : Addr) (r : R) (k k' : Nat) (rw : Str → List R) (ns : List Str) (kvs) (a0 : ps = [.obj p, .tup (nums k), .tup r.row]) (a1 : Pg H p rw ns kvs) (a2 : ∀ u ∈ r.names, u ∈ ns) (a3 : beh r k = some k') (a4 : k ≤ 100) (a5 : ∀ H', Ext H H' → Q (.tup (nums k')) H')
inductive spLooked (ps : List PV) (H : AHeap) (Q : Post) (_ : XPost) : Prop
  | mk (p : Addr) (n : Str) (ks : List Nat) (rw : Str → List R) (ns : List Str) (kvs) (a0 : ps = [.obj p, .str n]) (a1 : Pg H p rw ns kvs) (a2 : n ∈ ns) (a3 : Tl (rw n) ks) (a4 : ∀ c H', H c = none → H' c = some (.list (trPV ks)) → Ext H H' → Q (.tup [.obj c, .none]) H')
inductive spTrailOf (ps : List PV) (H : AHeap) (Q : Post) (_ : XPost) : Prop
  | mk (p : Addr) (n : Str) (ks : List Nat) (rw : Str → List R) (ns : List Str) (kvs) (a0 : ps = [.obj p, .str n]) (a1 : Pg H p rw ns kvs) (a2 : n ∈ ns) (a3 : Tl (rw n) ks) (a4 : ∀ c H', H c = none → H' c = some (.list (trPV ks)) → Ext H H' → Q (.obj c) H')
inductive spFault (ps : List PV) (H : AHeap) (Q : Post) (_ : XPost) : Prop
  | mk (p : Addr) (n : Str) (ks : List Nat) (rw : Str → List R) (ns : List Str) (kvs) (a0 : ps = [.obj p, .str n]) (a1 : Pg H p rw ns kvs) (a2 : n ∈ ns) (a3 : Tl (rw n) ks) (a4 : ∀ H', Ext H H' → Q .none H')
inductive spNamed (ps : List PV) (H : AHeap) (Q : Post) (_ : XPost) : Prop
  | mk (a : Addr) (rs : List R) (a0 : ps = [.obj a]) (a1 : H a = some (.list (rowsPV rs))) (a2 : rs.length ≤ 10) (a4 : ∀ c H', H c = none → H' c = some (.list ((namesOf rs).map .str)) → Ext H H' → Q (.obj c) H')
inductive spComeTo (ps : List PV) (H : AHeap) (Q : Post) (_ : XPost) : Prop
  | mk (p : Addr) (X Y Z : Str) (some : Int) (lv : Bool) (rw : Str → List R) (kvs) (a0 : ps = [.obj p, .str X]) (a1 : Pg H p rw [X, Y, Z] kvs) (a2 : P3 rw X Y Z some lv) (a3 : ∀ c H', H c = none → H' c = Option.some (.list [.str X, .str Y, .str Z]) → Ext H H' → Q (.obj c) H')
inductive spLetBy (ps : List PV) (H : AHeap) (Q : Post) (_ : XPost) : Prop
  | mk (p : Addr) (X Y Z : Str) (some : Int) (lv : Bool) (rw : Str → List R) (kvs) (a0 : ps = [.obj p, .str X]) (a1 : Pg H p rw [X, Y, Z] kvs) (a2 : P3 rw X Y Z some lv) (a3 : ∀ H', Ext H H' → Q (.bool true) H')
inductive spHeightBy (ps : List PV) (H : AHeap) (Q : Post) (_ : XPost) : Prop
  | mk (p k : Addr) (n : Str) (rw : Str → List R) (ns : List Str) (kvs) (a0 : ps = [.obj p, .str n, .obj k]) (a1 : Pg H p rw ns kvs) (a2 : n ∈ ns) (a3 : rw n = []) (a4 : ∀ H', Ext H H' → Q (.int 1) H')
inductive spHeight (ps : List PV) (H : AHeap) (Q : Post) (_ : XPost) : Prop
  | mk (p : Addr) (X Y Z : Str) (some : Int) (lv : Bool) (rw : Str → List R) (kvs) (a0 : ps = [.obj p, .str X]) (a1 : Pg H p rw [X, Y, Z] kvs) (a2 : P3 rw X Y Z some lv) (a3 : ∀ H', Ext H H' → Q .none H')
inductive spAlike (ps : List PV) (H : AHeap) (Q : Post) (_ : XPost) : Prop
  | mk (a b : Addr) (vs : List PV) (a0 : ps = [.obj a, .obj b]) (a1 : H a = some (.list vs)) (a2 : H b = some (.list vs)) (a3 : ∀ v ∈ vs, Okv v) (a4 : vs.length ≤ 10000) (a5 : Q (.bool true) H)
inductive spProgram (ps : List PV) (H : AHeap) (Q : Post) (_ : XPost) : Prop
  | mk (xs) (t) (n) (sm : Int) (lv : Bool) (a0 : ps = [.fls xs, .obj t, .int sm, .bool lv]) (a1 : xs.length ≤ 100) (a2 : H t = some (.tape n)) (a3 : n < 2 ^ 57) (a4 : ∀ (p q : Addr) (X Y Z : Str) (rw : Str → List R) (kvs) n' H', Pg H' p rw [X, Y, Z] kvs → P3 rw X Y Z sm lv → H' q = some (.list [.str X, .str Y, .str Z]) → n' ≤ n + 10 → H' t = some (.tape n') → ExtB t H H' → Q (.tup [.obj p, .obj q]) H')
/-- what the three blocks make of a number -/
noncomputable def res (sm : Int) (lv : Bool) : Nat → Int
  | 0 => 0
  | n + 1 => ((if lv then (n : Int) + 1 else res sm lv n) + (if lv then res sm lv n else sm)) % 1000000000
inductive spDeep (ps : List PV) (H : AHeap) (Q : Post) (_ : XPost) : Prop
  | mk (p q b : Addr) (X Y Z : Str) (rw : Str → List R) (kvs) (vs : List PV) (many : Nat) (sm : Int) (lv : Bool) (a0 : ps = [.obj p, .obj q, .obj b, .int many, .bool lv, .int sm]) (a1 : Pg H p rw [X, Y, Z] kvs) (a2 : P3 rw X Y Z sm lv) (a3 : H q = some (.list [.str X, .str Y, .str Z])) (a4 : H b = some (.list vs)) (a5 : ∀ v ∈ vs, Okv v) (a6 : vs.length ≤ 100) (a7 : many ≤ 400) (a8 : 0 ≤ sm ∧ sm < 1000000000) (a9 : ∀ H', Q (.bool true) H')
inductive spLaw (ps : List PV) (_ : AHeap) (Q : Post) (_ : XPost) : Prop
  | mk (xs) (a0 : ps = [.fls xs]) (a1 : xs.length ≤ 100) (a2 : ∀ H', Q (.bool true) H')
noncomputable def sps : List (Str × Sp) := ([("_law_draw", spDraw), ("_law_words", spWords), ("_law_value", spValue), ("kinds_of", spKindsOf), ("need", spNeed), ("reckoned", spReckoned), ("done", spDone), ("Machine.settle", spSettle), ("Machine.__init__", spInit), ("Machine.over", spOver), ("Machine.goal_of", spGoalOf), ("Machine.step", spStep), ("run", spRun), ("taken", spTaken), ("block_of", spBlockOf)] : List (Str × Sp)) ++ ([("called", spCalled), ("moved", spMoved), ("behind", spBehind), ("looked", spLooked), ("trail_of", spTrailOf), ("fault", spFault), ("named", spNamed), ("come_to", spComeTo), ("let_by", spLetBy), ("height_by", spHeightBy), ("height", spHeight), ("_law_alike", spAlike), ("_law_program", spProgram), ("_law_run", spLRun), ("_law_deep", spDeep), ("law", spLaw)] : List (Str × Sp))
noncomputable def takes01 : List (Str × List Str) := [("add", ["num", "num"]), ("mul", ["num", "num"]), ("less", ["num", "num"]), ("join", ["text", "text"]), ("long", ["text"]), ("show", ["num"])]
noncomputable def puts01 : List (Str × Str) := [("add", "num"), ("mul", "num"), ("less", "num"), ("join", "text"), ("long", "num"), ("show", "text")]
noncomputable def cons01 : List (Str × PV) := [("TAKES_rows", .fdt (takes01.map fun e => (e.1, .tup (e.2.map .str)))), ("TAKES_kinds", .fdt (takes01.map fun e => (e.1, .tup (e.2.map .str)))), ("PUTS", .fdt (puts01.map fun e => (e.1, .str e.2))), ("BOUND", .int 1000000000)]
@[irreducible] noncomputable def c01 : CallSpec := fun f => (sps.lookup f).getD fun _ _ _ _ => False
@[irreducible] noncomputable def k01 (x : Str) : Option PV := cons01.lookup x
noncomputable def g01 : Gl := ⟨c01, k01⟩
theorem U_draw {ps : List PV} {H : AHeap} {Q : Post} {X : XPost} (h : spDraw ps H Q X) : g01.C "_law_draw" ps H Q X := by
  delta g01 c01; exact h
theorem U_words {ps : List PV} {H : AHeap} {Q : Post} {X : XPost} (h : spWords ps H Q X) : g01.C "_law_words" ps H Q X := by
  delta g01 c01; exact h
theorem U_value {ps : List PV} {H : AHeap} {Q : Post} {X : XPost} (h : spValue ps H Q X) : g01.C "_law_value" ps H Q X := by
  delta g01 c01; exact h
theorem U_kindsof {ps : List PV} {H : AHeap} {Q : Post} {X : XPost} (h : spKindsOf ps H Q X) : g01.C "kinds_of" ps H Q X := by
  delta g01 c01; exact h
theorem U_need {ps : List PV} {H : AHeap} {Q : Post} {X : XPost} (h : spNeed ps H Q X) : g01.C "need" ps H Q X := by
  delta g01 c01; exact h
theorem U_reckoned {ps : List PV} {H : AHeap} {Q : Post} {X : XPost} (h : spReckoned ps H Q X) : g01.C "reckoned" ps H Q X := by
  delta g01 c01; exact h
theorem U_done {ps : List PV} {H : AHeap} {Q : Post} {X : XPost} (h : spDone ps H Q X) : g01.C "done" ps H Q X := by
  delta g01 c01; exact h
theorem U_settle {ps : List PV} {H : AHeap} {Q : Post} {X : XPost} (h : spSettle ps H Q X) : g01.C "Machine.settle" ps H Q X := by
  delta g01 c01; exact h
theorem U_init {ps : List PV} {H : AHeap} {Q : Post} {X : XPost} (h : spInit ps H Q X) : g01.C "Machine.__init__" ps H Q X := by
  delta g01 c01; exact h
theorem U_over {ps : List PV} {H : AHeap} {Q : Post} {X : XPost} (h : spOver ps H Q X) : g01.C "Machine.over" ps H Q X := by
  delta g01 c01; exact h
theorem U_goalof {ps : List PV} {H : AHeap} {Q : Post} {X : XPost} (h : spGoalOf ps H Q X) : g01.C "Machine.goal_of" ps H Q X := by
  delta g01 c01; exact h
theorem U_step {ps : List PV} {H : AHeap} {Q : Post} {X : XPost} (h : spStep ps H Q X) : g01.C "Machine.step" ps H Q X := by
  delta g01 c01; exact h
theorem U_run {ps : List PV} {H : AHeap} {Q : Post} {X : XPost} (h : spRun ps H Q X) : g01.C "run" ps H Q X := by
  delta g01 c01; exact h
theorem U_taken {ps : List PV} {H : AHeap} {Q : Post} {X : XPost} (h : spTaken ps H Q X) : g01.C "taken" ps H Q X := by
  delta g01 c01; exact h
theorem U_blockof {ps : List PV} {H : AHeap} {Q : Post} {X : XPost} (h : spBlockOf ps H Q X) : g01.C "block_of" ps H Q X := by
  delta g01 c01; exact h
theorem U_called {ps : List PV} {H : AHeap} {Q : Post} {X : XPost} (h : spCalled ps H Q X) : g01.C "called" ps H Q X := by
  delta g01 c01; exact h
theorem U_moved {ps : List PV} {H : AHeap} {Q : Post} {X : XPost} (h : spMoved ps H Q X) : g01.C "moved" ps H Q X := by
  delta g01 c01; exact h
theorem U_behind {ps : List PV} {H : AHeap} {Q : Post} {X : XPost} (h : spBehind ps H Q X) : g01.C "behind" ps H Q X := by
  delta g01 c01; exact h
theorem U_looked {ps : List PV} {H : AHeap} {Q : Post} {X : XPost} (h : spLooked ps H Q X) : g01.C "looked" ps H Q X := by
  delta g01 c01; exact h
theorem U_trailof {ps : List PV} {H : AHeap} {Q : Post} {X : XPost} (h : spTrailOf ps H Q X) : g01.C "trail_of" ps H Q X := by
  delta g01 c01; exact h
theorem U_fault {ps : List PV} {H : AHeap} {Q : Post} {X : XPost} (h : spFault ps H Q X) : g01.C "fault" ps H Q X := by
  delta g01 c01; exact h
theorem U_named {ps : List PV} {H : AHeap} {Q : Post} {X : XPost} (h : spNamed ps H Q X) : g01.C "named" ps H Q X := by
  delta g01 c01; exact h
theorem U_cometo {ps : List PV} {H : AHeap} {Q : Post} {X : XPost} (h : spComeTo ps H Q X) : g01.C "come_to" ps H Q X := by
  delta g01 c01; exact h
theorem U_letby {ps : List PV} {H : AHeap} {Q : Post} {X : XPost} (h : spLetBy ps H Q X) : g01.C "let_by" ps H Q X := by
  delta g01 c01; exact h
theorem U_heightby {ps : List PV} {H : AHeap} {Q : Post} {X : XPost} (h : spHeightBy ps H Q X) : g01.C "height_by" ps H Q X := by
  delta g01 c01; exact h
theorem U_height {ps : List PV} {H : AHeap} {Q : Post} {X : XPost} (h : spHeight ps H Q X) : g01.C "height" ps H Q X := by
  delta g01 c01; exact h
theorem U_alike {ps : List PV} {H : AHeap} {Q : Post} {X : XPost} (h : spAlike ps H Q X) : g01.C "_law_alike" ps H Q X := by
  delta g01 c01; exact h
theorem U_program {ps : List PV} {H : AHeap} {Q : Post} {X : XPost} (h : spProgram ps H Q X) : g01.C "_law_program" ps H Q X := by
  delta g01 c01; exact h
theorem U_lrun {ps : List PV} {H : AHeap} {Q : Post} {X : XPost} (h : spLRun ps H Q X) : g01.C "_law_run" ps H Q X := by
  delta g01 c01; exact h
theorem U_deep {ps : List PV} {H : AHeap} {Q : Post} {X : XPost} (h : spDeep ps H Q X) : g01.C "_law_deep" ps H Q X := by
  delta g01 c01; exact h
theorem U_law {ps : List PV} {H : AHeap} {Q : Post} {X : XPost} (h : spLaw ps H Q X) : g01.C "law" ps H Q X := by
  delta g01 c01; exact h
theorem G_takesR : g01.G "TAKES_rows" = some (.fdt (takes01.map fun e => (e.1, .tup (e.2.map .str)))) := by delta g01 k01; rfl
theorem G_takes : g01.G "TAKES_kinds" = some (.fdt (takes01.map fun e => (e.1, .tup (e.2.map .str)))) := by delta g01 k01; rfl
theorem G_puts : g01.G "PUTS" = some (.fdt (puts01.map fun e => (e.1, .str e.2))) := by delta g01 k01; rfl
theorem G_bound : g01.G "BOUND" = some (.int 1000000000) := by delta g01 k01; rfl
noncomputable def Ver (sp : Sp) (B : ASs) (nm : List Str) (np : Nat) : Prop := ∀ {ps : List PV} {H : AHeap} {Q : Post} {X : XPost}, sp ps H Q X → ps.length = np ∧ awpSs g01 B (fun _ H => Q .none H) Q (fun c _ H => X c H) (initL nm np ps) H
theorem draw_ok : Ver spDraw B_law_draw N_law_draw 3 := by
  intro ps H Q X h
  obtain ⟨xs, t, k, n, rfl, hl, ht, hn, hk, hQ⟩ := h
  have hB : (2 : Nat) ^ 59 = 576460752303423488 := by decide
  have hB' : (2 : Nat) ^ 60 = 1152921504606846976 := by decide
  refine ⟨rfl, ?_⟩
  refine O_subTape ht ?_
  refine O_storeT ht (by first | decide | lia | omega) fun H₁ h₁ e₁ => ?_
  have e : ((n : Int) + 1).toNat = n + 1 := by first | decide | lia | omega
  rw [e] at h₁
  refine O_subTape h₁ ?_
  refine O_ite (fun _ => ?_) (fun _ => ?_)
  · rename_i hle
    simp only [decide_eq_true_eq] at hle
    have hlt : n < xs.length := by first | decide | lia | omega
    refine O_subTape h₁ ?_
    refine O_subFls (itemAt_nat (n := n) (by first | decide | lia | omega) (List.getElem?_eq_getElem hlt)) ?_
    refine O_modI hk ?_
    exact hQ _ _ (mod_lt hk).1 (mod_lt hk).2 h₁ e₁
  · refine O_toF fun c H₂ hc h₂ e₂ => ?_
    refine O_itL h₂ ?_
    refine forW_ind (fun ys m H => H = H₂ ∧ (∃ zs : List Int, ys = zs.map .int) ∧ ∃ seed x4, 0 ≤ seed ∧ seed < 1000003 ∧ m = [some (.fls xs), some (.obj t), some (.int k), some (.int seed), x4]) ?_ ?_ _ _ _ ⟨rfl, ⟨_, rfl⟩, xs.length, none, by first | decide | lia | omega, by first | decide | lia | omega, rfl⟩
    · rintro m H ⟨rfl, _, seed, x4, s0, s1, rfl⟩
      refine ⟨h₂, ?_⟩
      refine O_subTape (e₂.at h₁) ?_
      refine O_subTape (e₂.at h₁) ?_
      refine O_mulI (by first | decide | lia | omega) ?_
      refine O_mulI (by first | decide | lia | omega) ?_
      refine O_modI hk ?_
      exact hQ _ _ (mod_lt hk).1 (mod_lt hk).2 (e₂.at h₁) (e₁.trans (e₂.toB t))
    · rintro y ys m H ⟨rfl, ⟨zs, hz⟩, seed, x4, s0, s1, rfl⟩
      refine ⟨h₂, fun K hK => ?_⟩
      cases zs with
      | nil => cases hz
      | cons z zs =>
        cases hz
        refine O_mulI (by first | decide | lia | omega) ?_
        exact hK _ _ ⟨rfl, ⟨zs, rfl⟩, _, some (.int z), (mod_lt (by first | decide | lia | omega)).1, (mod_lt (by first | decide | lia | omega)).2, rfl⟩
theorem cut_sub {L k : Nat} (h : k ≤ L) : cutAt L ((L : Int) - (k : Int)) = L - k := by unfold cutAt; rw [if_pos (by first | decide | lia | omega)]; first | lia | omega
theorem forR {st : PV → (Loc → AHeap → Prop) → Loc → AHeap → Prop} {N : Loc → AHeap → Prop} {n : Nat} (I : Nat → Loc → AHeap → Prop) (h0 : ∀ m H, I n m H → N m H)
    (h1 : ∀ j m H, j < n → I j m H → ∀ K : Loc → AHeap → Prop, (∀ m' H', I (j + 1) m' H' → K m' H') → st (.int j) K m H) (m : Loc) (H : AHeap) (hi : I 0 m H) :
    forW (fun _ => True) st N ((List.range n).map fun (i : Nat) => PV.int i) m H := by
  refine forW_ind (fun rest m H => ∃ j, j ≤ n ∧ rest = ((List.range n).drop j).map (fun (i : Nat) => PV.int i) ∧ I j m H) ?_ ?_ _ _ _ ⟨0, by first | decide | lia | omega, rfl, hi⟩
  · rintro m H ⟨j, hj, hr, h⟩
    have hl := congrArg List.length hr
    simp at hl
    have : j = n := by first | decide | lia | omega
    subst this
    exact ⟨trivial, h0 _ _ h⟩
  · rintro x xs m H ⟨j, hj, hr, h⟩
    refine ⟨trivial, fun K hK => ?_⟩
    have hjl : j < n := by
      apply Classical.byContradiction
      intro q
      rw [List.drop_eq_nil_of_le (by simp; first | lia | omega)] at hr
      cases hr
    have hd : (List.range n).drop j = j :: (List.range n).drop (j + 1) := by
      rw [List.drop_eq_getElem_cons (by simpa using hjl)]; simp
    rw [hd] at hr
    cases hr
    exact h1 j m H hjl h K fun m' H' h' => hK _ _ ⟨j + 1, by first | decide | lia | omega, rfl, h'⟩
theorem W_cut {g : Gl} {N : NPost} {R : Post} {X : SXPost} {m : Loc} {H : AHeap} {s : AS} {ss : ASs} (P : NPost) (h1 : ∀ K : NPost, (∀ m H, P m H → K m H) → awpS g s K R X m H) (h2 : ∀ m H, P m H → awpSs g ss N R X m H) :
    awpSs g (.cons s ss) N R X m H := h1 _ h2
theorem ExtB.over {H H₁ H₂ : AHeap} {t c : Addr} (hc : H c = none) (e : ExtB t H H₁) (b : ExtB c H₁ H₂) : ExtB t H H₂ := fun x o n h => b x o (ne_of h hc) (e x o n h)
theorem cut_nat {L n : Nat} {z : Int} (hz : z = n) (h : n ≤ L) : cutAt L z = n := by subst hz; unfold cutAt; rw [if_pos (by first | decide | lia | omega)]; first | lia | omega
theorem okv_num {v : PV} (h : Okv v) (k : kindS v = "num") : ∃ i, v = .int i ∧ 0 ≤ i ∧ i < 1000000000 := by
  rcases h with h | ⟨s, rfl, _⟩
  · exact h
  · exact absurd (show ("text" : Str) = "num" from k) (by decide +kernel)
theorem Ext.none_of {H H' : AHeap} {c : Addr} (e : Ext H H') (h : H' c = none) : H c = none := by
  cases q : H c with
  | none => rfl
  | some v => rw [e.at q] at h; cases h
end Mine
end
section
open PySem PySem.W PySem.Calls PyProof.Rows
namespace Mine
set_option autoImplicit false

theorem words_ok : Ver spWords B_law_words N_law_words 2 := by
  intro ps H Q X h
  have hL : LIM = 1048576 := rfl
  obtain ⟨c, n, rfl, n0, n1, hQ⟩ := h
  refine ⟨rfl, ?_⟩
  refine O_addS' (by decide +kernel) fun S hS => ?_
  have hl : S.length = 94 := by rw [hS]; decide +kernel
  clear hS
  refine O_recvS ?_
  refine O_range (by first | decide | lia | omega) ?_
  refine compW_ind (fun rest acc H' => H' = H ∧ (∃ ks : List Nat, rest = ks.map (fun (i : Nat) => PV.int i) ∧ ∀ k ∈ ks, k < 1000) ∧ ∃ ss : List Str, acc = ss.map .str ∧ (∀ s ∈ ss, s.length = 1) ∧ ss.length + rest.length = n.toNat) ?_ ?_ _ _ _
    ⟨rfl, ⟨List.range n.toNat, rfl, fun k hk => by rw [List.mem_range] at hk; first | lia | omega⟩, [], rfl, by simp, by simp⟩
  · rintro acc H' ⟨rfl, _, ss, rfl, h1, h2⟩
    refine ⟨trivial, fun a H₁ ha h₁ e₁ => ?_⟩
    have h3 : ss.length = n.toNat := by simpa using h2
    refine O_join h₁ (by decide +kernel) (by rw [sum_ones ss h1]; first | lia | omega) ?_
    exact hQ _ _ (by rw [join_len (by decide +kernel) ss h1, h3]) e₁
  · rintro x xs acc H' ⟨rfl, ⟨ks, hk, hks⟩, ss, rfl, h1, h2⟩
    refine ⟨trivial, fun K hK => ?_⟩
    cases ks with
    | nil => cases hk
    | cons k ks =>
      cases hk
      have hk1 := hks k (by simp)
      refine O_divI (by first | decide | lia | omega) (by first | decide | lia | omega) ?_
      refine O_mulI (by first | decide | lia | omega) ?_
      obtain ⟨y, hy, ly⟩ := sign_at (s := S) (i := (c / ((k : Int) + 1) + 5 * (k : Int)) % 94) (mod_lt (by first | decide | lia | omega)).1 (by rw [hl]; exact (mod_lt (by first | decide | lia | omega)).2)
      refine O_subS (by first | decide | lia | omega) hy ?_
      refine hK _ _ ⟨rfl, ⟨ks, rfl, fun k hk => hks k (by simp [hk])⟩, ss ++ [y], by simp, fun s hs => ?_, by simp at h2 ⊢; first | lia | omega⟩
      rcases List.mem_append.mp hs with hs | hs
      · exact h1 s hs
      · rw [List.mem_singleton.mp hs]; exact ly
theorem value_ok : Ver spValue B_law_value N_law_value 3 := by
  intro ps H Q X h
  obtain ⟨xs, t, kd, n, rfl, hx, ht, hn, hQ⟩ := h
  have hB : (2 : Nat) ^ 58 = 288230376151711744 := by decide
  have hB' : (2 : Nat) ^ 59 = 576460752303423488 := by decide
  refine ⟨rfl, ?_⟩
  refine U_draw ?_
  refine ⟨xs, t, _, n, rfl, hx, ht, by first | exact bd0 hn (by decide) | exact bd1 hn (by decide) | exact bd2 hn (by assumption) (by decide) | exact bd3 hn (by assumption) (by decide) | decide | lia | omega, by first | exact bd0 hn (by decide) | exact bd1 hn (by decide) | exact bd2 hn (by assumption) (by decide) | exact bd3 hn (by assumption) (by decide) | decide | lia | omega, fun cell H₁ c0 c1 h₁ e₁ => ?_⟩
  refine U_draw ?_
  refine ⟨xs, t, _, n + 1, rfl, hx, h₁, by first | exact bd0 hn (by decide) | exact bd1 hn (by decide) | exact bd2 hn (by assumption) (by decide) | exact bd3 hn (by assumption) (by decide) | decide | lia | omega, by first | exact bd0 hn (by decide) | exact bd1 hn (by decide) | exact bd2 hn (by assumption) (by decide) | exact bd3 hn (by assumption) (by decide) | decide | lia | omega, fun way H₂ w0 w1 h₂ e₂ => ?_⟩
  have e₁₂ := e₁.trans e₂
  have word : ∀ (k : Int), 0 ≤ k → k ≤ 60 → (kd == "text") = true → g01.C "_law_words" [.int cell, .int k] H₂ Q (fun c H => X c H) := fun k k0 k1 hk => by
    refine U_words ?_
    refine ⟨cell, k, rfl, k0, by first | decide | lia | omega, fun s H₃ hs e₃ => ?_⟩
    exact hQ _ _ (.inr ⟨s, rfl, by first | decide | lia | omega⟩) (by rw [hk]; rfl) (e₃.at h₂) (e₁₂.trans (e₃.toB t))
  have num : ∀ (k : Int), 0 ≤ k → k < 1000000000 → ¬ (kd == "text") = true → Q (.int k) H₂ := fun k k0 k1 hk => by
    exact hQ _ _ (.inl ⟨k, rfl, k0, k1⟩) (by rw [if_neg hk]; rfl) h₂ e₁₂
  refine O_ite (fun _ => ?_) (fun _ => ?_)
  · rename_i hk
    refine O_ite (fun _ => ?_) (fun _ => ?_)
    · have := mod_lt (a := cell) (k := 3) (by first | decide | lia | omega)
      exact word _ (by first | decide | lia | omega) (by first | decide | lia | omega) hk
    · have := mod_lt (a := cell / 94) (k := 8) (by first | decide | lia | omega)
      exact word _ (by first | decide | lia | omega) (by first | decide | lia | omega) hk
  · rename_i hk
    refine O_ite (fun _ => ?_) (fun _ => ?_)
    · have := mod_lt (a := cell) (k := 3) (by first | decide | lia | omega)
      exact num _ (by first | decide | lia | omega) (by first | decide | lia | omega) hk
    · refine O_ite (fun _ => ?_) (fun _ => ?_)
      · have := mod_lt (a := cell) (k := 4) (by first | decide | lia | omega)
        exact num _ (by first | decide | lia | omega) (by first | decide | lia | omega) hk
      · exact num _ c0 c1 hk
end Mine
end
section
open PySem PySem.W PySem.Calls PyProof.Rows
namespace Mine
set_option autoImplicit false

theorem Pg.ext {H H' : AHeap} {p : Addr} {rw' : Str → List R} {ns : List Str} {kvs} (h : Pg H p rw' ns kvs) (e : Ext H H') : Pg H' p rw' ns kvs :=
  ⟨e.at h.ha, fun n hn => let ⟨a, h1, h2⟩ := h.at' n hn; ⟨a, h1, e.at h2⟩, h.sm, h.cl⟩
theorem Pg.stepB {H H' : AHeap} {p d : Addr} {o : AObj} {rw' : Str → List R} {ns : List Str} {kvs} (h : Pg H p rw' ns kvs) (hd : H d = some o) (n1 : ∀ xs, o ≠ .list xs) (n2 : ∀ xs, o ≠ .dict xs) (e : ExtB d H H') : Pg H' p rw' ns kvs :=
  ⟨e.at (fun q => by have h1 := h.ha; rw [q, hd] at h1; exact n2 _ (Option.some.inj h1)) h.ha, fun n hn => let ⟨a, h1, h2⟩ := h.at' n hn; ⟨a, h1, e.at (fun q => by rw [q, hd] at h2; exact n1 _ (Option.some.inj h2)) h2⟩, h.sm, h.cl⟩
theorem Pg.stepA {H H' : AHeap} {p d : Addr} {kvs'} {rw' : Str → List R} {ns : List Str} {kvs} (h : Pg H p rw' ns kvs) (hd : H d = some (.attrs kvs')) (e : ExtB d H H') : Pg H' p rw' ns kvs :=
  h.stepB hd (fun _ q => nomatch q) (fun _ q => nomatch q) e
theorem MA_p (p s f : Addr) : dget (MA p s f) "program" = some (.obj p) := by kernel_rfl
theorem MA_s (p s f : Addr) : dget (MA p s f) "stack" = some (.obj s) := by kernel_rfl
theorem MA_f (p s f : Addr) : dget (MA p s f) "frames" = some (.obj f) := by kernel_rfl
theorem MA_over (p s f : Addr) : dget (MA p s f) "over" = none := by kernel_rfl
theorem MA_step (p s f : Addr) : dget (MA p s f) "step" = none := by kernel_rfl
theorem MA_settle (p s f : Addr) : dget (MA p s f) "settle" = none := by kernel_rfl
theorem MA_goal (p s f : Addr) : dget (MA p s f) "goal_of" = none := by kernel_rfl
theorem MA_fs (p s f f' : Addr) : dset (MA p s f) "frames" (.obj f') = MA p s f' := by kernel_rfl
theorem MA_ss (p s f s' : Addr) : dset (MA p s f) "stack" (.obj s') = MA p s' f := by kernel_rfl
theorem last_at {α : Type} (xs : List α) (x : α) : itemAt (xs ++ [x]) (-1) = some x := by
  unfold itemAt
  rw [if_neg (by decide), if_pos (by rw [List.length_append, List.length_singleton]; first | lia | omega), List.length_append, List.length_singleton, show ((-1 : Int) + ((xs.length + 1 : Nat) : Int)).toNat = xs.length by first | lia | omega]
  simp
theorem cut_last {α : Type} (xs : List α) (x : α) : (xs ++ [x]).take (cutAt (xs ++ [x]).length (-1)) = xs := by
  unfold cutAt
  rw [if_neg (by decide), List.length_append, List.length_singleton, show ((-1 : Int) + ((xs.length + 1 : Nat) : Int)).toNat = xs.length by first | lia | omega]
  simp
theorem fr_app (a b : Frs) : frPV (a ++ b) = frPV a ++ frPV b := by unfold frPV; rw [List.map_append]
theorem fr_one (f : Str × Nat) : frPV [f] = [.tup [.str f.1, .int f.2]] := rfl
theorem rows_len (rs : List R) : (rowsPV rs).length = rs.length := by unfold rowsPV; rw [List.length_map]

theorem need_ok : Ver spNeed B_need N_need 2 := by
  intro ps H Q X h
  obtain ⟨a, st, c, rfl, ha, hc, hQ⟩ := h
  refine ⟨rfl, ?_⟩
  refine O_lenL ha ?_
  refine I_neg (by simpa using hc) ?_
  exact hQ
theorem reckoned_ok : Ver spReckoned B_reckoned N_reckoned 2 := by
  intro ps H Q X h
  obtain ⟨v, a, b, rfl, hv, hQ⟩ := h
  refine ⟨rfl, ?_⟩
  refine O_subL hv rfl ?_
  refine O_subL hv rfl ?_
  refine O_glob G_bound ?_
  exact hQ
theorem kindsof_ok : Ver spKindsOf B_kinds_of N_kinds_of 1 := by
  intro ps H Q X h
  have hL : LIM = 1048576 := rfl
  obtain ⟨a, is, rfl, ha, hl, hQ⟩ := h
  refine ⟨rfl, ?_⟩
  refine fun c H₁ hc h₁ e₁ => ?_
  have hac := ne_of ha hc
  refine O_itL (e₁.at ha) ?_
  refine forW_ind (fun rest m H' => Ex3 fun (us vs : List Int) (x : Option PV) => An6 (is = us ++ vs) (rest = vs.map .int) (m = [some (.obj a), some (.obj c), x]) (H' c = some (.list (nums us.length))) (H' a = some (.list (is.map .int))) (Ext H H')) ?_ ?_ _ _ _ ⟨[], is, none, rfl, rfl, rfl, h₁, e₁.at ha, e₁⟩
  · rintro m H' ⟨us, vs, x, hs, hr', rfl, c', a', e'⟩
    have : vs = [] := by cases vs with | nil => rfl | cons _ _ => cases hr'
    subst this
    rw [List.append_nil] at hs
    subst hs
    refine ⟨a', ?_⟩
    refine O_tupL c' ?_
    exact hQ H' e'
  · rintro y ys m H' ⟨us, vs, x, hs, hr', rfl, c', a', e'⟩
    cases vs with
    | nil => cases hr'
    | cons i vs =>
    cases hr'
    refine ⟨a', fun K hK => ?_⟩
    have hul : us.length < 2 := by have := congrArg List.length hs; simp at this; first | lia | omega
    refine O_recv c' rfl ?_
    refine O_append c' (by unfold nums; rw [List.length_map, List.length_replicate]; first | lia | omega) fun H₂ h₂ e₂ => ?_
    refine hK _ _ ⟨us ++ [i], vs, _, by rw [hs]; simp, rfl, rfl, ?_, e₂.at hac a', ExtB.fresh hc e' e₂⟩
    rw [h₂, List.length_append, List.length_singleton]
    unfold nums
    rw [List.replicate_succ', List.map_append]; rfl
theorem over_ok : Ver spOver B_Machine_over N_Machine_over 1 := by
  intro ps H Q X h
  obtain ⟨a, d, p, st, fr, rfl, ⟨sA, fA, ha, hd, hs, hf⟩, hQ⟩ := h
  refine ⟨rfl, ?_⟩
  refine O_attr ha hd (MA_f ..) ?_
  refine O_lenL hf ?_
  have : (((frPV fr).length : Int) == 0) = fr.isEmpty := by
    cases fr with
    | nil => rfl
    | cons f fr => rfl
  rw [← this] at hQ
  exact hQ
set_option maxHeartbeats 1000000 in
theorem settle_ok : Ver spSettle B_Machine_settle N_Machine_settle 1 := by
  intro ps H Q X h
  obtain ⟨a, d, p, st, keep, drop, rw', ns, kvs, rfl, hm, hp, hn, ⟨hfi, hno⟩, hQ⟩ := h
  refine ⟨rfl, ?_⟩
  have hd₀ : ∃ o, H d = some (.attrs o) := by obtain ⟨_, _, _, hd, _⟩ := hm; exact ⟨_, hd⟩
  obtain ⟨o₀, hd₀⟩ := hd₀
  refine ⟨fun z m H' => Ex1 fun (drop : Frs) => An6 (z = drop.length) (m = [some (.obj a)]) (Mch H' a d p st (keep ++ drop)) (∀ f ∈ keep ++ drop, f.1 ∈ ns) (∀ f ∈ drop, f.2 = (rw' f.1).length) (ExtB d H H'), ⟨_, drop, rfl, rfl, hm, hn, hfi, fun _ _ _ h => h⟩, ?_⟩
  clear hfi hn hm
  rintro z m H' ⟨drop, rfl, rfl, ⟨sA, fA, ha, hd, hs, hf⟩, hn, hfin, e'⟩
  have hp' := hp.stepA hd₀ e'
  refine O_attr ha hd (MA_f ..) ?_
  refine O_lenL hf ?_
  have look : ∀ (fs : Frs) (f : Str × Nat), keep ++ drop = fs ++ [f] → ∃ b, dget kvs f.1 = some (blk b) ∧ H' b = some (.list (rowsPV (rw' f.1))) ∧ itemAt (frPV (keep ++ drop)) (-1) = some (.tup [.str f.1, .int f.2]) ∧ 0 < (frPV (keep ++ drop)).length := fun fs f h => by
    obtain ⟨b, h1, h2⟩ := hp'.at' f.1 (hn f (by rw [h]; simp))
    exact ⟨b, h1, h2, by rw [h, fr_app, fr_one]; exact last_at _ _, by rw [h, fr_app]; simp [frPV]⟩
  rcases List.eq_nil_or_concat drop with rfl | ⟨ds, f, rfl⟩
  · rw [List.append_nil] at hn hf look
    rcases List.eq_nil_or_concat keep with rfl | ⟨fs, f, rfl⟩
    · exact hQ H' ⟨sA, fA, ha, hd, hs, hf⟩ e'
    · rw [List.concat_eq_append] at *
      obtain ⟨b, h1, h2, h3, h4⟩ := look fs f rfl
      refine I_pos (by simpa using h4) ?_
      refine O_attr ha hd (MA_f ..) ?_
      refine O_subL hf h3 ?_
      refine O_attr ha hd (MA_p ..) ?_
      refine O_attr ha hd (MA_f ..) ?_
      refine O_subL hf h3 ?_
      refine O_subD hp'.ha h1 ?_
      refine O_lenL h2 ?_
      have hne := hno f (by simp)
      refine I_neg (by rw [rows_len]; simp; exact fun q => hne (by exact_mod_cast q)) ?_
      exact hQ H' ⟨sA, fA, ha, hd, hs, hf⟩ e'
  · rw [List.concat_eq_append] at *
    obtain ⟨b, h1, h2, h3, h4⟩ := look (keep ++ ds) f (by rw [List.append_assoc])
    refine I_pos (by simpa using h4) ?_
    refine O_attr ha hd (MA_f ..) ?_
    refine O_subL hf h3 ?_
    refine O_attr ha hd (MA_p ..) ?_
    refine O_attr ha hd (MA_f ..) ?_
    refine O_subL hf h3 ?_
    refine O_subD hp'.ha h1 ?_
    refine O_lenL h2 ?_
    have heq := hfin f (by simp)
    refine I_pos (by rw [rows_len, heq]; simp) ?_
    refine O_attr ha hd (MA_f ..) ?_
    refine O_toL hf fun c H₁ hc h₁ e₁ => ?_
    refine O_sattr (e₁.at ha) (e₁.at hd) (Nat.le_of_ble_eq_true rfl) fun H₂ h₂ e₂ => ?_
    rw [MA_fs] at h₂
    have hne : ∀ {x : Addr} {o : AObj}, H' x = some o → (∀ k, o ≠ .attrs k) → x ≠ d := fun h n q => by rw [q, hd] at h; exact n _ (Option.some.inj h).symm
    refine ⟨ds.length, by simp, ds, rfl, rfl, ⟨sA, c, e₂.at (hne ha (fun _ q => nomatch q)) (e₁.at ha), h₂, e₂.at (hne hs (fun _ q => nomatch q)) (e₁.at hs), ?_⟩, fun x hx => hn x (by rw [← List.append_assoc]; exact List.mem_append.mpr (.inl hx)), fun x hx => hfin x (List.mem_append.mpr (.inl hx)), ?_⟩
    · rw [← List.append_assoc, fr_app, fr_one, cut_last] at h₁
      exact e₂.at (Ne.symm (ne_of hd hc)) h₁
    · exact fun x v hx h => e₂.at hx (e₁.at (e'.at hx h))
end Mine
end
section
open PySem PySem.W PySem.Calls PyProof.Rows
namespace Mine
set_option autoImplicit false

theorem at_len {α : Type} {xs ys : List α} {x : α} {i : Int} (hi : i = xs.length) : itemAt (xs ++ x :: ys) i = some x := itemAt_nat hi (by simp)
theorem cut_at {α : Type} {xs ys : List α} {i : Int} (hi : i = xs.length) : (xs ++ ys).take (cutAt (xs ++ ys).length i) = xs ∧ (xs ++ ys).drop (cutAt (xs ++ ys).length i) = ys := by
  rw [cut_nat hi (by simp)]; simp
theorem tk_add : dget (takes01.map fun e => (e.1, PV.tup (e.2.map .str))) "add" = some (.tup (nums 2)) := by kernel_rfl
theorem done_ok : Ver spDone B_done N_done 2 := by
  intro ps H Q X h
  have hL : LIM = 1048576 := rfl
  obtain ⟨a, r, st, st', rfl, ha, hr, hl, hQ⟩ := h
  refine ⟨rfl, ?_⟩
  cases hr with
  | num i st =>
    refine O_lenL ha ?_
    refine O_listL ha fun c H₁ hc h₁ e₁ => ?_
    refine fun d H₂ hd h₂ e₂ => ?_
    refine O_addL (e₂.at h₁) h₂ (by rw [List.length_singleton]; first | lia | omega) fun f H₃ hf h₃ e₃ => ?_
    exact hQ f H₃ (e₁.none_of (e₂.none_of hf)) h₃ ((e₁.trans e₂).trans e₃)
  | copy st v =>
    refine O_lenL ha ?_
    refine U_need ⟨a, _, _, rfl, ha, by rw [List.length_append, List.length_singleton]; first | lia | omega, ?_⟩
    refine O_listL ha fun c H₁ hc h₁ e₁ => ?_
    refine O_subL (e₁.at ha) (at_len (by rw [List.length_append, List.length_singleton]; first | lia | omega)) ?_
    refine fun d H₂ hd h₂ e₂ => ?_
    refine O_addL (e₂.at h₁) h₂ (by rw [List.length_singleton]; first | lia | omega) fun f H₃ hf h₃ e₃ => ?_
    exact hQ f H₃ (e₁.none_of (e₂.none_of hf)) (by rw [h₃, List.append_assoc]; rfl) ((e₁.trans e₂).trans e₃)
  | add st x y =>
    refine O_lenL ha ?_
    refine O_glob G_takesR ?_
    refine O_subF tk_add ?_
    refine U_need ⟨a, _, _, rfl, ha, by rw [List.length_append]; unfold nums; rw [List.length_map, List.length_replicate]; simp; first | lia | omega, ?_⟩
    have hi : (((st ++ [PV.int x, PV.int y]).length : Nat) : Int) - ((nums 2).length : Int) = st.length := by rw [List.length_append]; unfold nums; rw [List.length_map, List.length_replicate]; simp
    refine O_fromL ha fun c H₁ hc h₁ e₁ => ?_
    rw [(cut_at hi).2] at h₁
    refine O_listL h₁ fun d H₂ hd h₂ e₂ => ?_
    refine U_kindsof ⟨d, [x, y], rfl, h₂, Nat.le_refl _, fun H₃ e₃ => ?_⟩
    refine O_neT (eq_strs _ _) ?_
    have e13 := (e₁.trans e₂).trans e₃
    refine O_toL (e13.at ha) fun f H₄ hf h₄ e₄ => ?_
    rw [(cut_at hi).1] at h₄
    refine O_listL h₄ fun f' H₅ hf' h₅ e₅ => ?_
    refine U_reckoned ⟨d, x, y, rfl, e₅.at (e₄.at (e₃.at h₂)), ?_⟩
    refine fun f₂ H₆ hf₂ h₆ e₆ => ?_
    refine O_addL (e₆.at h₅) h₆ (by rw [List.length_singleton]; rw [List.length_append] at hl; first | lia | omega) fun w H₇ hw h₇ e₇ => ?_
    exact hQ w H₇ (e13.none_of (e₄.none_of (e₅.none_of (e₆.none_of hw)))) h₇ ((((e13.trans e₄).trans e₅).trans e₆).trans e₇)
theorem goalof_ok : Ver spGoalOf B_Machine_goal_of N_Machine_goal_of 2 := by
  intro ps H Q X h
  obtain ⟨a, d, p, r, st, st', fr, g, rw', ns, kvs, rfl, ⟨sA, fA, ha, hd, hs, hf⟩, hp, he, hQ⟩ := h
  refine ⟨rfl, ?_⟩
  have key : ∀ n ∈ ns, hasKey kvs n = true := fun n hn => by obtain ⟨b, h1, _⟩ := hp.at' n hn; unfold hasKey; rw [h1]; rfl
  generalize hmo : [(g, 0)] = more at he
  cases he with
  | pl => cases hmo
  | call hn =>
    cases hmo
    refine O_attr ha hd (MA_p ..) ?_
    refine O_niD hp.ha ?_
    rw [key _ hn]
    exact hQ H (Ext.refl _)
  | @ifT n m st₀ c hc hn =>
    cases hmo
    refine O_attr ha hd (MA_s ..) ?_
    refine O_lenL hs ?_
    refine I_neg (by simp; first | lia | omega) ?_
    refine O_attr ha hd (MA_s ..) ?_
    refine O_fromL hs fun b H₁ hb h₁ e₁ => ?_
    rw [show (st' ++ [PV.int c]).drop (cutAt (st' ++ [PV.int c]).length (-1)) = [c].map .int by
      unfold cutAt
      rw [if_neg (by decide), List.length_append, List.length_singleton, show ((-1 : Int) + ((st'.length + 1 : Nat) : Int)).toNat = st'.length by first | lia | omega]
      simp] at h₁
    refine U_kindsof ⟨b, [c], rfl, h₁, by simp, fun H₂ e₂ => ?_⟩
    refine O_neT (eq_strs _ ["num"]) ?_
    have e12 := e₁.trans e₂
    refine O_attr (e12.at ha) (e12.at hd) (MA_s ..) ?_
    refine O_subL (e12.at hs) (last_at _ _) ?_
    refine I_neg (by simpa using hc) ?_
    refine O_attr (e12.at ha) (e12.at hd) (MA_p ..) ?_
    refine O_niD (e12.at hp.ha) ?_
    rw [key _ hn]
    exact hQ H₂ e12
  | @ifF n m st₀ hn =>
    cases hmo
    refine O_attr ha hd (MA_s ..) ?_
    refine O_lenL hs ?_
    refine I_neg (by simp; first | lia | omega) ?_
    refine O_attr ha hd (MA_s ..) ?_
    refine O_fromL hs fun b H₁ hb h₁ e₁ => ?_
    rw [show (st' ++ [PV.int 0]).drop (cutAt (st' ++ [PV.int 0]).length (-1)) = [(0 : Int)].map .int by
      unfold cutAt
      rw [if_neg (by decide), List.length_append, List.length_singleton, show ((-1 : Int) + ((st'.length + 1 : Nat) : Int)).toNat = st'.length by first | lia | omega]
      simp] at h₁
    refine U_kindsof ⟨b, [0], rfl, h₁, by simp, fun H₂ e₂ => ?_⟩
    refine O_neT (eq_strs _ ["num"]) ?_
    have e12 := e₁.trans e₂
    refine O_attr (e12.at ha) (e12.at hd) (MA_s ..) ?_
    refine O_subL (e12.at hs) (last_at _ _) ?_
    refine O_attr (e12.at ha) (e12.at hd) (MA_p ..) ?_
    refine O_niD (e12.at hp.ha) ?_
    rw [key _ hn]
    exact hQ H₂ e12
end Mine
end
section
open PySem PySem.W PySem.Calls PyProof.Rows
namespace Mine
set_option autoImplicit false

theorem init_ok : Ver spInit B_Machine___init__ N_Machine___init__ 4 := by
  intro ps H Q X h
  obtain ⟨a, d, p, s, n, st, rw', ns, kvs, rfl, ha, hd, hp, hn, hne, hs, hQ⟩ := h
  refine ⟨rfl, ?_⟩
  obtain ⟨b, h1, h2⟩ := hp.at' n hn
  have key : hasKey kvs n = true := by unfold hasKey; rw [h1]; rfl
  have had : a ≠ d := fun q => by rw [q, hd] at ha; cases ha
  have hsd : s ≠ d := fun q => by rw [q, hd] at hs; cases hs
  refine O_niD hp.ha ?_
  rw [key]
  refine O_sattr ha hd (Nat.le_of_ble_eq_true rfl) fun H₁ h₁ e₁ => ?_
  refine O_listL (e₁.at hsd hs) fun c H₂ hc h₂ e₂ => ?_
  have hcd : c ≠ d := Ne.symm (ne_of h₁ hc)
  refine O_sattr (e₂.at (e₁.at had ha)) (e₂.at h₁) (Nat.le_of_ble_eq_true rfl) fun H₃ h₃ e₃ => ?_
  refine fun f H₄ hf h₄ e₄ => ?_
  have hfd : f ≠ d := Ne.symm (ne_of h₃ hf)
  have a₄ := e₄.at (e₃.at had (e₂.at (e₁.at had ha)))
  refine O_sattr a₄ (e₄.at h₃) (Nat.le_of_ble_eq_true rfl) fun H₅ h₅ e₅ => ?_
  have hma : H₅ d = some (.attrs (MA p c f)) := by rw [h₅]; exact congrArg (fun x => some (AObj.attrs x)) (by kernel_rfl)
  have x₅ : ExtB d H H₅ := fun x v hx h => e₅.at hx (e₄.at (e₃.at hx (e₂.at (e₁.at hx h))))
  have a₅ := x₅.at had ha
  refine O_umeth a₅ hma (MA_settle ..) ?_
  refine U_settle ⟨a, d, p, st, [(n, 0)], [], rw', ns, kvs, rfl, ⟨c, f, a₅, hma, e₅.at hcd (e₄.at (e₃.at hcd h₂)), e₅.at hfd h₄⟩, hp.stepA hd x₅, fun x hx => ?_, ⟨fun _ h => (nomatch h), fun x hx => ?_⟩, fun H₆ hm e₆ => ?_⟩
  · rw [List.append_nil] at hx; rw [List.mem_singleton.mp hx]; exact hn
  · cases hx
    exact fun q => hne (List.length_eq_zero_iff.mp q.symm)
  · exact hQ H₆ hm (fun x v hx h => e₆.at hx (x₅.at hx h))

set_option maxHeartbeats 1000000 in
theorem step_ok : Ver spStep B_Machine_step N_Machine_step 1 := by
  intro ps H Q X h
  have hL : LIM = 1048576 := rfl
  obtain ⟨a, d, p, st, st', fr, fr', rw', ns, kvs, rfl, hm, hp, h3, hQ⟩ := h
  refine ⟨rfl, ?_⟩
  have hm₀ := hm
  obtain ⟨sA, fA, ha, hd, hs, hf⟩ := hm
  refine O_umeth ha hd (MA_over ..) ?_
  refine U_over ⟨a, d, p, st, fr, rfl, hm₀, ?_⟩
  rcases h3 with ⟨rfl, rfl, rfl⟩ | h3
  · exact hQ H hm₀ (fun _ _ _ h => h)
  obtain ⟨hr, he, hs', hl, hn, b1, b2⟩ := h3
  rename_i pre drop more n k r
  rw [show (pre ++ [(n, k)]).isEmpty = false by cases pre <;> rfl]
  obtain ⟨b, h1, h2⟩ := hp.at' n (hn (n, k) (by simp))
  have hla : itemAt (frPV (pre ++ [(n, k)])) (-1) = some (.tup [.str n, .int k]) := by rw [fr_app, fr_one]; exact last_at _ _
  refine O_attr ha hd (MA_f ..) ?_
  refine O_subL hf hla ?_
  refine O_attr ha hd (MA_f ..) ?_
  refine O_subL hf hla ?_
  refine O_attr ha hd (MA_p ..) ?_
  refine O_subD hp.ha h1 ?_
  refine O_subL h2 (itemAt_nat rfl (show (rowsPV (rw' n))[k]? = some (.tup r.row) by unfold rowsPV; rw [List.getElem?_map, hr]; rfl)) ?_
  refine O_attr ha hd (MA_s ..) ?_
  refine fun mo H₁ hmo h₁ e₁ => ?_
  have ml : more.length ≤ 1 := by cases he <;> simp
  refine W_cut (fun m H' => Ex2 fun (s₁ m₁ : Addr) => An4 (m = [some (.obj a), some (.str n), some (.int k), some (.tup r.row), some (.obj s₁), some (.obj m₁)]) (H' s₁ = some (.list st')) (H' m₁ = some (.list (frPV more))) (Ext H H')) ?_ ?_
  · intro K hK
    have hm₁ : Mch H₁ a d p st (pre ++ [(n, k)]) := ⟨sA, fA, e₁.at ha, e₁.at hd, e₁.at hs, e₁.at hf⟩
    cases he with
    | @pl r _ _ hd' =>
      have go : awpS g01 (.assign 4 ⟨105, 12, 105, 17⟩ (.call "done" (.cons (.var 4 ⟨105, 25, 105, 30⟩) (.cons (.var 3 ⟨105, 32, 105, 35⟩) .nil)) ⟨105, 20, 105, 24⟩ ⟨105, 20, 105, 36⟩) ⟨105, 12, 105, 36⟩) K Q (fun c _ H => X c H) [some (.obj a), some (.str n), some (.int k), some (.tup r.row), some (.obj sA), some (.obj mo)] H₁ :=
        U_done ⟨sA, r, st, st', rfl, e₁.at hs, hd', b1, fun c H' hc h' e' => hK _ _ ⟨c, mo, rfl, h', e'.at h₁, e₁.trans e'⟩⟩
      cases hd' <;> exact go
    | call hg =>
      refine O_umeth (e₁.at ha) (e₁.at hd) (MA_goal ..) ?_
      refine U_goalof ⟨a, d, p, _, st, st, _, _, rw', ns, kvs, rfl, hm₁, hp.ext e₁, .call hg, fun H₂ e₂ => ?_⟩
      refine fun m₁ H₃ hm' h₃ e₃ => ?_
      exact hK _ _ ⟨sA, m₁, rfl, e₃.at (e₂.at (e₁.at hs)), h₃, (e₁.trans e₂).trans e₃⟩
    | ifT hc hg =>
      refine O_umeth (e₁.at ha) (e₁.at hd) (MA_goal ..) ?_
      refine U_goalof ⟨a, d, p, _, _, st', _, _, rw', ns, kvs, rfl, hm₁, hp.ext e₁, .ifT hc hg, fun H₂ e₂ => ?_⟩
      refine fun m₁ H₃ hm' h₃ e₃ => ?_
      have e13 := (e₁.trans e₂).trans e₃
      refine O_toL (e13.at hs) fun c H₄ hc h₄ e₄ => ?_
      rw [cut_last] at h₄
      exact hK _ _ ⟨c, m₁, rfl, h₄, e₄.at h₃, e13.trans e₄⟩
    | ifF hg =>
      refine O_umeth (e₁.at ha) (e₁.at hd) (MA_goal ..) ?_
      refine U_goalof ⟨a, d, p, _, _, st', _, _, rw', ns, kvs, rfl, hm₁, hp.ext e₁, .ifF hg, fun H₂ e₂ => ?_⟩
      refine fun m₁ H₃ hm' h₃ e₃ => ?_
      have e13 := (e₁.trans e₂).trans e₃
      refine O_toL (e13.at hs) fun c H₄ hc h₄ e₄ => ?_
      rw [cut_last] at h₄
      exact hK _ _ ⟨c, m₁, rfl, h₄, e₄.at h₃, e13.trans e₄⟩
  rintro m H₂ ⟨s₁, m₁, rfl, hs₁, hm₁, e₂⟩
  have hd₂ := e₂.at hd
  have ne_d : ∀ {x : Addr} {xs : List PV}, H₂ x = some (.list xs) → x ≠ d := fun h q => by rw [q, hd₂] at h; cases h
  have had : a ≠ d := fun q => by rw [q, hd] at ha; cases ha
  refine O_sattr (e₂.at ha) hd₂ (Nat.le_of_ble_eq_true rfl) fun H₃ h₃ e₃ => ?_
  rw [MA_ss] at h₃
  have a₃ := e₃.at had (e₂.at ha)
  have f₃ := e₃.at (ne_d (e₂.at hf)) (e₂.at hf)
  refine O_attr a₃ h₃ (MA_f ..) ?_
  refine O_toL f₃ fun c H₄ hc h₄ e₄ => ?_
  rw [fr_app, fr_one, cut_last] at h₄
  refine fun c₂ H₅ hc₂ h₅ e₅ => ?_
  have hfl : (frPV pre).length ≤ 10000 := by unfold frPV; rw [List.length_map]; exact b2
  have hml : (frPV more).length ≤ 1 := by unfold frPV; rw [List.length_map]; exact ml
  refine O_addL (e₅.at h₄) h₅ (by rw [List.length_singleton]; first | lia | omega) fun c₃ H₆ hc₃ h₆ e₆ => ?_
  have m₃ := e₃.at (ne_d hm₁) hm₁
  refine O_addL h₆ (e₆.at (e₅.at (e₄.at m₃))) (by rw [List.length_append, List.length_singleton]; first | lia | omega) fun c₄ H₇ hc₄ h₇ e₇ => ?_
  have e37 : Ext H₃ H₇ := (((e₄.trans e₅).trans e₆).trans e₇)
  refine O_sattr (e37.at a₃) (e37.at h₃) (Nat.le_of_ble_eq_true rfl) fun H₈ h₈ e₈ => ?_
  rw [MA_fs] at h₈
  have x₈ : ExtB d H H₈ := fun x v hx h => e₈.at hx (e37.at (e₃.at hx (e₂.at h)))
  have a₈ := x₈.at had ha
  have s₈ := e₈.at (ne_d hs₁) (e37.at (e₃.at (ne_d hs₁) hs₁))
  have c₈ : H₈ c₄ = some (.list (frPV (fr' ++ drop))) := by
    rw [← hs', fr_app, fr_app, fr_one]
    exact e₈.at (fun q => by rw [q, e37.at h₃] at h₇; cases h₇) h₇
  refine O_umeth a₈ h₈ (MA_settle ..) ?_
  refine U_settle ⟨a, d, p, st', fr', drop, rw', ns, kvs, rfl, ⟨s₁, c₄, a₈, h₈, s₈, c₈⟩, hp.stepA hd x₈, fun x hx => ?_, hl, fun H₉ hm₉ e₉ => hQ H₉ hm₉ fun x v hx h => e₉.at hx (x₈.at hx h)⟩
  rw [← hs'] at hx
  rcases List.mem_append.mp hx with hx | hx
  · rcases List.mem_append.mp hx with hx | hx
    · exact hn x (List.mem_append.mpr (.inl hx))
    · rw [List.mem_singleton.mp hx]; exact hn (n, k) (List.mem_append.mpr (.inr (List.mem_singleton.mpr rfl)))
  · cases he with
    | pl _ => cases hx
    | call hg => rw [List.mem_singleton.mp hx]; exact hg
    | ifT _ hg => rw [List.mem_singleton.mp hx]; exact hg
    | ifF hg => rw [List.mem_singleton.mp hx]; exact hg

theorem Sps.nil_inv {rw' : Str → List R} {ns : List Str} {j : Nat} {st st' : List PV} {fr' : Frs} (h : Sps rw' ns j st [] st' fr') : j = 0 ∧ st = st' ∧ fr' = [] := by
  generalize hf : ([] : Frs) = fr at h
  cases h with
  | nil => exact ⟨rfl, rfl, rfl⟩
  | cons h _ =>
    cases h with
    | @mk pre keep drop more n k r st st' hr he hs hl hn b1 b2 => exact absurd (congrArg List.length hf) (by simp)
set_option maxHeartbeats 1000000 in
theorem run_ok : Ver spRun B_run N_run 4 := by
  intro ps H Q X h
  obtain ⟨p, s, n, st, st', j, fuel, rw', ns, kvs, rfl, hp, hn, hne, hs, hsp, hQ, hX⟩ := h
  refine ⟨rfl, ?_⟩
  refine fun a d H₁ ha hd h₁ h₁' e₁ => ?_
  refine U_init ⟨a, d, p, s, n, st, rw', ns, kvs, rfl, h₁, h₁', hp.ext e₁, hn, hne, e₁.at hs, fun H₂ hm₂ e₂ => ⟨rfl, ?_⟩⟩
  refine ⟨fun z m H' => Ex4 fun (i k : Nat) (st₁ : List PV) (fr₁ : Frs) => An8 (z = k) (i + k = j) (i ≤ fuel) (m = [some (.obj p), some (.str n), some (.obj s), some (.int fuel), some (.obj a), some (.int i)]) (Mch H' a d p st₁ fr₁) (Sps rw' ns k st₁ fr₁ st' []) (ExtB d H₁ H') (Ext H H'),
    ⟨_, 0, j, st, [(n, 0)], rfl, Nat.zero_add _, Nat.zero_le _, rfl, hm₂, hsp, e₂, ExtB.fresh hd e₁ e₂⟩, ?_⟩
  clear hm₂ e₂ hsp
  rintro z m H' ⟨i, k, st₁, fr₁, rfl, hij, hif, rfl, hm, hsp, x', e'⟩
  have hm₀ := hm
  obtain ⟨sA, fA, ha', hd', hs', hf'⟩ := hm
  refine O_umeth ha' hd' (MA_over ..) ?_
  refine U_over ⟨a, d, p, st₁, fr₁, rfl, hm₀, ?_⟩
  cases hsp with
  | nil =>
    refine O_attr ha' hd' (MA_s ..) ?_
    exact hQ (by first | lia | omega) sA H' hs' e'
  | @cons k _ st₂ _ _ fr₂ _ h1 h2 =>
    rw [show fr₁.isEmpty = false by cases h1 with | @mk pre keep drop more n k r st st' hr he hs hl hn b1 b2 => cases pre <;> rfl]
    refine O_ite (fun heq => ?_) (fun hneq => ?_)
    · have : i = fuel := by simp at heq; first | lia | omega
      exact hX (by first | lia | omega) H' e'
    · have : i ≠ fuel := fun q => hneq (by simp [q])
      refine O_umeth ha' hd' (MA_step ..) ?_
      refine U_step ⟨a, d, p, st₁, st₂, fr₁, fr₂, rw', ns, kvs, rfl, hm₀, (hp.ext e₁).stepA h₁' x', .inr h1, fun H₃ hm₃ e₃ => ?_⟩
      exact ⟨k, Nat.lt_succ_self _, i + 1, k, st₂, fr₂, rfl, by first | lia | omega, by first | lia | omega, rfl, hm₃, h2, fun x v hx h => e₃.at hx (x'.at hx h), ExtB.fresh hd e' e₃⟩
theorem lrun_ok : Ver spLRun B_law_run N_law_run 4 := by
  intro ps H Q X h
  obtain ⟨p, s, n, st, st', j, fuel, rw', ns, kvs, rfl, hp, hn, hne, hs, hsp, hQ, hX⟩ := h
  refine ⟨rfl, ?_⟩
  refine U_run ⟨p, s, n, st, st', j, fuel, rw', ns, kvs, rfl, hp, hn, hne, hs, hsp, fun h c H' h' e' => hQ h c H' h' e', fun h H' e' => ?_⟩
  exact hX h H' e'
end Mine
end
section
open PySem PySem.W PySem.Calls PyProof.Rows
namespace Mine
set_option autoImplicit false

theorem nums_len (k : Nat) : (nums k).length = k := by unfold nums; rw [List.length_map, List.length_replicate]
theorem nums_app (a b : Nat) : nums a ++ nums b = nums (a + b) := by unfold nums; rw [← List.map_append, List.replicate_append_replicate]
theorem nums_get {k j : Nat} (h : j < k) : (nums k)[j]? = some (.str "num") := by
  unfold nums; rw [List.getElem?_map, List.getElem?_replicate, if_pos h]; rfl
theorem nums_drop (k j : Nat) : (nums k).drop j = nums (k - j) := by unfold nums; rw [← List.map_drop, List.drop_replicate]
theorem nums_take {k j : Nat} (h : j ≤ k) : (nums k).take j = nums j := by unfold nums; rw [← List.map_take, List.take_replicate, Nat.min_eq_left h]
theorem taken_ok : Ver spTaken B_taken N_taken 2 := by
  intro ps H Q X h
  obtain ⟨k, j, rfl, hj, hk, hQ⟩ := h
  refine ⟨rfl, ?_⟩
  have hi : (((nums k).length : Nat) : Int) - ((nums j).length : Int) = ((k - j : Nat) : Int) := by rw [nums_len, nums_len]; first | lia | omega
  refine I_neg (by rw [hi]; simp) ?_
  refine O_fromT (ys := nums j) (by rw [cut_nat hi (by rw [nums_len]; first | lia | omega), nums_drop, show k - (k - j) = j by first | lia | omega]) ?_
  refine O_neT (eq_strs _ _) ?_
  refine I_neg (by simp) ?_
  refine O_toT (ys := nums (k - j)) (by rw [cut_nat hi (by rw [nums_len]; first | lia | omega), nums_take (by first | lia | omega)]) ?_
  exact hQ
theorem blockof_ok : Ver spBlockOf B_block_of N_block_of 2 := by
  intro ps H Q X h
  obtain ⟨p, n, rw', ns, kvs, rfl, hp, hn, hQ⟩ := h
  refine ⟨rfl, ?_⟩
  obtain ⟨b, h1, h2⟩ := hp.at' n hn
  have key : hasKey kvs n = true := by unfold hasKey; rw [h1]; rfl
  refine O_niD hp.ha ?_
  rw [key]
  refine O_subD hp.ha h1 ?_
  exact hQ b
theorem called_ok : Ver spCalled B_called N_called 3 := by
  intro ps H Q X h
  have hL : LIM = 1048576 := rfl
  obtain ⟨p, n, k, rw', ns, kvs, rfl, hp, hn, hk, hk', hQ⟩ := h
  refine ⟨rfl, ?_⟩
  refine U_blockof ⟨p, n, rw', ns, kvs, rfl, hp, hn, fun a => ?_⟩
  refine U_taken ⟨k, 1, rfl, hk, hk', ?_⟩
  refine BinW.addT _ _ (by rw [nums_len, List.length_singleton]; first | lia | omega) ?_
  rw [show [PV.str "num"] = nums 1 from rfl, nums_app, show k - 1 + 1 = k by first | lia | omega]
  exact hQ
theorem moved_ok : Ver spMoved B_moved N_moved 2 := by
  intro ps H Q X h
  have hL : LIM = 1048576 := rfl
  obtain ⟨k, rfl, hk, hk', hQ⟩ := h
  refine ⟨rfl, ?_⟩
  refine fun c H₁ hc h₁ e₁ => ?_
  refine I_neg (by rw [nums_len]; simp; first | lia | omega) ?_
  refine O_subT (itemAt_nat (n := k - 1) (by rw [nums_len]; first | lia | omega) (nums_get (by first | lia | omega))) ?_
  refine BinW.addT _ _ (by rw [nums_len, List.length_singleton]; first | lia | omega) ?_
  rw [show [PV.str "num"] = nums 1 from rfl, nums_app]
  exact hQ H₁ e₁
theorem pt_add : dget (puts01.map fun e => (e.1, PV.str e.2)) "add" = some (.str "num") := by kernel_rfl
theorem behind_ok : Ver spBehind B_behind N_behind 3 := by
  intro ps H Q X h
  have hL : LIM = 1048576 := rfl
  obtain ⟨p, r, k, k', rw', ns, kvs, rfl, hp, hn, hb, hk, hQ⟩ := h
  refine ⟨rfl, ?_⟩
  cases r with
  | num i =>
    cases hb
    refine BinW.addT _ _ (by rw [nums_len, List.length_singleton]; first | lia | omega) ?_
    rw [show [PV.str "num"] = nums 1 from rfl, nums_app]
    exact hQ H (Ext.refl _)
  | copy =>
    replace hb : (if 1 ≤ k then some (k + 1) else none) = some k' := hb
    by_cases h1 : 1 ≤ k
    · rw [if_pos h1] at hb
      cases hb
      exact U_moved ⟨k, rfl, h1, hk, fun H' e' => hQ H' e'⟩
    · rw [if_neg h1] at hb; cases hb
  | add =>
    replace hb : (if 2 ≤ k then some (k - 1) else none) = some k' := hb
    by_cases h1 : 2 ≤ k
    · rw [if_pos h1] at hb
      cases hb
      refine O_glob G_takes ?_
      refine O_subF tk_add ?_
      refine U_taken ⟨k, 2, rfl, h1, hk, ?_⟩
      refine O_glob G_puts ?_
      refine O_subF pt_add ?_
      refine BinW.addT _ _ (by rw [nums_len, List.length_singleton]; first | lia | omega) ?_
      rw [show [PV.str "num"] = nums 1 from rfl, nums_app, show k - 2 + 1 = k - 1 by first | lia | omega]
      exact hQ H (Ext.refl _)
    · rw [if_neg h1] at hb; cases hb
  | call n =>
    replace hb : (if 1 ≤ k then some k else none) = some k' := hb
    by_cases h1 : 1 ≤ k
    · rw [if_pos h1] at hb
      cases hb
      exact U_called ⟨p, n, k, rw', ns, kvs, rfl, hp, hn n (by simp [R.names]), h1, hk, hQ H (Ext.refl _)⟩
    · rw [if_neg h1] at hb; cases hb
  | iff n m =>
    replace hb : (if 2 ≤ k then some (k - 1) else none) = some k' := hb
    by_cases h1 : 2 ≤ k
    · rw [if_pos h1] at hb
      cases hb
      refine U_taken ⟨k, 1, rfl, by first | lia | omega, hk, ?_⟩
      refine U_blockof ⟨p, n, rw', ns, kvs, rfl, hp, hn n (by simp [R.names]), fun a => ?_⟩
      refine U_blockof ⟨p, m, rw', ns, kvs, rfl, hp, hn m (by simp [R.names]), fun b => ?_⟩
      refine O_neT (eq_strs ["num"] ["num"]) ?_
      refine O_neT (eq_strs ["num"] ["num"]) ?_
      exact U_called ⟨p, n, k - 1, rw', ns, kvs, rfl, hp, hn n (by simp [R.names]), by first | lia | omega, by first | lia | omega, hQ H (Ext.refl _)⟩
    · rw [if_neg h1] at hb; cases hb
theorem tr_app (a b : List Nat) : trPV (a ++ b) = trPV a ++ trPV b := by unfold trPV; rw [List.map_append]
set_option maxHeartbeats 1000000 in
theorem looked_ok : Ver spLooked B_looked N_looked 2 := by
  intro ps H Q X h
  have hL : LIM = 1048576 := rfl
  obtain ⟨p, n, ks, rw', ns, kvs, rfl, hp, hn, ht, hQ⟩ := h
  obtain ⟨b, h1, h2⟩ := hp.at' n hn
  have hsm := hp.sm n hn
  have hcl := hp.cl n hn
  have h0 : ks.take 1 = [1] := by
    have := ht.fst
    cases ks with
    | nil => cases this
    | cons a l => cases this; rfl
  refine ⟨rfl, ?_⟩
  refine O_subD hp.ha h1 ?_
  refine fun c H₁ hc h₁ e₁ => ?_
  have hbc := ne_of h2 hc
  have hpc := ne_of hp.ha hc
  refine O_lenL (e₁.at h2) ?_
  refine O_range (by rw [rows_len]; first | lia | omega) ?_
  refine forR (fun j m H' => Ex2 fun (x5 x6 : Option PV) => An3 (m = [some (.obj p), some (.str n), some (blk b), some (.obj c), some (.obj b), x5, x6]) (H' c = some (.list (trPV (ks.take (j + 1))))) (Ext H H')) ?_ ?_ _ _ ⟨none, none, rfl, by rw [h0]; exact h₁, e₁⟩
  · rintro m H' ⟨x5, x6, rfl, c', e'⟩
    rw [Int.toNat_natCast, rows_len, ← ht.len, List.take_length] at c'
    have hl : ks.take (rw' n).length ++ [1] = ks := by
      have h3 := ht.last
      have hlt : (rw' n).length < ks.length := by rw [ht.len]; exact Nat.lt_succ_self _
      rw [List.getElem?_eq_getElem hlt] at h3
      have h4 := List.take_succ_eq_append_getElem hlt
      rw [Option.some.inj h3, ← ht.len, List.take_length] at h4
      exact h4.symm
    refine O_subL c' (x := .tup (nums 1)) (by rw [← hl, tr_app]; exact last_at _ _) ?_
    refine O_neT (eq_strs ["num"] ["num"]) ?_
    exact hQ c H' hc c' e'
  · rintro j m H' hj ⟨x5, x6, rfl, c', e'⟩ K hK
    rw [Int.toNat_natCast, rows_len] at hj
    have hrj : (rw' n)[j]? = some (rw' n)[j] := List.getElem?_eq_getElem hj
    obtain ⟨k, k', g1, g2, g3⟩ := ht.step j _ hrj
    have gr : (rowsPV (rw' n))[j]? = some (.tup (rw' n)[j].row) := by unfold rowsPV; rw [List.getElem?_map, hrj]; rfl
    have hk1 := ht.small k (List.mem_of_getElem? g1)
    refine O_recv c' rfl ?_
    refine O_subL c' (itemAt_nat rfl (show (trPV (ks.take (j + 1)))[j]? = some (.tup (nums k)) by unfold trPV; rw [List.getElem?_map, List.getElem?_take, if_pos (Nat.lt_succ_self _), g1]; rfl)) ?_
    refine O_subL (e'.at h2) (itemAt_nat rfl gr) ?_
    refine U_behind ⟨p, _, k, k', rw', ns, kvs, rfl, hp.ext e', fun u hu => hcl u ?_, g2, by first | lia | omega, fun H₂ e₂ => ?_⟩
    · unfold namesOf; rw [List.mem_flatMap]; exact ⟨_, List.getElem_mem hj, hu⟩
    have hlen := ht.len
    refine O_append (e₂.at c') (by unfold trPV; rw [List.length_map, List.length_take]; first | lia | omega) fun H₃ h₃ e₃ => ?_
    refine hK _ _ ⟨_, _, rfl, ?_, ExtB.fresh hc (e'.trans e₂) e₃⟩
    have hlt : j + 1 < ks.length := by first | lia | omega
    rw [List.getElem?_eq_getElem hlt] at g3
    rw [h₃, List.take_succ_eq_append_getElem hlt, Option.some.inj g3, tr_app]
    rfl
theorem trailof_ok : Ver spTrailOf B_trail_of N_trail_of 2 := by
  intro ps H Q X h
  obtain ⟨p, n, ks, rw', ns, kvs, rfl, hp, hn, ht, hQ⟩ := h
  refine ⟨rfl, ?_⟩
  exact U_looked ⟨p, n, ks, rw', ns, kvs, rfl, hp, hn, ht, fun c H' hc h' e' => hQ c H' hc h' e'⟩
theorem fault_ok : Ver spFault B_fault N_fault 2 := by
  intro ps H Q X h
  obtain ⟨p, n, ks, rw', ns, kvs, rfl, hp, hn, ht, hQ⟩ := h
  refine ⟨rfl, ?_⟩
  exact U_looked ⟨p, n, ks, rw', ns, kvs, rfl, hp, hn, ht, fun c H' hc h' e' => hQ H' e'⟩
theorem nms_app (a b : List R) : namesOf (a ++ b) = namesOf a ++ namesOf b := by simp [namesOf]
theorem nms_len : ∀ rs : List R, (namesOf rs).length ≤ 2 * rs.length
  | [] => by simp [namesOf]
  | r :: rs => by
    have ih := nms_len rs
    have h1 : (r.names).length ≤ 2 := by cases r <;> simp [R.names]
    rw [show namesOf (r :: rs) = r.names ++ namesOf rs by simp [namesOf]]
    simp; (first | lia | omega)
set_option maxHeartbeats 1000000 in
theorem named_ok : Ver spNamed B_named N_named 1 := by
  intro ps H Q X h
  have hL : LIM = 1048576 := rfl
  obtain ⟨a, rs, rfl, ha, hrl, hQ⟩ := h
  refine ⟨rfl, ?_⟩
  refine fun c H₁ hc h₁ e₁ => ?_
  have hac : a ≠ c := ne_of ha hc
  refine O_itL (e₁.at ha) ?_
  refine forW_ind (fun rest m H' => Ex3 fun (us vs : List R) (x2 : Option PV) => An6 (rs = us ++ vs) (rest = rowsPV vs) (m = [some (.obj a), some (.obj c), x2]) (H' c = some (.list ((namesOf us).map .str))) (H' a = some (.list (rowsPV rs))) (Ext H H')) ?_ ?_ _ _ _ ⟨[], rs, none, rfl, rfl, rfl, h₁, e₁.at ha, e₁⟩
  · rintro m H' ⟨us, vs, x2, hs, hr', rfl, c', a', e'⟩
    have : vs = [] := by cases vs with | nil => rfl | cons _ _ => cases hr'
    subst this
    rw [List.append_nil] at hs
    subst hs
    exact ⟨a', hQ c H' hc c' e'⟩
  · rintro y ys m H' ⟨us, vs, x2, hs, hr', rfl, c', a', e'⟩
    cases vs with
    | nil => cases hr'
    | cons r vs =>
    cases hr'
    refine ⟨a', fun K hK => ?_⟩
    have hul : us.length ≤ 10 := by have := congrArg List.length hs; simp at this; first | lia | omega
    have hnl := nms_len us
    have fin : ∀ H'', H'' c = some (.list ((namesOf (us ++ [r])).map .str)) → ExtB c H' H'' → K [some (.obj a), some (.obj c), some (.tup r.row)] H'' := fun H'' h'' e'' =>
      hK _ _ ⟨us ++ [r], vs, _, by rw [hs]; simp, rfl, rfl, h'', e''.at hac a', ExtB.fresh hc e' e''⟩
    have same : r.names = [] → K [some (.obj a), some (.obj c), some (.tup r.row)] H' := fun h0 => fin H' (by rw [c', nms_app]; simp [namesOf, h0]) fun _ _ _ h => h
    have hlt : ((namesOf us).map PV.str).length < LIM := by simp; first | lia | omega
    cases r with
    | call n =>
      refine O_recv c' rfl ?_
      refine O_append c' hlt fun H₂ h₂ e₂ => ?_
      exact fin H₂ (by rw [h₂, nms_app]; simp [namesOf, R.names]) e₂
    | iff n m =>
      refine O_recv c' rfl ?_
      refine O_append c' hlt fun H₂ h₂ e₂ => ?_
      refine O_recv h₂ rfl ?_
      refine O_append h₂ (by simp; first | lia | omega) fun H₃ h₃ e₃ => ?_
      exact fin H₃ (by rw [h₃, nms_app]; simp [namesOf, R.names]) (fun x v hx h => e₃.at hx (e₂.at hx h))
    | num i => exact same rfl
    | copy => exact same rfl
    | add => exact same rfl
end Mine
end
section
open PySem PySem.W PySem.Calls PyProof.Rows
namespace Mine
set_option autoImplicit false

theorem tl_x (Y Z : Str) : Tl [.copy, .iff Y Z] [1, 2, 1] := ⟨rfl, rfl, fun j r h => by
  match j, h with
  | 0, h => cases h; exact ⟨1, 2, rfl, rfl, rfl⟩
  | 1, h => cases h; exact ⟨2, 1, rfl, rfl, rfl⟩
  | n + 2, h => exact absurd h (by simp), rfl, by decide⟩
theorem tl_y {X : Str} {i : Int} {lv : Bool} : ∃ ks, Tl (if lv then [.copy, .num 999999999, .add, .call X, .add] else [.num 999999999, .add, .call X, .num i, .add]) ks := by
  cases lv with
  | true => exact ⟨[1, 2, 3, 2, 2, 1], rfl, rfl, fun j r h => by
      match j, h with
      | 0, h => cases h; exact ⟨1, 2, rfl, rfl, rfl⟩
      | 1, h => cases h; exact ⟨2, 3, rfl, rfl, rfl⟩
      | 2, h => cases h; exact ⟨3, 2, rfl, rfl, rfl⟩
      | 3, h => cases h; exact ⟨2, 2, rfl, rfl, rfl⟩
      | 4, h => cases h; exact ⟨2, 1, rfl, rfl, rfl⟩
      | n + 5, h => exact absurd h (by simp), rfl, by decide⟩
  | false => exact ⟨[1, 2, 1, 1, 2, 1], rfl, rfl, fun j r h => by
      match j, h with
      | 0, h => cases h; exact ⟨1, 2, rfl, rfl, rfl⟩
      | 1, h => cases h; exact ⟨2, 1, rfl, rfl, rfl⟩
      | 2, h => cases h; exact ⟨1, 1, rfl, rfl, rfl⟩
      | 3, h => cases h; exact ⟨1, 2, rfl, rfl, rfl⟩
      | 4, h => cases h; exact ⟨2, 1, rfl, rfl, rfl⟩
      | n + 5, h => exact absurd h (by simp), rfl, by decide⟩
theorem tl_z : Tl [] [1] := ⟨rfl, rfl, fun j r h => absurd h (by simp), rfl, by decide⟩
theorem P3.nx {rw' : Str → List R} {X Y Z : Str} {sm : Int} {lv : Bool} (h : P3 rw' X Y Z sm lv) : namesOf (rw' X) = [Y, Z] ∧ namesOf (rw' Y) = [X] ∧ namesOf (rw' Z) = [] := by
  rw [h.rx, h.ry, h.rz]
  exact ⟨rfl, by cases lv <;> rfl, rfl⟩
theorem Pg.key {H : AHeap} {p : Addr} {rw' : Str → List R} {ns : List Str} {kvs} (h : Pg H p rw' ns kvs) {n : Str} (hn : n ∈ ns) : hasKey kvs n = true := by obtain ⟨b, h1, _⟩ := h.at' n hn; unfold hasKey; rw [h1]; rfl
set_option maxHeartbeats 2000000 in
theorem cometo_ok : Ver spComeTo B_come_to N_come_to 2 := by
  intro ps H Q X' h
  have hL : LIM = 1048576 := rfl
  obtain ⟨p, X, Y, Z, sm, lv, rw', kvs, rfl, hp, h3, hQ⟩ := h
  obtain ⟨nx, ny, nz⟩ := h3.nx
  refine ⟨rfl, ?_⟩
  refine fun c H₁ hc h₁ e₁ => ?_
  refine ⟨fun z m H' => Ex3 fun (j : Nat) (L : List PV) (x : Option PV) => An5 (z = 3 - j) (m = [some (.obj p), some (.str X), some (.obj c), some (.int j), x]) ((j = 0 ∧ L = [.str X]) ∨ ((j = 1 ∨ j = 2 ∨ j = 3) ∧ L = [.str X, .str Y, .str Z])) (H' c = some (.list L)) (Ext H H'), ⟨_, 0, _, none, rfl, rfl, .inl ⟨rfl, rfl⟩, h₁, e₁⟩, ?_⟩
  clear h₁ e₁
  rintro z m H' ⟨j, L, x, rfl, rfl, hj, c', e'⟩
  have hp' := hp.ext e'
  have see : ∀ n ∈ [X, Y, Z], ∃ b, dget kvs n = some (blk b) ∧ H' b = some (.list (rowsPV (rw' n))) := fun n hn => hp'.at' n hn
  rcases hj with ⟨rfl, rfl⟩ | ⟨rfl | rfl | rfl, rfl⟩
  · refine O_lenL c' ?_
    refine O_subL c' rfl ?_
    refine O_inD hp'.ha ?_
    rw [hp'.key (List.mem_cons_self ..)]
    refine O_subL c' rfl ?_
    obtain ⟨b, g1, g2⟩ := see X (List.mem_cons_self ..)
    refine O_subD hp'.ha g1 ?_
    refine U_named ⟨b, _, rfl, g2, hp.sm X (List.mem_cons_self ..), fun f H₂ hf h₂ e₂ => ?_⟩
    rw [nx] at h₂
    have hfc := ne_of c' hf
    refine O_itL h₂ ?_
    refine ⟨h₂, ?_⟩
    refine CmpW.niL (ks := [X]) (e₂.at c') ?_
    refine I_pos (by simpa using Ne.symm h3.xy) ?_
    refine O_recv (e₂.at c') rfl ?_
    refine O_append (e₂.at c') (Nat.le_of_ble_eq_true rfl) fun H₃ h₃ e₃ => ?_
    refine ⟨e₃.at (Ne.symm hfc) h₂, ?_⟩
    refine CmpW.niL (ks := [X, Y]) h₃ ?_
    refine I_pos (by simpa using ⟨Ne.symm h3.xz, Ne.symm h3.yz⟩) ?_
    refine O_recv h₃ rfl ?_
    refine O_append h₃ (Nat.le_of_ble_eq_true rfl) fun H₄ h₄ e₄ => ?_
    refine ⟨e₄.at (Ne.symm hfc) (e₃.at (Ne.symm hfc) h₂), ?_⟩
    exact ⟨2, by decide, 1, _, _, rfl, rfl, .inr ⟨.inl rfl, rfl⟩, h₄, ExtB.fresh hc (ExtB.fresh hc (e'.trans e₂) e₃) e₄⟩
  · refine O_lenL c' ?_
    refine O_subL c' rfl ?_
    refine O_inD hp'.ha ?_
    rw [hp'.key (by simp)]
    refine O_subL c' rfl ?_
    obtain ⟨b, g1, g2⟩ := see Y (by simp)
    refine O_subD hp'.ha g1 ?_
    refine U_named ⟨b, _, rfl, g2, hp.sm Y (by simp), fun f H₂ hf h₂ e₂ => ?_⟩
    rw [ny] at h₂
    refine O_itL h₂ ?_
    refine ⟨h₂, ?_⟩
    refine CmpW.niL (ks := [X, Y, Z]) (e₂.at c') ?_
    refine I_neg (by simp) ?_
    refine ⟨h₂, ?_⟩
    exact ⟨1, by decide, 2, _, _, rfl, rfl, .inr ⟨.inr (.inl rfl), rfl⟩, e₂.at c', e'.trans e₂⟩
  · refine O_lenL c' ?_
    refine O_subL c' rfl ?_
    refine O_inD hp'.ha ?_
    rw [hp'.key (by simp)]
    refine O_subL c' rfl ?_
    obtain ⟨b, g1, g2⟩ := see Z (by simp)
    refine O_subD hp'.ha g1 ?_
    refine U_named ⟨b, _, rfl, g2, hp.sm Z (by simp), fun f H₂ hf h₂ e₂ => ?_⟩
    rw [nz] at h₂
    refine O_itL h₂ ?_
    refine ⟨h₂, ?_⟩
    exact ⟨0, by decide, 3, _, _, rfl, rfl, .inr ⟨.inr (.inr rfl), rfl⟩, e₂.at c', e'.trans e₂⟩
  · refine O_lenL c' ?_
    exact hQ c H' hc c' e'
theorem letby_ok : Ver spLetBy B_let_by N_let_by 2 := by
  intro ps H Q X' h
  obtain ⟨p, X, Y, Z, sm, lv, rw', kvs, rfl, hp, h3, hQ⟩ := h
  refine ⟨rfl, ?_⟩
  refine U_cometo ⟨p, X, Y, Z, sm, lv, rw', kvs, rfl, hp, h3, fun c H₁ hc h₁ e₁ => ?_⟩
  refine O_itL h₁ ?_
  obtain ⟨ky, ty⟩ := tl_y (X := X) (i := sm) (lv := lv)
  refine ⟨h₁, ?_⟩
  refine O_niD (e₁.at hp.ha) ?_
  rw [hp.key (List.mem_cons_self ..)]
  refine U_fault ⟨p, X, [1, 2, 1], rw', _, kvs, rfl, hp.ext e₁, List.mem_cons_self .., by rw [h3.rx]; exact tl_x Y Z, fun H₂ e₂ => ?_⟩
  have e12 := e₁.trans e₂
  refine ⟨e₂.at h₁, ?_⟩
  refine O_niD (e12.at hp.ha) ?_
  rw [hp.key (by simp)]
  refine U_fault ⟨p, Y, ky, rw', _, kvs, rfl, hp.ext e12, by simp, by rw [h3.ry]; exact ty, fun H₃ e₃ => ?_⟩
  have e13 := e12.trans e₃
  refine ⟨e₃.at (e₂.at h₁), ?_⟩
  refine O_niD (e13.at hp.ha) ?_
  rw [hp.key (by simp)]
  refine U_fault ⟨p, Z, [1], rw', _, kvs, rfl, hp.ext e13, by simp, by rw [h3.rz]; exact tl_z, fun H₄ e₄ => ?_⟩
  exact ⟨e₄.at (e₃.at (e₂.at h₁)), hQ H₄ (e13.trans e₄)⟩
theorem heightby_ok : Ver spHeightBy B_height_by N_height_by 3 := by
  intro ps H Q X h
  obtain ⟨p, k, n, rw', ns, kvs, rfl, hp, hn, hr, hQ⟩ := h
  refine ⟨rfl, ?_⟩
  refine U_trailof ⟨p, n, [1], rw', ns, kvs, rfl, hp, hn, by rw [hr]; exact tl_z, fun c H₁ hc h₁ e₁ => ?_⟩
  obtain ⟨b, g1, g2⟩ := hp.at' n hn
  rw [hr] at g2
  refine O_subD (e₁.at hp.ha) g1 ?_
  refine O_itL h₁ ?_
  refine ⟨h₁, ?_⟩
  refine ⟨h₁, ?_⟩
  refine fun d H₂ hd h₂ e₂ => ?_
  refine O_maxL (ns := [1]) h₂ (by decide) fun M hM _ => ?_
  rw [List.mem_singleton.mp hM]
  have e12 := e₁.trans e₂
  refine O_lenL (e12.at g2) ?_
  refine O_range (by decide) ?_
  exact ⟨trivial, hQ H₂ e12⟩
theorem comp_strs {src : AHeap → Prop} {el : PV → (List PV → AHeap → Prop) → AHeap → Prop} {Q : List PV → AHeap → Prop} {H : AHeap} (hs : src H) (f : Str → Bool) (hel : ∀ s (K : List PV → AHeap → Prop), K [.bool (f s)] H → el (.str s) K H) :
    ∀ (l : List Str) (acc : List PV), Q (acc ++ (l.map f).map .bool) H → compW src el Q (l.map .str) acc H
  | [], acc, h => ⟨hs, by rw [List.map_nil, List.map_nil, List.append_nil] at h; exact h⟩
  | s :: l, acc, h => ⟨hs, hel s _ (comp_strs hs f hel l _ (by rw [List.map_cons, List.map_cons, List.append_cons] at h; exact h))⟩
set_option maxHeartbeats 2000000 in
theorem height_ok : Ver spHeight B_height N_height 2 := by
  intro ps H Q X' h
  have hL : LIM = 1048576 := rfl
  obtain ⟨p, X, Y, Z, sm, lv, rw', kvs, rfl, hp, h3, hQ⟩ := h
  obtain ⟨nx, ny, nz⟩ := h3.nx
  refine ⟨rfl, ?_⟩
  refine U_cometo ⟨p, X, Y, Z, sm, lv, rw', kvs, rfl, hp, h3, fun c H₁ hc h₁ e₁ => ?_⟩
  refine fun k H₂ hk h₂ e₂ => ?_
  replace hk := e₁.none_of hk
  have gZ : ∀ s, s ≠ Z → hasKey [(Z, PV.int 1)] s = false := fun s hs => by
    unfold hasKey dget
    rw [List.find?_cons, decide_eq_false (Ne.symm hs)]; rfl
  refine ⟨fun z m H' => Ex2 fun (w : Addr) (x : Option PV × Option PV × Option PV) => An4 (m = [some (.obj p), some (.str X), some (.obj w), some (.obj k), x.1, x.2.1, x.2.2]) (Ext H H') (H w = none) ((z = 1 ∧ H' w = some (.list [.str X, .str Y, .str Z]) ∧ H' k = some (.dict [])) ∨ (z = 0 ∧ H' w = some (.list [.str X, .str Y]) ∧ H' k = some (.dict [(Z, .int 1)]))),
    ⟨_, c, (none, none, none), rfl, e₁.trans e₂, hc, .inl ⟨rfl, e₂.at h₁, h₂⟩⟩, ?_⟩
  clear h₁ h₂ e₁ e₂ hc
  rintro z m H' ⟨w, ⟨x4, x5, x6⟩, rfl, e', hw, hst⟩
  have hp' := hp.ext e'
  rcases hst with ⟨rfl, w', k'⟩ | ⟨rfl, w', k'⟩
  · refine O_lenL w' ?_
    refine fun l H₃ hl h₃ e₃ => ?_
    have hlk := ne_of k' hl
    have hlw := ne_of w' hl
    have hkw : k ≠ w := fun q => by rw [q, w'] at k'; cases k'
    refine O_itL (e₃.at w') ?_
    obtain ⟨b, g1, g2⟩ := hp'.at' X (by simp)
    obtain ⟨b₂, f1, f2⟩ := hp'.at' Y (by simp)
    obtain ⟨b₃, d1, d2⟩ := hp'.at' Z (by simp)
    refine ⟨e₃.at w', ?_⟩
    refine O_subD (e₃.at hp'.ha) g1 ?_
    refine U_named ⟨b, _, rfl, e₃.at g2, hp.sm X (by simp), fun f H₄ hf h₄ e₄ => ?_⟩
    rw [nx] at h₄
    refine O_itL h₄ ?_
    refine comp_strs (f := fun _ => false) (l := [Y, Z]) h₄ (fun u K h => O_inD (e₄.at (e₃.at k')) h) _ ?_
    refine fun v H₅ hv h₅ e₅ => ?_
    refine O_allL (bs := [false, false]) h₅ ?_
    have l₅ := e₅.at (e₄.at h₃)
    refine O_recv l₅ rfl ?_
    refine O_append l₅ (Nat.le_of_ble_eq_true rfl) fun H₆ h₆ e₆ => ?_
    have x₆ : ExtB l H' H₆ := fun x o hx h => e₆.at hx (e₅.at (e₄.at (e₃.at h)))
    have ext₆ : Ext H H₆ := ExtB.fresh (e'.none_of hl) (((e'.trans e₃).trans e₄).trans e₅) e₆
    clear h₄ h₅ e₆ e₅ e₄ hf hv l₅ H₅ H₄
    have w₆ := x₆.at hlw w'
    have k₆ := x₆.at hlk k'
    refine ⟨w₆, ?_⟩
    refine O_subD (ext₆.at hp.ha) f1 ?_
    refine U_named ⟨b₂, _, rfl, x₆.at (ne_of f2 hl) f2, hp.sm Y (by simp), fun f H₄ hf h₄ e₄ => ?_⟩
    rw [ny] at h₄
    refine O_itL h₄ ?_
    refine comp_strs (f := fun _ => false) (l := [X]) h₄ (fun u K h => O_inD (e₄.at k₆) h) _ ?_
    refine fun v H₅ hv h₅ e₅ => ?_
    refine O_allL (bs := [false]) h₅ ?_
    have l₅ := e₅.at (e₄.at h₆)
    refine O_recv l₅ rfl ?_
    refine O_append l₅ (Nat.le_of_ble_eq_true rfl) fun H₇ h₇ e₇ => ?_
    have x₇ : ExtB l H₆ H₇ := fun x o hx h => e₇.at hx (e₅.at (e₄.at h))
    have ext₇ : Ext H H₇ := ExtB.fresh (e'.none_of hl) ((ext₆.trans e₄).trans e₅) e₇
    clear h₄ h₅ e₇ e₅ e₄ hf hv l₅ H₅ H₄
    have w₇ := x₇.at hlw w₆
    have k₇ := x₇.at hlk k₆
    refine ⟨w₇, ?_⟩
    refine O_subD (ext₇.at hp.ha) d1 ?_
    refine U_named ⟨b₃, _, rfl, x₇.at (ne_of d2 hl) (x₆.at (ne_of d2 hl) d2), hp.sm Z (by simp), fun f H₄ hf h₄ e₄ => ?_⟩
    rw [nz] at h₄
    refine O_itL h₄ ?_
    refine ⟨h₄, ?_⟩
    refine fun v H₅ hv h₅ e₅ => ?_
    refine O_allL (bs := []) h₅ ?_
    have e45 := e₄.trans e₅
    have ext₅ := ext₇.trans e45
    refine U_heightby ⟨p, k, Z, rw', _, kvs, rfl, hp.ext ext₅, by simp, h3.rz, fun H₆ e₆ => ?_⟩
    refine O_storeD (e₆.at (e45.at k₇)) (by decide) fun H₈ h₈ e₈ => ?_
    refine ⟨e₈.at (Ne.symm hkw) (e₆.at (e45.at w₇)), ?_⟩
    have l₈ := e₈.at (Ne.symm hlk) (e₆.at (e45.at h₇))
    refine O_lenL l₈ ?_
    refine O_lenL (e₈.at (Ne.symm hkw) (e₆.at (e45.at w₇))) ?_
    exact ⟨0, by decide, l, (_, _, _), rfl, ExtB.fresh hk (ext₅.trans e₆) e₈, e'.none_of hl, .inr ⟨rfl, l₈, h₈⟩⟩
  · refine O_lenL w' ?_
    refine fun l H₃ hl h₃ e₃ => ?_
    have hlk := ne_of k' hl
    have hlw := ne_of w' hl
    refine O_itL (e₃.at w') ?_
    obtain ⟨b, g1, g2⟩ := hp'.at' X (by simp)
    obtain ⟨b₂, f1, f2⟩ := hp'.at' Y (by simp)
    refine ⟨e₃.at w', ?_⟩
    refine O_subD (e₃.at hp'.ha) g1 ?_
    refine U_named ⟨b, _, rfl, e₃.at g2, hp.sm X (by simp), fun f H₄ hf h₄ e₄ => ?_⟩
    rw [nx] at h₄
    refine O_itL h₄ ?_
    refine comp_strs (f := fun u => hasKey [(Z, PV.int 1)] u) (l := [Y, Z]) h₄ (fun u K h => O_inD (e₄.at (e₃.at k')) h) _ ?_
    refine fun v H₅ hv h₅ e₅ => ?_
    refine O_allL (bs := [Y, Z].map fun u => hasKey [(Z, PV.int 1)] u) h₅ ?_
    rw [show (([Y, Z].map fun u => hasKey [(Z, PV.int 1)] u).all id) = false by rw [List.map_cons, gZ Y h3.yz]; rfl]
    have l₅ := e₅.at (e₄.at h₃)
    refine O_recv l₅ rfl ?_
    refine O_append l₅ (Nat.le_of_ble_eq_true rfl) fun H₆ h₆ e₆ => ?_
    have x₆ : ExtB l H' H₆ := fun x o hx h => e₆.at hx (e₅.at (e₄.at (e₃.at h)))
    have ext₆ : Ext H H₆ := ExtB.fresh (e'.none_of hl) (((e'.trans e₃).trans e₄).trans e₅) e₆
    clear h₄ h₅ e₆ e₅ e₄ hf hv l₅ H₅ H₄
    have w₆ := x₆.at hlw w'
    have k₆ := x₆.at hlk k'
    refine ⟨w₆, ?_⟩
    refine O_subD (ext₆.at hp.ha) f1 ?_
    refine U_named ⟨b₂, _, rfl, x₆.at (ne_of f2 hl) f2, hp.sm Y (by simp), fun f H₄ hf h₄ e₄ => ?_⟩
    rw [ny] at h₄
    refine O_itL h₄ ?_
    refine comp_strs (f := fun u => hasKey [(Z, PV.int 1)] u) (l := [X]) h₄ (fun u K h => O_inD (e₄.at k₆) h) _ ?_
    refine fun v H₅ hv h₅ e₅ => ?_
    refine O_allL (bs := [X].map fun u => hasKey [(Z, PV.int 1)] u) h₅ ?_
    rw [show (([X].map fun u => hasKey [(Z, PV.int 1)] u).all id) = false by rw [List.map_cons, gZ X h3.xz]; rfl]
    have l₅ := e₅.at (e₄.at h₆)
    refine O_recv l₅ rfl ?_
    refine O_append l₅ (Nat.le_of_ble_eq_true rfl) fun H₇ h₇ e₇ => ?_
    refine ⟨e₇.at hlw (e₅.at (e₄.at w₆)), ?_⟩
    refine O_lenL h₇ ?_
    refine O_lenL (e₇.at hlw (e₅.at (e₄.at w₆))) ?_
    exact hQ H₇ (ExtB.fresh (e'.none_of hl) ((ext₆.trans e₄).trans e₅) e₇)
end Mine
end
section
open PySem PySem.W PySem.Calls PyProof.Rows
namespace Mine
set_option autoImplicit false

/-! how the three blocks go -/
theorem Sps.app {rw' : Str → List R} {ns : List Str} {i j : Nat} {s₁ s₂ s₃ : List PV} {f₁ f₂ f₃ : Frs} (a : Sps rw' ns i s₁ f₁ s₂ f₂) (b : Sps rw' ns j s₂ f₂ s₃ f₃) : Sps rw' ns (j + i) s₁ f₁ s₃ f₃ := by
  induction a with
  | nil => exact b
  | cons h _ ih => exact .cons h (ih b)
/-- the last frame is under way -/
noncomputable def Und (rw : Str → List R) (fr : Frs) : Prop := ∀ f, fr.getLast? = some f → f.2 ≠ (rw f.1).length
section
variable {rw' : Str → List R} {X Y Z : Str} {sm : Int} {lv : Bool} (h : P3 rw' X Y Z sm lv)
/-- a plain row -/
theorem plain {ns : List Str} {pre : Frs} {n : Str} {k : Nat} {r : R} {st st' : List PV} (hr : (rw' n)[k]? = some r) (hd : DoneR r st st') (hk : k + 1 ≠ (rw' n).length) (hn : ∀ f ∈ pre ++ [(n, k)], f.1 ∈ ns) (b1 : st.length ≤ 10000) (b2 : pre.length ≤ 10000) :
    Sp1 rw' ns st (pre ++ [(n, k)]) st' (pre ++ [(n, k + 1)]) :=
  .mk (drop := []) hr (.pl hd) rfl ⟨fun _ h => (nomatch h), fun f hf => by rw [List.getLast?_concat] at hf; cases hf; exact hk⟩ hn b1 b2
/-- a row that opens a frame -/
theorem opens {ns : List Str} {pre : Frs} {n g : Str} {k : Nat} {r : R} {st st' : List PV} (hr : (rw' n)[k]? = some r) (he : Eff ns r st st' [(g, 0)]) (hg : (rw' g).length ≠ 0) (hn : ∀ f ∈ pre ++ [(n, k)], f.1 ∈ ns) (b1 : st.length ≤ 10000) (b2 : pre.length ≤ 10000) :
    Sp1 rw' ns st (pre ++ [(n, k)]) st' (pre ++ [(n, k + 1), (g, 0)]) :=
  .mk (drop := []) (keep := pre ++ [(n, k + 1), (g, 0)]) hr he (by simp) ⟨fun _ h => (nomatch h), fun f hf => by
    rw [show pre ++ [(n, k + 1), (g, 0)] = (pre ++ [(n, k + 1)]) ++ [(g, 0)] by simp, List.getLast?_concat] at hf; cases hf; exact fun q => hg q.symm⟩ hn b1 b2
theorem mem3 {pre : Frs} (hn : ∀ f ∈ pre, f.1 ∈ [X, Y, Z]) {n : Str} {k : Nat} (hm : n ∈ [X, Y, Z]) : ∀ f ∈ pre ++ [(n, k)], f.1 ∈ [X, Y, Z] := fun f hf => by
  rcases List.mem_append.mp hf with hf | hf
  · exact hn f hf
  · rw [List.mem_singleton.mp hf]; exact hm
include h
theorem zero_run {pre : Frs} {st : List PV} (hu : Und rw' pre) (hn : ∀ f ∈ pre, f.1 ∈ [X, Y, Z]) (b1 : st.length ≤ 9000) (b2 : pre.length ≤ 9000) : Sps rw' [X, Y, Z] 2 (st ++ [.int 0]) (pre ++ [(X, 0)]) (st ++ [.int 0]) pre := by
  have hX : X ∈ [X, Y, Z] := by simp
  have lx : (rw' X).length = 2 := by rw [h.rx]; rfl
  refine .cons (plain (r := .copy) (by rw [h.rx]; rfl) (.copy st (.int 0)) (by rw [lx]; decide) (mem3 hn hX) (by simp; first | lia | omega) (by first | lia | omega)) ?_
  rw [show st ++ [PV.int 0, PV.int 0] = (st ++ [PV.int 0]) ++ [PV.int 0] by simp]
  refine .cons (Sp1.mk (drop := [(X, 2), (Z, 0)]) (keep := pre) (r := .iff Y Z) (more := [(Z, 0)]) (n := X) (k := 1) (by rw [h.rx]; rfl) (st := (st ++ [.int 0]) ++ [.int 0]) (.ifF (by simp)) (by simp) ⟨fun f hf => ?_, hu⟩ (mem3 hn hX) (by simp; first | lia | omega) (by first | lia | omega)) ?_
  · rcases List.mem_cons.mp hf with rfl | hf
    · exact lx.symm
    · rw [List.mem_singleton.mp hf, h.rz]; rfl
  · exact .nil _ _
/-- into the block below -/
theorem down {pre : Frs} {st : List PV} {n : Nat} (hn : ∀ f ∈ pre, f.1 ∈ [X, Y, Z]) (b0 : n ≤ 400) (b1 : st.length ≤ 9000) (b2 : pre.length ≤ 9000) :
    Sps rw' [X, Y, Z] (if lv then 6 else 5) (st ++ [.int ((n : Int) + 1)]) (pre ++ [(X, 0)]) (st ++ (if lv then [.int ((n : Int) + 1)] else []) ++ [.int n]) (pre ++ [(X, 2), (Y, if lv then 4 else 3)] ++ [(X, 0)]) := by
  have hX : X ∈ [X, Y, Z] := by simp
  have hY : Y ∈ [X, Y, Z] := by simp
  have lx : (rw' X).length = 2 := by rw [h.rx]; rfl
  have ly : (rw' Y).length = 5 := by rw [h.ry]; cases lv <;> rfl
  have hm : ((n : Int) + 1 + 999999999) % 1000000000 = n := by first | lia | omega
  have first : Sps rw' [X, Y, Z] 2 (st ++ [.int ((n : Int) + 1)]) (pre ++ [(X, 0)]) (st ++ [.int ((n : Int) + 1)]) (pre ++ [(X, 2)] ++ [(Y, 0)]) := by
    refine .cons (plain (r := .copy) (by rw [h.rx]; rfl) (.copy st _) (by rw [lx]; decide) (mem3 hn hX) (by simp; first | lia | omega) (by first | lia | omega)) ?_
    refine .cons (st₁ := st ++ [.int ((n : Int) + 1)]) (fr₁ := pre ++ [(X, 2), (Y, 0)]) ?_ (by rw [List.append_assoc]; exact .nil _ _)
    have := opens (rw' := rw') (ns := [X, Y, Z]) (pre := pre) (n := X) (k := 1) (g := Y) (r := .iff Y Z) (st := (st ++ [PV.int ((n : Int) + 1)]) ++ [.int ((n : Int) + 1)]) (by rw [h.rx]; rfl) (.ifT (by first | lia | omega) hY) (by rw [ly]; decide) (mem3 hn hX) (by simp; first | lia | omega) (by first | lia | omega)
    rw [List.append_assoc] at this
    exact this
  have hn1 : ∀ f ∈ pre ++ [(X, 2)], f.1 ∈ [X, Y, Z] := mem3 hn hX
  have bl : (pre ++ [(X, 2)]).length ≤ 9001 := by simp; first | lia | omega
  cases hlv : lv with
  | false =>
    subst hlv
    have hy : rw' Y = [.num 999999999, .add, .call X, .num sm, .add] := h.ry
    rw [if_neg (by decide), if_neg (by decide), if_neg (by decide), List.append_nil]
    refine Sps.app first ?_
    refine .cons (plain (r := .num 999999999) (by rw [hy]; rfl) (.num _ _) (by rw [ly]; decide) (mem3 hn1 hY) (by simp; first | lia | omega) (by first | lia | omega)) ?_
    rw [List.append_assoc]
    refine .cons (plain (r := .add) (by rw [hy]; rfl) (.add st _ _) (by rw [ly]; decide) (mem3 hn1 hY) (by simp; first | lia | omega) (by first | lia | omega)) ?_
    rw [hm]
    refine .cons (opens (g := X) (r := .call X) (by rw [hy]; rfl) (.call hX) (by rw [lx]; decide) (mem3 hn1 hY) (by simp; first | lia | omega) (by first | lia | omega)) ?_
    rw [show pre ++ [(X, 2)] ++ [(Y, 1 + 1 + 1), (X, 0)] = pre ++ [(X, 2), (Y, 3)] ++ [(X, 0)] by simp]
    exact .nil _ _
  | true =>
    subst hlv
    have hy : rw' Y = [.copy, .num 999999999, .add, .call X, .add] := h.ry
    rw [if_pos rfl, if_pos rfl, if_pos rfl]
    refine Sps.app first ?_
    refine .cons (plain (r := .copy) (by rw [hy]; rfl) (.copy _ _) (by rw [ly]; decide) (mem3 hn1 hY) (by simp; first | lia | omega) (by first | lia | omega)) ?_
    refine .cons (plain (r := .num 999999999) (by rw [hy]; rfl) (.num _ _) (by rw [ly]; decide) (mem3 hn1 hY) (by simp; first | lia | omega) (by first | lia | omega)) ?_
    rw [show st ++ [PV.int ((n : Int) + 1), PV.int ((n : Int) + 1)] ++ [PV.int 999999999] = (st ++ [PV.int ((n : Int) + 1)]) ++ [PV.int ((n : Int) + 1), PV.int 999999999] by simp]
    refine .cons (plain (r := .add) (by rw [hy]; rfl) (.add _ _ _) (by rw [ly]; decide) (mem3 hn1 hY) (by simp; first | lia | omega) (by first | lia | omega)) ?_
    rw [hm]
    refine .cons (opens (g := X) (r := .call X) (by rw [hy]; rfl) (.call hX) (by rw [lx]; decide) (mem3 hn1 hY) (by simp; first | lia | omega) (by first | lia | omega)) ?_
    rw [show pre ++ [(X, 2)] ++ [(Y, 2 + 1 + 1), (X, 0)] = pre ++ [(X, 2), (Y, 4)] ++ [(X, 0)] by simp]
    exact .nil _ _
theorem low_und {pre : Frs} : Und rw' (pre ++ [(X, 2), (Y, if lv then 4 else 3)]) := fun f hf => by
  have ly : (rw' Y).length = 5 := by rw [h.ry]; cases lv <;> rfl
  rw [show pre ++ [(X, 2), (Y, if lv then 4 else 3)] = (pre ++ [(X, 2)]) ++ [(Y, if lv then 4 else 3)] by simp, List.getLast?_concat] at hf
  cases hf
  rw [ly]
  cases lv with
  | false => exact fun q => (nomatch q)
  | true => exact fun q => (nomatch q)
omit h in
theorem low_mem {pre : Frs} (hn : ∀ f ∈ pre, f.1 ∈ [X, Y, Z]) {k : Nat} : ∀ f ∈ pre ++ [(X, 2), (Y, k)], f.1 ∈ [X, Y, Z] := fun f hf => by
  rw [show pre ++ [(X, 2), (Y, k)] = (pre ++ [(X, 2)]) ++ [(Y, k)] by simp] at hf
  exact mem3 (mem3 hn (by simp)) (by simp) f hf
/-- out of it again -/
theorem up {pre : Frs} {st : List PV} {n : Nat} {v : Int} (hu : Und rw' pre) (hn : ∀ f ∈ pre, f.1 ∈ [X, Y, Z]) (b1 : st.length ≤ 9000) (b2 : pre.length ≤ 9000) :
    Sps rw' [X, Y, Z] (if lv then 1 else 2) (st ++ (if lv then [.int ((n : Int) + 1)] else []) ++ [.int v]) (pre ++ [(X, 2), (Y, if lv then 4 else 3)]) (st ++ [.int (((if lv then (n : Int) + 1 else v) + (if lv then v else sm)) % 1000000000)]) pre := by
  have hX : X ∈ [X, Y, Z] := by simp
  have hY : Y ∈ [X, Y, Z] := by simp
  have lx : (rw' X).length = 2 := by rw [h.rx]; rfl
  have ly : (rw' Y).length = 5 := by rw [h.ry]; cases lv <;> rfl
  have hn1 : ∀ f ∈ pre ++ [(X, 2)], f.1 ∈ [X, Y, Z] := mem3 hn hX
  have stl : Stl rw' pre [(X, 2), (Y, 5)] := ⟨fun f hf => by
    rcases List.mem_cons.mp hf with rfl | hf
    · exact lx.symm
    · rw [List.mem_singleton.mp hf]; exact ly.symm, hu⟩
  cases hlv : lv with
  | false =>
    subst hlv
    have hy : rw' Y = [.num 999999999, .add, .call X, .num sm, .add] := h.ry
    simp only [Bool.false_eq_true, if_false, List.append_nil]
    rw [show pre ++ [(X, 2), (Y, 3)] = (pre ++ [(X, 2)]) ++ [(Y, 3)] by simp]
    refine .cons (plain (r := .num sm) (by rw [hy]; rfl) (.num _ _) (by rw [ly]; decide) (mem3 hn1 hY) (by simp; first | lia | omega) (by simp; first | lia | omega)) ?_
    rw [List.append_assoc]
    refine .cons (Sp1.mk (drop := [(X, 2), (Y, 5)]) (keep := pre) (r := .add) (more := []) (n := Y) (k := 4) (by rw [hy]; rfl) (.pl (.add st _ _)) (by simp) stl (mem3 hn1 hY) (by simp; first | lia | omega) (by simp; first | lia | omega)) (.nil _ _)
  | true =>
    subst hlv
    have hy : rw' Y = [.copy, .num 999999999, .add, .call X, .add] := h.ry
    simp only [if_true]
    rw [show pre ++ [(X, 2), (Y, 4)] = (pre ++ [(X, 2)]) ++ [(Y, 4)] by simp, List.append_assoc]
    refine .cons (Sp1.mk (drop := [(X, 2), (Y, 5)]) (keep := pre) (r := .add) (more := []) (n := Y) (k := 4) (by rw [hy]; rfl) (.pl (.add st _ _)) (by simp) stl (mem3 hn1 hY) (by simp; first | lia | omega) (by simp; first | lia | omega)) (.nil _ _)
theorem whole {n : Nat} : ∀ {pre : Frs} {st : List PV}, Und rw' pre → (∀ f ∈ pre, f.1 ∈ [X, Y, Z]) → n ≤ 400 → st.length + n ≤ 9000 → pre.length + 2 * n ≤ 9000 → Sps rw' [X, Y, Z] (7 * n + 2) (st ++ [.int n]) (pre ++ [(X, 0)]) (st ++ [.int (res sm lv n)]) pre := by
  induction n with
  | zero => exact fun hu hn _ b1 b2 => zero_run h hu hn b1 b2
  | succ n ih =>
    intro pre st hu hn b0 b1 b2
    have d := down h (st := st) (n := n) hn (by first | lia | omega) (by first | lia | omega) (by first | lia | omega)
    have m := ih (pre := pre ++ [(X, 2), (Y, if lv then 4 else 3)]) (st := st ++ (if lv then [.int ((n : Int) + 1)] else [])) (low_und h) (low_mem hn) (by first | lia | omega) (by cases lv <;> simp <;> first | lia | omega) (by simp; first | lia | omega)
    have u := up h (st := st) (n := n) (v := res sm lv n) hu hn (by first | lia | omega) (by first | lia | omega)
    have := (d.app m).app u
    have e : (if lv = true then 1 else 2) + (7 * n + 2 + if lv = true then 6 else 5) = 7 * (n + 1) + 2 := by cases lv <;> simp <;> first | lia | omega
    rw [e] at this
    exact this
/-- how deep it is when all are open -/
noncomputable def left' (n : Nat) : List PV := (List.range n).map fun (k : Nat) => .int ((n : Int) - k)
theorem deep {n : Nat} : ∀ {pre : Frs} {st : List PV}, (∀ f ∈ pre, f.1 ∈ [X, Y, Z]) → n ≤ 400 → st.length + n ≤ 9000 → pre.length + 2 * n ≤ 9000 → Sps rw' [X, Y, Z] ((if lv then 6 else 5) * n) (st ++ [.int n]) (pre ++ [(X, 0)]) (st ++ (if lv then left' n else []) ++ [.int 0]) (pre ++ (List.replicate n [(X, 2), (Y, if lv then 4 else 3)]).flatten ++ [(X, 0)]) := by
  induction n with
  | zero =>
    intro pre st hn _ _ _
    have : (if lv then left' 0 else []) = ([] : List PV) := by cases lv <;> rfl
    rw [this, List.append_nil, List.replicate_zero, List.flatten_nil, List.append_nil, Nat.mul_zero]
    exact .nil _ _
  | succ n ih =>
    intro pre st hn b0 b1 b2
    have d := down h (st := st) (n := n) hn (by first | lia | omega) (by first | lia | omega) (by first | lia | omega)
    have m := ih (pre := pre ++ [(X, 2), (Y, if lv then 4 else 3)]) (st := st ++ (if lv then [.int ((n : Int) + 1)] else [])) (low_mem hn) (by first | lia | omega) (by cases lv <;> simp <;> first | lia | omega) (by simp; first | lia | omega)
    have := d.app m
    rw [List.append_assoc pre, ← List.flatten_cons, ← List.replicate_succ] at this
    have e : (if lv = true then 6 else 5) * n + (if lv = true then 6 else 5) = (if lv = true then 6 else 5) * (n + 1) := rfl
    rw [e] at this
    have e2 : st ++ (if lv = true then [PV.int ((n : Int) + 1)] else []) ++ (if lv = true then left' n else []) = st ++ (if lv = true then left' (n + 1) else []) := by
      cases lv with
      | false => simp
      | true =>
        simp only [if_true]
        rw [List.append_assoc]
        congr 1
        unfold left'
        rw [List.range_succ_eq_map, List.map_cons, List.map_map]
        rw [List.cons_append, List.nil_append]
        congr 1
        refine List.map_congr_left fun k _ => ?_
        show PV.int _ = PV.int _
        congr 1
        show (n : Int) - k = ((n + 1 : Nat) : Int) - ((k + 1 : Nat) : Int)
        first | lia | omega
    rw [e2] at this
    exact this
end
theorem res_ok (sm : Int) (lv : Bool) (h0 : 0 ≤ sm) (h1 : sm < 1000000000) : ∀ n : Nat, n ≤ 400 → res sm lv n = if lv then (n : Int) * ((n : Int) + 1) / 2 else (n : Int) * sm % 1000000000
  | 0, _ => by cases lv <;> simp [res]
  | n + 1, h => by
    have ih := res_ok sm lv h0 h1 n (Nat.le_of_succ_le h)
    unfold res
    rw [ih]
    cases lv with
    | false =>
      simp only [Bool.false_eq_true, if_false]
      rw [Int.emod_add_emod, show ((n + 1 : Nat) : Int) * sm = (n : Int) * sm + sm by rw [Int.natCast_add, Int.add_mul]; simp]
    | true =>
      simp only [if_true]
      have e : ((n + 1 : Nat) : Int) * (((n + 1 : Nat) : Int) + 1) = (n : Int) * ((n : Int) + 1) + 2 * ((n : Int) + 1) := by
        rw [Int.natCast_add]; simp only [Int.natCast_one]; grind
      have hb : (n : Int) * ((n : Int) + 1) ≤ 400 * 401 := Int.mul_le_mul (by first | lia | omega) (by first | lia | omega) (by first | lia | omega) (by decide)
      have hb0 : 0 ≤ (n : Int) * ((n : Int) + 1) := Int.mul_nonneg (by first | lia | omega) (by first | lia | omega)
      rw [e]
      generalize (n : Int) * ((n : Int) + 1) = q at hb hb0 ⊢
      have hn : (n : Int) ≤ 400 := by first | lia | omega
      omega
end Mine
end
section
open PySem PySem.W PySem.Calls PyProof.Rows
namespace Mine
set_option autoImplicit false

theorem atoms_same {H : AHeap} {n : Nat} : ∀ {l : List PV}, (∀ v ∈ l, (∃ s, v = .str s) ∨ ∃ i, v = .int i) → EqL H n l l true
  | [], _ => .nil
  | v :: l, h => by
    have r := atoms_same (H := H) (n := n) (l := l) fun x hx => h x (List.mem_cons_of_mem _ hx)
    rcases h v (List.mem_cons_self ..) with ⟨s, rfl⟩ | ⟨i, rfl⟩
    · have := EqL.c (EqV.str (n := n) s s) r; simpa using this
    · have := EqL.c (EqV.int (n := n) i i) r; simpa using this
theorem fr_same {H : AHeap} {n : Nat} : ∀ fr : Frs, EqL H (n + 1) (frPV fr) (frPV fr) true
  | [] => .nil
  | f :: fr => EqL.c (a := true) (b := true) (EqV.tup (atoms_same fun v hv => by
      rcases List.mem_cons.mp hv with rfl | hv
      · exact .inl ⟨_, rfl⟩
      · rw [List.mem_singleton.mp hv]; exact .inr ⟨_, rfl⟩)) (fr_same fr)
set_option maxHeartbeats 1000000 in
theorem alike_ok : Ver spAlike B_law_alike N_law_alike 2 := by
  intro ps H Q X h
  have hL : LIM = 1048576 := rfl
  obtain ⟨a, b, vs, rfl, ha, hb, hv, hl, hQ⟩ := h
  refine ⟨rfl, ?_⟩
  refine O_isL ha rfl ?_
  refine O_lenL ha ?_
  refine O_lenL hb ?_
  refine I_neg (by simp) ?_
  refine O_lenL hb ?_
  refine O_range (by first | lia | omega) ?_
  refine forR (fun j m H' => Ex1 fun (x : Option PV) => An2 (m = [some (.obj a), some (.obj b), x]) (H' = H)) ?_ ?_ _ _ ⟨none, rfl, rfl⟩
  · rintro m H' ⟨x, rfl, rfl⟩
    have : EqT H' (.obj a) (.obj b) true := .val (.list (n := 39) ha hb (atoms_same fun v h => by
      rcases hv v h with ⟨i, rfl, _⟩ | ⟨s, rfl, _⟩
      · exact .inr ⟨_, rfl⟩
      · exact .inl ⟨_, rfl⟩))
    exact CmpW.eq this hQ
  · rintro j m H' hj ⟨x, rfl, rfl⟩ K hK
    rw [Int.toNat_natCast] at hj
    have g : vs[j]? = some vs[j] := List.getElem?_eq_getElem hj
    have hok := hv _ (List.getElem_mem hj)
    generalize vs[j] = v at g hok
    have g1 : itemAt vs (j : Int) = some v := itemAt_nat rfl g
    refine O_subL hb g1 ?_
    rcases hok with ⟨i, rfl, _⟩ | ⟨s, rfl, _⟩
    · refine O_subL ha g1 ?_
      refine CmpW.ne (.val (EqV.bool false false)) ?_
      refine O_subL hb g1 ?_
      refine O_subL ha g1 ?_
      refine O_subL ha g1 ?_
      exact hK _ _ ⟨_, rfl, rfl⟩
    · refine O_subL ha g1 ?_
      refine CmpW.ne (.val (EqV.bool true true)) ?_
      refine O_subL hb g1 ?_
      exact hK _ _ ⟨_, rfl, rfl⟩
theorem comp_map {src : AHeap → Prop} {el : PV → (List PV → AHeap → Prop) → AHeap → Prop} {Q : List PV → AHeap → Prop} {H : AHeap} (hs : src H) (f : Str → PV) :
    ∀ (l : List Str) (acc : List PV), (∀ s ∈ l, ∀ (K : List PV → AHeap → Prop), K [f s] H → el (.str s) K H) → Q (acc ++ l.map f) H → compW src el Q (l.map .str) acc H
  | [], acc, _, h => ⟨hs, by rw [List.map_nil, List.append_nil] at h; exact h⟩
  | s :: l, acc, hel, h => ⟨hs, hel s (List.mem_cons_self ..) _ (comp_map hs f l _ (fun x hx => hel x (List.mem_cons_of_mem _ hx)) (by rw [List.map_cons, List.append_cons] at h; exact h))⟩
theorem dset_len1 {α : Type} (kvs : List (Str × α)) (k : Str) (v : α) : (dset kvs k v).length ≤ kvs.length + 1 := by
  unfold dset; split <;> simp
theorem dset_len2 {α : Type} (kvs : List (Str × α)) (k k' : Str) (v v' : α) : (dset (dset kvs k v) k' v').length ≤ kvs.length + 2 :=
  Nat.le_trans (dset_len1 ..) (Nat.succ_le_succ (dset_len1 ..))
theorem mid_inj {b x y : Str} (h : b ++ x ++ b = b ++ y ++ b) : x = y := by
  have h1 : (b.cps ++ x.cps ++ b.cps) = (b.cps ++ y.cps ++ b.cps) := congrArg Str.cps h
  have h2 := congrArg Array.toList h1
  simp at h2
  cases x; cases y
  congr 1
theorem pick3 {r : Int} (r0 : 0 ≤ r) (r1 : r < 3) : ∃ i : Int, itemAt [PV.int 0, PV.int 1, PV.int 50] r = some (.int i) ∧ 0 ≤ i ∧ i ≤ 50 := by
  have : r = 0 ∨ r = 1 ∨ r = 2 := by first | lia | omega
  rcases this with rfl | rfl | rfl
  · exact ⟨0, rfl, by decide, by decide⟩
  · exact ⟨1, rfl, by decide, by decide⟩
  · exact ⟨50, rfl, by decide, by decide⟩
theorem fresh_of {H H' : AHeap} {t c : Addr} {n : Nat} (e : ExtB t H H') (ht : H' t = some (.tape n)) (hc : H' c = none) : H c = none := by
  cases q : H c with
  | none => rfl
  | some o => rw [e.at (by rintro rfl; rw [ht] at hc; cases hc) q] at hc; cases hc
noncomputable def rw3 (X Y Z : Str) (sm : Int) (lv : Bool) (s : Str) : List R := if s = X then [.copy, .iff Y Z] else if s = Y then (if lv then [.copy, .num 999999999, .add, .call X, .add] else [.num 999999999, .add, .call X, .num sm, .add]) else []
set_option maxHeartbeats 1000000 in
theorem program_ok : Ver spProgram B_law_program N_law_program 4 := by
  intro ps H Q X' h
  have hL : LIM = 1048576 := rfl
  obtain ⟨xs, t, n, sm, lv, rfl, hx, ht, hn, hQ⟩ := h
  refine ⟨rfl, ?_⟩
  refine U_draw ⟨xs, t, _, n, rfl, hx, ht, bd0 hn (by decide), by decide, fun r H₁ r0 r1 t₁ e₁ => ?_⟩
  refine fun z H₂ hz h₂ e₂ => ?_
  refine U_draw ⟨xs, t, _, n + 1, rfl, hx, e₂.at t₁, bd1 hn (by decide), by decide, fun r' H₃ r0' r1' t₃ e₃ => ?_⟩
  have hzt : z ≠ t := Ne.symm (ne_of t₁ hz)
  obtain ⟨i, hi, i0, i1⟩ := pick3 r0' r1'
  refine O_subL (e₃.at hzt h₂) hi ?_
  refine U_words ⟨_, _, rfl, i0, by first | lia | omega, fun b H₄ hb e₄ => ?_⟩
  have hbl : b.length ≤ 50 := by rw [hb]; first | lia | omega
  have x₄ : ExtB t H H₄ := ((e₁.trans (e₂.toB t)).trans e₃).trans (e₄.toB t)
  have t₄ := e₄.at t₃
  refine fun u H₅ hu h₅ e₅ => ?_
  refine O_itL h₅ ?_
  refine comp_map h₅ (fun l => .str (b ++ l ++ b)) ["X", "Y", "Z"] [] (fun l hl K hK => ?_) ?_
  · have hl1 : l.length = 1 := by
      rcases List.mem_cons.mp hl with rfl | hl
      · rfl
      rcases List.mem_cons.mp hl with rfl | hl
      · rfl
      rw [List.mem_singleton.mp hl]; rfl
    refine O_addS' (by first | lia | omega) fun S hS => ?_
    refine O_addS' (by rw [hS, str_len_append]; first | lia | omega) fun S' hS' => ?_
    rw [hS', hS]; exact hK
  refine fun q H₆ hq h₆ e₆ => ?_
  have nxy : b ++ "X" ++ b ≠ b ++ "Y" ++ b := fun h => absurd (mid_inj h) (by decide +kernel)
  have nxz : b ++ "X" ++ b ≠ b ++ "Z" ++ b := fun h => absurd (mid_inj h) (by decide +kernel)
  have nyz : b ++ "Y" ++ b ≠ b ++ "Z" ++ b := fun h => absurd (mid_inj h) (by decide +kernel)
  replace h₆ : H₆ q = some (.list [.str (b ++ "X" ++ b), .str (b ++ "Y" ++ b), .str (b ++ "Z" ++ b)]) := h₆
  generalize b ++ "X" ++ b = X at nxy nxz h₆
  generalize b ++ "Y" ++ b = Y at nxy nyz h₆
  generalize b ++ "Z" ++ b = Z at nxz nyz h₆
  refine O_subL h₆ rfl ?_
  refine O_subL h₆ rfl ?_
  refine fun f₁ H₇ hf₁ h₇ e₇ => ?_
  have q₇ := e₇.at h₆
  refine O_subL q₇ rfl ?_
  refine fun f₂ H₈ hf₂ h₈ e₈ => ?_
  have x₈ : ExtB t H H₈ := x₄.trans ((((e₅.trans e₆).trans e₇).trans e₈).toB t)
  have t₈ := e₈.at (e₇.at (e₆.at (e₅.at t₄)))
  have q₈ := e₈.at q₇
  refine W_cut (fun m H' => Ex1 fun (f₃ : Addr) => An6 (m = [some (.fls xs), some (.obj t), some (.int sm), some (.bool lv), some (.str b), some (.obj q), some (.tup [.str "num"]), some (.obj f₁), some (.obj f₃), none, m.getD 10 none]) (H' f₃ = some (.list (rowsPV (rw3 X Y Z sm lv Y)))) (H' f₁ = some (.list (rowsPV (rw3 X Y Z sm lv X)))) (H' q = some (.list [.str X, .str Y, .str Z])) (H' t = some (.tape (n + 2))) (ExtB t H H')) ?_ ?_
  · intro K hK
    cases lv with
    | true =>
      refine O_subL q₈ rfl ?_
      refine fun f₃ H₉ hf₃ h₉ e₉ => ?_
      exact hK _ _ ⟨f₃, rfl, by rw [h₉]; simp [rw3, Ne.symm nxy]; rfl, by rw [e₉.at (e₈.at h₇)]; simp [rw3]; rfl, e₉.at q₈, e₉.at t₈, x₈.trans (e₉.toB t)⟩
    | false =>
      exact hK _ _ ⟨f₂, rfl, by rw [h₈]; simp [rw3, Ne.symm nxy]; rfl, by rw [e₈.at h₇]; simp [rw3]; rfl, q₈, t₈, x₈⟩
  rintro m H₉ ⟨f₃, hm, h₉, k₉, q₉, t₉, x₉⟩
  rw [hm]
  clear hm
  refine fun p H₁ hp h₁ e₁ => ?_
  refine fun f₄ H₂ hf₄ h₂ e₂ => ?_
  refine O_subL (e₂.at (e₁.at q₉)) rfl ?_
  have hqp : q ≠ p := ne_of q₉ hp
  have htp : t ≠ p := ne_of t₉ hp
  have n3p : f₃ ≠ p := ne_of h₉ hp
  have n1p : f₁ ≠ p := ne_of k₉ hp
  have n4p : f₄ ≠ p := Ne.symm (ne_of h₁ hf₄)
  refine O_storeD (e₂.at h₁) (by decide) fun H₃ h₃ e₃ => ?_
  have q₃ := e₃.at hqp (e₂.at (e₁.at q₉))
  refine O_subL q₃ rfl ?_
  refine O_storeD h₃ (Nat.lt_of_le_of_lt (dset_len1 _ _ _) (by decide)) fun H₄ h₄ e₄ => ?_
  have q₄ := e₄.at hqp q₃
  refine O_subL q₄ rfl ?_
  refine O_storeD h₄ (Nat.lt_of_le_of_lt (dset_len2 _ _ _ _ _) (by decide)) fun H₅ h₅ e₅ => ?_
  have x₅ : ExtB p H₉ H₅ := fun x v hx h => e₅.at hx (e₄.at hx (e₃.at hx (e₂.at (e₁.at h))))
  refine hQ p q X Y Z (rw3 X Y Z sm lv) _ (n + 2) H₅ ⟨h₅, fun s hs => ?_, fun s _ => ?_, fun s hs => ?_⟩ ⟨nxy, nxz, nyz, if_pos rfl, (if_neg (Ne.symm nxy)).trans (if_pos rfl), (if_neg (Ne.symm nxz)).trans (if_neg (Ne.symm nyz))⟩ (e₅.at hqp q₄) (by first | lia | omega) (x₅.at htp t₉) (ExtB.over (fresh_of x₉ t₉ hp) x₉ x₅)
  · rcases List.mem_cons.mp hs with rfl | hs
    · exact ⟨f₁, by rw [dget_dset, if_neg nxy, dget_dset, if_pos rfl]; rfl, x₅.at n1p k₉⟩
    rcases List.mem_cons.mp hs with rfl | hs
    · exact ⟨f₃, by rw [dget_dset, if_pos rfl]; rfl, x₅.at n3p h₉⟩
    rw [List.mem_singleton.mp hs]
    refine ⟨f₄, by rw [dget_dset, if_neg (Ne.symm nyz), dget_dset, if_neg (Ne.symm nxz), dget_dset, if_pos rfl]; rfl, ?_⟩
    rw [e₅.at n4p (e₄.at n4p (e₃.at n4p h₂)), show rw3 X Y Z sm lv Z = [] from (if_neg (Ne.symm nxz)).trans (if_neg (Ne.symm nyz))]; rfl
  · unfold rw3
    split
    · exact Nat.le_of_ble_eq_true rfl
    · split
      · cases lv <;> exact Nat.le_of_ble_eq_true rfl
      · decide
  · intro u hu
    unfold rw3 at hu
    split at hu
    · simp [namesOf, R.names] at hu
      rcases hu with rfl | rfl <;> simp
    · split at hu
      · cases lv <;> (simp [namesOf, R.names] at hu; subst hu; simp)
      · simp [namesOf] at hu
end Mine
end
section
open PySem PySem.W PySem.Calls PyProof.Rows
namespace Mine
set_option autoImplicit false

theorem compR {el : PV → (List PV → AHeap → Prop) → AHeap → Prop} {Q : List PV → AHeap → Prop} {n : Nat} (I : Nat → List PV → AHeap → Prop) (h0 : ∀ acc H, I n acc H → Q acc H)
    (h1 : ∀ j acc H, j < n → I j acc H → ∀ K : List PV → AHeap → Prop, (∀ vs H', I (j + 1) (acc ++ vs) H' → K vs H') → el (.int j) K H) (H : AHeap) (hi : I 0 [] H) :
    compW (fun _ => True) el Q ((List.range n).map fun (i : Nat) => PV.int i) [] H := by
  refine compW_ind (fun rest acc H => Ex1 fun j => An3 (j ≤ n) (rest = ((List.range n).drop j).map (fun (i : Nat) => PV.int i)) (I j acc H)) ?_ ?_ _ _ _ ⟨0, by first | decide | lia | omega, rfl, hi⟩
  · rintro acc H ⟨j, hj, hr, h⟩
    have hl := congrArg List.length hr
    simp at hl
    have : j = n := by first | decide | lia | omega
    subst this
    exact ⟨trivial, h0 _ _ h⟩
  · rintro x xs acc H ⟨j, hj, hr, h⟩
    refine ⟨trivial, fun K hK => ?_⟩
    have hjl : j < n := by
      apply Classical.byContradiction
      intro q
      rw [List.drop_eq_nil_of_le (by simp; first | lia | omega)] at hr
      cases hr
    have hd : (List.range n).drop j = j :: (List.range n).drop (j + 1) := by
      rw [List.drop_eq_getElem_cons (by simpa using hjl)]; simp
    rw [hd] at hr
    cases hr
    exact h1 j acc H hjl h K fun m' H' h' => hK _ _ ⟨j + 1, by first | decide | lia | omega, rfl, h'⟩
theorem Mch.keep {H H' : AHeap} {a d d' p : Addr} {st : List PV} {fr : Frs} (h : Mch H a d p st fr) (hd' : ∃ k, H d' = some (.attrs k)) (hne : d ≠ d') (e : ExtB d' H H') : Mch H' a d p st fr := by
  obtain ⟨sA, fA, ha, hd, hs, hf⟩ := h
  obtain ⟨k, hd'⟩ := hd'
  exact ⟨sA, fA, e.at (fun q => by rw [q, hd'] at ha; cases ha) ha, e.at hne hd, e.at (fun q => by rw [q, hd'] at hs; cases hs) hs, e.at (fun q => by rw [q, hd'] at hf; cases hf) hf⟩
theorem Mch.ext {H H' : AHeap} {a d p : Addr} {st : List PV} {fr : Frs} (h : Mch H a d p st fr) (e : Ext H H') : Mch H' a d p st fr := by
  obtain ⟨sA, fA, ha, hd, hs, hf⟩ := h
  exact ⟨sA, fA, e.at ha, e.at hd, e.at hs, e.at hf⟩
theorem Mch.attrs {H : AHeap} {a d p : Addr} {st : List PV} {fr : Frs} (h : Mch H a d p st fr) : ∃ k, H d = some (.attrs k) := by
  obtain ⟨sA, fA, ha, hd, hs, hf⟩ := h
  exact ⟨_, hd⟩
theorem Sps.succ_inv {rw' : Str → List R} {ns : List Str} {j : Nat} {st st' : List PV} {fr fr' : Frs} (h : Sps rw' ns (j + 1) st fr st' fr') : ∃ s₁ f₁, Sp1 rw' ns st fr s₁ f₁ ∧ Sps rw' ns j s₁ f₁ st' fr' := by
  cases h with | cons a b => exact ⟨_, _, a, b⟩
theorem Sps.zero_inv {rw' : Str → List R} {ns : List Str} {st st' : List PV} {fr fr' : Frs} (h : Sps rw' ns 0 st fr st' fr') : st' = st ∧ fr' = fr := by
  cases h; exact ⟨rfl, rfl⟩
theorem Sps.adv {rw' : Str → List R} {ns : List Str} {k : Nat} {st st' : List PV} {fr : Frs} (h : Sps rw' ns k st fr st' []) : ∃ s₁ f₁, ((fr = [] ∧ f₁ = [] ∧ s₁ = st) ∨ Sp1 rw' ns st fr s₁ f₁) ∧ Sps rw' ns (k - 1) s₁ f₁ st' [] := by
  cases h with
  | nil => exact ⟨st, [], .inl ⟨rfl, rfl, rfl⟩, .nil _ _⟩
  | cons a b => exact ⟨_, _, .inr a, b⟩
theorem fr_rep (l : Frs) : ∀ n : Nat, frPV ((List.replicate n l).flatten) = (List.replicate n (frPV l)).flatten
  | 0 => rfl
  | n + 1 => by rw [List.replicate_succ, List.replicate_succ, List.flatten_cons, List.flatten_cons, fr_app, fr_rep l n]
theorem res_one {sm : Int} {lv : Bool} (h0 : 0 ≤ sm) (h1 : sm < 1000000000) : itemAt [PV.int sm, PV.int 1] (if lv = true then 1 else 0) = some (.int (res sm lv 1)) := by
  cases lv with
  | true => rfl
  | false =>
    show some (PV.int sm) = some (.int ((0 + sm) % 1000000000))
    rw [Int.zero_add, Int.emod_eq_of_lt h0 h1]
theorem res_bd (sm : Int) (lv : Bool) (n : Nat) : 0 ≤ res sm lv n ∧ res sm lv n < 1000000000 := by
  cases n with
  | zero => exact ⟨Int.le_refl _, show (0 : Int) < 1000000000 by decide⟩
  | succ n => exact mod_lt (by decide)
theorem okv_app {vs ws : List PV} (h : ∀ v ∈ vs, Okv v) (k : ∀ v ∈ ws, Okv v) : ∀ v ∈ vs ++ ws, Okv v := fun v hv => (List.mem_append.mp hv).elim (h v) (k v)
theorem okv_one {i : Int} (h : 0 ≤ i ∧ i < 1000000000) : ∀ v ∈ [PV.int i], Okv v := fun v hv => by rw [List.mem_singleton.mp hv]; exact .inl ⟨i, rfl, h⟩
theorem left_ok {n : Nat} (h : n ≤ 400) : ∀ v ∈ left' n, Okv v := fun v hv => by
  obtain ⟨k, hk, rfl⟩ := List.mem_map.mp hv
  rw [List.mem_range] at hk
  exact .inl ⟨_, rfl, by first | lia | omega, by first | lia | omega⟩
set_option maxHeartbeats 4000000 in
theorem deep_ok : Ver spDeep B_law_deep N_law_deep 6 := by
  intro ps H Q X' h
  have hL : LIM = 1048576 := rfl
  obtain ⟨p, q, b, X, Y, Z, rw', kvs, vs, many, sm, lv, rfl, hp, h3, hq, hb, hv, hvl, hmany, hsm, hQ⟩ := h
  refine ⟨rfl, ?_⟩
  have hX : X ∈ [X, Y, Z] := List.mem_cons_self ..
  have hxne : rw' X ≠ [] := by rw [h3.rx]; exact fun q => (nomatch q)
  have traceD := Mine.deep h3 (n := many) (pre := []) (st := vs) (fun _ h => (nomatch h)) hmany (by first | lia | omega) (by rw [List.length_nil]; first | lia | omega)
  have traceO := whole h3 (n := 1) (pre := []) (st := vs) (fun f hf => (nomatch hf)) (fun _ h => (nomatch h)) (by decide) (by first | lia | omega) (by decide)
  rw [List.nil_append] at traceD traceO
  refine O_subL hq rfl ?_
  refine fun c₁ H₁ hc₁ h₁ e₁ => ?_
  refine O_addL (e₁.at hb) h₁ (by rw [List.length_singleton]; first | lia | omega) fun s₁ H₂ hs₁ h₂ e₂ => ?_
  have e12 := e₁.trans e₂
  refine fun a₁ d₁ H₃ ha₁ hd₁ i₁ j₁ e₃ => ?_
  have e13 := e12.trans e₃
  have fd₁ : H d₁ = none := e12.none_of hd₁
  refine U_init ⟨a₁, d₁, p, s₁, X, vs ++ [.int many], rw', _, kvs, rfl, i₁, j₁, hp.ext e13, hX, hxne, e₃.at h₂, fun H₄ m₄ x₄ => ⟨rfl, ?_⟩⟩
  have e14 : Ext H H₄ := ExtB.fresh fd₁ e13 x₄
  clear e13 e12 e₃ i₁ j₁ h₂ hs₁ e₂ h₁ hc₁ e₁ x₄ ha₁ hd₁ H₃ H₂ H₁
  refine O_subL (e14.at hq) rfl ?_
  refine fun c₁ H₁ hc₁ h₁ e₁ => ?_
  refine O_addL (e₁.at (e14.at hb)) h₁ (by rw [List.length_singleton]; first | lia | omega) fun s₂ H₂ hs₂ h₂ e₂ => ?_
  have e42 := e₁.trans e₂
  refine fun a₂ d₂ H₃ ha₂ hd₂ i₂ j₂ e₃ => ?_
  have e43 := e42.trans e₃
  have fd₂ : H d₂ = none := e14.none_of (e42.none_of hd₂)
  have hdd : d₁ ≠ d₂ := by obtain ⟨k, hk⟩ := m₄.attrs; exact ne_of (e42.at hk) hd₂
  refine U_init ⟨a₂, d₂, p, s₂, X, vs ++ [.int 1], rw', _, kvs, rfl, i₂, j₂, hp.ext (e14.trans e43), hX, hxne, e₃.at h₂, fun H₅ m₅ x₅ => ⟨rfl, ?_⟩⟩
  have m₁ : Mch H₅ a₁ d₁ p (vs ++ [.int many]) [(X, 0)] := (m₄.ext e43).keep ⟨_, j₂⟩ hdd x₅
  have e15 : Ext H H₅ := ExtB.fresh fd₂ (e14.trans e43) x₅
  clear e43 e42 e₃ i₂ j₂ h₂ hs₂ e₂ h₁ hc₁ e₁ x₅ m₄ e14 ha₂ hd₂ H₃ H₂ H₁ H₄
  refine fun l H₁ hl h₁ e₁ => ?_
  replace e15 := e15.trans e₁
  replace m₁ := m₁.ext e₁
  replace m₅ := m₅.ext e₁
  clear e₁ hl H₅
  have hT : (5 + (if lv = true then 1 else 0)) * (many : Int) = (((if lv = true then 6 else 5) * many : Nat) : Int) := by cases lv <;> simp
  have hTl : (if lv = true then 6 else 5) * many ≤ 2400 := by cases lv <;> simp <;> first | lia | omega
  refine O_mulI (.inl (by cases lv <;> decide)) ?_
  rw [hT]
  refine O_range (by first | lia | omega) ?_
  generalize (if lv = true then 6 else 5) * many = T at traceD hTl
  refine forR (fun j m H' => Ex6 fun (st₁ : List PV) (fr₁ : Frs) (st₂ : List PV) (fr₂ : Frs) (k : Nat) (x : Option PV) => An8 (m = [some (.obj p), some (.obj q), some (.obj b), some (.int many), some (.bool lv), some (.int sm), some (.obj a₁), some (.obj a₂), some (.obj l), x, none, none]) (Mch H' a₁ d₁ p st₁ fr₁) (Mch H' a₂ d₂ p st₂ fr₂) (Sps rw' [X, Y, Z] (T - j) st₁ fr₁ (vs ++ (if lv then left' many else []) ++ [.int 0]) ((List.replicate many [(X, 2), (Y, if lv then 4 else 3)]).flatten ++ [(X, 0)])) (Sps rw' [X, Y, Z] k st₂ fr₂ (vs ++ [.int (res sm lv 1)]) []) (k ≤ 9) (H' l = some (.list [])) (Ext H H')) ?_ ?_ _ _
    ⟨_, _, _, _, 9, none, rfl, m₁, m₅, traceD, traceO, Nat.le_refl _, h₁, e15⟩
  rotate_left
  · clear m₁ m₅ traceD traceO h₁ e15 H₁
    rintro j m H' hj ⟨st₁, fr₁, st₂, fr₂, k, x, rfl, m₁, m₂, tr, tr₂, hk, hl, e'⟩ K hK
    rw [Int.toNat_natCast] at hj
    have hsub : T - j = (T - (j + 1)) + 1 := by first | lia | omega
    rw [hsub] at tr
    obtain ⟨s', f', t1, t2⟩ := tr.succ_inv
    have ml : ∀ {d : Addr}, (∃ k, H' d = some (.attrs k)) → l ≠ d := fun ⟨_, h⟩ q => by rw [q, h] at hl; cases hl
    obtain ⟨_, _, ha, hd, _, _⟩ := id m₁
    refine O_umeth ha hd (MA_step ..) ?_
    refine U_step ⟨a₁, d₁, p, _, s', _, f', rw', _, kvs, rfl, m₁, hp.ext e', .inr t1, fun H₂ m₂' x₂ => ?_⟩
    have n₂ := m₂.keep m₁.attrs (Ne.symm hdd) x₂
    have l₂ := x₂.at (ml m₁.attrs) hl
    have e₂ := ExtB.fresh fd₁ e' x₂
    refine O_ite (fun _ => ?_) (fun _ => ?_)
    · obtain ⟨s'', f'', u1, u2⟩ := tr₂.adv
      obtain ⟨_, _, ha, hd, _, _⟩ := id n₂
      refine O_umeth ha hd (MA_step ..) ?_
      refine U_step ⟨a₂, d₂, p, _, s'', _, f'', rw', _, kvs, rfl, n₂, hp.ext e₂, u1, fun H₃ m₃ x₃ => ?_⟩
      exact hK _ _ ⟨s', f', s'', f'', k - 1, _, rfl, m₂'.keep n₂.attrs hdd x₃, m₃, t2, u2, by first | lia | omega, x₃.at (ml m₂.attrs) l₂, ExtB.fresh fd₂ e₂ x₃⟩
    · exact hK _ _ ⟨s', f', st₂, fr₂, k, _, rfl, m₂', n₂, t2, tr₂, hk, l₂, e₂⟩
  clear m₁ m₅ traceD traceO h₁ e15 H₁
  rintro m H₁ ⟨st₁, fr₁, st₂, fr₂, k, x, rfl, m₁, m₂, tr, tr₂, hk, hl, e₁⟩
  rw [Int.toNat_natCast, Nat.sub_self] at tr
  generalize hS : vs ++ (if lv then left' many else []) ++ [.int 0] = stF at tr
  generalize hF : (List.replicate many [(X, 2), (Y, if lv then 4 else 3)]).flatten ++ [(X, 0)] = frF at tr
  obtain ⟨rfl, rfl⟩ := tr.zero_inv
  refine O_range (by decide) ?_
  refine forR (fun j m H' => Ex4 fun (st₂ : List PV) (fr₂ : Frs) (k : Nat) (x : Option PV) => An7 (m = [some (.obj p), some (.obj q), some (.obj b), some (.int many), some (.bool lv), some (.int sm), some (.obj a₁), some (.obj a₂), some (.obj l), x, none, none]) (Mch H' a₁ d₁ p stF frF) (Mch H' a₂ d₂ p st₂ fr₂) (Sps rw' [X, Y, Z] k st₂ fr₂ (vs ++ [.int (res sm lv 1)]) []) (k ≤ 9 - j) (H' l = some (.list [])) (Ext H H')) ?_ ?_ _ _
    ⟨_, _, k, x, rfl, m₁, m₂, tr₂, hk, hl, e₁⟩
  rotate_left
  · clear m₁ m₂ tr₂ hk hl e₁ H₁
    rintro j m H' hj ⟨st₂, fr₂, k, x, rfl, m₁, m₂, tr₂, hk, hl, e'⟩ K hK
    obtain ⟨s'', f'', u1, u2⟩ := tr₂.adv
    obtain ⟨_, _, ha, hd, _, _⟩ := id m₂
    refine O_umeth ha hd (MA_step ..) ?_
    refine U_step ⟨a₂, d₂, p, _, s'', _, f'', rw', _, kvs, rfl, m₂, hp.ext e', u1, fun H₃ m₃ x₃ => ?_⟩
    exact hK _ _ ⟨s'', f'', k - 1, _, rfl, m₁.keep m₂.attrs hdd x₃, m₃, u2, by first | lia | omega, x₃.at (fun q => by rw [q, hd] at hl; cases hl) hl, ExtB.fresh fd₂ e' x₃⟩
  clear m₁ m₂ tr₂ hk hl e₁ H₁
  rintro m H₁ ⟨st₂, fr₂, k, x, rfl, m₁, m₂, tr₂, hk, hl, e₁⟩
  obtain rfl : k = 0 := by have : (9 : Int).toNat = 9 := rfl; first | lia | omega
  generalize hO : vs ++ [.int (res sm lv 1)] = stO at tr₂
  obtain ⟨rfl, rfl⟩ := tr₂.zero_inv
  obtain ⟨sA, fA, ha, hd, hs, hf⟩ := id m₂
  refine O_umeth ha hd (MA_over ..) ?_
  refine U_over ⟨a₂, d₂, p, _, _, rfl, m₂, ?_⟩
  refine O_attr ha hd (MA_s ..) ?_
  refine fun z H₂ hz h₂ e₂ => ?_
  refine O_subL h₂ (res_one hsm.1 hsm.2) ?_
  refine fun z' H₃ hz' h₃ e₃ => ?_
  have e13 := e₁.trans (e₂.trans e₃)
  refine O_addL (e13.at hb) h₃ (by rw [List.length_singleton]; first | lia | omega) fun z₂ H₄ hz₂ h₄ e₄ => ?_
  have e24 := (e₂.trans e₃).trans e₄
  have oO : ∀ v ∈ stO, Okv v := by rw [← hO]; exact okv_app hv (okv_one (res_bd sm lv 1))
  rw [hO] at h₄
  refine U_alike ⟨sA, z₂, stO, rfl, e24.at hs, h₄, oO, by rw [← hO, List.length_append, List.length_singleton]; first | lia | omega, ?_⟩
  replace m₁ := m₁.ext e24
  replace hl := e24.at hl
  replace e₁ := e₁.trans e24
  clear m₂ ha hd hs hf h₄ h₃ h₂ hz hz' hz₂ e13 e24 e₂ e₃ e₄ oO H₂ H₃ sA fA
  refine W_cut (fun m H' => Ex1 fun (l' : Addr) => An4 (m = [some (.obj p), some (.obj q), some (.obj b), some (.int many), some (.bool lv), some (.int sm), some (.obj a₁), some (.obj a₂), some (.obj l'), m.getD 9 none, none, m.getD 11 none]) (H' l' = some (.list (if lv then left' many else []))) (Mch H' a₁ d₁ p stF frF) (Ext H H')) ?_ ?_
  · intro K hK
    cases lv with
    | false => exact hK _ _ ⟨l, rfl, hl, m₁, e₁⟩
    | true =>
      refine O_range (by first | lia | omega) ?_
      refine compR (fun j acc H' => An2 (acc = (List.range j).map fun (k : Nat) => PV.int ((many : Int) - k)) (H' = H₄)) ?_ ?_ _ ⟨rfl, rfl⟩
      · rintro acc H' ⟨rfl, rfl⟩
        refine fun l' H₂ hl' h₂ e₂ => ?_
        exact hK _ _ ⟨l', rfl, h₂, m₁.ext e₂, e₁.trans e₂⟩
      · rintro j acc H' hj ⟨rfl, rfl⟩ K' hK'
        exact hK' _ _ ⟨by rw [List.range_succ, List.map_append]; rfl, rfl⟩
  clear hl m₁ e₁ H₄
  rintro m H₁ ⟨l', hm, hl, m₁, e₁⟩
  rw [hm]
  clear hm
  refine O_subL (e₁.at hq) rfl ?_
  refine O_subL (e₁.at hq) rfl ?_
  refine fun z H₂ hz h₂ e₂ => ?_
  refine O_mulL h₂ (by first | lia | omega) (by first | lia | omega) (by rw [Int.toNat_natCast]; simp; first | lia | omega) fun z₂ H₃ hz₂ h₃ e₃ => ?_
  refine O_subL (e₃.at (e₂.at (e₁.at hq))) rfl ?_
  refine fun z₃ H₄ hz₃ h₄ e₄ => ?_
  have hrl : (repL (many : Int) [PV.tup [.str X, .int 2], .tup [.str Y, .int (3 + if lv = true then 1 else 0)]]) = frPV ((List.replicate many [(X, 2), (Y, if lv then 4 else 3)]).flatten) := by
    rw [fr_rep]
    unfold repL
    rw [Int.toNat_natCast]
    cases lv <;> rfl
  rw [hrl] at h₃
  have hfl : (frPV ((List.replicate many [(X, 2), (Y, if lv then 4 else 3)]).flatten)).length ≤ 1000 := by
    unfold frPV; rw [List.length_map, List.length_flatten]; simp; first | lia | omega
  refine O_addL (e₄.at h₃) h₄ (by rw [List.length_singleton]; first | lia | omega) fun z₄ H₅ hz₄ h₅ e₅ => ?_
  rw [show [PV.tup [.str X, .int 0]] = frPV [(X, 0)] from rfl, ← fr_app, hF] at h₅
  have e25 := ((e₂.trans e₃).trans e₄).trans e₅
  replace m₁ := m₁.ext e25
  obtain ⟨sA, fA, ha, hd, hs, hf⟩ := id m₁
  refine O_attr ha hd (MA_f ..) ?_
  refine CmpW.eq (.val (.list (n := 39) hf h₅ (fr_same frF))) ?_
  refine O_umeth ha hd (MA_over ..) ?_
  refine U_over ⟨a₁, d₁, p, _, _, rfl, m₁, ?_⟩
  rw [show frF.isEmpty = false by rw [← hF]; cases (List.replicate many [(X, 2), (Y, if lv then 4 else 3)]).flatten <;> rfl]
  refine O_attr ha hd (MA_s ..) ?_
  have e15 := e₁.trans e25
  have hll : (if lv = true then left' many else []).length ≤ 400 := by cases lv <;> simp [left'] <;> first | lia | omega
  refine O_addL (e15.at hb) (e25.at hl) (by first | lia | omega) fun z₅ H₆ hz₅ h₆ e₆ => ?_
  refine fun z₆ H₇ hz₆ h₇ e₇ => ?_
  refine O_addL (e₇.at h₆) h₇ (by rw [List.length_append, List.length_singleton]; first | lia | omega) fun z₇ H₈ hz₇ h₈ e₈ => ?_
  rw [hS] at h₈
  refine U_alike ⟨sA, z₇, stF, rfl, e₈.at (e₇.at (e₆.at hs)), h₈, ?_, by rw [← hS, List.length_append, List.length_append, List.length_singleton]; first | lia | omega, hQ _⟩
  rw [← hS]
  refine okv_app (okv_app hv ?_) (okv_one ⟨Int.le_refl _, by decide⟩)
  cases lv with
  | false => exact fun _ h => (nomatch h)
  | true => exact left_ok hmany
end Mine
end
section
open PySem PySem.W PySem.Calls PyProof.Rows
namespace Mine
set_option autoImplicit false

theorem Pg.keep2 {H H' : AHeap} {p t b : Addr} {n : Nat} {rw' : Str → List R} {ns : List Str} {kvs} (h : Pg H p rw' ns kvs) (ht : H t = some (.tape n)) (hb : H b = none) (e : ∀ y o, y ≠ t → y ≠ b → H y = some o → H' y = some o) : Pg H' p rw' ns kvs :=
  ⟨e p _ (fun q => by have := h.ha; rw [q, ht] at this; cases this) (ne_of h.ha hb) h.ha, fun n hn => let ⟨a, h1, h2⟩ := h.at' n hn; ⟨a, h1, e a _ (fun q => by rw [q, ht] at h2; cases h2) (ne_of h2 hb) h2⟩, h.sm, h.cl⟩
theorem pick6 {r : Int} (r0 : 0 ≤ r) (r1 : r < 6) : ∃ i : Int, itemAt [PV.int 0, PV.int 0, PV.int 0, PV.int 0, PV.int 0, PV.int 60] r = some (.int i) ∧ 0 ≤ i ∧ i ≤ 60 := by
  have : r = 0 ∨ r = 1 ∨ r = 2 ∨ r = 3 ∨ r = 4 ∨ r = 5 := by first | lia | omega
  rcases this with rfl | rfl | rfl | rfl | rfl | rfl
  · exact ⟨0, rfl, by decide, by decide⟩
  · exact ⟨0, rfl, by decide, by decide⟩
  · exact ⟨0, rfl, by decide, by decide⟩
  · exact ⟨0, rfl, by decide, by decide⟩
  · exact ⟨0, rfl, by decide, by decide⟩
  · exact ⟨60, rfl, by decide, by decide⟩
theorem kind_at {r : Int} (r0 : 0 ≤ r) (r1 : r < 2) : ∃ s : Str, itemAt [PV.str "num", PV.str "text"] r = some (.str s) := by
  have : r = 0 ∨ r = 1 := by first | lia | omega
  rcases this with rfl | rfl
  · exact ⟨"num", rfl⟩
  · exact ⟨"text", rfl⟩
theorem nb {n c : Nat} (h : n ≤ c) (hc : c < 2 ^ 57) (k : Nat) (hk : 2 ^ 57 ≤ 2 ^ k) : n < 2 ^ k := Nat.lt_of_lt_of_le (Nat.lt_of_le_of_lt h hc) hk
set_option maxRecDepth 10000 in
set_option maxHeartbeats 4000000 in
theorem law_ok : Ver spLaw B_law N_law 1 := by
  intro ps H Q X' h
  have hL : LIM = 1048576 := rfl
  obtain ⟨xs, rfl, hx, hQ⟩ := h
  refine ⟨rfl, ?_⟩
  refine fun t H₁ ht h₁ e₁ => ?_
  refine U_value ⟨xs, t, "num", 0, rfl, hx, h₁, by decide, fun v H₂ hv hk t₂ e₂ => ?_⟩
  obtain ⟨sm, rfl, hs0, hs1⟩ := okv_num hv (hk.trans (by decide +kernel))
  refine U_draw ⟨xs, t, _, 2, rfl, hx, t₂, by decide, by decide, fun many H₃ m0 m1 t₃ e₃ => ?_⟩
  refine W_cut (fun m H' => Ex2 fun (many n : Nat) => An4 (m = [some (.fls xs), some (.obj t), some (.int sm), some (.int many), none, none, none, none, none, none, none, none, none, none]) (many ≤ 400) (n ≤ 10) (H' t = some (.tape n))) ?_ ?_
  · intro K hK
    refine U_draw ⟨xs, t, _, 3, rfl, hx, t₃, by decide, by decide, fun r H₄ r0 r1 t₄ e₄ => ?_⟩
    refine O_ite (fun _ => ?_) (fun _ => ?_)
    · refine U_draw ⟨xs, t, _, 4, rfl, hx, t₄, by decide, by decide, fun a H₅ a0 a1 t₅ e₅ => ?_⟩
      refine U_draw ⟨xs, t, _, 5, rfl, hx, t₅, by decide, by decide, fun b H₆ b0 b1 t₆ e₆ => ?_⟩
      refine O_mulI (.inl (by decide)) ?_
      have hb : ∃ k : Nat, a + 300 * (if (b == 1) = true then 1 else 0) = k ∧ k ≤ 400 := by
        cases (b == 1) with
        | true => exact ⟨(a + 300).toNat, by simp; first | lia | omega, by first | lia | omega⟩
        | false => exact ⟨a.toNat, by simp; first | lia | omega, by first | lia | omega⟩
      obtain ⟨k, hk, hk'⟩ := hb
      refine hK _ _ ⟨k, 6, ?_, hk', by decide, t₆⟩
      rw [← hk]; rfl
    · obtain ⟨k, rfl⟩ := Int.eq_ofNat_of_zero_le m0
      exact hK _ _ ⟨k, 4, rfl, by first | lia | omega, by decide, t₄⟩
  clear t₃ e₃ m1 m0 many H₃ e₂ t₂ hk hv H₂ e₁ h₁ ht H₁
  rintro m H₁ ⟨many, n, rfl, hmany, hn, t₁⟩
  refine U_draw ⟨xs, t, _, n, rfl, hx, t₁, nb hn (by decide) _ (by decide), by decide, fun way H₂ w0 w1 t₂ e₂ => ?_⟩
  refine U_draw ⟨xs, t, _, n + 1, rfl, hx, t₂, nb (Nat.succ_le_succ hn) (by decide) _ (by decide), by decide, fun r H₃ r0 r1 t₃ e₃ => ?_⟩
  refine U_program ⟨xs, t, n + 2, sm, (r == 0), rfl, hx, t₃, nb (Nat.succ_le_succ (Nat.succ_le_succ hn)) (by decide) _ (by decide), fun p q X Y Z rw' kvs n' H₄ hp h3 hq hn' t₄ e₄ => ?_⟩
  refine ⟨rfl, ?_⟩
  clear e₄ t₃ e₃ e₂ t₂ t₁ H₃ H₂ H₁
  replace hn' : n' ≤ 22 := Nat.le_trans hn' (by first | lia | omega)
  clear hn n
  refine fun b H₅ hb h₅ e₅ => ?_
  have hbt : b ≠ t := Ne.symm (ne_of t₄ hb)
  refine U_draw ⟨xs, t, _, n', rfl, hx, e₅.at t₄, nb hn' (by decide) _ (by decide), by decide, fun a H₆ a0 a1 t₆ e₆ => ?_⟩
  refine fun z H₇ hz h₇ e₇ => ?_
  refine U_draw ⟨xs, t, _, n' + 1, rfl, hx, e₇.at t₆, nb (Nat.succ_le_succ hn') (by decide) _ (by decide), by decide, fun c H₈ c0 c1 t₈ e₈ => ?_⟩
  have hzt : z ≠ t := Ne.symm (ne_of t₆ hz)
  obtain ⟨i, hi, i0, i1⟩ := pick6 c0 c1
  refine O_subL (e₈.at hzt h₇) hi ?_
  refine O_range (by first | lia | omega) ?_
  have b₈ := e₈.at hbt (e₇.at (e₆.at hbt h₅))
  refine forR (fun j m H' => Ex3 fun (vs : List PV) (n : Nat) (x : Option PV) => An7 (m = [some (.fls xs), some (.obj t), some (.int sm), some (.int many), some (.int way), some (.bool (r == 0)), some (.obj p), some (.obj q), some (.obj b), x, none, none, none, none]) (vs.length = j) (∀ v ∈ vs, Okv v) (H' b = some (.list vs)) (n ≤ 24 + 3 * j) (H' t = some (.tape n)) (∀ y o, y ≠ t → y ≠ b → H₄ y = some o → H' y = some o)) ?_ ?_ _ _
    ⟨[], n' + 2, none, rfl, rfl, fun _ h => (nomatch h), b₈, by first | lia | omega, t₈, fun y o h1 h2 h => e₈.at h1 (e₇.at (e₆.at h1 (e₅.at h)))⟩
  rotate_left
  · clear b₈ hi hzt t₈ e₈ c1 c0 h₇ e₇ hz t₆ e₆ h₅ e₅ H₅ H₆ H₇ H₈
    rintro j m H' hj ⟨vs, n, x, rfl, hvl, hv, hb', hn, ht', x'⟩ K hK
    have hj2 : j ≤ 100 := by
      have := hj
      first | lia | omega
    refine O_recv hb' rfl ?_
    refine fun z H₅ hz h₅ e₅ => ?_
    have hzt : z ≠ t := Ne.symm (ne_of ht' hz)
    refine U_draw ⟨xs, t, _, n, rfl, hx, e₅.at ht', nb hn (by first | lia | omega) _ (by decide), by decide, fun a' H₆ a0' a1' t₆ e₆ => ?_⟩
    obtain ⟨s, hs⟩ := kind_at a0' a1'
    refine O_subL (e₆.at hzt h₅) hs ?_
    refine U_value ⟨xs, t, s, n + 1, rfl, hx, t₆, nb (Nat.succ_le_succ hn) (by first | lia | omega) _ (by decide), fun v H₇ hv' _ t₇ e₇ => ?_⟩
    have b₇ := e₇.at hbt (e₆.at hbt (e₅.at hb'))
    refine O_append b₇ (by rw [hvl]; first | lia | omega) fun H₈ h₈ e₈ => ?_
    refine hK _ _ ⟨vs ++ [v], n + 3, _, rfl, by rw [List.length_append, hvl]; rfl, fun w hw => ?_, h₈, by first | lia | omega, e₈.at (Ne.symm hbt) t₇, fun y o h1 h2 h => e₈.at h2 (e₇.at h1 (e₆.at h1 (e₅.at (x' y o h1 h2 h))))⟩
    rcases List.mem_append.mp hw with hw | hw
    · exact hv w hw
    · rw [List.mem_singleton.mp hw]; exact hv'
  rintro m H₉ ⟨vs, n, x, rfl, hvl, hv, b₉, hn₉, t₉, x₉⟩
  have hvl' : vs.length ≤ 100 := by
    rw [hvl]; first | lia | omega
  replace hn₉ : n ≤ 400 := by first | lia | omega
  replace hp := hp.keep2 t₄ hb x₉
  replace hq : H₉ q = some (.list [.str X, .str Y, .str Z]) := x₉ q _ (fun e => by rw [e, t₄] at hq; cases hq) (ne_of hq hb) hq
  clear x₉ hvl b₈ hi i1 i0 hzt t₈ e₈ c1 c0 h₇ e₇ hz t₆ e₆ a1 a0 h₅ e₅ hb t₄ H₅ H₆ H₇ H₈ H₄ hn' n' i z
  refine O_mulI (.inl (by decide)) ?_
  refine O_subL hq rfl ?_
  refine U_letby ⟨p, X, Y, Z, sm, _, rw', kvs, rfl, hp, h3, fun H₁ e₁ => ?_⟩
  refine CmpW.niB ?_
  refine O_subL (e₁.at hq) rfl ?_
  refine U_height ⟨p, X, Y, Z, sm, _, rw', kvs, rfl, hp.ext e₁, h3, fun H₂ e₂ => ?_⟩
  have e12 := e₁.trans e₂
  replace hp := hp.ext e12
  replace hq := e12.at hq
  replace b₉ := e12.at b₉
  replace t₉ := e12.at t₉
  clear e12 e₁ e₂ H₁ H₉
  have hpt : p ≠ t := fun e => by have := hp.ha; rw [e, t₉] at this; cases this
  have hqt : q ≠ t := fun e => by rw [e, t₉] at hq; cases hq
  refine W_cut (fun m H' => m = [some (.fls xs), some (.obj t), some (.int sm), some (.int many), some (.int way), some (.bool (r == 0)), some (.obj p), some (.obj q), some (.obj b), x, some (.int (7 * many + 2)), some (.int (7 * many + 2)), none, none] ∧ H' = H₂) (fun K hK => hK _ _ ⟨rfl, rfl⟩) ?_
  rintro m H' ⟨rfl, rfl⟩
  refine W_cut (fun m H' => Ex3 fun (fuel : Nat) (n : Nat) (x : Option PV) => An7 (m = [some (.fls xs), some (.obj t), some (.int sm), some (.int many), some (.int way), some (.bool (r == 0)), some (.obj p), some (.obj q), some (.obj b), x, some (.int (7 * many + 2)), some (.int fuel), none, none]) (n ≤ 401) (Pg H' p rw' [X, Y, Z] kvs) (H' q = some (.list [.str X, .str Y, .str Z])) (H' b = some (.list vs)) (H' t = some (.tape n)) (fuel ≤ 10000)) ?_ ?_
  · intro K hK
    refine O_ite (fun _ => ?_) (fun _ => ?_)
    · refine U_draw ⟨xs, t, _, n, rfl, hx, t₉, nb hn₉ (by decide) _ (by decide), by first | lia | omega, fun f H₃ f0 f1 t₃ e₃ => ?_⟩
      obtain ⟨f, rfl⟩ := Int.eq_ofNat_of_zero_le f0
      exact hK _ _ ⟨f, n + 1, _, rfl, by first | lia | omega, hp.stepB t₉ (fun _ q => nomatch q) (fun _ q => nomatch q) e₃, e₃.at hqt hq, e₃.at hbt b₉, t₃, by first | lia | omega⟩
    · exact hK _ _ ⟨7 * many + 2, n, _, rfl, by first | lia | omega, hp, hq, b₉, t₉, by first | lia | omega⟩
  clear hp hq b₉ t₉ hn₉ hpt hqt H' n
  rintro m H₁ ⟨fuel₀, n, y, rfl, hn, hp, hq, hb, ht, hfl₀⟩
  have hqt : q ≠ t := fun e => by rw [e, ht] at hq; cases hq
  refine W_cut (fun m H' => Ex2 fun (fuel : Nat) (x : Option PV) => An4 (m = [some (.fls xs), some (.obj t), some (.int sm), some (.int many), some (.int way), some (.bool (r == 0)), some (.obj p), some (.obj q), some (.obj b), x, some (.int (7 * many + 2)), some (.int fuel), none, none]) (Pg H' p rw' [X, Y, Z] kvs) (H' q = some (.list [.str X, .str Y, .str Z])) (H' b = some (.list vs))) ?_ ?_
  · intro K hK
    refine O_ite (fun _ => ?_) (fun _ => ?_)
    · refine U_draw ⟨xs, t, _, n, rfl, hx, ht, nb hn (by decide) _ (by decide), by decide, fun f H₃ f0 f1 t₃ e₃ => ?_⟩
      obtain ⟨f, rfl⟩ := Int.eq_ofNat_of_zero_le f0
      exact hK _ _ ⟨7 * many + 2 + 1 + f, _, rfl, hp.stepB ht (fun _ q => nomatch q) (fun _ q => nomatch q) e₃, e₃.at hqt hq, e₃.at hbt hb⟩
    · exact hK _ _ ⟨fuel₀, _, rfl, hp, hq, hb⟩
  clear hp hq hb ht hn hqt hfl₀ H₁ n fuel₀ y
  rintro m H₁ ⟨fuel, y, rfl, hp, hq, hb⟩
  have tr := whole h3 (n := many) (pre := []) (st := vs) (fun f hf => (nomatch hf)) (fun _ h => (nomatch h)) hmany (by first | lia | omega) (by rw [List.length_nil]; first | lia | omega)
  rw [List.nil_append] at tr
  have hres := res_ok sm (r == 0) hs0 hs1 many hmany
  refine O_subL hq rfl ?_
  refine fun c H₂ hc h₂ e₂ => ?_
  refine O_addL (e₂.at hb) h₂ (by rw [List.length_singleton]; first | lia | omega) fun s H₃ hs h₃ e₃ => ?_
  have e13 := e₂.trans e₃
  refine U_lrun ⟨p, s, X, _, _, _, fuel, rw', _, kvs, rfl, hp.ext e13, List.mem_cons_self .., by rw [h3.rx]; exact fun q => (nomatch q), h₃, tr, fun hle f H₄ h₄ e₄ => ?_, fun hlt H₄ e₄ => ?_⟩
  · refine I_neg (by simp; first | lia | omega) ?_
    have e14 := e13.trans e₄
    refine O_mulI (.inr (by first | lia | omega)) ?_
    refine O_powI ?_
    have deep : ∀ H', Ext H₄ H' → g01.C "_law_deep" [.obj p, .obj q, .obj b, .int many, .bool (r == 0), .int sm] H' Q fun c H => X' c H := fun H' e' =>
      U_deep ⟨p, q, b, X, Y, Z, rw', kvs, vs, many, sm, _, rfl, hp.ext (e14.trans e'), h3, (e14.trans e').at hq, (e14.trans e').at hb, hv, hvl', hmany, ⟨hs0, hs1⟩, hQ⟩
    have fin : ∀ {H₅ H₆ : AHeap} {c g : Addr} {due : Int}, due = res sm (r == 0) many → Ext H₄ H₆ → H₆ g = some (.list (vs ++ [.int due])) → ∀ Q' : Post, Q' (.bool true) H₆ → g01.C "_law_alike" [.obj f, .obj g] H₆ Q' fun c H => X' c H := fun hd e' h' Q' hQ' => by
      rw [hd] at h'
      exact U_alike ⟨f, _, _, rfl, e'.at h₄, h', okv_app hv (okv_one (res_bd sm _ many)), by rw [List.length_append, List.length_singleton]; first | lia | omega, hQ'⟩
    refine O_ite (fun hlv => ?_) (fun hlv => ?_)
    · refine O_mulI (.inl (by first | lia | omega)) ?_
      refine fun c' H₅ hc' h₅ e₅ => ?_
      refine O_addL (e₅.at (e14.at hb)) h₅ (by rw [List.length_singleton]; first | lia | omega) fun g H₆ hg h₆ e₆ => ?_
      refine fin (H₅ := H₅) (c := c') (hres.trans (if_pos hlv)).symm (e₅.trans e₆) h₆ _ ?_
      exact deep H₆ (e₅.trans e₆)
    · refine fun c' H₅ hc' h₅ e₅ => ?_
      refine O_addL (e₅.at (e14.at hb)) h₅ (by rw [List.length_singleton]; first | lia | omega) fun g H₆ hg h₆ e₆ => ?_
      refine fin (H₅ := H₅) (c := c') (hres.trans (if_neg hlv)).symm (e₅.trans e₆) h₆ _ ?_
      exact deep H₆ (e₅.trans e₆)
  · refine I_pos (by simp; first | lia | omega) ?_
    exact hQ _
end Mine
end
section
open PySem PySem.W PySem.Calls PyProof.Rows
namespace Mine
set_option autoImplicit false
set_option maxRecDepth 100000
section
variable {prog : Program} {w : World} {B : Heap} {mg mb : Str → Option Value} {loose : List Str} {mean : ExcName → Option Value}
noncomputable def cxL (prog : Program) (w : World) (B : Heap) (C : Addr) (mN : Str → Option Value) : Cx := { prog := prog, w := w, B := B, cls := fun c => csL[c]?, icls := some C, mN := mN, ga := mainGlobals, ba := builtinsNs }
theorem ci_BOUND (P : Params) : intChk (_root_.Mine.hd.heap_39 P) "BOUND" 1000000000 = true := by kernel_rfl
theorem cr_TAKES_rows (P : Params) : kmg (_root_.Mine.hd.heap_39 P) "TAKES_rows" = some (.ref (refAt (_root_.Mine.hd.heap_39 P) "TAKES_rows")) := by kernel_rfl
theorem cl_TAKES_rows (P : Params) : (_root_.Mine.hd.heap_39 P).lookup (refAt (_root_.Mine.hd.heap_39 P) "TAKES_rows") = some { cls := .type "dict", data := .dict (entV P (dictL (_root_.Mine.hd.heap_39 P) (refAt (_root_.Mine.hd.heap_39 P) "TAKES_rows"))) (dictEp (_root_.Mine.hd.heap_39 P) (refAt (_root_.Mine.hd.heap_39 P) "TAKES_rows")) } := by kernel_rfl
theorem ck_TAKES_rows (P : Params) : (dictL (_root_.Mine.hd.heap_39 P) (refAt (_root_.Mine.hd.heap_39 P) "TAKES_rows")).map (·.1) = (takes01.map fun e => (e.1, PV.tup (e.2.map .str))).map (·.1) := by kernel_rfl
theorem cn_TAKES_rows : ((takes01.map fun e => (e.1, PV.tup (e.2.map .str))).map (·.1)).Nodup := by decide +kernel
theorem cv_TAKES_rows (P : Params) : (((dictL (_root_.Mine.hd.heap_39 P) (refAt (_root_.Mine.hd.heap_39 P) "TAKES_rows")).zip (takes01.map fun e => (e.1, PV.tup (e.2.map .str)))).all fun e => valChk (_root_.Mine.hd.heap_39 P) e.1.2.2 e.2.2) = true := by kernel_rfl
theorem cr_TAKES_kinds (P : Params) : kmg (_root_.Mine.hd.heap_39 P) "TAKES_kinds" = some (.ref (refAt (_root_.Mine.hd.heap_39 P) "TAKES_kinds")) := by kernel_rfl
theorem cl_TAKES_kinds (P : Params) : (_root_.Mine.hd.heap_39 P).lookup (refAt (_root_.Mine.hd.heap_39 P) "TAKES_kinds") = some { cls := .type "dict", data := .dict (entV P (dictL (_root_.Mine.hd.heap_39 P) (refAt (_root_.Mine.hd.heap_39 P) "TAKES_kinds"))) (dictEp (_root_.Mine.hd.heap_39 P) (refAt (_root_.Mine.hd.heap_39 P) "TAKES_kinds")) } := by kernel_rfl
theorem ck_TAKES_kinds (P : Params) : (dictL (_root_.Mine.hd.heap_39 P) (refAt (_root_.Mine.hd.heap_39 P) "TAKES_kinds")).map (·.1) = (takes01.map fun e => (e.1, PV.tup (e.2.map .str))).map (·.1) := by kernel_rfl
theorem cn_TAKES_kinds : ((takes01.map fun e => (e.1, PV.tup (e.2.map .str))).map (·.1)).Nodup := by decide +kernel
theorem cv_TAKES_kinds (P : Params) : (((dictL (_root_.Mine.hd.heap_39 P) (refAt (_root_.Mine.hd.heap_39 P) "TAKES_kinds")).zip (takes01.map fun e => (e.1, PV.tup (e.2.map .str)))).all fun e => valChk (_root_.Mine.hd.heap_39 P) e.1.2.2 e.2.2) = true := by kernel_rfl
theorem cr_PUTS (P : Params) : kmg (_root_.Mine.hd.heap_39 P) "PUTS" = some (.ref (refAt (_root_.Mine.hd.heap_39 P) "PUTS")) := by kernel_rfl
theorem cl_PUTS (P : Params) : (_root_.Mine.hd.heap_39 P).lookup (refAt (_root_.Mine.hd.heap_39 P) "PUTS") = some { cls := .type "dict", data := .dict (entV P (dictL (_root_.Mine.hd.heap_39 P) (refAt (_root_.Mine.hd.heap_39 P) "PUTS"))) (dictEp (_root_.Mine.hd.heap_39 P) (refAt (_root_.Mine.hd.heap_39 P) "PUTS")) } := by kernel_rfl
theorem ck_PUTS (P : Params) : (dictL (_root_.Mine.hd.heap_39 P) (refAt (_root_.Mine.hd.heap_39 P) "PUTS")).map (·.1) = (puts01.map fun e => (e.1, PV.str e.2)).map (·.1) := by kernel_rfl
theorem cn_PUTS : ((puts01.map fun e => (e.1, PV.str e.2)).map (·.1)).Nodup := by decide +kernel
theorem cv_PUTS (P : Params) : (((dictL (_root_.Mine.hd.heap_39 P) (refAt (_root_.Mine.hd.heap_39 P) "PUTS")).zip (puts01.map fun e => (e.1, PV.str e.2))).all fun e => valChk (_root_.Mine.hd.heap_39 P) e.1.2.2 e.2.2) = true := by kernel_rfl
theorem cokL {C N : Addr} {mN : Str → Option Value} (X : (_root_.Mine.hd.heap_39 w.params).In B) (T : Top _root_.Mine.hd.view_39 loose mean mg mb B) (hC : mg "Machine" = some (.ref C)) (P : PlainAt B clsM C N mN) : Cok (cxL prog w B C mN) g01 [] mg mb 0 := by
  have hmg := kmg_eq X (k1 _) T.g
  refine cok_base (K := _root_.Mine.hd.heap_39 w.params) (cs := csL) X (k1 _) T rfl rfl rfl (k3 _) (k4 _) (k5 _) k6 ⟨C, N, rfl, hC, P.cls, fun x hx => P.quiet x (List.contains_iff_mem.mp (List.all_eq_true.mp clsM_hid x hx))⟩ fun x q h => ?_
  have hx := lookup_mem (l := cons01) (by delta g01 k01 at h; exact h)
  simp only [cons01, List.mem_cons, List.not_mem_nil, or_false, Prod.mk.injEq] at hx
  rcases hx with ⟨rfl, rfl⟩ | ⟨rfl, rfl⟩ | ⟨rfl, rfl⟩ | ⟨rfl, rfl⟩
  · exact fdt_ofV (cx := cxL prog w B C mN) X hmg (cr_TAKES_rows _) (cl_TAKES_rows _) (ck_TAKES_rows _) cn_TAKES_rows (cv_TAKES_rows _) fun _ _ e => e
  · exact fdt_ofV (cx := cxL prog w B C mN) X hmg (cr_TAKES_kinds _) (cl_TAKES_kinds _) (ck_TAKES_kinds _) cn_TAKES_kinds (cv_TAKES_kinds _) fun _ _ e => e
  · exact fdt_ofV (cx := cxL prog w B C mN) X hmg (cr_PUTS _) (cl_PUTS _) (ck_PUTS _) cn_PUTS (cv_PUTS _) fun _ _ e => e
  · exact int_of hmg (ci_BOUND _)
theorem fc_law_draw : fnChk [] N_law_draw 3 5 S_law_draw B_law_draw = true := by decide +kernel
theorem fc_law_words : fnChk ["_law_draw"] N_law_words 2 3 S_law_words B_law_words = true := by decide +kernel
theorem fc_law_value : fnChk ["_law_words", "_law_draw"] N_law_value 3 5 S_law_value B_law_value = true := by decide +kernel
theorem fc_kinds_of : fnChk ["_law_value", "_law_words", "_law_draw"] N_kinds_of 1 3 S_kinds_of B_kinds_of = true := by decide +kernel
theorem fc_need : fnChk ["kinds_of", "_law_value", "_law_words", "_law_draw"] N_need 2 2 S_need B_need = true := by decide +kernel
theorem fc_reckoned : fnChk ["need", "kinds_of", "_law_value", "_law_words", "_law_draw"] N_reckoned 2 2 S_reckoned B_reckoned = true := by decide +kernel
theorem fc_done : fnChk ["reckoned", "need", "kinds_of", "_law_value", "_law_words", "_law_draw"] N_done 2 6 S_done B_done = true := by decide +kernel
theorem fc_Machine_settle : fnChk ["done", "reckoned", "need", "kinds_of", "_law_value", "_law_words", "_law_draw"] N_Machine_settle 1 1 S_Machine_settle B_Machine_settle = true := by decide +kernel
theorem fc_Machine___init__ : fnChk ["Machine.settle", "done", "reckoned", "need", "kinds_of", "_law_value", "_law_words", "_law_draw"] N_Machine___init__ 4 4 S_Machine___init__ B_Machine___init__ = true := by decide +kernel
theorem fc_Machine_over : fnChk ["Machine.__init__", "Machine.settle", "done", "reckoned", "need", "kinds_of", "_law_value", "_law_words", "_law_draw"] N_Machine_over 1 1 S_Machine_over B_Machine_over = true := by decide +kernel
theorem fc_Machine_goal_of : fnChk ["Machine.over", "Machine.__init__", "Machine.settle", "done", "reckoned", "need", "kinds_of", "_law_value", "_law_words", "_law_draw"] N_Machine_goal_of 2 3 S_Machine_goal_of B_Machine_goal_of = true := by decide +kernel
theorem fc_Machine_step : fnChk ["Machine.goal_of", "Machine.over", "Machine.__init__", "Machine.settle", "done", "reckoned", "need", "kinds_of", "_law_value", "_law_words", "_law_draw"] N_Machine_step 1 6 S_Machine_step B_Machine_step = true := by decide +kernel
theorem fc_run : fnChk ["Machine.step", "Machine.goal_of", "Machine.over", "Machine.__init__", "Machine.settle", "done", "reckoned", "need", "kinds_of", "_law_value", "_law_words", "_law_draw"] N_run 4 6 S_run B_run = true := by decide +kernel
theorem fc_taken : fnChk ["run", "Machine.step", "Machine.goal_of", "Machine.over", "Machine.__init__", "Machine.settle", "done", "reckoned", "need", "kinds_of", "_law_value", "_law_words", "_law_draw"] N_taken 2 3 S_taken B_taken = true := by decide +kernel
theorem fc_block_of : fnChk ["taken", "run", "Machine.step", "Machine.goal_of", "Machine.over", "Machine.__init__", "Machine.settle", "done", "reckoned", "need", "kinds_of", "_law_value", "_law_words", "_law_draw"] N_block_of 2 2 S_block_of B_block_of = true := by decide +kernel
theorem fc_called : fnChk ["block_of", "taken", "run", "Machine.step", "Machine.goal_of", "Machine.over", "Machine.__init__", "Machine.settle", "done", "reckoned", "need", "kinds_of", "_law_value", "_law_words", "_law_draw"] N_called 3 4 S_called B_called = true := by decide +kernel
theorem fc_moved : fnChk ["called", "block_of", "taken", "run", "Machine.step", "Machine.goal_of", "Machine.over", "Machine.__init__", "Machine.settle", "done", "reckoned", "need", "kinds_of", "_law_value", "_law_words", "_law_draw"] N_moved 2 4 S_moved B_moved = true := by decide +kernel
theorem fc_behind : fnChk ["moved", "called", "block_of", "taken", "run", "Machine.step", "Machine.goal_of", "Machine.over", "Machine.__init__", "Machine.settle", "done", "reckoned", "need", "kinds_of", "_law_value", "_law_words", "_law_draw"] N_behind 3 7 S_behind B_behind = true := by decide +kernel
theorem fc_looked : fnChk ["behind", "moved", "called", "block_of", "taken", "run", "Machine.step", "Machine.goal_of", "Machine.over", "Machine.__init__", "Machine.settle", "done", "reckoned", "need", "kinds_of", "_law_value", "_law_words", "_law_draw"] N_looked 2 7 S_looked B_looked = true := by decide +kernel
theorem fc_trail_of : fnChk ["looked", "behind", "moved", "called", "block_of", "taken", "run", "Machine.step", "Machine.goal_of", "Machine.over", "Machine.__init__", "Machine.settle", "done", "reckoned", "need", "kinds_of", "_law_value", "_law_words", "_law_draw"] N_trail_of 2 3 S_trail_of B_trail_of = true := by decide +kernel
theorem fc_fault : fnChk ["trail_of", "looked", "behind", "moved", "called", "block_of", "taken", "run", "Machine.step", "Machine.goal_of", "Machine.over", "Machine.__init__", "Machine.settle", "done", "reckoned", "need", "kinds_of", "_law_value", "_law_words", "_law_draw"] N_fault 2 2 S_fault B_fault = true := by decide +kernel
theorem fc_named : fnChk ["fault", "trail_of", "looked", "behind", "moved", "called", "block_of", "taken", "run", "Machine.step", "Machine.goal_of", "Machine.over", "Machine.__init__", "Machine.settle", "done", "reckoned", "need", "kinds_of", "_law_value", "_law_words", "_law_draw"] N_named 1 3 S_named B_named = true := by decide +kernel
theorem fc_come_to : fnChk ["named", "fault", "trail_of", "looked", "behind", "moved", "called", "block_of", "taken", "run", "Machine.step", "Machine.goal_of", "Machine.over", "Machine.__init__", "Machine.settle", "done", "reckoned", "need", "kinds_of", "_law_value", "_law_words", "_law_draw"] N_come_to 2 5 S_come_to B_come_to = true := by decide +kernel
theorem fc_let_by : fnChk ["come_to", "named", "fault", "trail_of", "looked", "behind", "moved", "called", "block_of", "taken", "run", "Machine.step", "Machine.goal_of", "Machine.over", "Machine.__init__", "Machine.settle", "done", "reckoned", "need", "kinds_of", "_law_value", "_law_words", "_law_draw"] N_let_by 2 3 S_let_by B_let_by = true := by decide +kernel
theorem fc_height_by : fnChk ["let_by", "come_to", "named", "fault", "trail_of", "looked", "behind", "moved", "called", "block_of", "taken", "run", "Machine.step", "Machine.goal_of", "Machine.over", "Machine.__init__", "Machine.settle", "done", "reckoned", "need", "kinds_of", "_law_value", "_law_words", "_law_draw"] N_height_by 3 9 S_height_by B_height_by = true := by decide +kernel
theorem fc_height : fnChk ("height_by" :: ["let_by", "come_to", "named", "fault", "trail_of", "looked", "behind", "moved", "called", "block_of", "taken", "run", "Machine.step", "Machine.goal_of", "Machine.over", "Machine.__init__", "Machine.settle", "done", "reckoned", "need", "kinds_of", "_law_value", "_law_words", "_law_draw"]) N_height 2 6 S_height B_height = true := by decide +kernel
theorem fc_law_alike : fnChk ("height" :: "height_by" :: ["let_by", "come_to", "named", "fault", "trail_of", "looked", "behind", "moved", "called", "block_of", "taken", "run", "Machine.step", "Machine.goal_of", "Machine.over", "Machine.__init__", "Machine.settle", "done", "reckoned", "need", "kinds_of", "_law_value", "_law_words", "_law_draw"]) N_law_alike 2 3 S_law_alike B_law_alike = true := by decide +kernel
theorem fc_law_program : fnChk ("_law_alike" :: "height" :: "height_by" :: ["let_by", "come_to", "named", "fault", "trail_of", "looked", "behind", "moved", "called", "block_of", "taken", "run", "Machine.step", "Machine.goal_of", "Machine.over", "Machine.__init__", "Machine.settle", "done", "reckoned", "need", "kinds_of", "_law_value", "_law_words", "_law_draw"]) N_law_program 4 10 S_law_program B_law_program = true := by decide +kernel
theorem fc_law_run : fnChk ("_law_program" :: "_law_alike" :: "height" :: "height_by" :: ["let_by", "come_to", "named", "fault", "trail_of", "looked", "behind", "moved", "called", "block_of", "taken", "run", "Machine.step", "Machine.goal_of", "Machine.over", "Machine.__init__", "Machine.settle", "done", "reckoned", "need", "kinds_of", "_law_value", "_law_words", "_law_draw"]) N_law_run 4 4 S_law_run B_law_run = true := by decide +kernel
theorem fc_law_deep : fnChk ("_law_run" :: "_law_program" :: "_law_alike" :: "height" :: "height_by" :: ["let_by", "come_to", "named", "fault", "trail_of", "looked", "behind", "moved", "called", "block_of", "taken", "run", "Machine.step", "Machine.goal_of", "Machine.over", "Machine.__init__", "Machine.settle", "done", "reckoned", "need", "kinds_of", "_law_value", "_law_words", "_law_draw"]) N_law_deep 6 11 S_law_deep B_law_deep = true := by decide +kernel
theorem fc_law : fnChk ("_law_deep" :: "_law_run" :: "_law_program" :: "_law_alike" :: "height" :: "height_by" :: ["let_by", "come_to", "named", "fault", "trail_of", "looked", "behind", "moved", "called", "block_of", "taken", "run", "Machine.step", "Machine.goal_of", "Machine.over", "Machine.__init__", "Machine.settle", "done", "reckoned", "need", "kinds_of", "_law_value", "_law_words", "_law_draw"]) N_law 1 14 S_law B_law = true := by decide +kernel
theorem cokA {C N : Addr} {mN : Str → Option Value} (X : (_root_.Mine.hd.heap_39 w.params).In B) (T : Top _root_.Mine.hd.view_39 loose mean mg mb B) (hC : mg "Machine" = some (.ref C)) (P : PlainAt B clsM C N mN) : Cok (cxL prog w B C mN) g01 ("_law_deep" :: "_law_run" :: "_law_program" :: "_law_alike" :: "height" :: "height_by" :: ["let_by", "come_to", "named", "fault", "trail_of", "looked", "behind", "moved", "called", "block_of", "taken", "run", "Machine.step", "Machine.goal_of", "Machine.over", "Machine.__init__", "Machine.settle", "done", "reckoned", "need", "kinds_of", "_law_value", "_law_words", "_law_draw"]) mg mb 30 := by
  have c0 := cokL (prog := prog) X T hC P
  obtain ⟨d0, hd0, n0, b0, s0, a0⟩ := R_law_draw
  have c1 := c0.addT (f := "_law_draw") rfl T rfl rfl hd0 n0 b0 s0 a0 fc_law_draw (fun h => draw_ok (by delta g01 c01 at h; exact h))
  obtain ⟨d1, hd1, n1, b1, s1, a1⟩ := R_law_words
  have c2 := c1.addT (f := "_law_words") rfl T rfl rfl hd1 n1 b1 s1 a1 fc_law_words (fun h => words_ok (by delta g01 c01 at h; exact h))
  obtain ⟨d2, hd2, n2, b2, s2, a2⟩ := R_law_value
  have c3 := c2.addT (f := "_law_value") rfl T rfl rfl hd2 n2 b2 s2 a2 fc_law_value (fun h => value_ok (by delta g01 c01 at h; exact h))
  obtain ⟨d3, hd3, n3, b3, s3, a3⟩ := R_kinds_of
  have c4 := c3.addT (f := "kinds_of") rfl T rfl rfl hd3 n3 b3 s3 a3 fc_kinds_of (fun h => kindsof_ok (by delta g01 c01 at h; exact h))
  obtain ⟨d4, hd4, n4, b4, s4, a4⟩ := R_need
  have c5 := c4.addT (f := "need") rfl T rfl rfl hd4 n4 b4 s4 a4 fc_need (fun h => need_ok (by delta g01 c01 at h; exact h))
  obtain ⟨d5, hd5, n5, b5, s5, a5⟩ := R_reckoned
  have c6 := c5.addT (f := "reckoned") rfl T rfl rfl hd5 n5 b5 s5 a5 fc_reckoned (fun h => reckoned_ok (by delta g01 c01 at h; exact h))
  obtain ⟨d6, hd6, n6, b6, s6, a6⟩ := R_done
  have c7 := c6.addT (f := "done") rfl T rfl rfl hd6 n6 b6 s6 a6 fc_done (fun h => done_ok (by delta g01 c01 at h; exact h))
  obtain ⟨d7, hd7, n7, b7, s7, a7⟩ := R_Machine_settle
  have c8 := c7.addM P T.nolimit rfl rfl (q := "settle") (f := "Machine.settle") (by decide +kernel) hd7 n7 b7 s7 a7 fc_Machine_settle (fun h => settle_ok (by delta g01 c01 at h; exact h))
  obtain ⟨d8, hd8, n8, b8, s8, a8⟩ := R_Machine___init__
  have c9 := c8.addM P T.nolimit rfl rfl (q := "__init__") (f := "Machine.__init__") (by decide +kernel) hd8 n8 b8 s8 a8 fc_Machine___init__ (fun h => init_ok (by delta g01 c01 at h; exact h))
  obtain ⟨d9, hd9, n9, b9, s9, a9⟩ := R_Machine_over
  have c10 := c9.addM P T.nolimit rfl rfl (q := "over") (f := "Machine.over") (by decide +kernel) hd9 n9 b9 s9 a9 fc_Machine_over (fun h => over_ok (by delta g01 c01 at h; exact h))
  obtain ⟨d10, hd10, n10, b10, s10, a10⟩ := R_Machine_goal_of
  have c11 := c10.addM P T.nolimit rfl rfl (q := "goal_of") (f := "Machine.goal_of") (by decide +kernel) hd10 n10 b10 s10 a10 fc_Machine_goal_of (fun h => goalof_ok (by delta g01 c01 at h; exact h))
  obtain ⟨d11, hd11, n11, b11, s11, a11⟩ := R_Machine_step
  have c12 := c11.addM P T.nolimit rfl rfl (q := "step") (f := "Machine.step") (by decide +kernel) hd11 n11 b11 s11 a11 fc_Machine_step (fun h => step_ok (by delta g01 c01 at h; exact h))
  obtain ⟨d12, hd12, n12, b12, s12, a12⟩ := R_run
  have c13 := c12.addT (f := "run") rfl T rfl rfl hd12 n12 b12 s12 a12 fc_run (fun h => run_ok (by delta g01 c01 at h; exact h))
  obtain ⟨d13, hd13, n13, b13, s13, a13⟩ := R_taken
  have c14 := c13.addT (f := "taken") rfl T rfl rfl hd13 n13 b13 s13 a13 fc_taken (fun h => taken_ok (by delta g01 c01 at h; exact h))
  obtain ⟨d14, hd14, n14, b14, s14, a14⟩ := R_block_of
  have c15 := c14.addT (f := "block_of") rfl T rfl rfl hd14 n14 b14 s14 a14 fc_block_of (fun h => blockof_ok (by delta g01 c01 at h; exact h))
  obtain ⟨d15, hd15, n15, b15, s15, a15⟩ := R_called
  have c16 := c15.addT (f := "called") rfl T rfl rfl hd15 n15 b15 s15 a15 fc_called (fun h => called_ok (by delta g01 c01 at h; exact h))
  obtain ⟨d16, hd16, n16, b16, s16, a16⟩ := R_moved
  have c17 := c16.addT (f := "moved") rfl T rfl rfl hd16 n16 b16 s16 a16 fc_moved (fun h => moved_ok (by delta g01 c01 at h; exact h))
  obtain ⟨d17, hd17, n17, b17, s17, a17⟩ := R_behind
  have c18 := c17.addT (f := "behind") rfl T rfl rfl hd17 n17 b17 s17 a17 fc_behind (fun h => behind_ok (by delta g01 c01 at h; exact h))
  obtain ⟨d18, hd18, n18, b18, s18, a18⟩ := R_looked
  have c19 := c18.addT (f := "looked") rfl T rfl rfl hd18 n18 b18 s18 a18 fc_looked (fun h => looked_ok (by delta g01 c01 at h; exact h))
  obtain ⟨d19, hd19, n19, b19, s19, a19⟩ := R_trail_of
  have c20 := c19.addT (f := "trail_of") rfl T rfl rfl hd19 n19 b19 s19 a19 fc_trail_of (fun h => trailof_ok (by delta g01 c01 at h; exact h))
  obtain ⟨d20, hd20, n20, b20, s20, a20⟩ := R_fault
  have c21 := c20.addT (f := "fault") rfl T rfl rfl hd20 n20 b20 s20 a20 fc_fault (fun h => fault_ok (by delta g01 c01 at h; exact h))
  obtain ⟨d21, hd21, n21, b21, s21, a21⟩ := R_named
  have c22 := c21.addT (f := "named") rfl T rfl rfl hd21 n21 b21 s21 a21 fc_named (fun h => named_ok (by delta g01 c01 at h; exact h))
  obtain ⟨d22, hd22, n22, b22, s22, a22⟩ := R_come_to
  have c23 := c22.addT (f := "come_to") rfl T rfl rfl hd22 n22 b22 s22 a22 fc_come_to (fun h => cometo_ok (by delta g01 c01 at h; exact h))
  obtain ⟨d23, hd23, n23, b23, s23, a23⟩ := R_let_by
  have c24 := c23.addT (f := "let_by") rfl T rfl rfl hd23 n23 b23 s23 a23 fc_let_by (fun h => letby_ok (by delta g01 c01 at h; exact h))
  obtain ⟨d24, hd24, n24, b24, s24, a24⟩ := R_height_by
  have c25 := c24.addT (f := "height_by") rfl T rfl rfl hd24 n24 b24 s24 a24 fc_height_by (fun h => heightby_ok (by delta g01 c01 at h; exact h))
  obtain ⟨d25, hd25, n25, b25, s25, a25⟩ := R_height
  have c26 := c25.addT (f := "height") rfl T rfl rfl hd25 n25 b25 s25 a25 fc_height (fun h => height_ok (by delta g01 c01 at h; exact h))
  obtain ⟨d26, hd26, n26, b26, s26, a26⟩ := R_law_alike
  have c27 := c26.addT (f := "_law_alike") rfl T rfl rfl hd26 n26 b26 s26 a26 fc_law_alike (fun h => alike_ok (by delta g01 c01 at h; exact h))
  obtain ⟨d27, hd27, n27, b27, s27, a27⟩ := R_law_program
  have c28 := c27.addT (f := "_law_program") rfl T rfl rfl hd27 n27 b27 s27 a27 fc_law_program (fun h => program_ok (by delta g01 c01 at h; exact h))
  obtain ⟨d28, hd28, n28, b28, s28, a28⟩ := R_law_run
  have c29 := c28.addT (f := "_law_run") rfl T rfl rfl hd28 n28 b28 s28 a28 fc_law_run (fun h => lrun_ok (by delta g01 c01 at h; exact h))
  obtain ⟨d29, hd29, n29, b29, s29, a29⟩ := R_law_deep
  have c30 := c29.addT (f := "_law_deep") rfl T rfl rfl hd29 n29 b29 s29 a29 fc_law_deep (fun h => deep_ok (by delta g01 c01 at h; exact h))
  exact c30
theorem finL {s : Shared} (X : (_root_.Mine.hd.heap_39 w.params).In s.heap) (T : Top _root_.Mine.hd.view_39 loose mean mg mb s.heap) (TE : TopE _root_.Mine.hd.view_39 (looseW _root_.Mine.hd.view_39 _root_.Mine.hd.loos) mg s.heap) {fa l : Addr} {items : Array Value} {ns : List Int} (hmg : mg "law" = some (.ref fa)) (il : s.heap.IsList l items) (ia : IntsAre items.toList ns) (hl : ns.length ≤ 100)
    {R : Result → Shared → Prop} (hR : ∀ h' tk, (∀ b o, s.heap.get? b = some o → h'.get? b = some o) → R (.ok (.ret (.bool true))) { s with heap := h', toks := tk }) : codeAny (model prog w) callerA (.call (.ref fa) ⟨[.ref l], []⟩) R s := by
  obtain ⟨d, hd, n1, b1, s1, a1⟩ := R_law
  have hL : LIM = 1048576 := rfl
  obtain ⟨C, N, mN, hC, P⟩ := TE clsM0 clsM_mem
  rw [clsM_name] at hC
  exact law_top (cx := cxL prog w s.heap C mN) (cokA X T hC P) T rfl rfl hd n1 b1 s1 a1 fc_law rfl hmg il ia (by omega) (by omega) (fun {Q} hQ => (law_ok (ps := [.fls ns]) (H := fun _ => none) (Q := Q) (X := fun _ _ => False) ⟨ns, rfl, hl, hQ⟩).2) hR
end

end Mine
end
open PySem PySem.W PyProof.Rows
set_option maxRecDepth 100000
set_option maxHeartbeats 8000000
theorem PySem.Challenge.cw_uf030026_13_holds : PySem.Challenge.rw_uf030026_13.Holds := by
  w_on
  refine holds_law (by kernel_rfl) fun said => ?_
  refine holds_open (q := Mine.hd.view_39) (loose := Mine.hd.loos) (Xt := Mine.hd.xt) (XP := XL Mine.hd.view_39 []) (Yf := Mine.hd.hook.obs) (Ya := Mine.hd.hook.val) (YP := Mine.hd.hook.says) Mine.hd.left (Hook.of Mine.hd.hook) (Hook.keeps Mine.hd.hook) (fun s e => xl_of s (Bool.and_eq_true_iff.mp e).1) XL.keeps (by rfl) (by rfl) (by rfl) (fun s e => recFacts_of (Bool.and_eq_true_iff.mp e).2) (by rfl) (by assumption) (by decide +kernel) ⟨rfl, rfl, rfl, rfl, rfl, by decide +kernel⟩ ?hw ?hc
  case hw => w_witness2
  case hc =>
    intro w s₀ s₁ mg mb G Y fa o pm cd doc dV kV ho hd hcd hD hmg hg args vals as hpre hlay hrd hwl hlo
    have KX := kIn_of Y
    refine Ground.open G ?_
    intro T B D TE TW
    wrow_args hpre hlay hrd hwl hlo
    all_goals (
      first | refine callC_kw (enter_call ?_) | refine enter_call ?_ | refine callC_kw (enter_callW ?_) | refine enter_callW ?_ | w_how
      )
    refine Mine.finL KX T TE hmg (by assumption) (by assumption) (by omega) fun h' tk hk => GoodW.toG ⟨.inl ⟨_, _, _, rfl, ?_, .bool true, ?_, ?_⟩, hk, rfl, hg⟩
    · intro cls; rfl
    · kernel_rfl
    · intro h; exact ⟨List.nodup_nil, fun a ha => nomatch ha⟩
