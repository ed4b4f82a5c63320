import PyProof.Rows.All
import Wide.All
import Open.Line
import OpenK.Peek
import OpenK.KDescr
import OpenK.KMake
import OpenK.KWalk
import KE.LcSums
import KE.KDictList
import KE.KTryMore
import KE.KIsAll
import KE.KEqDict
import Wide.FinOn
import Open.Boot
import PySem.Challenge.RW_uf030026_12
set_option Elab.async false
set_option maxHeartbeats 4000000
section
open PySem PySem.W PyProof.Rows
namespace Mine.hd
noncomputable def view_39 : Program := { PySem.Challenge.rw_uf030026_12.row.toRowW.1 with main := { PySem.Challenge.rw_uf030026_12.row.toRowW.1.main with body := PySem.Challenge.rw_uf030026_12.row.toRowW.1.main.body.filter fun s => match s with | .Assign [.Name x _] _ _ => !(x == Str.ofString "__name__") | _ => true } }
noncomputable def heap_39 : Params → Frag := fun P => [(2, { cls := Value.none, data := Data.dict #[] }), (3, { cls := Value.type "dict", data := Data.dict #[{ hash := PyData.keyHash P (Str.ofString "__name__"), key := Value.str (Str.ofString "__name__") 165, val := Value.str (Str.ofString "law_uf030026_12") 417 }, { hash := PyData.keyHash P (Str.ofString "__doc__"), key := Value.str (Str.ofString "__doc__") 166, val := Value.none }, { hash := PyData.keyHash P (Str.ofString "__package__"), key := Value.str (Str.ofString "__package__") 167, val := Value.none }, { hash := PyData.keyHash P (Str.ofString "__loader__"), key := Value.str (Str.ofString "__loader__") 168, val := Value.builtin "__main__.__loader__#opaque" }, { hash := PyData.keyHash P (Str.ofString "__spec__"), key := Value.str (Str.ofString "__spec__") 169, val := Value.none }, { hash := PyData.keyHash P (Str.ofString "__annotations__"), key := Value.str (Str.ofString "__annotations__") 170, val := Value.ref 6 }, { hash := PyData.keyHash P (Str.ofString "__builtins__"), key := Value.str (Str.ofString "__builtins__") 171, val := Value.ref 4 }, { hash := PyData.keyHash P (Str.ofString "__file__"), key := Value.str (Str.ofString "__file__") 173, val := Value.str (Str.ofString "/claim/cut.py") 172 }, { hash := PyData.keyHash P (Str.ofString "__cached__"), key := Value.str (Str.ofString "__cached__") 174, val := Value.none }, { hash := PyData.keyHash P (Str.ofString "StackError"), key := Value.str (Str.ofString "StackError") 206, val := Value.ref 24 }, { hash := PyData.keyHash P (Str.ofString "Empty"), key := Value.str (Str.ofString "Empty") 222, val := Value.ref 37 }, { hash := PyData.keyHash P (Str.ofString "WrongKind"), key := Value.str (Str.ofString "WrongKind") 238, val := Value.ref 49 }, { hash := PyData.keyHash P (Str.ofString "NoBlock"), key := Value.str (Str.ofString "NoBlock") 254, val := Value.ref 61 }, { hash := PyData.keyHash P (Str.ofString "Apart"), key := Value.str (Str.ofString "Apart") 270, val := Value.ref 73 }, { hash := PyData.keyHash P (Str.ofString "TAKES"), key := Value.str (Str.ofString "TAKES") 295, val := Value.ref 76 }, { hash := PyData.keyHash P (Str.ofString "PUTS"), key := Value.str (Str.ofString "PUTS") 314, val := Value.ref 83 }, { hash := PyData.keyHash P (Str.ofString "taken"), key := Value.str (Str.ofString "taken") 323, val := Value.ref 90 }, { hash := PyData.keyHash P (Str.ofString "block_of"), key := Value.str (Str.ofString "block_of") 331, val := Value.ref 97 }, { hash := PyData.keyHash P (Str.ofString "called"), key := Value.str (Str.ofString "called") 341, val := Value.ref 104 }, { hash := PyData.keyHash P (Str.ofString "moved"), key := Value.str (Str.ofString "moved") 351, val := Value.ref 111 }, { hash := PyData.keyHash P (Str.ofString "behind"), key := Value.str (Str.ofString "behind") 364, val := Value.ref 118 }, { hash := PyData.keyHash P (Str.ofString "looked"), key := Value.str (Str.ofString "looked") 379, val := Value.ref 125 }, { hash := PyData.keyHash P (Str.ofString "fault"), key := Value.str (Str.ofString "fault") 387, val := Value.ref 132 }, { hash := PyData.keyHash P (Str.ofString "named"), key := Value.str (Str.ofString "named") 396, val := Value.ref 139 }, { hash := PyData.keyHash P (Str.ofString "come_to"), key := Value.str (Str.ofString "come_to") 407, val := Value.ref 146 }, { hash := PyData.keyHash P (Str.ofString "let_by"), key := Value.str (Str.ofString "let_by") 416, val := Value.ref 153 }, { hash := PyData.keyHash P (Str.ofString "_law_draw"), key := Value.str (Str.ofString "_law_draw") 429, val := Value.ref 160 }, { hash := PyData.keyHash P (Str.ofString "_law_words"), key := Value.str (Str.ofString "_law_words") 435, val := Value.ref 165 }, { hash := PyData.keyHash P (Str.ofString "_law_value"), key := Value.str (Str.ofString "_law_value") 446, val := Value.ref 172 }, { hash := PyData.keyHash P (Str.ofString "_law_wanted"), key := Value.str (Str.ofString "_law_wanted") 455, val := Value.ref 179 }, { hash := PyData.keyHash P (Str.ofString "_law_lack"), key := Value.str (Str.ofString "_law_lack") 465, val := Value.ref 186 }, { hash := PyData.keyHash P (Str.ofString "_law_plainly"), key := Value.str (Str.ofString "_law_plainly") 474, val := Value.ref 193 }, { hash := PyData.keyHash P (Str.ofString "_law_called"), key := Value.str (Str.ofString "_law_called") 485, val := Value.ref 200 }, { hash := PyData.keyHash P (Str.ofString "_law_next"), key := Value.str (Str.ofString "_law_next") 495, val := Value.ref 207 }, { hash := PyData.keyHash P (Str.ofString "_law_plain_row"), key := Value.str (Str.ofString "_law_plain_row") 505, val := Value.ref 214 }, { hash := PyData.keyHash P (Str.ofString "_law_kinds"), key := Value.str (Str.ofString "_law_kinds") 511, val := Value.ref 219 }, { hash := PyData.keyHash P (Str.ofString "_law_told"), key := Value.str (Str.ofString "_law_told") 527, val := Value.ref 226 }, { hash := PyData.keyHash P (Str.ofString "_law_pushes"), key := Value.str (Str.ofString "_law_pushes") 533, val := Value.ref 231 }, { hash := PyData.keyHash P (Str.ofString "_law_choice"), key := Value.str (Str.ofString "_law_choice") 539, val := Value.ref 236 }, { hash := PyData.keyHash P (Str.ofString "_law_fitting"), key := Value.str (Str.ofString "_law_fitting") 551, val := Value.ref 243 }, { hash := PyData.keyHash P (Str.ofString "_law_good_rows"), key := Value.str (Str.ofString "_law_good_rows") 557, val := Value.ref 248 }, { hash := PyData.keyHash P (Str.ofString "_law_good_program"), key := Value.str (Str.ofString "_law_good_program") 572, val := Value.ref 255 }, { hash := PyData.keyHash P (Str.ofString "_law_raw_row"), key := Value.str (Str.ofString "_law_raw_row") 585, val := Value.ref 262 }, { hash := PyData.keyHash P (Str.ofString "_law_spoilt"), key := Value.str (Str.ofString "_law_spoilt") 601, val := Value.ref 269 }, { hash := PyData.keyHash P (Str.ofString "_law_copy"), key := Value.str (Str.ofString "_law_copy") 610, val := Value.ref 276 }, { hash := PyData.keyHash P (Str.ofString "_law_walked"), key := Value.str (Str.ofString "_law_walked") 625, val := Value.ref 283 }, { hash := PyData.keyHash P (Str.ofString "law"), key := Value.str (Str.ofString "law") 644, val := Value.ref 290 }] 47 }), (15, { cls := Value.type "tuple", data := Data.seq #[Value.type "ValueError"] }), (22, { cls := Value.type "tuple", data := Data.seq #[] }), (23, { cls := Value.type "dict", data := Data.dict #[{ hash := PyData.keyHash P (Str.ofString "__module__"), key := Value.str (Str.ofString "__module__") 196, val := Value.str (Str.ofString "stackproof.errors") 187 }, { hash := PyData.keyHash P (Str.ofString "__firstlineno__"), key := Value.str (Str.ofString "__firstlineno__") 200, val := Value.int 2 199 }, { hash := PyData.keyHash P (Str.ofString "__static_attributes__"), key := Value.str (Str.ofString "__static_attributes__") 201, val := Value.ref 22 }, { hash := PyData.keyHash P (Str.ofString "__weakref__"), key := Value.str (Str.ofString "__weakref__") 203, val := Value.ref 25 }, { hash := PyData.keyHash P (Str.ofString "__doc__"), key := Value.str (Str.ofString "__doc__") 204, val := Value.none }] 3 }), (24, { cls := Value.type "type", data := Data.cls { name := Str.ofString "StackError", bases := [Value.type "ValueError"], mro := [Value.ref 24, Value.type "ValueError", Value.type "Exception", Value.type "BaseException", Value.type "object"], ns := 23, qualname := Str.ofString "StackError", subclasses := [Value.ref 37, Value.ref 49, Value.ref 61, Value.ref 73] }, slots := #[some (Value.ref 15), none, some (Value.str (Str.ofString "StackError") 189), some (Value.str (Str.ofString "StackError") 197), some (Value.builtin "ValueError.__new__"), some (Value.bool true)] }), (25, { cls := Value.type "getset_descriptor", data := Data.fields #[Value.str (Str.ofString "__weakref__") 202, Value.ref 24, Value.builtin "ExceptionGroup.__weakref__", Value.none] }), (28, { cls := Value.type "tuple", data := Data.seq #[Value.ref 24] }), (35, { cls := Value.type "tuple", data := Data.seq #[] }), (36, { cls := Value.type "dict", data := Data.dict #[{ hash := PyData.keyHash P (Str.ofString "__module__"), key := Value.str (Str.ofString "__module__") 214, val := Value.str (Str.ofString "stackproof.errors") 187 }, { hash := PyData.keyHash P (Str.ofString "__firstlineno__"), key := Value.str (Str.ofString "__firstlineno__") 218, val := Value.int 4 217 }, { hash := PyData.keyHash P (Str.ofString "__static_attributes__"), key := Value.str (Str.ofString "__static_attributes__") 219, val := Value.ref 35 }, { hash := PyData.keyHash P (Str.ofString "__doc__"), key := Value.str (Str.ofString "__doc__") 220, val := Value.none }] 2 }), (37, { cls := Value.type "type", data := Data.cls { name := Str.ofString "Empty", bases := [Value.ref 24], mro := [Value.ref 37, Value.ref 24, Value.type "ValueError", Value.type "Exception", Value.type "BaseException", Value.type "object"], ns := 36, qualname := Str.ofString "Empty" }, slots := #[some (Value.ref 28), none, some (Value.str (Str.ofString "Empty") 207), some (Value.str (Str.ofString "Empty") 215), some (Value.builtin "ValueError.__new__"), some (Value.bool true)] }), (40, { cls := Value.type "tuple", data := Data.seq #[Value.ref 24] }), (47, { cls := Value.type "tuple", data := Data.seq #[] }), (48, { cls := Value.type "dict", data := Data.dict #[{ hash := PyData.keyHash P (Str.ofString "__module__"), key := Value.str (Str.ofString "__module__") 230, val := Value.str (Str.ofString "stackproof.errors") 187 }, { hash := PyData.keyHash P (Str.ofString "__firstlineno__"), key := Value.str (Str.ofString "__firstlineno__") 234, val := Value.int 6 233 }, { hash := PyData.keyHash P (Str.ofString "__static_attributes__"), key := Value.str (Str.ofString "__static_attributes__") 235, val := Value.ref 47 }, { hash := PyData.keyHash P (Str.ofString "__doc__"), key := Value.str (Str.ofString "__doc__") 236, val := Value.none }] 2 }), (49, { cls := Value.type "type", data := Data.cls { name := Str.ofString "WrongKind", bases := [Value.ref 24], mro := [Value.ref 49, Value.ref 24, Value.type "ValueError", Value.type "Exception", Value.type "BaseException", Value.type "object"], ns := 48, qualname := Str.ofString "WrongKind" }, slots := #[some (Value.ref 40), none, some (Value.str (Str.ofString "WrongKind") 223), some (Value.str (Str.ofString "WrongKind") 231), some (Value.builtin "ValueError.__new__"), some (Value.bool true)] }), (52, { cls := Value.type "tuple", data := Data.seq #[Value.ref 24] }), (59, { cls := Value.type "tuple", data := Data.seq #[] }), (60, { cls := Value.type "dict", data := Data.dict #[{ hash := PyData.keyHash P (Str.ofString "__module__"), key := Value.str (Str.ofString "__module__") 246, val := Value.str (Str.ofString "stackproof.errors") 187 }, { hash := PyData.keyHash P (Str.ofString "__firstlineno__"), key := Value.str (Str.ofString "__firstlineno__") 250, val := Value.int 8 249 }, { hash := PyData.keyHash P (Str.ofString "__static_attributes__"), key := Value.str (Str.ofString "__static_attributes__") 251, val := Value.ref 59 }, { hash := PyData.keyHash P (Str.ofString "__doc__"), key := Value.str (Str.ofString "__doc__") 252, val := Value.none }] 2 }), (61, { cls := Value.type "type", data := Data.cls { name := Str.ofString "NoBlock", bases := [Value.ref 24], mro := [Value.ref 61, Value.ref 24, Value.type "ValueError", Value.type "Exception", Value.type "BaseException", Value.type "object"], ns := 60, qualname := Str.ofString "NoBlock" }, slots := #[some (Value.ref 52), none, some (Value.str (Str.ofString "NoBlock") 239), some (Value.str (Str.ofString "NoBlock") 247), some (Value.builtin "ValueError.__new__"), some (Value.bool true)] }), (64, { cls := Value.type "tuple", data := Data.seq #[Value.ref 24] }), (71, { cls := Value.type "tuple", data := Data.seq #[] }), (72, { cls := Value.type "dict", data := Data.dict #[{ hash := PyData.keyHash P (Str.ofString "__module__"), key := Value.str (Str.ofString "__module__") 262, val := Value.str (Str.ofString "stackproof.errors") 187 }, { hash := PyData.keyHash P (Str.ofString "__firstlineno__"), key := Value.str (Str.ofString "__firstlineno__") 266, val := Value.int 10 265 }, { hash := PyData.keyHash P (Str.ofString "__static_attributes__"), key := Value.str (Str.ofString "__static_attributes__") 267, val := Value.ref 71 }, { hash := PyData.keyHash P (Str.ofString "__doc__"), key := Value.str (Str.ofString "__doc__") 268, val := Value.none }] 2 }), (73, { cls := Value.type "type", data := Data.cls { name := Str.ofString "Apart", bases := [Value.ref 24], mro := [Value.ref 73, Value.ref 24, Value.type "ValueError", Value.type "Exception", Value.type "BaseException", Value.type "object"], ns := 72, qualname := Str.ofString "Apart" }, slots := #[some (Value.ref 64), none, some (Value.str (Str.ofString "Apart") 255), some (Value.str (Str.ofString "Apart") 263), some (Value.builtin "ValueError.__new__"), some (Value.bool true)] }), (76, { cls := Value.type "dict", data := Data.dict #[{ hash := PyData.keyHash P (Str.ofString "add"), key := Value.str (Str.ofString "add") 273, val := Value.ref 77 }, { hash := PyData.keyHash P (Str.ofString "mul"), key := Value.str (Str.ofString "mul") 276, val := Value.ref 78 }, { hash := PyData.keyHash P (Str.ofString "less"), key := Value.str (Str.ofString "less") 279, val := Value.ref 79 }, { hash := PyData.keyHash P (Str.ofString "join"), key := Value.str (Str.ofString "join") 282, val := Value.ref 80 }, { hash := PyData.keyHash P (Str.ofString "long"), key := Value.str (Str.ofString "long") 285, val := Value.ref 81 }, { hash := PyData.keyHash P (Str.ofString "show"), key := Value.str (Str.ofString "show") 287, val := Value.ref 82 }] 6 }), (77, { cls := Value.type "tuple", data := Data.seq #[Value.str (Str.ofString "num") 274, Value.str (Str.ofString "num") 275] }), (78, { cls := Value.type "tuple", data := Data.seq #[Value.str (Str.ofString "num") 277, Value.str (Str.ofString "num") 278] }), (79, { cls := Value.type "tuple", data := Data.seq #[Value.str (Str.ofString "num") 280, Value.str (Str.ofString "num") 281] }), (80, { cls := Value.type "tuple", data := Data.seq #[Value.str (Str.ofString "text") 283, Value.str (Str.ofString "text") 284] }), (81, { cls := Value.type "tuple", data := Data.seq #[Value.str (Str.ofString "text") 286] }), (82, { cls := Value.type "tuple", data := Data.seq #[Value.str (Str.ofString "num") 288] }), (83, { cls := Value.type "dict", data := Data.dict #[{ hash := PyData.keyHash P (Str.ofString "add"), key := Value.str (Str.ofString "add") 296, val := Value.str (Str.ofString "num") 297 }, { hash := PyData.keyHash P (Str.ofString "mul"), key := Value.str (Str.ofString "mul") 298, val := Value.str (Str.ofString "num") 299 }, { hash := PyData.keyHash P (Str.ofString "less"), key := Value.str (Str.ofString "less") 300, val := Value.str (Str.ofString "num") 301 }, { hash := PyData.keyHash P (Str.ofString "join"), key := Value.str (Str.ofString "join") 302, val := Value.str (Str.ofString "text") 303 }, { hash := PyData.keyHash P (Str.ofString "long"), key := Value.str (Str.ofString "long") 304, val := Value.str (Str.ofString "num") 305 }, { hash := PyData.keyHash P (Str.ofString "show"), key := Value.str (Str.ofString "show") 306, val := Value.str (Str.ofString "text") 307 }] 6 }), (84, { cls := Value.type "tuple", data := Data.seq #[] }), (86, { cls := Value.type "tuple", data := Data.seq #[Value.str (Str.ofString "kinds") 318, Value.str (Str.ofString "takes") 319, Value.str (Str.ofString "left") 320] }), (87, { cls := Value.type "tuple", data := Data.seq #[] }), (89, { cls := Value.type "code", data := Data.fields #[Value.str (Str.ofString "taken") 315, Value.str (Str.ofString "taken") 316, Value.str (Str.ofString "/claim/cut.py") 317, Value.int 15 0, Value.int 2 0, Value.int 0 0, Value.int 0 0, Value.int 3 0, Value.ref 84, Value.bool true, Value.int 181 0, Value.ref 85, Value.none, Value.ref 86, Value.ref 87, Value.ref 88, Value.int 321 0, Value.int 15 0, Value.str (Str.ofString "/claim/cut.py") 322] }), (91, { cls := Value.type "tuple", data := Data.seq #[] }), (93, { cls := Value.type "tuple", data := Data.seq #[Value.str (Str.ofString "program") 327, Value.str (Str.ofString "name") 328] }), (94, { cls := Value.type "tuple", data := Data.seq #[] }), (96, { cls := Value.type "code", data := Data.fields #[Value.str (Str.ofString "block_of") 324, Value.str (Str.ofString "block_of") 325, Value.str (Str.ofString "/claim/cut.py") 326, Value.int 22 0, Value.int 2 0, Value.int 0 0, Value.int 0 0, Value.int 3 0, Value.ref 91, Value.bool true, Value.int 181 0, Value.ref 92, Value.none, Value.ref 93, Value.ref 94, Value.ref 95, Value.int 329 0, Value.int 22 0, Value.str (Str.ofString "/claim/cut.py") 330] }), (98, { cls := Value.type "tuple", data := Data.seq #[] }), (100, { cls := Value.type "tuple", data := Data.seq #[Value.str (Str.ofString "program") 335, Value.str (Str.ofString "kinds") 336, Value.str (Str.ofString "name") 337, Value.str (Str.ofString "block") 338] }), (101, { cls := Value.type "tuple", data := Data.seq #[] }), (103, { cls := Value.type "code", data := Data.fields #[Value.str (Str.ofString "called") 332, Value.str (Str.ofString "called") 333, Value.str (Str.ofString "/claim/cut.py") 334, Value.int 26 0, Value.int 3 0, Value.int 0 0, Value.int 0 0, Value.int 3 0, Value.ref 98, Value.bool true, Value.int 181 0, Value.ref 99, Value.none, Value.ref 100, Value.ref 101, Value.ref 102, Value.int 339 0, Value.int 26 0, Value.str (Str.ofString "/claim/cut.py") 340] }), (105, { cls := Value.type "tuple", data := Data.seq #[] }), (107, { cls := Value.type "tuple", data := Data.seq #[Value.str (Str.ofString "kinds") 345, Value.str (Str.ofString "row") 346, Value.str (Str.ofString "size") 347, Value.str (Str.ofString "wants") 348] }), (108, { cls := Value.type "tuple", data := Data.seq #[] }), (110, { cls := Value.type "code", data := Data.fields #[Value.str (Str.ofString "moved") 342, Value.str (Str.ofString "moved") 343, Value.str (Str.ofString "/claim/cut.py") 344, Value.int 29 0, Value.int 2 0, Value.int 0 0, Value.int 0 0, Value.int 3 0, Value.ref 105, Value.bool true, Value.int 181 0, Value.ref 106, Value.none, Value.ref 107, Value.ref 108, Value.ref 109, Value.int 349 0, Value.int 29 0, Value.str (Str.ofString "/claim/cut.py") 350] }), (112, { cls := Value.type "tuple", data := Data.seq #[] }), (114, { cls := Value.type "tuple", data := Data.seq #[Value.str (Str.ofString "program") 355, Value.str (Str.ofString "kinds") 356, Value.str (Str.ofString "row") 357, Value.str (Str.ofString "word") 358, Value.str (Str.ofString "left") 359, Value.str (Str.ofString "yes") 360, Value.str (Str.ofString "no") 361] }), (115, { cls := Value.type "tuple", data := Data.seq #[] }), (117, { cls := Value.type "code", data := Data.fields #[Value.str (Str.ofString "behind") 352, Value.str (Str.ofString "behind") 353, Value.str (Str.ofString "/claim/cut.py") 354, Value.int 41 0, Value.int 3 0, Value.int 0 0, Value.int 0 0, Value.int 3 0, Value.ref 112, Value.bool true, Value.int 181 0, Value.ref 113, Value.none, Value.ref 114, Value.ref 115, Value.ref 116, Value.int 362 0, Value.int 41 0, Value.str (Str.ofString "/claim/cut.py") 363] }), (119, { cls := Value.type "tuple", data := Data.seq #[] }), (121, { cls := Value.type "tuple", data := Data.seq #[Value.str (Str.ofString "program") 370, Value.str (Str.ofString "name") 371, Value.str (Str.ofString "block") 372, Value.str (Str.ofString "trail") 373, Value.str (Str.ofString "rows") 374, Value.str (Str.ofString "place") 375, Value.str (Str.ofString "word") 376] }), (122, { cls := Value.type "tuple", data := Data.seq #[] }), (124, { cls := Value.type "code", data := Data.fields #[Value.str (Str.ofString "looked") 367, Value.str (Str.ofString "looked") 368, Value.str (Str.ofString "/claim/cut.py") 369, Value.int 58 0, Value.int 2 0, Value.int 0 0, Value.int 0 0, Value.int 3 0, Value.ref 119, Value.bool true, Value.int 181 0, Value.ref 120, Value.none, Value.ref 121, Value.ref 122, Value.ref 123, Value.int 377 0, Value.int 58 0, Value.str (Str.ofString "/claim/cut.py") 378] }), (126, { cls := Value.type "tuple", data := Data.seq #[] }), (128, { cls := Value.type "tuple", data := Data.seq #[Value.str (Str.ofString "program") 383, Value.str (Str.ofString "name") 384] }), (129, { cls := Value.type "tuple", data := Data.seq #[] }), (131, { cls := Value.type "code", data := Data.fields #[Value.str (Str.ofString "fault") 380, Value.str (Str.ofString "fault") 381, Value.str (Str.ofString "/claim/cut.py") 382, Value.int 79 0, Value.int 2 0, Value.int 0 0, Value.int 0 0, Value.int 3 0, Value.ref 126, Value.bool true, Value.int 181 0, Value.ref 127, Value.none, Value.ref 128, Value.ref 129, Value.ref 130, Value.int 385 0, Value.int 79 0, Value.str (Str.ofString "/claim/cut.py") 386] }), (133, { cls := Value.type "tuple", data := Data.seq #[] }), (135, { cls := Value.type "tuple", data := Data.seq #[Value.str (Str.ofString "rows") 391, Value.str (Str.ofString "names") 392, Value.str (Str.ofString "row") 393] }), (136, { cls := Value.type "tuple", data := Data.seq #[] }), (138, { cls := Value.type "code", data := Data.fields #[Value.str (Str.ofString "named") 388, Value.str (Str.ofString "named") 389, Value.str (Str.ofString "/claim/cut.py") 390, Value.int 81 0, Value.int 1 0, Value.int 0 0, Value.int 0 0, Value.int 3 0, Value.ref 133, Value.bool true, Value.int 181 0, Value.ref 134, Value.none, Value.ref 135, Value.ref 136, Value.ref 137, Value.int 394 0, Value.int 81 0, Value.str (Str.ofString "/claim/cut.py") 395] }), (140, { cls := Value.type "tuple", data := Data.seq #[] }), (142, { cls := Value.type "tuple", data := Data.seq #[Value.str (Str.ofString "program") 400, Value.str (Str.ofString "name") 401, Value.str (Str.ofString "found") 402, Value.str (Str.ofString "place") 403, Value.str (Str.ofString "other") 404] }), (143, { cls := Value.type "tuple", data := Data.seq #[] }), (145, { cls := Value.type "code", data := Data.fields #[Value.str (Str.ofString "come_to") 397, Value.str (Str.ofString "come_to") 398, Value.str (Str.ofString "/claim/cut.py") 399, Value.int 90 0, Value.int 2 0, Value.int 0 0, Value.int 0 0, Value.int 3 0, Value.ref 140, Value.bool true, Value.int 181 0, Value.ref 141, Value.none, Value.ref 142, Value.ref 143, Value.ref 144, Value.int 405 0, Value.int 90 0, Value.str (Str.ofString "/claim/cut.py") 406] }), (147, { cls := Value.type "tuple", data := Data.seq #[] }), (149, { cls := Value.type "tuple", data := Data.seq #[Value.str (Str.ofString "program") 411, Value.str (Str.ofString "name") 412, Value.str (Str.ofString "one") 413] }), (150, { cls := Value.type "tuple", data := Data.seq #[] }), (152, { cls := Value.type "code", data := Data.fields #[Value.str (Str.ofString "let_by") 408, Value.str (Str.ofString "let_by") 409, Value.str (Str.ofString "/claim/cut.py") 410, Value.int 100 0, Value.int 2 0, Value.int 0 0, Value.int 0 0, Value.int 3 0, Value.ref 147, Value.bool true, Value.int 181 0, Value.ref 148, Value.none, Value.ref 149, Value.ref 150, Value.ref 151, Value.int 414 0, Value.int 100 0, Value.str (Str.ofString "/claim/cut.py") 415] }), (154, { cls := Value.type "tuple", data := Data.seq #[] }), (156, { cls := Value.type "tuple", data := Data.seq #[Value.str (Str.ofString "_law_script") 422, Value.str (Str.ofString "_law_tape") 423, Value.str (Str.ofString "_law_many") 424, Value.str (Str.ofString "_law_seed") 425, Value.str (Str.ofString "_law_cell") 426] }), (157, { cls := Value.type "tuple", data := Data.seq #[] }), (159, { cls := Value.type "code", data := Data.fields #[Value.str (Str.ofString "_law_draw") 419, Value.str (Str.ofString "_law_draw") 420, Value.str (Str.ofString "/claim/cut.py") 421, Value.int 106 0, Value.int 3 0, Value.int 0 0, Value.int 0 0, Value.int 3 0, Value.ref 154, Value.bool true, Value.int 181 0, Value.ref 155, Value.none, Value.ref 156, Value.ref 157, Value.ref 158, Value.int 427 0, Value.int 106 0, Value.str (Str.ofString "/claim/cut.py") 428] }), (161, { cls := Value.type "tuple", data := Data.seq #[] }), (164, { cls := Value.type "code", data := Data.fields #[Value.str (Str.ofString "_law_words") 430, Value.str (Str.ofString "_law_words") 431, Value.str (Str.ofString "/claim/cut.py") 432, Value.int 114 0, Value.int 2 0, Value.int 0 0, Value.int 0 0, Value.int 3 0, Value.ref 161, Value.bool true, Value.int 181 0, Value.ref 162, Value.none, Value.none, Value.none, Value.ref 163, Value.int 433 0, Value.int 114 0, Value.str (Str.ofString "/claim/cut.py") 434] }), (166, { cls := Value.type "tuple", data := Data.seq #[] }), (168, { cls := Value.type "tuple", data := Data.seq #[Value.str (Str.ofString "_law_script") 439, Value.str (Str.ofString "_law_tape") 440, Value.str (Str.ofString "_law_kind") 441, Value.str (Str.ofString "_law_cell") 442, Value.str (Str.ofString "_law_way") 443] }), (169, { cls := Value.type "tuple", data := Data.seq #[] }), (171, { cls := Value.type "code", data := Data.fields #[Value.str (Str.ofString "_law_value") 436, Value.str (Str.ofString "_law_value") 437, Value.str (Str.ofString "/claim/cut.py") 438, Value.int 118 0, Value.int 3 0, Value.int 0 0, Value.int 0 0, Value.int 3 0, Value.ref 166, Value.bool true, Value.int 181 0, Value.ref 167, Value.none, Value.ref 168, Value.ref 169, Value.ref 170, Value.int 444 0, Value.int 118 0, Value.str (Str.ofString "/claim/cut.py") 445] }), (173, { cls := Value.type "tuple", data := Data.seq #[] }), (175, { cls := Value.type "tuple", data := Data.seq #[Value.str (Str.ofString "_law_row") 450, Value.str (Str.ofString "_law_two") 451, Value.str (Str.ofString "_law_one") 452] }), (176, { cls := Value.type "tuple", data := Data.seq #[] }), (178, { cls := Value.type "code", data := Data.fields #[Value.str (Str.ofString "_law_wanted") 447, Value.str (Str.ofString "_law_wanted") 448, Value.str (Str.ofString "/claim/cut.py") 449, Value.int 130 0, Value.int 1 0, Value.int 0 0, Value.int 0 0, Value.int 3 0, Value.ref 173, Value.bool true, Value.int 181 0, Value.ref 174, Value.none, Value.ref 175, Value.ref 176, Value.ref 177, Value.int 453 0, Value.int 130 0, Value.str (Str.ofString "/claim/cut.py") 454] }), (180, { cls := Value.type "tuple", data := Data.seq #[] }), (182, { cls := Value.type "tuple", data := Data.seq #[Value.str (Str.ofString "_law_kinds_here") 459, Value.str (Str.ofString "_law_wanted_here") 460, Value.str (Str.ofString "_law_low") 461, Value.str (Str.ofString "_law_k") 462] }), (183, { cls := Value.type "tuple", data := Data.seq #[] }), (185, { cls := Value.type "code", data := Data.fields #[Value.str (Str.ofString "_law_lack") 456, Value.str (Str.ofString "_law_lack") 457, Value.str (Str.ofString "/claim/cut.py") 458, Value.int 140 0, Value.int 2 0, Value.int 0 0, Value.int 0 0, Value.int 3 0, Value.ref 180, Value.bool true, Value.int 181 0, Value.ref 181, Value.none, Value.ref 182, Value.ref 183, Value.ref 184, Value.int 463 0, Value.int 140 0, Value.str (Str.ofString "/claim/cut.py") 464] }), (187, { cls := Value.type "tuple", data := Data.seq #[] }), (189, { cls := Value.type "tuple", data := Data.seq #[Value.str (Str.ofString "_law_kinds_here") 469, Value.str (Str.ofString "_law_row") 470, Value.str (Str.ofString "_law_left") 471] }), (190, { cls := Value.type "tuple", data := Data.seq #[] }), (192, { cls := Value.type "code", data := Data.fields #[Value.str (Str.ofString "_law_plainly") 466, Value.str (Str.ofString "_law_plainly") 467, Value.str (Str.ofString "/claim/cut.py") 468, Value.int 148 0, Value.int 2 0, Value.int 0 0, Value.int 0 0, Value.int 3 0, Value.ref 187, Value.bool true, Value.int 181 0, Value.ref 188, Value.none, Value.ref 189, Value.ref 190, Value.ref 191, Value.int 472 0, Value.int 148 0, Value.str (Str.ofString "/claim/cut.py") 473] }), (194, { cls := Value.type "tuple", data := Data.seq #[] }), (196, { cls := Value.type "tuple", data := Data.seq #[Value.str (Str.ofString "_law_told_here") 478, Value.str (Str.ofString "_law_kinds_here") 479, Value.str (Str.ofString "_law_name") 480, Value.str (Str.ofString "_law_ins") 481, Value.str (Str.ofString "_law_word") 482] }), (197, { cls := Value.type "tuple", data := Data.seq #[] }), (199, { cls := Value.type "code", data := Data.fields #[Value.str (Str.ofString "_law_called") 475, Value.str (Str.ofString "_law_called") 476, Value.str (Str.ofString "/claim/cut.py") 477, Value.int 159 0, Value.int 3 0, Value.int 0 0, Value.int 0 0, Value.int 3 0, Value.ref 194, Value.bool true, Value.int 181 0, Value.ref 195, Value.none, Value.ref 196, Value.ref 197, Value.ref 198, Value.int 483 0, Value.int 159 0, Value.str (Str.ofString "/claim/cut.py") 484] }), (201, { cls := Value.type "tuple", data := Data.seq #[] }), (203, { cls := Value.type "tuple", data := Data.seq #[Value.str (Str.ofString "_law_told_here") 489, Value.str (Str.ofString "_law_kinds_here") 490, Value.str (Str.ofString "_law_row") 491, Value.str (Str.ofString "_law_word") 492] }), (204, { cls := Value.type "tuple", data := Data.seq #[] }), (206, { cls := Value.type "code", data := Data.fields #[Value.str (Str.ofString "_law_next") 486, Value.str (Str.ofString "_law_next") 487, Value.str (Str.ofString "/claim/cut.py") 488, Value.int 165 0, Value.int 3 0, Value.int 0 0, Value.int 0 0, Value.int 3 0, Value.ref 201, Value.bool true, Value.int 181 0, Value.ref 202, Value.none, Value.ref 203, Value.ref 204, Value.ref 205, Value.int 493 0, Value.int 165 0, Value.str (Str.ofString "/claim/cut.py") 494] }), (208, { cls := Value.type "tuple", data := Data.seq #[] }), (210, { cls := Value.type "tuple", data := Data.seq #[Value.str (Str.ofString "_law_script") 499, Value.str (Str.ofString "_law_tape") 500, Value.str (Str.ofString "_law_some") 501, Value.str (Str.ofString "_law_word") 502] }), (211, { cls := Value.type "tuple", data := Data.seq #[] }), (213, { cls := Value.type "code", data := Data.fields #[Value.str (Str.ofString "_law_plain_row") 496, Value.str (Str.ofString "_law_plain_row") 497, Value.str (Str.ofString "/claim/cut.py") 498, Value.int 183 0, Value.int 2 0, Value.int 0 0, Value.int 0 0, Value.int 3 0, Value.ref 208, Value.bool true, Value.int 181 0, Value.ref 209, Value.none, Value.ref 210, Value.ref 211, Value.ref 212, Value.int 503 0, Value.int 183 0, Value.str (Str.ofString "/claim/cut.py") 504] }), (215, { cls := Value.type "tuple", data := Data.seq #[] }), (218, { cls := Value.type "code", data := Data.fields #[Value.str (Str.ofString "_law_kinds") 506, Value.str (Str.ofString "_law_kinds") 507, Value.str (Str.ofString "/claim/cut.py") 508, Value.int 191 0, Value.int 2 0, Value.int 0 0, Value.int 0 0, Value.int 3 0, Value.ref 215, Value.bool true, Value.int 181 0, Value.ref 216, Value.none, Value.none, Value.none, Value.ref 217, Value.int 509 0, Value.int 191 0, Value.str (Str.ofString "/claim/cut.py") 510] }), (220, { cls := Value.type "tuple", data := Data.seq #[] }), (222, { cls := Value.type "tuple", data := Data.seq #[Value.str (Str.ofString "_law_script") 515, Value.str (Str.ofString "_law_tape") 516, Value.str (Str.ofString "_law_count") 517, Value.str (Str.ofString "_law_told_here") 518, Value.str (Str.ofString "_law_kept") 519, Value.str (Str.ofString "_law_begin") 520, Value.str (Str.ofString "_law_midst") 521, Value.str (Str.ofString "_law_k") 522, Value.str (Str.ofString "_law_name") 523, Value.str (Str.ofString "_law_way") 524] }), (223, { cls := Value.type "tuple", data := Data.seq #[] }), (225, { cls := Value.type "code", data := Data.fields #[Value.str (Str.ofString "_law_told") 512, Value.str (Str.ofString "_law_told") 513, Value.str (Str.ofString "/claim/cut.py") 514, Value.int 196 0, Value.int 2 0, Value.int 0 0, Value.int 0 0, Value.int 3 0, Value.ref 220, Value.bool true, Value.int 181 0, Value.ref 221, Value.none, Value.ref 222, Value.ref 223, Value.ref 224, Value.int 525 0, Value.int 196 0, Value.str (Str.ofString "/claim/cut.py") 526] }), (227, { cls := Value.type "tuple", data := Data.seq #[] }), (230, { cls := Value.type "code", data := Data.fields #[Value.str (Str.ofString "_law_pushes") 528, Value.str (Str.ofString "_law_pushes") 529, Value.str (Str.ofString "/claim/cut.py") 530, Value.int 215 0, Value.int 3 0, Value.int 0 0, Value.int 0 0, Value.int 3 0, Value.ref 227, Value.bool true, Value.int 181 0, Value.ref 228, Value.none, Value.none, Value.none, Value.ref 229, Value.int 531 0, Value.int 215 0, Value.str (Str.ofString "/claim/cut.py") 532] }), (232, { cls := Value.type "tuple", data := Data.seq #[] }), (235, { cls := Value.type "code", data := Data.fields #[Value.str (Str.ofString "_law_choice") 534, Value.str (Str.ofString "_law_choice") 535, Value.str (Str.ofString "/claim/cut.py") 536, Value.int 217 0, Value.int 5 0, Value.int 0 0, Value.int 0 0, Value.int 3 0, Value.ref 232, Value.bool true, Value.int 181 0, Value.ref 233, Value.none, Value.none, Value.none, Value.ref 234, Value.int 537 0, Value.int 217 0, Value.str (Str.ofString "/claim/cut.py") 538] }), (237, { cls := Value.type "tuple", data := Data.seq #[] }), (239, { cls := Value.type "tuple", data := Data.seq #[Value.str (Str.ofString "_law_script") 543, Value.str (Str.ofString "_law_tape") 544, Value.str (Str.ofString "_law_told_here") 545, Value.str (Str.ofString "_law_names") 546, Value.str (Str.ofString "_law_kinds_here") 547, Value.str (Str.ofString "_law_row") 548] }), (240, { cls := Value.type "tuple", data := Data.seq #[] }), (242, { cls := Value.type "code", data := Data.fields #[Value.str (Str.ofString "_law_fitting") 540, Value.str (Str.ofString "_law_fitting") 541, Value.str (Str.ofString "/claim/cut.py") 542, Value.int 227 0, Value.int 5 0, Value.int 0 0, Value.int 0 0, Value.int 3 0, Value.ref 237, Value.bool true, Value.int 181 0, Value.ref 238, Value.none, Value.ref 239, Value.ref 240, Value.ref 241, Value.int 549 0, Value.int 227 0, Value.str (Str.ofString "/claim/cut.py") 550] }), (244, { cls := Value.type "tuple", data := Data.seq #[] }), (247, { cls := Value.type "code", data := Data.fields #[Value.str (Str.ofString "_law_good_rows") 552, Value.str (Str.ofString "_law_good_rows") 553, Value.str (Str.ofString "/claim/cut.py") 554, Value.int 234 0, Value.int 5 0, Value.int 0 0, Value.int 0 0, Value.int 3 0, Value.ref 244, Value.bool true, Value.int 181 0, Value.ref 245, Value.none, Value.none, Value.none, Value.ref 246, Value.int 555 0, Value.int 234 0, Value.str (Str.ofString "/claim/cut.py") 556] }), (249, { cls := Value.type "tuple", data := Data.seq #[] }), (251, { cls := Value.type "tuple", data := Data.seq #[Value.str (Str.ofString "_law_script") 561, Value.str (Str.ofString "_law_tape") 562, Value.str (Str.ofString "_law_told_here") 563, Value.str (Str.ofString "_law_names") 564, Value.str (Str.ofString "_law_down") 565, Value.str (Str.ofString "_law_program") 566, Value.str (Str.ofString "_law_k") 567, Value.str (Str.ofString "_law_some") 568, Value.str (Str.ofString "_law_rows") 569] }), (252, { cls := Value.type "tuple", data := Data.seq #[] }), (254, { cls := Value.type "code", data := Data.fields #[Value.str (Str.ofString "_law_good_program") 558, Value.str (Str.ofString "_law_good_program") 559, Value.str (Str.ofString "/claim/cut.py") 560, Value.int 251 0, Value.int 2 0, Value.int 0 0, Value.int 0 0, Value.int 3 0, Value.ref 249, Value.bool true, Value.int 181 0, Value.ref 250, Value.none, Value.ref 251, Value.ref 252, Value.ref 253, Value.int 570 0, Value.int 251 0, Value.str (Str.ofString "/claim/cut.py") 571] }), (256, { cls := Value.type "tuple", data := Data.seq #[] }), (258, { cls := Value.type "tuple", data := Data.seq #[Value.str (Str.ofString "_law_script") 576, Value.str (Str.ofString "_law_tape") 577, Value.str (Str.ofString "_law_names") 578, Value.str (Str.ofString "_law_way") 579, Value.str (Str.ofString "_law_one") 580, Value.str (Str.ofString "_law_spot") 581, Value.str (Str.ofString "_law_some") 582] }), (259, { cls := Value.type "tuple", data := Data.seq #[] }), (261, { cls := Value.type "code", data := Data.fields #[Value.str (Str.ofString "_law_raw_row") 573, Value.str (Str.ofString "_law_raw_row") 574, Value.str (Str.ofString "/claim/cut.py") 575, Value.int 263 0, Value.int 3 0, Value.int 0 0, Value.int 0 0, Value.int 3 0, Value.ref 256, Value.bool true, Value.int 181 0, Value.ref 257, Value.none, Value.ref 258, Value.ref 259, Value.ref 260, Value.int 583 0, Value.int 263 0, Value.str (Str.ofString "/claim/cut.py") 584] }), (263, { cls := Value.type "tuple", data := Data.seq #[] }), (265, { cls := Value.type "tuple", data := Data.seq #[Value.str (Str.ofString "_law_script") 589, Value.str (Str.ofString "_law_tape") 590, Value.str (Str.ofString "_law_program") 591, Value.str (Str.ofString "_law_names") 592, Value.str (Str.ofString "_law_name") 593, Value.str (Str.ofString "_law_ins") 594, Value.str (Str.ofString "_law_outs") 595, Value.str (Str.ofString "_law_rows") 596, Value.str (Str.ofString "_law_place") 597, Value.str (Str.ofString "_law_way") 598] }), (266, { cls := Value.type "tuple", data := Data.seq #[] }), (268, { cls := Value.type "code", data := Data.fields #[Value.str (Str.ofString "_law_spoilt") 586, Value.str (Str.ofString "_law_spoilt") 587, Value.str (Str.ofString "/claim/cut.py") 588, Value.int 274 0, Value.int 3 0, Value.int 0 0, Value.int 0 0, Value.int 3 0, Value.ref 263, Value.bool true, Value.int 181 0, Value.ref 264, Value.none, Value.ref 265, Value.ref 266, Value.ref 267, Value.int 599 0, Value.int 274 0, Value.str (Str.ofString "/claim/cut.py") 600] }), (270, { cls := Value.type "tuple", data := Data.seq #[] }), (272, { cls := Value.type "tuple", data := Data.seq #[Value.str (Str.ofString "_law_program") 605, Value.str (Str.ofString "_law_found") 606, Value.str (Str.ofString "_law_name") 607] }), (273, { cls := Value.type "tuple", data := Data.seq #[] }), (275, { cls := Value.type "code", data := Data.fields #[Value.str (Str.ofString "_law_copy") 602, Value.str (Str.ofString "_law_copy") 603, Value.str (Str.ofString "/claim/cut.py") 604, Value.int 292 0, Value.int 1 0, Value.int 0 0, Value.int 0 0, Value.int 3 0, Value.ref 270, Value.bool true, Value.int 181 0, Value.ref 271, Value.none, Value.ref 272, Value.ref 273, Value.ref 274, Value.int 608 0, Value.int 292 0, Value.str (Str.ofString "/claim/cut.py") 609] }), (284, { cls := Value.type "tuple", data := Data.seq #[] }), (286, { cls := Value.type "tuple", data := Data.seq #[Value.str (Str.ofString "_law_script") 629, Value.str (Str.ofString "_law_tape") 630, Value.str (Str.ofString "_law_way") 631, Value.str (Str.ofString "_law_anew") 632, Value.str (Str.ofString "_law_program") 633, Value.str (Str.ofString "_law_names") 634, Value.str (Str.ofString "_law_name") 635, Value.str (Str.ofString "_law_other") 636, Value.str (Str.ofString "_law_told_here") 637, Value.str (Str.ofString "_law_one") 638, Value.str (Str.ofString "_law_rows") 639, Value.str (Str.ofString "_law_before") 640, Value.str (Str.ofString "_law_after") 641] }), (287, { cls := Value.type "tuple", data := Data.seq #[] }), (289, { cls := Value.type "code", data := Data.fields #[Value.str (Str.ofString "law") 626, Value.str (Str.ofString "law") 627, Value.str (Str.ofString "/claim/cut.py") 628, Value.int 308 0, Value.int 1 0, Value.int 0 0, Value.int 0 0, Value.int 3 0, Value.ref 284, Value.bool true, Value.int 181 0, Value.ref 285, Value.none, Value.ref 286, Value.ref 287, Value.ref 288, Value.int 642 0, Value.int 308 0, Value.str (Str.ofString "/claim/cut.py") 643] })]
noncomputable def adrs : List Addr := [2, 3, 15, 22, 23, 24, 25, 28, 35, 36, 37, 40, 47, 48, 49, 52, 59, 60, 61, 64, 71, 72, 73, 76, 77, 78, 79, 80, 81, 82, 83, 84, 86, 87, 89, 91, 93, 94, 96, 98, 100, 101, 103, 105, 107, 108, 110, 112, 114, 115, 117, 119, 121, 122, 124, 126, 128, 129, 131, 133, 135, 136, 138, 140, 142, 143, 145, 147, 149, 150, 152, 154, 156, 157, 159, 161, 164, 166, 168, 169, 171, 173, 175, 176, 178, 180, 182, 183, 185, 187, 189, 190, 192, 194, 196, 197, 199, 201, 203, 204, 206, 208, 210, 211, 213, 215, 218, 220, 222, 223, 225, 227, 230, 232, 235, 237, 239, 240, 242, 244, 247, 249, 251, 252, 254, 256, 258, 259, 261, 263, 265, 266, 268, 270, 272, 273, 275, 284, 286, 287, 289]
abbrev loos : List Str := ["TAKES", "PUTS"]
noncomputable abbrev hook : Hook := kHook heap_39 adrs (fun _ => by kernel_rfl)
noncomputable abbrev xt : Shared → Bool := fun s => xlAt view_39 [] s && recOk PySem.Challenge.rw_uf030026_12.row.records s
set_option maxRecDepth 1000000
set_option maxHeartbeats 0
theorem bo : ∀ w : World, (fencedOpening treeTable PySem.Challenge.rw_uf030026_12.row.toRowW.1 w 4742).map (fun s => (s.heap, s.gens, s.drawn, s.toks)) = some (boot_heap w.params, Array.mk [], boot_drawn, boot_toks) := boot_open (by kernel_rfl) (by decide) (fun s => by kernel_rfl)
theorem use_boot {o : Option Shared} {h : Heap} {g : Array GenState} {d : Drawn} {t : Nat} (b : o.map (fun s => (s.heap, s.gens, s.drawn, s.toks)) = some (h, g, d, t)) {X : Type} {F : Shared → X} {x : X} (k : ∀ os, F ⟨h, g, d, t, os⟩ = x) : o.map F = some x := by
  obtain ⟨⟨h', g', d', t', os⟩, e, c⟩ := Option.map_eq_some_iff.mp b
  cases c
  rw [e]; exact congrArg some (k os)
noncomputable abbrev topr (w : World) (os : OsState) (x : Bool) : Option Shared := topFrom treeTable PySem.Challenge.rw_uf030026_12.row.toRowW.1 (w.withFollow "special-get-raises" x) 4742 ⟨boot_heap w.params, Array.mk [], boot_drawn, boot_toks, os⟩
theorem lw : looseW view_39 loos = loos := by kernel_rfl
noncomputable abbrev fC (L : List Str) (s : Shared) := ((seen ((recsOf view_39).map (·.name)) (ownsOf view_39) [] { s with gens := #[] }, s.heap.bltView, s.heap.keysOk L ((recsOf view_39).map (·.name)) ((litsOf view_39).map (·.1)) ((clssOf view_39 L).map (·.name)) && s.heap.accountedOkI (importedModules PySem.Challenge.rw_uf030026_12.row.toRowW.1.main.body) && s.heap.isNs mainGlobals && s.heap.isNs builtinsNs && tablesOk view_39 s.heap && xt s && (if true then s.gens.size == 0 else !leftWithCleanup s.gens), tabsOk view_39 s, pinSeenD view_39 (drecsOf view_39) s, plainSeenE view_39 L s, plainSeenD view_39 loos s, wideSeen view_39 s, clsSeenW view_39 loos s), hook.obs s)
noncomputable abbrev gC (L : List Str) (w : World) := ((expectedOf view_39, bltViewBooted, true, true, pinGoodD (drecsOf view_39), plainGoodE view_39 L, plainGoodD view_39 loos, wideGood view_39, clsGoodW view_39 loos), hook.val w)
theorem half (w : World) (os : OsState) : (topr w os false).map (fC loos) = some (gC loos (w.withFollow "special-get-raises" false)) := by kernel_rfl
theorem half' (w : World) (os : OsState) : (topr w os true).map (fC loos) = some (gC loos (w.withFollow "special-get-raises" true)) := by kernel_rfl
theorem whol (w : World) (os : OsState) (x : Bool) (h : (topr w os x).map (fC loos) = some (gC loos (w.withFollow "special-get-raises" x))) : (topr w os x).map (fun s => (openSeen view_39 loos (importedModules PySem.Challenge.rw_uf030026_12.row.toRowW.1.main.body) xt true s, hook.obs s)) = some (openGood view_39 loos, hook.val (w.withFollow "special-get-raises" x)) := by
  replace h : (topr w os x).map (fC (looseW view_39 loos)) = some (gC (looseW view_39 loos) (w.withFollow "special-get-raises" x)) := by rw [lw]; exact h
  exact h
theorem left : LeftO PySem.Challenge.rw_uf030026_12.row.toRowW.1 view_39 loos xt hook.obs hook.val 4742 := LeftO.of_split "special-get-raises" fun w => use_boot (bo w) fun os => congr (congrArg Prod.mk (whol w os false (half w os))) (whol w os true (half' w os))
end Mine.hd
end
section
open PySem
namespace Mine
set_option autoImplicit false

/-- abstract values -/
inductive PV where
  | none
  | bool (b : Bool)
  | int (i : Int)
  | str (s : Str)
  | tup (xs : List PV)
  | obj (a : Addr)
  | exc (c : Nat)
  | fls (xs : List Int)
  | fdt (kvs : List (Str × PV))
  | rng (n : Int)

/-- abstract objects -/
inductive AObj where
  | list (xs : List PV)
  | dict (kvs : List (Str × PV))
  | tape (n : Nat)
  | inst (c : Nat) (d : Addr)

abbrev AHeap := Addr → Option AObj
abbrev Loc := List (Option PV)
abbrev Post := PV → AHeap → Prop
abbrev BPost := Bool → AHeap → Prop
abbrev XPost := Nat → AHeap → Prop
abbrev CallSpec := Str → List PV → AHeap → Post → XPost → Prop

noncomputable def Ext (H H' : AHeap) : Prop := ∀ b o, H b = some o → H' b = some o
noncomputable def ExtB (a : Addr) (H H' : AHeap) : Prop := ∀ b o, b ≠ a → H b = some o → H' b = some o

inductive Blt where
  | len | list | tuple | range | max | min | int | str | all | any | abs
noncomputable def Blt.name : Blt → String
  | .len => "len" | .list => "list" | .tuple => "tuple" | .range => "range" | .max => "max" | .min => "min" | .int => "int" | .str => "str" | .all => "all" | .any => "any" | .abs => "abs"

inductive Meth where
  | append | pop | dpop | insert | count | join
noncomputable def Meth.name : Meth → String
  | .append => "append" | .pop => "pop" | .dpop => "pop" | .insert => "insert" | .count => "count" | .join => "join"

inductive ICls where
  | str | list | tuple | bool | int | intstr | value | own (c : Nat) (x : Str)

set_option genSizeOf false
set_option genInjectivity false
mutual
inductive AE where
  | lit (c : Const) (k : Nat) (p : Pos)
  | var (i : Nat) (p : Pos)
  | glob (x : Str) (p : Pos)
  | bin (l : AE) (o : Operator) (r : AE) (p : Pos)
  | neg (e : AE) (p : Pos)
  | not (e : AE) (p : Pos)
  | bop (o : BoolOp) (es : AEs) (p : Pos)
  | cmp (l : AE) (o : CmpOp) (r : AE) (p : Pos)
  | sub (e i : AE) (p : Pos)
  | sfrom (e i : AE) (ps p : Pos)
  | sto (e i : AE) (ps p : Pos)
  | srev (e : AE) (c ps p : Pos) (cu : Pos)
  | tup (es : AEs) (k : Nat) (p : Pos)
  | list (es : AEs) (p : Pos)
  | tape (pc p : Pos)
  | dict (ks : List (Str × Pos)) (vs : AEs) (p : Pos)
  | call (f : Str) (es : AEs) (pf p : Pos)
  | blt (b : Blt) (es : AEs) (pf p : Pos)
  | isi (e : AE) (c : ICls) (pf p1 p2 p3 p : Pos)
  | meth (o : AE) (nm : Meth) (es : AEs) (pa p : Pos)
  | umeth (o : AE) (c : Str) (nm : Str) (es : AEs) (pa p : Pos)
  | attr (o : AE) (nm : Str) (p : Pos)
  | comp (elt : AE) (x : Nat) (px : Pos) (it : AE) (cs : AEs) (sc : Scope) (p : Pos)
inductive AEs where
  | nil
  | cons (e : AE) (es : AEs)
end

mutual
inductive AS where
  | expr (e : AE) (p : Pos)
  | assign (x : Nat) (px : Pos) (e : AE) (p : Pos)
  | assignT (xs : List (Nat × Pos)) (k : Nat) (pt : Pos) (e : AE) (p : Pos)
  | store (o i : AE) (ps : Pos) (e : AE) (p : Pos)
  | sattr (o : AE) (nm : Str) (pa : Pos) (e : AE) (p : Pos)
  | ite (c : AE) (a b : ASs) (p : Pos)
  | for (x : Nat) (px : Pos) (it : AE) (b : ASs) (p : Pos)
  | while (c : AE) (b : ASs) (p : Pos)
  | ret (e : AE) (p : Pos)
  | ret0 (p : Pos)
  | raise (c : Nat) (x : Str) (msg : Str) (k : Nat) (pc pm pk p : Pos)
  | try (b : ASs) (hs : AHs) (p : Pos)
inductive ASs where
  | nil
  | cons (s : AS) (ss : ASs)
inductive AHs where
  | nil
  | cons (c : Nat) (x : Str) (px : Pos) (y : Option Nat) (b : ASs) (p : Pos) (hs : AHs)
end

set_option genSizeOf true
set_option genInjectivity true
section toSyntax
variable (nm : List Str)
noncomputable def slot (i : Nat) : Str := nm.getD i Str.empty
noncomputable def ICls.expr (p1 p2 p3 : Pos) : ICls → Expr
  | .str => .Name "str" p1
  | .list => .Name "list" p1
  | .tuple => .Name "tuple" p1
  | .bool => .Name "bool" p1
  | .int => .Name "int" p1
  | .intstr => .Tuple [.Name "int" p2, .Name "str" p3] 0 p1
  | .value => .Name "ValueError" p1
  | .own _ x => .Name x p1
mutual
noncomputable def AE.toE : AE → Expr
  | .lit c k p => .Constant c k p
  | .var i p => .Name (slot nm i) p
  | .glob x p => .Name x p
  | .bin l o r p => .BinOp l.toE o r.toE p
  | .neg e p => .UnaryOp .USub e.toE p
  | .not e p => .UnaryOp .Not e.toE p
  | .bop o es p => .BoolOp o es.toEs p
  | .cmp l o r p => .Compare l.toE [o] [r.toE] p
  | .sub e i p => .Subscript e.toE i.toE p
  | .sfrom e i ps p => .Subscript e.toE (.Slice (some i.toE) none none ps) p
  | .sto e i ps p => .Subscript e.toE (.Slice none (some i.toE) none ps) p
  | .srev e c ps p cu => .Subscript e.toE (.Slice none none (some (.UnaryOp .USub (.Constant (.int 1) 0 c) cu)) ps) p
  | .tup es k p => .Tuple es.toEs k p
  | .list es p => .List es.toEs p
  | .tape pc p => .List [.Constant (.int 0) 0 pc] p
  | .dict ks vs p => .Dict (ks.map fun x => some (.Constant (.str x.1) 0 x.2)) vs.toEs p
  | .call f es pf p => .Call (.Name f pf) es.toEs [] p
  | .blt b es pf p => .Call (.Name b.name pf) es.toEs [] p
  | .isi e c pf p1 p2 p3 p => .Call (.Name "isinstance" pf) [e.toE, c.expr p1 p2 p3] [] p
  | .meth o m es pa p => .Call (.Attribute o.toE m.name pa) es.toEs [] p
  | .umeth o _ m es pa p => .Call (.Attribute o.toE m pa) es.toEs [] p
  | .attr o m p => .Attribute o.toE m p
  | .comp elt x px it cs sc p => .ListComp elt.toE [{ target := .Name (slot nm x) px, iter := it.toE, ifs := cs.toEs, is_async := 0 }] sc p
noncomputable def AEs.toEs : AEs → List Expr
  | .nil => []
  | .cons e es => e.toE :: es.toEs
end
mutual
noncomputable def AS.toS : AS → Stmt
  | .expr e p => .Expr (e.toE nm) p
  | .assign x px e p => .Assign [.Name (slot nm x) px] (e.toE nm) p
  | .assignT xs k pt e p => .Assign [.Tuple (xs.map fun x => .Name (slot nm x.1) x.2) k pt] (e.toE nm) p
  | .store o i ps e p => .Assign [.Subscript (o.toE nm) (i.toE nm) ps] (e.toE nm) p
  | .sattr o n pa e p => .Assign [.Attribute (o.toE nm) n pa] (e.toE nm) p
  | .ite c a b p => .If (c.toE nm) a.toSs b.toSs p
  | .for x px it b p => .For (.Name (slot nm x) px) (it.toE nm) b.toSs [] p
  | .while c b p => .While (c.toE nm) b.toSs [] p
  | .ret e p => .Return (some (e.toE nm)) p
  | .ret0 p => .Return none p
  | .raise _ x msg k pc pm pk p => .Raise (some (.Call (.Name x pc) [.Constant (.str msg) k pm] [] pk)) none p
  | .try b hs p => .Try b.toSs hs.toHs [] [] p
noncomputable def ASs.toSs : ASs → List Stmt
  | .nil => []
  | .cons s ss => s.toS :: ss.toSs
noncomputable def AHs.toHs : AHs → List ExceptHandler
  | .nil => []
  | .cons _ x px y b p hs => .ExceptHandler (some (.Name x px)) (y.map (slot nm)) b.toSs p :: hs.toHs
end
end toSyntax

/-! the abstract semantics -/
noncomputable def LIM : Nat := 1048576
noncomputable def getO (H : AHeap) (a : Addr) (K : AObj → Prop) : Prop := ∃ o, H a = some o ∧ K o
noncomputable def alloc (o : AObj) (Q : Post) (H : AHeap) : Prop := ∀ a H', H a = none → H' a = some o → Ext H H' → Q (.obj a) H'
noncomputable def mutate (a : Addr) (o : AObj) (K : AHeap → Prop) (H : AHeap) : Prop := ∀ H', H' a = some o → ExtB a H H' → K H'

noncomputable def dget {α : Type} (kvs : List (Str × α)) (k : Str) : Option α := (kvs.find? fun p => decide (p.1 = k)).map (·.2)
noncomputable def dset {α : Type} (kvs : List (Str × α)) (k : Str) (v : α) : List (Str × α) :=
  if kvs.any (fun p => decide (p.1 = k)) then kvs.map (fun p => if p.1 = k then (p.1, v) else p) else kvs ++ [(k, v)]

inductive EqA : PV → PV → Bool → Prop
  | bool (a b : Bool) : EqA (.bool a) (.bool b) (a == b)
  | int (a b : Int) : EqA (.int a) (.int b) (a == b)
  | str (a b : Str) : EqA (.str a) (.str b) (a == b)
  | intstr (a : Int) (b : Str) : EqA (.int a) (.str b) false
  | strint (a : Str) (b : Int) : EqA (.str a) (.int b) false
mutual
inductive EqV (H : AHeap) : Nat → PV → PV → Bool → Prop
  | atom {n : Nat} {p q : PV} {b : Bool} : EqA p q b → EqV H n p q b
  | tup {n : Nat} {xs ys : List PV} {b : Bool} : EqL H n xs ys b → EqV H (n + 1) (.tup xs) (.tup ys) b
  | list {n : Nat} {a b : Addr} {xs ys : List PV} {r : Bool} : H a = some (.list xs) → H b = some (.list ys) → EqL H n xs ys r → EqV H (n + 1) (.obj a) (.obj b) r
inductive EqL (H : AHeap) : Nat → List PV → List PV → Bool → Prop
  | nil {n : Nat} : EqL H n [] [] true
  | l {n : Nat} (x : PV) (xs : List PV) : EqL H n (x :: xs) [] false
  | r {n : Nat} (y : PV) (ys : List PV) : EqL H n [] (y :: ys) false
  | c {n : Nat} {x y : PV} {xs ys : List PV} {a b : Bool} : EqV H n x y a → EqL H n xs ys b → EqL H n (x :: xs) (y :: ys) (a && b)
end
theorem EqV.bool {H : AHeap} {n : Nat} (a b : Bool) : EqV H n (.bool a) (.bool b) (a == b) := .atom (.bool a b)
theorem EqV.int {H : AHeap} {n : Nat} (a b : Int) : EqV H n (.int a) (.int b) (a == b) := .atom (.int a b)
theorem EqV.str {H : AHeap} {n : Nat} (a b : Str) : EqV H n (.str a) (.str b) (a == b) := .atom (.str a b)
inductive EqD (H : AHeap) : List (Str × PV) → List (Str × PV) → Bool → Prop
  | nil {ys : List (Str × PV)} : EqD H ys [] true
  | miss {ys xs : List (Str × PV)} {k : Str} {v : PV} : dget ys k = none → EqD H ys ((k, v) :: xs) false
  | c {ys xs : List (Str × PV)} {k : Str} {v w : PV} {a b : Bool} : dget ys k = some w → EqV H 40 v w a → EqD H ys xs b → EqD H ys ((k, v) :: xs) (a && b)
inductive EqT (H : AHeap) : PV → PV → Bool → Prop
  | val {v w : PV} {b : Bool} : EqV H 40 v w b → EqT H v w b
  | dict {a b : Addr} {xs ys : List (Str × PV)} {r : Bool} : H a = some (.dict xs) → H b = some (.dict ys) → xs.length = ys.length → EqD H ys xs r → EqT H (.obj a) (.obj b) r
  | dictlen {a b : Addr} {xs ys : List (Str × PV)} : H a = some (.dict xs) → H b = some (.dict ys) → xs.length ≠ ys.length → EqT H (.obj a) (.obj b) false

noncomputable def litW (c : Const) (Q : Post) (H : AHeap) : Prop :=
  match c with
  | .none => Q .none H
  | .bool b => Q (.bool b) H
  | .int i => Q (.int i) H
  | .str s => Q (.str s) H
  | _ => False
noncomputable def varW (v : Option PV) (Q : Post) (H : AHeap) : Prop :=
  match v with
  | some v => Q v H
  | none => False
noncomputable def truthW (v : PV) (K : Bool → Prop) : Prop :=
  match v with
  | .bool b => K b
  | _ => False
noncomputable def repL (n : Int) (xs : List PV) : List PV := (List.replicate n.toNat xs).flatten
inductive BinW (Q : Post) (H : AHeap) : Operator → PV → PV → Prop
  | addI (a b : Int) (h : Q (.int (a + b)) H) : BinW Q H .Add (.int a) (.int b)
  | subI (a b : Int) (h : Q (.int (a - b)) H) : BinW Q H .Sub (.int a) (.int b)
  | mulI (a b : Int) (k : a.natAbs < 2 ^ 60 ∨ b.natAbs < 2 ^ 60) (h : Q (.int (a * b)) H) : BinW Q H .Mult (.int a) (.int b)
  | modI (a b : Int) (k : 0 < b) (h : Q (.int (a % b)) H) : BinW Q H .Mod (.int a) (.int b)
  | divI (a b : Int) (k : 0 < b) (k' : b < 1073741824) (h : Q (.int (a / b)) H) : BinW Q H .FloorDiv (.int a) (.int b)
  | powI (h : Q (.int 1000000000) H) : BinW Q H .Pow (.int 10) (.int 9)
  | addS (a b : Str) (k : a.length + b.length ≤ LIM) (h : Q (.str (a ++ b)) H) : BinW Q H .Add (.str a) (.str b)
  | addT (a b : List PV) (k : a.length + b.length ≤ LIM) (h : Q (.tup (a ++ b)) H) : BinW Q H .Add (.tup a) (.tup b)
  | addL (a b : Addr) (xs ys : List PV) (ha : H a = some (.list xs)) (hb : H b = some (.list ys)) (k : xs.length + ys.length ≤ LIM) (h : alloc (.list (xs ++ ys)) Q H) : BinW Q H .Add (.obj a) (.obj b)
  | mulL (a : Addr) (n : Int) (xs : List PV) (ha : H a = some (.list xs)) (k1 : n ≤ LIM) (k2 : -LIM ≤ n) (k3 : xs.length * n.toNat ≤ LIM) (h : alloc (.list (repL n xs)) Q H) : BinW Q H .Mult (.obj a) (.int n)
/-- a told value, or a rule -/
noncomputable def pureOr {α : Type} (f : Option α) (K : α → Prop) (R : Prop) : Prop := match f with
  | some a => K a
  | none => R
theorem pureOr.to {α : Type} {f : Option α} {K : α → Prop} {R : Prop} (h : pureOr f K R) (k : ∀ a, f = some a → K a → R) : R := by
  cases f with
  | none => exact h
  | some a => exact k a rfl h
noncomputable def intF (op : Operator) (a b : Int) : Option Int := match op with
  | .Add => some (a + b)
  | .Sub => some (a - b)
  | .Mod => if 0 < b then some (a % b) else none
  | .FloorDiv => if 0 < b then if b < 1073741824 then some (a / b) else none else none
  | _ => none
noncomputable def binF (op : Operator) (v w : PV) : Option PV := match v with
  | .int a => (match w with
    | .int b => (match intF op a b with | some i => some (.int i) | none => none)
    | _ => none)
  | _ => none
noncomputable def binW (op : Operator) (v w : PV) (Q : Post) (H : AHeap) : Prop := pureOr (binF op v w) (fun u => Q u H) (BinW Q H op v w)
noncomputable def hasKey (kvs : List (Str × PV)) (k : Str) : Bool := (dget kvs k).isSome
noncomputable def isN : PV → Bool
  | .none => true
  | _ => false
inductive CmpW (K : Bool → Prop) (H : AHeap) : CmpOp → PV → PV → Prop
  | eq {v w : PV} {b : Bool} (e : EqT H v w b) (h : K b) : CmpW K H .Eq v w
  | ne {v w : PV} {b : Bool} (e : EqT H v w b) (h : K (!b)) : CmpW K H .NotEq v w
  | lt (a b : Int) (h : K (decide (a < b))) : CmpW K H .Lt (.int a) (.int b)
  | le (a b : Int) (h : K (decide (a ≤ b))) : CmpW K H .LtE (.int a) (.int b)
  | gt (a b : Int) (h : K (decide (b < a))) : CmpW K H .Gt (.int a) (.int b)
  | isN {v : PV} (h : K (Mine.isN v)) : CmpW K H .Is v .none
  | niN {v : PV} (h : K (!Mine.isN v)) : CmpW K H .IsNot v .none
  | inD {k : Str} {a : Addr} {kvs : List (Str × PV)} (ha : H a = some (.dict kvs)) (h : K (hasKey kvs k)) : CmpW K H .In (.str k) (.obj a)
  | niD {k : Str} {a : Addr} {kvs : List (Str × PV)} (ha : H a = some (.dict kvs)) (h : K (!hasKey kvs k)) : CmpW K H .NotIn (.str k) (.obj a)
  | inL {k : Str} {a : Addr} {ks : List Str} (ha : H a = some (.list (ks.map .str))) (h : K (decide (k ∈ ks))) : CmpW K H .In (.str k) (.obj a)
  | niL {k : Str} {a : Addr} {ks : List Str} (ha : H a = some (.list (ks.map .str))) (h : K (!decide (k ∈ ks))) : CmpW K H .NotIn (.str k) (.obj a)
noncomputable def cmpI (op : CmpOp) (a b : Int) : Option Bool := match op with
  | .Eq => some (a == b)
  | .NotEq => some (!(a == b))
  | .Lt => some (decide (a < b))
  | .LtE => some (decide (a ≤ b))
  | .Gt => some (decide (b < a))
  | _ => none
noncomputable def cmpS (op : CmpOp) (a b : Str) : Option Bool := match op with
  | .Eq => some (a == b)
  | .NotEq => some (!(a == b))
  | _ => none
noncomputable def noneF (op : CmpOp) (v : PV) : Option Bool := match op with
  | .Is => some (isN v)
  | .IsNot => some (!isN v)
  | _ => none
noncomputable def cmpF (op : CmpOp) (v w : PV) : Option Bool := match v with
  | .int a => (match w with | .int b => cmpI op a b | _ => none)
  | .str a => (match w with | .str b => cmpS op a b | _ => none)
  | v => (match w with | .none => noneF op v | _ => none)
noncomputable def cmpW (op : CmpOp) (v w : PV) (Q : BPost) (H : AHeap) : Prop := pureOr (cmpF op v w) (fun b => Q b H) (CmpW (fun b => Q b H) H op v w)
noncomputable def itemAt {α : Type} (xs : List α) (k : Int) : Option α :=
  if 0 ≤ k then xs[k.toNat]? else if 0 ≤ k + xs.length then xs[(k + xs.length).toNat]? else none
noncomputable def signAt (s : Str) (k : Int) : Option Str := (itemAt s.cps.toList k).map fun c => ⟨#[c]⟩
inductive SubW (Q : Post) (H : AHeap) : PV → PV → Prop
  | tup {xs : List PV} {k : Int} {x : PV} (e : itemAt xs k = some x) (h : Q x H) : SubW Q H (.tup xs) (.int k)
  | str {s x : Str} {k : Int} (l : s.length ≤ LIM) (e : signAt s k = some x) (h : Q (.str x) H) : SubW Q H (.str s) (.int k)
  | fls {xs : List Int} {k x : Int} (e : itemAt xs k = some x) (h : Q (.int x) H) : SubW Q H (.fls xs) (.int k)
  | fdt {kvs : List (Str × PV)} {k : Str} {x : PV} (e : dget kvs k = some x) (h : Q x H) : SubW Q H (.fdt kvs) (.str k)
  | list {a : Addr} {xs : List PV} {k : Int} {x : PV} (ha : H a = some (.list xs)) (e : itemAt xs k = some x) (h : Q x H) : SubW Q H (.obj a) (.int k)
  | dict {a : Addr} {kvs : List (Str × PV)} {k : Str} {x : PV} (ha : H a = some (.dict kvs)) (e : dget kvs k = some x) (h : Q x H) : SubW Q H (.obj a) (.str k)
  | tape {a : Addr} {n : Nat} (ha : H a = some (.tape n)) (h : Q (.int n) H) : SubW Q H (.obj a) (.int 0)
noncomputable def subF (v i : PV) : Option PV := match v with
  | .tup xs => (match i with | .int k => itemAt xs k | _ => none)
  | _ => none
noncomputable def subW (v i : PV) (Q : Post) (H : AHeap) : Prop := pureOr (subF v i) (fun u => Q u H) (SubW Q H v i)
/-- where a cut falls in a row of n -/
noncomputable def cutAt (n : Nat) (k : Int) : Nat := if 0 ≤ k then min k.toNat n else (k + n).toNat
inductive FromW (Q : Post) (H : AHeap) : PV → PV → Prop
  | tup {xs : List PV} {k : Int} (h : Q (.tup (xs.drop (cutAt xs.length k))) H) : FromW Q H (.tup xs) (.int k)
  | str {s : Str} {k : Int} (l : s.length ≤ LIM) (h : Q (.str ⟨(s.cps.toList.drop (cutAt s.length k)).toArray⟩) H) : FromW Q H (.str s) (.int k)
  | list {a : Addr} {xs : List PV} {k : Int} (ha : H a = some (.list xs)) (h : alloc (.list (xs.drop (cutAt xs.length k))) Q H) : FromW Q H (.obj a) (.int k)
inductive ToW (Q : Post) (H : AHeap) : PV → PV → Prop
  | tup {xs : List PV} {k : Int} (h : Q (.tup (xs.take (cutAt xs.length k))) H) : ToW Q H (.tup xs) (.int k)
  | str {s : Str} {k : Int} (l : s.length ≤ LIM) (h : Q (.str ⟨(s.cps.toList.take (cutAt s.length k)).toArray⟩) H) : ToW Q H (.str s) (.int k)
  | fls {xs : List Int} {k : Int} (h : alloc (.list ((xs.take (cutAt xs.length k)).map .int)) Q H) : ToW Q H (.fls xs) (.int k)
  | list {a : Addr} {xs : List PV} {k : Int} (ha : H a = some (.list xs)) (h : alloc (.list (xs.take (cutAt xs.length k))) Q H) : ToW Q H (.obj a) (.int k)
inductive RevW (Q : Post) (H : AHeap) : PV → Prop
  | list {a : Addr} {xs : List PV} (ha : H a = some (.list xs)) (h : alloc (.list xs.reverse) Q H) : RevW Q H (.obj a)
noncomputable def dictOf (ks : List Str) (vs : List PV) : List (Str × PV) := (ks.zip vs).foldl (fun d p => dset d p.1 p.2) []
inductive BltW (Q : Post) (H : AHeap) : Blt → List PV → Prop
  | lenT (xs : List PV) (h : Q (.int xs.length) H) : BltW Q H .len [.tup xs]
  | lenS (s : Str) (l : s.length ≤ LIM) (h : Q (.int s.length) H) : BltW Q H .len [.str s]
  | lenF (xs : List Int) (h : Q (.int xs.length) H) : BltW Q H .len [.fls xs]
  | lenL (a : Addr) (xs : List PV) (ha : H a = some (.list xs)) (h : Q (.int xs.length) H) : BltW Q H .len [.obj a]
  | lenD (a : Addr) (kvs : List (Str × PV)) (ha : H a = some (.dict kvs)) (h : Q (.int kvs.length) H) : BltW Q H .len [.obj a]
  | listT (xs : List PV) (h : alloc (.list xs) Q H) : BltW Q H .list [.tup xs]
  | listL (a : Addr) (xs : List PV) (ha : H a = some (.list xs)) (h : alloc (.list xs) Q H) : BltW Q H .list [.obj a]
  | listD (a : Addr) (kvs : List (Str × PV)) (ha : H a = some (.dict kvs)) (h : alloc (.list (kvs.map fun x => .str x.1)) Q H) : BltW Q H .list [.obj a]
  | tupT (xs : List PV) (h : Q (.tup xs) H) : BltW Q H .tuple [.tup xs]
  | tupL (a : Addr) (xs : List PV) (ha : H a = some (.list xs)) (h : Q (.tup xs) H) : BltW Q H .tuple [.obj a]
  | range (n : Int) (k : n.natAbs ≤ LIM) (h : Q (.rng n) H) : BltW Q H .range [.int n]
  | max (a b : Int) (h : Q (.int (if a < b then b else a)) H) : BltW Q H .max [.int a, .int b]
  | min (a b : Int) (h : Q (.int (if b < a then b else a)) H) : BltW Q H .min [.int a, .int b]
  | intB (b : Bool) (h : Q (.int (if b then 1 else 0)) H) : BltW Q H .int [.bool b]
  | intI (i : Int) (h : Q (.int i) H) : BltW Q H .int [.int i]
  | strI (i : Int) (k : i.natAbs < 10 ^ 18) (h : Q (.str (Str.ofString (toString i))) H) : BltW Q H .str [.int i]
  | abs (i : Int) (h : Q (.int i.natAbs) H) : BltW Q H .abs [.int i]
noncomputable def blt1 (b : Blt) (v : PV) : Option PV := match v with
  | .tup xs => (match b with | .len => some (.int xs.length) | .tuple => some (.tup xs) | _ => none)
  | .fls xs => (match b with | .len => some (.int xs.length) | _ => none)
  | .bool c => (match b with | .int => some (.int (if c then 1 else 0)) | _ => none)
  | _ => none
noncomputable def blt2 (b : Blt) (v w : PV) : Option PV := match v with
  | .int x => (match w with
    | .int y => (match b with | .max => some (.int (if x < y then y else x)) | .min => some (.int (if y < x then y else x)) | _ => none)
    | _ => none)
  | _ => none
noncomputable def bltF (b : Blt) (vs : List PV) : Option PV := match vs with
  | [v] => blt1 b v
  | [v, w] => blt2 b v w
  | _ => none
noncomputable def bltW (b : Blt) (vs : List PV) (Q : Post) (H : AHeap) : Prop := pureOr (bltF b vs) (fun u => Q u H) (BltW Q H b vs)
noncomputable def isSub (k c : Nat) : Bool := k == c || c == 0
noncomputable def ICls.basic : ICls → Bool
  | .str | .list | .tuple | .bool | .int => true
  | _ => false
noncomputable def ICls.hits (c : ICls) (t : Nat) : Bool := match c with
  | .bool => t == 1
  | .int => t == 1 || t == 2
  | .str => t == 3
  | .tuple => t == 4
  | .list => t == 5
  | _ => false
noncomputable def tagOf : PV → Option Nat
  | .none => some 0
  | .bool _ => some 1
  | .int _ => some 2
  | .str _ => some 3
  | .tup _ => some 4
  | _ => none
inductive IsiW (K : Bool → Prop) (H : AHeap) : ICls → PV → Prop
  | val {c : ICls} {v : PV} {t : Nat} (b : c.basic = true) (e : tagOf v = some t) (h : K (c.hits t)) : IsiW K H c v
  | list {c : ICls} {a : Addr} {xs : List PV} (b : c.basic = true) (ha : H a = some (.list xs)) (h : K (c.hits 5)) : IsiW K H c (.obj a)
  | own {j k : Nat} {x : Str} (h : K (isSub k j)) : IsiW K H (.own j x) (.exc k)
  | value {k : Nat} (h : K true) : IsiW K H .value (.exc k)
noncomputable def isiF (c : ICls) (v : PV) : Option Bool := match v with
  | .exc k => (match c with | .own j _ => some (isSub k j) | .value => some true | _ => none)
  | v => (match c.basic with | true => (match tagOf v with | some t => some (c.hits t) | none => none) | false => none)
noncomputable def isiW (c : ICls) (v : PV) (K : Bool → Prop) (H : AHeap) : Prop := pureOr (isiF c v) K (IsiW K H c v)
inductive MethW (Q : Post) (H : AHeap) : Meth → PV → List PV → Prop
  | append (a : Addr) (xs : List PV) (x : PV) (ha : H a = some (.list xs)) (k : xs.length < LIM) (h : mutate a (.list (xs ++ [x])) (fun H' => Q .none H') H) : MethW Q H .append (.obj a) [x]
  | pop (a : Addr) (ys : List PV) (x : PV) (ha : H a = some (.list (ys ++ [x]))) (h : mutate a (.list ys) (fun H' => Q x H') H) : MethW Q H .pop (.obj a) []
  | insert (a : Addr) (xs : List PV) (k : Int) (x : PV) (ha : H a = some (.list xs)) (k0 : 0 ≤ k) (k1 : k ≤ xs.length) (k2 : xs.length < LIM) (h : mutate a (.list (xs.take k.toNat ++ x :: xs.drop k.toNat)) (fun H' => Q .none H') H) : MethW Q H .insert (.obj a) [.int k, x]
  | count (a : Addr) (bs : List Bool) (b : Bool) (ha : H a = some (.list (bs.map .bool))) (h : Q (.int (bs.count b)) H) : MethW Q H .count (.obj a) [.bool b]
  | join (s : Str) (a : Addr) (ss : List Str) (ha : H a = some (.list (ss.map .str))) (e : s.length = 0) (k : (ss.map (·.length)).sum ≤ LIM) (h : Q (.str (Str.join s ss)) H) : MethW Q H .join (.str s) [.obj a]
noncomputable def methW (m : Meth) (v : PV) (vs : List PV) (Q : Post) (H : AHeap) : Prop := MethW Q H m v vs
noncomputable def Meth.onL : Meth → Bool
  | .append | .pop | .insert | .count => true
  | _ => false
inductive RecvW (P : Prop) (H : AHeap) : Meth → PV → Prop
  | list {m : Meth} {a : Addr} {xs : List PV} (ha : H a = some (.list xs)) (k : m.onL = true) (h : P) : RecvW P H m (.obj a)
  | str {s : Str} (h : P) : RecvW P H .join (.str s)
/-- what a loop goes over, and what must stay so -/
inductive ItemsW (K : List PV → (AHeap → Prop) → Prop) (H : AHeap) : PV → Prop
  | tup {xs : List PV} (h : K xs fun _ => True) : ItemsW K H (.tup xs)
  | rng {n : Int} (h : K ((List.range n.toNat).map fun (i : Nat) => .int i) fun _ => True) : ItemsW K H (.rng n)
  | list {a : Addr} {xs : List PV} (ha : H a = some (.list xs)) (h : K xs fun H' => H' a = some (.list xs)) : ItemsW K H (.obj a)
noncomputable def itemsF (v : PV) : Option (List PV) := match v with
  | .tup xs => some xs
  | .rng n => some ((List.range n.toNat).map fun (i : Nat) => .int i)
  | _ => none
noncomputable def itemsW (v : PV) (K : List PV → (AHeap → Prop) → Prop) (H : AHeap) : Prop := pureOr (itemsF v) (fun xs => K xs fun _ => True) (ItemsW K H v)
noncomputable def compW (src : AHeap → Prop) (el : PV → (List PV → AHeap → Prop) → AHeap → Prop) (Q : List PV → AHeap → Prop) : List PV → List PV → AHeap → Prop
  | [], acc, H => src H ∧ Q acc H
  | x :: xs, acc, H => src H ∧ el x (fun vs H' => compW src el Q xs (acc ++ vs) H') H
noncomputable def forW (src : AHeap → Prop) (st : PV → (Loc → AHeap → Prop) → Loc → AHeap → Prop) (N : Loc → AHeap → Prop) : List PV → Loc → AHeap → Prop
  | [], m, H => src H ∧ N m H
  | x :: xs, m, H => src H ∧ st x (fun m' H' => forW src st N xs m' H') m H

noncomputable def boolW (o : BoolOp) (b : Bool) (stop go : Prop) : Prop := match o with
  | .And => if b then go else stop
  | .Or => if b then stop else go
structure Gl where
  C : CallSpec
  G : Str → Option PV

section
variable (g : Gl)
mutual
noncomputable def awpE : AE → Post → XPost → Loc → AHeap → Prop
  | .lit c _ _, Q, _, _, H => litW c Q H
  | .var i _, Q, _, m, H => varW (m.getD i none) Q H
  | .glob x _, Q, _, _, H => varW (g.G x) Q H
  | .bin l o r _, Q, X, m, H => awpE l (fun v H => awpE r (fun w H => binW o v w Q H) X m H) X m H
  | .neg e _, Q, X, m, H => awpE e (fun v H => match v with | .int i => Q (.int (-i)) H | _ => False) X m H
  | .not e _, Q, X, m, H => awpE e (fun v H => truthW v fun b => Q (.bool !b) H) X m H
  | .bop o es _, Q, X, m, H => awpV o es Q X m H
  | .cmp l o r _, Q, X, m, H => awpE l (fun v H => awpE r (fun w H => cmpW o v w (fun b H => Q (.bool b) H) H) X m H) X m H
  | .sub e i _, Q, X, m, H => awpE e (fun v H => awpE i (fun w H => subW v w Q H) X m H) X m H
  | .sfrom e i _ _, Q, X, m, H => awpE e (fun v H => awpE i (fun w H => FromW Q H v w) X m H) X m H
  | .sto e i _ _, Q, X, m, H => awpE e (fun v H => awpE i (fun w H => ToW Q H v w) X m H) X m H
  | .srev e _ _ _ _, Q, X, m, H => awpE e (fun v H => RevW Q H v) X m H
  | .tup es _ _, Q, X, m, H => awpL es (fun vs H => Q (.tup vs) H) X m H
  | .list es _, Q, X, m, H => awpL es (fun vs H => alloc (.list vs) Q H) X m H
  | .tape _ _, Q, _, _, H => alloc (.tape 0) Q H
  | .dict ks es _, Q, X, m, H => awpL es (fun vs H => alloc (.dict (dictOf (ks.map (·.1)) vs)) Q H) X m H
  | .call f es _ _, Q, X, m, H => awpL es (fun vs H => g.C f vs H Q X) X m H
  | .blt b es _ _, Q, X, m, H => awpL es (fun vs H => bltW b vs Q H) X m H
  | .isi e c _ _ _ _ _, Q, X, m, H => awpE e (fun v H => isiW c v (fun b => Q (.bool b) H) H) X m H
  | .meth e n es _ _, Q, X, m, H => awpE e (fun v H => RecvW (awpL es (fun vs H => methW n v vs Q H) X m H) H n v) X m H
  | .umeth _ _ _ _ _ _, _, _, _, _ => False
  | .attr _ _ _, _, _, _, _ => False
  | .comp e x _ it cs _ _, Q, X, m, H => awpE it (fun v H => itemsW v (fun xs src =>
      compW src (fun y K H => awpC cs (fun b H => if b then awpE e (fun v H => K [v] H) (fun _ _ => False) (m.set x (some y)) H else K [] H) (fun _ _ => False) (m.set x (some y)) H)
        (fun vs H => alloc (.list vs) Q H) xs [] H) H) X m H
noncomputable def awpL : AEs → (List PV → AHeap → Prop) → XPost → Loc → AHeap → Prop
  | .nil, Q, _, _, H => Q [] H
  | .cons e es, Q, X, m, H => awpE e (fun v H => awpL es (fun vs H => Q (v :: vs) H) X m H) X m H
noncomputable def awpV : BoolOp → AEs → Post → XPost → Loc → AHeap → Prop
  | _, .nil, _, _, _, _ => False
  | _, .cons e .nil, Q, X, m, H => awpE e Q X m H
  | o, .cons e es, Q, X, m, H => awpE e (fun v H => truthW v fun b => boolW o b (Q v H) (awpV o es Q X m H)) X m H
noncomputable def awpB : AE → (Post → XPost → Loc → AHeap → Prop) → BPost → XPost → Loc → AHeap → Prop
  | .not e _, _, Q, X, m, H => awpB e (awpE e) (fun b H => Q (!b) H) X m H
  | .bop o es _, _, Q, X, m, H => awpBs o es Q X m H
  | .cmp l o r _, _, Q, X, m, H => awpE l (fun v H => awpE r (fun w H => cmpW o v w Q H) X m H) X m H
  | _, W, Q, X, m, H => W (fun v H => truthW v fun b => Q b H) X m H
noncomputable def awpBs : BoolOp → AEs → BPost → XPost → Loc → AHeap → Prop
  | o, .nil, Q, _, _, H => Q (o == .And) H
  | o, .cons e es, Q, X, m, H => awpB e (awpE e) (fun b H => boolW o b (Q (match o with | .And => false | .Or => true) H) (awpBs o es Q X m H)) X m H
noncomputable def awpC : AEs → BPost → XPost → Loc → AHeap → Prop
  | .nil, Q, _, _, H => Q true H
  | .cons e _, Q, X, m, H => awpB e (awpE e) Q X m H
end

abbrev NPost := Loc → AHeap → Prop
abbrev SXPost := Nat → Loc → AHeap → Prop
noncomputable def unpackW (v : PV) (n : Nat) (K : List PV → Prop) : Prop :=
  match v with
  | .tup xs => xs.length = n ∧ K xs
  | _ => False
noncomputable def setAll : List (Nat × Pos) → List PV → Loc → Loc
  | x :: xs, v :: vs, m => setAll xs vs (m.set x.1 (some v))
  | _, _, m => m
inductive StoreW (K : AHeap → Prop) (H : AHeap) : PV → PV → PV → Prop
  | list {a : Addr} {xs : List PV} {k : Int} {x : PV} (ha : H a = some (.list xs)) (k0 : 0 ≤ k) (k1 : k < xs.length) (h : mutate a (.list (xs.set k.toNat x)) K H) : StoreW K H (.obj a) (.int k) x
  | dict {a : Addr} {kvs : List (Str × PV)} {k : Str} {x : PV} (ha : H a = some (.dict kvs)) (l : kvs.length < LIM) (h : mutate a (.dict (dset kvs k x)) K H) : StoreW K H (.obj a) (.str k) x
  | tape {a : Addr} {n : Nat} {j : Int} (ha : H a = some (.tape n)) (j0 : 0 ≤ j) (h : mutate a (.tape j.toNat) K H) : StoreW K H (.obj a) (.int 0) (.int j)
mutual
noncomputable def awpS : AS → NPost → Post → SXPost → Loc → AHeap → Prop
  | .expr e _, N, _, X, m, H => awpE g e (fun _ H => N m H) (fun c H => X c m H) m H
  | .assign x _ e _, N, _, X, m, H => awpE g e (fun v H => N (m.set x (some v)) H) (fun c H => X c m H) m H
  | .assignT xs _ _ e _, N, _, X, m, H => awpE g e (fun v H => unpackW v xs.length fun vs => N (setAll xs vs m) H) (fun c H => X c m H) m H
  | .store o i _ e _, N, _, X, m, H => awpE g e (fun x H => awpE g o (fun v H => awpE g i (fun w H => StoreW (fun H => N m H) H v w x) (fun c H => X c m H) m H) (fun c H => X c m H) m H) (fun c H => X c m H) m H
  | .sattr _ _ _ _ _, _, _, _, _, _ => False
  | .ite c a b _, N, R, X, m, H => awpB g c (awpE g c) (fun t H => if t then awpSs a N R X m H else awpSs b N R X m H) (fun c H => X c m H) m H
  | .for x _ it b _, N, R, X, m, H => awpE g it (fun v H => itemsW v (fun xs src => forW src (fun y K m H => awpSs b K R X (m.set x (some y)) H) N xs m H) H) (fun c H => X c m H) m H
  | .while c b _, N, R, X, m, H => ∃ I : Nat → Loc → AHeap → Prop, (∃ k, I k m H) ∧ ∀ k m H, I k m H →
      awpB g c (awpE g c) (fun t H => if t then awpSs b (fun m H => ∃ j, j < k ∧ I j m H) R X m H else N m H) (fun c H => X c m H) m H
  | .ret e _, _, R, X, m, H => awpE g e R (fun c H => X c m H) m H
  | .ret0 _, _, R, _, _, H => R .none H
  | .raise c _ _ _ _ _ _ _, _, _, X, m, H => X c m H
  | .try b hs _, N, R, _, m, H => awpSs b N R (fun c m H => awpHs hs c N R m H) m H
noncomputable def awpSs : ASs → NPost → Post → SXPost → Loc → AHeap → Prop
  | .nil, N, _, _, m, H => N m H
  | .cons s ss, N, R, X, m, H => awpS s (fun m H => awpSs ss N R X m H) R X m H
noncomputable def awpHs : AHs → Nat → NPost → Post → Loc → AHeap → Prop
  | .nil, _, _, _, _, _ => False
  | .cons k _ _ y b _ hs, c, N, R, m, H =>
    if isSub c k then (match y with
      | none => awpSs b N R (fun _ _ _ => False) m H
      | some y => awpSs b (fun m H => N (m.set y none) H) R (fun _ _ _ => False) (m.set y (some (.exc c))) H)
    else awpHs hs c N R m H
end
end
end Mine
end
section
namespace Mine
inductive An3 (p0 p1 p2 : Prop) : Prop
  | mk (h0 : p0) (h1 : p1) (h2 : p2) : An3 p0 p1 p2
inductive An4 (p0 p1 p2 p3 : Prop) : Prop
  | mk (h0 : p0) (h1 : p1) (h2 : p2) (h3 : p3) : An4 p0 p1 p2 p3
inductive An5 (p0 p1 p2 p3 p4 : Prop) : Prop
  | mk (h0 : p0) (h1 : p1) (h2 : p2) (h3 : p3) (h4 : p4) : An5 p0 p1 p2 p3 p4
inductive An6 (p0 p1 p2 p3 p4 p5 : Prop) : Prop
  | mk (h0 : p0) (h1 : p1) (h2 : p2) (h3 : p3) (h4 : p4) (h5 : p5) : An6 p0 p1 p2 p3 p4 p5
inductive An8 (p0 p1 p2 p3 p4 p5 p6 p7 : Prop) : Prop
  | mk (h0 : p0) (h1 : p1) (h2 : p2) (h3 : p3) (h4 : p4) (h5 : p5) (h6 : p6) (h7 : p7) : An8 p0 p1 p2 p3 p4 p5 p6 p7
inductive An9 (p0 p1 p2 p3 p4 p5 p6 p7 p8 : Prop) : Prop
  | mk (h0 : p0) (h1 : p1) (h2 : p2) (h3 : p3) (h4 : p4) (h5 : p5) (h6 : p6) (h7 : p7) (h8 : p8) : An9 p0 p1 p2 p3 p4 p5 p6 p7 p8
inductive An10 (p0 p1 p2 p3 p4 p5 p6 p7 p8 p9 : Prop) : Prop
  | mk (h0 : p0) (h1 : p1) (h2 : p2) (h3 : p3) (h4 : p4) (h5 : p5) (h6 : p6) (h7 : p7) (h8 : p8) (h9 : p9) : An10 p0 p1 p2 p3 p4 p5 p6 p7 p8 p9
inductive An11 (p0 p1 p2 p3 p4 p5 p6 p7 p8 p9 p10 : Prop) : Prop
  | mk (h0 : p0) (h1 : p1) (h2 : p2) (h3 : p3) (h4 : p4) (h5 : p5) (h6 : p6) (h7 : p7) (h8 : p8) (h9 : p9) (h10 : p10) : An11 p0 p1 p2 p3 p4 p5 p6 p7 p8 p9 p10
inductive Ex1 {α0 : Type} (P : α0 → Prop) : Prop
  | mk (x0 : α0) (h : P x0) : Ex1 P
inductive Ex2 {α0 : Type} {α1 : Type} (P : α0 → α1 → Prop) : Prop
  | mk (x0 : α0) (x1 : α1) (h : P x0 x1) : Ex2 P
inductive Ex3 {α0 : Type} {α1 : Type} {α2 : Type} (P : α0 → α1 → α2 → Prop) : Prop
  | mk (x0 : α0) (x1 : α1) (x2 : α2) (h : P x0 x1 x2) : Ex3 P
inductive Ex5 {α0 : Type} {α1 : Type} {α2 : Type} {α3 : Type} {α4 : Type} (P : α0 → α1 → α2 → α3 → α4 → Prop) : Prop
  | mk (x0 : α0) (x1 : α1) (x2 : α2) (x3 : α3) (x4 : α4) (h : P x0 x1 x2 x3 x4) : Ex5 P
inductive Ex6 {α0 : Type} {α1 : Type} {α2 : Type} {α3 : Type} {α4 : Type} {α5 : Type} (P : α0 → α1 → α2 → α3 → α4 → α5 → Prop) : Prop
  | mk (x0 : α0) (x1 : α1) (x2 : α2) (x3 : α3) (x4 : α4) (x5 : α5) (h : P x0 x1 x2 x3 x4 x5) : Ex6 P
inductive Ex4 {α0 : Type} {α1 : Type} {α2 : Type} {α3 : Type} (P : α0 → α1 → α2 → α3 → Prop) : Prop
  | mk (x0 : α0) (x1 : α1) (x2 : α2) (x3 : α3) (h : P x0 x1 x2 x3) : Ex4 P
inductive An7 (p0 p1 p2 p3 p4 p5 p6 : Prop) : Prop
  | mk (h0 : p0) (h1 : p1) (h2 : p2) (h3 : p3) (h4 : p4) (h5 : p5) (h6 : p6) : An7 p0 p1 p2 p3 p4 p5 p6
inductive An12 (p0 p1 p2 p3 p4 p5 p6 p7 p8 p9 p10 p11 : Prop) : Prop
  | mk (h0 : p0) (h1 : p1) (h2 : p2) (h3 : p3) (h4 : p4) (h5 : p5) (h6 : p6) (h7 : p7) (h8 : p8) (h9 : p9) (h10 : p10) (h11 : p11) : An12 p0 p1 p2 p3 p4 p5 p6 p7 p8 p9 p10 p11
inductive An2 (p0 p1 : Prop) : Prop
  | mk (h0 : p0) (h1 : p1) : An2 p0 p1
theorem bd0 {n j k : Nat} (h : n < 2 ^ j) (e : 2 ^ j ≤ 2 ^ k) : n < 2 ^ k := Nat.lt_of_lt_of_le h e
theorem bd1 {n c j k : Nat} (h : n < 2 ^ j) (e : 2 ^ j + c ≤ 2 ^ k) : n + c < 2 ^ k := Nat.lt_of_lt_of_le (Nat.add_lt_add_right h c) e
theorem bd2 {n n' c d j k : Nat} (h : n < 2 ^ j) (q : n' ≤ n + c) (e : 2 ^ j + c + d ≤ 2 ^ k) : n' + d < 2 ^ k := Nat.lt_of_lt_of_le (Nat.add_lt_add_right (Nat.lt_of_le_of_lt q (Nat.add_lt_add_right h c)) d) e
theorem bd3 {n n' c j k : Nat} (h : n < 2 ^ j) (q : n' ≤ n + c) (e : 2 ^ j + c ≤ 2 ^ k) : n' < 2 ^ k := Nat.lt_of_lt_of_le (Nat.lt_of_le_of_lt q (Nat.add_lt_add_right h c)) e
end Mine
end
section
open PySem PySem.Calls PyProof.Rows
namespace Mine
set_option autoImplicit false

structure Cx where
  prog : Program
  w : World
  B : Heap
  cls : Nat → Option Addr
  icls : Nat → Option Addr
  ga : Addr
  ba : Addr
abbrev Cx.M (cx : Cx) : Model := model cx.prog cx.w
abbrev Cx.sk (cx : Cx) : KeyKind cx.prog cx.w Str := PySem.strKind cx.prog cx.w

noncomputable def tupObj (items : Array Value) (n : Nat) : Obj := { cls := .type "tuple", data := .seq items n }
noncomputable def lstObj (items : Array Value) (n : Nat) : Obj := { cls := .type "list", data := .seq items n }
noncomputable def rngObj (n : Int) (t u v : Tok) : Obj := { cls := .type "range", dict := none, data := .fields #[.int 0 t, .int n u, .int 1 v], slots := #[] }
noncomputable def insObj (C d : Addr) : Obj := { cls := .ref C, dict := some d }

mutual
inductive Rep (cx : Cx) (h : Heap) : Value → PV → Prop
  | none : Rep cx h .none .none
  | bool (b : Bool) : Rep cx h (.bool b) (.bool b)
  | int (i : Int) (t : Tok) : Rep cx h (.int i t) (.int i)
  | str (x : Str) (t : Tok) : Rep cx h (.str x t) (.str x)
  | tup {a : Addr} {items : Array Value} {n : Nat} {xs : List PV} : h.get? a = some (tupObj items n) → xs.length ≤ LIM → RepL cx h items.toList xs → Rep cx h (.ref a) (.tup xs)
  | obj (a : Addr) : Rep cx h (.ref a) (.obj a)
  | exc {e : Addr} {o : Obj} {vs : Array Value} {c : Nat} {C : Addr} : h.get? e = some o → o.cls = .ref C → o.data = .fields vs → cx.cls c = some C → o.dict = none → Rep cx h (.ref e) (.exc c)
  | fls {a : Addr} {items : Array Value} {ns : List Int} : cx.B.IsList a items → IntsAre items.toList ns → ns.length ≤ LIM → Rep cx h (.ref a) (.fls ns)
  | fdt {a : Addr} {vs : List (Str × Value)} {kvs : List (Str × PV)} : cx.B.DictOf cx.sk a vs → RepK cx h vs kvs → Rep cx h (.ref a) (.fdt kvs)
  | rng {a : Addr} {n : Int} {t u v : Tok} : h.get? a = some (rngObj n t u v) → n.natAbs ≤ LIM → Rep cx h (.ref a) (.rng n)
inductive RepL (cx : Cx) (h : Heap) : List Value → List PV → Prop
  | nil : RepL cx h [] []
  | cons {v : Value} {p : PV} {vs : List Value} {ps : List PV} : Rep cx h v p → RepL cx h vs ps → RepL cx h (v :: vs) (p :: ps)
inductive RepK (cx : Cx) (h : Heap) : List (Str × Value) → List (Str × PV) → Prop
  | nil : RepK cx h [] []
  | cons {k : Str} {v : Value} {p : PV} {vs : List (Str × Value)} {ps : List (Str × PV)} : Rep cx h v p → RepK cx h vs ps → RepK cx h ((k, v) :: vs) ((k, p) :: ps)
end

noncomputable def RepO (cx : Cx) (h : Heap) (a : Addr) : AObj → Prop
  | .list xs => ∃ items n, h.get? a = some (lstObj items n) ∧ RepL cx h items.toList xs ∧ xs.length ≤ LIM
  | .tape k => ∃ t n, h.get? a = some (lstObj #[.int k t] n)
  | .dict kvs => ∃ vs, h.DictOf cx.sk a vs ∧ RepK cx h vs kvs ∧ kvs.length ≤ LIM ∧ (a == sysModules) = false
  | .inst c d => ∃ C, cx.icls c = some C ∧ h.get? a = some (insObj C d)

/-- the objects that values hang on -/
noncomputable def Solid (o : Obj) : Prop := (∃ items n, o = tupObj items n) ∨ (∃ n t u v, o = rngObj n t u v) ∨ ((∃ C, o.cls = .ref C) ∧ ∃ vs, o.data = .fields vs)
noncomputable def Holds (cx : Cx) (h : Heap) (H : AHeap) : Prop := ∀ a o, H a = some o → RepO cx h a o

theorem RepO.get {cx : Cx} {h : Heap} {a : Addr} {o : AObj} (r : RepO cx h a o) : ∃ ob, h.get? a = some ob ∧ ¬ Solid ob ∧ ∀ vs, ob.data ≠ .fields vs := by
  cases o with
  | list xs =>
    obtain ⟨items, n, e, _⟩ := r
    exact ⟨_, e, by rintro (⟨i, n, q⟩ | ⟨n, t, u, v, q⟩ | ⟨⟨C, q⟩, _⟩) <;> simp [lstObj, tupObj, rngObj] at q, by simp [lstObj]⟩
  | tape k =>
    obtain ⟨t, n, e⟩ := r
    exact ⟨_, e, by rintro (⟨i, n, q⟩ | ⟨n, t, u, v, q⟩ | ⟨⟨C, q⟩, _⟩) <;> simp [lstObj, tupObj, rngObj] at q, by simp [lstObj]⟩
  | dict kvs =>
    obtain ⟨vs, ⟨o, es, ep, e, ⟨hc, _⟩, hd, _⟩, _⟩ := r
    refine ⟨_, e, ?_, by simp [hd]⟩
    rintro (⟨i, n, q⟩ | ⟨n, t, u, v, q⟩ | ⟨⟨C, q⟩, _⟩)
    · rw [q] at hc; simp [tupObj] at hc
    · rw [q] at hc; simp [rngObj] at hc
    · rw [q] at hc; simp at hc
  | inst c d =>
    obtain ⟨C, _, e⟩ := r
    refine ⟨_, e, ?_, by simp [insObj]⟩
    rintro (⟨i, n, q⟩ | ⟨n, t, u, v, q⟩ | ⟨_, vs, q⟩) <;> simp [insObj, tupObj, rngObj] at q

mutual
theorem Rep.mono' {cx : Cx} {h h' : Heap} (k : ∀ b o, h.get? b = some o → Solid o → h'.get? b = some o ∨ ((∃ C, o.cls = .ref C) ∧ ∃ o' vs', h'.get? b = some o' ∧ (o'.cls = o.cls ∧ o'.dict = o.dict) ∧ o'.data = .fields vs')) : ∀ {v : Value} {p : PV}, Rep cx h v p → Rep cx h' v p
  | _, _, .none => .none
  | _, _, .bool b => .bool b
  | _, _, .int i t => .int i t
  | _, _, .str x t => .str x t
  | _, _, .tup e l r => by
    rcases k _ _ e (.inl ⟨_, _, rfl⟩) with e' | ⟨⟨C, q⟩, _⟩
    · exact .tup e' l (RepL.mono' k r)
    · cases q
  | _, _, .obj a => .obj a
  | _, _, .exc e c d x y => by
    rcases k _ _ e (.inr (.inr ⟨⟨_, c⟩, _, d⟩)) with e' | ⟨_, o', vs', e', c', d'⟩
    · exact .exc e' c d x y
    · exact .exc e' (c'.1.trans c) d' x (c'.2.trans y)
  | _, _, .fls e i l => .fls e i l
  | _, _, .fdt d r => .fdt d (RepK.mono' k r)
  | _, _, .rng e l => by
    rcases k _ _ e (.inr (.inl ⟨_, _, _, _, rfl⟩)) with e' | ⟨⟨C, q⟩, _⟩
    · exact .rng e' l
    · cases q
theorem RepL.mono' {cx : Cx} {h h' : Heap} (k : ∀ b o, h.get? b = some o → Solid o → h'.get? b = some o ∨ ((∃ C, o.cls = .ref C) ∧ ∃ o' vs', h'.get? b = some o' ∧ (o'.cls = o.cls ∧ o'.dict = o.dict) ∧ o'.data = .fields vs')) : ∀ {vs : List Value} {ps : List PV}, RepL cx h vs ps → RepL cx h' vs ps
  | _, _, .nil => .nil
  | _, _, .cons r rs => .cons (Rep.mono' k r) (RepL.mono' k rs)
theorem RepK.mono' {cx : Cx} {h h' : Heap} (k : ∀ b o, h.get? b = some o → Solid o → h'.get? b = some o ∨ ((∃ C, o.cls = .ref C) ∧ ∃ o' vs', h'.get? b = some o' ∧ (o'.cls = o.cls ∧ o'.dict = o.dict) ∧ o'.data = .fields vs')) : ∀ {vs : List (Str × Value)} {ps : List (Str × PV)}, RepK cx h vs ps → RepK cx h' vs ps
  | _, _, .nil => .nil
  | _, _, .cons r rs => .cons (Rep.mono' k r) (RepK.mono' k rs)
end
theorem Rep.mono {cx : Cx} {h h' : Heap} (k : ∀ b o, h.get? b = some o → Solid o → h'.get? b = some o) {v : Value} {p : PV} (r : Rep cx h v p) : Rep cx h' v p := Rep.mono' (fun b o e s => .inl (k b o e s)) r
theorem RepL.mono {cx : Cx} {h h' : Heap} (k : ∀ b o, h.get? b = some o → Solid o → h'.get? b = some o) {vs : List Value} {ps : List PV} (r : RepL cx h vs ps) : RepL cx h' vs ps := RepL.mono' (fun b o e s => .inl (k b o e s)) r
theorem RepK.mono {cx : Cx} {h h' : Heap} (k : ∀ b o, h.get? b = some o → Solid o → h'.get? b = some o) {vs : List (Str × Value)} {ps : List (Str × PV)} (r : RepK cx h vs ps) : RepK cx h' vs ps := RepK.mono' (fun b o e s => .inl (k b o e s)) r

theorem RepL.length {cx : Cx} {h : Heap} : ∀ {vs : List Value} {ps : List PV}, RepL cx h vs ps → vs.length = ps.length
  | _, _, .nil => rfl
  | _, _, .cons _ rs => by simp [RepL.length rs]
theorem RepK.length {cx : Cx} {h : Heap} : ∀ {vs : List (Str × Value)} {ps : List (Str × PV)}, RepK cx h vs ps → vs.length = ps.length
  | _, _, .nil => rfl
  | _, _, .cons _ rs => by simp [RepK.length rs]

noncomputable def SameO (o o' : Obj) : Prop := o' = o ∨ ((∃ es ep, o.data = .dict es ep) ∧ ∃ sl, o' = { o with slots := sl })
theorem SameO.refl (o : Obj) : SameO o o := .inl rfl
theorem SameO.cls {o o' : Obj} (h : SameO o o') : o'.cls = o.cls := by rcases h with rfl | ⟨_, sl, rfl⟩ <;> rfl
theorem SameO.data {o o' : Obj} (h : SameO o o') : o'.data = o.data := by rcases h with rfl | ⟨_, sl, rfl⟩ <;> rfl
theorem SameO.trans {a b c : Obj} (h : SameO a b) (k : SameO b c) : SameO a c := by
  rcases k with rfl | ⟨hc, sl, rfl⟩
  · exact h
  · rcases h with rfl | ⟨hb, sl', rfl⟩
    · exact .inr ⟨hc, sl, rfl⟩
    · exact .inr ⟨hb, sl, rfl⟩
theorem SameO.eq {o o' : Obj} (h : SameO o o') (n : ∀ es ep, o.data ≠ .dict es ep) : o' = o := h.resolve_right fun ⟨⟨es, ep, q⟩, _⟩ => n es ep q

/-- what a piece of a run leaves as it was -/
structure Kp (cx : Cx) (S : List Addr) (H : AHeap) (s : Shared) (H' : AHeap) (s' : Shared) : Prop where
  same : ∃ h' tk, s' = { s with heap := h', toks := tk }
  keep : ∀ b o, s.heap.get? b = some o → b ∉ S → H b = none → H' b = none ∧ ∃ o', s'.heap.get? b = some o' ∧ SameO o o'
  alive : ∀ b o, s.heap.get? b = some o → ∃ o', s'.heap.get? b = some o'
  base : ∀ b o, cx.B.get? b = some o → s.heap.get? b = some o → s'.heap.get? b = some o

theorem Kp.refl (cx : Cx) (S : List Addr) (H : AHeap) (s : Shared) : Kp cx S H s H s :=
  ⟨⟨s.heap, s.toks, rfl⟩, fun _ o e _ h => ⟨h, o, e, .refl o⟩, fun _ o e => ⟨o, e⟩, fun _ _ _ e => e⟩
theorem Kp.trans {cx : Cx} {S : List Addr} {H H₁ H₂ : AHeap} {s s₁ s₂ : Shared} (a : Kp cx S H s H₁ s₁) (b : Kp cx S H₁ s₁ H₂ s₂) : Kp cx S H s H₂ s₂ where
  same := by obtain ⟨h, t, rfl⟩ := a.same; obtain ⟨h', t', rfl⟩ := b.same; exact ⟨h', t', rfl⟩
  keep := fun x o e n hn => by
    obtain ⟨h1, o1, e1, s1⟩ := a.keep x o e n hn
    obtain ⟨h2, o2, e2, s2⟩ := b.keep x o1 e1 n h1
    exact ⟨h2, o2, e2, s1.trans s2⟩
  alive := fun x o e => let ⟨o1, e1⟩ := a.alive x o e; b.alive x o1 e1
  base := fun x o e e' => b.base x o e (a.base x o e e')
theorem Kp.sub {cx : Cx} {S S' : List Addr} {H H' : AHeap} {s s' : Shared} (a : Kp cx S H s H' s') (k : ∀ b o, s.heap.get? b = some o → b ∈ S → b ∈ S') : Kp cx S' H s H' s' :=
  ⟨a.same, fun b o e n hn => a.keep b o e (fun q => n (k b o e q)) hn, a.alive, a.base⟩
theorem Kp.nil {cx : Cx} {S : List Addr} {H H' : AHeap} {s s' : Shared} (a : Kp cx [] H s H' s') : Kp cx S H s H' s' := a.sub fun _ _ _ q => nomatch q
/-- every object stays, the abstract heap is the same or larger by new ones -/
theorem Kp.grow {cx : Cx} {S : List Addr} {H H' : AHeap} {s : Shared} {h' : Heap} {tk : Nat} (k : ∀ b o, s.heap.get? b = some o → h'.get? b = some o)
    (hH : ∀ b o, s.heap.get? b = some o → H b = none → H' b = none) : Kp cx S H s H' { s with heap := h', toks := tk } :=
  ⟨⟨h', tk, rfl⟩, fun b o e _ hn => ⟨hH b o e hn, o, k b o e, .refl o⟩, fun b o e => ⟨o, k b o e⟩, fun b o _ e => k b o e⟩

structure Fm where
  A : Around
  env : Env
  fs : List Env
  nm : List Str
  vis : Nat → Bool

inductive FrAt (cx : Cx) (H : AHeap) (h : Heap) (env : Env) : Prop
  | mk (hk : env.scope.kind ≠ .module) (L : Addr) (o : Obj) (es : Array DictEntry) (ep : Nat) (hf : env.frame = some L) (hH : H L = none) (hb : cx.B.get? L = none) (ho : h.get? L = some o) (hd : o.data = .dict es ep) : FrAt cx H h env
inductive VarsAt (cx : Cx) (F : Fm) (m : Loc) (h : Heap) : Prop
  | mk (o : Obj) (es : Array DictEntry) (ep : Nat) (mc : Str → Option Value) (ho : h.get? F.env.locals = some o) (hd : o.data = .dict es ep) (ns : h.Ns F.env.locals mc)
    (hv : ∀ i v, F.vis i = true → F.env.kindOf (slot F.nm i) = some .local → m.getD i none = some v → ∃ x, mc (slot F.nm i) = some x ∧ Rep cx h x v) : VarsAt cx F m h
inductive CellAt (cx : Cx) (F : Fm) (m : Loc) (H : AHeap) (h : Heap) (n : Str) (c : Addr) : Prop
  | mk (h1 : H c = none) (h2 : cx.B.get? c = none) (o : Obj) (x : Option Value) (ho : h.get? c = some o) (hd : o.data = .cell x)
    (hv : ∀ i v, F.vis i = true → slot F.nm i = n → F.env.kindOf n ≠ some .local → m.getD i none = some v → ∃ y, x = some y ∧ Rep cx h y v) : CellAt cx F m H h n c

structure St (cx : Cx) (F : Fm) (m : Loc) (H : AHeap) (h : Heap) : Prop where
  base : cx.B.StaysIn h
  off : ∀ b o, cx.B.get? b = some o → H b = none
  heap : Holds cx h H
  frames : ∀ env ∈ F.fs, FrAt cx H h env
  own : H F.env.locals = none ∧ cx.B.get? F.env.locals = none
  vars : VarsAt cx F m h
  cells : ∀ n c, F.env.cells.lookup n = some c → CellAt cx F m H h n c

theorem Solid.notLoc {o : Obj} (h : Solid o) : (∀ es ep, o.data ≠ .dict es ep) ∧ ∀ x, o.data ≠ .cell x := by
  rcases h with ⟨i, n, rfl⟩ | ⟨n, t, u, v, rfl⟩ | ⟨_, vs, q⟩
  · exact ⟨fun _ _ q => (nomatch q), fun _ q => (nomatch q)⟩
  · exact ⟨fun _ _ q => (nomatch q), fun _ q => (nomatch q)⟩
  · exact ⟨fun _ _ q' => by rw [q] at q'; exact (nomatch q'), fun _ q' => by rw [q] at q'; exact (nomatch q')⟩
theorem Holds.none_of_solid {cx : Cx} {h : Heap} {H : AHeap} (k : Holds cx h H) {b : Addr} {o : Obj} (e : h.get? b = some o) (s : Solid o) : H b = none := by
  cases q : H b with
  | none => rfl
  | some x => obtain ⟨ob, e', n, _⟩ := (k b x q).get; rw [e] at e'; cases e'; exact absurd s n
theorem Holds.fresh {cx : Cx} {h : Heap} {H : AHeap} (k : Holds cx h H) {b : Addr} (e : h.get? b = none) : H b = none := by
  cases q : H b with
  | none => rfl
  | some x => obtain ⟨ob, e', _⟩ := (k b x q).get; rw [e] at e'; cases e'

/-- values stay, S holding names' places alone -/
theorem Kp.solid {cx : Cx} {S : List Addr} {H H' : AHeap} {s s' : Shared} (k : Kp cx S H s H' s') (hh : Holds cx s.heap H)
    (hS : ∀ b ∈ S, ∀ o, s.heap.get? b = some o → (∃ es ep, o.data = .dict es ep) ∨ ∃ x, o.data = .cell x) : ∀ b o, s.heap.get? b = some o → Solid o → s'.heap.get? b = some o := fun b o e so => by
  obtain ⟨_, o', e', sm⟩ := k.keep b o e (fun q => by
    rcases hS b q o e with ⟨es, ep, d⟩ | ⟨x, d⟩
    · exact so.notLoc.1 _ _ d
    · exact so.notLoc.2 _ d) (hh.none_of_solid e so)
  rw [sm.eq so.notLoc.1] at e'; exact e'
theorem Kp.solid0 {cx : Cx} {H H' : AHeap} {s s' : Shared} (k : Kp cx [] H s H' s') (hh : Holds cx s.heap H) : ∀ b o, s.heap.get? b = some o → Solid o → s'.heap.get? b = some o :=
  k.solid hh fun _ q => nomatch q

theorem FrAt.step {cx : Cx} {H H' : AHeap} {S : List Addr} {s s' : Shared} (k : Kp cx S H s H' s') {env : Env} (f : FrAt cx H s.heap env) (n : ∀ L, env.frame = some L → L ∉ S) : FrAt cx H' s'.heap env := by
  obtain ⟨hk, L, o, es, ep, hf, hH, hb, ho, hd⟩ := f
  obtain ⟨hH', o', e', sm⟩ := k.keep L o ho (n L hf) hH
  exact ⟨hk, L, o', es, ep, hf, hH', hb, e', sm.data.trans hd⟩

/-- an expression's step leaves the frame's state -/
theorem St.step {cx : Cx} {F : Fm} {m : Loc} {H H' : AHeap} {s s' : Shared} (t : St cx F m H s.heap) (k : Kp cx [] H s H' s') (hh : Holds cx s'.heap H') : St cx F m H' s'.heap := by
  have so := k.solid0 t.heap
  refine ⟨fun b o e => k.base b o e (t.base b o e), fun b o e => ?_, hh, (fun env he => (t.frames env he).step k (fun L _ q => nomatch q)), ?_, ?_, fun n c hc => ?_⟩
  · exact (k.keep b o (t.base b o e) (fun q => nomatch q) (t.off b o e)).1
  · obtain ⟨o, es, ep, mc, ho, _⟩ := t.vars
    exact ⟨(k.keep _ o ho (fun q => nomatch q) t.own.1).1, t.own.2⟩
  · obtain ⟨o, es, ep, mc, ho, hd, ⟨o1, es1, ep1, ho1, hd1, hk1, hm1⟩, hv⟩ := t.vars
    obtain ⟨_, o', e', sm⟩ := k.keep _ o ho (fun q => nomatch q) t.own.1
    rw [ho] at ho1; cases ho1
    exact ⟨o', es, ep, mc, e', sm.data.trans hd, ⟨o', es1, ep1, e', sm.data.trans hd1, hk1, hm1⟩, fun i v h1 h2 h3 => let ⟨x, q, r⟩ := hv i v h1 h2 h3; ⟨x, q, r.mono so⟩⟩
  · obtain ⟨h1, h2, o, x, ho, hd, hv⟩ := t.cells n c hc
    obtain ⟨h3, o', e', sm⟩ := k.keep c o ho (fun q => nomatch q) h1
    exact ⟨h3, h2, o', x, e', sm.data.trans hd, fun i v a b c d => let ⟨y, q, r⟩ := hv i v a b c d; ⟨y, q, r.mono so⟩⟩

noncomputable def upd (H : AHeap) (a : Addr) (o : AObj) : AHeap := fun b => if b = a then some o else H b
theorem upd_self (H : AHeap) (a : Addr) (o : AObj) : upd H a o a = some o := by simp [upd]
theorem upd_ne {H : AHeap} {a b : Addr} {o : AObj} (n : b ≠ a) : upd H a o b = H b := by simp [upd, n]
theorem upd_ext {H : AHeap} {a : Addr} {o : AObj} (e : H a = none) : Ext H (upd H a o) := fun b x hb => by
  rw [upd_ne]; exact hb
  rintro rfl; rw [e] at hb; cases hb
theorem upd_extB (H : AHeap) (a : Addr) (o : AObj) : ExtB a H (upd H a o) := fun _ _ n hb => by rw [upd_ne n]; exact hb

theorem Holds.grow {cx : Cx} {h h' : Heap} {H : AHeap} (k : Holds cx h H) (g : ∀ b o, h.get? b = some o → h'.get? b = some o) : Holds cx h' H := fun a o e => by
  have r := k a o e
  have so : ∀ b o, h.get? b = some o → Solid o → h'.get? b = some o := fun b o e _ => g b o e
  cases o with
  | list xs => obtain ⟨items, n, e, r, l⟩ := r; exact ⟨items, n, g _ _ e, r.mono so, l⟩
  | tape k => obtain ⟨t, n, e⟩ := r; exact ⟨t, n, g _ _ e⟩
  | dict kvs => obtain ⟨vs, d, r, l⟩ := r; exact ⟨vs, d.keep g, r.mono so, l⟩
  | inst c d => obtain ⟨C, x, e⟩ := r; exact ⟨C, x, g _ _ e⟩
/-- one object put anew -/
theorem Holds.put {cx : Cx} {h h' : Heap} {H : AHeap} {a : Addr} {o : AObj} (k : Holds cx h H) (g : ∀ b o, b ≠ a → h.get? b = some o → h'.get? b = some o)
    (ha : ∀ o, h.get? a = some o → ¬ Solid o) (r : RepO cx h' a o) : Holds cx h' (upd H a o) := fun b x e => by
  by_cases q : b = a
  · subst q; rw [upd_self] at e; cases e; exact r
  · rw [upd_ne q] at e
    have r := k b x e
    have so : ∀ b o, h.get? b = some o → Solid o → h'.get? b = some o := fun b o e s => g b o (by rintro rfl; exact ha o e s) e
    cases x with
    | list xs => obtain ⟨items, n, e, r, l⟩ := r; exact ⟨items, n, g _ _ q e, r.mono so, l⟩
    | tape k => obtain ⟨t, n, e⟩ := r; exact ⟨t, n, g _ _ q e⟩
    | dict kvs => obtain ⟨vs, d, r, l⟩ := r; exact ⟨vs, (let ⟨o, es, ep, ho, y⟩ := d; ⟨o, es, ep, g _ _ q ho, y⟩), r.mono so, l⟩
    | inst c d => obtain ⟨C, x, e⟩ := r; exact ⟨C, x, g _ _ q e⟩

/-! what an evaluation gives -/
inductive ExcTb (fr : Option Addr) (h₀ h : Heap) (e : Addr) (vs : Array Value) : Prop
  | mk (T : Addr) (oT : Obj) (ts : Array Value) (b1 : vs[1]? = some (.ref T)) (b2 : h₀.get? T = none) (b3 : T ≠ e) (b4 : h.get? T = some oT) (b5 : oT.cls = .type "traceback") (b6 : oT.data = .fields ts) (b7 : ts[3]? = some .none ∨ ∃ L, fr = some L ∧ ts[3]? = some (rawInt L)) : ExcTb fr h₀ h e vs
inductive Exc (cx : Cx) (fr : Option Addr) (h₀ h : Heap) (e : Addr) (c : Nat) : Prop
  | mk (n : h₀.get? e = none) (oe : Obj) (vs : Array Value) (C : Addr) (a0 : Value) (g : h.get? e = some oe) (k : oe.cls = .ref C) (x : cx.cls c = some C ∧ oe.dict = none) (d : oe.data = .fields vs) (z : vs[0]? = some a0) (y : vs[1]? = some .none ∨ ExcTb fr h₀ h e vs) : Exc cx fr h₀ h e c
inductive OkG {α β : Type} (R : Heap → α → β → Prop) (cx : Cx) (F : Fm) (m : Loc) (H : AHeap) (s : Shared) (Q : β → AHeap → Prop) (a : α) (s' : Shared) : Prop
  | mk (b : β) (H' : AHeap) (r : R s'.heap a b) (t : St cx F m H' s'.heap) (k : Kp cx [] H s H' s') (q : Q b H') : OkG R cx F m H s Q a s'
inductive ErP (cx : Cx) (F : Fm) (m : Loc) (H : AHeap) (s : Shared) (X : XPost) (v : Value) (s' : Shared) : Prop
  | mk (e : Addr) (c : Nat) (H' : AHeap) (hv : v = .ref e) (x : Exc cx F.env.frame s.heap s'.heap e c) (t : St cx F m H' s'.heap) (k : Kp cx [] H s H' s') (q : X c H') : ErP cx F m H s X v s'
noncomputable def Ev {α β : Type} (R : Heap → α → β → Prop) (cx : Cx) (F : Fm) (t : Sem α) (m : Loc) (H : AHeap) (s : Shared) (Q : β → AHeap → Prop) (X : XPost) : Prop :=
  wpAny cx.M F.A t (OkG R cx F m H s Q) (ErP cx F m H s X) s

theorem Exc.older {cx : Cx} {fr : Option Addr} {h₀ h₁ h : Heap} {e : Addr} {c : Nat} (x : Exc cx fr h₁ h e c) (al : ∀ b o, h₀.get? b = some o → ∃ o', h₁.get? b = some o') : Exc cx fr h₀ h e c := by
  have f : ∀ b, h₁.get? b = none → h₀.get? b = none := fun b q => by
    cases e : h₀.get? b with
    | none => rfl
    | some o => obtain ⟨o', e'⟩ := al b o e; rw [q] at e'; cases e'
  obtain ⟨n, oe, vs, C, a0, a1, a2, a3, a4, a5, a6⟩ := x
  refine ⟨f _ n, oe, vs, C, a0, a1, a2, a3, a4, a5, a6.imp id ?_⟩
  rintro ⟨T, oT, ts, b1, b2, b3, b4, b5, b6, b7⟩
  exact ⟨T, oT, ts, b1, f _ b2, b3, b4, b5, b6, b7⟩
theorem OkG.older {α β : Type} {R : Heap → α → β → Prop} {cx : Cx} {F : Fm} {m : Loc} {H H₁ : AHeap} {s s₁ : Shared} {Q : β → AHeap → Prop} (k : Kp cx [] H s H₁ s₁) {a : α} {s' : Shared}
    (x : OkG R cx F m H₁ s₁ Q a s') : OkG R cx F m H s Q a s' := let ⟨b, H', r, t, k', q⟩ := x; ⟨b, H', r, t, k.trans k', q⟩
theorem ErP.older {cx : Cx} {F : Fm} {m : Loc} {H H₁ : AHeap} {s s₁ : Shared} {X : XPost} (k : Kp cx [] H s H₁ s₁) {v : Value} {s' : Shared}
    (x : ErP cx F m H₁ s₁ X v s') : ErP cx F m H s X v s' := let ⟨e, c, H', r, y, t, k', q⟩ := x; ⟨e, c, H', r, y.older k.alive, t, k.trans k', q⟩
theorem Ev.older {α β : Type} {R : Heap → α → β → Prop} {cx : Cx} {F : Fm} {m : Loc} {H H₁ : AHeap} {s s₁ : Shared} {Q : β → AHeap → Prop} {X : XPost} {t : Sem α} (k : Kp cx [] H s H₁ s₁)
    (x : Ev R cx F t m H₁ s₁ Q X) : wpAny cx.M F.A t (OkG R cx F m H s Q) (ErP cx F m H s X) s₁ := wpAny_mono x (fun _ _ y => y.older k) fun _ _ y => y.older k
theorem Ev.bind {α β γ δ : Type} {R : Heap → α → β → Prop} {R' : Heap → γ → δ → Prop} {cx : Cx} {F : Fm} {m : Loc} {H : AHeap} {s : Shared} {Q₁ : β → AHeap → Prop} {Q : δ → AHeap → Prop} {X : XPost} {t : Sem α} {f : α → Sem γ}
    (h : Ev R cx F t m H s Q₁ X) (k : ∀ a b s₁ H₁, R s₁.heap a b → St cx F m H₁ s₁.heap → Kp cx [] H s H₁ s₁ → Q₁ b H₁ → Ev R' cx F (f a) m H₁ s₁ Q X) : Ev R' cx F (t >>= f) m H s Q X :=
  wpAny_bind (wpAny_mono h (fun a s₁ ⟨b, H₁, r, st, kp, q⟩ => (k a b s₁ H₁ r st kp q).older kp) fun _ _ y => y)
theorem Ev.pure {α β : Type} {R : Heap → α → β → Prop} {cx : Cx} {F : Fm} {m : Loc} {H : AHeap} {s : Shared} {Q : β → AHeap → Prop} {X : XPost} {a : α} {b : β} (r : R s.heap a b) (t : St cx F m H s.heap) (q : Q b H) :
    Ev R cx F (pure a) m H s Q X := wpAny_pure ⟨b, H, r, t, .refl _ _ _ _, q⟩
theorem Ev.holding {α β : Type} {R : Heap → α → β → Prop} {cx : Cx} {F : Fm} {m : Loc} {H : AHeap} {s : Shared} {Q : β → AHeap → Prop} {X : XPost} {t : Sem α} {vs : List Value} (h : Ev R cx F t m H s Q X) : Ev R cx F (holding vs t) m H s Q X := wpAny_holding h
theorem Ev.stand {α β : Type} {R : Heap → α → β → Prop} {cx : Cx} {F : Fm} {m : Loc} {H : AHeap} {s : Shared} {Q : β → AHeap → Prop} {X : XPost} {p : Pos} {f : Unit → Sem α} (h : Ev R cx F (f ()) m H s Q X) : Ev R cx F (standAt p >>= f) m H s Q X :=
  wpAny_bind (wpAny_standAt h)
/-- the same state, tokens spent -/
theorem OkG.toks {α β : Type} {R : Heap → α → β → Prop} {cx : Cx} {F : Fm} {m : Loc} {H : AHeap} {s : Shared} {Q : β → AHeap → Prop} {a : α} {b : β} (tk : Nat) (r : R s.heap a b) (t : St cx F m H s.heap) (q : Q b H) :
    OkG R cx F m H s Q a { s with toks := tk } := ⟨b, H, r, t, .grow (fun _ _ e => e) (fun _ _ _ e => e), q⟩
/-- new objects, no abstract one -/
theorem OkG.grow {α β : Type} {R : Heap → α → β → Prop} {cx : Cx} {F : Fm} {m : Loc} {H : AHeap} {s : Shared} {Q : β → AHeap → Prop} {a : α} {b : β} {h' : Heap} {tk : Nat} (g : ∀ b o, s.heap.get? b = some o → h'.get? b = some o)
    (r : R h' a b) (t : St cx F m H s.heap) (q : Q b H) : OkG R cx F m H s Q a { s with heap := h', toks := tk } :=
  have k : Kp cx [] H s H { s with heap := h', toks := tk } := .grow g fun _ _ _ e => e
  ⟨b, H, r, t.step k (t.heap.grow g), k, q⟩
/-- a new abstract object at an address that was free -/
theorem OkG.alloc {α β : Type} {R : Heap → α → β → Prop} {cx : Cx} {F : Fm} {m : Loc} {H : AHeap} {s : Shared} {Q : β → AHeap → Prop} {v : α} {b : β} {h' : Heap} {tk : Nat} {a : Addr} {o : AObj} (g : ∀ b o, s.heap.get? b = some o → h'.get? b = some o)
    (fr : s.heap.get? a = none) (r : R h' v b) (ro : RepO cx h' a o) (t : St cx F m H s.heap) (q : Q b (upd H a o)) : OkG R cx F m H s Q v { s with heap := h', toks := tk } :=
  have k : Kp cx [] H s (upd H a o) { s with heap := h', toks := tk } := .grow g fun b ob e hn => by rw [upd_ne (by rintro rfl; rw [fr] at e; cases e)]; exact hn
  ⟨b, _, r, t.step k (t.heap.put (fun b o _ e => g b o e) (fun o e => by rw [fr] at e; cases e) ro), k, q⟩
theorem alloc_use {o : AObj} {Q : Post} {H : AHeap} {a : Addr} (h : alloc o Q H) (e : H a = none) : Q (.obj a) (upd H a o) := h a _ e (upd_self ..) (upd_ext e)
/-- an abstract object put anew -/
theorem OkG.put {α β : Type} {R : Heap → α → β → Prop} {cx : Cx} {F : Fm} {m : Loc} {H : AHeap} {s : Shared} {Q : β → AHeap → Prop} {v : α} {b : β} {h' : Heap} {tk : Nat} {a : Addr} {o o' : AObj} (ha : H a = some o)
    (g : ∀ b o, b ≠ a → s.heap.get? b = some o → h'.get? b = some o) (r : R h' v b) (ro : RepO cx h' a o') (t : St cx F m H s.heap) (q : Q b (upd H a o')) : OkG R cx F m H s Q v { s with heap := h', toks := tk } := by
  have na : ∀ x, s.heap.get? a = some x → ¬ Solid x := fun x e => by
    obtain ⟨ob, e', n, _⟩ := (t.heap a o ha).get; rw [e] at e'; cases e'; exact n
  have k : Kp cx [] H s (upd H a o') { s with heap := h', toks := tk } := by
    refine ⟨⟨h', tk, rfl⟩, fun b ob e _ hn => ?_, fun b ob e => ?_, fun b ob eb e => ?_⟩
    · have n : b ≠ a := by rintro rfl; rw [ha] at hn; cases hn
      exact ⟨by rw [upd_ne n]; exact hn, ob, g b ob n e, .refl _⟩
    · by_cases n : b = a
      · subst n; obtain ⟨ob', e', _⟩ := ro.get; exact ⟨ob', e'⟩
      · exact ⟨ob, g b ob n e⟩
    · exact g b ob (by rintro rfl; rw [t.off _ _ eb] at ha; cases ha) e
  exact ⟨b, _, r, t.step k (t.heap.put g na ro), k, q⟩
theorem mutate_use {o : AObj} {K : AHeap → Prop} {H : AHeap} {a : Addr} (h : mutate a o K H) : K (upd H a o) := h _ (upd_self ..) (upd_extB H a o)
end Mine
end
section
open PySem PySem.Calls PyProof.Rows
namespace Mine
set_option autoImplicit false

theorem RepL.append {cx : Cx} {h : Heap} : ∀ {vs ws : List Value} {ps qs : List PV}, RepL cx h vs ps → RepL cx h ws qs → RepL cx h (vs ++ ws) (ps ++ qs)
  | _, _, _, _, .nil, r => r
  | _, _, _, _, .cons a r, r' => .cons a (RepL.append r r')
theorem RepL.rep {cx : Cx} {h : Heap} {vs : List Value} {ps : List PV} (r : RepL cx h vs ps) : ∀ n : Nat, RepL cx h (List.replicate n vs).flatten (List.replicate n ps).flatten
  | 0 => .nil
  | n + 1 => by rw [List.replicate_succ, List.replicate_succ, List.flatten_cons, List.flatten_cons]; exact r.append (r.rep n)
theorem RepL.get {cx : Cx} {h : Heap} : ∀ {vs : List Value} {ps : List PV}, RepL cx h vs ps → ∀ {i : Nat} {p : PV}, ps[i]? = some p → ∃ v, vs[i]? = some v ∧ Rep cx h v p
  | _, _, .cons a _, 0, _, e => by simp at e; subst e; exact ⟨_, rfl, a⟩
  | _, _, .cons _ r, i + 1, _, e => by simp at e; simpa using r.get e
theorem RepL.drop {cx : Cx} {h : Heap} : ∀ {vs : List Value} {ps : List PV}, RepL cx h vs ps → ∀ n : Nat, RepL cx h (vs.drop n) (ps.drop n)
  | _, _, r, 0 => r
  | _, _, .nil, _ + 1 => .nil
  | _, _, .cons _ r, n + 1 => r.drop n
theorem RepL.take {cx : Cx} {h : Heap} : ∀ {vs : List Value} {ps : List PV}, RepL cx h vs ps → ∀ n : Nat, RepL cx h (vs.take n) (ps.take n)
  | _, _, _, 0 => .nil
  | _, _, .nil, _ + 1 => .nil
  | _, _, .cons a r, n + 1 => .cons a (r.take n)
theorem RepL.reverse {cx : Cx} {h : Heap} : ∀ {vs : List Value} {ps : List PV}, RepL cx h vs ps → RepL cx h vs.reverse ps.reverse
  | _, _, .nil => .nil
  | _, _, .cons a r => by rw [List.reverse_cons, List.reverse_cons]; exact r.reverse.append (.cons a .nil)
theorem RepL.set {cx : Cx} {h : Heap} : ∀ {vs : List Value} {ps : List PV}, RepL cx h vs ps → ∀ (n : Nat) {v : Value} {p : PV}, Rep cx h v p → RepL cx h (vs.set n v) (ps.set n p)
  | _, _, .nil, _, _, _, _ => .nil
  | _, _, .cons _ r, 0, _, _, a => .cons a r
  | _, _, .cons b r, n + 1, _, _, a => .cons b (r.set n a)

theorem Rep.tupI {cx : Cx} {h : Heap} {v : Value} {xs : List PV} (r : Rep cx h v (.tup xs)) : ∃ a items n, v = .ref a ∧ h.get? a = some (tupObj items n) ∧ xs.length ≤ LIM ∧ RepL cx h items.toList xs := by
  cases r with | tup e l r => exact ⟨_, _, _, rfl, e, l, r⟩
theorem RepL.one {cx : Cx} {h : Heap} {vs : List Value} {p : PV} (r : RepL cx h vs [p]) : ∃ v, vs = [v] ∧ Rep cx h v p := by
  obtain _ | ⟨rv, _ | _⟩ := r
  exact ⟨_, rfl, rv⟩
theorem RepL.two {cx : Cx} {h : Heap} {vs : List Value} {p q : PV} (r : RepL cx h vs [p, q]) : ∃ v w, vs = [v, w] ∧ Rep cx h v p ∧ Rep cx h w q := by
  obtain _ | ⟨rv, _ | ⟨rw', _ | _⟩⟩ := r
  exact ⟨_, _, rfl, rv, rw'⟩
theorem RepL.zero {cx : Cx} {h : Heap} {vs : List Value} (r : RepL cx h vs []) : vs = [] := by cases r; rfl
theorem Rep.objI {cx : Cx} {h : Heap} {v : Value} {a : Addr} (r : Rep cx h v (.obj a)) : v = .ref a := by cases r; rfl
theorem Rep.intI {cx : Cx} {h : Heap} {v : Value} {i : Int} (r : Rep cx h v (.int i)) : ∃ t, v = .int i t := by cases r; exact ⟨_, rfl⟩
theorem Rep.strI {cx : Cx} {h : Heap} {v : Value} {i : Str} (r : Rep cx h v (.str i)) : ∃ t, v = .str i t := by cases r; exact ⟨_, rfl⟩
theorem Rep.boolI {cx : Cx} {h : Heap} {v : Value} {b : Bool} (r : Rep cx h v (.bool b)) : v = .bool b := by cases r; rfl
theorem Rep.noneI {cx : Cx} {h : Heap} {v : Value} (r : Rep cx h v .none) : v = .none := by cases r; rfl
theorem Rep.flsI {cx : Cx} {h : Heap} {v : Value} {ns : List Int} (r : Rep cx h v (.fls ns)) : ∃ a items, v = .ref a ∧ cx.B.IsList a items ∧ IntsAre items.toList ns ∧ ns.length ≤ LIM := by
  cases r with | fls e i l => exact ⟨_, _, rfl, e, i, l⟩
theorem Rep.fdtI {cx : Cx} {h : Heap} {v : Value} {kvs : List (Str × PV)} (r : Rep cx h v (.fdt kvs)) : ∃ a vs, v = .ref a ∧ cx.B.DictOf cx.sk a vs ∧ RepK cx h vs kvs := by
  cases r with | fdt e r => exact ⟨_, _, rfl, e, r⟩
theorem Rep.rngI {cx : Cx} {h : Heap} {v : Value} {n : Int} (r : Rep cx h v (.rng n)) : ∃ a t u x, v = .ref a ∧ h.get? a = some (rngObj n t u x) ∧ n.natAbs ≤ LIM := by
  cases r with | rng e l => exact ⟨_, _, _, _, rfl, e, l⟩

section
variable {cx : Cx} {F : Fm} {m : Loc} {H : AHeap} {s : Shared} {Q : Post} {X : XPost}

theorem St.list {a : Addr} {xs : List PV} (t : St cx F m H s.heap) (e : H a = some (.list xs)) : ∃ items n, s.heap.get? a = some (lstObj items n) ∧ RepL cx s.heap items.toList xs ∧ xs.length ≤ LIM := t.heap a _ e
theorem isList_of {h : Heap} {a : Addr} {items : Array Value} {n : Nat} (e : h.get? a = some (lstObj items n)) : h.IsList a items := ⟨_, e, rfl, n, rfl⟩
theorem isList_up {h h' : Heap} {a : Addr} {items : Array Value} (x : h.IsList a items) (k : h.StaysIn h') : h'.IsList a items := let ⟨o, e, r⟩ := x; ⟨o, k _ _ e, r⟩
theorem isTup_of {h : Heap} {a : Addr} {items : Array Value} {n : Nat} (e : h.get? a = some (tupObj items n)) : IsTup h a items := ⟨_, e, rfl, n, rfl⟩
theorem get_size_none (h : Heap) : h.get? h.objs.size = none := by
  cases e : h.get? h.objs.size with
  | none => rfl
  | some o => exact absurd (Heap.lt_size e) (Nat.lt_irrefl _)
theorem get_ge_none {h : Heap} {a : Addr} (l : h.objs.size ≤ a) : h.get? a = none := by
  cases e : h.get? a with
  | none => rfl
  | some o => exact absurd (Heap.lt_size e) (Nat.not_lt.mpr l)

theorem arr_len {cx : Cx} {h : Heap} {items : Array Value} {xs : List PV} (r : RepL cx h items.toList xs) : items.size = xs.length := by rw [← r.length]; simp

/-- a new list -/
theorem new_list {vs : Array Value} {xs : List PV} {c tk : Nat} {h' : Heap} {a : Addr} (t : St cx F m H s.heap) (g : ∀ b o, s.heap.get? b = some o → h'.get? b = some o) (fr : s.heap.get? a = none)
    (e : h'.get? a = some (lstObj vs c)) (r : RepL cx s.heap vs.toList xs) (l : xs.length ≤ LIM) (q : alloc (.list xs) Q H) : OkG (Rep cx) cx F m H s Q (.ref a) { s with heap := h', toks := tk } :=
  .alloc (o := .list xs) g fr (.obj a) ⟨vs, c, e, r.mono (fun b o e _ => g b o e), l⟩ t (alloc_use q (t.heap.fresh fr))
/-- a new tuple -/
theorem new_tup {vs : Array Value} {xs : List PV} {c tk : Nat} {h' : Heap} {a : Addr} (t : St cx F m H s.heap) (g : ∀ b o, s.heap.get? b = some o → h'.get? b = some o)
    (e : h'.get? a = some (tupObj vs c)) (r : RepL cx s.heap vs.toList xs) (l : xs.length ≤ LIM) (q : Q (.tup xs) H) : OkG (Rep cx) cx F m H s Q (.ref a) { s with heap := h', toks := tk } :=
  .grow g (.tup e l (r.mono (fun b o e _ => g b o e))) t q
theorem push_keeps {h : Heap} {o : Obj} : ∀ b x, h.get? b = some x → (h.push o).get? b = some x := fun _ _ e => Heap.get?_push_of_some o e

theorem LIM_le : LIM ≤ sizeLine := by decide
theorem bits_le {a : Int} (h : a.natAbs < 2 ^ 60) : Builtin.Int.intBits a ≤ 64 := by
  unfold Builtin.Int.intBits
  split
  · first | lia | omega
  · rename_i q
    have : a.natAbs.log2 < 60 := (Nat.log2_lt (by simpa using q)).mpr h
    first | lia | omega
theorem mulOk {a b : Int} (h : a.natAbs < 2 ^ 60 ∨ b.natAbs < 2 ^ 60) : IntMulOk a b := h.elim (fun h => .of_left (bits_le h)) fun h => .of_right (bits_le h)

theorem add_tup0 {t b : Addr} {items items2 : Array Value} {n n2 : Nat} {A : Around} {E : Value → Shared → Prop} {s : Shared} {Q : Value → Shared → Prop} {prog : Program} {w : World} (ht : s.heap.get? t = some (tupObj items n)) (hb : s.heap.get? b = some (tupObj items2 n2)) (hsz : items.size + items2.size ≤ sizeLine)
    (h0 : items.isEmpty = true → Q (.ref b) s) (h1 : ¬ items.isEmpty = true → items2.isEmpty = true → Q (.ref t) s)
    (h2 : Q (.ref s.heap.objs.size) { s with heap := s.heap.push (tupObj (items ++ items2) 0) }) :
    wpAny (model prog w) A (binaryOp .Add (.ref t) (.ref b)) Q E s := by
  by_cases a : items.isEmpty = true
  · exact concat_meets ⟨_, ht, rfl⟩ ⟨_, hb, rfl⟩ noFill_tuple_add seq_tuple_add F.slot_tuple_add F.entry_tuple_add (F.args_tuple_add_2 _ _) (AutoSeq1.tuple___add___tuple_tuple_0 t items n b items2 n2 a) ⟨ht, hb, h0 a⟩
  · by_cases c : items2.isEmpty = true
    · exact concat_meets ⟨_, ht, rfl⟩ ⟨_, hb, rfl⟩ noFill_tuple_add seq_tuple_add F.slot_tuple_add F.entry_tuple_add (F.args_tuple_add_2 _ _) (AutoSeq1.tuple___add___tuple_tuple_1 t items n b items2 n2 a c) ⟨ht, hb, h1 a c⟩
    · exact P.add_tuple ht hb a c h2 hsz

theorem mul_lst0 {l : Addr} {items : Array Value} {k : Nat} {x : Int} {u : Tok} {A : Around} {E : Value → Shared → Prop} {s : Shared} {Q : Value → Shared → Prop} {prog : Program} {w : World}
    (hl : s.heap.get? l = some (lstObj items k)) (hlo : -(2 ^ 63 : Int) ≤ x) (hhi : x < 2 ^ 63) (hsz : items.size * x.toNat ≤ 2 ^ 24)
    (h : Q (.ref s.heap.objs.size) { s with heap := s.heap.push (lstObj (List.foldl (fun x1 x2 => x1 ++ x2) #[] (List.replicate (if items.isEmpty = true then 0 else x.toNat) items)) 0) }) :
    wpAny (model prog w) A (binaryOp .Mult (.ref l) (.int x u)) Q E s :=
  wpAny_binaryOp_repeat_ref (T := "list") (U := "int") (by decide) ⟨_, hl, rfl⟩ (fun s' => typeIs_int s' x u) noFill_list_mul PySem.F.fills_int_mul PySem.F.slot_int_rmul repeat_list PySem.F.slot_int_index.lookup
    (call_meets PySem.F.slot_int_rmul (typeIs_int s x u) PySem.F.entry_int_rmul (PySem.F.args_int_rmul_2 _ _) (int___rmul___int_list x u l items k)
      ⟨hl, rfl, ⟨_, hl, rfl⟩, call_meets PySem.F.slot_list_mul ⟨_, hl, rfl⟩ PySem.F.entry_list_mul (PySem.F.args_list_mul_2 _ _)
        (AutoListH.list___mul___list_int_3 l items k x u (by simp [Builtin.List.listFitsIndex]; first | lia | omega) (by first | lia | omega) (by simp [Builtin.List.listTooLong, sizeLine]; first | lia | omega))
        ⟨hl, h⟩⟩)

theorem foldl_arrays (items : Array Value) : ∀ (n : Nat) (acc : Array Value), (List.foldl (fun x1 x2 => x1 ++ x2) acc (List.replicate n items)).toList = acc.toList ++ (List.replicate n items.toList).flatten
  | 0, acc => by simp
  | n + 1, acc => by
    rw [List.replicate_succ, List.foldl_cons, foldl_arrays items n, List.replicate_succ, List.flatten_cons]
    simp

theorem binW_to {op : Operator} {pv pw : PV} (h : binW op pv pw Q H) : BinW Q H op pv pw := h.to fun u e q => by
  unfold binF at e
  split at e
  · split at e
    · split at e
      · rename_i a b i hi
        cases e
        unfold intF at hi
        split at hi
        · cases hi; exact .addI _ _ q
        · cases hi; exact .subI _ _ q
        · split at hi
          · cases hi; exact .modI _ _ (by assumption) q
          · cases hi
        · split at hi
          · split at hi
            · cases hi; exact .divI _ _ (by assumption) (by assumption) q
            · cases hi
          · cases hi
        · cases hi
      · cases e
    · cases e
  · cases e
theorem bin_ok {op : Operator} {v w : Value} {pv pw : PV} (rv : Rep cx s.heap v pv) (rw' : Rep cx s.heap w pw) (t : St cx F m H s.heap) (h : binW op pv pw Q H) :
    Ev (Rep cx) cx F (binaryOp op v w) m H s Q X := by
  replace h := binW_to h
  cases h with
  | addI a b h =>
    (first | (obtain ⟨_, rfl⟩ := Rep.intI rv) | (obtain ⟨_, rfl⟩ := Rep.strI rv) | (obtain rfl := Rep.objI rv) | (obtain rfl := Rep.boolI rv) | (obtain rfl := Rep.noneI rv)); (first | (obtain ⟨_, rfl⟩ := Rep.intI rw') | (obtain ⟨_, rfl⟩ := Rep.strI rw') | (obtain rfl := Rep.objI rw') | (obtain rfl := Rep.boolI rw') | (obtain rfl := Rep.noneI rw')); exact add_int (.toks _ (.int _ _) t h)
  | subI a b h =>
    (first | (obtain ⟨_, rfl⟩ := Rep.intI rv) | (obtain ⟨_, rfl⟩ := Rep.strI rv) | (obtain rfl := Rep.objI rv) | (obtain rfl := Rep.boolI rv) | (obtain rfl := Rep.noneI rv)); (first | (obtain ⟨_, rfl⟩ := Rep.intI rw') | (obtain ⟨_, rfl⟩ := Rep.strI rw') | (obtain rfl := Rep.objI rw') | (obtain rfl := Rep.boolI rw') | (obtain rfl := Rep.noneI rw')); exact sub_int (.toks _ (.int _ _) t h)
  | mulI a b hk h =>
    (first | (obtain ⟨_, rfl⟩ := Rep.intI rv) | (obtain ⟨_, rfl⟩ := Rep.strI rv) | (obtain rfl := Rep.objI rv) | (obtain rfl := Rep.boolI rv) | (obtain rfl := Rep.noneI rv)); (first | (obtain ⟨_, rfl⟩ := Rep.intI rw') | (obtain ⟨_, rfl⟩ := Rep.strI rw') | (obtain rfl := Rep.objI rw') | (obtain rfl := Rep.boolI rw') | (obtain rfl := Rep.noneI rw')); exact mul_int (.toks _ (.int _ _) t h) (mulOk hk)
  | modI a b hk h =>
    (first | (obtain ⟨_, rfl⟩ := Rep.intI rv) | (obtain ⟨_, rfl⟩ := Rep.strI rv) | (obtain rfl := Rep.objI rv) | (obtain rfl := Rep.boolI rv) | (obtain rfl := Rep.noneI rv)); (first | (obtain ⟨_, rfl⟩ := Rep.intI rw') | (obtain ⟨_, rfl⟩ := Rep.strI rw') | (obtain rfl := Rep.objI rw') | (obtain rfl := Rep.boolI rw') | (obtain rfl := Rep.noneI rw'))
    refine mod_int' (by first | lia | omega) (.toks _ (.int _ _) t ?_)
    rw [Int.fmod_eq_emod_of_nonneg _ (by first | lia | omega)]; exact h
  | divI a b hk hk2 h =>
    (first | (obtain ⟨_, rfl⟩ := Rep.intI rv) | (obtain ⟨_, rfl⟩ := Rep.strI rv) | (obtain rfl := Rep.objI rv) | (obtain rfl := Rep.boolI rv) | (obtain rfl := Rep.noneI rv)); (first | (obtain ⟨_, rfl⟩ := Rep.intI rw') | (obtain ⟨_, rfl⟩ := Rep.strI rw') | (obtain rfl := Rep.objI rw') | (obtain rfl := Rep.boolI rw') | (obtain rfl := Rep.noneI rw'))
    refine floordiv_int (by first | lia | omega) (.toks _ (.int _ _) t ?_) (.inl (PyProof.noPylong_small (by first | lia | omega)))
    rw [Int.fdiv_eq_ediv_of_nonneg _ (by first | lia | omega)]; exact h
  | powI h =>
    (first | (obtain ⟨_, rfl⟩ := Rep.intI rv) | (obtain ⟨_, rfl⟩ := Rep.strI rv) | (obtain rfl := Rep.objI rv) | (obtain rfl := Rep.boolI rv) | (obtain rfl := Rep.noneI rv)); (first | (obtain ⟨_, rfl⟩ := Rep.intI rw') | (obtain ⟨_, rfl⟩ := Rep.strI rw') | (obtain rfl := Rep.objI rw') | (obtain rfl := Rep.boolI rw') | (obtain rfl := Rep.noneI rw'))
    exact pow_int (by decide) (by decide) (.toks _ (.int _ _) t h)
  | addS a b hk h =>
    (first | (obtain ⟨_, rfl⟩ := Rep.intI rv) | (obtain ⟨_, rfl⟩ := Rep.strI rv) | (obtain rfl := Rep.objI rv) | (obtain rfl := Rep.boolI rv) | (obtain rfl := Rep.noneI rv)); (first | (obtain ⟨_, rfl⟩ := Rep.intI rw') | (obtain ⟨_, rfl⟩ := Rep.strI rw') | (obtain rfl := Rep.objI rw') | (obtain rfl := Rep.boolI rw') | (obtain rfl := Rep.noneI rw')); exact add_str (fun t' tk => .toks tk (.str _ _) t h) (Nat.le_trans hk LIM_le)
  | addT xs ys hk h =>
    obtain ⟨a, i1, n1, rfl, e1, l1, r1⟩ := rv.tupI
    obtain ⟨b, i2, n2, rfl, e2, l2, r2⟩ := rw'.tupI
    have k1 := arr_len r1
    have k2 := arr_len r2
    have hl := LIM_le
    refine add_tup0 e1 e2 (by first | lia | omega) (fun c => ?_) (fun _ c => ?_) ?_
    · have z : xs = [] := by
        have : i1.size = 0 := by simpa using c
        rw [k1] at this; exact List.length_eq_zero_iff.mp this
      subst z
      exact .toks s.toks (.tup e2 l2 r2) t h
    · have z : ys = [] := by
        have : i2.size = 0 := by simpa using c
        rw [k2] at this; exact List.length_eq_zero_iff.mp this
      subst z
      refine .toks s.toks (.tup e1 l1 r1) t ?_
      simpa using h
    · refine new_tup (tk := s.toks) (c := 0) t push_keeps (Heap.get?_push_size _ rfl) ?_ ?_ h
      · rw [Array.toList_append]; exact r1.append r2
      · simpa using hk
  | addL a b xs ys ha hb hk h =>
    obtain rfl := Rep.objI rv
    obtain rfl := Rep.objI rw'
    obtain ⟨i1, n1, e1, r1, l1⟩ := t.list ha
    obtain ⟨i2, n2, e2, r2, l2⟩ := t.list hb
    have k1 := arr_len r1
    have k2 := arr_len r2
    have hl := LIM_le
    refine P.add_list e1 e2 ?_ (by first | lia | omega)
    refine new_list (tk := s.toks) (c := 0) t push_keeps (get_size_none _) (Heap.get?_push_size _ rfl) ?_ ?_ h
    · rw [Array.toList_append]; exact r1.append r2
    · simpa using hk
  | mulL a x xs ha u1 u2 u3 h =>
    obtain rfl := Rep.objI rv
    obtain ⟨_, rfl⟩ := Rep.intI rw'
    obtain ⟨items, n1, e1, r1, l1⟩ := t.list ha
    have k1 := arr_len r1
    have hl : LIM = 1048576 := rfl
    refine mul_lst0 e1 (by first | lia | omega) (by first | lia | omega) (by rw [k1]; first | lia | omega) ?_
    refine new_list (tk := s.toks) (c := 0) t push_keeps (get_size_none _) (Heap.get?_push_size _ rfl) ?_ ?_ h
    · rw [foldl_arrays]
      cases z : items.isEmpty with
      | false => simpa [repL] using r1.rep x.toNat
      | true =>
        have z' : xs = [] := by
          have : items.size = 0 := by simpa using z
          rw [k1] at this; exact List.length_eq_zero_iff.mp this
        subst z'
        have : repL x [] = [] := by simp [repL]
        rw [this]; exact .nil
    · rw [repL, List.length_flatten]; simp; rw [Nat.mul_comm]; exact u3
end
end Mine
end
section
open PySem PySem.Calls PyProof.Rows
namespace Mine
set_option autoImplicit false
open SeqAt (EqAt RcAt RcNeAt)

section
variable {cx : Cx} {s : Shared} {H : AHeap}
theorem EqA.same {h : Heap} {p q : PV} {b : Bool} (e : EqA p q b) {v : Value} (r : Rep cx h v p) (r' : Rep cx h v q) : b = true := by
  cases e with
  | bool a b => obtain rfl := Rep.boolI r; cases Rep.boolI r'; simp
  | int a b => obtain ⟨_, rfl⟩ := Rep.intI r; obtain ⟨_, q⟩ := Rep.intI r'; cases q; simp
  | str a b => obtain ⟨_, rfl⟩ := Rep.strI r; obtain ⟨_, q⟩ := Rep.strI r'; cases q; simp
  | intstr a b => obtain ⟨_, rfl⟩ := Rep.intI r; obtain ⟨_, q⟩ := Rep.strI r'; cases q
  | strint a b => obtain ⟨_, rfl⟩ := Rep.strI r; obtain ⟨_, q⟩ := Rep.intI r'; cases q
theorem EqL.all {n : Nat} : ∀ {ps qs : List PV} {b : Bool}, EqL H n ps qs b → ∃ f : Nat → Bool, (∀ j x y, ps[j]? = some x → qs[j]? = some y → EqV H n x y (f j)) ∧ b = ((List.range (min ps.length qs.length)).all f && ps.length == qs.length)
  | _, _, _, .nil => ⟨fun _ => true, fun j x y e => (by simp at e), rfl⟩
  | _, _, _, .l x xs => ⟨fun _ => true, fun j x y _ e => (by simp at e), by simp⟩
  | _, _, _, .r x xs => ⟨fun _ => true, fun j x y e => (by simp at e), by simp⟩
  | _, _, _, .c (a := a) e es => by
    obtain ⟨f, h1, h2⟩ := es.all
    refine ⟨fun j => match j with | 0 => a | j + 1 => f j, fun j x y ex ey => ?_, ?_⟩
    · cases j with
      | zero => simp at ex ey; subst ex ey; exact e
      | succ j => simp at ex ey; exact h1 j x y ex ey
    · rw [h2]
      simp only [List.length_cons, Nat.add_min_add_right, List.range_succ_eq_map, List.all_cons, List.all_map, Bool.and_assoc]
      simp [Function.comp_def]

/-- one and the same value -/
theorem EqV.same (t : Holds cx s.heap H) (n : Nat) : ∀ {p q : PV} {b : Bool}, EqV H n p q b → ∀ {v : Value}, Rep cx s.heap v p → Rep cx s.heap v q → b = true := by
  induction n with
  | zero =>
    intro p q b e v r r'
    cases e with
    | atom e => exact e.same r r'
  | succ n ih =>
    intro p q b e v r r'
    have key : ∀ {ps qs : List PV} {b : Bool} {vs : List Value}, EqL H n ps qs b → RepL cx s.heap vs ps → RepL cx s.heap vs qs → b = true := fun {ps qs b vs} el r1 r2 => by
      obtain ⟨f, hf, hb⟩ := el.all
      have hl : ps.length = qs.length := r1.length.symm.trans r2.length
      rw [hb, ← hl, Nat.min_self, beq_self_eq_true, Bool.and_true, List.all_eq_true]
      intro j hj
      have hj1 : j < ps.length := List.mem_range.mp hj
      have e1 : ps[j]? = some ps[j] := List.getElem?_eq_getElem hj1
      have e2 : qs[j]? = some (qs[j]'(hl ▸ hj1)) := List.getElem?_eq_getElem _
      obtain ⟨v1, ev1, rv1⟩ := r1.get e1
      obtain ⟨v2, ev2, rv2⟩ := r2.get e2
      rw [ev1] at ev2
      cases ev2
      exact ih (hf j _ _ e1 e2) rv1 rv2
    cases e with
    | atom e => exact e.same r r'
    | tup el =>
      obtain ⟨a, i, n, rfl, e1, _, r1⟩ := r.tupI
      obtain ⟨a', i', n', q, e2, _, r2⟩ := r'.tupI
      cases q
      rw [e1] at e2
      have : i = i' := by simp [tupObj] at e2; exact e2.1
      subst this
      exact key el r1 r2
    | list ha hb el =>
      obtain rfl := r.objI
      cases r'.objI
      rw [ha] at hb; cases hb
      obtain ⟨i, n, _, r1, _⟩ := t _ _ ha
      exact key el r1 r1

theorem isTuple_of {h : Heap} {a : Addr} {items : Array Value} {n : Nat} (e : h.get? a = some (tupObj items n)) : h.IsTuple a items := ⟨_, e, rfl, n, rfl⟩

theorem RepL.at {h : Heap} {items : Array Value} {xs : List PV} (r : RepL cx h items.toList xs) {j : Nat} (hj : j < items.size) : ∃ p, xs[j]? = some p ∧ Rep cx h items[j] p := by
  have hl := arr_len r
  have e : xs[j]? = some (xs[j]'(by first | lia | omega)) := by simp
  obtain ⟨v, ev, rv⟩ := r.get e
  refine ⟨_, e, ?_⟩
  have : items[j] = v := by
    rw [Array.getElem?_toList] at ev
    rw [Array.getElem?_eq_getElem hj] at ev
    exact Option.some.inj ev
  rw [this]; exact rv

theorem atom_at {p q : PV} {b : Bool} (e : EqA p q b) {v w : Value} (rv : Rep cx s.heap v p) (rw' : Rep cx s.heap w q) (A : Around) : EqAt A s v w b ∧ RcAt A s v w b ∧ RcNeAt A s v w (!b) := by
  cases e with
  | bool a b => obtain rfl := Rep.boolI rv; obtain rfl := Rep.boolI rw'; exact ⟨.bool_bool _ _, .bool_bool _ _, .bool_bool _ _⟩
  | int a b => obtain ⟨_, rfl⟩ := Rep.intI rv; obtain ⟨_, rfl⟩ := Rep.intI rw'; exact ⟨.int_int _ _ _ _, .int_int _ _ _ _, .int_int _ _ _ _⟩
  | str a b => obtain ⟨_, rfl⟩ := Rep.strI rv; obtain ⟨_, rfl⟩ := Rep.strI rw'; exact ⟨.str_str _ _ _ _, .str_str _ _ _ _, .str_str _ _ _ _⟩
  | intstr a b => obtain ⟨_, rfl⟩ := Rep.intI rv; obtain ⟨_, rfl⟩ := Rep.strI rw'; exact ⟨.int_str _ _ _ _, .int_str _ _ _ _, .int_str _ _ _ _⟩
  | strint a b => obtain ⟨_, rfl⟩ := Rep.strI rv; obtain ⟨_, rfl⟩ := Rep.intI rw'; exact ⟨.str_int _ _ _ _, .str_int _ _ _ _, .str_int _ _ _ _⟩
/-- == told by item, of two made rows -/
theorem eqv_at (t : Holds cx s.heap H) : ∀ (n : Nat) {p q : PV} {b : Bool}, EqV H n p q b → ∀ {v w : Value}, Rep cx s.heap v p → Rep cx s.heap w q → ∀ (A : Around), A.units + n < cLine →
    EqAt A s v w b ∧ RcAt A s v w b ∧ RcNeAt A s v w (!b) := by
  intro n
  induction n with
  | zero =>
    intro p q b e v w rv rw' A hu
    cases e with
    | atom e => exact atom_at e rv rw' A
  | succ n ih =>
    intro p q b e v w rv rw' A hu
    have e0 := e
    cases e with
    | atom e => exact atom_at e rv rw' A
    | tup el =>
      obtain ⟨a1, i1, n1, rfl, e1, _, r1⟩ := rv.tupI
      obtain ⟨a2, i2, n2, rfl, e2, _, r2⟩ := rw'.tupI
      obtain ⟨f, hf, hb⟩ := el.all
      have hi : ∀ j (h1 : j < i1.size) (h2 : j < i2.size), EqAt A.in1 s i1[j] i2[j] (f j) := fun j h1 h2 => by
        obtain ⟨p1, q1, s1⟩ := r1.at h1
        obtain ⟨p2, q2, s2⟩ := r2.at h2
        exact (ih (hf j p1 p2 q1 q2) s1 s2 A.in1 (by show A.units + 1 + n < cLine; first | lia | omega)).1
      rw [← arr_len r1, ← arr_len r2] at hb
      have rc : RcAt A s (.ref a1) (.ref a2) b := by rw [hb]; exact RcAt.tuples (isTuple_of e1) (isTuple_of e2) (by first | lia | omega) hi
      have rn : RcNeAt A s (.ref a1) (.ref a2) (!b) := by rw [hb]; exact RcNeAt.tuples (isTuple_of e1) (isTuple_of e2) (by first | lia | omega) hi
      refine ⟨?_, rc, rn⟩
      by_cases q : a1 = a2
      · subst q; rw [EqV.same t _ e0 rv rw']; exact .same _
      · exact .of_refs q rc
    | list ha hb' el =>
      rename_i a1 a2 _ _
      obtain rfl := rv.objI
      obtain rfl := rw'.objI
      obtain ⟨i1, n1, e1, r1, _⟩ := t _ _ ha
      obtain ⟨i2, n2, e2, r2, _⟩ := t _ _ hb'
      obtain ⟨f, hf, hb⟩ := el.all
      have hi : ∀ j (h1 : j < i1.size) (h2 : j < i2.size), EqAt A.in1 s i1[j] i2[j] (f j) := fun j h1 h2 => by
        obtain ⟨p1, q1, s1⟩ := r1.at h1
        obtain ⟨p2, q2, s2⟩ := r2.at h2
        exact (ih (hf j p1 p2 q1 q2) s1 s2 A.in1 (by show A.units + 1 + n < cLine; first | lia | omega)).1
      rw [← arr_len r1, ← arr_len r2] at hb
      have both : RcAt A s (.ref a1) (.ref a2) b ∧ RcNeAt A s (.ref a1) (.ref a2) (!b) := by
        by_cases hs : i1.size = i2.size
        · rw [hb, ← hs, Nat.min_self, beq_self_eq_true, Bool.and_true]
          exact ⟨RcAt.lists (isList_of e1) (isList_of e2) hs (by first | lia | omega) hi, RcNeAt.lists (isList_of e1) (isList_of e2) hs (by first | lia | omega) hi⟩
        · have hz : (i1.size == i2.size) = false := by simpa using hs
          rw [hb, hz, Bool.and_false]
          exact ⟨RcAt.lists_lengths (isList_of e1) (isList_of e2) (by simpa using hs) (by first | lia | omega), RcNeAt.lists_lengths (isList_of e1) (isList_of e2) (by simpa using hs) (by first | lia | omega)⟩
      refine ⟨?_, both.1, both.2⟩
      by_cases q : a1 = a2
      · subst q; rw [EqV.same t _ e0 (.obj _) (.obj _)]; exact .same _
      · exact .of_refs q both.1
end
end Mine
end
section
open PySem PySem.Calls PyProof.Rows
namespace Mine
set_option autoImplicit false
open SeqAt (EqAt RcAt RcNeAt)

section
variable {cx : Cx}
theorem RepK.get {h : Heap} : ∀ {vs : List (Str × Value)} {ps : List (Str × PV)}, RepK cx h vs ps → ∀ {k : Str} {p : PV}, dget ps k = some p → ∃ v, valueAt vs k = some v ∧ Rep cx h v p
  | _, _, .nil, k, p, e => by simp [dget] at e
  | _, _, .cons (k := k') (ps := qs) a r, k, p, e => by
    by_cases q : k' = k
    · subst q; simp [dget] at e; subst e; exact ⟨_, by simp [valueAt], a⟩
    · have e' : dget qs k = some p := by simpa [dget, q] using e
      obtain ⟨v, e1, r1⟩ := r.get e'
      exact ⟨v, by simpa [valueAt, q] using e1, r1⟩
theorem RepK.miss {h : Heap} : ∀ {vs : List (Str × Value)} {ps : List (Str × PV)}, RepK cx h vs ps → ∀ {k : Str}, dget ps k = none → valueAt vs k = none
  | _, _, .nil, k, e => by simp [valueAt]
  | _, _, .cons (k := k') (ps := qs) a r, k, e => by
    by_cases q : k' = k
    · subst q; simp [dget] at e
    · have e' : dget qs k = none := by simpa [dget, q] using e
      have := r.miss e'
      simpa [valueAt, q] using this
theorem RepK.isSome {h : Heap} {vs : List (Str × Value)} {ps : List (Str × PV)} (r : RepK cx h vs ps) (k : Str) : (valueAt vs k).isSome = hasKey ps k := by
  unfold hasKey
  cases e : dget ps k with
  | none => rw [r.miss e]; rfl
  | some p => obtain ⟨v, q, _⟩ := r.get e; rw [q]; rfl
theorem RepK.keys {h : Heap} : ∀ {vs : List (Str × Value)} {ps : List (Str × PV)}, RepK cx h vs ps → vs.map (·.1) = ps.map (·.1)
  | _, _, .nil => rfl
  | _, _, .cons _ r => by simp [r.keys]

theorem beq_bv (a b : Bool) : (Value.bool a == Value.bool b) = (a == b) := by cases a <;> cases b <;> decide
noncomputable def eqStr (k : Str) : Value → Bool
  | .str z _ => z == k
  | _ => false
theorem RepL.strs {h : Heap} : ∀ {vs : List Value} {ks : List Str}, RepL cx h vs (ks.map .str) → (∀ y ∈ vs, ∃ z t, y = .str z t) ∧ ∀ k, vs.any (eqStr k) = decide (k ∈ ks)
  | [], [], _ => ⟨fun _ q => (nomatch q), fun k => by simp⟩
  | v :: vs, z :: ks, .cons a r => by
    obtain ⟨t, rfl⟩ := a.strI
    obtain ⟨h1, h2⟩ := r.strs
    refine ⟨fun y hy => ?_, fun k => ?_⟩
    · rcases List.mem_cons.mp hy with rfl | hy
      · exact ⟨z, t, rfl⟩
      · exact h1 y hy
    · rw [List.any_cons, h2 k]
      by_cases q : z = k
      · subst q; simp [eqStr]
      · have q' : ¬ k = z := fun e => q e.symm
        simp [eqStr, q, q', List.mem_cons]
end

section
variable {cx : Cx} {F : Fm} {m : Loc} {H : AHeap} {s : Shared} {Q : BPost} {X : XPost}
abbrev IsB : Heap → Value → Bool → Prop := fun _ v b => v = .bool b

theorem St.dict {a : Addr} {xs : List (Str × PV)} (t : St cx F m H s.heap) (e : H a = some (.dict xs)) : ∃ vs, s.heap.DictOf cx.sk a vs ∧ RepK cx s.heap vs xs ∧ xs.length ≤ LIM ∧ (a == sysModules) = false := t.heap a _ e
theorem Rep.fdt_at {a : Addr} {vs : List (Str × Value)} (d : cx.B.DictOf cx.sk a vs) (t : St cx F m H s.heap) : s.heap.DictOf cx.sk a vs := d.keep t.base

theorem eqd_hits (t : Holds cx s.heap H) {vb : List (Str × Value)} {ys : List (Str × PV)} (rb : RepK cx s.heap vb ys) : ∀ {xs : List (Str × PV)} {r : Bool}, EqD H ys xs r → ∀ {va : List (Str × Value)}, RepK cx s.heap va xs → ∀ A : Around, A.units + 40 < cLine →
    PySem.W.KeqHits A s vb va r
  | _, _, .nil, _, .nil, _, _ => .nil
  | _, _, .miss e, _, .cons _ _, _, _ => .miss (rb.miss e)
  | _, _, .c e ev es, _, .cons a r, A, hu => by
    obtain ⟨v, q, rv⟩ := rb.get e
    exact .hit q (eqv_at t 40 ev a rv A hu).1 (eqd_hits t rb es r A hu)

theorem eq_ok {v w : Value} {p q : PV} {b : Bool} (hu : F.A.units + 100 < cLine) (rv : Rep cx s.heap v p) (rw' : Rep cx s.heap w q) (t : St cx F m H s.heap) (e : EqT H p q b) (Q' : Value → Shared → Prop) (E : Value → Shared → Prop) :
    (Q' (.bool b) s → wpAny cx.M F.A (compareOp .Eq v w) Q' E s) ∧ (Q' (.bool (!b)) s → wpAny cx.M F.A (compareOp .NotEq v w) Q' E s) := by
  cases e with
  | val e =>
    obtain ⟨_, h2, h3⟩ := eqv_at t.heap 40 e rv rw' F.A (by first | lia | omega)
    exact ⟨fun h => h2 _ _ E Q' h, fun h => h3 _ _ E Q' h⟩
  | dict ha hb hl hd =>
    obtain rfl := Rep.objI rv; obtain rfl := Rep.objI rw'
    obtain ⟨va, da, ra, _, na⟩ := t.dict ha
    obtain ⟨vb, db, rb, _, nb⟩ := t.dict hb
    have hh := eqd_hits t.heap rb hd ra F.A.in1 (by show F.A.units + 1 + 40 < cLine; first | lia | omega)
    have hlen : (va.length == vb.length) = true := by rw [ra.length, rb.length, hl]; simp
    exact ⟨fun h => PySem.W.keq_eq na nb da db (by first | lia | omega) (fun _ => hh) (by rw [hlen, Bool.true_and]; exact h), fun h => PySem.W.keq_ne na nb da db (by first | lia | omega) (fun _ => hh) (by rw [hlen, Bool.true_and]; exact h)⟩
  | dictlen ha hb hl =>
    obtain rfl := Rep.objI rv; obtain rfl := Rep.objI rw'
    obtain ⟨va, da, ra, _, na⟩ := t.dict ha
    obtain ⟨vb, db, rb, _, nb⟩ := t.dict hb
    have hne : ¬ va.length = vb.length := by rw [ra.length, rb.length]; exact hl
    have hlen : (va.length == vb.length) = false := by simpa using hne
    exact ⟨fun h => PySem.W.keq_eq (r := true) na nb da db (by first | lia | omega) (fun e => absurd e hne) (by rw [hlen, Bool.false_and]; exact h), fun h => PySem.W.keq_ne (r := true) na nb da db (by first | lia | omega) (fun e => absurd e hne) (by rw [hlen, Bool.false_and]; exact h)⟩

theorem cmpW_to {op : CmpOp} {p q : PV} (h : cmpW op p q Q H) : CmpW (fun b => Q b H) H op p q := h.to fun b e k => by
  unfold cmpF at e
  split at e
  · split at e
    · unfold cmpI at e
      split at e <;> cases e
      · exact .eq (.val (.int _ _)) k
      · exact .ne (.val (.int _ _)) k
      · exact .lt _ _ k
      · exact .le _ _ k
      · exact .gt _ _ k
    · cases e
  · split at e
    · unfold cmpS at e
      split at e <;> cases e
      · exact .eq (.val (.str _ _)) k
      · exact .ne (.val (.str _ _)) k
    · cases e
  · split at e
    · unfold noneF at e
      split at e <;> cases e
      · exact .isN k
      · exact .niN k
    · cases e
theorem none_rep {h : Heap} {v : Value} {p : PV} (r : Rep cx h v p) : (v == .none) = isN p := by cases r <;> rfl
theorem cmp_ok {op : CmpOp} {v w : Value} {p q : PV} (hu : F.A.units + 100 < cLine) (rv : Rep cx s.heap v p) (rw' : Rep cx s.heap w q) (t : St cx F m H s.heap) (h : cmpW op p q Q H) :
    Ev IsB cx F (compareOp op v w) m H s Q X := by
  replace h := cmpW_to h
  cases h with
  | eq e k => exact (eq_ok hu rv rw' t e _ _).1 (.toks s.toks rfl t k)
  | ne e k => exact (eq_ok hu rv rw' t e _ _).2 (.toks s.toks rfl t k)
  | lt a b k => obtain ⟨_, rfl⟩ := Rep.intI rv; obtain ⟨_, rfl⟩ := Rep.intI rw'; exact lt_int (.toks s.toks rfl t k)
  | le a b k => obtain ⟨_, rfl⟩ := Rep.intI rv; obtain ⟨_, rfl⟩ := Rep.intI rw'; exact le_int (.toks s.toks rfl t k)
  | gt a b k => obtain ⟨_, rfl⟩ := Rep.intI rv; obtain ⟨_, rfl⟩ := Rep.intI rw'; exact gt_int (.toks s.toks rfl t k)
  | isN k => obtain rfl := Rep.noneI rw'; exact is_none_gen (by rw [none_rep rv]; exact .toks s.toks rfl t k)
  | niN k => obtain rfl := Rep.noneI rw'; exact isnot_none_gen (by rw [none_rep rv]; exact .toks s.toks rfl t k)
  | inD ha h =>
    obtain ⟨tk, rfl⟩ := rv.strI
    obtain rfl := Rep.objI rw'
    obtain ⟨vs, d, r, _, hn⟩ := t.dict ha
    refine wpAny_in_of (knd := cx.sk) (strKind_is _ _ _ _) hn d.mapOf ?_
    rw [r.isSome]; exact .toks _ rfl t h
  | niD ha h =>
    obtain ⟨tk, rfl⟩ := rv.strI
    obtain rfl := Rep.objI rw'
    obtain ⟨vs, d, r, _, hn⟩ := t.dict ha
    refine wpAny_notIn_of (knd := cx.sk) (strKind_is _ _ _ _) hn d.mapOf ?_
    rw [r.isSome]; exact .toks _ rfl t h
  | inL ha h =>
    rename_i k a ks
    obtain ⟨tk, rfl⟩ := rv.strI
    obtain rfl := Rep.objI rw'
    obtain ⟨items, n, e, r, _⟩ := t.list ha
    obtain ⟨h1, h2⟩ := r.strs
    refine SeqAt.in_listAt (eqStr k) (isList_of e) (fun y hy => ?_) ?_
    · obtain ⟨z, u, rfl⟩ := h1 y (by simpa using hy)
      exact EqAt.str_str _ _ _ _
    · rw [← Array.any_toList, h2]; exact .toks s.toks rfl t h
  | niL ha h =>
    rename_i k a ks
    obtain ⟨tk, rfl⟩ := rv.strI
    obtain rfl := Rep.objI rw'
    obtain ⟨items, n, e, r, _⟩ := t.list ha
    obtain ⟨h1, h2⟩ := r.strs
    refine SeqAt.notIn_listAt (eqStr k) (isList_of e) (fun y hy => ?_) ?_
    · obtain ⟨z, u, rfl⟩ := h1 y (by simpa using hy)
      exact EqAt.str_str _ _ _ _
    · rw [← Array.any_toList, h2]; exact .toks s.toks rfl t h
end
end Mine
end
section
open PySem PySem.Calls PyProof.Rows
namespace Mine
set_option autoImplicit false

section
variable {prog : Program} {w : World} {A : Around} {E : Value → Shared → Prop} {s : Shared}
theorem tail_at {value slice : Expr} {o i : Value} {T id : String} {ops : List Value} {Q : Value → Shared → Prop} (hT : s.TypeIs o T)
    (hl : typeLookup (.type T) "__getitem__" = pure (some (.builtin id))) (h : wpAny (model prog w) A (getItem o i) Q E s)
    (hs : subscripted slice false o i = operate ops (getItem o i)) :
    wpAny (model prog w) A (subscriptTail value slice o i) Q E s := by
  unfold subscriptTail
  refine wpAny_bind ?_
  rw [getitemInPython_of_ne hT.not_modules]
  refine wpAny_bind (wpAny_specialOf hT hl ?_)
  have fin : wpAny (model prog w) A (subscripted slice false o i) (fun r s₃ => wpAny (model prog w) A (letTemporaryGo value o r >>= fun _ => pure r) Q E s₃) E s := by
    rw [hs]
    exact wpAny_operating (wpAny_mono h (fun r s₃ h₃ => wpAny_bind (wpAny_letTemporaryGo (wpAny_pure h₃))) fun _ _ x => x)
  first
    | exact wpAny_pure (wpAny_bind fin)
    | exact wpAny_bind (wpAny_pure (wpAny_bind fin))
    | exact wpAny_bind fin

theorem getItem_lst {l : Addr} {items : Array Value} {k : Int} {t : Tok} {x : Value} {Q : Value → Shared → Prop} (hl : s.heap.IsList l items) (hsz : items.size ≤ LIM) (hx : itemAt items.toList k = some x) (h : Q x s) :
    wpAny (model prog w) A (getItem (.ref l) (.int k t)) Q E s := by
  unfold itemAt at hx
  have hL : LIM = 1048576 := rfl
  simp only [Array.length_toList, Array.getElem?_toList] at hx
  split at hx
  · rename_i h0
    have : k.toNat < items.size := (Array.getElem?_eq_some_iff.mp hx).1
    exact wpAny_getItem_list hl h0 (by first | lia | omega) hx h
  · split at hx
    · exact wpAny_getItem_list_neg hl (by first | lia | omega) (by first | lia | omega) (by first | lia | omega) hx h
    · cases hx
theorem seqIdx {k : Int} {n : Nat} {α : Type} {xs : List α} {x : α} (hn : xs.length = n) (hx : itemAt xs k = some x) : ∃ j, seqIndex? k n = some j ∧ xs[j]? = some x := by
  unfold itemAt at hx
  split at hx
  · rename_i h0
    have : k.toNat < xs.length := (List.getElem?_eq_some_iff.mp hx).1
    exact ⟨_, seqIndex_of h0 (by first | lia | omega), hx⟩
  · split at hx
    · rename_i h0 h1
      refine ⟨_, seqIndex_neg (by first | lia | omega) (by first | lia | omega), ?_⟩
      rw [← hn]; exact hx
    · cases hx
theorem itemAt_range {k : Int} {α : Type} {xs : List α} {x : α} (hx : itemAt xs k = some x) : -(xs.length : Int) ≤ k ∧ k < xs.length := by
  unfold itemAt at hx
  split at hx
  · have : k.toNat < xs.length := (List.getElem?_eq_some_iff.mp hx).1
    first | lia | omega
  · split at hx
    · have : (k + xs.length).toNat < xs.length := (List.getElem?_eq_some_iff.mp hx).1
      first | lia | omega
    · cases hx
end

theorem RepL.item {cx : Cx} {h : Heap} {vs : List Value} {ps : List PV} (r : RepL cx h vs ps) {k : Int} {p : PV} (e : itemAt ps k = some p) : ∃ v, itemAt vs k = some v ∧ Rep cx h v p := by
  unfold itemAt at e ⊢
  rw [r.length]
  split at e
  · rw [if_pos (by assumption)]; exact r.get e
  · rw [if_neg (by assumption)]
    split at e
    · rw [if_pos (by assumption)]; exact r.get e
    · cases e
theorem ints_item {vs : List Value} {ns : List Int} (r : IntsAre vs ns) {k : Int} {n : Int} (e : itemAt ns k = some n) : ∃ t, itemAt vs k = some (.int n t) := by
  have g : ∀ {vs : List Value} {ns : List Int}, IntsAre vs ns → ∀ {j : Nat} {n : Int}, ns[j]? = some n → ∃ t, vs[j]? = some (.int n t) := by
    intro vs ns r
    induction r with
    | nil => intro j n e; simp at e
    | cons a t _ ih =>
      intro j n e
      cases j with
      | zero => simp at e; subst e; exact ⟨t, rfl⟩
      | succ j => simp at e; simpa using ih e
  unfold itemAt at e ⊢
  rw [r.length]
  split at e
  · rw [if_pos (by assumption)]; exact g r e
  · rw [if_neg (by assumption)]
    split at e
    · rw [if_pos (by assumption)]; exact g r e
    · cases e

section
variable {cx : Cx} {F : Fm} {m : Loc} {H : AHeap} {s : Shared} {Q : Post} {X : XPost}

theorem St.tape {a : Addr} {n : Nat} (t : St cx F m H s.heap) (e : H a = some (.tape n)) : ∃ u k, s.heap.get? a = some (lstObj #[.int n u] k) := t.heap a _ e
theorem ints_len {vs : List Value} {ns : List Int} (r : IntsAre vs ns) : vs.length = ns.length := r.length

theorem subW_to {p q : PV} (h : subW p q Q H) : SubW Q H p q := h.to fun u e k => by
  unfold subF at e
  split at e
  · split at e
    · exact .tup e k
    · cases e
  · cases e
theorem sub_ok {value slice : Expr} {v i : Value} {p q : PV} (hs : ∀ o i, subscripted slice false o i = operate [o, i] (getItem o i)) (rv : Rep cx s.heap v p) (ri : Rep cx s.heap i q) (t : St cx F m H s.heap) (h : subW p q Q H) :
    Ev (Rep cx) cx F (subscriptTail value slice v i) m H s Q X := by
  have hL : LIM = 1048576 := rfl
  replace h := subW_to h
  cases h with
  | tup e h =>
    obtain ⟨a, items, n, rfl, g, l, r⟩ := rv.tupI
    obtain ⟨u, rfl⟩ := ri.intI
    obtain ⟨y, ey, ry⟩ := r.item e
    obtain ⟨j, h1, h2⟩ := seqIdx (n := items.size) (by simp) ey
    have := itemAt_range e
    refine tail_at (T := "tuple") ⟨_, g, rfl⟩ slot_tuple_getitem.lookup (P.getItem_tuple g (by first | lia | omega) (by first | lia | omega) h1 (by simpa using h2) (.toks s.toks ry t h)) (hs _ _)
  | str hz e h =>
    rename_i y x k
    obtain ⟨u, rfl⟩ := rv.strI
    obtain ⟨u, rfl⟩ := ri.intI
    unfold signAt at e
    obtain ⟨c, ec, rfl⟩ := Option.map_eq_some_iff.mp e
    have hl : y.cps.toList.length = y.length := by simp [Str.length]
    obtain ⟨j, h1, h2⟩ := seqIdx hl ec
    have := itemAt_range ec
    refine tail_at (T := "str") (typeIs_str _ _ _) PySem.F.slot_str_getitem.lookup (getItem_str (i := k) (c := c) ?_ ?_ (.toks _ (.str _ _) t h)) (hs _ _)
    · simp; first | lia | omega
    · rw [h1]; simpa using h2
  | fls e h =>
    obtain ⟨a, items, rfl, g, ii, l⟩ := rv.flsI
    obtain ⟨u, rfl⟩ := ri.intI
    obtain ⟨y, ey⟩ := ints_item ii e
    have hk := ints_len ii
    have g' := isList_up g t.base
    refine tail_at (T := "list") g'.typeIs slot_list_getitem.lookup (getItem_lst g' (by simp at hk; first | lia | omega) ey (.toks s.toks (.int _ _) t h)) (hs _ _)
  | fdt e h =>
    obtain ⟨a, vs, rfl, d, r⟩ := rv.fdtI
    obtain ⟨u, rfl⟩ := ri.strI
    obtain ⟨y, ey, ry⟩ := r.get e
    have d' := d.keep t.base
    exact tail_at (T := "dict") d'.typeIs slot_dict_getitem.lookup (wpAny_getItem_of (knd := cx.sk) (strKind_is _ _ _ _) d'.mapOf ey (.toks _ ry t h)) (hs _ _)
  | list ha e h =>
    obtain rfl := Rep.objI rv
    obtain ⟨u, rfl⟩ := ri.intI
    obtain ⟨items, n, g, r, l⟩ := t.list ha
    obtain ⟨y, ey, ry⟩ := r.item e
    have hk := arr_len r
    refine tail_at (T := "list") ⟨_, g, rfl⟩ slot_list_getitem.lookup (getItem_lst (isList_of g) (by first | lia | omega) ey (.toks s.toks ry t h)) (hs _ _)
  | dict ha e h =>
    obtain rfl := Rep.objI rv
    obtain ⟨u, rfl⟩ := ri.strI
    obtain ⟨vs, d, r, _⟩ := t.dict ha
    obtain ⟨y, ey, ry⟩ := r.get e
    exact tail_at (T := "dict") d.typeIs slot_dict_getitem.lookup (wpAny_getItem_of (knd := cx.sk) (strKind_is _ _ _ _) d.mapOf ey (.toks _ ry t h)) (hs _ _)
  | tape ha h =>
    obtain rfl := Rep.objI rv
    obtain ⟨u, rfl⟩ := ri.intI
    obtain ⟨u, k, g⟩ := t.tape ha
    exact tail_at (T := "list") ⟨_, g, rfl⟩ slot_list_getitem.lookup (getItem_lst (isList_of g) (by simp [LIM]) rfl (.toks s.toks (.int _ _) t h)) (hs _ _)
end
end Mine
end
section
open PySem PySem.Calls PyProof.Rows
namespace Mine
set_option autoImplicit false
open PySem.Builtin.Str (strSliceIndices)

theorem cutAt_le (n : Nat) (k : Int) : cutAt n k ≤ n := by unfold cutAt; split <;> (first | lia | omega)
theorem clip_cut (n : Nat) (k : Int) : max 0 (min (if k < 0 then k + (n : Int) else k) (n : Int)) = (cutAt n k : Int) := by
  unfold cutAt
  by_cases h : 0 ≤ k
  · rw [if_neg (by first | lia | omega), if_pos h]; first | lia | omega
  · rw [if_pos (by first | lia | omega), if_neg h]; first | lia | omega
theorem bounds_from (n : Nat) (k : Int) : sliceBounds (some k) none none n = ((cutAt n k : Int), (n : Int), 1) := by
  show (max 0 (min (if k < 0 then k + (n : Int) else k) (n : Int)), (n : Int), (1 : Int)) = _
  rw [clip_cut]
theorem bounds_to (n : Nat) (k : Int) : sliceBounds none (some k) none n = ((0 : Int), (cutAt n k : Int), 1) := by
  show ((0 : Int), max 0 (min (if k < 0 then k + (n : Int) else k) (n : Int)), (1 : Int)) = _
  rw [clip_cut]
theorem pick_from' (items : Array Value) (k : Int) : (slicePick items (some k) none none).toList = items.toList.drop (cutAt items.size k) := by
  unfold slicePick
  rw [bounds_from]
  simp only
  rw [sliceRange_one, pick_run, List.take_of_length_le (by simp)]
theorem pick_to' (items : Array Value) (k : Int) : (slicePick items none (some k) none).toList = items.toList.take (cutAt items.size k) := by
  unfold slicePick
  rw [bounds_to]
  simp only
  rw [show (0 : Int) = ((0 : Nat) : Int) from rfl, sliceRange_one, pick_run, List.drop_zero, Nat.sub_zero]
theorem fm_congr {α β : Type} {f g : α → Option β} : ∀ {l : List α}, (∀ x ∈ l, f x = g x) → l.filterMap f = l.filterMap g
  | [], _ => rfl
  | a :: l, h => by rw [List.filterMap_cons, List.filterMap_cons, h a (List.mem_cons_self ..), fm_congr fun x hx => h x (List.mem_cons_of_mem _ hx)]
theorem pick_rev (items : Array Value) : (slicePick items none none (some (-1))).toList = items.toList.reverse := by
  have h := pick_run items.toList.reverse.toArray 0 items.size
  rw [List.drop_zero, List.take_of_length_le (by simp)] at h
  simp only [List.toList_toArray] at h
  refine Eq.trans ?_ h
  unfold slicePick
  rw [show sliceBounds none none (some (-1)) items.size = ((items.size : Int) - 1, -1, -1) from rfl]
  simp only [List.toList_toArray]
  unfold sliceRange
  rw [if_neg (by decide)]
  have hc : (if (items.size : Int) - 1 > -1 then ((items.size : Int) - 1 - -1 - -1 - 1) / (- -1) else 0).toNat = items.size := by
    split
    · rw [show (- -1 : Int) = 1 from rfl, Int.ediv_one]; first | lia | omega
    · first | lia | omega
  simp only [hc]
  rw [List.filterMap_map, List.filterMap_map]
  refine fm_congr fun k hk => ?_
  have hk' : k < items.size := List.mem_range.mp hk
  simp only [Function.comp]
  rw [show ((items.size : Int) - 1 + -1 * (k : Int)).toNat = items.size - 1 - k by first | lia | omega, Nat.zero_add]
  have e : items.toList.reverse.toArray[k]? = items.toList.reverse[k]? := by simp
  rw [e, List.getElem?_reverse (by simpa using hk'), Array.length_toList, Array.getElem?_toList]
theorem str_from (x : Str) (k : Int) : Txt.slice x (some k) none = ⟨(x.cps.toList.drop (cutAt x.length k)).toArray⟩ := by
  have e : strSliceIndices (some k) none 1 x.length = (List.range (x.length - cutAt x.length k)).map (cutAt x.length k + ·) := by
    show sliceRange (max 0 (min (if k < 0 then k + (x.length : Int) else k) (x.length : Int))) (x.length : Int) 1 = _
    rw [clip_cut, sliceRange_one]
  unfold Txt.slice
  rw [e, pick_run]
  split
  · rename_i h
    simp at h
    have hc := cutAt_le x.length k
    have z : cutAt x.length k = 0 ∨ x.length = 0 := by first | lia | omega
    rcases z with z | z
    · rw [z]; simp
    · have : x.cps.toList = [] := by
        have : x.cps.size = 0 := z
        simpa using this
      rw [this]; cases x; simp_all
  · rw [List.take_of_length_le (by simp [Str.length])]
theorem str_to (x : Str) (k : Int) : Txt.slice x none (some k) = ⟨(x.cps.toList.take (cutAt x.length k)).toArray⟩ := by
  have e : strSliceIndices none (some k) 1 x.length = (List.range (cutAt x.length k - 0)).map (0 + ·) := by
    show sliceRange 0 (max 0 (min (if k < 0 then k + (x.length : Int) else k) (x.length : Int))) 1 = _
    rw [clip_cut, show (0 : Int) = ((0 : Nat) : Int) from rfl, sliceRange_one]
  unfold Txt.slice
  rw [e, pick_run]
  split
  · rename_i h
    simp at h
    rw [h, List.take_of_length_le (by simp [Str.length])]
  · rw [List.drop_zero, Nat.sub_zero]

section
variable {prog : Program} {w : World} {A : Around} {E : Value → Shared → Prop} {s : Shared}
theorem slicePart_of {v : Value} {k : Option Int} {Q : Option Int → Shared → Prop} (p : IsPart v k) (h : Q k s) : wpAny (model prog w) A (Builtin.Slice.slicePartIndex v) Q E s := by
  cases p with
  | none => exact slicePart_none h
  | int i t => exact slicePart_int h
theorem sliceApplied_of {sl : Addr} {vl vu : Value} {lo hi : Option Int} {n : Nat} {a b : Nat} {Q : Int × Int × Nat → Shared → Prop} (hs : s.heap.IsSliceOf sl vl vu .none) (pl : IsPart vl lo) (pu : IsPart vu hi)
    (e : Builtin.Slice.sliceAdjust lo hi 1 (n : Int) = ((a : Int), (b : Int))) (h : Q ((a : Int), 1, b - a) s) :
    wpAny (model prog w) A (Builtin.Slice.sliceApplied (.ref sl) (pure (n : Int))) Q E s := by
  obtain ⟨os, hos, hcs, hds⟩ := id hs
  unfold Builtin.Slice.sliceApplied Builtin.Slice.sliceFields
  refine wpAny_bind (wpAny_bind (wpAny_field hos hds (x := vl) rfl (wpAny_bind (wpAny_field hos hds (x := vu) rfl (wpAny_bind (wpAny_field hos hds (x := .none) rfl (wpAny_pure ?_)))))))
  refine wpAny_bind (slicePart_none ?_)
  show wpAny _ _ (if ((1 : Int) == 0) = true then _ else _) _ _ s
  rw [if_neg (by decide)]
  refine wpAny_bind (slicePart_of pl (wpAny_bind (slicePart_of pu (wpAny_bind (wpAny_pure ?_)))))
  show wpAny _ _ (match Builtin.Slice.sliceAdjust lo hi 1 (n : Int) with | (lo, hi) => pure (lo, (1 : Int), Builtin.Slice.slicePlaces lo hi 1)) _ _ s
  rw [e]
  show wpAny _ _ (pure ((a : Int), (1 : Int), Builtin.Slice.slicePlaces (a : Int) (b : Int) 1)) _ _ s
  have : Builtin.Slice.slicePlaces (a : Int) (b : Int) 1 = b - a := by
    unfold Builtin.Slice.slicePlaces
    have h1 : (1 : Int) > 0 := by first | lia | omega
    simp only [h1, if_true, Int.ediv_one]
    split <;> (first | lia | omega)
  rw [this]
  exact wpAny_pure h
theorem pick_cut (xs : Array Value) (a b : Nat) : ((List.range (b - a)).filterMap fun (k : Nat) => xs[((a : Int) + (k : Int) * 1).toNat]?).toArray = ((xs.toList.drop a).take (b - a)).toArray := by
  have e : (fun (k : Nat) => xs[((a : Int) + (k : Int) * 1).toNat]?) = fun k => xs[a + k]? := by
    funext k
    have : ((a : Int) + (k : Int) * 1).toNat = a + k := by first | lia | omega
    rw [this]
  rw [e]
  have := pick_run xs a (b - a)
  rw [List.filterMap_map] at this
  have e2 : ((fun x => xs[x]?) ∘ fun x => a + x) = fun k => xs[a + k]? := rfl
  rw [e2] at this
  rw [this]
theorem getItem_tup_cut {t sl : Addr} {items : Array Value} {k : Nat} {vl vu : Value} {lo hi : Option Int} {a b : Nat} {Q : Value → Shared → Prop} (ht : s.heap.get? t = some (tupObj items k)) (hs : s.heap.IsSliceOf sl vl vu .none)
    (pl : IsPart vl lo) (pu : IsPart vu hi) (e : Builtin.Slice.sliceAdjust lo hi 1 (items.size : Int) = ((a : Int), (b : Int))) (hb : b ≤ items.size) (hsz : items.size ≤ sizeLine)
    (h0 : a = 0 → b - a = items.size → Q (.ref t) s)
    (h : Q (.ref s.heap.objs.size) { s with heap := s.heap.push (tupObj ((items.toList.drop a).take (b - a)).toArray 0) }) : wpAny (model prog w) A (getItem (.ref t) (.ref sl)) Q E s := by
  have hit : IsTup s.heap t items := isTup_of ht
  have hdrop : sizeOk (.seq ((items.toList.drop a).take (b - a)).toArray) := by
    show ((items.toList.drop a).take (b - a)).toArray.size ≤ sizeLine
    rw [List.size_toArray, List.length_take, List.length_drop, Array.length_toList]
    first | lia | omega
  obtain ⟨os, hos, hcs, hds⟩ := id hs
  have hTs : s.TypeIs (.ref sl) "slice" := ⟨os, hos, hcs⟩
  unfold getItem
  try with_reducible refine wpAny_holding ?_
  first | refine wpAny_bind (wpAny_pure ?_) | skip
  refine wpAny_bind (wpAny_sequenceKey hit.typeIs (by decide) ?_)
  refine wpAny_bind (wpAny_callSpecial?_slot (name := Str.ofString "__getitem__") hit.typeIs slot_tuple_getitem
    (wpAny_call_entry slot_tuple_getitem hit.typeIs entry_tuple_getitem ?_ (args_tuple_getitem _ _)))
  show wpAny _ _ (Builtin.Tuple.tupleItemsOf (.ref t) >>= _) _ _ s
  refine wpAny_bind (tupleItemsOf_ hit ?_)
  refine wpAny_bind (wpAny_typeOf hTs ?_)
  rw [if_pos (by decide)]
  refine wpAny_bind (sliceApplied_of hs pl pu e ?_)
  show wpAny _ _ (if ((a : Int) == 0 && (1 : Int) == 1 && (b - a) == items.size) = true then _ else _) _ _ s
  by_cases hc : ((a : Int) == 0 && (1 : Int) == 1 && (b - a) == items.size) = true
  · rw [if_pos hc]
    simp at hc
    have hq := h0 (by first | lia | omega) (by first | lia | omega)
    unfold Builtin.Tuple.tupleIsExact
    refine wpAny_bind (wpAny_bind (wpAny_typeOf hit.typeIs (wpAny_pure ?_)))
    first
      | exact wpAny_bind (wpAny_rule (wpAny_pure ⟨_, rfl, wpAny_pure hq⟩))
      | exact wpAny_bind (wpAny_rule (wpAny_bind (wpAny_pure (wpAny_pure ⟨_, rfl, wpAny_pure hq⟩))))
  · rw [if_neg hc, pick_cut items a b]
    first
      | exact wpAny_bind (m := Builtin.Tuple.tupleExact _) (wpAny_newObj_type (wpAny_pure ⟨_, rfl, wpAny_pure h⟩) hdrop)
      | exact wpAny_bind (m := Builtin.Tuple.tupleExact _) (wpAny_newObj_type (wpAny_bind (wpAny_pure (wpAny_pure ⟨_, rfl, wpAny_pure h⟩))) hdrop)
      | exact wpAny_bind (wpAny_bind (m := Builtin.Tuple.tupleExact _) (wpAny_newObj_type (wpAny_pure (wpAny_pure ⟨_, rfl, wpAny_pure h⟩)) hdrop))
      | exact wpAny_bind (wpAny_bind (m := Builtin.Tuple.tupleExact _) (wpAny_newObj_type (wpAny_pure ⟨_, rfl, wpAny_pure h⟩) hdrop))
end
section
variable {cx : Cx} {F : Fm} {m : Loc} {H : AHeap} {s : Shared} {Q : Post} {X : XPost}
theorem adj_from (n : Nat) (k : Int) : Builtin.Slice.sliceAdjust (some k) none 1 (n : Int) = ((cutAt n k : Int), (n : Int)) := by
  unfold Builtin.Slice.sliceAdjust cutAt
  simp only [show ¬ ((1 : Int) < 0) by first | lia | omega, if_false]
  congr 1
  split <;> split <;> (first | lia | omega)
theorem adj_to (n : Nat) (k : Int) : Builtin.Slice.sliceAdjust none (some k) 1 (n : Int) = (((0 : Nat) : Int), (cutAt n k : Int)) := by
  unfold Builtin.Slice.sliceAdjust cutAt
  simp only [show ¬ ((1 : Int) < 0) by first | lia | omega, if_false]
  congr 1
  split <;> split <;> (first | lia | omega)

theorem repl_ints {cx : Cx} {h : Heap} : ∀ {vs : List Value} {ns : List Int}, IntsAre vs ns → RepL cx h vs (ns.map .int)
  | _, _, .nil => .nil
  | _, _, .cons _ _ r => .cons (.int _ _) (repl_ints r)
noncomputable def slObj (l u st : Value) : Obj := { cls := .type "slice", data := .fields #[l, u, st] }
theorem St.push {o : Obj} (t : St cx F m H s.heap) : St cx F m H (s.heap.push o) :=
  t.step (s := s) (s' := { s with heap := s.heap.push o }) (.grow (tk := s.toks) push_keeps fun _ _ _ e => e) (t.heap.grow push_keeps)
theorem slice_made {l u st : Value} {f : Value → Sem Value}
    (h : Ev (Rep cx) cx F (f (.ref s.heap.objs.size)) m H { s with heap := s.heap.push (slObj l u st) } Q X) : Ev (Rep cx) cx F (newFields "slice" [l, u, st] >>= f) m H s Q X := by
  refine wpAny_bind (wpAny_newObj_type ?_)
  exact h.older (.grow (tk := s.toks) push_keeps fun _ _ _ e => e)

theorem sfrom_ok {value slice : Expr} {v i : Value} {p q : PV} (hs : ∀ o i, subscripted slice false o i = operate [i, o] (getItem o i)) (rv : Rep cx s.heap v p) (ri : Rep cx s.heap i q) (t : St cx F m H s.heap) (h : FromW Q H p q) :
    Ev (Rep cx) cx F (subscriptTail value slice v (.ref s.heap.objs.size)) m H { s with heap := s.heap.push (slObj i .none .none) } Q X := by
  have hL : LIM = 1048576 := rfl
  have hL' := LIM_le
  have so : ∀ b o, s.heap.get? b = some o → Solid o → (s.heap.push (slObj i .none .none)).get? b = some o := fun b o e _ => push_keeps b o e
  have t' := t.push (o := slObj i .none .none)
  have hsl := Heap.IsSliceOf.new s.heap i .none .none
  replace rv := rv.mono so
  cases h with
  | tup h =>
    rename_i xs k
    obtain ⟨a, items, n, rfl, g, l, r⟩ := rv.tupI
    obtain ⟨u, rfl⟩ := ri.intI
    have hk := arr_len r
    refine tail_at (T := "tuple") ⟨_, g, rfl⟩ slot_tuple_getitem.lookup (getItem_tup_cut g hsl (.int _ _) .none (adj_from _ _) (Nat.le_refl _) (by first | lia | omega) (fun h1 h2 => ?_) ?_) (hs _ _)
    · refine .toks s.toks (.tup (xs := _) g l r) t' ?_
      rw [← hk, h1] at h; exact h
    · refine new_tup (tk := s.toks) (c := 0) t' push_keeps (Heap.get?_push_size _ rfl) ?_ ?_ h
      · rw [List.take_of_length_le (by simp), ← hk]; exact r.drop _
      · simp; first | lia | omega
  | str hz h =>
    rename_i x k
    obtain ⟨u, rfl⟩ := rv.strI
    obtain ⟨u, rfl⟩ := ri.intI
    refine tail_at (T := "str") (typeIs_str _ _ _) PySem.F.slot_str_getitem.lookup (wpAny_getItem_str_slice (l := some (k, u)) (u := none) (st := none) ⟨_, Heap.get?_push_size _ rfl, rfl, rfl⟩ rfl
      (post_val_or_str ⟨Nat.le_trans (Txt.slice_le x _ _) (by first | lia | omega), fun t'' k' => ?_⟩)) (hs _ _)
    show OkG _ _ _ _ _ _ _ (Value.str (Txt.slice x (some k) none) t'') _
    rw [str_from]; exact .toks _ (.str _ _) t' h
  | list ha h =>
      obtain rfl := Rep.objI rv
      obtain ⟨u, rfl⟩ := ri.intI
      obtain ⟨items, n, g, r, l⟩ := t'.list (s := { s with heap := _ }) ha
      have hk := arr_len r
      refine tail_at (T := "list") ⟨_, g, rfl⟩ slot_list_getitem.lookup (wpAny_getItem_list_slice (isList_of g) hsl (.int _ _) .none .none (by simp) ?_ (by first | lia | omega)) (hs _ _)
      refine new_list (tk := s.toks) (c := 0) t' push_keeps (get_size_none _) (Heap.get?_push_size _ rfl) ?_ ?_ h
      · rw [pick_from', hk]; exact r.drop _
      · simp; first | lia | omega

theorem rev_ok {value slice : Expr} {v : Value} {u : Tok} {p : PV} (hs : ∀ o i, subscripted slice false o i = operate [o, i] (getItem o i)) (rv : Rep cx s.heap v p) (t : St cx F m H s.heap) (h : RevW Q H p) :
    Ev (Rep cx) cx F (subscriptTail value slice v (.ref s.heap.objs.size)) m H { s with heap := s.heap.push (slObj .none .none (.int (-1) u)) } Q X := by
  have hL : LIM = 1048576 := rfl
  have hL' := LIM_le
  have t' := t.push (o := slObj .none .none (.int (-1) u))
  cases h with
  | list ha h =>
    obtain rfl := Rep.objI rv
    obtain ⟨items, n, g, r, l⟩ := t'.list (s := { s with heap := _ }) ha
    have hk := arr_len r
    refine tail_at (T := "list") ⟨_, g, rfl⟩ slot_list_getitem.lookup (wpAny_getItem_list_slice (isList_of g) (Heap.IsSliceOf.new s.heap .none .none (.int (-1) u)) .none .none (.int _ _) (by simp) ?_ (by first | lia | omega)) (hs _ _)
    refine new_list (tk := s.toks) (c := 0) t' push_keeps (get_size_none _) (Heap.get?_push_size _ rfl) ?_ ?_ h
    · rw [pick_rev]; exact r.reverse
    · simpa using l
theorem sto_ok {value slice : Expr} {v i : Value} {p q : PV} (hs : ∀ o i, subscripted slice false o i = operate [i, o] (getItem o i)) (rv : Rep cx s.heap v p) (ri : Rep cx s.heap i q) (t : St cx F m H s.heap) (h : ToW Q H p q) :
    Ev (Rep cx) cx F (subscriptTail value slice v (.ref s.heap.objs.size)) m H { s with heap := s.heap.push (slObj .none i .none) } Q X := by
  have hL : LIM = 1048576 := rfl
  have hL' := LIM_le
  have so : ∀ b o, s.heap.get? b = some o → Solid o → (s.heap.push (slObj .none i .none)).get? b = some o := fun b o e _ => push_keeps b o e
  have t' := t.push (o := slObj .none i .none)
  have hsl := Heap.IsSliceOf.new s.heap .none i .none
  replace rv := rv.mono so
  cases h with
  | tup h =>
    rename_i xs k
    obtain ⟨a, items, n, rfl, g, l, r⟩ := rv.tupI
    obtain ⟨u, rfl⟩ := ri.intI
    have hk := arr_len r
    have hc := cutAt_le items.size k
    refine tail_at (T := "tuple") ⟨_, g, rfl⟩ slot_tuple_getitem.lookup (getItem_tup_cut g hsl .none (.int _ _) (adj_to _ _) hc (by first | lia | omega) (fun h1 h2 => ?_) ?_) (hs _ _)
    · refine .toks s.toks (.tup (xs := _) g l r) t' ?_
      rw [List.take_of_length_le (by rw [← hk]; first | lia | omega)] at h; exact h
    · refine new_tup (tk := s.toks) (c := 0) t' push_keeps (Heap.get?_push_size _ rfl) ?_ ?_ h
      · rw [List.drop_zero, Nat.sub_zero, hk]; exact r.take _
      · simp; first | lia | omega
  | str hz h =>
    rename_i x k
    obtain ⟨u, rfl⟩ := rv.strI
    obtain ⟨u, rfl⟩ := ri.intI
    refine tail_at (T := "str") (typeIs_str _ _ _) PySem.F.slot_str_getitem.lookup (wpAny_getItem_str_slice (l := none) (u := some (k, u)) (st := none) ⟨_, Heap.get?_push_size _ rfl, rfl, rfl⟩ rfl
      (post_val_or_str ⟨Nat.le_trans (Txt.slice_le x _ _) (by first | lia | omega), fun t'' k' => ?_⟩)) (hs _ _)
    show OkG _ _ _ _ _ _ _ (Value.str (Txt.slice x none (some k)) t'') _
    rw [str_to]; exact .toks _ (.str _ _) t' h
  | fls h =>
    obtain ⟨a, items, rfl, g, ii, l⟩ := rv.flsI
    obtain ⟨u, rfl⟩ := ri.intI
    have hk := ints_len ii
    rw [Array.length_toList] at hk
    have g' := isList_up g t'.base
    refine tail_at (T := "list") g'.typeIs slot_list_getitem.lookup (wpAny_getItem_list_slice g' hsl .none (.int _ _) .none (by simp) ?_ (by first | lia | omega)) (hs _ _)
    refine new_list (tk := s.toks) (c := 0) t' push_keeps (get_size_none _) (Heap.get?_push_size _ rfl) ?_ ?_ h
    · rw [pick_to', hk]; exact repl_ints (ii.take _)
    · simp; first | lia | omega
  | list ha h =>
      obtain rfl := Rep.objI rv
      obtain ⟨u, rfl⟩ := ri.intI
      obtain ⟨items, n, g, r, l⟩ := t'.list (s := { s with heap := _ }) ha
      have hk := arr_len r
      refine tail_at (T := "list") ⟨_, g, rfl⟩ slot_list_getitem.lookup (wpAny_getItem_list_slice (isList_of g) hsl .none (.int _ _) .none (by simp) ?_ (by first | lia | omega)) (hs _ _)
      refine new_list (tk := s.toks) (c := 0) t' push_keeps (get_size_none _) (Heap.get?_push_size _ rfl) ?_ ?_ h
      · rw [pick_to', hk]; exact r.take _
      · simp; first | lia | omega
end
end Mine
end
section
open PySem PySem.Calls PyProof.Rows
namespace Mine
set_option autoImplicit false

noncomputable def Blt.val : Blt → Value
  | .len => .builtin "len" | .list => .type "list" | .tuple => .type "tuple" | .range => .type "range" | .max => .builtin "max" | .min => .builtin "min" | .int => .type "int" | .str => .type "str"
  | .all => .builtin "all" | .any => .builtin "any" | .abs => .builtin "abs"

section
variable {cx : Cx} {F : Fm} {m : Loc} {H : AHeap} {s : Shared} {Q : Post} {X : XPost}

theorem list_ok {a : Addr} {T : String} {o : Obj} {items : Array Value} {n : Nat} {xs : List PV} (hT : T = "list" ∨ T = "tuple") (g : s.heap.get? a = some o) (hc : o.cls = .type T) (hd : o.data = .seq items n) (r : RepL cx s.heap items.toList xs) (l : xs.length ≤ LIM)
    (t : St cx F m H s.heap) (h : alloc (.list xs) Q H) : Ev (Rep cx) cx F (call (.type "list") [.ref a]) m H s Q X := by
  have hk := arr_len r
  have hL' := LIM_le
  exact call_list_seq a hT g hc hd (fun h' c' gr e => new_list (tk := s.toks) t gr (get_size_none _) e r l h) (by first | lia | omega)

theorem strs_of_keys {h : Heap} : ∀ {vs : List (Str × Value)} {ps : List (Str × PV)} {zs : List Value}, RepK cx h vs ps → zs.length = vs.length →
    (∀ (j : Nat) v, zs[j]? = some v → ∃ k x, vs[j]? = some (k, x) ∧ cx.sk.is k v = true) → RepL cx h zs (ps.map fun x => .str x.1)
  | _, _, [], .nil, _, _ => .nil
  | _, _, [], .cons _ _, e, _ => by simp at e
  | _, _, z :: zs, .nil, e, _ => by simp at e
  | _, _, z :: zs, .cons a r, e, f => by
    refine .cons ?_ (strs_of_keys r (by simpa using e) fun j v q => by simpa using f (j + 1) v (by simpa using q))
    obtain ⟨k, x, h1, h2⟩ := f 0 z rfl
    simp at h1
    obtain ⟨rfl, rfl⟩ := h1
    obtain ⟨t, rfl⟩ := Value.isStrOf_shape h2
    exact .str _ _

theorem bltW_to {b : Blt} {ps : List PV} (h : bltW b ps Q H) : BltW Q H b ps := h.to fun u e k => by
  unfold bltF at e
  split at e
  · unfold blt1 at e
    split at e
    · split at e <;> cases e
      · exact .lenT _ k
      · exact .tupT _ k
    · split at e <;> cases e
      exact .lenF _ k
    · split at e <;> cases e
      exact .intB _ k
    · cases e
  · unfold blt2 at e
    split at e
    · split at e
      · split at e <;> cases e
        · exact .max _ _ k
        · exact .min _ _ k
      · cases e
    · cases e
  · cases e
theorem blt_ok {b : Blt} {vs : List Value} {ps : List PV} (hh : F.A.handled = none) (r : RepL cx s.heap vs ps) (t : St cx F m H s.heap) (h : bltW b ps Q H) : Ev (Rep cx) cx F (call b.val vs []) m H s Q X := by
  have hL : LIM = 1048576 := rfl
  have hL' := LIM_le
  replace h := bltW_to h
  cases h with
  | lenT xs h =>
    obtain ⟨_, rfl, rv⟩ := r.one
    obtain ⟨a, items, n, rfl, g, l, r⟩ := rv.tupI
    have hk := arr_len r
    refine P.len_tuple g (by first | lia | omega) (.toks _ ?_ t h)
    rw [hk]; exact .int _ _
  | lenS x l h =>
    obtain ⟨_, rfl, rv⟩ := r.one
    obtain ⟨u, rfl⟩ := rv.strI
    exact PyProof.Rows.len_str (by first | lia | omega) (.toks _ (.int _ _) t h)
  | lenF xs h =>
    obtain ⟨_, rfl, rv⟩ := r.one
    obtain ⟨a, items, rfl, g, ii, l⟩ := rv.flsI
    have hk := ints_len ii
    rw [Array.length_toList] at hk
    refine call_len_list (isList_up g t.base) (by first | lia | omega) (.toks _ ?_ t h)
    rw [hk]; exact .int _ _
  | lenL a xs ha h =>
    obtain ⟨_, rfl, rv⟩ := r.one
    obtain rfl := Rep.objI rv
    obtain ⟨items, n, g, r, l⟩ := t.list ha
    have hk := arr_len r
    refine call_len_list (isList_of g) (by first | lia | omega) (.toks _ ?_ t h)
    rw [hk]; exact .int _ _
  | lenD a kvs ha h =>
    obtain ⟨_, rfl, rv⟩ := r.one
    obtain rfl := Rep.objI rv
    obtain ⟨vs, d, r, l, hn⟩ := t.dict ha
    have hk := r.length
    refine call_len_dict hn d (by first | lia | omega) (.toks _ ?_ t h)
    rw [hk]; exact .int _ _
  | listT xs h =>
    obtain ⟨_, rfl, rv⟩ := r.one
    obtain ⟨a, items, n, rfl, g, l, r⟩ := rv.tupI
    exact list_ok (.inr rfl) g rfl rfl r l t h
  | listL a xs ha h =>
    obtain ⟨_, rfl, rv⟩ := r.one
    obtain rfl := Rep.objI rv
    obtain ⟨items, n, g, r, l⟩ := t.list ha
    exact list_ok (.inl rfl) g rfl rfl r l t h
  | listD a kvs ha h =>
    obtain ⟨_, rfl, rv⟩ := r.one
    obtain rfl := Rep.objI rv
    obtain ⟨vs, d, r, l, hn⟩ := t.dict ha
    obtain ⟨ep, d'⟩ := d.dictAt
    have hk := r.length
    refine PySem.W.kdl_call (PySem.W.kdl_dict (knd := cx.sk) hn) hh d' (by first | lia | omega) fun h' tk acc c gr e it => ?_
    refine new_list t gr (get_size_none _) e (strs_of_keys r ?_ fun j v q => ?_) (by simpa using l) h
    · rw [Array.length_toList]; exact it.1
    · exact it.2 j v (by rw [← Array.getElem?_toList]; exact q)
  | tupT xs h =>
    obtain ⟨_, rfl, rv⟩ := r.one
    obtain ⟨a, items, n, rfl, g, l, r⟩ := rv.tupI
    exact call_tuple_same (isTuple_of g) (.toks s.toks (.tup g l r) t h)
  | tupL a xs ha h =>
    obtain ⟨_, rfl, rv⟩ := r.one
    obtain rfl := Rep.objI rv
    obtain ⟨items, n, g, r, l⟩ := t.list ha
    have hk := arr_len r
    refine call_tuple_list (isList_of g) (fun h' gr => ?_) (by first | lia | omega)
    exact new_tup (tk := s.toks) (c := 0) t (fun b o e => push_keeps b o (gr b o e)) (Heap.get?_push_size _ rfl) r l h
  | range n k h =>
    obtain ⟨_, rfl, rv⟩ := r.one
    obtain ⟨u, rfl⟩ := rv.intI
    exact call_range_1 (.grow push_keeps (.rng (Heap.get?_push_size _ rfl) k) t h)
  | max a b h =>
    obtain ⟨_, _, rfl, ra, rb⟩ := r.two
    obtain ⟨u, rfl⟩ := ra.intI
    obtain ⟨v, rfl⟩ := rb.intI
    refine max_two_ints hh fun h' tk g => ?_
    refine .grow g ?_ t h
    split <;> exact .int _ _
  | min a b h =>
    obtain ⟨_, _, rfl, ra, rb⟩ := r.two
    obtain ⟨u, rfl⟩ := ra.intI
    obtain ⟨v, rfl⟩ := rb.intI
    refine min_two_ints hh fun h' tk g => ?_
    refine .grow g ?_ t h
    split <;> exact .int _ _
  | intB b h =>
    obtain ⟨_, rfl, rv⟩ := r.one
    obtain rfl := Rep.boolI rv
    exact call_int_bool (.toks _ (.int _ _) t h)
  | intI i h =>
    obtain ⟨_, rfl, rv⟩ := r.one
    obtain ⟨u, rfl⟩ := rv.intI
    exact call_int_int (.toks s.toks (.int _ _) t h)
  | strI i k h =>
    obtain ⟨_, rfl, rv⟩ := r.one
    obtain ⟨u, rfl⟩ := rv.intI
    refine P.str_of_int ?_ (.toks _ (.str _ _) t h)
    by_cases z : i.natAbs = 0
    · rw [z]; decide
    · exact Nat.lt_of_lt_of_le ((Nat.log2_lt z).mpr (Nat.lt_of_lt_of_le k (by decide : (10 : Nat) ^ 18 ≤ 2 ^ 60))) (by decide)
  | abs i h =>
    obtain ⟨_, rfl, rv⟩ := r.one
    obtain ⟨u, rfl⟩ := rv.intI
    refine call_abs_int fun u' tk => .toks _ ?_ t h
    rw [show (if i < 0 then -i else i) = (i.natAbs : Int) by split <;> (first | lia | omega)]
    exact .int _ _
end
end Mine
end
section
open PySem PySem.Calls PyProof.Rows
namespace Mine
set_option autoImplicit false

noncomputable def ICls.T : ICls → Option String
  | .str => some "str" | .list => some "list" | .tuple => some "tuple" | .bool => some "bool" | .int => some "int" | _ => none

section
variable {cx : Cx} {F : Fm} {m : Loc} {H : AHeap} {s : Shared} {K : Bool → Prop} {X : XPost}
theorem inEmpty (h : Heap) : PySem.W.Frag.In [] h := fun _ _ e => nomatch e

theorem isiW_to {c : ICls} {p : PV} (h : isiW c p K H) : IsiW K H c p := h.to fun b e k => by
  unfold isiF at e
  split at e
  · split at e <;> cases e
    · exact .own k
    · exact .value k
  · split at e
    · split at e
      · cases e; exact .val (by assumption) (by assumption) k
      · cases e
    · cases e
theorem isi_val {c : ICls} {T : String} {v : Value} {p : PV} {n : Nat} {Q : Post} (hT : c.T = some T) (rv : Rep cx s.heap v p) (t : St cx F m H s.heap) (e : tagOf p = some n) (h : Q (.bool (c.hits n)) H) :
    Ev (Rep cx) cx F (call (.builtin "isinstance") [v, .type T]) m H s Q X := by
  cases rv <;> cases e
  · exact PySem.W.kia_one PySem.W.kitx_none (inEmpty _) trivial (by cases c <;> cases hT <;> decide +kernel) (by cases c <;> cases hT <;> simp) fun tk => .toks tk (.bool _) t h
  · exact PySem.W.kia_one PySem.W.kitx_bool (inEmpty _) trivial (by cases c <;> cases hT <;> decide +kernel) (by cases c <;> cases hT <;> simp) fun tk => .toks tk (.bool _) t h
  · exact PySem.W.kia_one PySem.W.kitx_int (inEmpty _) trivial (by cases c <;> cases hT <;> decide +kernel) (by cases c <;> cases hT <;> simp) fun tk => .toks tk (.bool _) t h
  · exact PySem.W.kia_one PySem.W.kitx_str (inEmpty _) trivial (by cases c <;> cases hT <;> decide +kernel) (by cases c <;> cases hT <;> simp) fun tk => .toks tk (.bool _) t h
  · exact PySem.W.kia_one PySem.W.kitx_tuple (inEmpty _) ⟨_, by assumption, rfl⟩ (by cases c <;> cases hT <;> decide +kernel) (by cases c <;> cases hT <;> simp) fun tk => .toks tk (.bool _) t h
theorem isi_list {c : ICls} {T : String} {a : Addr} {xs : List PV} {Q : Post} (hT : c.T = some T) (t : St cx F m H s.heap) (ha : H a = some (.list xs)) (h : Q (.bool (c.hits 5)) H) :
    Ev (Rep cx) cx F (call (.builtin "isinstance") [.ref a, .type T]) m H s Q X := by
  obtain ⟨items, n, g, r, l⟩ := t.list ha
  cases c <;> cases hT <;> exact PySem.W.kia_one PySem.W.kitx_list (inEmpty _) ⟨_, g, rfl⟩ (by decide +kernel) (by simp) fun tk => .toks tk (.bool _) t h
end
end Mine
end
section
open PySem PySem.Calls PyProof.Rows
namespace Mine
set_option autoImplicit false
open SeqAt (EqAt RcAt RcNeAt)

noncomputable def Meth.id : Meth → String
  | .append => "list.append" | .pop => "list.pop" | .dpop => "dict.pop" | .insert => "list.insert" | .count => "list.count" | .join => "str.join"
noncomputable def Meth.ty : Meth → String
  | .append => "list" | .pop => "list" | .dpop => "dict" | .insert => "list" | .count => "list" | .join => "str"

section
variable {cx : Cx} {F : Fm} {m : Loc} {H : AHeap} {s : Shared} {Q : Post} {X : XPost}

theorem lst_update {h : Heap} {l : Addr} {items : Array Value} {n : Nat} (x : h.get? l = some (lstObj items n)) (f : Array Value → Array Value) :
    ∃ n', (h.update l (Obj.mapSeq f)).get? l = some (lstObj (f items) n') := ⟨_, Heap.get?_update_self _ x rfl⟩
theorem upd_keeps {h : Heap} {l : Addr} {f : Obj → Obj} : ∀ b o, b ≠ l → h.get? b = some o → (h.update l f).get? b = some o := fun _ _ n e => (Heap.get?_update_other h f (Ne.symm n)).trans e

/-- a list's row put anew -/
theorem put_list {α β : Type} {R : Heap → α → β → Prop} {Q : β → AHeap → Prop} {l : Addr} {items : Array Value} {n : Nat} {xs ys : List PV} {f : Array Value → Array Value} {v : α} {p : β} {tk : Nat} (t : St cx F m H s.heap) (ha : H l = some (.list xs)) (g : s.heap.get? l = some (lstObj items n))
    (r : RepL cx s.heap (f items).toList ys) (ly : ys.length ≤ LIM) (rv : ∀ h', (∀ b o, s.heap.get? b = some o → Solid o → h'.get? b = some o) → R h' v p) (q : Q p (upd H l (.list ys))) :
    OkG R cx F m H s Q v { s with heap := s.heap.update l (Obj.mapSeq f), toks := tk } := by
  have so : ∀ b o, s.heap.get? b = some o → Solid o → (s.heap.update l (Obj.mapSeq f)).get? b = some o := fun b o e so => upd_keeps b o (by
    rintro rfl; rw [g] at e; cases e
    rcases so with ⟨i, n, q⟩ | ⟨n, t, u, v, q⟩ | ⟨⟨C, q⟩, _⟩ <;> simp [lstObj, tupObj, rngObj] at q) e
  obtain ⟨n', g'⟩ := lst_update g f
  have ro : RepO cx (s.heap.update l (Obj.mapSeq f)) l (.list ys) := ⟨f items, n', g', r.mono so, ly⟩
  exact .put ha upd_keeps (rv _ so) ro t q

theorem bools_rep {h : Heap} : ∀ {vs : List Value} {bs : List Bool}, RepL cx h vs (bs.map .bool) → vs = bs.map .bool
  | _, [], r => by cases r; rfl
  | _, b :: bs, r => by
    cases r with
    | cons a r => rw [a.boolI, bools_rep r]; rfl
theorem strs_rep {h : Heap} : ∀ {vs : List Value} {ss : List Str}, RepL cx h vs (ss.map .str) → StrsAre vs ss
  | _, [], r => by cases r; exact .nil
  | _, b :: bs, r => by
    cases r with
    | cons a r => obtain ⟨t, rfl⟩ := a.strI; exact .cons _ _ (strs_rep r)

noncomputable def isB (b : Bool) : Value → Bool
  | .bool c => c == b
  | _ => false
theorem count_isB (b : Bool) : ∀ bs : List Bool, (bs.map Value.bool).countP (isB b) = bs.count b
  | [] => rfl
  | c :: bs => by rw [List.map_cons, List.countP_cons, count_isB b bs, List.count_cons]; rfl

theorem meth_ok {k : Meth} {v : Value} {p : PV} {vs : List Value} {ps : List PV} (rv : Rep cx s.heap v p) (r : RepL cx s.heap vs ps) (t : St cx F m H s.heap) (h : methW k p ps Q H) : Ev (Rep cx) cx F (call (.builtin k.id) (v :: vs) []) m H s Q X := by
  have hL : LIM = 1048576 := rfl
  have hL' := LIM_le
  cases h with
  | append a xs x ha hlt h =>
    obtain ⟨_, rfl, rx⟩ := r.one
    (first | (obtain ⟨_, rfl⟩ := Rep.intI rv) | (obtain ⟨_, rfl⟩ := Rep.strI rv) | (obtain rfl := Rep.objI rv) | (obtain rfl := Rep.boolI rv) | (obtain rfl := Rep.noneI rv))
    obtain ⟨items, n, g, r, l⟩ := t.list ha
    have hk := arr_len r
    refine call_meets PySem.F.slot_list_append ⟨_, g, rfl⟩ PySem.F.entry_list_append (PySem.F.args_list_append_2 _ _) (list_append _ items n _ (by first | lia | omega)) ⟨g, ?_⟩
    exact put_list (R := Rep cx) (f := fun xs => xs.push _) t ha g (by simpa using r.append (.cons rx .nil)) (by simp; first | lia | omega) (fun _ _ => .none) (mutate_use h)
  | pop a ys x ha h =>
    obtain rfl := r.zero
    (first | (obtain ⟨_, rfl⟩ := Rep.intI rv) | (obtain ⟨_, rfl⟩ := Rep.strI rv) | (obtain rfl := Rep.objI rv) | (obtain rfl := Rep.boolI rv) | (obtain rfl := Rep.noneI rv))
    obtain ⟨items, n, g, r, l⟩ := t.list ha
    have hk := arr_len r
    simp only [List.length_append, List.length_cons, List.length_nil] at hk l
    obtain ⟨y, hy, ry⟩ := r.get (i := ys.length) (p := x) (by simp)
    rw [Array.getElem?_toList] at hy
    refine call_meets PySem.F.slot_list_pop ⟨_, g, rfl⟩ PySem.F.entry_list_pop (PySem.F.args_list_pop_1 _) (MeetsSeq.list_pop_last _ items n y (by rw [hk]; simpa using hy) (by first | lia | omega)) ⟨g, ?_⟩
    refine put_list (R := Rep cx) (f := fun xs => xs.eraseIdxIfInBounds (items.size - 1)) t ha g ?_ (by first | lia | omega) (fun _ so => ry.mono so) (mutate_use h)
    have e : (items.eraseIdxIfInBounds (items.size - 1)).toList = items.toList.take ys.length := by
      rw [Array.toList_eraseIdxIfInBounds, hk]
      rw [List.eraseIdx_eq_take_drop_succ]
      simp [List.drop_eq_nil_of_le, hk]
    rw [e]
    have := r.take ys.length
    simpa using this
  | insert a xs i x ha h0 h1 h2 h =>
    obtain ⟨_, _, rfl, ri, rx⟩ := r.two
    (first | (obtain ⟨_, rfl⟩ := Rep.intI rv) | (obtain ⟨_, rfl⟩ := Rep.strI rv) | (obtain rfl := Rep.objI rv) | (obtain rfl := Rep.boolI rv) | (obtain rfl := Rep.noneI rv))
    obtain ⟨u, rfl⟩ := ri.intI
    obtain ⟨items, n, g, r, l⟩ := t.list ha
    have hk := arr_len r
    refine call_meets PySem.F.slot_list_insert ⟨_, g, rfl⟩ PySem.F.entry_list_insert (PySem.F.args_list_insert_3 _ _ _) (AutoSeq1.list_insert_list_int_val_1 _ items n _ u _ ?_ (by first | lia | omega)) ⟨g, ?_⟩
    · unfold Builtin.List.listFitsIndex
      simp
      first | lia | omega
    refine put_list (R := Rep cx) (f := fun xs => have k := if i < 0 then (i + (xs.size : Int)).toNat else min i.toNat xs.size; (xs.extract 0 k).push _ ++ xs.extract k) t ha g ?_ (by simp; first | lia | omega) (fun _ _ => .none) (mutate_use h)
    have e : (if i < 0 then (i + (items.size : Int)).toNat else min i.toNat items.size) = i.toNat := by rw [if_neg (by first | lia | omega)]; first | lia | omega
    simp only [e]
    simp only [Array.toList_append, Array.toList_push, Array.toList_extract, List.extract_eq_take_drop]
    simp only [Nat.sub_zero, List.drop_zero, List.append_assoc, List.singleton_append]
    rw [show (List.drop i.toNat items.toList).take (items.size - i.toNat) = List.drop i.toNat items.toList by rw [List.take_of_length_le]; simp]
    exact (r.take _).append (.cons rx (r.drop _))
  | count a bs b ha h =>
    obtain ⟨_, rfl, rx⟩ := r.one
    (first | (obtain ⟨_, rfl⟩ := Rep.intI rv) | (obtain ⟨_, rfl⟩ := Rep.strI rv) | (obtain rfl := Rep.objI rv) | (obtain rfl := Rep.boolI rv) | (obtain rfl := Rep.noneI rv)); (first | (obtain ⟨_, rfl⟩ := Rep.intI rx) | (obtain ⟨_, rfl⟩ := Rep.strI rx) | (obtain rfl := Rep.objI rx) | (obtain rfl := Rep.boolI rx) | (obtain rfl := Rep.noneI rx))
    obtain ⟨items, n, g, r, l⟩ := t.list ha
    have hv := bools_rep r
    refine call_meets PySem.F.slot_list_count ⟨_, g, rfl⟩ PySem.F.entry_list_count (PySem.F.args_list_count_2 _ _) (SeqAt.list_countAt _ items n none #[] (.bool b) (isB b)) ⟨g, fun y hy => ?_, ?_⟩
    · have : y ∈ bs.map Value.bool := by rw [← hv]; simpa using hy
      obtain ⟨c, _, rfl⟩ := List.mem_map.mp this
      exact EqAt.bool_bool c b
    · rw [hv, count_isB]
      exact .toks _ (.int _ _) t h
  | join sep a ss ha h0 hs h =>
    obtain ⟨_, rfl, rx⟩ := r.one
    obtain ⟨u, rfl⟩ := rv.strI
    (first | (obtain ⟨_, rfl⟩ := Rep.intI rx) | (obtain ⟨_, rfl⟩ := Rep.strI rx) | (obtain rfl := Rep.objI rx) | (obtain rfl := Rep.boolI rx) | (obtain rfl := Rep.noneI rx))
    obtain ⟨items, n, g, r, l⟩ := t.list ha
    refine join_list (isList_of g) (strs_rep r) (by rw [h0]; first | lia | omega) fun t' k => ?_
    rw [show Txt.join _ ss = Str.join _ ss from StrLaws.glued_eq_join _ _]
    exact .toks _ (.str _ _) t h
end
end Mine
end
section
open PySem PySem.Calls PyProof.Rows
namespace Mine
set_option autoImplicit false

section
variable {prog : Program} {w : World} {A : Around} {E : Value → Shared → Prop} {s : Shared}
theorem set_lst0 {l : Addr} {items : Array Value} {n : Nat} {k : Int} {t : Tok} {v : Value} {Q : Unit → Shared → Prop} (g : s.heap.get? l = some (lstObj items n))
    (h0 : 0 ≤ k) (hfit : k < 2 ^ 63) (hn : k < items.size) (hQ : Q () { s with heap := s.heap.update l (Obj.mapSeq (·.setIfInBounds k.toNat v)) }) :
    wpAny (model prog w) A (setItem (.ref l) (.int k t) v) Q E s := by
  have hl := isList_of g
  unfold setItem
  try with_reducible refine wpAny_holding ?_
  first | refine wpAny_bind (wpAny_pure ?_) | skip
  refine wpAny_bind (wpAny_sequenceKey hl.typeIs (by decide) ?_)
  refine wpAny_bind (wpAny_callSpecial?_slot (name := Str.ofString "__setitem__") hl.typeIs slot_list_setitem
    (wpAny_call_entry slot_list_setitem hl.typeIs entry_list_setitem ?_ (args_list_setitem _ _ _)))
  show wpAny _ _ (Builtin.List.listSubscript? (.int k t) >>= _) _ _ s
  refine wpAny_bind (wpAny_listSubscript_int (fitsIndex_of h0 hfit) ?_)
  clear hfit
  obtain ⟨j, rfl⟩ := Int.eq_ofNat_of_zero_le h0
  have hn : j < items.size := by first | lia | omega
  show wpAny _ _ ((seqItemAt l j >>= fun r => pure (r.map (j, ·))) >>= _) _ _ s
  refine wpAny_bind (wpAny_bind (wpAny_seqItemAt g rfl (wpAny_pure ?_)))
  rw [show items[j]? = some items[j] from Array.getElem?_eq_getElem hn]
  show wpAny _ _ (setSeqItemAt l j v >>= _) _ _ s
  refine wpAny_bind (wpAny_setSeqItemAt g rfl ?_)
  first
    | exact wpAny_bind (wpAny_pure (wpAny_pure ⟨.none, rfl, wpAny_pure hQ⟩))
    | exact wpAny_pure ⟨.none, rfl, wpAny_pure hQ⟩
end

section
variable {cx : Cx} {F : Fm} {m : Loc} {H : AHeap} {s : Shared} {Q : Post} {X : XPost}

theorem RepK.any {h : Heap} {k : Str} : ∀ {vs : List (Str × Value)} {ps : List (Str × PV)}, RepK cx h vs ps → vs.any (fun kv => decide (kv.1 = k)) = ps.any (fun kv => decide (kv.1 = k))
  | _, _, .nil => rfl
  | _, _, .cons _ r => by simp only [List.any_cons]; rw [RepK.any r]
theorem RepK.map {h : Heap} {k : Str} {v : Value} {p : PV} (r : Rep cx h v p) : ∀ {vs : List (Str × Value)} {ps : List (Str × PV)}, RepK cx h vs ps →
    RepK cx h (vs.map fun kv => if kv.1 = k then (kv.1, v) else kv) (ps.map fun kv => if kv.1 = k then (kv.1, p) else kv)
  | _, _, .nil => .nil
  | _, _, .cons (k := k') a rs => by
    simp only [List.map_cons]
    by_cases q : k' = k
    · simp only [q, if_true]; exact .cons r (RepK.map r rs)
    · simp only [q, if_false]; exact .cons a (RepK.map r rs)
theorem RepK.snoc {h : Heap} {k : Str} {v : Value} {p : PV} (r : Rep cx h v p) : ∀ {vs : List (Str × Value)} {ps : List (Str × PV)}, RepK cx h vs ps → RepK cx h (vs ++ [(k, v)]) (ps ++ [(k, p)])
  | _, _, .nil => .cons r .nil
  | _, _, .cons a rs => .cons a (RepK.snoc r rs)
theorem RepK.dset {h : Heap} {k : Str} {v : Value} {p : PV} {vs : List (Str × Value)} {ps : List (Str × PV)} (rs : RepK cx h vs ps) (r : Rep cx h v p) : RepK cx h (stored vs k v) (dset ps k p) := by
  unfold stored Mine.dset
  rw [RepK.any rs]
  split
  · exact RepK.map r rs
  · exact RepK.snoc r rs
theorem dset_length_le {α : Type} (kvs : List (Str × α)) (k : Str) (v : α) : (dset kvs k v).length ≤ kvs.length + 1 := by
  unfold dset; split <;> simp

theorem SameBut.keeps {h h' : Heap} {a : Addr} (x : Heap.SameBut a h h') : ∀ b o, b ≠ a → h.get? b = some o → h'.get? b = some o := fun b o n e => by
  have := x.2 b n
  rw [this]; exact e

theorem store_ok {v i x : Value} {p q y : PV} {K : AHeap → Prop} (rv : Rep cx s.heap v p) (ri : Rep cx s.heap i q) (rx : Rep cx s.heap x y) (t : St cx F m H s.heap) (h : StoreW K H p q y) :
    Ev (fun _ (_ : Unit) (_ : Unit) => True) cx F (setItem v i x) m H s (fun _ H => K H) X := by
  have hL : LIM = 1048576 := rfl
  have hL' := LIM_le
  cases h with
  | list ha h0 h1 h =>
    rename_i a xs k
    obtain rfl := Rep.objI rv
    obtain ⟨u, rfl⟩ := ri.intI
    obtain ⟨items, n, g, r, l⟩ := t.list ha
    have hk := arr_len r
    refine set_lst0 g h0 (by first | lia | omega) (by first | lia | omega) ?_
    exact put_list (p := ()) (tk := s.toks) (f := (·.setIfInBounds k.toNat x)) t ha g (by simpa using r.set k.toNat rx) (by simp; first | lia | omega) (fun _ _ => trivial) (mutate_use h)
  | dict ha h1 h =>
    rename_i a kvs k
    obtain rfl := Rep.objI rv
    obtain ⟨u, rfl⟩ := ri.strI
    obtain ⟨vs, d, r, l, hn⟩ := t.dict ha
    have hk := r.length
    refine wpAny_setItem_pairs (knd := cx.sk) (k := k) (by simp [Cx.sk, PySem.strKind, Value.isStrOf]) d (fun h' d' sb => ?_) (by first | lia | omega)
    have hs := SameBut.keeps sb
    have so : ∀ b o, s.heap.get? b = some o → Solid o → h'.get? b = some o := fun b o e so => hs b o (by
      rintro rfl
      obtain ⟨ob, e', n, _⟩ := (t.heap _ _ ha).get; rw [e] at e'; cases e'; exact n so) e
    have ro : RepO cx h' a (.dict (dset kvs k y)) := ⟨_, d', (r.dset rx).mono so, Nat.le_trans (dset_length_le ..) (by first | lia | omega), hn⟩
    exact .put (b := ()) ha hs trivial ro t (mutate_use h)
  | tape ha h0 h =>
    rename_i a n0 j
    obtain rfl := Rep.objI rv
    obtain ⟨u, rfl⟩ := ri.intI
    obtain ⟨u', rfl⟩ := rx.intI
    obtain ⟨tt, n, g⟩ := t.heap _ _ ha
    obtain ⟨j, rfl⟩ := Int.eq_ofNat_of_zero_le h0
    refine set_lst0 g (by first | lia | omega) (by first | lia | omega) (by simp) ?_
    obtain ⟨n', g'⟩ := lst_update g (·.setIfInBounds 0 (.int j u'))
    have ro : RepO cx (s.heap.update a (Obj.mapSeq (·.setIfInBounds 0 (.int j u')))) a (.tape j) := ⟨u', n', by simpa using g'⟩
    exact .put (b := ()) (tk := s.toks) ha upd_keeps trivial ro t (mutate_use h)
end
end Mine
end
section
open PySem PySem.Calls PyProof.Rows
namespace Mine
set_option autoImplicit false

/-! static facts -/
abbrev Kd := Str → Option NameKind
noncomputable def onms : List (Str × Nat) := [("StackError", 0), ("Empty", 1), ("WrongKind", 2), ("NoBlock", 3), ("Apart", 4)]
noncomputable def onm (x : Str) : Option Nat := onms.lookup x
noncomputable def relab (kd : Kd) (sc : Scope) : Kd := fun x => (sc.names.map fun (n, k) => if (k == .free && kd n == some .cell) then (n, .cell) else (n, k)).lookup x
noncomputable def isVar (kd : Kd) (x : Str) : Bool := kd x == some .local || kd x == some .cell || kd x == some .free
noncomputable def isGlob (kd : Kd) (x : Str) : Bool := kd x == some .globalImplicit && !(x == ("__debug__" : Str))
noncomputable def visC (kd' : Kd) (nm : List Str) (vis : Nat → Bool) (x : Nat) : Nat → Bool := fun i => i == x || (vis i && (kd' (slot nm i) == some .cell || kd' (slot nm i) == some .free))
noncomputable def scOk (kd kd' : Kd) (sc : Scope) (x : Str) : Bool := decide (sc.kind = .function) && !sc.isGenerator && !sc.isCoroutine && sc.names.all (fun p => p.2 != .cell) && sc.names.all (fun p => p.2 != .local || sc.names.lookup p.1 == some .local)
  && sc.names.all (fun p => p.2 != .free || kd p.1 == some .cell || kd p.1 == some .free) && kd' x == some .local && !(x == ("__debug__" : Str))
noncomputable def blbase : AE → Bool
  | .call _ .nil _ _ => false
  | .blt _ .nil _ _ => false
  | _ => true
noncomputable def iclsOk (kd : Kd) : ICls → Bool
  | .str => isGlob kd "str" | .list => isGlob kd "list" | .tuple => isGlob kd "tuple" | .bool => isGlob kd "bool" | .int => isGlob kd "int"
  | .intstr => isGlob kd "int" && isGlob kd "str" | .value => isGlob kd "ValueError" | .own c x => isGlob kd x && onm x == some c
noncomputable def AEs.len : AEs → Nat
  | .nil => 0
  | .cons _ es => es.len + 1
noncomputable def AEs.lits : AEs → Bool
  | .nil => true
  | .cons (.lit _ _ _) es => es.lits
  | .cons _ _ => false
section
variable (fl : List Str) (nm : List Str)
mutual
noncomputable def okE (q : Bool) (vis : Nat → Bool) (kd : Kd) : AE → Bool
  | .lit _ _ _ => true
  | .var i _ => vis i && isVar kd (slot nm i) && !(slot nm i == ("__debug__" : Str)) && !(slot nm i == ("__classdict__" : Str))
  | .glob x _ => isGlob kd x
  | .bin l _ r _ => okE q vis kd l && okE q vis kd r
  | .neg e _ => okE q vis kd e
  | .not e _ => okE q vis kd e
  | .bop _ es _ => okEs q vis kd es
  | .cmp l _ r _ => okE q vis kd l && okE q vis kd r
  | .sub e i _ => okE q vis kd e && okE q vis kd i
  | .sfrom e i _ _ => okE q vis kd e && okE q vis kd i
  | .sto e i _ _ => okE q vis kd e && okE q vis kd i
  | .srev e _ _ _ _ => okE q vis kd e
  | .tup es _ _ => okEs q vis kd es && decide (es.len ≤ 100)
  | .list es _ => okEs q vis kd es && decide (es.len ≤ 100)
  | .tape _ _ => true
  | .dict ks vs _ => vs.lits && decide (ks.length = vs.len) && decide (vs.len ≤ 15)
  | .call f es _ _ => q && isGlob kd f && fl.contains f && okEs q vis kd es
  | .blt b es _ _ => q && isGlob kd b.name && okEs q vis kd es
  | .isi e c _ _ _ _ _ => isGlob kd "isinstance" && iclsOk kd c && okE q vis kd e
  | .meth o _ es pa p => okE q vis kd o && okEs q vis kd es && (pa.endLine == p.line) && decide (es.len ≤ 3) && blbase o
  | .umeth _ _ _ _ _ _ => false
  | .attr _ _ _ => false
  | .comp e x _ it cs sc _ => okE q vis kd it && scOk kd (relab kd sc) sc (slot nm x) && okE q (visC (relab kd sc) nm vis x) (relab kd sc) e && okEs q (visC (relab kd sc) nm vis x) (relab kd sc) cs && decide (cs.len ≤ 1) && q
noncomputable def okEs (q : Bool) (vis : Nat → Bool) (kd : Kd) : AEs → Bool
  | .nil => true
  | .cons e es => okE q vis kd e && okEs q vis kd es
end
end

structure Fok (cx : Cx) (n : Nat) (q : Bool) (kd : Kd) (F : Fm) : Prop where
  fr : F.A.frames = some F.fs
  kind : F.env.scope.kind = .function
  kdo : F.env.kindOf = kd
  glob : F.env.globals = cx.ga
  bltn : F.env.builtins = cx.ba
  quiet : q = true → F.A.handled = none
  depth : F.A.depth + n ≤ 900
  units : F.A.units + 4 * n + 200 ≤ cLine
  cells : ∀ x, (kd x = some .cell ∨ kd x = some .free) → ∃ c, F.env.cells.lookup x = some c
  apart : ∀ x y c, F.env.cells.lookup x = some c → F.env.cells.lookup y = some c → x = y
  inj : ∀ i j, F.vis i = true → F.vis j = true → slot F.nm i = slot F.nm j → i = j

structure Cok (cx : Cx) (g : Gl) (fl : List Str) (mg mb : Str → Option Value) (n : Nat) : Prop where
  gns : cx.B.Ns cx.ga mg
  mods : ∃ a o, sysModules < a ∧ cx.B.get? a = some o
  bns : cx.B.Ns cx.ba mb
  consts : ∀ x p, g.G x = some p → ∃ v, mg x = some v ∧ Rep cx cx.B v p
  blts : ∀ b : Blt, mg b.name = none ∧ mb b.name = some b.val
  isi : mg "isinstance" = none ∧ mb "isinstance" = some (.builtin "isinstance")
  bty : ∀ T ∈ ["str", "list", "tuple", "bool", "int", "ValueError"], mg (Str.ofString T) = none ∧ mb (Str.ofString T) = some (.type T)
  own : ∀ x c, onm x = some c → ∃ C, cx.cls c = some C ∧ mg x = some (.ref C)
  isx : ∀ {F : Fm} {m : Loc} {H : AHeap} {s : Shared} {Q : Post} {X : XPost} {e : Value} {k c : Nat} {C : Addr}, Rep cx s.heap e (.exc k) → St cx F m H s.heap → cx.cls c = some C → Q (.bool (isSub k c)) H →
    Ev (Rep cx) cx F (call (.builtin "isinstance") [e, .ref C]) m H s Q X
  isv : ∀ {F : Fm} {m : Loc} {H : AHeap} {s : Shared} {Q : Post} {X : XPost} {e : Value} {k : Nat}, Rep cx s.heap e (.exc k) → St cx F m H s.heap → Q (.bool true) H →
    Ev (Rep cx) cx F (call (.builtin "isinstance") [e, .type "ValueError"]) m H s Q X
  rais : ∀ {F : Fm} {kd : Kd} {m : Loc} {H : AHeap} {s : Shared} {c : Nat} {x msg : Str} {k : Nat} {pc pm pk p : Pos} {QQ : Flow → Shared → Prop} {E : Value → Shared → Prop}, Fok cx n true kd F → isGlob kd x = true → onm x = some c → St cx F m H s.heap →
    (∀ e s', Exc cx F.env.frame s.heap s'.heap e c → St cx F m H s'.heap → Kp cx [] H s H s' → E (.ref e) s') → wpAny cx.M F.A (exec (.Raise (some (.Call (.Name x pc) [.Constant (.str msg) k pm] [] pk)) none p) F.env) QQ E s
  mats : ∀ {A : Around} {s : Shared} {e : Value} {k c : Nat} {C : Addr} {QQ : Bool → Shared → Prop} {E : Value → Shared → Prop}, cx.B.StaysIn s.heap → Rep cx s.heap e (.exc k) → cx.cls c = some C → (∀ tk, QQ (isSub k c) { s with toks := tk }) → wpAny cx.M A (excMatches e (.ref C)) QQ E s
  fns : ∀ f, fl.contains f = true → ∃ a o fd, mg f = some (.ref a) ∧ cx.B.get? a = some o ∧ o.data = .func fd
  calls : ∀ f, fl.contains f = true → ∀ {ps : List PV} {H : AHeap} {Q : Post} {X : XPost}, g.C f ps H Q X → ∀ {F : Fm} {kd : Kd} {m : Loc} {s : Shared} {vs : List Value} {a : Addr}, Fok cx n true kd F → mg f = some (.ref a) →
    RepL cx s.heap vs ps → St cx F m H s.heap → Ev (Rep cx) cx F (call (.ref a) vs []) m H s Q X
end Mine
end
section
open PySem PySem.Calls PyProof.Rows
namespace Mine
set_option autoImplicit false

section
variable {cx : Cx} {F : Fm} {m : Loc} {H H' : AHeap} {s s' : Shared} {I : Addr}

/-- nothing but I's record changes -/
noncomputable def Tch (I : Addr) (s s' : Shared) : Prop := ∃ h' tk, s' = { s with heap := h', toks := tk } ∧ ∀ b o, b ≠ I → s.heap.get? b = some o → h'.get? b = some o
noncomputable def Clean (cx : Cx) (H : AHeap) (h : Heap) (I : Addr) : Prop := H I = none ∧ cx.B.get? I = none ∧ ∃ o T vs, h.get? I = some o ∧ o.cls = .type T ∧ T ≠ "range" ∧ o.data = .fields vs

theorem notSolid_of {o : Obj} {T : String} {vs : Array Value} (hc : o.cls = .type T) (hT : T ≠ "range") (hd : o.data = .fields vs) : ¬ Solid o := by
  rintro (⟨i, n, rfl⟩ | ⟨n, t, u, v, rfl⟩ | ⟨⟨C, q⟩, _⟩)
  · cases hd
  · simp [rngObj] at hc; exact hT hc.symm
  · rw [hc] at q; cases q

theorem Holds.keepBut {h h' : Heap} (k : Holds cx h H) (hI : H I = none) (g : ∀ b o, b ≠ I → h.get? b = some o → h'.get? b = some o) (ns : ∀ o, h.get? I = some o → ¬ Solid o) : Holds cx h' H := fun b x e => by
  have q : b ≠ I := by rintro rfl; rw [hI] at e; cases e
  have r := k b x e
  have so : ∀ b o, h.get? b = some o → Solid o → h'.get? b = some o := fun b o e s => g b o (by rintro rfl; exact ns o e s) e
  cases x with
  | list xs => obtain ⟨items, n, e, r, l⟩ := r; exact ⟨items, n, g _ _ q e, r.mono so, l⟩
  | tape k => obtain ⟨t, n, e⟩ := r; exact ⟨t, n, g _ _ q e⟩
  | dict kvs => obtain ⟨vs, d, r, l⟩ := r; exact ⟨vs, (let ⟨o, es, ep, ho, y⟩ := d; ⟨o, es, ep, g _ _ q ho, y⟩), r.mono so, l⟩
  | inst c d => obtain ⟨C, x, e⟩ := r; exact ⟨C, x, g _ _ q e⟩

theorem St.touch {h h' : Heap} (t : St cx F m H h) (c : Clean cx H h I) (k : ∀ b o, b ≠ I → h.get? b = some o → h'.get? b = some o) : St cx F m H h' := by
  obtain ⟨hI, hB, oI, T, vs, gI, hc, hT, hd⟩ := c
  have ns : ∀ o, h.get? I = some o → ¬ Solid o := fun o e => by rw [gI] at e; cases e; exact notSolid_of hc hT hd
  have so : ∀ b o, h.get? b = some o → Solid o → h'.get? b = some o := fun b o e s => k b o (by rintro rfl; exact ns o e s) e
  have nd : ∀ b o es ep, h.get? b = some o → o.data = .dict es ep → b ≠ I := fun b o es ep e q => by rintro rfl; rw [gI] at e; cases e; rw [hd] at q; cases q
  refine ⟨fun b o e => k b o (by rintro rfl; rw [hB] at e; cases e) (t.base b o e), t.off, t.heap.keepBut hI k ns, fun env he => ?_, t.own, ?_, fun n c hc' => ?_⟩
  · obtain ⟨hk, L, o, es, ep, hf, hH, hb, ho, hd'⟩ := t.frames env he
    exact ⟨hk, L, o, es, ep, hf, hH, hb, k L o (nd L o es ep ho hd') ho, hd'⟩
  · obtain ⟨o, es, ep, mc, ho, hd', ⟨o1, es1, ep1, ho1, hd1, hk1, hm1⟩, hv⟩ := t.vars
    have n := nd _ o es ep ho hd'
    exact ⟨o, es, ep, mc, k _ o n ho, hd', ⟨o1, es1, ep1, k _ o1 n ho1, hd1, hk1, hm1⟩, fun i v h1 h2 h3 => let ⟨x, q, r⟩ := hv i v h1 h2 h3; ⟨x, q, r.mono so⟩⟩
  · obtain ⟨h1, h2, o, x, ho, hd', hv⟩ := t.cells n c hc'
    exact ⟨h1, h2, o, x, k c o (by rintro rfl; rw [gI] at ho; cases ho; rw [hd] at hd'; cases hd') ho, hd', fun i v a b c d => let ⟨y, q, r⟩ := hv i v a b c d; ⟨y, q, r.mono so⟩⟩

theorem Kp.touch {S : List Addr} {H₁ : AHeap} {s₁ s₂ : Shared} (k : Kp cx S H s H₁ s₁) (f : s.heap.get? I = none) (tc : Tch I s₁ s₂) (hB : cx.B.get? I = none) : Kp cx S H s H₁ s₂ := by
  obtain ⟨h', tk, rfl, g⟩ := tc
  have n : ∀ b o, s.heap.get? b = some o → b ≠ I := fun b o e => by rintro rfl; rw [f] at e; cases e
  refine ⟨?_, fun b o e hS hH => ?_, fun b o e => ?_, fun b o e e' => ?_⟩
  · obtain ⟨h, t, rfl⟩ := k.same; exact ⟨h', tk, rfl⟩
  · obtain ⟨h1, o', e', sm⟩ := k.keep b o e hS hH; exact ⟨h1, o', g b o' (n b o e) e', sm⟩
  · obtain ⟨o', e'⟩ := k.alive b o e; exact ⟨o', g b o' (n b o e) e'⟩
  · exact g b o (by rintro rfl; rw [hB] at e; cases e) (k.base b o e e')

noncomputable def Src (p : PV) (xs : List PV) (H : AHeap) : Prop :=
  match p with
  | .obj a => H a = some (.list xs)
  | _ => True
noncomputable def Itr (cx : Cx) (h : Heap) (I : Addr) (i : Nat) (xs : List PV) : PV → Prop
  | .obj a => h.IsListIter I a i ∧ a ≠ I
  | .tup _ => ∃ t items n, h.IsTupleIter I t i ∧ h.get? t = some (tupObj items n) ∧ RepL cx h items.toList xs ∧ t ≠ I
  | .rng n => IsRangeIter h I i ((n.toNat : Int) - i) 1 ∧ xs = (List.range n.toNat).map fun i => .int i
  | _ => False

theorem Itr.clean {h : Heap} {i : Nat} {xs : List PV} {p : PV} (it : Itr cx h I i xs p) : ∃ o T vs, h.get? I = some o ∧ o.cls = .type T ∧ T ≠ "range" ∧ o.data = .fields vs := by
  cases p <;> try exact it.elim
  · obtain ⟨t, items, n, ⟨o, ho, hc, hd⟩, _⟩ := it; exact ⟨o, _, _, ho, hc, by decide, hd⟩
  · obtain ⟨⟨o, ho, hc, hd⟩, _⟩ := it; exact ⟨o, _, _, ho, hc, by decide, hd⟩
  · exact ⟨_, _, _, it.1, rfl, by decide, rfl⟩
theorem Itr.keep {h h' : Heap} {i : Nat} {xs : List PV} {p : PV} (it : Itr cx h I i xs p) (so : ∀ b o, h.get? b = some o → Solid o → h'.get? b = some o) (kI : ∀ o, h.get? I = some o → h'.get? I = some o) : Itr cx h' I i xs p := by
  cases p <;> try exact it.elim
  · obtain ⟨t, items, n, ⟨o, ho, hc, hd⟩, ht, r, ne⟩ := it
    exact ⟨t, items, n, ⟨o, kI o ho, hc, hd⟩, so _ _ ht (.inl ⟨_, _, rfl⟩), r.mono so, ne⟩
  · obtain ⟨⟨o, ho, hc, hd⟩, ne⟩ := it
    exact ⟨⟨o, kI o ho, hc, hd⟩, ne⟩
  · exact ⟨kI _ it.1, it.2⟩

theorem itemsW_to {p : PV} {K : List PV → (AHeap → Prop) → Prop} (h : itemsW p K H) : ItemsW K H p := h.to fun xs e k => by
  unfold itemsF at e
  split at e <;> cases e
  · exact .tup k
  · exact .rng k
theorem iter_ok {v : Value} {p : PV} {K : List PV → (AHeap → Prop) → Prop} {Q : Value → Shared → Prop} {E : Value → Shared → Prop} (rv : Rep cx s.heap v p) (t : St cx F m H s.heap) (h : itemsW p K H)
    (hQ : ∀ I xs h', s.heap.get? I = none → (∀ b o, s.heap.get? b = some o → h'.get? b = some o) → Itr cx h' I 0 xs p → Clean cx H h' I → Src p xs H → xs.length ≤ LIM → K xs (Src p xs) → Q (.ref I) { s with heap := h' }) :
    wpAny cx.M F.A (pyIter v) Q E s := by
  have hL : LIM = 1048576 := rfl
  have fr := get_size_none s.heap
  have hH : H s.heap.objs.size = none := t.heap.fresh fr
  have hB : cx.B.get? s.heap.objs.size = none := by
    cases e : cx.B.get? s.heap.objs.size with
    | none => rfl
    | some o => have := t.base _ _ e; rw [fr] at this; cases this
  replace h := itemsW_to h
  cases h with
  | tup h =>
    obtain ⟨a, items, n, rfl, g, l, r⟩ := rv.tupI
    refine wpAny_pyIter_tuple (isTuple_of g) (hQ _ _ _ fr push_keeps ⟨a, items, n, ⟨_, Heap.get?_push_size _ rfl, rfl, rfl⟩, push_keeps _ _ g, r.mono fun b o e _ => push_keeps b o e, ?_⟩ ⟨hH, hB, _, _, _, Heap.get?_push_size _ rfl, rfl, by decide, rfl⟩ trivial l h)
    rintro rfl; rw [fr] at g; cases g
  | rng h =>
    rename_i n
    obtain ⟨a, t1, u1, v1, rfl, g, l⟩ := rv.rngI
    have e : Builtin.Range.rangeSize 0 n 1 = n.toNat := by unfold Builtin.Range.rangeSize; simp; split <;> (first | lia | omega)
    refine wpAny_pyIter_range g ?_ (hQ _ _ _ fr push_keeps ⟨?_, rfl⟩ ⟨hH, hB, _, _, _, Heap.get?_push_size _ rfl, rfl, by decide, rfl⟩ trivial ?_ h)
    · unfold Builtin.Range.small Builtin.Range.rangeFitsLong
      rw [e]
      simp
      first | lia | omega
    · rw [e]
      show _ = some _
      rw [Heap.get?_push_size _ rfl]
      simp
    · simp; first | lia | omega
  | list ha h =>
      obtain rfl := Rep.objI rv
      obtain ⟨items, n, g, r, l⟩ := t.list ha
      refine wpAny_pyIter_list (isList_of g) (hQ _ _ _ fr push_keeps ⟨⟨_, Heap.get?_push_size _ rfl, rfl, rfl⟩, ?_⟩ ⟨hH, hB, _, _, _, Heap.get?_push_size _ rfl, rfl, by decide, rfl⟩ ha l h)
      rintro rfl; rw [fr] at g; cases g

theorem next_ok {i : Nat} {xs : List PV} {p x : PV} {Q : Option Value → Shared → Prop} {E : Value → Shared → Prop} (t : St cx F m H s.heap) (it : Itr cx s.heap I i xs p) (sr : Src p xs H) (cl : Clean cx H s.heap I) (xi : xs[i]? = some x)
    (hQ : ∀ v s', Rep cx s'.heap v x → Itr cx s'.heap I (i + 1) xs p → Clean cx H s'.heap I → Tch I s s' → Q (some v) s') : wpAny cx.M F.A (pyNext (.ref I)) Q E s := by
  obtain ⟨hI, hB, oI, T, vs, gI, hc, hT, hd⟩ := cl
  have so : ∀ h', Heap.SameBut I s.heap h' → ∀ b o, s.heap.get? b = some o → Solid o → h'.get? b = some o := fun h' sb b o e so => by
    rw [sb.2 b (by rintro rfl; rw [gI] at e; cases e; exact notSolid_of hc hT hd so)]; exact e
  have fin : ∀ v h' tk, Heap.SameBut I s.heap h' → Rep cx s.heap v x → Itr cx h' I (i + 1) xs p → Q (some v) { s with heap := h', toks := tk } := fun v h' tk sb r it' =>
    hQ v _ (r.mono (so h' sb)) it' ⟨hI, hB, it'.clean⟩ ⟨h', tk, rfl, fun b o n e => by rw [sb.2 b n]; exact e⟩
  cases p <;> try exact it.elim
  · obtain ⟨tt, items, n, hit, g, r, ne⟩ := it
    obtain ⟨v, ev, rv⟩ := r.get xi
    rw [Array.getElem?_toList] at ev
    refine wpAny_pyNext_tuple_item hit (isTuple_of g) ev fun h' hit' sb => fin v h' s.toks sb rv ⟨tt, items, n, hit', ?_, r.mono (so h' sb), ne⟩
    rw [sb.2 _ ne]; exact g
  · obtain ⟨hit, ne⟩ := it
    obtain ⟨items, n, g, r, l⟩ := t.list sr
    obtain ⟨v, ev, rv⟩ := r.get xi
    rw [Array.getElem?_toList] at ev
    exact wpAny_pyNext_list_item hit (isList_of g) ev fun h' hit' sb => fin v h' s.toks sb rv ⟨hit', ne⟩
  · obtain ⟨hit, rfl⟩ := it
    simp only [List.getElem?_map] at xi
    obtain ⟨j, hj, rfl⟩ := Option.map_eq_some_iff.mp xi
    have hlt := (List.getElem?_eq_some_iff.mp hj).1
    simp at hlt
    have hj' : j = i := by simpa [hlt] using hj.symm
    subst hj'
    refine wpAny_pyNext_range_item hit (by first | lia | omega) fun h' hit' sb => fin _ h' _ sb (.int _ _) ⟨?_, rfl⟩
    have e1 : ((j + 1 : Nat) : Int) = (j : Int) + 1 := by first | lia | omega
    have e2 : ∀ n : Nat, (n : Int) - ((j + 1 : Nat) : Int) = (n : Int) - (j : Int) - 1 := by intro n; first | lia | omega
    rw [e2, e1]; exact hit'

theorem end_ok {i : Nat} {xs : List PV} {p : PV} {Q : Option Value → Shared → Prop} {E : Value → Shared → Prop} (hh : F.A.handled = none) (t : St cx F m H s.heap) (it : Itr cx s.heap I i xs p) (sr : Src p xs H) (xi : xs[i]? = none)
    (hQ : ∀ s', Tch I s s' → Q none s') : wpAny cx.M F.A (pyNext (.ref I)) Q E s := by
  have hle := List.getElem?_eq_none_iff.mp xi
  cases p <;> try exact it.elim
  · obtain ⟨tt, items, n, hit, g, r, ne⟩ := it
    have hk := arr_len r
    exact wpAny_pyNext_tuple_end hh hit (isTuple_of g) (by simp; first | lia | omega) fun h' sb => hQ _ ⟨h', s.toks, rfl, fun b o n e => sb b o n e⟩
  · obtain ⟨hit, ne⟩ := it
    obtain ⟨items, n, g, r, l⟩ := t.list sr
    have hk := arr_len r
    exact wpAny_pyNext_list_end hh hit (isList_of g) (by simp; first | lia | omega) fun h' sb => hQ _ ⟨h', s.toks, rfl, fun b o n e => sb b o n e⟩
  · obtain ⟨hit, rfl⟩ := it
    simp at hle
    exact wpAny_pyNext_range_end hh hit (by first | lia | omega) fun h' sb => hQ _ ⟨h', s.toks, rfl, fun b o n e => sb b o n e⟩
theorem self_ok {A : Around} {i : Nat} {xs : List PV} {p : PV} {Q : Value → Shared → Prop} {E : Value → Shared → Prop} (it : Itr cx s.heap I i xs p) (hQ : Q (.ref I) s) : wpAny cx.M A (pyIter (.ref I)) Q E s := by
  cases p <;> try exact it.elim
  · obtain ⟨t, items, n, hit, _⟩ := it; exact wpAny_pyIter_tupleiter hit hQ
  · exact wpAny_pyIter_listiter it.1 hQ
  · exact wpAny_pyIter_rangeiter it.1 hQ
end
end Mine
end
section
open PySem PySem.Calls PyProof.Rows
namespace Mine
set_option autoImplicit false

section
variable {cx : Cx} {F : Fm} {m : Loc} {H H' : AHeap} {s s' : Shared} {I : Addr}

theorem Loc.get_set {m : Loc} {x i : Nat} {p v : PV} (h : (m.set x (some p)).getD i none = some v) : (i = x ∧ v = p) ∨ (i ≠ x ∧ m.getD i none = some v) := by
  by_cases q : i = x
  · subst q
    by_cases l : i < m.length
    · left; simp [List.getD, l] at h; exact ⟨rfl, h.symm⟩
    · simp [List.getD, l] at h
  · right
    refine ⟨q, ?_⟩
    simpa [List.getD, List.getElem?_set, Ne.symm q] using h
theorem Loc.get_set0 {m : Loc} {x i : Nat} {v : PV} (h : (m.set x none).getD i none = some v) : i ≠ x ∧ m.getD i none = some v := by
  by_cases q : i = x
  · subst q
    by_cases l : i < m.length
    · simp [List.getD, l] at h
    · simp [List.getD, l] at h
  · refine ⟨q, ?_⟩
    simpa [List.getD, List.getElem?_set, Ne.symm q] using h

theorem notSolid_dict {o : Obj} {es : Array DictEntry} {ep : Nat} (hd : o.data = .dict es ep) : ¬ Solid o := fun h => h.notLoc.1 _ _ hd
theorem notSolid_cell {o : Obj} {x : Option Value} (hd : o.data = .cell x) : ¬ Solid o := fun h => h.notLoc.2 _ hd

/-- a name put anew in the frame's own row -/
theorem St.setLocal {h h' : Heap} {x : Nat} {v : Value} {p : PV} {mc mc' : Str → Option Value} (t : St cx F m H h) (inj : ∀ i j, F.vis i = true → F.vis j = true → slot F.nm i = slot F.nm j → i = j) (vx : F.vis x = true) (kl : F.env.kindOf (slot F.nm x) = some .local)
    (ns : h.Ns F.env.locals mc) (ns' : h'.Ns F.env.locals mc') (hm : mc' = fun z => if z = slot F.nm x then some v else mc z) (sb : Heap.SameBut F.env.locals h h') (rv : Rep cx h v p) : St cx F (m.set x (some p)) H h' := by
  obtain ⟨o, es, ep, mc₀, ho, hd, ns₀, hv⟩ := t.vars
  have e0 : mc₀ = mc := funext (ns₀.agree ns)
  subst e0
  have ns1 : ∀ o, h.get? F.env.locals = some o → ¬ Solid o := fun o' e => by rw [ho] at e; cases e; exact notSolid_dict hd
  have k : ∀ b o, b ≠ F.env.locals → h.get? b = some o → h'.get? b = some o := fun b o n e => by rw [sb.2 b n]; exact e
  have so : ∀ b o, h.get? b = some o → Solid o → h'.get? b = some o := fun b o e s => k b o (by rintro rfl; exact ns1 o e s) e
  obtain ⟨o', es', ep', ho', hd', r'⟩ := id ns'
  refine ⟨fun b o e => k b o (by rintro rfl; rw [t.own.2] at e; cases e) (t.base b o e), t.off, t.heap.keepBut t.own.1 k ns1, fun env he => ?_, t.own, ⟨o', es', ep', mc', ho', hd', ns', fun i w h1 h2 h3 => ?_⟩, fun n c hc' => ?_⟩
  · obtain ⟨hk, L, o1, es1, ep1, hf, hH, hb, ho1, hd1⟩ := t.frames env he
    by_cases q : L = F.env.locals
    · subst q; exact ⟨hk, _, o', es', ep', hf, hH, hb, ho', hd'⟩
    · exact ⟨hk, L, o1, es1, ep1, hf, hH, hb, k L o1 q ho1, hd1⟩
  · rcases Loc.get_set h3 with ⟨rfl, rfl⟩ | ⟨n, h3⟩
    · exact ⟨v, by simp [hm], rv.mono so⟩
    · obtain ⟨y, e, r⟩ := hv i w h1 h2 h3
      refine ⟨y, ?_, r.mono so⟩
      rw [hm]
      simp only
      rw [if_neg (fun q => n (inj i x h1 vx q))]; exact e
  · obtain ⟨h1, h2, oc, y, hoc, hdc, hvc⟩ := t.cells n c hc'
    have nc : c ≠ F.env.locals := by rintro rfl; rw [ho] at hoc; cases hoc; rw [hd] at hdc; cases hdc
    refine ⟨h1, h2, oc, y, k c oc nc hoc, hdc, fun i w a b c' d => ?_⟩
    rcases Loc.get_set d with ⟨rfl, rfl⟩ | ⟨ne, d⟩
    · subst b; exact absurd kl c'
    · obtain ⟨z, q, r⟩ := hvc i w a b c' d
      exact ⟨z, q, r.mono so⟩

theorem St.forget {h : Heap} (x : Nat) (t : St cx F m H h) : St cx F (m.set x none) H h := by
  refine ⟨t.base, t.off, t.heap, t.frames, t.own, ?_, fun n c hc => ?_⟩
  · obtain ⟨o, es, ep, mc, ho, hd, ns, hv⟩ := t.vars
    exact ⟨o, es, ep, mc, ho, hd, ns, fun i v h1 h2 h3 => hv i v h1 h2 (Loc.get_set0 h3).2⟩
  · obtain ⟨h1, h2, o, y, ho, hd, hv⟩ := t.cells n c hc
    exact ⟨h1, h2, o, y, ho, hd, fun i v a b c' d => hv i v a b c' (Loc.get_set0 d).2⟩

theorem St.solidNow {h : Heap} (_ : St cx F m H h) : True := trivial

/-- the comprehension's own frame -/
noncomputable def compF (F : Fm) (sc : Scope) (cl : List (Str × Addr)) (C : Addr) (x : Nat) (kd' : Kd) : Fm := { F with env := compEnvC sc cl C F.env, vis := visC kd' F.nm F.vis x }

theorem relab_eq {kd : Kd} {n : Nat} {q : Bool} {sc : Scope} {cl : List (Str × Addr)} {C : Addr} (fo : Fok cx n q kd F) : (compEnvC sc cl C F.env).kindOf = relab kd sc := by
  funext x
  show List.lookup x (List.map _ sc.names) = _
  unfold relab
  have e1 : (F.env.scope.kind == ScopeKind.function) = true := by rw [fo.kind]; rfl
  simp only [e1, fo.kdo, Bool.and_true]

theorem closure_lookup {env : Env} {kd : Kd} (hc : ∀ x, (kd x = some .cell ∨ kd x = some .free) → ∃ c, env.cells.lookup x = some c) :
    ∀ (names : List (Str × NameKind)) (acc : List (Str × Addr)), (names.all fun p => p.2 != .free || kd p.1 == some .cell || kd p.1 == some .free) = true → (∀ n c, acc.lookup n = some c → env.cells.lookup n = some c) →
      ∃ cl, (forIn names acc (fun x cs => if x.2 == .free then (do let c ← cellOf env x.1; pure (ForInStep.yield ((x.1, c) :: cs))) else pure (ForInStep.yield cs)) : Sem (List (Str × Addr))) = pure cl ∧
        (∀ n c, cl.lookup n = some c → env.cells.lookup n = some c) ∧ (∀ n, (acc.lookup n).isSome = true → (cl.lookup n).isSome = true) ∧ ∀ n, (n, NameKind.free) ∈ names → (cl.lookup n).isSome = true
  | [], acc, _, ha => ⟨acc, by simp, ha, fun _ h => h, fun _ h => by simp at h⟩
  | (y, k) :: r, acc, hall, ha => by
    simp only [List.all_cons, Bool.and_eq_true] at hall
    rw [List.forIn_cons]
    by_cases hk : k = .free
    · subst hk
      have hy : kd y = some .cell ∨ kd y = some .free := by
        have := hall.1; simp at this; exact this
      obtain ⟨c, hc'⟩ := hc y hy
      obtain ⟨cl, e, h1, h2, h3⟩ := closure_lookup hc r ((y, c) :: acc) hall.2 (fun n d h => by
        rw [List.lookup_cons] at h
        by_cases q : n = y
        · subst q; simp at h; subst h; exact hc'
        · rw [show (n == y) = false by simpa using q] at h; exact ha n d h)
      refine ⟨cl, ?_, h1, fun n h => h2 n ?_, fun n h => ?_⟩
      · simp only [cellOf, hc']
        exact e
      · rw [List.lookup_cons]; split <;> simp_all
      · rcases List.mem_cons.mp h with q | q
        · cases q; exact h2 _ (by simp)
        · exact h3 n q
    · obtain ⟨cl, e, h1, h2, h3⟩ := closure_lookup hc r acc hall.2 ha
      refine ⟨cl, ?_, h1, h2, fun n h => ?_⟩
      · have : (k == NameKind.free) = false := by simpa using hk
        simp only [this]
        exact e
      · rcases List.mem_cons.mp h with q | q
        · cases q; exact absurd rfl hk
        · exact h3 n q
theorem closure_ok {env : Env} {kd : Kd} {sc : Scope} (hc : ∀ x, (kd x = some .cell ∨ kd x = some .free) → ∃ c, env.cells.lookup x = some c)
    (hall : (sc.names.all fun p => p.2 != .free || kd p.1 == some .cell || kd p.1 == some .free) = true) : ∃ cl, closureFor sc env = pure cl ∧ (∀ n c, cl.lookup n = some c → env.cells.lookup n = some c) ∧ ∀ n, (n, NameKind.free) ∈ sc.names → (cl.lookup n).isSome = true := by
  obtain ⟨cl, e, h1, _, h3⟩ := closure_lookup hc sc.names [] hall (fun _ _ h => by simp at h)
  refine ⟨cl, ?_, h1, h3⟩
  unfold closureFor
  rw [← e]
  simp only [bind_pure]
end
end Mine
end
section
open PySem PySem.Calls PyProof.Rows
namespace Mine
set_option autoImplicit false

section
variable {cx : Cx} {F : Fm} {m : Loc} {H H' : AHeap} {s s' : Shared} {I : Addr} {kd : Kd} {sc : Scope} {x n : Nat} {q : Bool} {cl : List (Str × Addr)} {C : Addr}

theorem lookup_map_free {kd : Kd} {y : Str} {k : NameKind} : ∀ {names : List (Str × NameKind)}, (names.map fun (n, k) => if (k == .free && kd n == some .cell) then (n, .cell) else (n, k)).lookup y = some k →
    ∃ k₀, (y, k₀) ∈ names ∧ k = if (k₀ == .free && kd y == some .cell) then .cell else k₀
  | [], h => by simp at h
  | (z, k₀) :: r, h => by
    have hs : ∀ p : Str × NameKind, (if (k₀ == NameKind.free && kd z == some .cell) = true then (z, NameKind.cell) else (z, k₀)) = p → p.1 = z := fun p e => by rw [← e]; split <;> rfl
    rw [List.map_cons] at h
    simp only at h
    generalize hp : (if (k₀ == NameKind.free && kd z == some .cell) = true then (z, NameKind.cell) else (z, k₀)) = p at h
    have h1 := hs p hp
    obtain ⟨p1, p2⟩ := p
    simp only at h1
    subst h1
    rw [List.lookup_cons] at h
    by_cases e : y = p1
    · subst e
      simp at h
      subst h
      refine ⟨k₀, List.mem_cons_self, ?_⟩
      split at hp <;> simp_all
    · rw [show (y == p1) = false by simpa using e] at h
      obtain ⟨k₁, h2, h3⟩ := lookup_map_free h
      exact ⟨k₁, List.mem_cons_of_mem _ h2, h3⟩

theorem relab_free (hsc : scOk kd (relab kd sc) sc (slot F.nm x) = true) {y : Str} (h : relab kd sc y = some .cell ∨ relab kd sc y = some .free) : (y, NameKind.free) ∈ sc.names ∧ (kd y = some .cell ∨ kd y = some .free) := by
  unfold scOk at hsc
  simp only [Bool.and_eq_true] at hsc
  obtain ⟨⟨⟨⟨⟨⟨⟨_, _⟩, _⟩, hnc⟩, _⟩, hfr⟩, _⟩, _⟩ := hsc
  have key : ∀ k, relab kd sc y = some k → k = .cell ∨ k = .free → (y, NameKind.free) ∈ sc.names := fun k e hk => by
    obtain ⟨k₀, h1, h2⟩ := lookup_map_free e
    have h3 := List.all_eq_true.mp hnc _ h1
    simp at h3
    cases k₀ <;> simp_all
  have hm : (y, NameKind.free) ∈ sc.names := h.elim (fun e => key _ e (.inl rfl)) fun e => key _ e (.inr rfl)
  have := List.all_eq_true.mp hfr _ hm
  simp at this
  exact ⟨hm, this⟩

theorem compF_ok (fo : Fok cx n q kd F) (hsc : scOk kd (relab kd sc) sc (slot F.nm x) = true) (hcl1 : ∀ n c, cl.lookup n = some c → F.env.cells.lookup n = some c) (hcl : ∀ n, (n, NameKind.free) ∈ sc.names → (cl.lookup n).isSome = true) :
    Fok cx n q (relab kd sc) (compF F sc cl C x (relab kd sc)) where
  fr := fo.fr
  kind := by
    unfold scOk at hsc
    simp only [Bool.and_eq_true, decide_eq_true_eq] at hsc
    exact hsc.1.1.1.1.1.1.1
  kdo := relab_eq fo
  glob := fo.glob
  bltn := fo.bltn
  quiet := fo.quiet
  depth := fo.depth
  units := fo.units
  cells := fun y h => Option.isSome_iff_exists.mp (hcl y (relab_free hsc h).1)
  apart := fun x y c h1 h2 => fo.apart x y c (hcl1 x c h1) (hcl1 y c h2)
  inj := fun i j hi hj e => by
    have hx : relab kd sc (slot F.nm x) = some .local := by
      unfold scOk at hsc
      simp only [Bool.and_eq_true, beq_iff_eq] at hsc
      exact hsc.1.2
    simp only [compF, visC, Bool.or_eq_true, Bool.and_eq_true, beq_iff_eq] at hi hj e
    rcases hi with rfl | ⟨hi, ki⟩ <;> rcases hj with rfl | ⟨hj, kj⟩
    · rfl
    · rw [← e, hx] at kj; simp at kj
    · rw [e, hx] at ki; simp at ki
    · exact fo.inj i j hi hj e

theorem comp_start {h' : Heap} {mc : Str → Option Value} (fo : Fok cx n q kd F) (hsc : scOk kd (relab kd sc) sc (slot F.nm x) = true) (hcl : ∀ n c, cl.lookup n = some c → F.env.cells.lookup n = some c)
    (t : St cx F m H s.heap) (fr : s.heap.get? C = none) (g : ∀ b o, s.heap.get? b = some o → h'.get? b = some o) (ns : h'.Ns C mc) : St cx (compF F sc cl C x (relab kd sc)) (m.set x none) H h' := by
  have hx : relab kd sc (slot F.nm x) = some .local := by
    unfold scOk at hsc
    simp only [Bool.and_eq_true, beq_iff_eq] at hsc
    exact hsc.1.2
  have so : ∀ b o, s.heap.get? b = some o → Solid o → h'.get? b = some o := fun b o e _ => g b o e
  obtain ⟨o, es, ep, ho, hd, r⟩ := id ns
  refine ⟨fun b o e => g b o (t.base b o e), t.off, t.heap.grow g, fun env he => ?_, ⟨t.heap.fresh fr, ?_⟩, ⟨o, es, ep, mc, ho, hd, ns, fun i v h1 h2 h3 => ?_⟩, fun y c hc => ?_⟩
  · obtain ⟨hk, L, o, es, ep, hf, hH, hb, ho, hd'⟩ := t.frames env he
    exact ⟨hk, L, o, es, ep, hf, hH, hb, g L o ho, hd'⟩
  · show cx.B.get? C = none
    cases e : cx.B.get? C with
    | none => rfl
    | some o => rw [t.base _ _ e] at fr; cases fr
  · exfalso
    rw [show (compF F sc cl C x (relab kd sc)).env.kindOf = relab kd sc from relab_eq fo] at h2
    obtain ⟨ne, h3⟩ := Loc.get_set0 h3
    simp only [compF, visC, Bool.or_eq_true, Bool.and_eq_true, beq_iff_eq] at h1 h2
    rcases h1 with rfl | ⟨_, hk⟩
    · exact ne rfl
    · rw [h2] at hk; simp at hk
  · obtain ⟨h1, h2, o, w, ho, hd, hv⟩ := t.cells y c (hcl y c hc)
    refine ⟨h1, h2, o, w, g c o ho, hd, fun i v a b c' d => ?_⟩
    obtain ⟨ne, d⟩ := Loc.get_set0 d
    simp only [compF, visC, Bool.or_eq_true, Bool.and_eq_true, beq_iff_eq] at a b
    rcases a with rfl | ⟨a, hk⟩
    · exact absurd rfl ne
    · obtain ⟨z, e, r⟩ := hv i v a b (by
        rw [fo.kdo]
        rw [b] at hk
        rcases (relab_free hsc hk).2 with q | q <;> rw [q] <;> decide) d
      exact ⟨z, e, r.mono so⟩
end
end Mine
end
section
open PySem PySem.Calls PyProof.Rows
namespace Mine
set_option autoImplicit false

abbrev testsSem (ifs : List Expr) (env : Env) : Sem Bool := forIn ifs true fun c r => if r = true then do let ok ← isTrue c env (eval c env); pure (ForInStep.yield ok) else pure (ForInStep.yield r)
abbrev IsBB : Heap → Bool → Bool → Prop := fun _ a b => a = b

inductive CompI (cx : Cx) (F' : Fm) (m0 : Loc) (H : AHeap) (s₀ : Shared) (I D : Addr) (xs : List PV) (p : PV) (W : List PV → List PV → AHeap → Prop) (k : Nat) (s' : Shared) : Prop
  | mk (i : Nat) (acc : List PV) (Hk : AHeap) (ys : Array Value) (c : Nat) (hi : i ≤ xs.length) (hk : k = xs.length - i) (ti : St cx F' m0 Hk s'.heap) (ki : Kp cx [] H s₀ Hk s') (iti : Itr cx s'.heap I i xs p) (ci : Clean cx Hk s'.heap I)
    (hDi : s'.heap.get? D = some (lstObj ys c)) (ri : RepL cx s'.heap ys.toList acc) (hHD : Hk D = none) (hacc : acc.length ≤ i) (hw : W (xs.drop i) acc Hk) : CompI cx F' m0 H s₀ I D xs p W k s'
section
variable {cx : Cx} {F : Fm} {m : Loc} {H H' : AHeap} {s s' : Shared} {I : Addr} {kd : Kd} {sc : Scope} {x n : Nat} {q : Bool} {cl : List (Str × Addr)}

/-- what no name or list holds stays -/
theorem Kp.same1 {s₁ s₂ : Shared} {H₁ H₂ : AHeap} (k : Kp cx [] H₁ s₁ H₂ s₂) {b : Addr} {o : Obj} (e : s₁.heap.get? b = some o) (hb : H₁ b = none) (hd : ∀ es ep, o.data ≠ .dict es ep) : H₂ b = none ∧ s₂.heap.get? b = some o := by
  obtain ⟨h, o', e', sm⟩ := k.keep b o e (fun q => nomatch q) hb
  rw [sm.eq hd] at e'; exact ⟨h, e'⟩

theorem comp_block {elt iter : Expr} {ifs : List Expr} {px pos : Pos} {xs : List PV} {p : PV} {aT : BPost → Loc → AHeap → Prop} {aE : Post → Loc → AHeap → Prop} {QF : List PV → AHeap → Prop}
    {RR : Value → Addr → Result → Shared → Prop} {E : Value → Shared → Prop} {s₀ s₂ : Shared} {h₂ : Heap} (fo : Fok cx n true kd F) (hsc : scOk kd (relab kd sc) sc (slot F.nm x) = true)
    (hcl1 : ∀ n c, cl.lookup n = some c → F.env.cells.lookup n = some c) (hcl2 : ∀ n, (n, NameKind.free) ∈ sc.names → (cl.lookup n).isSome = true)
    (hT : ∀ {C : Addr} {m' : Loc} {H : AHeap} {s : Shared} {Q : BPost}, Fok cx n true (relab kd sc) (compF F sc cl C x (relab kd sc)) → St cx (compF F sc cl C x (relab kd sc)) m' H s.heap → aT Q m' H →
      Ev IsBB cx (compF F sc cl C x (relab kd sc)) (testsSem ifs (compEnvC sc cl C F.env)) m' H s Q fun _ _ => False)
    (hE : ∀ {C : Addr} {m' : Loc} {H : AHeap} {s : Shared} {Q : Post}, Fok cx n true (relab kd sc) (compF F sc cl C x (relab kd sc)) → St cx (compF F sc cl C x (relab kd sc)) m' H s.heap → aE Q m' H →
      Ev (Rep cx) cx (compF F sc cl C x (relab kd sc)) (eval elt (compEnvC sc cl C F.env)) m' H s Q fun _ _ => False)
    (t : St cx F m H s₀.heap) (hs₂ : s₂ = { s₀ with heap := h₂ }) (g₂ : ∀ b o, s₀.heap.get? b = some o → h₂.get? b = some o) (fI : s₀.heap.get? I = none) (it : Itr cx h₂ I 0 xs p) (cI : Clean cx H h₂ I) (hl : xs.length ≤ LIM)
    (h : compW (Src p xs) (fun y K H => aT (fun b H => if b then aE (fun v H => K [v] H) (m.set x (some y)) H else K [] H) (m.set x (some y)) H) QF xs [] H)
    (hRR : ∀ D C s' H' vs mc, s₀.heap.get? C = none → s₀.heap.get? D = none → D ≠ C → s'.heap.Ns C mc → (∃ ys k, s'.heap.get? D = some (lstObj ys k) ∧ RepL cx s'.heap ys.toList vs ∧ vs.length ≤ LIM) → H' D = none → H' C = none → Holds cx s'.heap H' →
      Kp cx [] H s₀ H' s' → QF vs H' → RR (.ref D) C (.ok .next) s') :
    wpAny cx.M F.A (newList []) (fun acc s₃ => wpAny cx.M F.A (newFunctionEnv sc F.env.globals cl [] F.env.qual none .none (some F.env)) (fun cenv s₄ =>
      codeAny cx.M F.A (.compStart (.ListComp elt [⟨.Name (slot F.nm x) px, iter, ifs, 0⟩] sc pos) 0 (.ref I) acc { cenv with scope := relabel sc F.env }) (RR acc cenv.locals) s₄) E s₃) E s₂ := by
  have hL : LIM = 1048576 := rfl
  have hL' := LIM_le
  have hsc' := hsc
  unfold scOk at hsc'
  simp only [Bool.and_eq_true, beq_iff_eq, decide_eq_true_eq] at hsc'
  obtain ⟨⟨⟨⟨⟨⟨⟨hkind, _⟩, _⟩, hnc⟩, hloc⟩, hfr⟩, hx⟩, _⟩ := hsc'
  have hcell : ∀ y ∈ sc.names, y.2 ≠ .cell := fun y hy => by have := List.all_eq_true.mp hnc y hy; simpa using this
  subst hs₂
  refine wpAny_newObj_type (wpAny_newFunctionEnv hcell (by intro y hy; simp at hy) (fun h₁ hns₁ hsb₁ => ?_) hkind)
  dsimp only at hns₁ hsb₁ ⊢
  generalize hH2 : h₂.push { cls := .type "list", dict := none, data := .seq ([] : List Value).toArray } = H2 at hns₁ hsb₁ ⊢
  have hC : H2.objs.size = h₂.objs.size + 1 := by rw [← hH2, Heap.size_push]
  have hDC : h₂.objs.size ≠ H2.objs.size := by rw [hC]; exact Nat.ne_of_lt (Nat.lt_succ_self _)
  have below : ∀ b, b < h₂.objs.size → b ≠ H2.objs.size ∧ b ≠ h₂.objs.size := fun b hb => ⟨by rw [hC]; exact Nat.ne_of_lt (Nat.lt_succ_of_lt hb), Nat.ne_of_lt hb⟩
  have old : ∀ b o, h₂.get? b = some o → h₁.get? b = some o := fun b o e => hsb₁.extBut b o (below b (Heap.lt_size e)).1 (Heap.get?_push_of_some _ (hH2 ▸ Heap.get?_push_of_some _ e))
  have hD₁ : h₁.get? h₂.objs.size = some (lstObj #[] 0) := hsb₁.extBut _ _ hDC (Heap.get?_push_of_some _ (hH2 ▸ Heap.get?_push_size _ rfl))
  have fresh : ∀ a, h₂.objs.size ≤ a → s₀.heap.get? a = none := fun a ha => by
    cases e : s₀.heap.get? a with
    | none => rfl
    | some o' => exact absurd (Heap.lt_size (g₂ _ _ e)) (Nat.not_lt.mpr ha)
  have fC : s₀.heap.get? H2.objs.size = none := fresh _ (by rw [hC]; exact Nat.le_succ _)
  have fD : s₀.heap.get? h₂.objs.size = none := fresh _ (Nat.le_refl _)
  have bnone : ∀ a, s₀.heap.get? a = none → cx.B.get? a = none := fun a f => by
    cases e : cx.B.get? a with
    | none => rfl
    | some o => rw [t.base _ _ e] at f; cases f
  generalize hCg : H2.objs.size = C at *
  generalize hDg : h₂.objs.size = D at *
  clear hH2
  have hID : I ≠ D := by obtain ⟨_, _, oI, _, _, gI, _⟩ := cI; exact Nat.ne_of_lt (hDg ▸ Heap.lt_size gI)
  have fo' := compF_ok (C := C) fo hsc hcl1 hcl2
  have keep₁ : ∀ b o, s₀.heap.get? b = some o → h₁.get? b = some o := fun b o e => old b o (g₂ b o e)
  have t₁ : St cx (compF F sc cl C x (relab kd sc)) (m.set x none) H h₁ := comp_start fo hsc hcl1 t fC keep₁ hns₁
  have it₁ : Itr cx h₁ I 0 xs p := it.keep (fun b o e _ => old b o e) fun o e => old _ o e
  have cI₁ : Clean cx H h₁ I := ⟨cI.1, cI.2.1, it₁.clean⟩
  have hp : ((compEnvC sc cl C F.env).scope.kind == .class || ((compEnvC sc cl C F.env).scope.kind == .module && (compEnvC sc cl C F.env).locals != (compEnvC sc cl C F.env).globals)) = false := by
    simp [compEnvC, relabel, hkind]
  have hkx : (compEnvC sc cl C F.env).kindOf (slot F.nm x) = some .local := by rw [relab_eq fo]; exact hx
  have loop : ∀ s₃ : Shared, s₃ = { s₀ with heap := h₁, toks := s₀.toks + ([] : List (Str × Value)).length } →
      codeAny cx.M F.A (.compLoop (.ListComp elt [⟨.Name (slot F.nm x) px, iter, ifs, 0⟩] sc pos) 0 (.ref I) (.ref D) (compEnvC sc cl C F.env)) (RR (.ref D) C) s₃ := by
    rintro s₃ rfl
    refine codeAny_compLoop_tests (CompI cx (compF F sc cl C x (relab kd sc)) (m.set x none) H s₀ I D xs p (compW (Src p xs) (fun y K H => aT (fun b H => if b then aE (fun v H => K [v] H) (m.set x (some y)) H else K [] H) (m.set x (some y)) H) QF)) ?_ xs.length
      ⟨0, [], H, #[], 0, Nat.zero_le _, rfl, t₁, .grow keep₁ (fun _ _ _ e => e), it₁, cI₁, hD₁, .nil, t.heap.fresh fD, Nat.le_refl _, h⟩
    rintro k s' ⟨i, acc, Hk, ys, c, hi, rfl, ti, ki, iti, ci, hDi, ri, hHD, hacc, hw⟩
    by_cases hlt : i < xs.length
    · have hx1 : xs[i]? = some xs[i] := List.getElem?_eq_getElem hlt
      rw [List.drop_eq_getElem_cons hlt] at hw
      obtain ⟨sr, hw⟩ := hw
      refine next_ok (F := compF F sc cl C x (relab kd sc)) ti iti sr ci hx1 fun v s₄ rv it₄ c₄ tc₄ => ?_
      obtain ⟨h₄, tk₄, rfl, k₄⟩ := id tc₄
      have t₄ : St cx (compF F sc cl C x (relab kd sc)) (m.set x none) Hk h₄ := ti.touch ci k₄
      have kp₄ := ki.touch fI tc₄ ci.2.1
      have hD₄ : h₄.get? D = some (lstObj ys c) := k₄ D _ (Ne.symm hID) hDi
      have so₄ : ∀ b o, s'.heap.get? b = some o → Solid o → h₄.get? b = some o := fun b o e so => k₄ b o (by
        rintro rfl; obtain ⟨_, _, oI, T, vs, gI, hc, hT, hd⟩ := ci; rw [gI] at e; cases e; exact notSolid_of hc hT hd so) e
      obtain ⟨oC, esC, epC, mc, hoC, hdC, nsC, _⟩ := t₄.vars
      refine wpAny_assign_Name (wpAny_storeName_local hkx nsC (fun h₅ ns₅ sb₅ => ?_) hp)
      have nsC' : h₄.Ns C mc := nsC
      have sb₅' : Heap.SameBut C h₄ h₅ := sb₅
      have t₅ : St cx (compF F sc cl C x (relab kd sc)) (m.set x (some xs[i])) Hk h₅ := by
        have := t₄.setLocal (x := x) fo'.inj (by simp [compF, visC]) hkx nsC ns₅ rfl sb₅ rv
        rw [List.set_set] at this; exact this
      have hCD : C ≠ D := Ne.symm hDC
      have kk₅ : ∀ b o, b ≠ C → h₄.get? b = some o → h₅.get? b = some o := fun b o n e => by rw [sb₅'.2 b n]; exact e
      have so₅ : ∀ b o, h₄.get? b = some o → Solid o → h₅.get? b = some o := fun b o e so => kk₅ b o (by rintro rfl; rw [show h₄.get? b = some oC from hoC] at e; cases e; exact notSolid_dict hdC so) e
      have kp₅ : Kp cx [] H s₀ Hk { s' with heap := h₅, toks := tk₄ + 1 } := kp₄.touch (I := C) fC ⟨h₅, tk₄ + 1, rfl, kk₅⟩ (bnone _ fC)
      have hIC : I ≠ C := by
        obtain ⟨_, _, oI, _, _, gI, _, _, hd⟩ := c₄
        rintro rfl
        rw [show h₄.get? I = some oC from hoC] at gI; cases gI; rw [hdC] at hd; cases hd
      have it₅ : Itr cx h₅ I (i + 1) xs p := it₄.keep so₅ fun o e => kk₅ _ o hIC e
      have c₅ : Clean cx Hk h₅ I := ⟨c₄.1, c₄.2.1, it₅.clean⟩
      have hD₅ : h₅.get? D = some (lstObj ys c) := kk₅ D _ hDC hD₄
      have r₅ : RepL cx h₅ ys.toList acc := (ri.mono so₄).mono so₅
      refine wpAny_mono (hT fo' t₅ hw) (fun ok s₆ h₆ => ?_) fun _ _ ⟨_, _, _, _, _, _, _, f⟩ => f.elim
      obtain ⟨b, H₆, rfl, t₆, kp₆, hb⟩ := h₆
      have nd : ∀ es ep, (lstObj ys c).data ≠ .dict es ep := fun _ _ q => nomatch q
      have so₆ : ∀ b o, h₅.get? b = some o → Solid o → s₆.heap.get? b = some o := kp₆.solid0 t₅.heap
      have hD₆ := kp₆.same1 (b := D) hD₅ hHD nd
      have stepI : ∀ {sa sb : Shared} {Ha Hb : AHeap} {ma : Loc}, Kp cx [] Ha sa Hb sb → St cx (compF F sc cl C x (relab kd sc)) ma Ha sa.heap → Itr cx sa.heap I (i + 1) xs p → Clean cx Ha sa.heap I → Itr cx sb.heap I (i + 1) xs p ∧ Clean cx Hb sb.heap I := fun {sa sb Ha Hb ma} kp ta ita ca => by
        obtain ⟨hI, hB, oI, T, vs, gI, hc, hT, hd⟩ := ca
        have e1 := kp.same1 gI hI (fun _ _ q => by rw [hd] at q; cases q)
        have itb := ita.keep (kp.solid0 ta.heap) fun o e => by rw [gI] at e; cases e; exact e1.2
        exact ⟨itb, e1.1, hB, itb.clean⟩
      obtain ⟨it₆, c₆⟩ := stepI kp₆ t₅ it₅ c₅
      cases ok with
      | false =>
        rw [if_neg (by decide)] at hb ⊢
        exact ⟨xs.length - (i + 1), by first | lia | omega, i + 1, acc, H₆, ys, c, hlt, rfl, by have := t₆.forget x; rw [List.set_set] at this; exact this, kp₅.trans kp₆, it₆, c₆, hD₆.2, r₅.mono so₆, hD₆.1, Nat.le_succ_of_le hacc, by simpa using hb⟩
      | true =>
        rw [if_pos rfl] at hb ⊢
        refine wpAny_mono (hE fo' t₆ hb) (fun v₇ s₇ h₇ => ?_) fun _ _ ⟨_, _, _, _, _, _, _, f⟩ => f.elim
        obtain ⟨y, H₇, r₇, t₇, kp₇, hy⟩ := h₇
        have hD₇ := kp₇.same1 (b := D) hD₆.2 hD₆.1 nd
        have so₇ := kp₇.solid0 t₆.heap
        obtain ⟨it₇, c₇⟩ := stepI kp₇ t₆ it₆ c₆
        have ry : RepL cx s₇.heap ys.toList acc := (r₅.mono so₆).mono so₇
        have hsz := arr_len ry
        refine call_meets PySem.F.slot_list_append ⟨_, hD₇.2, rfl⟩ PySem.F.entry_list_append (PySem.F.args_list_append_2 _ _) (list_append _ ys c _ (by first | lia | omega)) ⟨hD₇.2, ?_⟩
        obtain ⟨c', g'⟩ := lst_update hD₇.2 (fun z => z.push v₇)
        have nsD : ∀ o, s₇.heap.get? D = some o → ¬ Solid o := fun o e => by
          rw [hD₇.2] at e; cases e
          rintro (⟨i, n, q⟩ | ⟨n, t, u, v, q⟩ | ⟨⟨C, q⟩, _⟩) <;> simp [lstObj, tupObj, rngObj] at q
        have so₈ : ∀ b o, s₇.heap.get? b = some o → Solid o → (s₇.heap.update D (Obj.mapSeq fun z => z.push v₇)).get? b = some o := fun b o e so => upd_keeps b o (by rintro rfl; exact nsD o e so) e
        have bD := bnone _ fD
        have t₈ : St cx (compF F sc cl C x (relab kd sc)) (m.set x (some xs[i])) H₇ (s₇.heap.update D (Obj.mapSeq fun z => z.push v₇)) := by
          have ndl : ∀ b o es ep, s₇.heap.get? b = some o → o.data = .dict es ep → b ≠ D := fun b o es ep e q => by rintro rfl; rw [hD₇.2] at e; cases e; cases q
          refine ⟨fun b o e => upd_keeps b o (by rintro rfl; rw [bD] at e; cases e) (t₇.base b o e), t₇.off, t₇.heap.keepBut hD₇.1 upd_keeps nsD, fun env he => ?_, t₇.own, ?_, fun nn cc hc' => ?_⟩
          · obtain ⟨hk, L, o, es, ep, hf, hH, hb, ho, hd'⟩ := t₇.frames env he
            exact ⟨hk, L, o, es, ep, hf, hH, hb, upd_keeps L o (ndl L o es ep ho hd') ho, hd'⟩
          · obtain ⟨o, es, ep, mc, ho, hd', ns, hv⟩ := t₇.vars
            have nn := ndl _ o es ep ho hd'
            exact ⟨o, es, ep, mc, upd_keeps _ o nn ho, hd', ns.at fun o e => upd_keeps _ o nn e, fun i v h1 h2 h3 => let ⟨x, q, r⟩ := hv i v h1 h2 h3; ⟨x, q, r.mono so₈⟩⟩
          · obtain ⟨h1, h2, o, xx, ho, hd', hv⟩ := t₇.cells nn cc hc'
            exact ⟨h1, h2, o, xx, upd_keeps cc o (by rintro rfl; rw [hD₇.2] at ho; cases ho; cases hd') ho, hd', fun i v a b c d => let ⟨y, q, r⟩ := hv i v a b c d; ⟨y, q, r.mono so₈⟩⟩
        have kp₈ : Kp cx [] H s₀ H₇ { s₇ with heap := s₇.heap.update D (Obj.mapSeq fun z => z.push v₇), toks := s₇.toks } := ((kp₅.trans kp₆).trans kp₇).touch (I := D) fD ⟨_, s₇.toks, rfl, upd_keeps⟩ bD
        have it₈ : Itr cx (s₇.heap.update D (Obj.mapSeq fun z => z.push v₇)) I (i + 1) xs p := it₇.keep so₈ fun o e => upd_keeps _ o hID e
        refine ⟨xs.length - (i + 1), by first | lia | omega, i + 1, acc ++ [y], H₇, ys.push v₇, c', hlt, rfl, by have := t₈.forget x; rw [List.set_set] at this; exact this, kp₈, it₈, ⟨c₇.1, c₇.2.1, it₈.clean⟩, g', ?_, hD₇.1, by simp; first | lia | omega, hy⟩
        have := (ry.append (.cons r₇ .nil)).mono so₈
        simpa using this
    · have hi' : i = xs.length := by first | lia | omega
      subst hi'
      rw [List.drop_length] at hw
      obtain ⟨sr, hw⟩ := hw
      refine end_ok (F := compF F sc cl C x (relab kd sc)) (fo'.quiet rfl) ti iti sr (by simp) fun s₄ tc₄ => ?_
      obtain ⟨h₄, tk₄, rfl, k₄⟩ := id tc₄
      have t₄ : St cx (compF F sc cl C x (relab kd sc)) (m.set x none) Hk h₄ := ti.touch ci k₄
      obtain ⟨oC, esC, epC, mc, hoC, hdC, nsC, _⟩ := t₄.vars
      have so₄ : ∀ b o, s'.heap.get? b = some o → Solid o → h₄.get? b = some o := fun b o e so => k₄ b o (by
        rintro rfl; obtain ⟨_, _, oI, T, vs, gI, hc, hT, hd⟩ := ci; rw [gI] at e; cases e; exact notSolid_of hc hT hd so) e
      exact hRR D C _ Hk acc mc fC fD hDC nsC ⟨ys, c, k₄ D _ (Ne.symm hID) hDi, ri.mono so₄, by first | lia | omega⟩ hHD t₄.own.1 t₄.heap (ki.touch fI tc₄ ci.2.1) hw
  exact codeAny_compStart_list (loop _ rfl) (self_ok it₁ (loop _ rfl))
end
end Mine
end
section
open PySem PySem.Calls PyProof.Rows
namespace Mine
set_option autoImplicit false

section
variable {cx : Cx} {F : Fm} {m : Loc} {H H' : AHeap} {s s' : Shared} {I : Addr} {kd : Kd} {sc : Scope} {x n : Nat} {q : Bool} {cl : List (Str × Addr)} {Q : Post} {X : XPost}

abbrev RepLs (cx : Cx) (k : Nat) : Heap → List Value → List PV → Prop := fun h vs ps => RepL cx h vs ps ∧ ps.length = k

theorem comp_fin' {vs : List PV} {D C : Addr} {mc : Str → Option Value} (t : St cx F m H s.heap) (fC : s.heap.get? C = none) (fD : s.heap.get? D = none) (hDC : D ≠ C) (ns : s'.heap.Ns C mc)
    (hD : ∃ ys k, s'.heap.get? D = some (lstObj ys k) ∧ RepL cx s'.heap ys.toList vs ∧ vs.length ≤ LIM) (hHD : H' D = none) (hHC : H' C = none) (hh : Holds cx s'.heap H') (k : Kp cx [] H s H' s') (h : alloc (.list vs) Q H')
    {h' : Heap} (sb : Heap.SameBut C s'.heap h') : St cx F m (upd H' D (.list vs)) h' ∧ Kp cx [] H s (upd H' D (.list vs)) { s' with heap := h' } ∧ Q (.obj D) (upd H' D (.list vs)) := by
  obtain ⟨ys, c, gD, r, l⟩ := hD
  obtain ⟨oC, es, ep, hoC, hdC, _⟩ := ns
  have bC : cx.B.get? C = none := by
    cases e : cx.B.get? C with
    | none => rfl
    | some o => rw [t.base _ _ e] at fC; cases fC
  have g : ∀ b o, b ≠ C → s'.heap.get? b = some o → h'.get? b = some o := fun b o n e => by rw [sb.2 b n]; exact e
  have nsC : ∀ o, s'.heap.get? C = some o → ¬ Solid o := fun o e => by rw [hoC] at e; cases e; exact notSolid_dict hdC
  have so : ∀ b o, s'.heap.get? b = some o → Solid o → h'.get? b = some o := fun b o e s => g b o (by rintro rfl; exact nsC o e s) e
  have hh' : Holds cx h' H' := hh.keepBut hHC g nsC
  have gD' := g D _ hDC gD
  have hu : Holds cx h' (upd H' D (.list vs)) := hh'.put (fun b o _ e => e) (fun o e => by
    rw [gD'] at e; cases e
    rintro (⟨i, n, q⟩ | ⟨n, t, u, v, q⟩ | ⟨⟨C, q⟩, _⟩) <;> simp [lstObj, tupObj, rngObj] at q) ⟨ys, c, gD', r.mono so, l⟩
  have k₁ : Kp cx [] H s H' { s' with heap := h' } := k.touch fC ⟨h', s'.toks, rfl, g⟩ bC
  have k₂ : Kp cx [] H s (upd H' D (.list vs)) { s' with heap := h' } := ⟨k₁.same, fun b o e nS hn => by
      obtain ⟨h1, o', e', sm⟩ := k₁.keep b o e nS hn
      exact ⟨by rw [upd_ne (by rintro rfl; rw [fD] at e; cases e)]; exact h1, o', e', sm⟩, k₁.alive, k₁.base⟩
  exact ⟨t.step k₂ hu, k₂, alloc_use h hHD⟩
theorem comp_fin {vs : List PV} {D C : Addr} {mc : Str → Option Value} (t : St cx F m H s.heap) (fC : s.heap.get? C = none) (fD : s.heap.get? D = none) (hDC : D ≠ C) (ns : s'.heap.Ns C mc)
    (hD : ∃ ys k, s'.heap.get? D = some (lstObj ys k) ∧ RepL cx s'.heap ys.toList vs ∧ vs.length ≤ LIM) (hHD : H' D = none) (hHC : H' C = none) (hh : Holds cx s'.heap H') (k : Kp cx [] H s H' s') (h : alloc (.list vs) Q H')
    {h' : Heap} (sb : Heap.SameBut C s'.heap h') : OkG (Rep cx) cx F m H s Q (.ref D) { s' with heap := h' } :=
  let ⟨a, b, c⟩ := comp_fin' t fC fD hDC ns hD hHD hHC hh k h sb; ⟨_, _, .obj D, a, b, c⟩

theorem comp_ok {elt iter : Expr} {ifs : List Expr} {px pos : Pos} {aT : BPost → Loc → AHeap → Prop} {aE : Post → Loc → AHeap → Prop}
    (fo : Fok cx n true kd F) (hsc : scOk kd (relab kd sc) sc (slot F.nm x) = true)
    (hIt : Ev (Rep cx) cx F (eval iter F.env) m H s (fun v H => itemsW v (fun xs src => compW src (fun y K H => aT (fun b H => if b then aE (fun v H => K [v] H) (m.set x (some y)) H else K [] H) (m.set x (some y)) H)
      (fun vs H => alloc (.list vs) Q H) xs [] H) H) X)
    (hT : ∀ {cl : List (Str × Addr)} {C : Addr} {m' : Loc} {H : AHeap} {s : Shared} {Q : BPost}, Fok cx n true (relab kd sc) (compF F sc cl C x (relab kd sc)) → St cx (compF F sc cl C x (relab kd sc)) m' H s.heap → aT Q m' H →
      Ev IsBB cx (compF F sc cl C x (relab kd sc)) (testsSem ifs (compEnvC sc cl C F.env)) m' H s Q fun _ _ => False)
    (hE : ∀ {cl : List (Str × Addr)} {C : Addr} {m' : Loc} {H : AHeap} {s : Shared} {Q : Post}, Fok cx n true (relab kd sc) (compF F sc cl C x (relab kd sc)) → St cx (compF F sc cl C x (relab kd sc)) m' H s.heap → aE Q m' H →
      Ev (Rep cx) cx (compF F sc cl C x (relab kd sc)) (eval elt (compEnvC sc cl C F.env)) m' H s Q fun _ _ => False)
    (hs : ∀ x, foldedSetIterable iter F.env x = pure x) :
    Ev (Rep cx) cx F (eval (.ListComp elt [⟨.Name (slot F.nm x) px, iter, ifs, 0⟩] sc pos) F.env) m H s Q X := by
  have hsc' := hsc
  unfold scOk at hsc'
  simp only [Bool.and_eq_true, beq_iff_eq, decide_eq_true_eq] at hsc'
  obtain ⟨⟨⟨⟨⟨⟨⟨hkind, _⟩, _⟩, hnc⟩, hloc⟩, hfr⟩, hx⟩, _⟩ := hsc'
  obtain ⟨cl, hclos, hcl1, hcl2⟩ := closure_ok fo.cells hfr
  have hnames : ∀ y ∈ sc.names, y.2 = .local → sc.names.lookup y.1 = some .local := fun y hy hl => by
    have := List.all_eq_true.mp hloc y hy
    simp [hl] at this; exact this
  unfold Ev
  rw [eval_ListComp]
  refine wpAny_comprehension_free (use := none) rfl hs hclos hkind hnames (wpAny_mono hIt (fun xv s₁ h₁ => ?_) fun _ _ e => e)
  obtain ⟨p, H₁, rv, t₁, k₁, hw⟩ := h₁
  refine iter_ok (F := F) rv t₁ hw fun I xs h' fI g it cI sr hl hc => ?_
  refine comp_block (RR := fun acc C => compPost cx.M F.A _ none _ acc C) fo hsc hcl1 hcl2 hT hE t₁ rfl g fI it cI hl hc ?_
  intro D C s' H' vs mc fC fD hDC ns hD hHD hHC hh k hq
  exact ⟨mc, ns, fun h'' sb => (comp_fin t₁ fC fD hDC ns hD hHD hHC hh k hq sb).older k₁⟩

theorem args_sem {f : Value} {k : Nat} {trees : List (Bool × Sem Value)} {Q : List PV → AHeap → Prop} (hp : ∀ x ∈ trees, x.1 = false) (h : Ev (RepLs cx k) cx F (spliced trees) m H s Q X) {QQ : Args → Shared → Prop}
    (hk : ∀ vs s', OkG (RepLs cx k) cx F m H s Q vs s' → QQ ⟨vs, []⟩ s') : wpAny cx.M F.A (evalArgs f true trees []) QQ (ErP cx F m H s X) s := by
  cases trees with
  | nil =>
    unfold evalArgs
    show wpAny cx.M F.A (spliced [] >>= _) QQ _ s
    refine wpAny_bind (wpAny_mono h (fun vs s' h' => ?_) fun _ _ x => x)
    refine wpAny_holding ?_
    exact wpAny_bind (wpAny_pure (wpAny_bind (wpAny_pure (wpAny_pure (hk vs s' h')))))
  | cons a r =>
    obtain ⟨b, x⟩ := a
    have := hp (b, x) List.mem_cons_self
    simp only at this
    subst this
    exact evalArgs_plain (wpAny_mono h (fun vs s' h' => hk vs s' h') fun _ _ e => e)

noncomputable def litV : Const → Option PV
  | .none => some .none
  | .bool b => some (.bool b)
  | .int i => some (.int i)
  | .str s => some (.str s)
  | _ => none
theorem litW_iff {c : Const} {Q : Post} (h : litW c Q H) : ∃ v, litV c = some v ∧ Q v H := by
  unfold litW at h
  split at h <;> first | exact ⟨_, rfl, h⟩ | exact h.elim
theorem lit_ok {c : Const} {k : Nat} {p : Pos} {v : PV} {A : Around} {env : Env} {QQ : Value → Shared → Prop} {E : Value → Shared → Prop} (hv : litV c = some v)
    (hQ : ∀ x tk, (∀ h, Rep cx h x v) → QQ x { s with toks := tk }) : wpAny cx.M A (eval (.Constant c k p) env) QQ E s := by
  unfold litV at hv
  split at hv <;> cases hv
  · exact wpAny_pure (hQ _ s.toks fun _ => .none)
  · exact wpAny_pure (hQ _ s.toks fun _ => .bool _)
  · exact fun _ _ _ => hQ _ _ fun _ => .int _ _
  · exact fun _ _ _ => hQ _ _ fun _ => .str _ _

theorem pairs_ok {g : Gl} {env : Env} {A : Around} {pos : Pos} : ∀ (ks : List (Str × Pos)) (es : AEs) {nm : List Str} {m : Loc} {Q : List PV → AHeap → Prop} {X : XPost} {s : Shared} {QQ : List (Value × Value) → Shared → Prop} {E : Value → Shared → Prop}, es.lits = true → ks.length = es.len →
    awpL g es Q X m H → (∀ prs tk kvs ps, Carries cx.sk prs kvs → kvs.map (·.1) = ks.map (·.1) → (∀ h, RepL cx h (kvs.map (·.2)) ps) → Q ps H → QQ prs { s with toks := tk }) →
    wpAny cx.M A (evalPairs (pairTrees (ks.map fun x => some (.Constant (.str x.1) 0 x.2)) (es.toEs nm) env pos)) QQ E s
  | [], .nil, _, _, _, _, s, _, _, _, _, h, hQ => pairTrees_nil_walk (hQ [] s.toks [] [] trivial rfl (fun _ => .nil) h)
  | [], .cons _ _, _, _, _, _, _, _, _, _, hl, _, _ => by simp [AEs.len] at hl
  | _ :: _, .nil, _, _, _, _, _, _, _, _, hl, _, _ => by simp [AEs.len] at hl
  | k :: ks, .cons e es, nm, m, Q, X, s, QQ, E, hlit, hl, h, hQ => by
    obtain ⟨c, kk, pp, rfl⟩ : ∃ c kk pp, e = .lit c kk pp := by
      cases e with
      | lit c kk pp => exact ⟨c, kk, pp, rfl⟩
      | _ => simp [AEs.lits] at hlit
    have hlit' : es.lits = true := hlit
    have hw : litW c (fun v H => awpL g es (fun vs H => Q (v :: vs) H) X m H) H := h
    obtain ⟨v, hv, hw⟩ := litW_iff hw
    refine pairTrees_cons_walk ?_
    refine Constant_str ?_
    refine lit_ok hv fun y tk ry => ?_
    refine pairs_ok ks es hlit' (by simpa [AEs.len] using hl) hw fun prs tk' kvs ps c1 c2 c3 c4 => ?_
    refine hQ _ tk' ((k.1, y) :: kvs) (v :: ps) ⟨by simp [Cx.sk, PySem.strKind, Value.isStrOf], rfl, c1⟩ (by simp [c2]) (fun h => .cons (ry h) (c3 h)) c4

theorem merged_rep {h : Heap} : ∀ {kvs : List (Str × Value)} {ks : List Str} {ps : List PV} {acc : List (Str × Value)} {pcc : List (Str × PV)}, kvs.map (·.1) = ks → RepL cx h (kvs.map (·.2)) ps → RepK cx h acc pcc →
    RepK cx h (merged acc kvs) ((ks.zip ps).foldl (fun d p => dset d p.1 p.2) pcc)
  | [], _, _, _, _, rfl, .nil, r => r
  | (k, v) :: kvs, _, _, acc, pcc, rfl, .cons a rs, r => by
    simp only [List.map_cons, List.zip_cons_cons, List.foldl_cons]
    exact merged_rep (acc := stored acc k v) rfl rs (r.dset a)
theorem dictOf_len (ks : List Str) (ps : List PV) : (dictOf ks ps).length ≤ ks.length := by
  unfold dictOf
  have : ∀ (l : List (Str × PV)) (acc : List (Str × PV)), (l.foldl (fun d p => dset d p.1 p.2) acc).length ≤ acc.length + l.length := by
    intro l
    induction l with
    | nil => intro acc; simp
    | cons a l ih =>
      intro acc
      have h1 := ih (dset acc a.1 a.2)
      have h2 := dset_length_le acc a.1 a.2
      simp only [List.foldl_cons, List.length_cons]
      first | lia | omega
  have h := this (ks.zip ps) []
  have : (ks.zip ps).length ≤ ks.length := by simp [List.length_zip]; exact Nat.min_le_left _ _
  simp at h; simp at this; first | lia | omega

theorem dict_ok {g : Gl} {ks : List (Str × Pos)} {es : AEs} {pos : Pos} (hm : ∃ a o, sysModules < a ∧ cx.B.get? a = some o) (hlit : es.lits = true) (hl : ks.length = es.len) (hn : es.len ≤ 15) (t : St cx F m H s.heap)
    (h : awpL g es (fun vs H => alloc (.dict (dictOf (ks.map (·.1)) vs)) Q H) X m H) :
    Ev (Rep cx) cx F (eval (.Dict (ks.map fun x => some (.Constant (.str x.1) 0 x.2)) (es.toEs F.nm) pos) F.env) m H s Q X := by
  have hL : LIM = 1048576 := rfl
  have lenE : ∀ es : AEs, (es.toEs F.nm).length = es.len := fun es => by
    have : ∀ k (es : AEs), es.len = k → (es.toEs F.nm).length = k := by
      intro k
      induction k with
      | zero => intro es h; cases es <;> simp_all [AEs.len, AEs.toEs]
      | succ k ih => intro es h; cases es <;> simp_all [AEs.len, AEs.toEs]
    exact this _ es rfl
  have fr := get_size_none s.heap
  have nm : (s.heap.objs.size == sysModules) = false := by
    obtain ⟨a, o, la, e⟩ := hm
    have := Heap.lt_size (t.base _ _ e)
    simp only [beq_eq_false_iff_ne]
    intro q; rw [← q] at la; exact absurd (Nat.lt_trans la this) (Nat.lt_irrefl _)
  cases ks with
  | nil =>
    cases es with
    | cons _ _ => simp [AEs.len] at hl
    | nil =>
      refine wpAny_Dict_empty (M := cx.M) ?_
      refine .alloc (tk := s.toks) (a := s.heap.objs.size) push_keeps fr (.obj _) ?_ t (alloc_use h (t.heap.fresh fr))
      exact ⟨[], Heap.DictOf.new _, .nil, by simp [dictOf], nm⟩
  | cons k ks =>
    refine wpAny_Dict_walk (knd := cx.sk) (by simp) (by rw [lenE]; simpa using hl) (by simp) (by rw [List.length_map]; first | lia | omega) ?_
    refine pairs_ok (H := H) (cx := cx) (k :: ks) es hlit hl h fun prs tk kvs ps c1 c2 c3 c4 => ?_
    have hD : (s.heap.push { cls := .type "dict", data := .dict #[] }).DictOf cx.sk s.heap.objs.size [] := Heap.DictOf.new _
    refine ⟨kvs, c1, hD, fun h' hm' sb => ?_⟩
    have keep : ∀ b o, s.heap.get? b = some o → h'.get? b = some o := fun b o e => by
      rw [sb.2 b (by rintro rfl; rw [fr] at e; cases e)]; exact push_keeps b o e
    have hk2 : kvs.length = ks.length + 1 := by have := congrArg List.length c2; simpa using this
    refine .alloc (a := s.heap.objs.size) keep fr (.obj _) ?_ t (alloc_use c4 (t.heap.fresh fr))
    refine ⟨_, hm', ?_, ?_, nm⟩
    · exact merged_rep c2 (c3 _) .nil
    · have := dictOf_len ((k :: ks).map (·.1)) ps
      simp only [List.length_map] at this
      simp only [List.length_cons] at this hl
      first | lia | omega
end
end Mine
end
section
open PySem PySem.Calls PyProof.Rows
namespace Mine
set_option autoImplicit false

section
variable {cx : Cx} {g : Gl} {fl : List Str} {mg mb : Str → Option Value} {n : Nat}

theorem St.ns_g {F : Fm} {m : Loc} {H : AHeap} {h : Heap} {a : Addr} {mm : Str → Option Value} (t : St cx F m H h) (x : cx.B.Ns a mm) : h.Ns a mm := x.keeps t.base

theorem glob_ok {F : Fm} {kd : Kd} {q : Bool} {m : Loc} {H : AHeap} {s : Shared} {x : Str} {p : Pos} {v : Value} {QQ : Value → Shared → Prop} {E : Value → Shared → Prop} (fo : Fok cx n q kd F) (gk : isGlob kd x = true) (t : St cx F m H s.heap) (gns : cx.B.Ns cx.ga mg)
    (hv : mg x = some v) (hQ : QQ v s) : wpAny cx.M F.A (eval (.Name x p) F.env) QQ E s := by
  unfold isGlob at gk
  simp only [Bool.and_eq_true, beq_iff_eq, Bool.not_eq_true'] at gk
  refine Name_function_global fo.kind (by rw [fo.kdo]; exact gk.1) ?_ gk.2
  exact loadGlobal_global (by rw [fo.glob]; exact t.ns_g gns) hv hQ
theorem bglob_ok {F : Fm} {kd : Kd} {q : Bool} {m : Loc} {H : AHeap} {s : Shared} {x : Str} {p : Pos} {v : Value} {QQ : Value → Shared → Prop} {E : Value → Shared → Prop} (fo : Fok cx n q kd F) (gk : isGlob kd x = true) (t : St cx F m H s.heap) (gns : cx.B.Ns cx.ga mg) (bns : cx.B.Ns cx.ba mb)
    (hm : mg x = none) (hv : mb x = some v) (hQ : QQ v s) : wpAny cx.M F.A (eval (.Name x p) F.env) QQ E s := by
  unfold isGlob at gk
  simp only [Bool.and_eq_true, beq_iff_eq, Bool.not_eq_true'] at gk
  refine Name_function_global fo.kind (by rw [fo.kdo]; exact gk.1) ?_ gk.2
  exact loadGlobal_builtin (by rw [fo.glob]; exact t.ns_g gns) hm (by rw [fo.bltn]; exact t.ns_g bns) hv hQ

theorem var_ok {F : Fm} {kd : Kd} {q : Bool} {m : Loc} {H : AHeap} {s : Shared} {i : Nat} {p : Pos} {Q : Post} {X : XPost} (fo : Fok cx n q kd F) (hv : F.vis i = true) (hk : isVar kd (slot F.nm i) = true) (hd : (slot F.nm i == ("__debug__" : Str)) = false) (hcd : (slot F.nm i == ("__classdict__" : Str)) = false)
    (t : St cx F m H s.heap) (h : varW (m.getD i none) Q H) : Ev (Rep cx) cx F (eval (.Name (slot F.nm i) p) F.env) m H s Q X := by
  unfold varW at h
  split at h
  · rename_i v hm
    refine wpAny_Name ?_ hd
    unfold isVar at hk
    simp only [Bool.or_eq_true, beq_iff_eq] at hk
    have cellCase : F.env.kindOf (slot F.nm i) ≠ some .local → ∀ c, F.env.cells.lookup (slot F.nm i) = some c → ∃ y, s.heap.IsCell c (some y) ∧ Rep cx s.heap y v := fun nl c hc => by
      obtain ⟨_, _, o, x, ho, hd, hv'⟩ := t.cells _ c hc
      obtain ⟨y, rfl, r⟩ := hv' i v hv rfl nl hm
      exact ⟨y, ⟨o, ho, hd⟩, r⟩
    rcases hk with (hk | hk) | hk
    · obtain ⟨o, es, ep, mc, ho, hd, ns, hv'⟩ := t.vars
      have hl : F.env.kindOf (slot F.nm i) = some .local := by rw [fo.kdo]; exact hk
      obtain ⟨x, hx, r⟩ := hv' i v hv hl hm
      exact wpAny_loadName_local fo.kind hl ns hx (.toks s.toks r t h)
    · have hl : F.env.kindOf (slot F.nm i) = some .cell := by rw [fo.kdo]; exact hk
      obtain ⟨c, hc⟩ := fo.cells _ (.inl hk)
      obtain ⟨y, hy, r⟩ := cellCase (by rw [hl]; decide) c hc
      exact wpAny_loadName_cell fo.kind hl hc hy (.toks s.toks r t h)
    · have hl : F.env.kindOf (slot F.nm i) = some .free := by rw [fo.kdo]; exact hk
      obtain ⟨c, hc⟩ := fo.cells _ (.inr hk)
      obtain ⟨y, hy, r⟩ := cellCase (by rw [hl]; decide) c hc
      exact wpAny_loadName_free fo.kind hl hc hy (.toks s.toks r t h) hcd
  · exact h.elim

noncomputable def semL (nm : List Str) (env : Env) : AEs → List (Bool × Sem Value)
  | .nil => []
  | .cons e es => (false, eval (e.toE nm) env) :: semL nm env es
theorem starEach_toEs (nm : List Str) (env : Env) : ∀ es : AEs, starEach (es.toEs nm) env = semL nm env es
  | .nil => rfl
  | .cons e es => by
    show starEach (e.toE nm :: es.toEs nm) env = _
    rw [show starEach (e.toE nm :: es.toEs nm) env = (false, eval (e.toE nm) env) :: starEach (es.toEs nm) env by cases e <;> rfl, starEach_toEs nm env es]
    rfl
theorem backTo_sem (nm : List Str) (env : Env) (pos : Pos) : ∀ es : AEs, backTo pos (semL nm env es) = semL nm env es
  | .nil => rfl
  | .cons e es => by
    have := backTo_sem nm env pos es
    unfold backTo at this ⊢
    simp only [semL, List.map_cons, this]
    rfl
theorem semL_plain (nm : List Str) (env : Env) : ∀ es : AEs, ∀ x ∈ semL nm env es, x.1 = false
  | .nil, x, h => by simp [semL] at h
  | .cons e es, x, h => by
    rcases List.mem_cons.mp h with rfl | h
    · rfl
    · exact semL_plain nm env es x h
theorem len_toEs (nm : List Str) : ∀ es : AEs, (es.toEs nm).length = es.len
  | .nil => rfl
  | .cons e es => by simp [AEs.toEs, AEs.len, len_toEs nm es]
theorem folded_ok (nm : List Str) (env : Env) (e : AE) (x : Value) : foldedSetIterable (e.toE nm) env x = pure x := by cases e <;> rfl
theorem marked_ok (nm : List Str) (o : CmpOp) (e : AE) (t : Sem Value) : markedBehindIn o (e.toE nm) t = t := by cases e <;> rfl
theorem isTrue_plain (nm : List Str) (env : Env) (e : AE) (w : Sem Value) (h1 : ∀ x p, e ≠ .not x p) (h2 : ∀ o es p, e ≠ .bop o es p) (h3 : ∀ l o r p, e ≠ .cmp l o r p) :
    isTrue (e.toE nm) env w = (do let v ← w; standAt (e.toE nm).pos; holding [v] (truthy v)) := by
  cases e with
  | not x p => exact absurd rfl (h1 x p)
  | bop o es p => exact absurd rfl (h2 o es p)
  | cmp l o r p => exact absurd rfl (h3 l o r p)
  | _ => rfl
theorem subscripted_plain (nm : List Str) (e : AE) : ∀ o i, subscripted (e.toE nm) false o i = operate [o, i] (getItem o i) := fun _ _ => by cases e <;> rfl
theorem base_ok (nm : List Str) (env : Env) (e : AE) (a : Str) (w : Sem Value) (h : blbase e = true) : attributeBase (e.toE nm) a env w = w := by
  cases e with
  | call f es pf p =>
    cases es with
    | nil => simp [blbase] at h
    | cons e es => rfl
  | blt b es pf p =>
    cases es with
    | nil => simp [blbase] at h
    | cons e es => rfl
  | _ => rfl
end
end Mine
end
section
open PySem PySem.Calls PyProof.Rows
namespace Mine
set_option autoImplicit false

section
variable {cx : Cx} {g : Gl} {fl : List Str} {mg mb : Str → Option Value} {n : Nat}

/-- carry a value over a later step -/
theorem Ev.two {F : Fm} {m : Loc} {H : AHeap} {s : Shared} {X : XPost} {Q : Post} {α : Type} {β : Type} {R : Heap → α → β → Prop} {QQ : β → AHeap → Prop} {t : Sem α} {f : α → Sem Value}
    (h : Ev R cx F t m H s QQ X) (k : ∀ a b s₁ H₁, R s₁.heap a b → St cx F m H₁ s₁.heap → (∀ x o, s.heap.get? x = some o → Solid o → s₁.heap.get? x = some o) → QQ b H₁ → Ev (Rep cx) cx F (f a) m H₁ s₁ Q X) (t₀ : St cx F m H s.heap) :
    Ev (Rep cx) cx F (t >>= f) m H s Q X := Ev.bind h fun a b s₁ H₁ r st kp q => k a b s₁ H₁ r st (kp.solid0 t₀.heap) q

theorem Ev.mono_rep {F : Fm} {m : Loc} {H : AHeap} {s : Shared} {X : XPost} {Q : BPost} {t : Sem Value} (h : Ev IsB cx F t m H s Q X) : Ev (Rep cx) cx F t m H s (fun v H => ∃ b, v = .bool b ∧ Q b H) X :=
  wpAny_mono h (fun _ _ ⟨b, H', r, st, k, q⟩ => ⟨.bool b, H', by subst r; exact .bool b, st, k, b, rfl, q⟩) fun _ _ e => e
theorem Ev.weaken {α β : Type} {R : Heap → α → β → Prop} {F : Fm} {m : Loc} {H : AHeap} {s : Shared} {X : XPost} {Q Q' : β → AHeap → Prop} {t : Sem α} (h : Ev R cx F t m H s Q X) (k : ∀ b H, Q b H → Q' b H) : Ev R cx F t m H s Q' X :=
  wpAny_mono h (fun _ _ ⟨b, H', r, st, kp, q⟩ => ⟨b, H', r, st, kp, k b H' q⟩) fun _ _ e => e

theorem meth_case {F : Fm} {m : Loc} {H : AHeap} {s : Shared} {Q : Post} {X : XPost} {k : Meth} {o : AE} {es : AEs} {pa p : Pos}
    (hline : (pa.endLine == p.line) = true) (hlen : es.len ≤ 3) (hb : blbase o = true)
    (ho : Ev (Rep cx) cx F (eval (o.toE F.nm) F.env) m H s (fun v H => RecvW (awpL g es (fun vs H => methW k v vs Q H) X m H) H k v) X)
    (hes : ∀ {H : AHeap} {s : Shared} {QQ : List PV → AHeap → Prop}, St cx F m H s.heap → awpL g es QQ X m H → Ev (RepLs cx es.len) cx F (spliced (semL F.nm F.env es)) m H s QQ X) :
    Ev (Rep cx) cx F (eval (.Call (.Attribute (o.toE F.nm) k.name pa) (es.toEs F.nm) [] p) F.env) m H s Q X := by
  have hst : backTo p (starEach (es.toEs F.nm) F.env) = semL F.nm F.env es := by rw [starEach_toEs, backTo_sem]
  refine wpAny_Call_method_late (trees := semL F.nm F.env es) (base_ok _ _ _ _ _ hb) ?_ hline hst ?_
  · rw [hst]
    have : (semL F.nm F.env es).all (fun x => !x.1) = true := List.all_eq_true.mpr fun x hx => by rw [semL_plain _ _ _ x hx]; rfl
    rw [this, len_toEs]
    simp only [List.length_nil, List.isEmpty_nil, if_true]
    have : decide (es.len + 0 + 0 < 30) = true := by simp; first | lia | omega
    rw [this]; rfl
  · refine wpAny_mono ho (fun ov s₁ h₁ => ?_) fun _ _ e => e
    obtain ⟨v, H₁, rv, t₁, k₁, hr⟩ := h₁
    have fin : awpL g es (fun vs H => methW k v vs Q H) X m H₁ → wpAny cx.M F.A (callWith p (.builtin k.id) [ov] (semL F.nm F.env es) []) (OkG (Rep cx) cx F m H s Q) (ErP cx F m H s X) s₁ := fun hw => by
      refine callWith_builtin ?_ ?_
      · rw [List.any_eq_false]; intro x hx; rw [semL_plain _ _ _ x hx]; decide
      · refine wpAny_mono (args_sem (semL_plain _ _ _) (hes t₁ hw) (QQ := fun a s₂ => wpAny cx.M F.A (call (.builtin k.id) ([ov] ++ a.pos) a.kw) (OkG (Rep cx) cx F m H s Q) (ErP cx F m H s X) s₂) fun vs s₂ h₂ => ?_) (fun _ _ h => h) fun _ _ e => e.older k₁
        obtain ⟨ps, H₂, rs, t₂, k₂, hm⟩ := h₂
        exact Ev.older (k₁.trans k₂) (meth_ok (rv.mono (k₂.solid0 t₁.heap)) rs.1 t₂ hm)
    cases hr with
    | list ha hk hw =>
      rename_i a xs
      obtain rfl := Rep.objI rv
      obtain ⟨items, nn, gg, _⟩ := t₁.list ha
      have e2 : ∀ b, Value.ref a = .ref b → ∃ ob, s₁.heap.get? b = some ob ∧ ob.dict = none := fun b e => by cases e; exact ⟨_, gg, rfl⟩
      cases k <;> cases hk
      · exact ⟨"list", _, PySem.F.plainAttrs_list, PySem.F.slot_list_append, PySem.F.type_list_append, ⟨_, gg, rfl⟩, e2, fin hw⟩
      · exact ⟨"list", _, PySem.F.plainAttrs_list, PySem.F.slot_list_pop, PySem.F.type_list_pop, ⟨_, gg, rfl⟩, e2, fin hw⟩
      · exact ⟨"list", _, PySem.F.plainAttrs_list, PySem.F.slot_list_insert, PySem.F.type_list_insert, ⟨_, gg, rfl⟩, e2, fin hw⟩
      · exact ⟨"list", _, PySem.F.plainAttrs_list, PySem.F.slot_list_count, PySem.F.type_list_count, ⟨_, gg, rfl⟩, e2, fin hw⟩
    | str hw =>
      obtain ⟨u, rfl⟩ := rv.strI
      exact ⟨"str", _, PySem.F.plainAttrs_str, PySem.F.slot_str_join, PySem.F.type_str_join, typeIs_str _ _ _, (fun _ e => nomatch e), fin hw⟩

variable (ck : Cok cx g fl mg mb n)
include ck

theorem call_case {F : Fm} {kd : Kd} {m : Loc} {H : AHeap} {s : Shared} {Q : Post} {X : XPost} {f : Str} {es : AEs} {pf p : Pos} (fo : Fok cx n true kd F) (t : St cx F m H s.heap)
    (hg : isGlob kd f = true) (hf : fl.contains f = true) (hw : awpL g es (fun vs H => g.C f vs H Q X) X m H)
    (hes : ∀ {H : AHeap} {s : Shared} {QQ : List PV → AHeap → Prop}, St cx F m H s.heap → awpL g es QQ X m H → Ev (RepLs cx es.len) cx F (spliced (semL F.nm F.env es)) m H s QQ X) :
    Ev (Rep cx) cx F (eval (.Call (.Name f pf) (es.toEs F.nm) [] p) F.env) m H s Q X := by
  obtain ⟨a, o, fd, hm, ho, hd⟩ := ck.fns f hf
  unfold Ev
  rw [arm_eval_Call_Name', starEach_toEs, backTo_sem]
  refine wpAny_bind (glob_ok fo hg t ck.gns hm ?_)
  refine callWith_function (o := o) (fd := fd) (first := []) ?_
  refine args_sem (semL_plain _ _ _) (hes t hw) fun vs s₂ h₂ => ?_
  obtain ⟨ps, H₂, rs, t₂, k₂, hc⟩ := h₂
  exact ⟨⟨t₂.base _ _ ho, hd⟩, Ev.older k₂ (ck.calls f hf hc fo hm rs.1 t₂)⟩

theorem blt_case {F : Fm} {kd : Kd} {q : Bool} {m : Loc} {H : AHeap} {s : Shared} {Q : Post} {X : XPost} {b : Blt} {es : AEs} {pf p : Pos} (fo : Fok cx n q kd F) (t : St cx F m H s.heap) (hh : F.A.handled = none)
    (hg : isGlob kd b.name = true) (hw : awpL g es (fun vs H => bltW b vs Q H) X m H)
    (hes : ∀ {H : AHeap} {s : Shared} {QQ : List PV → AHeap → Prop}, St cx F m H s.heap → awpL g es QQ X m H → Ev (RepLs cx es.len) cx F (spliced (semL F.nm F.env es)) m H s QQ X) :
    Ev (Rep cx) cx F (eval (.Call (.Name b.name pf) (es.toEs F.nm) [] p) F.env) m H s Q X := by
  obtain ⟨h1, h2⟩ := ck.blts b
  unfold Ev
  rw [arm_eval_Call_Name', starEach_toEs, backTo_sem]
  refine wpAny_bind (bglob_ok fo hg t ck.gns ck.bns h1 h2 ?_)
  have hany : (semL F.nm F.env es).any (·.1) = false := by rw [List.any_eq_false]; intro x hx; rw [semL_plain _ _ _ x hx]; decide
  have key : ∀ {f : Value}, f = b.val → wpAny cx.M F.A (evalArgs f true (semL F.nm F.env es) []) (fun a s₁ => wpAny cx.M F.A (call f ([] ++ a.pos) a.kw) (OkG (Rep cx) cx F m H s Q) (ErP cx F m H s X) s₁) (ErP cx F m H s X) s := by
    rintro f rfl
    refine args_sem (semL_plain _ _ _) (hes t hw) fun vs s₂ h₂ => ?_
    obtain ⟨ps, H₂, rs, t₂, k₂, hc⟩ := h₂
    exact Ev.older k₂ (blt_ok hh rs.1 t₂ hc)
  have hk := key rfl
  have hb : (∃ id, b.val = .builtin id) ∨ ∃ T, b.val = .type T := by cases b <;> first | exact .inl ⟨_, rfl⟩ | exact .inr ⟨_, rfl⟩
  generalize b.val = f at hk hb ⊢
  rcases hb with ⟨id, rfl⟩ | ⟨T, rfl⟩
  · exact callWith_builtin hany hk
  · exact PySem.callWith_type hany hk
end
end Mine
end
section
open PySem PySem.Calls PyProof.Rows
namespace Mine
set_option autoImplicit false
set_option linter.unusedSectionVars false
set_option linter.unusedVariables false

section
variable {cx : Cx} {g : Gl} {fl : List Str} {mg mb : Str → Option Value} {n : Nat}
variable (ck : Cok cx g fl mg mb n)

theorem tup_made {F : Fm} {m : Loc} {H : AHeap} {s : Shared} {vs : List Value} {ps : List PV} {Q : Post} {X : XPost} (r : RepL cx s.heap vs ps) (l : ps.length ≤ LIM) (t : St cx F m H s.heap) (h : Q (.tup ps) H) : Ev (Rep cx) cx F (newTuple vs) m H s Q X := by
  have hl := r.length
  have := LIM_le
  refine wpAny_newTuple ?_ (by first | lia | omega)
  exact new_tup (tk := s.toks) (c := 0) t push_keeps (Heap.get?_push_size _ rfl) (by simpa using r) l h
theorem list_made {F : Fm} {m : Loc} {H : AHeap} {s : Shared} {vs : List Value} {ps : List PV} {Q : Post} {X : XPost} (r : RepL cx s.heap vs ps) (l : ps.length ≤ LIM) (t : St cx F m H s.heap) (h : alloc (.list ps) Q H) : Ev (Rep cx) cx F (newList vs) m H s Q X := by
  have hl := r.length
  have := LIM_le
  refine wpAny_newList ?_ (by first | lia | omega)
  exact new_list (tk := s.toks) (c := 0) t push_keeps (get_size_none _) (Heap.get?_push_size _ rfl) (by simpa using r) l h

theorem truth_ok {F : Fm} {m : Loc} {H : AHeap} {s : Shared} {v : Value} {p : PV} {Q : BPost} {X : XPost} (r : Rep cx s.heap v p) (t : St cx F m H s.heap) (h : truthW p fun b => Q b H) : Ev IsBB cx F (truthy v) m H s Q X := by
  unfold truthW at h
  split at h
  · (first | (obtain ⟨_, rfl⟩ := Rep.intI r) | (obtain ⟨_, rfl⟩ := Rep.strI r) | (obtain rfl := Rep.objI r) | (obtain rfl := Rep.boolI r) | (obtain rfl := Rep.noneI r)); exact wpAny_truthy_bool (.toks s.toks rfl t h)
  · exact h.elim
theorem neg_ok {F : Fm} {m : Loc} {H : AHeap} {s : Shared} {i : Int} {u : Tok} {Q : Post} {X : XPost} (t : St cx F m H s.heap) (h : Q (.int (-i)) H) : Ev (Rep cx) cx F (unaryOp .USub (.int i u)) m H s Q X :=
  PyProof.Rows.neg_int (.toks _ (.int _ _) t h)
theorem not_ok {F : Fm} {m : Loc} {H : AHeap} {s : Shared} {b : Bool} {Q : Post} {X : XPost} (t : St cx F m H s.heap) (h : Q (.bool (!b)) H) : Ev (Rep cx) cx F (unaryOp .Not (.bool b)) m H s Q X :=
  PyProof.Rows.not_of (wpAny_truthy_bool (.toks s.toks (.bool _) t h))
theorem soundW {F : Fm} {m : Loc} {H : AHeap} {s : Shared} {Q : BPost} {X : XPost} (e : AE) (h1 : ∀ x p, e ≠ .not x p) (h2 : ∀ o es p, e ≠ .bop o es p) (h3 : ∀ l o r p, e ≠ .cmp l o r p)
    (h : Ev (Rep cx) cx F (eval (e.toE F.nm) F.env) m H s (fun v H => truthW v fun b => Q b H) X) : Ev IsBB cx F (isTrue (e.toE F.nm) F.env (eval (e.toE F.nm) F.env)) m H s Q X := by
  rw [isTrue_plain _ _ _ _ h1 h2 h3]
  exact Ev.bind h fun a pa s₁ H₁ ra t₁ k₁ h₁ => Ev.stand (Ev.holding (truth_ok ra t₁ h₁))

theorem m1_ok {F : Fm} {m : Loc} {H : AHeap} {s : Shared} {Q : Post} {X : XPost} {c cu : Pos} (t : St cx F m H s.heap) (h : Q (.int (-1)) H) : Ev (Rep cx) cx F (eval (.UnaryOp .USub (.Constant (.int 1) 0 c) cu) F.env) m H s Q X := by
  refine Ev.two (Q := Q) (QQ := fun v H => v = .int 1 ∧ Q (.int (-1)) H) (lit_ok (cx := cx) (c := .int 1) rfl fun x tk r => .toks tk (r _) t ⟨rfl, h⟩) (fun a pa s₁ H₁ ra t₁ _ h₁ => ?_) t
  obtain ⟨rfl, h₁⟩ := h₁
  refine Ev.stand (Ev.holding ?_)
  obtain ⟨u, rfl⟩ := ra.intI
  exact neg_ok t₁ h₁
noncomputable def evalEachL (nm : List Str) (env : Env) : AEs → List (Sem Value)
  | .nil => []
  | .cons e es => eval (e.toE nm) env :: evalEachL nm env es
theorem evalEach_toEs (nm : List Str) (env : Env) : ∀ es : AEs, evalEach (es.toEs nm) env = evalEachL nm env es
  | .nil => rfl
  | .cons e es => by
    show eval (e.toE nm) env :: evalEach (es.toEs nm) env = _
    rw [evalEach_toEs nm env es]; rfl

include ck
theorem isi_case {F : Fm} {kd : Kd} {q : Bool} {m : Loc} {H : AHeap} {s : Shared} {Q : Post} {X : XPost} {e : AE} {c : ICls} {pf p1 p2 p3 p : Pos} (fo : Fok cx n q kd F) (hi : isGlob kd "isinstance" = true) (hc : iclsOk kd c = true) (t : St cx F m H s.heap)
    (h : Ev (Rep cx) cx F (eval (e.toE F.nm) F.env) m H s (fun v H => isiW c v (fun b => Q (.bool b) H) H) X) : Ev (Rep cx) cx F (eval ((AE.isi e c pf p1 p2 p3 p).toE F.nm) F.env) m H s Q X := by
  have hst : starEach [e.toE F.nm, c.expr p1 p2 p3] F.env = [(false, eval (e.toE F.nm) F.env), (false, eval (c.expr p1 p2 p3) F.env)] := by
    have h1 : ∀ r, starEach (e.toE F.nm :: r) F.env = (false, eval (e.toE F.nm) F.env) :: starEach r F.env := fun r => by cases e <;> rfl
    rw [h1]
    cases c <;> rfl
  show wpAny cx.M F.A (eval (.Call (.Name "isinstance" pf) [e.toE F.nm, c.expr p1 p2 p3] [] p) F.env) _ _ s
  rw [arm_eval_Call_Name', hst]
  refine wpAny_bind (bglob_ok fo hi t ck.gns ck.bns ck.isi.1 ck.isi.2 ?_)
  refine callWith_builtin rfl (evalArgs_plain (spliced_cons (wpAny_mono h (fun v s₁ h₁ => ?_) fun _ _ e => e)))
  obtain ⟨pv, H₁, rv, t₁, k₁, h₁⟩ := h₁
  have bt : ∀ (T : String), T ∈ ["str", "list", "tuple", "bool", "int", "ValueError"] → isGlob kd (Str.ofString T) = true → Ev (Rep cx) cx F (call (.builtin "isinstance") [v, .type T]) m H₁ s₁ Q X →
      wpAny cx.M F.A (spliced [(false, eval (.Name (Str.ofString T) p1) F.env)]) (fun vs s₂ => wpAny cx.M F.A (call (.builtin "isinstance") ([] ++ v :: vs) []) (OkG (Rep cx) cx F m H s Q) (ErP cx F m H s X) s₂) (ErP cx F m H s X) s₁ := fun T hT hg hw =>
    spliced_cons (bglob_ok fo hg t₁ ck.gns ck.bns (ck.bty T hT).1 (ck.bty T hT).2 (spliced_nil (Ev.older k₁ hw)))
  have bas : c.basic = true → (∀ T, c.T = some T → Ev (Rep cx) cx F (call (.builtin "isinstance") [v, .type T]) m H₁ s₁ Q X) →
      wpAny cx.M F.A (spliced [(false, eval (c.expr p1 p2 p3) F.env)]) (fun vs s₂ => wpAny cx.M F.A (call (.builtin "isinstance") ([] ++ v :: vs) []) (OkG (Rep cx) cx F m H s Q) (ErP cx F m H s X) s₂) (ErP cx F m H s X) s₁ := fun hb hT => by
    cases c <;> cases hb
    · exact bt "str" (by decide) hc (hT _ rfl)
    · exact bt "list" (by decide) hc (hT _ rfl)
    · exact bt "tuple" (by decide) hc (hT _ rfl)
    · exact bt "bool" (by decide) hc (hT _ rfl)
    · exact bt "int" (by decide) hc (hT _ rfl)
  cases isiW_to h₁ with
  | val b e q => exact bas b fun T hT => isi_val hT rv t₁ e q
  | list b ha q => obtain rfl := Rep.objI rv; exact bas b fun T hT => isi_list hT t₁ ha q
  | own q =>
    simp only [iclsOk, Bool.and_eq_true, beq_iff_eq] at hc
    obtain ⟨C, h3, h4⟩ := ck.own _ _ hc.2
    refine spliced_cons (glob_ok fo hc.1 t₁ ck.gns h4 (spliced_nil ?_))
    exact Ev.older k₁ (ck.isx rv t₁ h3 q)
  | value q => exact bt "ValueError" (by decide) hc (ck.isv rv t₁ q)

mutual
theorem soundE : ∀ (e : AE) {F : Fm} {kd : Kd} {q : Bool} {m : Loc} {H : AHeap} {s : Shared} {Q : Post} {X : XPost}, Fok cx n q kd F → okE fl F.nm q F.vis kd e = true → St cx F m H s.heap → awpE g e Q X m H →
    Ev (Rep cx) cx F (eval (e.toE F.nm) F.env) m H s Q X
  | .lit c k p, F, kd, q, m, H, s, Q, X, fo, ok, t, h => by
    obtain ⟨v, hv, h⟩ := litW_iff h
    exact lit_ok (cx := cx) hv fun x tk r => .toks tk (r _) t h
  | .var i p, F, kd, q, m, H, s, Q, X, fo, ok, t, h => by
    replace ok := (show (_ && _) = true from ok); simp only [Bool.and_eq_true, Bool.not_eq_true'] at ok
    exact var_ok fo ok.1.1.1 ok.1.1.2 ok.1.2 ok.2 t h
  | .glob x p, F, kd, q, m, H, s, Q, X, fo, ok, t, h => by
    have h' : varW (g.G x) Q H := h
    unfold varW at h'
    split at h'
    · rename_i v hv
      obtain ⟨w, hw, r⟩ := ck.consts x v hv
      exact glob_ok fo ok t ck.gns hw (.toks s.toks (r.mono fun b o e _ => t.base b o e) t h')
    · exact h'.elim
  | .bin l o r p, F, kd, q, m, H, s, Q, X, fo, ok, t, h => by
    replace ok := (show (_ && _) = true from ok); simp only [Bool.and_eq_true] at ok
    refine Ev.two (soundE l fo ok.1 t h) (fun a pa s₁ H₁ ra t₁ _ h₁ => ?_) t
    refine Ev.two (Ev.holding (soundE r fo ok.2 t₁ h₁)) (fun b pb s₂ H₂ rb t₂ so h₂ => ?_) t₁
    exact Ev.stand (wpAny_operating (bin_ok (ra.mono so) rb t₂ h₂))
  | .neg e p, F, kd, q, m, H, s, Q, X, fo, ok, t, h => by
    refine Ev.two (soundE e fo ok t h) (fun a pa s₁ H₁ ra t₁ _ h₁ => ?_) t
    refine Ev.stand (Ev.holding ?_)
    split at h₁
    · obtain ⟨u, rfl⟩ := ra.intI; exact neg_ok t₁ h₁
    · exact h₁.elim
  | .not e p, F, kd, q, m, H, s, Q, X, fo, ok, t, h => by
    refine Ev.two (soundE e fo ok t h) (fun a pa s₁ H₁ ra t₁ _ h₁ => ?_) t
    refine Ev.stand (Ev.holding ?_)
    unfold truthW at h₁
    split at h₁
    · cases ra; exact not_ok t₁ h₁
    · exact h₁.elim
  | .bop o es p, F, kd, q, m, H, s, Q, X, fo, ok, t, h => by
    show Ev (Rep cx) cx F (boolOp p o (evalEach (es.toEs F.nm) F.env)) m H s Q X
    rw [evalEach_toEs]
    exact soundV o p es fo ok t h
  | .cmp l o r p, F, kd, q, m, H, s, Q, X, fo, ok, t, h => by
    replace ok := (show (_ && _) = true from ok); simp only [Bool.and_eq_true] at ok
    refine Ev.two (soundE l fo ok.1 t h) (fun a pa s₁ H₁ ra t₁ _ h₁ => ?_) t
    show Ev (Rep cx) cx F (compareChain p a [o] [markedBehindIn o (r.toE F.nm) (eval (r.toE F.nm) F.env)]) m H₁ s₁ Q X
    rw [marked_ok]
    refine Ev.two (Ev.holding (soundE r fo ok.2 t₁ h₁)) (fun b pb s₂ H₂ rb t₂ so h₂ => ?_) t₁
    refine Ev.stand (wpAny_operating ?_)
    have hu := fo.units
    exact (Ev.mono_rep (cmp_ok (by first | lia | omega) (ra.mono so) rb t₂ h₂)).weaken fun v H ⟨b, e, q⟩ => by subst e; exact q
  | .sub e i p, F, kd, q, m, H, s, Q, X, fo, ok, t, h => by
    replace ok := (show (_ && _) = true from ok); simp only [Bool.and_eq_true] at ok
    refine Ev.two (soundE e fo ok.1 t h) (fun a pa s₁ H₁ ra t₁ _ h₁ => ?_) t
    refine Ev.two (Ev.holding (soundE i fo ok.2 t₁ h₁)) (fun b pb s₂ H₂ rb t₂ so h₂ => ?_) t₁
    exact Ev.stand (sub_ok (subscripted_plain _ _) (ra.mono so) rb t₂ h₂)
  | .sfrom e i ps p, F, kd, q, m, H, s, Q, X, fo, ok, t, h => by
    replace ok := (show (_ && _) = true from ok); simp only [Bool.and_eq_true] at ok
    refine Subscript_ (wpAny_mono (soundE e fo ok.1 t h) (fun a s₁ h₁ => ?_) fun _ _ e => e)
    obtain ⟨pa, H₁, ra, t₁, k₁, h₁⟩ := h₁
    refine wpAny_bind (wpAny_mono (soundE i fo ok.2 t₁ h₁) (fun b s₂ h₂ => ?_) fun _ _ e => e.older k₁)
    obtain ⟨pb, H₂, rb, t₂, k₂, h₂⟩ := h₂
    refine wpAny_bind (wpAny_holding (wpAny_pure (wpAny_bind (wpAny_holding (wpAny_pure (wpAny_newObj_type ?_))))))
    exact Ev.older (((k₁.trans k₂)).trans (.grow (tk := s₂.toks) push_keeps fun _ _ _ e => e)) (sfrom_ok (fun _ _ => rfl) (ra.mono (k₂.solid0 t₁.heap)) rb t₂ h₂)
  | .sto e i ps p, F, kd, q, m, H, s, Q, X, fo, ok, t, h => by
    replace ok := (show (_ && _) = true from ok); simp only [Bool.and_eq_true] at ok
    refine Subscript_ (wpAny_mono (soundE e fo ok.1 t h) (fun a s₁ h₁ => ?_) fun _ _ e => e)
    obtain ⟨pa, H₁, ra, t₁, k₁, h₁⟩ := h₁
    refine wpAny_bind (wpAny_pure (wpAny_bind (wpAny_holding (wpAny_mono (soundE i fo ok.2 t₁ h₁) (fun b s₂ h₂ => ?_) fun _ _ e => e.older k₁))))
    obtain ⟨pb, H₂, rb, t₂, k₂, h₂⟩ := h₂
    refine wpAny_bind (wpAny_holding (wpAny_pure (wpAny_newObj_type ?_)))
    exact Ev.older (((k₁.trans k₂)).trans (.grow (tk := s₂.toks) push_keeps fun _ _ _ e => e)) (sto_ok (fun _ _ => rfl) (ra.mono (k₂.solid0 t₁.heap)) rb t₂ h₂)
  | .srev e c ps p cu, F, kd, q, m, H, s, Q, X, fo, ok, t, h => by
    refine Subscript_ (wpAny_mono (soundE e fo ok t h) (fun a s₁ h₁ => ?_) fun _ _ e => e)
    obtain ⟨pa, H₁, ra, t₁, k₁, h₁⟩ := h₁
    refine wpAny_bind (wpAny_pure (wpAny_bind (wpAny_holding (wpAny_pure (wpAny_bind (wpAny_holding (wpAny_mono (m1_ok (Q := fun w H => w = .int (-1) ∧ RevW Q H pa) (X := X) t₁ ⟨rfl, h₁⟩) (fun b s₂ h₂ => ?_) fun _ _ e => e.older k₁)))))))
    obtain ⟨pb, H₂, rb, t₂, k₂, rfl, h₂⟩ := h₂
    obtain ⟨u, rfl⟩ := rb.intI
    refine wpAny_newObj_type ?_
    exact Ev.older (((k₁.trans k₂)).trans (.grow (tk := s₂.toks) push_keeps fun _ _ _ e => e)) (rev_ok (fun _ _ => rfl) (ra.mono (k₂.solid0 t₁.heap)) t₂ h₂)
  | .tup es k p, F, kd, q, m, H, s, Q, X, fo, ok, t, h => by
    replace ok := (show (_ && _) = true from ok); simp only [Bool.and_eq_true, decide_eq_true_eq] at ok
    show Ev (Rep cx) cx F (do standAt p; newTuple (← spliced (backTo p (starEach (es.toEs F.nm) F.env)))) m H s Q X
    rw [starEach_toEs, backTo_sem]
    refine Ev.stand (Ev.two (soundL es fo ok.1 t h) (fun a ps s₁ H₁ ra t₁ _ h₁ => ?_) t)
    have hL : LIM = 1048576 := rfl
    have hl := ra.2
    exact tup_made ra.1 (by first | lia | omega) t₁ h₁
  | .list es p, F, kd, q, m, H, s, Q, X, fo, ok, t, h => by
    replace ok := (show (_ && _) = true from ok); simp only [Bool.and_eq_true, decide_eq_true_eq] at ok
    show Ev (Rep cx) cx F (do standAt p; newList (← spliced (backTo p (starEach (es.toEs F.nm) F.env)))) m H s Q X
    rw [starEach_toEs, backTo_sem]
    refine Ev.stand (Ev.two (soundL es fo ok.1 t h) (fun a ps s₁ H₁ ra t₁ _ h₁ => ?_) t)
    have hL : LIM = 1048576 := rfl
    have hl := ra.2
    exact list_made ra.1 (by first | lia | omega) t₁ h₁
  | .tape pc p, F, kd, q, m, H, s, Q, X, fo, ok, t, h => by
    refine Ev.stand (f := fun _ => spliced [(false, eval (.Constant (.int 0) 0 pc) F.env)] >>= fun vs => newList vs) ?_
    refine wpAny_bind (spliced_cons (lit_ok (cx := cx) (v := .int 0) rfl fun x tk r => spliced_nil ?_))
    obtain ⟨u, rfl⟩ := (r s.heap).intI
    refine wpAny_newList ?_ (by rw [sizeLine_eq]; simp)
    have fr := get_size_none s.heap
    have ro : RepO cx (s.heap.push (lstObj #[.int 0 u] 0)) s.heap.objs.size (.tape 0) := ⟨u, 0, Heap.get?_push_size _ rfl⟩
    exact .alloc (a := s.heap.objs.size) push_keeps fr (.obj _) ro t (alloc_use h (t.heap.fresh fr))
  | .dict ks vs p, F, kd, q, m, H, s, Q, X, fo, ok, t, h => by
    replace ok := (show (_ && _) = true from ok); simp only [Bool.and_eq_true, decide_eq_true_eq] at ok
    exact dict_ok ck.mods ok.1.1 ok.1.2 ok.2 t h
  | .call f es pf p, F, kd, q, m, H, s, Q, X, fo, ok, t, h => by
    replace ok := (show (_ && _) = true from ok); simp only [Bool.and_eq_true] at ok
    obtain ⟨⟨⟨rfl, hg⟩, hf⟩, hes⟩ := ok
    exact call_case ck fo t hg hf h fun t' h' => soundL es fo hes t' h'
  | .blt b es pf p, F, kd, q, m, H, s, Q, X, fo, ok, t, h => by
    replace ok := (show (_ && _) = true from ok); simp only [Bool.and_eq_true] at ok
    exact blt_case ck fo t (fo.quiet ok.1.1) ok.1.2 h fun t' h' => soundL es fo ok.2 t' h'
  | .isi e c pf p1 p2 p3 p, F, kd, q, m, H, s, Q, X, fo, ok, t, h => by
    replace ok := (show (_ && _) = true from ok); simp only [Bool.and_eq_true] at ok
    exact isi_case ck fo ok.1.1 ok.1.2 t (soundE e fo ok.2 t h)
  | .meth o k es pa p, F, kd, q, m, H, s, Q, X, fo, ok, t, h => by
    replace ok := (show (_ && _) = true from ok); simp only [Bool.and_eq_true, decide_eq_true_eq] at ok
    exact meth_case ok.1.1.2 ok.1.2 ok.2 (soundE o fo ok.1.1.1.1 t h) fun t' h' => soundL es fo ok.1.1.1.2 t' h'
  | .umeth .., F, kd, q, m, H, s, Q, X, fo, ok, t, h => absurd (show false = true from ok) (by decide)
  | .attr .., F, kd, q, m, H, s, Q, X, fo, ok, t, h => absurd (show false = true from ok) (by decide)
  | .comp e x px it cs sc p, F, kd, q, m, H, s, Q, X, fo, ok, t, h => by
    replace ok := (show (_ && _) = true from ok); simp only [Bool.and_eq_true, decide_eq_true_eq] at ok
    obtain ⟨⟨⟨⟨⟨hit, hsc⟩, he⟩, hcs⟩, hlen⟩, rfl⟩ := ok
    refine comp_ok (aT := fun Q m H => awpC g cs Q (fun _ _ => False) m H) (aE := fun Q m H => awpE g e Q (fun _ _ => False) m H) fo hsc (soundE it fo hit t h) (fun {cl C m' H s Q} fo' t' h' => ?_) (fun {cl C m' H s Q} fo' t' h' => ?_) (folded_ok _ _ _)
    · exact soundC cs fo' hcs hlen t' h'
    · exact soundE e fo' he t' h'
theorem soundL : ∀ (es : AEs) {F : Fm} {kd : Kd} {q : Bool} {m : Loc} {H : AHeap} {s : Shared} {Q : List PV → AHeap → Prop} {X : XPost}, Fok cx n q kd F → okEs fl F.nm q F.vis kd es = true → St cx F m H s.heap → awpL g es Q X m H →
    Ev (RepLs cx es.len) cx F (spliced (semL F.nm F.env es)) m H s Q X
  | .nil, F, kd, q, m, H, s, Q, X, fo, ok, t, h => spliced_nil (.toks s.toks ⟨.nil, rfl⟩ t h)
  | .cons e es, F, kd, q, m, H, s, Q, X, fo, ok, t, h => by
    replace ok := (show (_ && _) = true from ok); simp only [Bool.and_eq_true] at ok
    refine spliced_cons (wpAny_mono (soundE e fo ok.1 t h) (fun v s₁ h₁ => ?_) fun _ _ x => x)
    obtain ⟨pv, H₁, rv, t₁, k₁, h₁⟩ := h₁
    refine wpAny_mono (soundL es fo ok.2 t₁ h₁) (fun vs s₂ h₂ => ?_) fun _ _ x => x.older k₁
    obtain ⟨ps, H₂, rs, t₂, k₂, h₂⟩ := h₂
    exact ⟨pv :: ps, H₂, ⟨.cons (rv.mono (k₂.solid0 t₁.heap)) rs.1, by simp [AEs.len, rs.2]⟩, t₂, k₁.trans k₂, h₂⟩
theorem soundV : ∀ (o : BoolOp) (p : Pos) (es : AEs) {F : Fm} {kd : Kd} {q : Bool} {m : Loc} {H : AHeap} {s : Shared} {Q : Post} {X : XPost}, Fok cx n q kd F → okEs fl F.nm q F.vis kd es = true → St cx F m H s.heap → awpV g o es Q X m H →
    Ev (Rep cx) cx F (boolOp p o (evalEachL F.nm F.env es)) m H s Q X
  | _, _, .nil, _, _, _, _, _, _, _, _, _, _, _, h => by simp [awpV] at h
  | o, p, .cons e .nil, F, kd, q, m, H, s, Q, X, fo, ok, t, h => by
    replace ok := (show (_ && _) = true from ok); simp only [Bool.and_eq_true] at ok
    have h' : awpE g e Q X m H := by simpa [awpV] using h
    exact soundE e fo ok.1 t h'
  | o, p, .cons e (.cons e' es), F, kd, q, m, H, s, Q, X, fo, ok, t, h => by
    replace ok := (show (_ && _) = true from ok); simp only [Bool.and_eq_true] at ok
    have ok' : okEs fl F.nm q F.vis kd (.cons e' es) = true := ok.2
    refine Ev.two (soundE e fo ok.1 t h) (fun a pa s₁ H₁ ra t₁ _ h₁ => ?_) t
    unfold truthW at h₁
    split at h₁
    · rename_i b
      cases ra
      refine Ev.stand (wpAny_bind (wpAny_holding (wpAny_truthy_bool ?_)))
      cases o <;> cases b
      · exact Ev.pure (.bool _) t₁ h₁
      · exact soundV .And p (.cons e' es) fo ok' t₁ h₁
      · exact soundV .Or p (.cons e' es) fo ok' t₁ h₁
      · exact Ev.pure (.bool _) t₁ h₁
    · exact h₁.elim
theorem soundB : ∀ (e : AE) {F : Fm} {kd : Kd} {q : Bool} {m : Loc} {H : AHeap} {s : Shared} {Q : BPost} {X : XPost}, Fok cx n q kd F → okE fl F.nm q F.vis kd e = true →
    (∀ {m : Loc} {H : AHeap} {s : Shared} {Q : Post} {X : XPost}, St cx F m H s.heap → awpE g e Q X m H → Ev (Rep cx) cx F (eval (e.toE F.nm) F.env) m H s Q X) → St cx F m H s.heap → awpB g e (awpE g e) Q X m H →
    Ev IsBB cx F (isTrue (e.toE F.nm) F.env (eval (e.toE F.nm) F.env)) m H s Q X
  | .not e p, F, kd, q, m, H, s, Q, X, fo, ok, hW, t, h => by
    refine Ev.bind (soundB e fo ok (fun t h => soundE e fo ok t h) t h) fun b b' s₁ H₁ rb t₁ k₁ h₁ => ?_
    have rb : b = b' := rb
    subst rb
    exact Ev.pure rfl t₁ h₁
  | .bop o es p, F, kd, q, m, H, s, Q, X, fo, ok, hW, t, h => soundBs o es fo ok t h
  | .cmp l o r p, F, kd, q, m, H, s, Q, X, fo, ok, hW, t, h => by
    replace ok := (show (_ && _) = true from ok); simp only [Bool.and_eq_true] at ok
    refine Ev.bind (soundE l fo ok.1 t h) fun a pa s₁ H₁ ra t₁ k₁ h₁ => ?_
    show Ev IsBB cx F (testChain p a [o] [markedBehindIn o (r.toE F.nm) (eval (r.toE F.nm) F.env)]) m H₁ s₁ Q X
    rw [marked_ok]
    refine Ev.bind (Ev.holding (soundE r fo ok.2 t₁ h₁)) fun b pb s₂ H₂ rb t₂ k₂ h₂ => ?_
    have hu := fo.units
    refine Ev.stand (Ev.bind (wpAny_operating (cmp_ok (by first | lia | omega) (ra.mono (k₂.solid0 t₁.heap)) rb t₂ h₂)) fun c c' s₃ H₃ rc t₃ k₃ h₃ => ?_)
    have rc : c = .bool c' := rc
    subst rc
    exact Ev.holding (wpAny_truthy_bool (.toks s₃.toks rfl t₃ h₃))
  | .lit c k p, F, kd, q, m, H, s, Q, X, fo, ok, hW, t, h => soundW _ (fun _ _ => (nomatch ·)) (fun _ _ _ => (nomatch ·)) (fun _ _ _ _ => (nomatch ·)) (hW t h)
  | .var i p, F, kd, q, m, H, s, Q, X, fo, ok, hW, t, h => soundW _ (fun _ _ => (nomatch ·)) (fun _ _ _ => (nomatch ·)) (fun _ _ _ _ => (nomatch ·)) (hW t h)
  | .glob x p, F, kd, q, m, H, s, Q, X, fo, ok, hW, t, h => soundW _ (fun _ _ => (nomatch ·)) (fun _ _ _ => (nomatch ·)) (fun _ _ _ _ => (nomatch ·)) (hW t h)
  | .bin l o r p, F, kd, q, m, H, s, Q, X, fo, ok, hW, t, h => soundW _ (fun _ _ => (nomatch ·)) (fun _ _ _ => (nomatch ·)) (fun _ _ _ _ => (nomatch ·)) (hW t h)
  | .neg e p, F, kd, q, m, H, s, Q, X, fo, ok, hW, t, h => soundW _ (fun _ _ => (nomatch ·)) (fun _ _ _ => (nomatch ·)) (fun _ _ _ _ => (nomatch ·)) (hW t h)
  | .sub e i p, F, kd, q, m, H, s, Q, X, fo, ok, hW, t, h => soundW _ (fun _ _ => (nomatch ·)) (fun _ _ _ => (nomatch ·)) (fun _ _ _ _ => (nomatch ·)) (hW t h)
  | .sfrom e i ps p, F, kd, q, m, H, s, Q, X, fo, ok, hW, t, h => soundW _ (fun _ _ => (nomatch ·)) (fun _ _ _ => (nomatch ·)) (fun _ _ _ _ => (nomatch ·)) (hW t h)
  | .sto e i ps p, F, kd, q, m, H, s, Q, X, fo, ok, hW, t, h => soundW _ (fun _ _ => (nomatch ·)) (fun _ _ _ => (nomatch ·)) (fun _ _ _ _ => (nomatch ·)) (hW t h)
  | .srev e c ps p cu, F, kd, q, m, H, s, Q, X, fo, ok, hW, t, h => soundW _ (fun _ _ => (nomatch ·)) (fun _ _ _ => (nomatch ·)) (fun _ _ _ _ => (nomatch ·)) (hW t h)
  | .tup es k p, F, kd, q, m, H, s, Q, X, fo, ok, hW, t, h => soundW _ (fun _ _ => (nomatch ·)) (fun _ _ _ => (nomatch ·)) (fun _ _ _ _ => (nomatch ·)) (hW t h)
  | .list es p, F, kd, q, m, H, s, Q, X, fo, ok, hW, t, h => soundW _ (fun _ _ => (nomatch ·)) (fun _ _ _ => (nomatch ·)) (fun _ _ _ _ => (nomatch ·)) (hW t h)
  | .tape pc p, F, kd, q, m, H, s, Q, X, fo, ok, hW, t, h => soundW _ (fun _ _ => (nomatch ·)) (fun _ _ _ => (nomatch ·)) (fun _ _ _ _ => (nomatch ·)) (hW t h)
  | .dict ks vs p, F, kd, q, m, H, s, Q, X, fo, ok, hW, t, h => soundW _ (fun _ _ => (nomatch ·)) (fun _ _ _ => (nomatch ·)) (fun _ _ _ _ => (nomatch ·)) (hW t h)
  | .call f es pf p, F, kd, q, m, H, s, Q, X, fo, ok, hW, t, h => soundW _ (fun _ _ => (nomatch ·)) (fun _ _ _ => (nomatch ·)) (fun _ _ _ _ => (nomatch ·)) (hW t h)
  | .blt b es pf p, F, kd, q, m, H, s, Q, X, fo, ok, hW, t, h => soundW _ (fun _ _ => (nomatch ·)) (fun _ _ _ => (nomatch ·)) (fun _ _ _ _ => (nomatch ·)) (hW t h)
  | .isi e c pf p1 p2 p3 p, F, kd, q, m, H, s, Q, X, fo, ok, hW, t, h => soundW _ (fun _ _ => (nomatch ·)) (fun _ _ _ => (nomatch ·)) (fun _ _ _ _ => (nomatch ·)) (hW t h)
  | .meth o k es pa p, F, kd, q, m, H, s, Q, X, fo, ok, hW, t, h => soundW _ (fun _ _ => (nomatch ·)) (fun _ _ _ => (nomatch ·)) (fun _ _ _ _ => (nomatch ·)) (hW t h)
  | .umeth .., F, kd, q, m, H, s, Q, X, fo, ok, hW, t, h => absurd (show false = true from ok) (by decide)
  | .attr .., F, kd, q, m, H, s, Q, X, fo, ok, hW, t, h => absurd (show false = true from ok) (by decide)
  | .comp e x px it cs sc p, F, kd, q, m, H, s, Q, X, fo, ok, hW, t, h => soundW _ (fun _ _ => (nomatch ·)) (fun _ _ _ => (nomatch ·)) (fun _ _ _ _ => (nomatch ·)) (hW t h)
theorem soundBs : ∀ (o : BoolOp) (es : AEs) {F : Fm} {kd : Kd} {q : Bool} {m : Loc} {H : AHeap} {s : Shared} {Q : BPost} {X : XPost}, Fok cx n q kd F → okEs fl F.nm q F.vis kd es = true → St cx F m H s.heap → awpBs g o es Q X m H →
    Ev IsBB cx F (allTrue o (es.toEs F.nm) F.env) m H s Q X
  | o, .nil, F, kd, q, m, H, s, Q, X, fo, ok, t, h => Ev.pure rfl t h
  | o, .cons e es, F, kd, q, m, H, s, Q, X, fo, ok, t, h => by
    replace ok := (show (_ && _) = true from ok); simp only [Bool.and_eq_true] at ok
    refine Ev.bind (soundB e fo ok.1 (fun t h => soundE e fo ok.1 t h) t h) fun b b' s₁ H₁ rb t₁ k₁ h₁ => ?_
    have rb : b = b' := rb
    subst rb
    cases o <;> cases b
    · exact Ev.pure rfl t₁ h₁
    · exact soundBs .And es fo ok.2 t₁ h₁
    · exact soundBs .Or es fo ok.2 t₁ h₁
    · exact Ev.pure rfl t₁ h₁
theorem soundC : ∀ (cs : AEs) {F : Fm} {kd : Kd} {q : Bool} {m : Loc} {H : AHeap} {s : Shared} {Q : BPost} {X : XPost}, Fok cx n q kd F → okEs fl F.nm q F.vis kd cs = true → cs.len ≤ 1 → St cx F m H s.heap → awpC g cs Q X m H →
    Ev IsBB cx F (testsSem (cs.toEs F.nm) F.env) m H s Q X
  | .nil, F, kd, q, m, H, s, Q, X, fo, ok, hl, t, h => wpAny_tests_nil (.toks s.toks rfl t h)
  | .cons c .nil, F, kd, q, m, H, s, Q, X, fo, ok, hl, t, h => by
    replace ok := (show (_ && _) = true from ok); simp only [Bool.and_eq_true] at ok
    exact wpAny_tests_one (soundB c fo ok.1 (fun t h => soundE c fo ok.1 t h) t h)
  | .cons c (.cons d ds), F, kd, q, m, H, s, Q, X, fo, ok, hl, t, h => by simp [AEs.len] at hl
end
end
end Mine
end
section
open PySem PySem.Calls PyProof.Rows
namespace Mine
set_option autoImplicit false


/-- the error's own record and its traceback change, of frames the slots alone -/
structure Fly (F : Fm) (e : Addr) (P : Addr → Prop) (h h' : Heap) : Prop where
  oth : ∀ b o, h.get? b = some o → b ≠ e → ¬ P b → h'.get? b = some o ∨ ((∃ env ∈ F.fs, env.frame = some b) ∧ ∃ sl, h'.get? b = some { o with slots := sl })
  exc : ∀ o vs, h.get? e = some o → o.data = .fields vs → ∃ o' vs', h'.get? e = some o' ∧ (o'.cls = o.cls ∧ o'.dict = o.dict) ∧ o'.data = .fields vs'
  tb : ∀ b, P b → b ≠ e ∧ ∃ o ts, h.get? b = some o ∧ o.cls = .type "traceback" ∧ o.data = .fields ts

theorem dict_mapFields (f : Array Value → Array Value) (o : Obj) : (Obj.mapFields f o).dict = o.dict := by
  obtain ⟨c, d, dt, sl⟩ := o
  cases dt <;> rfl

section
variable {cx : Cx} {F : Fm} {m : Loc} {H H₁ : AHeap} {s s₁ : Shared} {e : Addr} {P : Addr → Prop}

theorem St.fly {h h' : Heap} (t : St cx F m H h) (f : Fly F e P h h') (he : ∃ o C vs, h.get? e = some o ∧ o.cls = .ref C ∧ o.data = .fields vs) (hB : cx.B.get? e = none) (hP : ∀ b, P b → cx.B.get? b = none) : St cx F m H h' := by
  obtain ⟨oe, C, vs, ge, hc, hd⟩ := he
  obtain ⟨oe', vs', ge', hc', hd'⟩ := f.exc oe vs ge hd
  have nP : ∀ b o, h.get? b = some o → (∀ ts, o.data ≠ .fields ts) → b ≠ e ∧ ¬ P b := fun b o g n => ⟨by rintro rfl; rw [ge] at g; cases g; exact n _ hd, fun p => by
    obtain ⟨_, ob, ts, g', _, d⟩ := f.tb b p; rw [g] at g'; cases g'; exact n _ d⟩
  have frame : ∀ b, (∃ env ∈ F.fs, env.frame = some b) → H b = none ∧ cx.B.get? b = none ∧ ∃ o es ep, h.get? b = some o ∧ o.data = .dict es ep := fun b ⟨env, hm, hf⟩ => by
    obtain ⟨_, L, o, es, ep, hf', hH, hb, ho, hd⟩ := t.frames env hm
    rw [hf] at hf'; cases hf'
    exact ⟨hH, hb, o, es, ep, ho, hd⟩
  have notF : ∀ b o, h.get? b = some o → (∀ es ep, o.data ≠ .dict es ep) → ¬ ∃ env ∈ F.fs, env.frame = some b := fun b o g n q => by
    obtain ⟨_, _, o', es, ep, g', d⟩ := frame b q; rw [g] at g'; cases g'; exact n _ _ d
  have so : ∀ b o, h.get? b = some o → Solid o → h'.get? b = some o ∨ ((∃ C, o.cls = .ref C) ∧ ∃ o' vs', h'.get? b = some o' ∧ (o'.cls = o.cls ∧ o'.dict = o.dict) ∧ o'.data = .fields vs') := fun b o g sl => by
    by_cases q : b = e
    · subst q; rw [ge] at g; cases g; exact .inr ⟨⟨C, hc⟩, oe', vs', ge', hc', hd'⟩
    · by_cases p : P b
      · obtain ⟨_, ob, ts, g', c', d⟩ := f.tb b p
        rw [g] at g'; cases g'
        exact absurd sl (notSolid_of c' (by decide) d)
      · exact .inl ((f.oth b o g q p).resolve_right fun x => notF b o g sl.notLoc.1 x.1)
  have keepA : ∀ b o, H b = some o → ∀ ob, h.get? b = some ob → h'.get? b = some ob := fun b o hb ob g => by
    obtain ⟨ob', g', ns, nf⟩ := (t.heap b o hb).get
    rw [g] at g'; cases g'
    obtain ⟨n1, n2⟩ := nP b ob g nf
    exact (f.oth b ob g n1 n2).resolve_right fun x => by have := (frame b x.1).1; rw [hb] at this; cases this
  have upto : ∀ b o, h.get? b = some o → (∀ ts, o.data ≠ .fields ts) → ∃ sl, h'.get? b = some { o with slots := sl } := fun b o g n => by
    obtain ⟨n1, n2⟩ := nP b o g n
    rcases f.oth b o g n1 n2 with g' | ⟨_, sl, g'⟩
    · exact ⟨o.slots, g'⟩
    · exact ⟨sl, g'⟩
  refine ⟨fun b o g => ?_, t.off, fun a o ha => ?_, fun env hm => ?_, t.own, ?_, fun n c hc' => ?_⟩
  · have g1 := t.base b o g
    refine (f.oth b o g1 (by rintro rfl; rw [hB] at g; cases g) (fun p => by rw [hP b p] at g; cases g)).resolve_right fun x => ?_
    have := (frame b x.1).2.1; rw [g] at this; cases this
  · have r := t.heap a o ha
    cases o with
    | list xs => obtain ⟨items, n, e, r, l⟩ := r; exact ⟨items, n, keepA _ _ ha _ e, r.mono' so, l⟩
    | tape k => obtain ⟨t, n, e⟩ := r; exact ⟨t, n, keepA _ _ ha _ e⟩
    | dict kvs => obtain ⟨vs, d, r, l⟩ := r; exact ⟨vs, (let ⟨o, es, ep, ho, y⟩ := d; ⟨o, es, ep, keepA _ _ ha _ ho, y⟩), r.mono' so, l⟩
    | inst c d => obtain ⟨C, x, e⟩ := r; exact ⟨C, x, keepA _ _ ha _ e⟩
  · obtain ⟨hk, L, o, es, ep, hf, hH, hb, ho, hd⟩ := t.frames env hm
    obtain ⟨sl, g'⟩ := upto L o ho (fun ts q => by rw [hd] at q; cases q)
    exact ⟨hk, L, _, es, ep, hf, hH, hb, g', hd⟩
  · obtain ⟨o, es, ep, mc, ho, hd, ⟨o1, es1, ep1, ho1, hd1, hk1, hm1⟩, hv⟩ := t.vars
    rw [ho] at ho1; cases ho1
    obtain ⟨sl, g'⟩ := upto _ o ho (fun ts q => by rw [hd] at q; cases q)
    exact ⟨_, es, ep, mc, g', hd, ⟨_, es1, ep1, g', hd1, hk1, hm1⟩, fun i v h1 h2 h3 => let ⟨x, q, r⟩ := hv i v h1 h2 h3; ⟨x, q, r.mono' so⟩⟩
  · obtain ⟨h1, h2, o, x, ho, hd, hv⟩ := t.cells n c hc'
    have n0 : ∀ ts, o.data ≠ .fields ts := fun ts q => by rw [hd] at q; cases q
    obtain ⟨n1, n2⟩ := nP c o ho n0
    have g' := (f.oth c o ho n1 n2).resolve_right fun x => notF c o ho (fun _ _ q => by rw [hd] at q; cases q) x.1
    exact ⟨h1, h2, o, x, g', hd, fun i v a b c d => let ⟨y, q, r⟩ := hv i v a b c d; ⟨y, q, r.mono' so⟩⟩

theorem Kp.fly {S : List Addr} {h' : Heap} (k : Kp cx S H s H₁ s₁) (t : St cx F m H₁ s₁.heap) (f : Fly F e P s₁.heap h') (fe : s.heap.get? e = none) (fP : ∀ b, P b → s.heap.get? b = none) (hB : cx.B.get? e = none) (hP : ∀ b, P b → cx.B.get? b = none) :
    Kp cx S H s H₁ { s₁ with heap := h' } := by
  have frame : ∀ b, (∃ env ∈ F.fs, env.frame = some b) → cx.B.get? b = none ∧ ∃ o es ep, s₁.heap.get? b = some o ∧ o.data = .dict es ep := fun b ⟨env, hm, hf⟩ => by
    obtain ⟨_, L, o, es, ep, hf', hH, hb, ho, hd⟩ := t.frames env hm
    rw [hf] at hf'; cases hf'
    exact ⟨hb, o, es, ep, ho, hd⟩
  have step : ∀ b o, s.heap.get? b = some o → ∀ o₁, s₁.heap.get? b = some o₁ → ∃ o', h'.get? b = some o' ∧ SameO o₁ o' := fun b o g o₁ g₁ => by
    rcases f.oth b o₁ g₁ (by rintro rfl; rw [fe] at g; cases g) (fun p => by rw [fP b p] at g; cases g) with g' | ⟨fr, sl, g'⟩
    · exact ⟨o₁, g', .refl _⟩
    · obtain ⟨_, o2, es, ep, g2, d⟩ := frame b fr
      rw [g₁] at g2; cases g2
      exact ⟨_, g', .inr ⟨⟨es, ep, d⟩, sl, rfl⟩⟩
  refine ⟨?_, fun b o g nS hn => ?_, fun b o g => ?_, fun b o gB g => ?_⟩
  · obtain ⟨h, tk, e⟩ := k.same; exact ⟨h', tk, by rw [e]⟩
  · obtain ⟨h1, o₁, g₁, sm⟩ := k.keep b o g nS hn
    obtain ⟨o', g', sm'⟩ := step b o g o₁ g₁
    exact ⟨h1, o', g', sm.trans sm'⟩
  · obtain ⟨o₁, g₁⟩ := k.alive b o g
    obtain ⟨o', g', _⟩ := step b o g o₁ g₁
    exact ⟨o', g'⟩
  · have g₁ := k.base b o gB g
    refine (f.oth b o g₁ (by rintro rfl; rw [hB] at gB; cases gB) (fun p => by rw [hP b p] at gB; cases gB)).resolve_right fun x => ?_
    have := (frame b x.1).1; rw [gB] at this; cases this

/-- an error in flight, its traceback's top entry standing in the frame -/
inductive ExcAt (cx : Cx) (h₀ h : Heap) (e : Addr) (c : Nat) (v3 : Value) : Prop
  | mk (n : h₀.get? e = none) (oe : Obj) (vs : Array Value) (C : Addr) (a0 : Value) (g : h.get? e = some oe) (k : oe.cls = .ref C) (x : cx.cls c = some C ∧ oe.dict = none) (d : oe.data = .fields vs) (z : vs[0]? = some a0)
    (T : Addr) (oT : Obj) (ts : Array Value) (b1 : vs[1]? = some (.ref T)) (b2 : h₀.get? T = none) (b3 : T ≠ e) (b4 : h.get? T = some oT) (b5 : oT.cls = .type "traceback") (b6 : oT.data = .fields ts) (b7 : ts[3]? = some v3) : ExcAt cx h₀ h e c v3
abbrev ExcIn (cx : Cx) (L : Addr) (h₀ h : Heap) (e : Addr) (c : Nat) : Prop := ExcAt cx h₀ h e c (rawInt L)
theorem ExcIn.exc {L : Addr} {h₀ h : Heap} {c : Nat} (x : ExcIn cx L h₀ h e c) : Exc cx (some L) h₀ h e c := by
  obtain ⟨a, oe, vs, C, a0, b, c, d, f, g, T, oT, ts, h1, h2, h3, h4, h5, h6, h7⟩ := x
  exact ⟨a, oe, vs, C, a0, b, c, d, f, g, .inr ⟨T, oT, ts, h1, h2, h3, h4, h5, h6, .inr ⟨L, rfl, h7⟩⟩⟩

theorem funFrames_of {h : Heap} (hh : ∀ env ∈ F.fs, FrAt cx H h env) : ∀ l : List Env, (∀ env ∈ l, env ∈ F.fs) → h.FunFrames cx.B l
  | [], _ => trivial
  | env :: r, hl => by
    obtain ⟨hk, L, o, es, ep, hf, _, hb, ho, hd⟩ := hh env (hl env List.mem_cons_self)
    exact ⟨hk, ⟨L, o, hf, hb, ho, fun vs q => by rw [hd] at q; cases q⟩, funFrames_of hh r fun x hx => hl x (List.mem_cons_of_mem _ hx)⟩

theorem entry_own {A : Around} {outer : List Env} {L : Addr} {oe : Obj} {vs : Array Value} {head : Value} {hadNext : Bool} {Q : Unit → Shared → Prop} {E : Value → Shared → Prop}
    (hfr : A.frames = some F.fs) (hfs : F.fs = F.env :: outer) (t : St cx F m H s.heap) (hf : F.env.frame = some L) (he : s.heap.get? e = some oe) (hd : oe.data = .fields vs) (hsz : 1 < vs.size)
    (h : ∀ h' T oT ts oe' vs', (∀ b o, s.heap.get? b = some o → b ≠ e → h'.get? b = some o ∨ ((∃ env ∈ F.fs, env.frame = some b) ∧ ∃ sl, h'.get? b = some { o with slots := sl })) → s.heap.get? T = none → T ≠ e →
      h'.get? e = some oe' → (oe'.cls = oe.cls ∧ oe'.dict = oe.dict) → oe'.data = .fields vs' → vs'[0]? = vs[0]? → vs'[1]? = some (.ref T) → h'.get? T = some oT → oT.cls = .type "traceback" → oT.data = .fields ts → ts[3]? = some (rawInt L) → Q () { s with heap := h' }) :
    wpAny cx.M A (do let a ← frameOf F.env; let pl ← entryPlaceOf L hadNext; let b ← EntryCells.newEntry head a .none (rawInt L) .none pl; setField (.ref e) 1 b) Q E s := by
  have hl : s.heap.FunFrames cx.B (F.env :: outer) := funFrames_of t.frames _ fun env hm => hfs ▸ hm
  have hene : e ∉ (F.env :: outer).filterMap (·.frame) := fun hm => by
    obtain ⟨_, o, ho, hnf⟩ := hl.mem hm
    rw [he] at ho; injection ho with ho; subst ho; exact hnf vs hd
  refine wpAny_bind (wpAny_frameOf_fun (by rw [hfr, hfs]) hl hf fun h₁ hs₁ => ?_)
  refine wpAny_bind (wpAny_entryPlaceOf fun pl hpl => ?_)
  unfold EntryCells.newEntry newFields
  refine wpAny_bind (wpAny_newObj_type ?_ (hpl.sizeOk5 _ _ _ _ _))
  have he₁ : h₁.get? e = some oe := (hs₁.2.1 e hene).trans he
  have he₂ := Heap.get?_push_of_some (h := h₁) { cls := .type "traceback", dict := none, data := .fields ([head, .ref L, .none, rawInt L, .none] ++ (if pl.isEmpty then List.replicate 6 Value.none else pl)).toArray } he₁
  have hTe : h₁.objs.size ≠ e := Nat.ne_of_gt (Heap.lt_size he₁)
  have hd₃ := Obj.data_mapFields hd (·.setIfInBounds 1 (Value.ref h₁.objs.size))
  have he₃ := Heap.get?_update_self (Obj.mapFields (·.setIfInBounds 1 (Value.ref h₁.objs.size))) he₂ (Obj.isFreed_of_fields hd₃)
  have hT₃ := (Heap.get?_update_other (h₁.push { cls := .type "traceback", dict := none, data := .fields ([head, .ref L, .none, rawInt L, .none] ++ (if pl.isEmpty then List.replicate 6 Value.none else pl)).toArray })
    (Obj.mapFields (·.setIfInBounds 1 (Value.ref h₁.objs.size))) (Ne.symm hTe)).trans (Heap.get?_push_size h₁ rfl)
  refine wpAny_setField he₂ hd hsz (h _ h₁.objs.size _ _ _ _ (fun b o g n => ?_) ?_ hTe he₃ ⟨Obj.cls_mapFields _ _, dict_mapFields _ _⟩ hd₃ ?_ ?_ hT₃ rfl rfl ?_)
  · by_cases hm : b ∈ (F.env :: outer).filterMap (·.frame)
    · right
      obtain ⟨env, h1, h2⟩ := List.mem_filterMap.mp hm
      refine ⟨⟨env, hfs ▸ h1, h2⟩, ?_⟩
      obtain ⟨sl, g'⟩ := hs₁.2.2 b o g
      exact ⟨sl, by rw [Heap.get?_update_other _ _ (Ne.symm n)]; exact Heap.get?_push_of_some _ g'⟩
    · left
      rw [Heap.get?_update_other _ _ (Ne.symm n)]; exact Heap.get?_push_of_some _ ((hs₁.2.1 b hm).trans g)
  · cases q : s.heap.get? h₁.objs.size with
    | none => rfl
    | some o => have := Heap.lt_size q; rw [hs₁.1] at this; exact absurd this (Nat.lt_irrefl _)
  · rw [Array.getElem?_setIfInBounds_ne (by decide)]
  · simp [hsz]
  · first | (simp; done) | (rcases hpl with rfl | ⟨_, _, _, _, _, _, _, rfl⟩ <;> simp)

theorem note_ok {S : List Addr} {outer : List Env} {L : Addr} {c : Nat} {Q : Unit → Shared → Prop} {E : Value → Shared → Prop} {A : Around} (hfr : A.frames = some F.fs) (hfs : F.fs = F.env :: outer) (hf : F.env.frame = some L) (t : St cx F m H₁ s₁.heap) (k : Kp cx S H s H₁ s₁)
    (t₀ : cx.B.StaysIn s.heap) (x : Exc cx F.env.frame s.heap s₁.heap e c) (hQ : ∀ s₂, St cx F m H₁ s₂.heap → Kp cx S H s H₁ s₂ → ExcIn cx L s.heap s₂.heap e c → Q () s₂) : wpAny cx.M A (noteFrame (.ref e) F.env) Q E s₁ := by
  obtain ⟨fe, oe, vs, C, a0, ge, hc, hC, hd, h0, hx⟩ := x
  have hBn : ∀ b, s.heap.get? b = none → cx.B.get? b = none := fun b f => by
    cases q : cx.B.get? b with
    | none => rfl
    | some o => rw [t₀ _ _ q] at f; cases f
  have he : ∃ o C vs, s₁.heap.get? e = some o ∧ o.cls = .ref C ∧ o.data = .fields vs := ⟨oe, C, vs, ge, hc, hd⟩
  unfold noteFrame
  simp only [hf]
  rcases hx with h1 | ⟨T, oT, ts, h1, fT, hTe, gT, cT, dT, h3⟩
  · refine wpAny_bind (wpAny_field ge hd h1 ?_)
    rw [if_neg (by decide)]
    refine entry_own hfr hfs t hf ge hd (Array.getElem?_eq_some_iff.mp h1).1 fun h' T oT ts oe' vs' oth fT hTe ge' ce' de' h0' h1' gT' cT dT h3 => ?_
    have f : Fly F e (fun _ => False) s₁.heap h' := ⟨fun b o g n _ => oth b o g n, fun o vs g d => by rw [ge] at g; cases g; exact ⟨oe', vs', ge', ce', de'⟩, fun _ q => q.elim⟩
    have fT0 : s.heap.get? T = none := by
      cases q : s.heap.get? T with
      | none => rfl
      | some o => obtain ⟨o', e'⟩ := k.alive T o q; rw [fT] at e'; cases e'
    exact hQ { s₁ with heap := h' } (t.fly f he (hBn _ fe) fun _ q => q.elim) (k.fly t f fe (fun _ q => q.elim) (hBn _ fe) fun _ q => q.elim)
      ⟨fe, oe', vs', C, a0, ge', ce'.1.trans hc, ⟨hC.1, ce'.2.trans hC.2⟩, de', h0'.trans h0, T, oT, ts, h1', fT0, hTe, gT', cT, dT, h3⟩
  · refine wpAny_bind (wpAny_field ge hd h1 ?_)
    rw [if_pos (show (Value.ref T != Value.none) = true from by simp)]
    rcases h3 with h3 | ⟨L', hL', h3⟩
    · refine wpAny_bind (wpAny_field gT dT h3 ?_)
      rw [if_neg (show ¬ ((Value.none == rawInt L) = true) from by simp [rawInt])]
      refine wpAny_bind (wpAny_setField gT dT (Array.getElem?_eq_some_iff.mp h3).1 ?_)
      have dT' := Obj.data_mapFields dT (·.setIfInBounds 3 Value.none)
      have gT' := Heap.get?_update_self (Obj.mapFields (·.setIfInBounds 3 Value.none)) gT (Obj.isFreed_of_fields dT')
      have f : Fly F e (fun b => b = T) s₁.heap (s₁.heap.update T (Obj.mapFields (·.setIfInBounds 3 Value.none))) :=
        ⟨fun b o g n q => .inl (upd_keeps b o q g), fun o vs' g d => ⟨o, vs', upd_keeps e o (Ne.symm hTe) g, ⟨rfl, rfl⟩, d⟩, fun b q => by subst q; exact ⟨hTe, oT, ts, gT, cT, dT⟩⟩
      have t₂ := t.fly f he (hBn _ fe) fun b q => by subst q; exact hBn _ fT
      have k₂ := k.fly t f fe (fun b q => by subst q; exact fT) (hBn _ fe) fun b q => by subst q; exact hBn _ fT
      have ge₂ := upd_keeps (f := Obj.mapFields (·.setIfInBounds 3 Value.none)) e oe (Ne.symm hTe) ge
      refine entry_own (s := { s₁ with heap := s₁.heap.update T (Obj.mapFields (·.setIfInBounds 3 Value.none)) }) hfr hfs t₂ hf ge₂ hd (Array.getElem?_eq_some_iff.mp h1).1 fun h' T₂ oT₂ ts₂ oe' vs' oth fT₂ hTe₂ ge' ce' de' h0' h1' gT₂ cT₂ dT₂ h3₂ => ?_
      have f₂ : Fly F e (fun _ => False) (s₁.heap.update T (Obj.mapFields (·.setIfInBounds 3 Value.none))) h' := ⟨fun b o g n _ => oth b o g n, fun o vs g d => by rw [ge₂] at g; cases g; exact ⟨oe', vs', ge', ce', de'⟩, fun _ q => q.elim⟩
      have fT0 : s.heap.get? T₂ = none := by
        cases q : s.heap.get? T₂ with
        | none => rfl
        | some o => obtain ⟨o', e'⟩ := k₂.alive T₂ o q; rw [fT₂] at e'; cases e'
      exact hQ { s₁ with heap := h' } (t₂.fly f₂ ⟨oe, C, vs, ge₂, hc, hd⟩ (hBn _ fe) fun _ q => q.elim) (k₂.fly (s₁ := { s₁ with heap := s₁.heap.update T (Obj.mapFields (·.setIfInBounds 3 Value.none)) }) t₂ f₂ fe (fun _ q => q.elim) (hBn _ fe) fun _ q => q.elim)
        ⟨fe, oe', vs', C, a0, ge', ce'.1.trans hc, ⟨hC.1, ce'.2.trans hC.2⟩, de', h0'.trans h0, T₂, oT₂, ts₂, h1', fT0, hTe₂, gT₂, cT₂, dT₂, h3₂⟩
    · rw [hf] at hL'; cases hL'
      refine wpAny_bind (wpAny_field gT dT h3 ?_)
      rw [if_pos (show (rawInt L == rawInt L) = true from by simp)]
      exact wpAny_pure (hQ s₁ t k ⟨fe, oe, vs, C, a0, ge, hc, hC, hd, h0, T, oT, ts, h1, fT, hTe, gT, cT, dT, h3⟩)

/-- the flight ends: the record lies still -/
abbrev ExcOut (cx : Cx) (h₀ h : Heap) (e : Addr) (c : Nat) : Prop := ExcAt cx h₀ h e c .none
theorem ExcOut.exc {fr : Option Addr} {h₀ h : Heap} {c : Nat} (x : ExcOut cx h₀ h e c) : Exc cx fr h₀ h e c := by
  obtain ⟨a, oe, vs, C, a0, b, c, d, f, g, T, oT, ts, h1, h2, h3, h4, h5, h6, h7⟩ := x
  exact ⟨a, oe, vs, C, a0, b, c, d, f, g, .inr ⟨T, oT, ts, h1, h2, h3, h4, h5, h6, .inl h7⟩⟩
theorem ExcOut.rep {h₀ h : Heap} {c : Nat} (x : ExcOut cx h₀ h e c) : Rep cx h (.ref e) (.exc c) := by
  obtain ⟨a, oe, vs, C, a0, b, c, d, f, _⟩ := x
  exact .exc b c f d.1 d.2

theorem unflight_ok {S : List Addr} {c : Nat} {Q : Unit → Shared → Prop} {E : Value → Shared → Prop} {A : Around} {v3 : Value} (t : St cx F m H₁ s₁.heap) (k : Kp cx S H s H₁ s₁) (t₀ : cx.B.StaysIn s.heap)
    (x : ExcAt cx s.heap s₁.heap e c v3)
    (hQ : ∀ s₂, St cx F m H₁ s₂.heap → Kp cx S H s H₁ s₂ → ExcOut cx s.heap s₂.heap e c → Q () s₂) : wpAny cx.M A (setFlight (.ref e) none) Q E s₁ := by
  obtain ⟨fe, oe, vs, C, a0, ge, hc, hC, hd, h0, T, oT, ts, h1, fT, hTe, gT, cT, dT, h3⟩ := x
  have hBn : ∀ b, s.heap.get? b = none → cx.B.get? b = none := fun b f => by
    cases q : cx.B.get? b with
    | none => rfl
    | some o => rw [t₀ _ _ q] at f; cases f
  have hsz := (Array.getElem?_eq_some_iff.mp h3).1
  refine wpAny_setFlight_none ge hd h1 gT dT hsz ?_
  have dT' := Obj.data_mapFields dT (·.setIfInBounds 3 Value.none)
  have gT' := Heap.get?_update_self (Obj.mapFields (·.setIfInBounds 3 Value.none)) gT (Obj.isFreed_of_fields dT')
  have f : Fly F e (fun b => b = T) s₁.heap (s₁.heap.update T (Obj.mapFields (·.setIfInBounds 3 Value.none))) :=
    ⟨fun b o g n q => .inl (upd_keeps b o q g), fun o vs' g d => ⟨o, vs', upd_keeps e o (Ne.symm hTe) g, ⟨rfl, rfl⟩, d⟩, fun b q => by subst q; exact ⟨hTe, oT, ts, gT, cT, dT⟩⟩
  have t₂ := t.fly f ⟨oe, C, vs, ge, hc, hd⟩ (hBn _ fe) fun b q => by subst q; exact hBn _ fT
  have k₂ := k.fly t f fe (fun b q => by subst q; exact fT) (hBn _ fe) fun b q => by subst q; exact hBn _ fT
  exact hQ { s₁ with heap := _ } t₂ k₂ ⟨fe, oe, vs, C, a0, upd_keeps e oe (Ne.symm hTe) ge, hc, hC, hd, h0, T, _, _, h1, fT, hTe, gT', (Obj.cls_mapFields _ _).trans cT, dT', by simp [hsz]⟩
end
end Mine
end
section
open PySem PySem.Calls PyProof.Rows
namespace Mine
set_option autoImplicit false

noncomputable def plc (F : Fm) : List Addr := F.env.locals :: F.env.cells.filterMap fun p => F.env.cells.lookup p.1
theorem mem_plc_cell {F : Fm} {x : Str} {c : Addr} (h : F.env.cells.lookup x = some c) : c ∈ plc F := List.mem_cons_of_mem _ (List.mem_filterMap.mpr ⟨(x, c), mem_of_lookup h, h⟩)

section
variable {cx : Cx} {F : Fm} {m : Loc} {H H₁ : AHeap} {s s₁ : Shared} {kd : Kd} {n : Nat} {q : Bool}

theorem St.setCell {h h' : Heap} {x : Nat} {v : Value} {p : PV} {c : Addr} (t : St cx F m H h) (fo : Fok cx n q kd F) (vx : F.vis x = true) (kl : F.env.kindOf (slot F.nm x) ≠ some .local)
    (hc : F.env.cells.lookup (slot F.nm x) = some c) (hc' : h'.IsCell c (some v)) (sb : Heap.SameBut c h h') (rv : Rep cx h v p) : St cx F (m.set x (some p)) H h' := by
  obtain ⟨hHc, hBc, oc, y, goc, dc, _⟩ := t.cells _ c hc
  have ns1 : ∀ o, h.get? c = some o → ¬ Solid o := fun o' e => by rw [goc] at e; cases e; exact notSolid_cell dc
  have k : ∀ b o, b ≠ c → h.get? b = some o → h'.get? b = some o := fun b o n e => by rw [sb.2 b n]; exact e
  have so : ∀ b o, h.get? b = some o → Solid o → h'.get? b = some o := fun b o e s => k b o (by rintro rfl; exact ns1 o e s) e
  have nd : ∀ b o es ep, h.get? b = some o → o.data = .dict es ep → b ≠ c := fun b o es ep e q => by rintro rfl; rw [goc] at e; cases e; rw [dc] at q; cases q
  refine ⟨fun b o e => k b o (by rintro rfl; rw [hBc] at e; cases e) (t.base b o e), t.off, t.heap.keepBut hHc k ns1, fun env he => ?_, t.own, ?_, fun nn c₂ hc₂ => ?_⟩
  · obtain ⟨hk, L, o, es, ep, hf, hH, hb, ho, hd'⟩ := t.frames env he
    exact ⟨hk, L, o, es, ep, hf, hH, hb, k L o (nd L o es ep ho hd') ho, hd'⟩
  · obtain ⟨o, es, ep, mc, ho, hd', ns, hv⟩ := t.vars
    have n := nd _ o es ep ho hd'
    refine ⟨o, es, ep, mc, k _ o n ho, hd', ns.at fun o e => k _ o n e, fun i w h1 h2 h3 => ?_⟩
    rcases Loc.get_set h3 with ⟨rfl, rfl⟩ | ⟨_, h3⟩
    · exact absurd h2 kl
    · obtain ⟨x, q, r⟩ := hv i w h1 h2 h3; exact ⟨x, q, r.mono so⟩
  · obtain ⟨h1, h2, o, w, ho, hd', hv⟩ := t.cells nn c₂ hc₂
    by_cases qc : c₂ = c
    · subst qc
      have e1 : nn = slot F.nm x := fo.apart _ _ _ hc₂ hc
      subst e1
      obtain ⟨o', go', do'⟩ := hc'
      refine ⟨h1, h2, o', some v, go', do', fun i w a b _ d => ?_⟩
      have : i = x := fo.inj i x a vx b
      subst this
      rcases Loc.get_set d with ⟨_, rfl⟩ | ⟨ne, _⟩
      · exact ⟨v, rfl, rv.mono so⟩
      · exact absurd rfl ne
    · refine ⟨h1, h2, o, w, k c₂ o qc ho, hd', fun i w' a b c' d => ?_⟩
      rcases Loc.get_set d with ⟨rfl, rfl⟩ | ⟨_, d⟩
      · subst b; rw [hc] at hc₂; cases hc₂; exact absurd rfl qc
      · obtain ⟨z, q, r⟩ := hv i w' a b c' d; exact ⟨z, q, r.mono so⟩

theorem Kp.one {h' : Heap} {tk : Nat} {a : Addr} (ha : a ∈ plc F) (hB : cx.B.get? a = none) (ga : ∃ o, h'.get? a = some o) (k : ∀ b o, b ≠ a → s.heap.get? b = some o → h'.get? b = some o) : Kp cx (plc F) H s H { s with heap := h', toks := tk } := by
  refine ⟨⟨h', tk, rfl⟩, fun b o e nS hn => ⟨hn, o, k b o (by rintro rfl; exact nS ha) e, .refl _⟩, fun b o e => ?_, fun b o eB e => k b o (by rintro rfl; rw [hB] at eB; cases eB) e⟩
  by_cases q : b = a
  · subst q; exact ga
  · exact ⟨o, k b o q e⟩

theorem store_name {x : Nat} {v : Value} {p : PV} {QQ : Unit → Shared → Prop} {E : Value → Shared → Prop} {A : Around} (fo : Fok cx n q kd F) (vx : F.vis x = true) (hk : kd (slot F.nm x) = some .local ∨ kd (slot F.nm x) = some .cell) (t : St cx F m H s.heap) (rv : Rep cx s.heap v p)
    (hQ : ∀ s', St cx F (m.set x (some p)) H s'.heap → Kp cx (plc F) H s H s' → (∀ b o, s.heap.get? b = some o → Solid o → s'.heap.get? b = some o) → QQ () s') : wpAny cx.M A (storeName F.env (slot F.nm x) v) QQ E s := by
  rcases hk with hk | hk
  · have hl : F.env.kindOf (slot F.nm x) = some .local := by rw [fo.kdo]; exact hk
    obtain ⟨o, es, ep, mc, ho, hd, ns, _⟩ := t.vars
    refine wpAny_storeName_local hl ns (fun h' ns' sb => ?_) (by rw [fo.kind]; rfl)
    have kk : ∀ b o, b ≠ F.env.locals → s.heap.get? b = some o → h'.get? b = some o := fun b o n e => by rw [sb.2 b n]; exact e
    refine hQ _ (t.setLocal fo.inj vx hl ns ns' rfl sb rv) (Kp.one (List.mem_cons_self ..) t.own.2 (let ⟨o, _, _, g, _⟩ := ns'; ⟨o, g⟩) kk) fun b o e so => kk b o ?_ e
    rintro rfl; rw [ho] at e; cases e; exact notSolid_dict hd so
  · have hl : F.env.kindOf (slot F.nm x) = some .cell := by rw [fo.kdo]; exact hk
    obtain ⟨c, hc⟩ := fo.cells _ (.inl hk)
    obtain ⟨hHc, hBc, oc, y, goc, dc, _⟩ := t.cells _ c hc
    refine wpAny_storeName_cell fo.kind hl hc ⟨oc, goc, dc⟩ fun h' hc' sb => ?_
    have kk : ∀ b o, b ≠ c → s.heap.get? b = some o → h'.get? b = some o := fun b o n e => by rw [sb.2 b n]; exact e
    refine hQ _ (t.setCell fo vx (by rw [hl]; decide) hc hc' sb rv) (Kp.one (tk := s.toks) (mem_plc_cell hc) hBc (let ⟨o, g, _⟩ := hc'; ⟨o, g⟩) kk) fun b o e so => kk b o ?_ e
    rintro rfl; rw [goc] at e; cases e; exact notSolid_cell dc so

/-! statements -/
inductive OkN (cx : Cx) (F : Fm) (H : AHeap) (s : Shared) (N : NPost) (s' : Shared) : Prop
  | mk (m' : Loc) (H' : AHeap) (t : St cx F m' H' s'.heap) (k : Kp cx (plc F) H s H' s') (q : N m' H') : OkN cx F H s N s'
inductive OkR (cx : Cx) (F : Fm) (H : AHeap) (s : Shared) (R : Post) (v : Value) (s' : Shared) : Prop
  | mk (p : PV) (m' : Loc) (H' : AHeap) (r : Rep cx s'.heap v p) (t : St cx F m' H' s'.heap) (k : Kp cx (plc F) H s H' s') (q : R p H') : OkR cx F H s R v s'
noncomputable def OkS (cx : Cx) (F : Fm) (H : AHeap) (s : Shared) (N : NPost) (R : Post) : Flow → Shared → Prop := fun f s' => match f with
  | .next => OkN cx F H s N s'
  | .ret v => OkR cx F H s R v s'
  | _ => False
inductive ErS (cx : Cx) (F : Fm) (H : AHeap) (s : Shared) (X : SXPost) (v : Value) (s' : Shared) : Prop
  | mk (e : Addr) (c : Nat) (m' : Loc) (H' : AHeap) (hv : v = .ref e) (x : Exc cx F.env.frame s.heap s'.heap e c) (t : St cx F m' H' s'.heap) (k : Kp cx (plc F) H s H' s') (q : X c m' H') : ErS cx F H s X v s'
noncomputable def EvS (cx : Cx) (F : Fm) (t : Sem Flow) (H : AHeap) (s : Shared) (N : NPost) (R : Post) (X : SXPost) : Prop := wpAny cx.M F.A t (OkS cx F H s N R) (ErS cx F H s X) s

theorem OkS.older {N : NPost} {R : Post} {f : Flow} {s' : Shared} (k : Kp cx (plc F) H s H₁ s₁) (x : OkS cx F H₁ s₁ N R f s') : OkS cx F H s N R f s' := by
  cases f with
  | next => obtain ⟨m', H', t, k', h⟩ := x; exact ⟨m', H', t, k.trans k', h⟩
  | ret v => obtain ⟨p, m', H', r, t, k', h⟩ := x; exact ⟨p, m', H', r, t, k.trans k', h⟩
  | _ => exact x.elim
theorem ErS.older {X : SXPost} {v : Value} {s' : Shared} (k : Kp cx (plc F) H s H₁ s₁) (x : ErS cx F H₁ s₁ X v s') : ErS cx F H s X v s' := by
  obtain ⟨e, c, m', H', r, y, t, k', h⟩ := x
  exact ⟨e, c, m', H', r, y.older k.alive, t, k.trans k', h⟩
theorem EvS.older {N : NPost} {R : Post} {X : SXPost} {t : Sem Flow} (k : Kp cx (plc F) H s H₁ s₁) (x : EvS cx F t H₁ s₁ N R X) : wpAny cx.M F.A t (OkS cx F H s N R) (ErS cx F H s X) s₁ :=
  wpAny_mono x (fun _ _ y => y.older k) fun _ _ y => y.older k
theorem ErP.toS {X : SXPost} {v : Value} {s' : Shared} (x : ErP cx F m H s (fun c H => X c m H) v s') : ErS cx F H s X v s' := by
  obtain ⟨e, c, H', r, y, t, k, h⟩ := x; exact ⟨e, c, m, H', r, y, t, k.nil, h⟩
/-- an expression, then the rest of the statement -/
theorem EvS.after {α β : Type} {RR : Heap → α → β → Prop} {Q : β → AHeap → Prop} {N : NPost} {R : Post} {X : SXPost} {t : Sem α} {f : α → Sem Flow} (h : Ev RR cx F t m H s Q fun c H => X c m H)
    (k : ∀ a b s₁ H₁, RR s₁.heap a b → St cx F m H₁ s₁.heap → Kp cx [] H s H₁ s₁ → Q b H₁ → EvS cx F (f a) H₁ s₁ N R X) : EvS cx F (t >>= f) H s N R X :=
  wpAny_bind (wpAny_mono h (fun a s₁ ⟨b, H₁, r, st, kp, q⟩ => (k a b s₁ H₁ r st kp q).older kp.nil) fun _ _ y => y.toS)
theorem OkS.toks {N : NPost} {R : Post} (tk : Nat) (t : St cx F m H s.heap) (h : N m H) : OkS cx F H s N R .next { s with toks := tk } := ⟨m, H, t, .grow (fun _ _ e => e) (fun _ _ _ e => e), h⟩
theorem EvS.seq {N N₁ : NPost} {R : Post} {X : SXPost} {st : Stmt} {rest : List Stmt} (h : EvS cx F (exec st F.env) H s N₁ R X)
    (k : ∀ m₁ s₁ H₁, St cx F m₁ H₁ s₁.heap → N₁ m₁ H₁ → EvS cx F (execs rest F.env) H₁ s₁ N R X) : EvS cx F (execs (st :: rest) F.env) H s N R X := by
  refine wpAny_execs_cons (wpAny_mono h (fun f s' h' => ?_) fun _ _ e => e)
  cases f with
  | next => obtain ⟨m', H', t, kp, hn⟩ := h'; exact (k m' s' H' t hn).older kp
  | ret v => exact h'
  | brk => exact h'
  | cont => exact h'
end
end Mine
end
section
open PySem PySem.Calls PyProof.Rows
namespace Mine
set_option autoImplicit false

noncomputable def isComp : AE → Bool
  | .comp .. => true
  | _ => false
noncomputable def isTup : AE → Bool
  | .tup .. => true
  | _ => false
noncomputable def ASs.isNil : ASs → Bool
  | .nil => true
  | _ => false
noncomputable def AHs.isNil : AHs → Bool
  | .nil => true
  | _ => false
section
variable (fl : List Str) (nm : List Str) (vis : Nat → Bool) (kd : Kd)
noncomputable def stOk (x : Nat) : Bool := vis x && (kd (slot nm x) == some .local || kd (slot nm x) == some .cell)
mutual
noncomputable def okS (q : Bool) : AS → Bool
  | .expr e _ => okE fl nm q vis kd e && !isComp e
  | .assign x _ e _ => okE fl nm q vis kd e && stOk nm vis kd x
  | .assignT xs _ _ e _ => q && okE fl nm q vis kd e && !isComp e && !isTup e && xs.all fun x => stOk nm vis kd x.1
  | .store o i _ e _ => okE fl nm q vis kd o && okE fl nm q vis kd i && okE fl nm q vis kd e && !isComp e
  | .sattr .. => false
  | .ite c a b _ => okE fl nm q vis kd c && okSs q a && okSs q b
  | .for x _ it b _ => q && okE fl nm q vis kd it && stOk nm vis kd x && okSs q b
  | .while c b _ => q && okE fl nm q vis kd c && okSs q b
  | .ret e _ => okE fl nm q vis kd e
  | .ret0 _ => true
  | .raise c x _ _ _ _ _ _ => q && isGlob kd x && onm x == some c
  | .try b hs _ => q && okSs q b && okHs hs && !hs.isNil
noncomputable def okSs (q : Bool) : ASs → Bool
  | .nil => true
  | .cons s ss => okS q s && okSs q ss
noncomputable def okHs : AHs → Bool
  | .nil => true
  | .cons c x _ y b _ hs => isGlob kd x && onm x == some c && (match y with | none => true | some y => vis y && kd (slot nm y) == some .local) && okSs false b && !b.isNil && okHs hs
end
end

inductive ForI (cx : Cx) (F : Fm) (H₁ : AHeap) (s₁ : Shared) (I : Addr) (xs : List PV) (p : PV) (W : List PV → Loc → AHeap → Prop) (k : Nat) (s' : Shared) : Prop
  | mk (i : Nat) (mk : Loc) (Hk : AHeap) (hi : i ≤ xs.length) (hk : k = xs.length - i) (ti : St cx F mk Hk s'.heap) (ki : Kp cx (plc F) H₁ s₁ Hk s') (iti : Itr cx s'.heap I i xs p) (ci : Clean cx Hk s'.heap I) (hw : W (xs.drop i) mk Hk) : ForI cx F H₁ s₁ I xs p W k s'
section
variable {cx : Cx} {F : Fm} {m : Loc} {H H₁ : AHeap} {s s₁ : Shared} {kd : Kd} {n : Nat} {q : Bool} {e : Addr}

theorem St.plcData {h : Heap} (t : St cx F m H h) : ∀ b ∈ plc F, ∀ o, h.get? b = some o → (∃ es ep, o.data = .dict es ep) ∨ ∃ x, o.data = .cell x := fun b hb o g => by
  rcases List.mem_cons.mp hb with rfl | hb
  · obtain ⟨o', es, ep, _, g', d, _⟩ := t.vars; rw [g] at g'; cases g'; exact .inl ⟨es, ep, d⟩
  · obtain ⟨p, _, hl⟩ := List.mem_filterMap.mp hb
    obtain ⟨_, _, o', x, g', d, _⟩ := t.cells _ b hl
    rw [g] at g'; cases g'; exact .inr ⟨x, d⟩
theorem Kp.solidP (k : Kp cx (plc F) H s H₁ s₁) (t : St cx F m H s.heap) : ∀ b o, s.heap.get? b = some o → Solid o → s₁.heap.get? b = some o := k.solid t.heap t.plcData
/-- a record that no name holds stays -/
theorem Kp.sameP (k : Kp cx (plc F) H s H₁ s₁) (t : St cx F m H s.heap) {b : Addr} {o : Obj} {vs : Array Value} (g : s.heap.get? b = some o) (hb : H b = none) (hd : o.data = .fields vs) : H₁ b = none ∧ s₁.heap.get? b = some o := by
  obtain ⟨h, o', e', sm⟩ := k.keep b o g (fun q => by
    rcases t.plcData b q o g with ⟨es, ep, d⟩ | ⟨x, d⟩ <;> rw [hd] at d <;> cases d) hb
  rw [sm.eq fun _ _ q => by rw [hd] at q; cases q] at e'; exact ⟨h, e'⟩
theorem Itr.over {I : Addr} {i : Nat} {xs : List PV} {p : PV} (it : Itr cx s.heap I i xs p) (k : Kp cx (plc F) H s H₁ s₁) (t : St cx F m H s.heap) (c : Clean cx H s.heap I) : Itr cx s₁.heap I i xs p ∧ Clean cx H₁ s₁.heap I := by
  obtain ⟨hI, hB, oI, T, vs, gI, hc, hT, hd⟩ := c
  have e1 := k.sameP t gI hI hd
  have itb := it.keep (k.solidP t) fun o e => by rw [gI] at e; cases e; exact e1.2
  exact ⟨itb, e1.1, hB, itb.clean⟩

theorem flight_ok {S : List Addr} {c : Nat} {L : Addr} {Q : Unit → Shared → Prop} {E : Value → Shared → Prop} {A : Around} (hf : F.env.frame = some L) (t : St cx F m H₁ s₁.heap) (k : Kp cx S H s H₁ s₁) (t₀ : cx.B.StaysIn s.heap) (x : ExcIn cx L s.heap s₁.heap e c)
    (hQ : ∀ s₂, St cx F m H₁ s₂.heap → Kp cx S H s H₁ s₂ → ExcIn cx L s.heap s₂.heap e c → Q () s₂) : wpAny cx.M A (do
      if (← field (.ref e) 1) == .none then unsupported "frame.own-activation:exception-without-traceback"
      setFlight (.ref e) F.env.frame) Q E s₁ := by
  obtain ⟨fe, oe, vs, C, a0, ge, hc, hC, hd, h0, T, oT, ts, h1, fT, hTe, gT, cT, dT, h3⟩ := x
  have hBn : ∀ b, s.heap.get? b = none → cx.B.get? b = none := fun b f => by
    cases q : cx.B.get? b with
    | none => rfl
    | some o => rw [t₀ _ _ q] at f; cases f
  have hsz := (Array.getElem?_eq_some_iff.mp h3).1
  refine wpAny_bind (wpAny_field ge hd h1 ?_)
  rw [if_neg (show ¬ ((Value.ref T == Value.none) = true) from by simp)]
  unfold setFlight
  refine wpAny_bind (wpAny_field ge hd h1 ?_)
  rw [if_pos (show (Value.ref T != Value.none) = true from by simp), hf]
  refine wpAny_setField gT dT hsz ?_
  show Q () { s₁ with heap := s₁.heap.update T (Obj.mapFields (·.setIfInBounds 3 (rawInt L))) }
  have dT' := Obj.data_mapFields dT (·.setIfInBounds 3 (rawInt L))
  have gT' := Heap.get?_update_self (Obj.mapFields (·.setIfInBounds 3 (rawInt L))) gT (Obj.isFreed_of_fields dT')
  have f : Fly F e (fun b => b = T) s₁.heap (s₁.heap.update T (Obj.mapFields (·.setIfInBounds 3 (rawInt L)))) :=
    ⟨fun b o g n q => .inl (upd_keeps b o q g), fun o vs' g d => ⟨o, vs', upd_keeps e o (Ne.symm hTe) g, ⟨rfl, rfl⟩, d⟩, fun b q => by subst q; exact ⟨hTe, oT, ts, gT, cT, dT⟩⟩
  have t₂ := t.fly f ⟨oe, C, vs, ge, hc, hd⟩ (hBn _ fe) fun b q => by subst q; exact hBn _ fT
  have k₂ := k.fly t f fe (fun b q => by subst q; exact fT) (hBn _ fe) fun b q => by subst q; exact hBn _ fT
  exact hQ { s₁ with heap := _ } t₂ k₂ ⟨fe, oe, vs, C, a0, upd_keeps e oe (Ne.symm hTe) ge, hc, hC, hd, h0, T, _, _, h1, fT, hTe, gT', (Obj.cls_mapFields _ _).trans cT, dT', by simp [hsz]⟩

/-- an error out of a loop of the frame's own -/
theorem noted_ok {outer : List Env} {L : Addr} {X : SXPost} {v : Value} (hfr : F.A.frames = some F.fs) (hfs : F.fs = F.env :: outer) (hf : F.env.frame = some L) (t₀ : cx.B.StaysIn s.heap) (x : ErS cx F H s X v s₁) :
    notedBy cx.M F.A F.env (fun e s' => cameBackBy cx.M F.A F.env (ErS cx F H s X) e s') v s₁ := by
  obtain ⟨e, c, m', H', rfl, y, t, k, h⟩ := x
  refine note_ok hfr hfs hf t k t₀ y fun s₂ t₂ k₂ x₂ => ?_
  exact flight_ok hf t₂ k₂ t₀ x₂ fun s₃ t₃ k₃ x₃ => ⟨e, c, m', H', rfl, by rw [hf]; exact x₃.exc, t₃, k₃, h⟩

theorem names_ok {A : Around} {E : Value → Shared → Prop} (fo : Fok cx n q kd F) : ∀ (xs : List (Nat × Pos)) (ys : List PV) (vs : List Value) {m : Loc} {H : AHeap} {s : Shared} {QQ : Unit → Shared → Prop}, xs.length = ys.length →
    (∀ x ∈ xs, F.vis x.1 = true ∧ (kd (slot F.nm x.1) = some .local ∨ kd (slot F.nm x.1) = some .cell)) → RepL cx s.heap vs ys → St cx F m H s.heap →
    (∀ s', St cx F (setAll xs ys m) H s'.heap → Kp cx (plc F) H s H s' → QQ () s') → wpAny cx.M A (assignInOrder ((assignEach (xs.map fun x => Expr.Name (slot F.nm x.1) x.2) F.env).map (·.2)) vs) QQ E s
  | [], [], _, m, H, s, QQ, _, _, rs, t, hQ => by
    cases rs
    exact wpAny_assignInOrder_none (hQ s t (.refl _ _ _ _))
  | x :: xs, y :: ys, _, m, H, s, QQ, hl, hx, rs, t, hQ => by
    cases rs with
    | cons r rs =>
      have h1 := hx x (List.mem_cons_self ..)
      refine wpAny_assignInOrder_more (wpAny_assign_Name (store_name fo h1.1 h1.2 t r fun s' t' k' so => ?_))
      exact names_ok fo xs ys _ (by simpa using hl) (fun z hz => hx z (List.mem_cons_of_mem _ hz)) (rs.mono so) t' fun s'' t'' k'' => hQ s'' t'' (k'.trans k'')
  | [], _ :: _, _, _, _, _, _, hl, _, _, _, _ => by simp at hl
  | _ :: _, [], _, _, _, _, _, hl, _, _, _, _ => by simp at hl
theorem names_len (nm : List Str) (env : Env) : ∀ xs : List (Nat × Pos), (assignEach (xs.map fun x => Expr.Name (slot nm x.1) x.2) env).length = xs.length ∧ (assignEach (xs.map fun x => Expr.Name (slot nm x.1) x.2) env).findIdx? (·.1) = none
  | [] => ⟨rfl, rfl⟩
  | x :: xs => by
    have ih := names_len nm env xs
    refine ⟨?_, ?_⟩
    · show (assignEach (Expr.Name (slot nm x.1) x.2 :: xs.map fun x => Expr.Name (slot nm x.1) x.2) env).length = _
      simp only [assignEach, List.length_cons, ih.1]
    · show (assignEach (Expr.Name (slot nm x.1) x.2 :: xs.map fun x => Expr.Name (slot nm x.1) x.2) env).findIdx? (·.1) = none
      simp only [assignEach, List.findIdx?_cons, Bool.false_eq_true, if_false, ih.2, Option.map_none]

theorem for_ok {outer : List Env} {L : Addr} {x : Nat} {px pos : Pos} {iter : Expr} {body : List Stmt} {N : NPost} {R : Post} {X : SXPost} {st : PV → (Loc → AHeap → Prop) → Loc → AHeap → Prop} (fo : Fok cx n true kd F) (hfs : F.fs = F.env :: outer) (hf : F.env.frame = some L)
    (vx : F.vis x = true) (hk : kd (slot F.nm x) = some .local ∨ kd (slot F.nm x) = some .cell) (t : St cx F m H s.heap)
    (hIt : Ev (Rep cx) cx F (eval iter F.env) m H s (fun v H => itemsW v (fun xs src => forW src st N xs m H) H) fun c H => X c m H)
    (hB : ∀ {y : PV} {K : NPost} {m' : Loc} {H : AHeap} {s : Shared}, St cx F (m'.set x (some y)) H s.heap → st y K m' H → EvS cx F (execs body F.env) H s K R X)
    (hs : ∀ x, foldedSetIterable iter F.env x = pure x) :
    EvS cx F (exec (.For (.Name (slot F.nm x) px) iter body [] pos) F.env) H s N R X := by
  refine wpAny_For (wpAny_mono hIt (fun xv s₁ h₁ => ?_) fun _ _ e => e.toS) hs
  obtain ⟨p, H₁, rv, t₁, k₁, hw⟩ := h₁
  have t₀ : cx.B.StaysIn s.heap := t.base
  refine iter_ok (F := F) rv t₁ hw fun I xs h' fI g it cI sr hl hc => ?_
  refine codeAny_forLoop (ForI cx F H₁ s₁ I xs p (forW (Src p xs) st N)) ?_ xs.length
    ⟨0, m, H₁, Nat.zero_le _, rfl, t₁.step (s' := { s₁ with heap := h' }) (.grow (tk := s₁.toks) g fun _ _ _ e => e) (t₁.heap.grow g), .grow (tk := s₁.toks) g (fun _ _ _ e => e), it, cI, hc⟩
  rintro k s' ⟨i, mk, Hk, hi, rfl, ti, ki, iti, ci, hw⟩
  by_cases hlt : i < xs.length
  · have hx1 : xs[i]? = some xs[i] := List.getElem?_eq_getElem hlt
    rw [List.drop_eq_getElem_cons hlt] at hw
    obtain ⟨sr, hw⟩ := hw
    refine next_ok ti iti sr ci hx1 fun v s₄ rv it₄ c₄ tc₄ => ?_
    obtain ⟨h₄, tk₄, rfl, k₄⟩ := id tc₄
    have t₄ : St cx F mk Hk h₄ := ti.touch ci k₄
    have kp₄ := ki.touch fI tc₄ ci.2.1
    refine wpAny_assign_Name (store_name (s := { s' with heap := h₄, toks := tk₄ }) fo vx hk t₄ rv fun s₅ t₅ kp₅ so₅ => ?_)
    obtain ⟨it₅, c₅⟩ := it₄.over kp₅ t₄ c₄
    refine wpAny_mono (hB t₅ hw) (fun f s₆ h₆ => ?_) fun v s₆ h₆ => ?_
    · cases f with
      | next =>
        obtain ⟨m₆, H₆, t₆, kp₆, h₆⟩ := h₆
        obtain ⟨it₆, c₆⟩ := it₅.over kp₆ t₅ c₅
        exact ⟨xs.length - (i + 1), by first | lia | omega, i + 1, m₆, H₆, hlt, rfl, t₆, (kp₄.trans kp₅).trans kp₆, it₆, c₆, h₆⟩
      | ret v => exact OkS.older (f := .ret v) ((k₁.nil.trans kp₄).trans kp₅) h₆
      | brk => exact h₆.elim
      | cont => exact h₆.elim
    · exact noted_ok fo.fr hfs hf t₀ (h₆.older ((k₁.nil.trans kp₄).trans kp₅))
  · have hi' : i = xs.length := by first | lia | omega
    subst hi'
    rw [List.drop_length] at hw
    obtain ⟨sr, hw⟩ := hw
    refine end_ok (fo.quiet rfl) ti iti sr (by simp) fun s₄ tc₄ => ?_
    obtain ⟨h₄, tk₄, rfl, k₄⟩ := id tc₄
    exact wpAny_execs_nil ⟨mk, Hk, ti.touch ci k₄, k₁.nil.trans (ki.touch fI tc₄ ci.2.1), hw⟩

noncomputable def Fm.mark (F : Fm) (e : Value) : Fm := { F with A := F.A.mark (some e) }
theorem St.mark {h : Heap} {v : Value} (t : St cx F m H h) : St cx (F.mark v) m H h := ⟨t.base, t.off, t.heap, t.frames, t.own, (let ⟨o, es, ep, mc, a, b, c, d⟩ := t.vars; ⟨o, es, ep, mc, a, b, c, d⟩), fun n c h => let ⟨a, b, o, x, d, e, f⟩ := t.cells n c h; ⟨a, b, o, x, d, e, f⟩⟩
theorem St.unmark {h : Heap} {v : Value} (t : St cx (F.mark v) m H h) : St cx F m H h := ⟨t.base, t.off, t.heap, t.frames, t.own, (let ⟨o, es, ep, mc, a, b, c, d⟩ := t.vars; ⟨o, es, ep, mc, a, b, c, d⟩), fun n c h => let ⟨a, b, o, x, d, e, f⟩ := t.cells n c h; ⟨a, b, o, x, d, e, f⟩⟩
theorem Fok.mark {v : Value} (fo : Fok cx n q kd F) : Fok cx n false kd (F.mark v) := ⟨fo.fr, fo.kind, fo.kdo, fo.glob, fo.bltn, fun q => (nomatch q), fo.depth, fo.units, fo.cells, fo.apart, fo.inj⟩
theorem OkS.unmark {v : Value} {N : NPost} {R : Post} {f : Flow} {s' : Shared} (x : OkS cx (F.mark v) H s N R f s') : OkS cx F H s N R f s' := by
  cases f with
  | next => obtain ⟨m', H', t, k', h⟩ := x; exact ⟨m', H', t.unmark, k', h⟩
  | ret v => obtain ⟨p, m', H', r, t, k', h⟩ := x; exact ⟨p, m', H', r, t.unmark, k', h⟩
  | _ => exact x.elim

/-- the caught error's name goes -/
theorem unbind_ok {y : Nat} {pos : Pos} {QQ : Unit → Shared → Prop} {E : Value → Shared → Prop} {A : Around} (fo : Fok cx n q kd F) (vy : F.vis y = true) (hk : kd (slot F.nm y) = some .local) (t : St cx F m H s.heap)
    (hQ : ∀ s', St cx F (m.set y none) H s'.heap → Kp cx (plc F) H s H s' → (∀ b o, s.heap.get? b = some o → Solid o → s'.heap.get? b = some o) → QQ () s') : wpAny cx.M A (do bindName F.env (slot F.nm y) .none; unbindBehindTheSuite F.env (slot F.nm y) pos) QQ E s := by
  have hl : F.env.kindOf (slot F.nm y) = some .local := by rw [fo.kdo]; exact hk
  obtain ⟨o, es, ep, mc, ho, hd, ns, _⟩ := t.vars
  have hp : (F.env.scope.kind == .class || (F.env.scope.kind == .module && F.env.locals != F.env.globals)) = false := by rw [fo.kind]; rfl
  refine wpAny_bind (wpAny_bindName (wpAny_storeName_local hl ns (fun h' ns' sb => ?_) hp))
  unfold unbindBehindTheSuite
  refine wpAny_onRaise ?_
  refine wpAny_unbindName_local hl ns' (v := .none) (by simp) hp fun h'' u ns'' sb' => ?_
  have kk : ∀ b o, b ≠ F.env.locals → s.heap.get? b = some o → h''.get? b = some o := fun b o n e => by rw [sb'.2 b n, sb.2 b n]; exact e
  have t' : St cx F (m.set y (some .none)) H h' := t.setLocal fo.inj vy hl ns ns' rfl sb .none
  have nsl : ∀ o, s.heap.get? F.env.locals = some o → ¬ Solid o := fun o' e => by rw [ho] at e; cases e; exact notSolid_dict hd
  have so : ∀ b o, s.heap.get? b = some o → Solid o → h''.get? b = some o := fun b o e so => kk b o (by rintro rfl; exact nsl o e so) e
  refine hQ _ ?_ (Kp.one (tk := s.toks + 1) (List.mem_cons_self ..) t.own.2 (let ⟨o, _, _, g, _⟩ := ns''; ⟨o, g⟩) kk) so
  have t₁ := t.forget y
  obtain ⟨o₁, es₁, ep₁, mc₁, ho₁, hd₁, ns₁, hv₁⟩ := t₁.vars
  have e0 : mc₁ = mc := funext (ns₁.agree ns)
  subst e0
  obtain ⟨o', es', ep', ho', hd', r'⟩ := id ns''
  refine ⟨fun b o e => kk b o (by rintro rfl; rw [t.own.2] at e; cases e) (t.base b o e), t.off, t.heap.keepBut t.own.1 kk nsl, fun env he => ?_, t.own, ⟨o', es', ep', _, ho', hd', ns'', fun i w h1 h2 h3 => ?_⟩, fun nn c hc' => ?_⟩
  · obtain ⟨hk, L, o1, es1, ep1, hf, hH, hb, ho1, hd1⟩ := t.frames env he
    by_cases q : L = F.env.locals
    · subst q; exact ⟨hk, _, o', es', ep', hf, hH, hb, ho', hd'⟩
    · exact ⟨hk, L, o1, es1, ep1, hf, hH, hb, kk L o1 q ho1, hd1⟩
  · obtain ⟨x, q, r⟩ := hv₁ i w h1 h2 h3
    have ne := (Loc.get_set0 h3).1
    have nn : slot F.nm i ≠ slot F.nm y := fun q => ne (fo.inj i y h1 vy q)
    exact ⟨x, by simp only [nn, if_false]; exact q, r.mono so⟩
  · obtain ⟨h1, h2, oc, z, hoc, hdc, hvc⟩ := t₁.cells nn c hc'
    have nc : c ≠ F.env.locals := by rintro rfl; rw [ho] at hoc; cases hoc; rw [hd] at hdc; cases hdc
    exact ⟨h1, h2, oc, z, kk c oc nc hoc, hdc, fun i w a b c' d => let ⟨z', q, r⟩ := hvc i w a b c' d; ⟨z', q, r.mono so⟩⟩
end
end Mine
end
section
open PySem PySem.Calls PyProof.Rows
namespace Mine
set_option autoImplicit false

section
variable {cx : Cx} {F : Fm} {m : Loc} {H H₁ : AHeap} {s s₁ : Shared} {kd : Kd} {n : Nat} {q : Bool} {e : Addr} {sc : Scope}

theorem St.touchAt {h h' : Heap} {I : Addr} (t : St cx F m H h) (hI : H I = none) (hB : cx.B.get? I = none) (ns : ∀ o, h.get? I = some o → ¬ Solid o) (nf : ∀ env ∈ F.fs, env.frame ≠ some I) (nl : F.env.locals ≠ I) (nc : ∀ n c, F.env.cells.lookup n = some c → c ≠ I)
    (k : ∀ b o, b ≠ I → h.get? b = some o → h'.get? b = some o) : St cx F m H h' := by
  have so : ∀ b o, h.get? b = some o → Solid o → h'.get? b = some o := fun b o e s => k b o (by rintro rfl; exact ns o e s) e
  refine ⟨fun b o e => k b o (by rintro rfl; rw [hB] at e; cases e) (t.base b o e), t.off, t.heap.keepBut hI k ns, fun env he => ?_, t.own, ?_, fun n c hc' => ?_⟩
  · obtain ⟨hk, L, o, es, ep, hf, hH, hb, ho, hd'⟩ := t.frames env he
    exact ⟨hk, L, o, es, ep, hf, hH, hb, k L o (by rintro rfl; exact nf env he hf) ho, hd'⟩
  · obtain ⟨o, es, ep, mc, ho, hd', ns', hv⟩ := t.vars
    exact ⟨o, es, ep, mc, k _ o nl ho, hd', ns'.at fun o e => k _ o nl e, fun i v h1 h2 h3 => let ⟨x, q, r⟩ := hv i v h1 h2 h3; ⟨x, q, r.mono so⟩⟩
  · obtain ⟨h1, h2, o, x, ho, hd', hv⟩ := t.cells n c hc'
    exact ⟨h1, h2, o, x, k c o (nc n c hc') ho, hd', fun i v a b c d => let ⟨y, q, r⟩ := hv i v a b c d; ⟨y, q, r.mono so⟩⟩

theorem assign_comp {elt iter : Expr} {ifs : List Expr} {x y : Nat} {px py pc pos : Pos} {N : NPost} {R : Post} {X : SXPost} {aT : BPost → Loc → AHeap → Prop} {aE : Post → Loc → AHeap → Prop}
    (fo : Fok cx n true kd F) (hsc : scOk kd (relab kd sc) sc (slot F.nm x) = true) (vy : F.vis y = true) (hky : kd (slot F.nm y) = some .local ∨ kd (slot F.nm y) = some .cell)
    (hIt : Ev (Rep cx) cx F (eval iter F.env) m H s (fun v H => itemsW v (fun xs src => compW src (fun y K H => aT (fun b H => if b then aE (fun v H => K [v] H) (m.set x (some y)) H else K [] H) (m.set x (some y)) H)
      (fun vs H => alloc (.list vs) (fun v H => N (m.set y (some v)) H) H) xs [] H) H) fun c H => X c m H)
    (hT : ∀ {cl : List (Str × Addr)} {C : Addr} {m' : Loc} {H : AHeap} {s : Shared} {Q : BPost}, Fok cx n true (relab kd sc) (compF F sc cl C x (relab kd sc)) → St cx (compF F sc cl C x (relab kd sc)) m' H s.heap → aT Q m' H →
      Ev IsBB cx (compF F sc cl C x (relab kd sc)) (testsSem ifs (compEnvC sc cl C F.env)) m' H s Q fun _ _ => False)
    (hE : ∀ {cl : List (Str × Addr)} {C : Addr} {m' : Loc} {H : AHeap} {s : Shared} {Q : Post}, Fok cx n true (relab kd sc) (compF F sc cl C x (relab kd sc)) → St cx (compF F sc cl C x (relab kd sc)) m' H s.heap → aE Q m' H →
      Ev (Rep cx) cx (compF F sc cl C x (relab kd sc)) (eval elt (compEnvC sc cl C F.env)) m' H s Q fun _ _ => False)
    (hs : ∀ x, foldedSetIterable iter F.env x = pure x) :
    EvS cx F (exec (.Assign [.Name (slot F.nm y) py] (.ListComp elt [⟨.Name (slot F.nm x) px, iter, ifs, 0⟩] sc pc) pos) F.env) H s N R X := by
  obtain ⟨b, hb⟩ : ∃ b, swapsWith (.ListComp elt [⟨.Name (slot F.nm x) px, iter, ifs, 0⟩] sc pc) (some (.Name (slot F.nm y) py)) pos.line F.env = pure b := ⟨_, rfl⟩
  cases b with
  | false =>
    refine wpAny_Assign_Name (wpAny_mono (comp_ok fo hsc hIt hT hE hs) (fun v s₁ h₁ => ?_) fun _ _ e => e.toS) hb
    obtain ⟨p, H₁, rv, t₁, k₁, hN⟩ := h₁
    exact store_name fo vy hky t₁ rv fun s' t' kp' _ => ⟨_, _, t', k₁.nil.trans kp', hN⟩
  | true =>
    have hsc' := hsc
    unfold scOk at hsc'
    simp only [Bool.and_eq_true, beq_iff_eq, decide_eq_true_eq] at hsc'
    obtain ⟨⟨⟨⟨⟨⟨⟨hkind, _⟩, _⟩, hnc⟩, hloc⟩, hfr⟩, hx⟩, _⟩ := hsc'
    obtain ⟨cl, hclos, hcl1, hcl2⟩ := closure_ok fo.cells hfr
    have hnames : ∀ y ∈ sc.names, y.2 = .local → sc.names.lookup y.1 = some .local := fun y hy hl => by
      have := List.all_eq_true.mp hloc y hy
      simp [hl] at this; exact this
    unfold EvS
    rw [exec_Assign_Name_used _ _ _ _ hb]
    refine wpAny_bind (wpAny_standAt (wpAny_bind ?_))
    show wpAny _ F.A (do let _ ← comprehension (.ListComp elt [⟨.Name (slot F.nm x) px, iter, ifs, 0⟩] sc pc) sc F.env _ (newList []) false (eval iter F.env) (some (assign (.Name (slot F.nm y) py) F.env))) _ _ s
    refine wpAny_bind (wpAny_mono (wpAny_comprehension_free (use := some (assign (.Name (slot F.nm y) py) F.env)) (Q := fun _ s' => OkS cx F H s N R .next s') rfl hs hclos hkind hnames
      (wpAny_mono hIt (fun xv s₁ h₁ => ?_) fun _ _ e => e.toS)) (fun _ s' hq => wpAny_pure (wpAny_pure hq)) fun _ _ e => e)
    obtain ⟨p, H₁, rv, t₁, k₁, hw⟩ := h₁
    refine iter_ok (F := F) rv t₁ hw fun I xs h' fI g it cI sr hl hc => ?_
    refine comp_block (RR := fun acc C => compPost cx.M F.A _ (some (assign (.Name (slot F.nm y) py) F.env)) _ acc C) fo hsc hcl1 hcl2 hT hE t₁ rfl g fI it cI hl hc ?_
    intro D C s' H' vs mc fC fD hDC ns hD hHD hHC hh k hq
    obtain ⟨t₂, k₂, hN⟩ := comp_fin' t₁ fC fD hDC ns hD hHD hHC hh k hq (Heap.SameBut.refl C s'.heap)
    refine wpAny_assign_Name (store_name fo vy hky t₂ (.obj D) fun s'' t'' kp'' _ => ?_)
    have bC : cx.B.get? C = none := by
      cases e : cx.B.get? C with
      | none => rfl
      | some o => rw [t₁.base _ _ e] at fC; cases fC
    have hH₂C : upd H' D (.list vs) C = none := by rw [upd_ne (Ne.symm hDC)]; exact hHC
    obtain ⟨oC, es, ep, gC, dC, rC⟩ := ns
    have npl : C ∉ plc F := fun hm => by
      rcases List.mem_cons.mp hm with q | hm
      · obtain ⟨o, _, _, _, g, _⟩ := t₁.vars; rw [← q, fC] at g; cases g
      · obtain ⟨p, _, hl⟩ := List.mem_filterMap.mp hm
        obtain ⟨_, _, o, _, g, _⟩ := t₁.cells _ C hl; rw [fC] at g; cases g
    obtain ⟨hC'', oC'', gC'', sm⟩ := kp''.keep C oC gC npl hH₂C
    refine ⟨mc, ⟨oC'', es, ep, gC'', sm.data.trans dC, rC⟩, fun h'' sb => ?_⟩
    have kk : ∀ b o, b ≠ C → s''.heap.get? b = some o → h''.get? b = some o := fun b o n e => by rw [sb.2 b n]; exact e
    have kp₀ : Kp cx (plc F) H s (upd H' D (.list vs)) { s'' with heap := h'' } := by
      have a : Kp cx (plc F) H₁ s₁ (upd H' D (.list vs)) s'' := k₂.nil.trans kp''
      exact k₁.nil.trans (a.touch (I := C) fC ⟨h'', s''.toks, rfl, kk⟩ bC)
    refine ⟨_, _, t''.touchAt (I := C) hC'' bC (fun o e => ?_) (fun env he hf => ?_) (fun q => ?_) (fun nn c hl q => ?_) kk, kp₀, hN⟩
    · rw [gC''] at e; cases e; exact notSolid_dict (sm.data.trans dC)
    · obtain ⟨_, L, o, _, _, hf', _, _, g, _⟩ := t₁.frames env he
      rw [hf] at hf'; cases hf'; rw [fC] at g; cases g
    · exact npl (by rw [← q]; exact List.mem_cons_self ..)
    · exact npl (by rw [← q]; exact mem_plc_cell hl)
end
end Mine
end
section
open PySem PySem.Calls PyProof.Rows
namespace Mine
set_option autoImplicit false
set_option linter.unusedSectionVars false
set_option linter.unusedVariables false

section
variable {cx : Cx} {g : Gl} {fl : List Str} {mg mb : Str → Option Value} {n : Nat}

theorem swaps_none (nm : List Str) (e : AE) (t : Option Expr) (l : Nat) (env : Env) (h : isComp e = false) : swapsWith (e.toE nm) t l env = pure false := by
  cases e with
  | comp => simp [isComp] at h
  | _ => rfl
theorem stores_none (nm : List Str) (e : AE) (xs : List Expr) (k : Nat) (p : Pos) (env : Env) (h : isTup e = false) : swappedStores [.Tuple xs k p] (e.toE nm) env = pure none := by
  cases e with
  | tup => simp [isTup] at h
  | _ => rfl
theorem noninter {F : Fm} {kd : Kd} {q : Bool} (fo : Fok cx n q kd F) : interactive F.env = false := by unfold interactive; rw [fo.kind]; rfl
theorem stOk_of {nm : List Str} {vis : Nat → Bool} {kd : Kd} {x : Nat} (h : stOk nm vis kd x = true) : vis x = true ∧ (kd (slot nm x) = some .local ∨ kd (slot nm x) = some .cell) := by
  simpa [stOk] using h

variable (ck : Cok cx g fl mg mb n)
include ck
mutual
theorem soundS : ∀ (st : AS) {F : Fm} {kd : Kd} {q : Bool} {m : Loc} {H : AHeap} {s : Shared} {N : NPost} {R : Post} {X : SXPost} {outer : List Env} {L : Addr}, Fok cx n q kd F → F.fs = F.env :: outer → F.env.frame = some L → okS fl F.nm F.vis kd q st = true → St cx F m H s.heap →
    awpS g st N R X m H → EvS cx F (exec (st.toS F.nm) F.env) H s N R X
  | .expr e p, F, kd, q, m, H, s, N, R, X, outer, L, fo, hfs, hf, ok, t, h => by
    replace ok := (show (_ && _) = true from ok); simp only [Bool.and_eq_true, Bool.not_eq_true'] at ok
    refine wpAny_Expr_any (wpAny_mono (soundE ck e fo ok.1 t h) (fun v s₁ h₁ => ?_) fun _ _ e => e.toS) (noninter fo) (swaps_none _ _ _ _ _ ok.2)
    obtain ⟨p, H₁, rv, t₁, k₁, h₁⟩ := h₁
    exact ⟨m, H₁, t₁, k₁.nil, h₁⟩
  | .assign x px e p, F, kd, q, m, H, s, N, R, X, outer, L, fo, hfs, hf, ok, t, h => by
    replace ok := (show (_ && _) = true from ok); simp only [Bool.and_eq_true] at ok
    obtain ⟨vx, hk⟩ := stOk_of ok.2
    by_cases hc : isComp e = true
    · cases e with
      | comp elt y py it cs sc pc =>
        have ok1 := ok.1
        replace ok1 := (show (_ && _) = true from ok1); simp only [Bool.and_eq_true, decide_eq_true_eq] at ok1
        obtain ⟨⟨⟨⟨⟨hit, hsc⟩, he⟩, hcs⟩, hlen⟩, rfl⟩ := ok1
        refine assign_comp (aT := fun Q m H => awpC g cs Q (fun _ _ => False) m H) (aE := fun Q m H => awpE g elt Q (fun _ _ => False) m H) fo hsc vx hk (soundE ck it fo hit t h) (fun {cl C m' H s Q} fo' t' h' => ?_) (fun {cl C m' H s Q} fo' t' h' => ?_) (folded_ok _ _ _)
        · exact soundC ck cs fo' hcs hlen t' h'
        · exact soundE ck elt fo' he t' h'
      | _ => simp [isComp] at hc
    · refine wpAny_Assign_Name (wpAny_mono (soundE ck e fo ok.1 t h) (fun v s₁ h₁ => ?_) fun _ _ e => e.toS) (swaps_none _ _ _ _ _ (by simpa using hc))
      obtain ⟨p, H₁, rv, t₁, k₁, hN⟩ := h₁
      exact store_name fo vx hk t₁ rv fun s' t' kp' _ => ⟨_, _, t', k₁.nil.trans kp', hN⟩
  | .assignT xs k pt e p, F, kd, q, m, H, s, N, R, X, outer, L, fo, hfs, hf, ok, t, h => by
    replace ok := (show (_ && _) = true from ok); simp only [Bool.and_eq_true, Bool.not_eq_true'] at ok
    obtain ⟨⟨⟨⟨rfl, he⟩, hc⟩, htp⟩, hxs⟩ := ok
    refine wpAny_Assign_stores (wpAny_mono (soundE ck e fo he t h) (fun v s₁ h₁ => ?_) fun _ _ e => e.toS) (by rw [show swapsWithSole [Expr.Tuple (xs.map fun x => Expr.Name (slot F.nm x.1) x.2) k pt] (AE.toE F.nm e) p.line F.env = swapsWith (AE.toE F.nm e) (some (Expr.Tuple (xs.map fun x => Expr.Name (slot F.nm x.1) x.2) k pt)) p.line F.env by unfold swapsWithSole; rfl]; exact swaps_none _ _ _ _ _ hc) (stores_none _ _ _ _ _ _ htp)
    obtain ⟨pv, H₁, rv, t₁, k₁, hu⟩ := h₁
    cases pv with
    | tup ys =>
      obtain ⟨hyl, hN⟩ := hu
      cases rv with
      | tup ge hle rs =>
        have nl := names_len F.nm F.env xs
        refine wpAny_assign_Tuple (x1 := k) (fo.quiet rfl) ⟨_, ge, rfl, _, rfl⟩ (by rw [nl.1, ← hyl, ← rs.length]; simp) nl.2 fun h' ex => ?_
        have g : ∀ b o, s₁.heap.get? b = some o → h'.get? b = some o := fun b o e => ex b o (Nat.ne_of_lt (Heap.lt_size e)) e
        have kp : Kp cx (plc F) H₁ s₁ H₁ { s₁ with heap := h' } := .grow (tk := s₁.toks) g fun _ _ _ e => e
        have kp0 : Kp cx [] H₁ s₁ H₁ { s₁ with heap := h' } := .grow (tk := s₁.toks) g fun _ _ _ e => e
        refine names_ok (s := { s₁ with heap := h' }) fo xs ys _ hyl.symm (fun x hx => stOk_of (List.all_eq_true.mp hxs x hx)) (rs.mono fun b o e _ => g b o e) (t₁.step kp0 (t₁.heap.grow g)) fun s' t' k' => ?_
        exact ⟨_, _, t', (k₁.nil.trans kp).trans k', hN⟩
    | _ => exact hu.elim
  | .store o i ps e p, F, kd, q, m, H, s, N, R, X, outer, L, fo, hfs, hf, ok, t, h => by
    replace ok := (show (_ && _) = true from ok); simp only [Bool.and_eq_true, Bool.not_eq_true'] at ok
    obtain ⟨⟨⟨ho, hi⟩, he⟩, hc⟩ := ok
    refine wpAny_Assign_Subscript (wpAny_mono (soundE ck e fo he t h) (fun v s₁ h₁ => ?_) fun _ _ e => e.toS) (swaps_none _ _ _ _ _ hc)
    obtain ⟨pv, H₁, rv, t₁, k₁, h₁⟩ := h₁
    refine wpAny_mono (soundE ck o fo ho t₁ h₁) (fun ov s₂ h₂ => ?_) fun _ _ e => (e.older k₁).toS
    obtain ⟨po, H₂, ro, t₂, k₂, h₂⟩ := h₂
    refine wpAny_mono (soundE ck i fo hi t₂ h₂) (fun iv s₃ h₃ => ?_) fun _ _ e => (e.older (k₁.trans k₂)).toS
    obtain ⟨pi, H₃, ri, t₃, k₃, h₃⟩ := h₃
    have so₂ := k₂.solid0 t₁.heap
    have so₃ := k₃.solid0 t₂.heap
    refine wpAny_mono (store_ok (X := fun c H => X c m H) (ro.mono so₃) ri ((rv.mono so₂).mono so₃) t₃ h₃) (fun _ s₄ h₄ => ?_) fun _ _ e => (e.older ((k₁.trans k₂).trans k₃)).toS
    obtain ⟨_, H₄, _, t₄, k₄, h₄⟩ := h₄
    exact ⟨m, H₄, t₄, (((k₁.trans k₂).trans k₃).trans k₄).nil, h₄⟩
  | .sattr .., F, kd, q, m, H, s, N, R, X, outer, L, fo, hfs, hf, ok, t, h => absurd (show false = true from ok) (by decide)
  | .ite c a b p, F, kd, q, m, H, s, N, R, X, outer, L, fo, hfs, hf, ok, t, h => by
    replace ok := (show (_ && _) = true from ok); simp only [Bool.and_eq_true] at ok
    obtain ⟨⟨hc, ha⟩, hb⟩ := ok
    refine wpAny_bind (wpAny_standAt ?_)
    refine EvS.after (soundB ck c fo hc (fun t h => soundE ck c fo hc t h) t h) fun v b' s₁ H₁ rv t₁ k₁ h₁ => ?_
    have rv : v = b' := rv
    subst rv
    cases v with
    | true => exact soundSs a fo hfs hf ha t₁ (by simpa using h₁)
    | false => exact soundSs b fo hfs hf hb t₁ (by simpa using h₁)
  | .for x px it b p, F, kd, q, m, H, s, N, R, X, outer, L, fo, hfs, hf, ok, t, h => by
    replace ok := (show (_ && _) = true from ok); simp only [Bool.and_eq_true] at ok
    obtain ⟨⟨⟨rfl, hit⟩, hx⟩, hb⟩ := ok
    obtain ⟨vx, hk⟩ := stOk_of hx
    exact for_ok (st := fun y K m H => awpSs g b K R X (m.set x (some y)) H) fo hfs hf vx hk t (soundE ck it fo hit t h) (fun t' h' => soundSs b fo hfs hf hb t' h') (folded_ok _ _ _)
  | .while c b p, F, kd, q, m, H, s, N, R, X, outer, L, fo, hfs, hf, ok, t, h => by
    replace ok := (show (_ && _) = true from ok); simp only [Bool.and_eq_true] at ok
    obtain ⟨⟨rfl, hc⟩, hb⟩ := ok
    obtain ⟨I, ⟨k, hI⟩, hstep⟩ := h
    refine wpAny_While (codeAny_whileLoop (fun k s' => ∃ m' H', St cx F m' H' s'.heap ∧ Kp cx (plc F) H s H' s' ∧ I k m' H') ?_ k ⟨m, H, t, .refl _ _ _ _, hI⟩)
    rintro k s' ⟨m', H', t', k', hI'⟩
    refine wpAny_mono (soundB ck c fo hc (fun t h => soundE ck c fo hc t h) t' (hstep k m' H' hI')) (fun v s₁ h₁ => ?_) fun v s₁ h₁ => ?_
    · obtain ⟨b', H₁, rv, t₁, k₁, h₁⟩ := h₁
      have rv : v = b' := rv
      subst rv
      cases v with
      | true =>
        simp only [if_true] at h₁ ⊢
        refine wpAny_mono (soundSs b fo hfs hf hb t₁ h₁) (fun f s₂ h₂ => ?_) fun v s₂ h₂ => ?_
        · have h₂ := OkS.older (k'.trans k₁.nil) h₂
          cases f with
          | next => obtain ⟨m₂, H₂, t₂, k₂, j, hj, hI₂⟩ := h₂; exact ⟨j, hj, m₂, H₂, t₂, k₂, hI₂⟩
          | ret v => exact h₂
          | brk => exact h₂.elim
          | cont => exact h₂.elim
        · exact noted_ok fo.fr hfs hf t.base (ErS.older (k'.trans k₁.nil) h₂)
      | false =>
        simp only [Bool.false_eq_true, if_false] at h₁ ⊢
        exact wpAny_execs_nil ⟨m', H₁, t₁, k'.trans k₁.nil, h₁⟩
    · exact noted_ok fo.fr hfs hf t.base (ErS.older k' (ErP.toS h₁))
  | .ret e p, F, kd, q, m, H, s, N, R, X, outer, L, fo, hfs, hf, ok, t, h => by
    refine wpAny_Return_some (wpAny_mono (soundE ck e fo ok t h) (fun v s₁ h₁ => ?_) fun _ _ e => e.toS)
    obtain ⟨p, H₁, rv, t₁, k₁, h₁⟩ := h₁
    exact ⟨p, m, H₁, rv, t₁, k₁.nil, h₁⟩
  | .ret0 p, F, kd, q, m, H, s, N, R, X, outer, L, fo, hfs, hf, ok, t, h => wpAny_Return_none ⟨.none, m, H, .none, t, .refl _ _ _ _, h⟩
  | .raise c x msg k pc pm pk p, F, kd, q, m, H, s, N, R, X, outer, L, fo, hfs, hf, ok, t, h => by
    replace ok := (show (_ && _) = true from ok); simp only [Bool.and_eq_true, beq_iff_eq] at ok
    obtain ⟨⟨rfl, hx⟩, ho⟩ := ok
    exact ck.rais fo hx ho t fun e s' y t' k' => ⟨e, c, m, H, rfl, y, t', k'.nil, h⟩
  | .try b hs p, F, kd, q, m, H, s, N, R, X, outer, L, fo, hfs, hf, ok, t, h => by
    replace ok := (show (_ && _) = true from ok); simp only [Bool.and_eq_true, Bool.not_eq_true'] at ok
    obtain ⟨⟨⟨rfl, hb⟩, hh⟩, hnil⟩ := ok
    cases hs with
    | nil => simp [AHs.isNil] at hnil
    | cons k x px y b' p' hs' =>
      have hsb : EvS cx F (execs (b.toSs F.nm) F.env) H s N R (fun c m H => awpHs g (.cons k x px y b' p' hs') c N R m H) := soundSs b fo hfs hf hb t h
      refine wpAny_Try_except (wpAny_mono hsb (fun f s₁ h₁ => ?_) fun v s₁ h₁ => ?_)
      · cases f with
        | next => exact wpAny_execs_nil h₁
        | ret v => exact h₁
        | brk => exact h₁
        | cont => exact h₁
      · obtain ⟨e, c, m', H', rfl, y', t', k', h'⟩ := h₁
        refine note_ok fo.fr hfs hf t' k' t.base y' fun s₂ t₂ k₂ x₂ => ?_
        refine unflight_ok t₂ k₂ t.base x₂ fun s₃ t₃ k₃ x₃ => ?_
        exact soundHs (.cons k x px y b' p' hs') fo hfs hf hh t₃ t.base k₃ x₃ h'
theorem soundSs : ∀ (ss : ASs) {F : Fm} {kd : Kd} {q : Bool} {m : Loc} {H : AHeap} {s : Shared} {N : NPost} {R : Post} {X : SXPost} {outer : List Env} {L : Addr}, Fok cx n q kd F → F.fs = F.env :: outer → F.env.frame = some L → okSs fl F.nm F.vis kd q ss = true → St cx F m H s.heap →
    awpSs g ss N R X m H → EvS cx F (execs (ss.toSs F.nm) F.env) H s N R X
  | .nil, F, kd, q, m, H, s, N, R, X, outer, L, fo, hfs, hf, ok, t, h => wpAny_execs_nil ⟨m, H, t, .refl _ _ _ _, h⟩
  | .cons st ss, F, kd, q, m, H, s, N, R, X, outer, L, fo, hfs, hf, ok, t, h => by
    replace ok := (show (_ && _) = true from ok); simp only [Bool.and_eq_true] at ok
    exact EvS.seq (soundS st fo hfs hf ok.1 t h) fun m₁ s₁ H₁ t₁ h₁ => soundSs ss fo hfs hf ok.2 t₁ h₁
theorem soundHs : ∀ (hs : AHs) {F : Fm} {kd : Kd} {m : Loc} {H H₀ : AHeap} {s s₀ : Shared} {N : NPost} {R : Post} {outer : List Env} {L e : Addr} {c : Nat} {E : Value → Shared → Prop}, Fok cx n true kd F → F.fs = F.env :: outer → F.env.frame = some L → okHs fl F.nm F.vis kd hs = true → St cx F m H s.heap →
    cx.B.StaysIn s₀.heap → Kp cx (plc F) H₀ s₀ H s → ExcOut cx s₀.heap s.heap e c → awpHs g hs c N R m H → wpAny cx.M F.A (handleBy (.ref e) F.env (hs.toHs F.nm)) (OkS cx F H₀ s₀ N R) E s
  | .nil, F, kd, m, H, H₀, s, s₀, N, R, outer, L, e, c, E, fo, hfs, hf, ok, t, t₀, k, x, h => by simp [awpHs] at h
  | .cons kc xn px y b p hs, F, kd, m, H, H₀, s, s₀, N, R, outer, L, e, c, E, fo, hfs, hf, ok, t, t₀, k, x, h => by
    replace ok := (show (_ && _) = true from ok); simp only [Bool.and_eq_true, beq_iff_eq, Bool.not_eq_true'] at ok
    obtain ⟨⟨⟨⟨⟨hg, ho⟩, hy⟩, hb⟩, hnil⟩, hhs⟩ := ok
    obtain ⟨C, hC, hm⟩ := ck.own xn kc ho
    have fo' : Fok cx n false kd (F.mark (.ref e)) := fo.mark
    refine wpAny_handleBy_cons (codeAny_handlers_test (glob_ok (F := F.mark (.ref e)) fo' hg t.mark ck.gns hm ?_)) (by intro q; cases q)
    refine ck.mats t.base x.rep hC fun tk => ?_
    have k' : Kp cx (plc F) H₀ s₀ H { s with toks := tk } := k.trans (.grow (fun _ _ e => e) fun _ _ _ e => e)
    have h' := h
    simp only [awpHs] at h'
    cases hsub : isSub c kc with
    | false =>
      rw [hsub] at h'
      simp only [Bool.false_eq_true, if_false] at h'
      exact soundHs hs (s := { s with toks := tk }) fo hfs hf hhs t t₀ k' x h'
    | true =>
      rw [hsub] at h'
      simp only [if_true] at h'
      cases b with
      | nil => simp [ASs.isNil] at hnil
      | cons b₀ bs =>
        cases y with
        | none =>
          refine codeAny_handlers_suite ?_
          refine unflight_ok (s₁ := { s with toks := tk }) t k' t₀ x fun s₂ t₂ k₂ x₂ => ?_
          have := soundSs (.cons b₀ bs) (F := F.mark (.ref e)) fo' hfs hf hb t₂.mark h'
          exact wpAny_mono this (fun f s₃ h₃ => (OkS.unmark h₃).older k₂) fun _ _ ⟨_, _, _, _, _, _, _, _, f⟩ => f.elim
        | some y =>
          simp only [Bool.and_eq_true, beq_iff_eq] at hy
          refine codeAny_handlers_suite_as ?_
          refine unflight_ok (s₁ := { s with toks := tk }) t k' t₀ x fun s₂ t₂ k₂ x₂ => ?_
          refine store_name fo hy.1 (.inl hy.2) t₂ x₂.rep fun s₃ t₃ k₃ _ => ?_
          have := soundSs (.cons b₀ bs) (F := F.mark (.ref e)) fo' hfs hf hb t₃.mark h'
          refine wpAny_mono this (fun f s₄ h₄ => ?_) fun _ _ ⟨_, _, _, _, _, _, _, _, f⟩ => f.elim
          have h₅ := (OkS.unmark h₄).older (k₂.trans k₃)
          cases f with
          | next =>
            obtain ⟨m₅, H₅, t₅, k₅, hN⟩ := h₅
            exact unbind_ok fo hy.1 hy.2 t₅ fun s₆ t₆ k₆ _ => ⟨_, _, t₆, k₅.trans k₆, hN⟩
          | ret v =>
            obtain ⟨p, m₅, H₅, r₅, t₅, k₅, hR⟩ := h₅
            exact unbind_ok fo hy.1 hy.2 t₅ fun s₆ t₆ k₆ so => ⟨p, _, _, r₅.mono so, t₆, k₅.trans k₆, hR⟩
          | brk => exact h₅.elim
          | cont => exact h₅.elim
end
end
end Mine
end
section
open PySem PySem.Calls PyProof.Rows
namespace Mine
set_option autoImplicit false

structure FnOk (cx : Cx) (fl : List Str) (fd : FuncData) (nm : List Str) (np k : Nat) (kd : Kd) (body : ASs) : Prop where
  glob : fd.globals = cx.ga
  bltn : fd.builtins = cx.ba
  clo : fd.closure = []
  co : fd.scope.isCoroutine = false
  gen : fd.scope.isGenerator = false
  kind : fd.scope.kind = .function
  kdo : kd = fun x => fd.scope.names.lookup x
  nofree : (fd.scope.names.all fun p => p.2 != .free) = true
  bdy : fd.body = .stmts (body.toSs nm)
  bind : ∀ vals : List Value, vals.length = np → bindArgs fd ⟨vals, []⟩ = pure ((nm.take np).zip vals)
  nodup : (nm.take k).Nodup
  le : np ≤ k ∧ k ≤ nm.length
  pkind : ((nm.take np).all fun x => fd.scope.names.lookup x == some .local || fd.scope.names.lookup x == some .cell) = true
  okb : okSs fl nm (fun i => decide (i < k)) (fun x => fd.scope.names.lookup x) true body = true

section
variable {kindOf : Str → Option NameKind}
theorem bindL_other {y : Str} : ∀ (bs : List (Str × Value)) (m : Str → Option Value), y ∉ bs.map (·.1) → bindL kindOf bs m y = m y
  | [], _, _ => rfl
  | (x, v) :: r, m, h => by
    simp only [List.map_cons, List.mem_cons, not_or] at h
    unfold bindL
    rw [bindL_other r _ h.2]
    split
    · simp [h.1]
    · rfl
theorem bindC_other {y : Str} : ∀ (bs : List (Str × Value)) (m : Str → Option Value), y ∉ bs.map (·.1) → bindC kindOf bs m y = m y
  | [], _, _ => rfl
  | (x, v) :: r, m, h => by
    simp only [List.map_cons, List.mem_cons, not_or] at h
    unfold bindC
    rw [bindC_other r _ h.2]
    split
    · rfl
    · simp [h.1]
theorem bindL_at {y : Str} {v : Value} (hk : kindOf y = some .local) : ∀ (bs : List (Str × Value)) (m : Str → Option Value), (bs.map (·.1)).Nodup → (y, v) ∈ bs → bindL kindOf bs m y = some v
  | [], _, _, h => by simp at h
  | (x, w) :: r, m, hn, h => by
    simp only [List.map_cons, List.nodup_cons] at hn
    unfold bindL
    rcases List.mem_cons.mp h with e | h
    · cases e
      rw [bindL_other r _ hn.1, if_pos hk]; simp
    · exact bindL_at hk r _ hn.2 h
theorem bindC_at {y : Str} {v : Value} (hk : kindOf y ≠ some .local) : ∀ (bs : List (Str × Value)) (m : Str → Option Value), (bs.map (·.1)).Nodup → (y, v) ∈ bs → bindC kindOf bs m y = some v
  | [], _, _, h => by simp at h
  | (x, w) :: r, m, hn, h => by
    simp only [List.map_cons, List.nodup_cons] at hn
    unfold bindC
    rcases List.mem_cons.mp h with e | h
    · cases e
      rw [bindC_other r _ hn.1, if_neg hk]; simp
    · exact bindC_at hk r _ hn.2 h
end

theorem cellsFrom_has {x : Str} : ∀ (names : List (Str × NameKind)) (n : Nat) (acc : List (Str × Addr)), ((x, NameKind.cell) ∈ names ∨ (acc.lookup x).isSome = true) → ((cellsFrom n names acc).lookup x).isSome = true
  | [], _, acc, h => by rcases h with h | h; simp at h; exact h
  | (y, k) :: r, n, acc, h => by
    unfold cellsFrom
    split
    · refine cellsFrom_has r _ _ ?_
      rcases h with h | h
      · rcases List.mem_cons.mp h with e | h
        · cases e; right; simp
        · exact .inl h
      · right; rw [List.lookup_cons]; split <;> simp_all
    · rename_i hk
      refine cellsFrom_has r _ _ ?_
      rcases h with h | h
      · rcases List.mem_cons.mp h with e | h
        · cases e; simp at hk
        · exact .inl h
      · exact .inr h
theorem lookup_mem {α : Type} {l : List (Str × α)} {x : Str} {k : α} (h : l.lookup x = some k) : (x, k) ∈ l := mem_of_lookup h

noncomputable def initL (nm : List Str) (np : Nat) (ps : List PV) : Loc := ps.map some ++ List.replicate (nm.length - np) none

section
variable {cx : Cx} {g : Gl} {fl : List Str} {mg mb : Str → Option Value} {n : Nat}

theorem core_fn (ck : Cok cx g fl mg mb n) {fd : FuncData} {nm : List Str} {np k : Nat} {kd : Kd} {body : ASs} {a : Addr} {o : Obj} (fn : FnOk cx fl fd nm np k kd body) (lim : cx.B.NoLimit) (ho : cx.B.get? a = some o) (hd : o.data = .func fd) (hcd : cx.B.CodeRec fd.code fd.qualname)
    {A : Around} {fs : List Env} {H : AHeap} {s : Shared} {vs : List Value} {ps : List PV} {Q : Post} {X : XPost} {R : Result → Shared → Prop} (hfr : A.frames = some fs) (hqu : A.handled = none) (hdep : A.depth + (n + 1) ≤ 900) (huni : A.units + 4 * (n + 1) + 200 ≤ cLine)
    (tb : cx.B.StaysIn s.heap) (toff : ∀ b o, cx.B.get? b = some o → H b = none) (th : Holds cx s.heap H) (tfr : ∀ env ∈ fs, FrAt cx H s.heap env) (rs : RepL cx s.heap vs ps) (hlen : ps.length = np)
    (h : awpSs g body (fun _ H => Q .none H) Q (fun c _ H => X c H) (initL nm np ps) H)
    (hR : ∀ v p H' s', Rep cx s'.heap v p → Kp cx [] H s H' s' → Holds cx s'.heap H' → Q p H' → R (.ok (.ret v)) s')
    (hX : ∀ e c H' s', ExcOut cx s.heap s'.heap e c → Kp cx [] H s H' s' → Holds cx s'.heap H' → X c H' → R (.error (.ref e)) s') : codeAny cx.M A (.call (.ref a) ⟨vs, []⟩) R s := by
  have hvl : vs.length = np := by rw [rs.length]; exact hlen
  have fresh : ∀ b, s.heap.objs.size ≤ b → s.heap.get? b = none := fun b hb => get_ge_none hb
  have bnone : ∀ b, s.heap.objs.size ≤ b → cx.B.get? b = none := fun b hb => by
    cases e : cx.B.get? b with
    | none => rfl
    | some o => have := fresh b hb; rw [tb _ _ e] at this; cases this
  have hnd : ((nm.take np).Nodup) := by
    have h1 : nm.take np = (nm.take k).take np := by rw [List.take_take, Nat.min_eq_left fn.le.1]
    rw [h1]; exact fn.nodup.sublist (List.take_sublist _ _)
  have htl : (nm.take np).length = np := by rw [List.length_take]; have := fn.le; first | lia | omega
  have hmapz : ((nm.take np).zip vs).map (·.1) = nm.take np := by rw [List.map_fst_zip]; first | lia | omega
  refine (codeAny_call_cells (binds := (nm.take np).zip vs) (by show _ < 1000; first | lia | omega) (tb _ _ ho) hd (lim.keeps tb) (hcd.keeps tb) fn.bdy (fn.bind vs hvl) fn.clo (fun x hx => ?_) (fun s₁ ic => ?_) fn.co fn.gen fn.kind)
  · have hx1 : x.1 ∈ nm.take np := by rw [← hmapz]; exact List.mem_map_of_mem hx
    have := List.all_eq_true.mp fn.pkind x.1 hx1
    simp only [Bool.or_eq_true, beq_iff_eq] at this
    rcases this with h1 | h1
    · exact .inl h1
    · exact .inr ⟨h1, cellsFrom_has _ _ _ (.inl (lookup_mem h1))⟩
  · generalize hEnv : callEnvC fd s.heap.objs.size a = env at ic ⊢
    have eL : env.locals = s.heap.objs.size := by rw [← hEnv]; rfl
    have eF : env.frame = some s.heap.objs.size := by rw [← hEnv]; rfl
    have eK : env.kindOf = fun x => fd.scope.names.lookup x := by rw [← hEnv]; rfl
    have eC : env.cells = cellsFrom (s.heap.objs.size + 1) fd.scope.names [] := by rw [← hEnv]; rfl
    have eG : env.globals = cx.ga := by rw [← hEnv, ← fn.glob]; rfl
    have eB : env.builtins = cx.ba := by rw [← hEnv, ← fn.bltn]; rfl
    have eS : env.scope.kind = .function := by rw [← hEnv]; exact fn.kind
    have eD : fd.scope.names = env.scope.names := by rw [← hEnv]; rfl
    clear hEnv
    have keep := ic.toInCall.keep
    have so : ∀ b o, s.heap.get? b = some o → Solid o → s₁.heap.get? b = some o := fun b o e _ => keep b o e
    let F' : Fm := { A := A.deeper env, env := env, fs := env :: fs, nm := nm, vis := fun i => decide (i < k) }
    have memz : ∀ i v, i < k → (initL nm np ps).getD i none = some v → ∃ x, (slot nm i, x) ∈ (nm.take np).zip vs ∧ Rep cx s₁.heap x v := fun i v hi hv => by
      have hlt : i < np := by
        apply Classical.byContradiction
        intro hge
        have : (initL nm np ps).getD i none = none := by
          unfold initL
          rw [List.getD_eq_getElem?_getD, List.getElem?_append_right (by simp; first | lia | omega)]
          cases e : (List.replicate (nm.length - np) (none : Option PV))[i - (ps.map some).length]? with
          | none => rfl
          | some o => rw [List.getElem?_replicate] at e; split at e <;> simp_all
        rw [this] at hv; cases hv
      have hp : ps[i]? = some v := by
        unfold initL at hv
        rw [List.getD_eq_getElem?_getD, List.getElem?_append_left (by simp; first | lia | omega)] at hv
        rw [List.getElem?_map] at hv
        cases e : ps[i]? with
        | none => rw [e] at hv; simp at hv
        | some w => rw [e] at hv; simp at hv; rw [hv]
      obtain ⟨x, ex, rx⟩ := rs.get hp
      refine ⟨x, ?_, rx.mono so⟩
      have hin : i < nm.length := by have := fn.le; first | lia | omega
      have e1 : (nm.take np)[i]? = some (slot nm i) := by
        rw [List.getElem?_take, if_pos hlt]
        unfold slot
        rw [List.getD_eq_getElem?_getD, List.getElem?_eq_getElem hin]; rfl
      have : ((nm.take np).zip vs)[i]? = some (slot nm i, x) := by rw [List.getElem?_zip_eq_some]; exact ⟨e1, ex⟩
      exact List.mem_of_getElem? this
    have fo' : Fok cx n true kd F' := by
      refine ⟨?_, eS, by rw [fn.kdo]; exact eK, eG, eB, fun _ => hqu, ?_, ?_, fun x hx => ?_, fun x y c h1 h2 => ?_, fun i j hi hj e => ?_⟩
      · show (A.deeper env).frames = some (env :: fs)
        unfold Around.deeper; rw [hfr]; rfl
      · show A.depth + 1 + n ≤ 900; first | lia | omega
      · show A.units + 3 + 4 * n + 200 ≤ cLine; first | lia | omega
      · rw [fn.kdo] at hx
        rcases hx with hx | hx
        · exact Option.isSome_iff_exists.mp (by show (env.cells.lookup x).isSome = true; rw [eC]; exact cellsFrom_has _ _ _ (.inl (lookup_mem hx)))
        · have := List.all_eq_true.mp fn.nofree _ (lookup_mem hx)
          simp at this
      · exact name_of_addr ic.apart (mem_of_lookup h1) (mem_of_lookup h2)
      · have hi' : i < k := of_decide_eq_true hi
        have hj' : j < k := of_decide_eq_true hj
        have hl := fn.le.2
        have ei : (nm.take k)[i]? = some (slot nm i) := by
          rw [List.getElem?_take, if_pos hi']; unfold slot; rw [List.getD_eq_getElem?_getD, List.getElem?_eq_getElem (by first | lia | omega)]; rfl
        have ej : (nm.take k)[j]? = some (slot nm j) := by
          rw [List.getElem?_take, if_pos hj']; unfold slot; rw [List.getD_eq_getElem?_getD, List.getElem?_eq_getElem (by first | lia | omega)]; rfl
        have e' : slot nm i = slot nm j := e
        rw [e'] at ei
        exact (List.getElem?_inj (by rw [List.length_take]; first | lia | omega) fn.nodup).mp (by rw [ei, ej])
    have st' : St cx F' (initL nm np ps) H s₁.heap := by
      obtain ⟨oL, es, ep, gL, dL, rL⟩ := id ic.toInCall.ns
      rw [eL] at gL
      refine ⟨fun b o e => keep b o (tb b o e), toff, th.grow keep, fun env' he => ?_, ⟨?_, ?_⟩, ⟨oL, es, ep, _, by rw [← eL] at gL; exact gL, dL, ic.toInCall.ns, fun i v h1 h2 h3 => ?_⟩, fun nn c hc => ?_⟩
      · rcases List.mem_cons.mp he with rfl | he
        · exact ⟨by rw [eS]; decide, s.heap.objs.size, oL, es, ep, eF, th.fresh (fresh _ (Nat.le_refl _)), bnone _ (Nat.le_refl _), gL, dL⟩
        · obtain ⟨hk, L, o, es, ep, hf, hH, hb, ho, hd'⟩ := tfr env' he
          exact ⟨hk, L, o, es, ep, hf, hH, hb, keep L o ho, hd'⟩
      · show H env.locals = none
        rw [eL]; exact th.fresh (fresh _ (Nat.le_refl _))
      · show cx.B.get? env.locals = none
        rw [eL]; exact bnone _ (Nat.le_refl _)
      · obtain ⟨x, hx, rx⟩ := memz i v (of_decide_eq_true h1) h3
        exact ⟨x, bindL_at h2 _ _ (by rw [hmapz]; exact hnd) hx, rx⟩
      · obtain ⟨oc, gc, dc⟩ := ic.cell nn c hc
        have hlt := ic.above nn c (mem_of_lookup hc)
        rw [eL] at hlt
        refine ⟨th.fresh (fresh _ (Nat.le_of_lt hlt)), bnone _ (Nat.le_of_lt hlt), oc, _, gc, dc, fun i v h1 h2 h3 h4 => ?_⟩
        obtain ⟨x, hx, rx⟩ := memz i v (of_decide_eq_true h1) h4
        subst h2
        exact ⟨x, bindC_at h3 _ _ (by rw [hmapz]; exact hnd) hx, rx⟩
    have kp₁ : Kp cx (plc F') H s H s₁ := by
      obtain ⟨h', tk, e⟩ := ic.toInCall.same
      rw [e]
      exact .grow (fun b o q => by have := keep b o q; rw [e] at this; exact this) fun _ _ _ q => q
    have down : ∀ {H' : AHeap} {s' : Shared}, Kp cx (plc F') H s H' s' → Kp cx [] H s H' s' := fun {H' s'} kp => kp.sub fun b o e hb => by
      exfalso
      rcases List.mem_cons.mp hb with q | hb
      · rw [q] at e; have : s.heap.get? env.locals = none := by rw [eL]; exact fresh _ (Nat.le_refl _)
        rw [show F'.env.locals = env.locals from rfl, this] at e; cases e
      · obtain ⟨p, _, hl⟩ := List.mem_filterMap.mp hb
        have hlt := ic.above p.1 b (mem_of_lookup hl)
        rw [eL] at hlt
        rw [fresh b (Nat.le_of_lt hlt)] at e; cases e
    have body := soundSs ck body (F := F') (outer := fs) (L := s.heap.objs.size) fo' rfl eF (by rw [fn.kdo]; exact fn.okb) st' h
    refine wpAny_mono body (fun f s' h' => ?_) fun e s' h' => ?_
    · cases f with
      | next =>
        obtain ⟨m', H', t', kp', hq⟩ := h'
        exact hR .none .none H' _ .none (down (kp₁.trans kp')) t'.heap hq
      | ret v =>
        obtain ⟨p, m', H', rv, t', kp', hq⟩ := h'
        exact hR v p H' _ rv (down (kp₁.trans kp')) t'.heap hq
      | brk => exact h'.elim
      | cont => exact h'.elim
    · obtain ⟨e, c, m', H', rfl, x', t', kp', hx⟩ := h'
      have kpp := kp₁.trans kp'
      have x₀ := x'.older kp₁.alive
      unfold leaving
      refine wpAny_bind (note_ok (F := F') (outer := fs) fo'.fr rfl eF t' kpp tb x₀ fun s₂ t₂ k₂ x₂ => ?_)
      refine unflight_ok t₂ k₂ tb x₂ fun s₃ t₃ k₃ x₃ => ?_
      exact hX e c H' _ x₃ (down k₃) t₃.heap hx
theorem call_fn (ck : Cok cx g fl mg mb n) {fd : FuncData} {nm : List Str} {np k : Nat} {kd : Kd} {body : ASs} {a : Addr} {o : Obj} (fn : FnOk cx fl fd nm np k kd body) (lim : cx.B.NoLimit) (ho : cx.B.get? a = some o) (hd : o.data = .func fd) (hcd : cx.B.CodeRec fd.code fd.qualname)
    {F : Fm} {kdF : Kd} {m : Loc} {H : AHeap} {s : Shared} {vs : List Value} {ps : List PV} {Q : Post} {X : XPost} (fF : Fok cx (n + 1) true kdF F) (rs : RepL cx s.heap vs ps) (hlen : ps.length = np) (t : St cx F m H s.heap)
    (h : awpSs g body (fun _ H => Q .none H) Q (fun c _ H => X c H) (initL nm np ps) H) : Ev (Rep cx) cx F (call (.ref a) vs []) m H s Q X :=
  wpAny_call (core_fn ck fn lim ho hd hcd fF.fr (fF.quiet rfl) fF.depth fF.units t.base t.off t.heap t.frames rs hlen h (fun v p H' s' rv kp hh q => ⟨p, H', rv, t.step kp hh, kp, q⟩) fun e c H' s' x kp hh q => ⟨e, c, H', rfl, x.exc, t.step kp hh, kp, q⟩)
end
end Mine
end
section
open PySem PySem.W PySem.Calls PyProof.Rows
namespace Mine
set_option autoImplicit false
set_option maxRecDepth 100000

/-! the program's globals, told from its laid heap -/
noncomputable def kmg (K : Frag) (x : Str) : Option Value := match K.lookup mainGlobals with
  | some o => (match o.data with | .dict es _ => nsFind es x | _ => none)
  | none => none
theorem kmg_eq {K : Frag} {h : Heap} {mg : Str → Option Value} (X : K.In h) (hs : (K.lookup mainGlobals).isSome = true) (hn : h.Ns mainGlobals mg) : mg = kmg K := by
  obtain ⟨o, e⟩ := Option.isSome_iff_exists.mp hs
  rw [hn.eq_nsMap]
  funext x
  unfold Heap.nsMap kmg
  rw [X _ _ e, e]
  cases o.data <;> rfl

noncomputable def ownChk (K : Frag) (cs : List Addr) : Bool := onms.all fun p => kmg K p.1 == (cs[p.2]?).map Value.ref && (cs[p.2]?).isSome
noncomputable def clsChk (K : Frag) (D : Addr) : Bool := ((findIn K (.ref D) "__getattribute__" == some (some (.builtin "BaseException.__getattribute__"))) && (findIn K (.ref D) "__getattr__" == some none) && (subIn K (.ref D) (.type "BaseException") == some true)) && (clsIn K D).isSome && (findIn K (.ref D) "__class__" == some (some (.builtin "object.__class__")))
  && (specialIn K (.builtin "object.__class__") "__get__" == some (some (.builtin "getset_descriptor.__get__"))) && (takesIn K (.builtin "object.__class__") == some true) && (mroIn K D (.type "object") == some true)
  && (kitOne K (.ref D) (.type "ValueError") == some true)
noncomputable def excChk (K : Frag) (cs : List Addr) : Bool := cs.all (clsChk K) && (List.range cs.length).all fun k => (List.range cs.length).all fun c =>
  match cs[k]?, cs[c]? with
  | some A, some B => (kitOne K (.ref A) (.ref B) == some (isSub k c)) && (exmOne K (.ref A) (.ref B) == some (isSub k c))
  | _, _ => false
noncomputable def bltNames : List Str := ["len", "list", "tuple", "range", "max", "min", "int", "str", "all", "any", "abs", "isinstance", "bool", "ValueError"]
noncomputable def bltChk (K : Frag) : Bool := bltNames.all fun x => kmg K x == none

theorem excChk_at {K : Frag} {cs : List Addr} (h : excChk K cs = true) {k c : Nat} {A B : Addr} (hk : cs[k]? = some A) (hc : cs[c]? = some B) : clsChk K A = true ∧ kitOne K (.ref A) (.ref B) = some (isSub k c) ∧ exmOne K (.ref A) (.ref B) = some (isSub k c) := by
  unfold excChk at h
  simp only [Bool.and_eq_true] at h
  have h1 := List.all_eq_true.mp h.1 A (List.mem_of_getElem? hk)
  have kl : k < cs.length := (List.getElem?_eq_some_iff.mp hk).1
  have cl : c < cs.length := (List.getElem?_eq_some_iff.mp hc).1
  have h2 := List.all_eq_true.mp (List.all_eq_true.mp h.2 k (List.mem_range.mpr kl)) c (List.mem_range.mpr cl)
  rw [hk, hc] at h2
  simp only [Bool.and_eq_true, beq_iff_eq] at h2
  exact ⟨h1, h2.1, h2.2⟩

section
variable {K : Frag} {x D : Addr} {ox : Obj} {prog : Program} {w : World} {A : Around} {E : Value → Shared → Prop} {s : Shared}
theorem exc_class {Q : Option Value → Shared → Prop} (X : K.In s.heap) (I : InstAt s.heap x ox D none) (hga : findIn K (.ref D) "__getattribute__" = some (some (.builtin "BaseException.__getattribute__")))
    (hgr : findIn K (.ref D) "__getattr__" = some none) (hf : findObj K D none "__class__" = some (.bind (.builtin "getset_descriptor.__get__") (.builtin "object.__class__"))) (hsub : subIn K (.ref D) (.type "BaseException") = some true) (hm : mroIn K D (.type "object") = some true)
    (h : Q (some (.ref D)) { s with toks := s.toks + 1 }) : wpAny (model prog w) A (getAttr? (.ref x) "__class__") Q E s := by
  obtain ⟨hh, g, d, t, os⟩ := s
  have L0 := I.type (M := model prog w)
  have L1 := looks_findIn (M := model prog w) X hga
  have L2 := looks_findIn (M := model prog w) X hgr
  have L3 := looks_find (M := model prog w) X I hf
  have L4 := looks_subIn (M := model prog w) X hsub
  have hx2 : (Value.builtin "BaseException.__getattribute__" == Value.builtin "object.__getattribute__") = false := by decide +kernel
  have hx1 : (onTheHeap (Value.ref D) && Value.builtin "BaseException.__getattribute__" == Value.builtin "object.__getattribute__") = false := by rw [hx2]; rfl
  have f3 := PySem.F.attr_ValueError.ga.bind (.ref x)
  unfold getAttr? getAttrBy? getAttrBy
  refine wpAny_bind (wpAny_mkText (wpAny_bind (wpAny_attempt (wpAny_holding (wpAny_bind (L0.at (wpAny_bind (L1.at ?_))))))))
  simp only [hx1, Bool.false_eq_true, if_false]
  unfold getAttrByItsOwn hookBefore
  rw [if_pos (show onTheHeap (Value.ref D) = true from rfl)]
  refine wpAny_bind (L2.at ?_)
  refine wpAny_bind (wpAny_attempt (wpAny_holding ?_))
  unfold callGetattribute
  rw [if_neg (by simp)]
  unfold boundAndCalled
  rw [f3]
  refine wpAny_bind (wpAny_pure (wpAny_call (codeAny_call_builtin PySem.F.attr_ValueError.ga.plain PySem.F.entry_bexc_ga ?_)))
  have hk : builtinKind "BaseException.__getattribute__" = some .slot := by decide +kernel
  have hsplit : splitId "BaseException.__getattribute__" = some ("BaseException", "__getattribute__") := by decide +kernel
  have ha := PySem.F.args_bexc_ga (.ref x) (.str "__class__" t)
  have L5 : Looks (model prog w) hh (isInstance (.ref x) (.type "BaseException")) true := L0.andThen L4
  simp only [checkBuiltinCall, hk, hsplit]
  refine wpAny_bind (L5.at ?_)
  rw [if_neg (by simp)]
  have body : wpAny (model prog w) A.in1 (Builtin.«object.__getattribute__» { pos := [Value.ref x] ++ [Value.str (Str.ofString "__class__") t] })
      (fun fin s' => fin = .done (.ret (.ref D)) ∧ s' = ⟨hh, g, d, t + 1, os⟩) (fun _ _ => False) ⟨hh, g, d, t + 1, os⟩ := by
    unfold Builtin.«object.__getattribute__»
    repeat (any_goals (first | assumption | lk | wp_step))
    refine wpAny_run (class_get (s := ⟨hh, g, d, t + 1, os⟩) X I hm ?_)
    exact wpAny_pure (wpAny_pure ⟨rfl, rfl⟩)
  have fin : wpAny (model prog w) A.in1 (Builtin.«object.__getattribute__» { pos := [Value.ref x] ++ [Value.str (Str.ofString "__class__") t] })
      (fun fin s' => match fin with
        | .done f => (match (Except.ok f : Result) with
          | .ok (.ret v) => wpAny (model prog w) A (handedOut v) (fun a s' => wpAny (model prog w) A (pure (some a)) Q E s') (fun e s' => wpAny (model prog w) A (do if ← isInstance e (.type "AttributeError") then pure none else throw e) Q E s') s'
          | .ok _ => False
          | .error e => False)
        | .again c' => False) (fun _ _ => False) ⟨hh, g, d, t + 1, os⟩ := wpAny_mono body (fun f s' hs => by
      obtain ⟨rfl, rfl⟩ := hs
      exact handed_on rfl (wpAny_pure h)) fun _ _ f => f
  cases hsig : Manifest.signature? "BaseException.__getattribute__" with
  | none =>
    refine wpAny_pure (wpAny_mono fin (fun f s' hs => ?_) fun _ _ f => f.elim)
    rcases f with (_ | _ | _ | _) | _ <;> first | exact hs | exact hs.elim
  | some sig =>
    simp only [argsOk, hsig] at ha
    have h2 : Bind.checkArgs "BaseException.__getattribute__" sig { pos := [Value.ref x] ++ [Value.str (Str.ofString "__class__") t] } = pure () := ha
    simp only [h2]
    refine wpAny_pure (wpAny_mono fin (fun f s' hs => ?_) fun _ _ f => f.elim)
    rcases f with (_ | _ | _ | _) | _ <;> first | exact hs | exact hs.elim
end

section
variable {K : Frag} {x D : Addr} {ox : Obj}
theorem findObj_none {g a : Value} {name : Str} (hc : (clsIn K D).isSome = true) (ha : findIn K (.ref D) name = some (some a)) (hg : specialIn K a "__get__" = some (some g)) (ht : takesIn K a = some true) : findObj K D none name = some (.bind g a) := by
  obtain ⟨cd, hc⟩ := Option.isSome_iff_exists.mp hc
  unfold findObj
  rw [hc, Option.bind_some, ha, Option.bind_some]
  simp [hg, ht]

theorem kitx_exc (hk : clsChk K D = true) : KitX K (.ref x) (.ref D) (fun h => InstAt h x ox D none) := by
  unfold clsChk at hk
  simp only [Bool.and_eq_true, beq_iff_eq] at hk
  obtain ⟨⟨⟨⟨⟨⟨hg, hc⟩, ha⟩, hn⟩, htk⟩, hm⟩, _⟩ := hk
  obtain ⟨cd, hcD⟩ := Option.isSome_iff_exists.mp hc
  refine ⟨fun _ _ _ I => I.type, fun _ _ X _ => ?_, fun h tp dd its n sl X htp => ?_, fun {prog w A E Q s} X I k => ?_⟩
  · unfold clsIn at hcD
    split at hcD
    · rename_i c' d' cd' sl' ho
      intro A' Q' E' s' k q
      unfold isType loadHead
      exact wpAny_bind (wpAny_loadPart (k _ _ (X _ _ ho)) (wpAny_pure q))
    · cases hcD
  · refine Bool.eq_false_iff.mpr fun q => ?_
    have e : D = tp := Value.ref.inj (beq_iff_eq.mp q)
    subst e
    unfold clsIn at hcD
    split at hcD
    · rename_i c' d' cd' sl' ho
      have z := (X _ _ ho).symm.trans htp
      cases z
    · cases hcD
  · exact exc_class X I hg.1.1 hg.1.2 (findObj_none hc ha hn htk) hg.2 hm k
end

section
variable {cx : Cx} {K : Frag} {cs : List Addr} {mg mb : Str → Option Value}

theorem Rep.excI {h : Heap} {v : Value} {k : Nat} (r : Rep cx h v (.exc k)) : ∃ e o vs C, v = .ref e ∧ h.get? e = some o ∧ o.cls = .ref C ∧ o.data = .fields vs ∧ cx.cls k = some C ∧ o.dict = Option.none := by
  cases r with | exc e c d x y => exact ⟨_, _, _, _, rfl, e, c, d, x, y⟩
theorem instAt_of {h : Heap} {e C : Addr} {o : Obj} {vs : Array Value} (g : h.get? e = some o) (c : o.cls = .ref C) (d : o.data = .fields vs) (y : o.dict = none) : InstAt h e o C none :=
  ⟨g, c, by unfold notCls; rw [d], by rw [y]; trivial⟩

theorem isx_ok (X : K.In cx.B) (hcs : cx.cls = fun c => cs[c]?) (hk : excChk K cs = true) {F : Fm} {m : Loc} {H : AHeap} {s : Shared} {Q : Post} {XX : XPost} {e : Value} {k c : Nat} {C : Addr} (r : Rep cx s.heap e (.exc k)) (t : St cx F m H s.heap) (hc : cx.cls c = some C) (hQ : Q (.bool (isSub k c)) H) :
    Ev (Rep cx) cx F (call (.builtin "isinstance") [e, .ref C]) m H s Q XX := by
  obtain ⟨a, o, vs, D, rfl, g, hcl, hd, hD, hy⟩ := r.excI
  rw [hcs] at hc hD
  obtain ⟨h1, h2, _⟩ := excChk_at hk hD hc
  exact kia_one (kitx_exc h1) (X.keeps t.base) (instAt_of g hcl hd hy) h2 (by simp) fun tk => .toks tk (.bool _) t hQ
theorem isv_ok (X : K.In cx.B) (hcs : cx.cls = fun c => cs[c]?) (hk : excChk K cs = true) {F : Fm} {m : Loc} {H : AHeap} {s : Shared} {Q : Post} {XX : XPost} {e : Value} {k : Nat} (r : Rep cx s.heap e (.exc k)) (t : St cx F m H s.heap) (hQ : Q (.bool true) H) :
    Ev (Rep cx) cx F (call (.builtin "isinstance") [e, .type "ValueError"]) m H s Q XX := by
  obtain ⟨a, o, vs, D, rfl, g, hcl, hd, hD, hy⟩ := r.excI
  rw [hcs] at hD
  obtain ⟨h1, _, _⟩ := excChk_at hk hD hD
  have h3 : kitOne K (.ref D) (.type "ValueError") = some true := by
    unfold clsChk at h1; simp only [Bool.and_eq_true, beq_iff_eq] at h1; exact h1.2
  exact kia_one (kitx_exc h1) (X.keeps t.base) (instAt_of g hcl hd hy) h3 (by simp) fun tk => .toks tk (.bool _) t hQ
theorem mats_ok (X : K.In cx.B) (hcs : cx.cls = fun c => cs[c]?) (hk : excChk K cs = true) {A : Around} {s : Shared} {e : Value} {k c : Nat} {C : Addr} {QQ : Bool → Shared → Prop} {E : Value → Shared → Prop} (t : cx.B.StaysIn s.heap) (r : Rep cx s.heap e (.exc k)) (hc : cx.cls c = some C)
    (hQ : ∀ tk, QQ (isSub k c) { s with toks := tk }) : wpAny cx.M A (excMatches e (.ref C)) QQ E s := by
  obtain ⟨a, o, vs, D, rfl, g, hcl, hd, hD, hy⟩ := r.excI
  rw [hcs] at hc hD
  obtain ⟨_, _, h2⟩ := excChk_at hk hD hc
  exact exm_one (M := cx.M) (X.keeps t) (instAt_of g hcl hd hy).type h2 _ _ _ _ (fun _ _ e => e) (hQ s.toks)

theorem rais_ok {n : Nat} (gns : cx.B.Ns cx.ga mg) {F : Fm} {kd : Kd} {m : Loc} {H : AHeap} {s : Shared} {c : Nat} {x msg : Str} {k : Nat} {pc pm pk p : Pos} {QQ : Flow → Shared → Prop} {E : Value → Shared → Prop} {C : Addr} {bm : List Value} {newId initId B : String}
    (O : OwnCls x C bm newId mg cx.B) (FB : ExcBaseFacts B newId initId bm) (hC : cx.cls c = some C)
    (fo : Fok cx n true kd F) (gk : isGlob kd x = true) (t : St cx F m H s.heap) (hE : ∀ e s', Exc cx F.env.frame s.heap s'.heap e c → St cx F m H s'.heap → Kp cx [] H s H s' → E (.ref e) s') :
    wpAny cx.M F.A (exec (.Raise (some (.Call (.Name x pc) [.Constant (.str msg) k pm] [] pk)) none p) F.env) QQ E s := by
  obtain ⟨tl, N, nm, q, bs, hdct, sn, sub, ab, col, dd, k0, k1, k2, k3, k5, mN, gC, hN, hni, T⟩ := O.obj
  refine wpAny_Raise_call_subT (C := C) (nm := nm) (q := q) (N := N) (bs := bs) (bm := tl) (hdct := hdct) (sn := sn) (sub := sub) (ab := ab) (col := col) (dd := dd) (k0 := k0) (k1 := k1) (k2 := k2) (k3 := k3) (k5 := k5)
    FB (mN := mN) (T.hasType FB.hasBase) (fo.quiet rfl) rfl hni (glob_ok fo gk t gns O.bound ⟨rfl, ?_⟩)
  refine evalArgs_plain (spliced_cons (Constant_str (k := k) (pos := pm) (spliced_nil ⟨rfl, by rw [sizeLine_eq]; simp, t.base _ _ gC, hN.keeps t.base, T.keeps t.base, fun h' e hm => ?_⟩)))
  obtain ⟨tt, ge, _, _⟩ := hm.there
  have kp : Kp cx [] H s H { s with heap := h', toks := s.toks + 1 } := .grow hm.keeps fun _ _ _ q => q
  exact hE e _ ⟨hm.new, _, _, C, _, ge, rfl, ⟨hC, rfl⟩, rfl, rfl, .inl rfl⟩ (t.step kp (t.heap.grow hm.keeps)) kp

theorem boot_blt : ∀ b : Blt, bootBuiltins b.name = some b.val := by intro b; cases b <;> decide +kernel
theorem boot_isi : bootBuiltins "isinstance" = some (.builtin "isinstance") := by decide +kernel
theorem boot_bty : ∀ T ∈ ["str", "list", "tuple", "bool", "int", "ValueError"], bootBuiltins (Str.ofString T) = some (.type T) := by decide +kernel
end
end Mine
end
section
open PySem PySem.W PySem.Calls PyProof.Rows
namespace Mine
set_option autoImplicit false

noncomputable def bmVE : List Value := [.type "ValueError", .type "Exception", .type "BaseException", .type "object"]
noncomputable def ownsChk (p : Program) : Bool := onms.all fun q => (ownsOf p).any fun o => o.name == q.1 && o.newId == "ValueError.__new__" && o.bm == bmVE

theorem lookup_in {x : Str} {c : Nat} (h : onm x = some c) : (x, c) ∈ onms := mem_of_lookup h

section
variable {cx : Cx} {K : Frag} {cs : List Addr} {mg mb : Str → Option Value} {g : Gl} {p : Program} {loose : List Str} {mean : ExcName → Option Value}

theorem cok_base (X : K.In cx.B) (hs : (K.lookup mainGlobals).isSome = true) (T : Top p loose mean mg mb cx.B) (hga : cx.ga = mainGlobals) (hba : cx.ba = builtinsNs) (hcs : cx.cls = fun c => cs[c]?) (hk : excChk K cs = true) (how : ownChk K cs = true) (hbl : bltChk K = true) (hoc : ownsChk p = true)
    (consts : ∀ x q, g.G x = some q → ∃ v, mg x = some v ∧ Rep cx cx.B v q) : Cok cx g [] mg mb 0 := by
  have hmg := kmg_eq X hs T.g
  have free : ∀ x ∈ bltNames, mg x = none := fun x hx => by
    rw [hmg]
    have := List.all_eq_true.mp hbl x hx
    simpa using this
  have nn : ∀ x ∈ bltNames, x ≠ Str.ofString "__name__" := by decide +kernel
  have own : ∀ x c, onm x = some c → ∃ C, cx.cls c = some C ∧ mg x = some (.ref C) := fun x c hx => by
    have := List.all_eq_true.mp how (x, c) (lookup_in hx)
    simp only [Bool.and_eq_true, beq_iff_eq] at this
    obtain ⟨C, hC⟩ := Option.isSome_iff_exists.mp this.2
    refine ⟨C, by rw [hcs]; exact hC, ?_⟩
    rw [hmg, this.1, hC]; rfl
  refine ⟨by rw [hga]; exact T.g, ?_, by rw [hba]; exact T.b, consts, fun b => ?_, ⟨free _ (by decide +kernel), (T.builtins _ (by decide +kernel)).trans boot_isi⟩, fun t ht => ?_, own, ?_, ?_, ?_, ?_, fun f hf => ?_, fun f hf => ?_⟩
  · obtain ⟨o, e⟩ := Option.isSome_iff_exists.mp hs
    exact ⟨mainGlobals, o, by decide, X _ _ e⟩
  · have hb : Str.ofString b.name ∈ bltNames := by cases b <;> decide +kernel
    exact ⟨free _ hb, (T.builtins _ (nn _ hb)).trans (boot_blt b)⟩
  · have hb : ∀ t ∈ ["str", "list", "tuple", "bool", "int", "ValueError"], Str.ofString t ∈ bltNames := by decide +kernel
    exact ⟨free _ (hb t ht), (T.builtins _ (nn _ (hb t ht))).trans (boot_bty t ht)⟩
  · exact fun r t hc hQ => isx_ok X hcs hk r t hc hQ
  · exact fun r t hQ => isv_ok X hcs hk r t hQ
  · intro F kd m H s c x msg k pc pm pk pp QQ E fo gk ho t hE
    have := List.all_eq_true.mp hoc (x, c) (lookup_in ho)
    obtain ⟨o, hom, hoo⟩ := List.any_eq_true.mp this
    simp only [Bool.and_eq_true, beq_iff_eq] at hoo
    obtain ⟨⟨h1, h2⟩, h3⟩ := hoo
    obtain ⟨C, O, _⟩ := T.own o hom
    obtain ⟨C', hC', hb'⟩ := own x c ho
    have O' := O.own
    rw [h1, h2, h3] at O'
    have : C = C' := by have := O'.bound; rw [hb'] at this; cases this; rfl
    subst this
    exact rais_ok (by rw [hga]; exact T.g) O' PySem.F.excBase_ValueError hC' fo gk t hE
  · exact fun t r hc hQ => mats_ok X hcs hk t r hc hQ
  · simp at hf
  · simp at hf
end

section
variable {cx : Cx} {mg mb : Str → Option Value} {g : Gl} {fl : List Str} {n : Nat}
theorem Fok.less {q : Bool} {kd : Kd} {F : Fm} (fo : Fok cx (n + 1) q kd F) : Fok cx n q kd F := ⟨fo.fr, fo.kind, fo.kdo, fo.glob, fo.bltn, fo.quiet, by have := fo.depth; first | lia | omega, by have := fo.units; first | lia | omega, fo.cells, fo.apart, fo.inj⟩

theorem Cok.add (ck : Cok cx g fl mg mb n) {f : Str} {fd : FuncData} {nm : List Str} {np k : Nat} {kd : Kd} {body : ASs} {a : Addr} {o : Obj} (hf : mg f = some (.ref a)) (fn : FnOk cx fl fd nm np k kd body) (lim : cx.B.NoLimit) (ho : cx.B.get? a = some o) (hd : o.data = .func fd) (hcd : cx.B.CodeRec fd.code fd.qualname)
    (spec : ∀ {ps : List PV} {H : AHeap} {Q : Post} {X : XPost}, g.C f ps H Q X → ps.length = np ∧ awpSs g body (fun _ H => Q .none H) Q (fun c _ H => X c H) (initL nm np ps) H) : Cok cx g (f :: fl) mg mb (n + 1) := by
  refine ⟨ck.gns, ck.mods, ck.bns, ck.consts, ck.blts, ck.isi, ck.bty, ck.own, ck.isx, ck.isv, fun fo gk ho t hE => ck.rais fo.less gk ho t hE, ck.mats, fun f' h' => ?_, fun f' h' {ps H Q X} hc {F kd' m s vs a'} fo hm rs t => ?_⟩
  · rw [List.contains_cons, Bool.or_eq_true] at h'
    rcases h' with h' | h'
    · rw [beq_iff_eq.mp h']; exact ⟨a, o, fd, hf, ho, hd⟩
    · exact ck.fns f' h'
  · by_cases e : f' = f
    · subst e
      rw [hf] at hm; cases hm
      obtain ⟨h1, h2⟩ := spec hc
      exact call_fn ck fn lim ho hd hcd fo rs h1 t h2
    · rw [List.contains_cons, Bool.or_eq_true] at h'
      exact ck.calls f' (h'.resolve_left fun q => e (beq_iff_eq.mp q)) hc fo.less hm rs t

noncomputable def fnChk (fl : List Str) (nm : List Str) (np k : Nat) (sc : Scope) (body : ASs) : Bool :=
  !sc.isCoroutine && !sc.isGenerator && decide (sc.kind = .function) && (sc.names.all fun p => p.2 != .free) && decide ((nm.take k).Nodup) && decide (np ≤ k) && decide (k ≤ nm.length)
    && ((nm.take np).all fun x => sc.names.lookup x == some .local || sc.names.lookup x == some .cell) && okSs fl nm (fun i => decide (i < k)) (fun x => sc.names.lookup x) true body

theorem Cok.addT {p : Program} {loose : List Str} {mean : ExcName → Option Value} (ck : Cok cx g fl mg mb n) (T : Top p loose mean mg mb cx.B) (hga : cx.ga = mainGlobals) (hba : cx.ba = builtinsNs) {f : Str} {d : DefRec} {nm : List Str} {np k : Nat} {sc : Scope} {body : ASs}
    (hd : d ∈ recsOf p) (h1 : d.name = f) (h2 : d.body = body.toSs nm) (h3 : d.scope = sc) (hb : ∀ (pm code doc : Value) (vals : List Value), vals.length = np → bindArgs (docDef d.name d.params d.body d.scope pm code doc) ⟨vals, []⟩ = pure ((nm.take np).zip vals))
    (hc : fnChk fl nm np k sc body = true)
    (spec : ∀ {ps : List PV} {H : AHeap} {Q : Post} {X : XPost}, g.C f ps H Q X → ps.length = np ∧ awpSs g body (fun _ H => Q .none H) Q (fun c _ H => X c H) (initL nm np ps) H) : Cok cx g (f :: fl) mg mb (n + 1) := by
  obtain ⟨a, o, pm, code, doc, hm, ho, hdat, hcd⟩ := T.fn d hd
  unfold fnChk at hc
  simp only [Bool.and_eq_true, Bool.not_eq_true', decide_eq_true_eq] at hc
  obtain ⟨⟨⟨⟨⟨⟨⟨⟨c1, c2⟩, c3⟩, c4⟩, c5⟩, c6⟩, c7⟩, c8⟩, c9⟩ := hc
  rw [h1] at hm
  subst h3
  exact ck.add (kd := fun x => d.scope.names.lookup x) hm ⟨hga.symm, hba.symm, rfl, c1, c2, c3, rfl, c4, by show FuncBody.stmts d.body = _; rw [h2], hb pm code doc, c5, ⟨c6, c7⟩, c8, c9⟩ T.nolimit ho hdat hcd spec
end
end Mine
end
section
open PySem PySem.W PySem.Calls PyProof.Rows
namespace Mine
set_option autoImplicit false

noncomputable def strOf? : Value → Option Str
  | .str x _ => some x
  | _ => none
noncomputable def tupChk (K : Frag) (b : Addr) (ss : List Str) : Bool := match K.lookup b with
  | some ⟨.type "tuple", none, .seq items _, sl⟩ => (sl.size == 0) && (items.toList.map strOf? == ss.map some) && decide (ss.length ≤ 100)
  | _ => false
noncomputable def strChk (K : Frag) (P : Str → Option Value) (x s : Str) : Bool := false
noncomputable def fdtEntries (P : Params) (l : List (Str × Tok × Addr)) : Array DictEntry := (l.map fun e => ({ hash := PyData.keyHash P e.1, key := .str e.1 e.2.1, val := .ref e.2.2 } : DictEntry)).toArray

section
variable {cx : Cx} {K : Frag}
theorem strs_repl {h : Heap} : ∀ {vs : List Value} {ss : List Str}, vs.map strOf? = ss.map some → RepL cx h vs (ss.map .str)
  | [], [], _ => .nil
  | [], _ :: _, e => by simp at e
  | _ :: _, [], e => by simp at e
  | v :: vs, s :: ss, e => by
    simp only [List.map_cons, List.cons.injEq] at e
    refine .cons ?_ (strs_repl e.2)
    cases v <;> simp [strOf?] at e
    obtain ⟨rfl, _⟩ := e
    exact .str _ _
theorem tup_of {h : Heap} (X : K.In h) {b : Addr} {ss : List Str} (hk : tupChk K b ss = true) : Rep cx h (.ref b) (.tup (ss.map .str)) := by
  have hL : LIM = 1048576 := rfl
  unfold tupChk at hk
  split at hk
  · rename_i items n sl e
    simp only [Bool.and_eq_true, beq_iff_eq, decide_eq_true_eq] at hk
    have hsl : sl = #[] := Array.eq_empty_of_size_eq_zero hk.1.1
    subst hsl
    exact .tup (X _ _ e) (by simp; first | lia | omega) (strs_repl hk.1.2)
  · cases hk

theorem fdt_pairs {P : Params} {h : Heap} (X : K.In h) : ∀ {l : List (Str × Tok × Addr)} {kvs : List (Str × List Str)}, l.map (·.1) = kvs.map (·.1) → ((l.zip kvs).all fun e => tupChk K e.1.2.2 e.2.2) = true →
    RepK cx h (l.map fun e => (e.1, Value.ref e.2.2)) (kvs.map fun e => (e.1, .tup (e.2.map .str)))
  | [], [], _, _ => .nil
  | [], _ :: _, e, _ => by simp at e
  | _ :: _, [], e, _ => by simp at e
  | (k, t, a) :: l, (k', ss) :: kvs, e, hk => by
    simp only [List.map_cons, List.cons.injEq] at e
    simp only [List.zip_cons_cons, List.all_cons, Bool.and_eq_true] at hk
    obtain ⟨rfl, e⟩ := e
    exact .cons (tup_of X hk.1) (fdt_pairs (P := P) X e hk.2)

theorem fdt_of {h : Heap} (X : K.In cx.B) {a : Addr} {l : List (Str × Tok × Addr)} {ep : Nat} {kvs : List (Str × List Str)} (hl : K.lookup a = some { cls := .type "dict", data := .dict (fdtEntries cx.w.params l) ep })
    (hn : (l.map (·.1)).Nodup) (hkv : l.map (·.1) = kvs.map (·.1)) (hk : ((l.zip kvs).all fun e => tupChk K e.1.2.2 e.2.2) = true) (hh : cx.B.StaysIn h) : Rep cx h (.ref a) (.fdt (kvs.map fun e => (e.1, .tup (e.2.map .str)))) := by
  refine .fdt (vs := l.map fun e => (e.1, Value.ref e.2.2)) ⟨_, _, ep, X _ _ hl, ⟨rfl, rfl, rfl⟩, rfl, ?_, ?_, ?_⟩ (fdt_pairs (P := cx.w.params) (X.keeps hh) hkv hk)
  · intro e he
    unfold fdtEntries at he
    simp only [List.mem_toArray, List.mem_map] at he
    obtain ⟨x, _, rfl⟩ := he
    exact ⟨x.1, by simp [Cx.sk, PySem.strKind, Value.isStrOf], rfl⟩
  · unfold fdtEntries
    simp only [List.toList_toArray]
    clear hl hn hkv hk
    induction l with
    | nil => exact .nil
    | cons x l ih => exact .cons (by simp [Cx.sk, PySem.strKind, Value.isStrOf]) rfl ih
  · rw [List.map_map]; exact hn
end
end Mine
end
section
open PySem PySem.W PySem.Calls PyProof.Rows
namespace Mine
set_option autoImplicit false

/-! steps of the abstract walk: what the definitions do not tell by themselves -/
section
variable {g : Gl} {N : NPost} {R : Post} {X : SXPost} {E : XPost} {m : Loc} {H : AHeap} {Q : Post} {QB : BPost}
theorem O_ite {c A B : Prop} [Decidable c] (a : c → A) (b : ¬ c → B) : if c then A else B := by
  split
  · rename_i h; exact a h
  · rename_i h; exact b h
theorem O_glob {x : Str} {v : PV} (e : g.G x = some v) (h : Q v H) : varW (g.G x) Q H := by rw [e]; exact h
theorem O_mulI {a b : Int} (k : a.natAbs < 2 ^ 60 ∨ b.natAbs < 2 ^ 60) (h : Q (.int (a * b)) H) : BinW Q H .Mult (.int a) (.int b) := .mulI a b k h
theorem O_modI {a b : Int} {K : PV → Prop} {R : Prop} (k : 0 < b) (h : K (.int (a % b))) : pureOr (binF .Mod (.int a) (.int b)) K R := by
  show pureOr (match (if 0 < b then some (a % b) else none) with | some i => some (PV.int i) | none => none) _ _
  rw [if_pos k]; exact h
theorem O_divI {a b : Int} {K : PV → Prop} {R : Prop} (k : 0 < b) (k' : b < 1073741824) (h : K (.int (a / b))) : pureOr (binF .FloorDiv (.int a) (.int b)) K R := by
  show pureOr (match (if 0 < b then if b < 1073741824 then some (a / b) else none else none) with | some i => some (PV.int i) | none => none) _ _
  rw [if_pos k, if_pos k']; exact h
theorem O_recvS {s : Str} {P : Prop} (h : P) : RecvW P H .join (.str s) := .str h
theorem O_powI (h : Q (.int 1000000000) H) : BinW Q H .Pow (.int 10) (.int 9) := .powI h
theorem O_addS {a b : Str} (k : a.length + b.length ≤ LIM) (h : Q (.str (a ++ b)) H) : BinW Q H .Add (.str a) (.str b) := .addS a b k h
theorem O_addT {a b : List PV} (k : a.length + b.length ≤ LIM) (h : Q (.tup (a ++ b)) H) : BinW Q H .Add (.tup a) (.tup b) := .addT a b k h
theorem O_addL {a b : Addr} {xs ys : List PV} (ha : H a = some (.list xs)) (hb : H b = some (.list ys)) (k : xs.length + ys.length ≤ LIM) (h : ∀ c H', H c = none → H' c = some (.list (xs ++ ys)) → Ext H H' → Q (.obj c) H') : BinW Q H .Add (.obj a) (.obj b) := .addL a b xs ys ha hb k h
theorem O_mulL {a : Addr} {n : Int} {xs : List PV} (ha : H a = some (.list xs)) (k1 : n ≤ LIM) (k2 : -LIM ≤ n) (k3 : xs.length * n.toNat ≤ LIM) (h : ∀ c H', H c = none → H' c = some (.list (repL n xs)) → Ext H H' → Q (.obj c) H') : BinW Q H .Mult (.obj a) (.int n) := .mulL a n xs ha k1 k2 k3 h
theorem cmpF_eqT {v w : PV} {b c : Bool} (e : EqT H v w b) (h : cmpF .Eq v w = some c) : c = b := by
  unfold cmpF at h
  split at h
  · split at h
    · cases e with | val e => cases e with | atom e => cases e; exact (Option.some.inj h).symm
    · cases h
  · split at h
    · cases e with | val e => cases e with | atom e => cases e; exact (Option.some.inj h).symm
    · cases h
  · split at h <;> cases h
theorem cmpF_not (v w : PV) : cmpF .NotEq v w = (cmpF .Eq v w).map (!·) := by
  unfold cmpF
  split
  · split <;> rfl
  · split <;> rfl
  · split <;> rfl
theorem O_eqT {v w : PV} {b : Bool} {K : Bool → Prop} (e : EqT H v w b) (h : K b) : pureOr (cmpF .Eq v w) K (CmpW K H .Eq v w) := by
  cases q : cmpF .Eq v w with
  | none => exact .eq e h
  | some c => rw [cmpF_eqT e q]; exact h
theorem O_neT {v w : PV} {b : Bool} {K : Bool → Prop} (e : EqT H v w b) (h : K (!b)) : pureOr (cmpF .NotEq v w) K (CmpW K H .NotEq v w) := by
  rw [cmpF_not]
  cases q : cmpF .Eq v w with
  | none => exact .ne e h
  | some c => rw [cmpF_eqT e q]; exact h
theorem O_inD {K : Bool → Prop} {k : Str} {a : Addr} {kvs : List (Str × PV)} (ha : H a = some (.dict kvs)) (h : K (hasKey kvs k)) : CmpW K H .In (.str k) (.obj a) := .inD ha h
theorem O_niD {K : Bool → Prop} {k : Str} {a : Addr} {kvs : List (Str × PV)} (ha : H a = some (.dict kvs)) (h : K (!hasKey kvs k)) : CmpW K H .NotIn (.str k) (.obj a) := .niD ha h
theorem O_subT {xs : List PV} {k : Int} {x : PV} {K : PV → Prop} {R : Prop} (e : itemAt xs k = some x) (h : K x) : pureOr (subF (.tup xs) (.int k)) K R := by
  show pureOr (itemAt xs k) _ _
  rw [e]; exact h
theorem O_subL {a : Addr} {xs : List PV} {k : Int} {x : PV} (ha : H a = some (.list xs)) (e : itemAt xs k = some x) (h : Q x H) : SubW Q H (.obj a) (.int k) := .list ha e h
theorem O_subTape {a : Addr} {n : Nat} (ha : H a = some (.tape n)) (h : Q (.int n) H) : SubW Q H (.obj a) (.int 0) := .tape ha h
theorem O_subD {a : Addr} {kvs : List (Str × PV)} {k : Str} {x : PV} (ha : H a = some (.dict kvs)) (e : dget kvs k = some x) (h : Q x H) : SubW Q H (.obj a) (.str k) := .dict ha e h
theorem O_subF {kvs : List (Str × PV)} {k : Str} {x : PV} (e : dget kvs k = some x) (h : Q x H) : SubW Q H (.fdt kvs) (.str k) := .fdt e h
theorem O_subFls {xs : List Int} {k x : Int} (e : itemAt xs k = some x) (h : Q (.int x) H) : SubW Q H (.fls xs) (.int k) := .fls e h
theorem O_subS {s x : Str} {k : Int} (l : s.length ≤ LIM) (e : signAt s k = some x) (h : Q (.str x) H) : SubW Q H (.str s) (.int k) := .str l e h
theorem O_fromL {a : Addr} {xs : List PV} {k : Int} (ha : H a = some (.list xs)) (h : ∀ c H', H c = none → H' c = some (.list (xs.drop (cutAt xs.length k))) → Ext H H' → Q (.obj c) H') : FromW Q H (.obj a) (.int k) := .list ha h
theorem O_toL {a : Addr} {xs : List PV} {k : Int} (ha : H a = some (.list xs)) (h : ∀ c H', H c = none → H' c = some (.list (xs.take (cutAt xs.length k))) → Ext H H' → Q (.obj c) H') : ToW Q H (.obj a) (.int k) := .list ha h
theorem O_toF {xs : List Int} {k : Int} (h : ∀ c H', H c = none → H' c = some (.list ((xs.take (cutAt xs.length k)).map .int)) → Ext H H' → Q (.obj c) H') : ToW Q H (.fls xs) (.int k) := .fls h
theorem O_toS {s : Str} {k : Int} (l : s.length ≤ LIM) (h : Q (.str ⟨(s.cps.toList.take (cutAt s.length k)).toArray⟩) H) : ToW Q H (.str s) (.int k) := .str l h
theorem O_fromT {xs ys : List PV} {k : Int} (e : xs.drop (cutAt xs.length k) = ys) (h : Q (.tup ys) H) : FromW Q H (.tup xs) (.int k) := .tup (by rw [e]; exact h)
theorem O_toT {xs ys : List PV} {k : Int} (e : xs.take (cutAt xs.length k) = ys) (h : Q (.tup ys) H) : ToW Q H (.tup xs) (.int k) := .tup (by rw [e]; exact h)
theorem O_alloc {o : AObj} (h : ∀ c H', H c = none → H' c = some o → Ext H H' → Q (.obj c) H') : alloc o Q H := h
theorem O_lenL {a : Addr} {xs : List PV} (ha : H a = some (.list xs)) (h : Q (.int xs.length) H) : BltW Q H .len [.obj a] := .lenL a xs ha h
theorem O_lenD {a : Addr} {kvs : List (Str × PV)} (ha : H a = some (.dict kvs)) (h : Q (.int kvs.length) H) : BltW Q H .len [.obj a] := .lenD a kvs ha h
theorem O_lenS {s : Str} (l : s.length ≤ LIM) (h : Q (.int s.length) H) : BltW Q H .len [.str s] := .lenS s l h
theorem O_listL {a : Addr} {xs : List PV} (ha : H a = some (.list xs)) (h : ∀ c H', H c = none → H' c = some (.list xs) → Ext H H' → Q (.obj c) H') : BltW Q H .list [.obj a] := .listL a xs ha h
theorem O_listT {xs : List PV} (h : ∀ c H', H c = none → H' c = some (.list xs) → Ext H H' → Q (.obj c) H') : BltW Q H .list [.tup xs] := .listT xs h
theorem O_tupL {a : Addr} {xs : List PV} (ha : H a = some (.list xs)) (h : Q (.tup xs) H) : BltW Q H .tuple [.obj a] := .tupL a xs ha h
theorem O_range {n : Int} (k : n.natAbs ≤ LIM) (h : Q (.rng n) H) : BltW Q H .range [.int n] := .range n k h
theorem O_strI {i : Int} (k : i.natAbs < 10 ^ 18) (h : Q (.str (Str.ofString (toString i))) H) : BltW Q H .str [.int i] := .strI i k h
theorem O_recv {m : Meth} {a : Addr} {xs : List PV} {P : Prop} (ha : H a = some (.list xs)) (k : m.onL = true) (h : P) : RecvW P H m (.obj a) := .list ha k h
theorem O_append {a : Addr} {xs : List PV} {x : PV} (ha : H a = some (.list xs)) (k : xs.length < LIM) (h : ∀ H', H' a = some (.list (xs ++ [x])) → ExtB a H H' → Q .none H') : MethW Q H .append (.obj a) [x] := .append a xs x ha k h
theorem O_pop {a : Addr} {ys : List PV} {x : PV} (ha : H a = some (.list (ys ++ [x]))) (h : ∀ H', H' a = some (.list ys) → ExtB a H H' → Q x H') : MethW Q H .pop (.obj a) [] := .pop a ys x ha h
theorem O_insert {a : Addr} {xs : List PV} {k : Int} {x : PV} (ha : H a = some (.list xs)) (k0 : 0 ≤ k) (k1 : k ≤ xs.length) (k2 : xs.length < LIM) (h : ∀ H', H' a = some (.list (xs.take k.toNat ++ x :: xs.drop k.toNat)) → ExtB a H H' → Q .none H') : MethW Q H .insert (.obj a) [.int k, x] := .insert a xs k x ha k0 k1 k2 h
theorem O_count {a : Addr} {bs : List Bool} {b : Bool} (ha : H a = some (.list (bs.map .bool))) (h : Q (.int (bs.count b)) H) : MethW Q H .count (.obj a) [.bool b] := .count a bs b ha h
theorem O_join {s : Str} {a : Addr} {ss : List Str} (ha : H a = some (.list (ss.map .str))) (e : s.length = 0) (k : (ss.map (·.length)).sum ≤ LIM) (h : Q (.str (Str.join s ss)) H) : MethW Q H .join (.str s) [.obj a] := .join s a ss ha e k h
theorem O_storeL {a : Addr} {xs : List PV} {k : Int} {x : PV} {K : AHeap → Prop} (ha : H a = some (.list xs)) (k0 : 0 ≤ k) (k1 : k < xs.length) (h : ∀ H', H' a = some (.list (xs.set k.toNat x)) → ExtB a H H' → K H') : StoreW K H (.obj a) (.int k) x := .list ha k0 k1 h
theorem O_storeD {a : Addr} {kvs : List (Str × PV)} {k : Str} {x : PV} {K : AHeap → Prop} (ha : H a = some (.dict kvs)) (l : kvs.length < LIM) (h : ∀ H', H' a = some (.dict (dset kvs k x)) → ExtB a H H' → K H') : StoreW K H (.obj a) (.str k) x := .dict ha l h
theorem O_storeT {a : Addr} {n : Nat} {j : Int} {K : AHeap → Prop} (ha : H a = some (.tape n)) (j0 : 0 ≤ j) (h : ∀ H', H' a = some (.tape j.toNat) → ExtB a H H' → K H') : StoreW K H (.obj a) (.int 0) (.int j) := .tape ha j0 h
theorem O_isL {c : ICls} {a : Addr} {xs : List PV} {K : Bool → Prop} (ha : H a = some (.list xs)) (b : c.basic = true) (h : K (c.hits 5)) : IsiW K H c (.obj a) := .list b ha h
theorem O_itL {a : Addr} {xs : List PV} {K : List PV → (AHeap → Prop) → Prop} (ha : H a = some (.list xs)) (h : K xs fun H' => H' a = some (.list xs)) : ItemsW K H (.obj a) := .list ha h
end

theorem forW_ind {src : AHeap → Prop} {st : PV → (Loc → AHeap → Prop) → Loc → AHeap → Prop} {N : Loc → AHeap → Prop} (I : List PV → Loc → AHeap → Prop) (h0 : ∀ m H, I [] m H → src H ∧ N m H)
    (h1 : ∀ x xs m H, I (x :: xs) m H → src H ∧ ∀ K : Loc → AHeap → Prop, (∀ m' H', I xs m' H' → K m' H') → st x K m H) : ∀ xs m H, I xs m H → forW src st N xs m H
  | [], m, H, h => h0 m H h
  | x :: xs, m, H, h => ⟨(h1 x xs m H h).1, (h1 x xs m H h).2 _ fun m' H' h' => forW_ind I h0 h1 xs m' H' h'⟩
theorem compW_ind {src : AHeap → Prop} {el : PV → (List PV → AHeap → Prop) → AHeap → Prop} {Q : List PV → AHeap → Prop} (I : List PV → List PV → AHeap → Prop) (h0 : ∀ acc H, I [] acc H → src H ∧ Q acc H)
    (h1 : ∀ x xs acc H, I (x :: xs) acc H → src H ∧ ∀ K : List PV → AHeap → Prop, (∀ vs H', I xs (acc ++ vs) H' → K vs H') → el x K H) : ∀ xs acc H, I xs acc H → compW src el Q xs acc H
  | [], acc, H, h => h0 acc H h
  | x :: xs, acc, H, h => ⟨(h1 x xs acc H h).1, (h1 x xs acc H h).2 _ fun vs H' h' => compW_ind I h0 h1 xs (acc ++ vs) H' h'⟩

theorem mod_lt {a k : Int} (h : 0 < k) : 0 ≤ a % k ∧ a % k < k := ⟨Int.emod_nonneg _ (by first | lia | omega), Int.emod_lt_of_pos _ h⟩
theorem Ext.at {H H' : AHeap} {a : Addr} {o : AObj} (e : Ext H H') (h : H a = some o) : H' a = some o := e a o h
theorem ExtB.at {H H' : AHeap} {a b : Addr} {o : AObj} (e : ExtB a H H') (n : b ≠ a) (h : H b = some o) : H' b = some o := e b o n h
theorem ne_of {H : AHeap} {a b : Addr} {o : AObj} (h : H a = some o) (h' : H b = none) : a ≠ b := by rintro rfl; rw [h] at h'; cases h'
theorem Ext.refl (H : AHeap) : Ext H H := fun _ _ e => e
theorem Ext.trans {H H₁ H₂ : AHeap} (a : Ext H H₁) (b : Ext H₁ H₂) : Ext H H₂ := fun x o e => b x o (a x o e)
theorem ExtB.trans {H H₁ H₂ : AHeap} {t : Addr} (a : ExtB t H H₁) (b : ExtB t H₁ H₂) : ExtB t H H₂ := fun x o n e => b x o n (a x o n e)
theorem Ext.toB {H H' : AHeap} (e : Ext H H') (t : Addr) : ExtB t H H' := fun x o _ h => e x o h
/-- a new list that was changed is still new -/
theorem ExtB.fresh {H H₁ H₂ : AHeap} {a : Addr} (n : H a = none) (e : Ext H H₁) (b : ExtB a H₁ H₂) : Ext H H₂ := fun x o h => b x o (ne_of h n) (e x o h)
theorem itemAt_nat {α : Type} {xs : List α} {n : Nat} {x : α} {i : Int} (hi : i = n) (h : xs[n]? = some x) : itemAt xs i = some x := by
  subst hi; unfold itemAt; rw [if_pos (by first | lia | omega)]; simpa using h
theorem O_addS' {H : AHeap} {Q : Post} {a b : Str} (k : a.length + b.length ≤ LIM) (h : ∀ S, S = a ++ b → Q (.str S) H) : BinW Q H .Add (.str a) (.str b) := .addS a b k (h _ rfl)
theorem str_len_append (a b : Str) : (a ++ b).length = a.length + b.length := by
  show (a.cps ++ b.cps).size = a.cps.size + b.cps.size
  simp
theorem join_len {e : Str} (he : e.length = 0) : ∀ ss : List Str, (∀ s ∈ ss, s.length = 1) → (Str.join e ss).length = ss.length
  | [], _ => rfl
  | [x], h => by simpa [Str.join] using h x (by simp)
  | x :: y :: r, h => by
    have ih := join_len he (y :: r) fun s hs => h s (List.mem_cons_of_mem _ hs)
    show (x ++ e ++ Str.join e (y :: r)).length = _
    rw [str_len_append, str_len_append, ih, he, h x (by simp)]
    simp; first | lia | omega
theorem sum_ones : ∀ ss : List Str, (∀ s ∈ ss, s.length = 1) → (ss.map (·.length)).sum = ss.length
  | [], _ => rfl
  | x :: r, h => by
    rw [List.map_cons, List.sum_cons, sum_ones r fun s hs => h s (List.mem_cons_of_mem _ hs), h x (by simp), List.length_cons]; first | lia | omega
theorem sign_at {s : Str} {i : Int} (h0 : 0 ≤ i) (h1 : i < s.length) : ∃ x, signAt s i = some x ∧ x.length = 1 := by
  obtain ⟨n, rfl⟩ := Int.eq_ofNat_of_zero_le h0
  have hn : n < s.cps.toList.length := by
    have : n < s.length := by first | lia | omega
    simpa [Str.length] using this
  refine ⟨⟨#[s.cps.toList[n]]⟩, ?_, rfl⟩
  unfold signAt
  rw [itemAt_nat rfl (List.getElem?_eq_getElem hn)]
  rfl
theorem I_pos {c : Prop} [Decidable c] {A B : Prop} (h : c) (a : A) : if c then A else B := by rw [if_pos h]; exact a
theorem I_neg {c : Prop} [Decidable c] {A B : Prop} (h : ¬ c) (b : B) : if c then A else B := by rw [if_neg h]; exact b
theorem EqL.strs {H : AHeap} {n : Nat} : ∀ ss tt : List Str, EqL H n (ss.map .str) (tt.map .str) (decide (ss = tt))
  | [], [] => .nil
  | [], t :: tt => by simpa using EqL.r (H := H) (n := n) (.str t) (tt.map .str)
  | s :: ss, [] => by simpa using EqL.l (H := H) (n := n) (.str s) (ss.map .str)
  | s :: ss, t :: tt => by
    have := EqL.c (EqV.str (H := H) (n := n) s t) (EqL.strs ss tt)
    have e : decide (s :: ss = t :: tt) = ((s == t) && decide (ss = tt)) := by
      by_cases h1 : s = t <;> by_cases h2 : ss = tt <;> simp [h1, h2]
    rw [e]; exact this
theorem eq_strs {H : AHeap} (ss tt : List Str) : EqT H (.tup (ss.map .str)) (.tup (tt.map .str)) (decide (ss = tt)) := .val (.tup (n := 39) (EqL.strs ss tt))
end Mine
end
section
open PySem PySem.W PySem.Calls PyProof.Rows
namespace Mine
set_option autoImplicit false
/-! the call from outside -/
section
variable {cx : Cx} {g : Gl} {fl : List Str} {mg mb : Str → Option Value} {n : Nat}
theorem top_fn (ck : Cok cx g fl mg mb n) {fd : FuncData} {nm : List Str} {np k : Nat} {kd : Kd} {body : ASs} {a : Addr} {o : Obj} (fn : FnOk cx fl fd nm np k kd body) (lim : cx.B.NoLimit) (ho : cx.B.get? a = some o) (hd : o.data = .func fd) (hcd : cx.B.CodeRec fd.code fd.qualname)
    {A : Around} {s : Shared} {vs : List Value} {ps : List PV} {Q : Post} {R : Result → Shared → Prop} (hfr : A.frames = some []) (hqu : A.handled = none) (hdep : A.depth + (n + 1) ≤ 900) (huni : A.units + 4 * (n + 1) + 200 ≤ cLine)
    (tb : cx.B.StaysIn s.heap) (rs : RepL cx s.heap vs ps) (hlen : ps.length = np)
    (h : awpSs g body (fun _ H => Q .none H) Q (fun _ _ _ => False) (initL nm np ps) (fun _ => none))
    (hR : ∀ v p H' s', Rep cx s'.heap v p → Kp cx [] (fun _ => none) s H' s' → Q p H' → R (.ok (.ret v)) s') : codeAny cx.M A (.call (.ref a) ⟨vs, []⟩) R s :=
  core_fn (X := fun _ _ => False) ck fn lim ho hd hcd hfr hqu hdep huni tb (fun _ _ _ => rfl) (fun _ _ e => nomatch e) (fun _ he => nomatch he) rs hlen h (fun v p H' s' rv kp _ q => hR v p H' s' rv kp q) fun _ _ _ _ _ _ _ f => f.elim

theorem law_top {p : Program} {loose : List Str} {mean : ExcName → Option Value} (ck : Cok cx g fl mg mb n) (T : Top p loose mean mg mb cx.B) (hga : cx.ga = mainGlobals) (hba : cx.ba = builtinsNs) {d : DefRec} {nm : List Str} {k : Nat} {sc : Scope} {body : ASs}
    (hd : d ∈ recsOf p) (h1 : d.name = "law") (h2 : d.body = body.toSs nm) (h3 : d.scope = sc) (hb : ∀ (pm code doc : Value) (vals : List Value), vals.length = 1 → bindArgs (docDef d.name d.params d.body d.scope pm code doc) ⟨vals, []⟩ = pure ((nm.take 1).zip vals))
    (hc : fnChk fl nm 1 k sc body = true) {s : Shared} (hs : cx.B = s.heap) {fa l : Addr} {items : Array Value} {ns : List Int} (hmg : mg "law" = some (.ref fa)) (il : s.heap.IsList l items) (ia : IntsAre items.toList ns) (hl : ns.length ≤ LIM) (hn : n ≤ 500)
    (spec : ∀ {Q : Post}, (∀ H, Q (.bool true) H) → awpSs g body (fun _ H => Q .none H) Q (fun _ _ _ => False) (initL nm 1 [.fls ns]) (fun _ => none))
    {R : Result → Shared → Prop} (hR : ∀ h' tk, (∀ b o, s.heap.get? b = some o → h'.get? b = some o) → R (.ok (.ret (.bool true))) { s with heap := h', toks := tk }) : codeAny cx.M callerA (.call (.ref fa) ⟨[.ref l], []⟩) R s := by
  obtain ⟨a, o, pm, code, doc, hm, ho, hdat, hcd⟩ := T.fn d hd
  unfold fnChk at hc
  simp only [Bool.and_eq_true, Bool.not_eq_true', decide_eq_true_eq] at hc
  obtain ⟨⟨⟨⟨⟨⟨⟨⟨c1, c2⟩, c3⟩, c4⟩, c5⟩, c6⟩, c7⟩, c8⟩, c9⟩ := hc
  rw [h1, hmg] at hm
  cases hm
  subst h3
  have hB : cx.B.StaysIn s.heap := by rw [hs]; exact fun _ _ e => e
  refine top_fn (Q := fun p _ => p = .bool true) (kd := fun x => d.scope.names.lookup x) ck ⟨hga.symm, hba.symm, rfl, c1, c2, c3, rfl, c4, by show FuncBody.stmts d.body = _; rw [h2], hb pm code doc, c5, ⟨c6, c7⟩, c8, c9⟩ T.nolimit ho hdat hcd
    (A := callerA) rfl rfl ?_ ?_ hB (.cons (.fls (by rw [hs]; exact il) ia hl) .nil) rfl (spec (Q := fun p _ => p = .bool true) fun _ => rfl) fun v p H' s' rv kp hq => ?_
  · have : callerA.depth = 301 := by decide +kernel
    first | lia | omega
  · have : callerA.units = 4 := rfl
    have : 4 + 4 * 501 + 200 ≤ cLine := by decide +kernel
    first | lia | omega
  · subst hq
    cases rv
    obtain ⟨h', tk, rfl⟩ := kp.same
    exact hR h' tk fun b o e => kp.base b o (by rw [hs]; exact e) e
end
end Mine
end
section
open PySem PySem.W PySem.Calls PyProof.Rows
namespace Mine
set_option autoImplicit false

/-! the program's constants, told from its laid heap -/
noncomputable def refAt (K : Frag) (x : Str) : Addr := match kmg K x with
  | some (.ref a) => a
  | _ => 0
noncomputable def dictL (K : Frag) (a : Addr) : List (Str × Tok × Value) := match K.lookup a with
  | some o => (match o.data with
    | .dict es _ => es.toList.filterMap fun e => match e.key with | .str s t => some (s, t, e.val) | _ => none
    | _ => [])
  | none => []
noncomputable def dictEp (K : Frag) (a : Addr) : Nat := match K.lookup a with
  | some o => (match o.data with | .dict _ n => n | _ => 0)
  | none => 0
noncomputable def entV (P : Params) (l : List (Str × Tok × Value)) : Array DictEntry := (l.map fun e => ({ hash := PyData.keyHash P e.1, key := .str e.1 e.2.1, val := e.2.2 } : DictEntry)).toArray
noncomputable def intChk (K : Frag) (x : Str) (i : Int) : Bool := match kmg K x with
  | some (.int j _) => j == i
  | _ => false
noncomputable def valChk (K : Frag) (v : Value) : PV → Bool
  | .str s => strOf? v == some s
  | .tup xs => (match v with
    | .ref b => (match xs.mapM fun x => (match x with | .str s => some s | _ => none) with | some ss => tupChk K b ss | none => false)
    | _ => false)
  | _ => false

section
variable {cx : Cx} {K : Frag}
theorem int_of {x : Str} {i : Int} {mg : Str → Option Value} {h : Heap} (hm : mg = kmg K) (hk : intChk K x i = true) : ∃ v, mg x = some v ∧ Rep cx h v (.int i) := by
  unfold intChk at hk
  split at hk
  · rename_i j t e
    rw [beq_iff_eq] at hk
    subst hk
    exact ⟨_, by rw [hm]; exact e, .int _ _⟩
  · cases hk
theorem mapM_strs : ∀ {xs : List PV} {ss : List Str}, (xs.mapM fun x => (match x with | .str s => some s | _ => none : Option Str)) = some ss → xs = ss.map .str
  | [], ss, h => by simp at h; subst h; rfl
  | x :: xs, ss, h => by
    rw [List.mapM_cons] at h
    cases x with
    | str s =>
      cases q : xs.mapM (fun x => (match x with | .str s => some s | _ => none : Option Str)) with
      | none => rw [q] at h; simp at h
      | some tt =>
        rw [q] at h
        simp at h
        subst h
        rw [mapM_strs q]; rfl
    | _ => simp at h
theorem val_of {h : Heap} (X : K.In h) {v : Value} {q : PV} (hk : valChk K v q = true) : Rep cx h v q := by
  cases q with
  | str s =>
    cases v <;> simp [valChk, strOf?] at hk
    subst hk
    exact .str _ _
  | tup xs =>
    cases v with
    | ref b =>
      simp only [valChk] at hk
      split at hk
      · rename_i ss e
        rw [mapM_strs e]
        exact tup_of X hk
      · cases hk
    | _ => simp [valChk] at hk
  | _ => simp [valChk] at hk
theorem fdt_pairsV {h : Heap} (X : K.In h) : ∀ {l : List (Str × Tok × Value)} {kvs : List (Str × PV)}, l.map (·.1) = kvs.map (·.1) → ((l.zip kvs).all fun e => valChk K e.1.2.2 e.2.2) = true → RepK cx h (l.map fun e => (e.1, e.2.2)) kvs
  | [], [], _, _ => .nil
  | [], _ :: _, e, _ => by simp at e
  | _ :: _, [], e, _ => by simp at e
  | (k, t, a) :: l, (k', q) :: kvs, e, hk => by
    simp only [List.map_cons, List.cons.injEq] at e
    simp only [List.zip_cons_cons, List.all_cons, Bool.and_eq_true] at hk
    obtain ⟨rfl, e⟩ := e
    exact .cons (val_of X hk.1) (fdt_pairsV X e hk.2)
theorem fdt_ofV {h : Heap} (X : K.In cx.B) {x : Str} {mg : Str → Option Value} {kvs : List (Str × PV)} (hm : mg = kmg K) (h1 : kmg K x = some (.ref (refAt K x)))
    (hl : K.lookup (refAt K x) = some { cls := .type "dict", data := .dict (entV cx.w.params (dictL K (refAt K x))) (dictEp K (refAt K x)) })
    (hkv : (dictL K (refAt K x)).map (·.1) = kvs.map (·.1)) (hn : (kvs.map (·.1)).Nodup) (hk : (((dictL K (refAt K x)).zip kvs).all fun e => valChk K e.1.2.2 e.2.2) = true) (hh : cx.B.StaysIn h) : ∃ v, mg x = some v ∧ Rep cx h v (.fdt kvs) := by
  refine ⟨_, by rw [hm]; exact h1, ?_⟩
  generalize hla : dictL K (refAt K x) = l at hl hkv hk
  refine .fdt (vs := l.map fun e => (e.1, e.2.2)) ⟨_, _, _, X _ _ hl, ⟨rfl, rfl, rfl⟩, rfl, ?_, ?_, ?_⟩ (fdt_pairsV (X.keeps hh) hkv hk)
  · intro e he
    unfold entV at he
    simp only [List.mem_toArray, List.mem_map] at he
    obtain ⟨x, _, rfl⟩ := he
    exact ⟨x.1, by simp [Cx.sk, PySem.strKind, Value.isStrOf], rfl⟩
  · unfold entV
    simp only [List.toList_toArray]
    clear hl hla hn hkv hk h1
    induction l with
    | nil => exact .nil
    | cons x l ih => exact .cons (by simp [Cx.sk, PySem.strKind, Value.isStrOf]) rfl ih
  · rw [List.map_map]
    show (l.map (·.1)).Nodup
    rw [hkv]; exact hn
end
end Mine
end
section
open PySem PySem.W PySem.Calls PyProof.Rows
namespace Mine
set_option autoImplicit false
noncomputable def N_taken : List Str := ["kinds", "takes", "left"]
noncomputable def B_taken : ASs :=
    (.cons (.assign 2 ⟨16, 4, 16, 8⟩ (.bin (.blt .len (.cons (.var 0 ⟨16, 15, 16, 20⟩) .nil) ⟨16, 11, 16, 14⟩ ⟨16, 11, 16, 21⟩) .Sub (.blt .len (.cons (.var 1 ⟨16, 28, 16, 33⟩) .nil) ⟨16, 24, 16, 27⟩ ⟨16, 24, 16, 34⟩) ⟨16, 11, 16, 34⟩) ⟨16, 4, 16, 34⟩)
    (.cons (.ite (.cmp (.var 2 ⟨17, 7, 17, 11⟩) .Lt (.lit (.int 0) 0 ⟨17, 14, 17, 15⟩) ⟨17, 7, 17, 15⟩) (.cons (.raise 1 "Empty" "too few kinds" 0 ⟨18, 14, 18, 19⟩ ⟨18, 20, 18, 35⟩ ⟨18, 14, 18, 36⟩ ⟨18, 8, 18, 36⟩)
    .nil) .nil ⟨17, 4, 18, 36⟩)
    (.cons (.ite (.cmp (.sfrom (.var 0 ⟨19, 7, 19, 12⟩) (.var 2 ⟨19, 13, 19, 17⟩) ⟨19, 13, 19, 18⟩ ⟨19, 7, 19, 19⟩) .NotEq (.var 1 ⟨19, 23, 19, 28⟩) ⟨19, 7, 19, 28⟩) (.cons (.raise 2 "WrongKind" "another kind is wanted" 0 ⟨20, 14, 20, 23⟩ ⟨20, 24, 20, 48⟩ ⟨20, 14, 20, 49⟩ ⟨20, 8, 20, 49⟩)
    .nil) .nil ⟨19, 4, 20, 49⟩)
    (.cons (.ret (.sto (.var 0 ⟨21, 11, 21, 16⟩) (.var 2 ⟨21, 18, 21, 22⟩) ⟨21, 17, 21, 22⟩ ⟨21, 11, 21, 23⟩) ⟨21, 4, 21, 23⟩)
    .nil))))
noncomputable def S_taken : Scope := {
              kind := PySem.ScopeKind.function,
              names := [
                (PySem.Str.ofString "kinds", PySem.NameKind.local),
                (PySem.Str.ofString "takes", PySem.NameKind.local),
                (PySem.Str.ofString "left", PySem.NameKind.local),
                (PySem.Str.ofString "len", PySem.NameKind.globalImplicit),
                (PySem.Str.ofString "Empty", PySem.NameKind.globalImplicit),
                (PySem.Str.ofString "WrongKind", PySem.NameKind.globalImplicit)],
              isGenerator := false,
              isCoroutine := false,
              more := [] : PySem.Scope }

noncomputable def N_block_of : List Str := ["program", "name"]
noncomputable def B_block_of : ASs :=
    (.cons (.ite (.cmp (.var 1 ⟨23, 7, 23, 11⟩) .NotIn (.var 0 ⟨23, 19, 23, 26⟩) ⟨23, 7, 23, 26⟩) (.cons (.raise 3 "NoBlock" "no such block" 0 ⟨24, 14, 24, 21⟩ ⟨24, 22, 24, 37⟩ ⟨24, 14, 24, 38⟩ ⟨24, 8, 24, 38⟩)
    .nil) .nil ⟨23, 4, 24, 38⟩)
    (.cons (.ret (.sub (.var 0 ⟨25, 11, 25, 18⟩) (.var 1 ⟨25, 19, 25, 23⟩) ⟨25, 11, 25, 24⟩) ⟨25, 4, 25, 24⟩)
    .nil))
noncomputable def S_block_of : Scope := {
              kind := PySem.ScopeKind.function,
              names := [
                (PySem.Str.ofString "program", PySem.NameKind.local),
                (PySem.Str.ofString "name", PySem.NameKind.local),
                (PySem.Str.ofString "NoBlock", PySem.NameKind.globalImplicit)],
              isGenerator := false,
              isCoroutine := false,
              more := [] : PySem.Scope }

noncomputable def N_called : List Str := ["program", "kinds", "name", "block"]
noncomputable def B_called : ASs :=
    (.cons (.assign 3 ⟨27, 4, 27, 9⟩ (.call "block_of" (.cons (.var 0 ⟨27, 21, 27, 28⟩) (.cons (.var 2 ⟨27, 30, 27, 34⟩) .nil)) ⟨27, 12, 27, 20⟩ ⟨27, 12, 27, 35⟩) ⟨27, 4, 27, 35⟩)
    (.cons (.ret (.bin (.call "taken" (.cons (.var 1 ⟨28, 17, 28, 22⟩) (.cons (.blt .tuple (.cons (.sub (.var 3 ⟨28, 30, 28, 35⟩) (.lit (.int 0) 0 ⟨28, 36, 28, 37⟩) ⟨28, 30, 28, 38⟩) .nil) ⟨28, 24, 28, 29⟩ ⟨28, 24, 28, 39⟩) .nil)) ⟨28, 11, 28, 16⟩ ⟨28, 11, 28, 40⟩) .Add (.blt .tuple (.cons (.sub (.var 3 ⟨28, 49, 28, 54⟩) (.lit (.int 1) 0 ⟨28, 55, 28, 56⟩) ⟨28, 49, 28, 57⟩) .nil) ⟨28, 43, 28, 48⟩ ⟨28, 43, 28, 58⟩) ⟨28, 11, 28, 58⟩) ⟨28, 4, 28, 58⟩)
    .nil))
noncomputable def S_called : Scope := {
              kind := PySem.ScopeKind.function,
              names := [
                (PySem.Str.ofString "program", PySem.NameKind.local),
                (PySem.Str.ofString "kinds", PySem.NameKind.local),
                (PySem.Str.ofString "name", PySem.NameKind.local),
                (PySem.Str.ofString "block", PySem.NameKind.local),
                (PySem.Str.ofString "block_of", PySem.NameKind.globalImplicit),
                (PySem.Str.ofString "taken", PySem.NameKind.globalImplicit),
                (PySem.Str.ofString "tuple", PySem.NameKind.globalImplicit)],
              isGenerator := false,
              isCoroutine := false,
              more := [] : PySem.Scope }

noncomputable def N_moved : List Str := ["kinds", "row", "size", "wants"]
noncomputable def B_moved : ASs :=
    (.cons (.assign 2 ⟨30, 4, 30, 8⟩ (.blt .len (.cons (.var 0 ⟨30, 15, 30, 20⟩) .nil) ⟨30, 11, 30, 14⟩ ⟨30, 11, 30, 21⟩) ⟨30, 4, 30, 21⟩)
    (.cons (.assign 3 ⟨31, 4, 31, 9⟩ (.dict [("swap", ⟨31, 13, 31, 19⟩), ("drop", ⟨31, 24, 31, 30⟩)] (.cons (.lit (.int 2) 0 ⟨31, 21, 31, 22⟩) (.cons (.lit (.int 1) 0 ⟨31, 32, 31, 33⟩) .nil)) ⟨31, 12, 31, 34⟩) ⟨31, 4, 31, 34⟩)
    (.cons (.ite (.cmp (.sub (.var 1 ⟨32, 7, 32, 10⟩) (.lit (.int 0) 0 ⟨32, 11, 32, 12⟩) ⟨32, 7, 32, 13⟩) .Eq (.lit (.str "copy") 0 ⟨32, 17, 32, 23⟩) ⟨32, 7, 32, 23⟩) (.cons (.ite (.cmp (.var 2 ⟨33, 11, 33, 15⟩) .Lt (.bin (.sub (.var 1 ⟨33, 18, 33, 21⟩) (.lit (.int 1) 0 ⟨33, 22, 33, 23⟩) ⟨33, 18, 33, 24⟩) .Add (.lit (.int 1) 0 ⟨33, 27, 33, 28⟩) ⟨33, 18, 33, 28⟩) ⟨33, 11, 33, 28⟩) (.cons (.raise 1 "Empty" "too few kinds" 0 ⟨34, 18, 34, 23⟩ ⟨34, 24, 34, 39⟩ ⟨34, 18, 34, 40⟩ ⟨34, 12, 34, 40⟩)
    .nil) .nil ⟨33, 8, 34, 40⟩)
    (.cons (.ret (.bin (.var 0 ⟨35, 15, 35, 20⟩) .Add (.tup (.cons (.sub (.var 0 ⟨35, 24, 35, 29⟩) (.bin (.bin (.var 2 ⟨35, 30, 35, 34⟩) .Sub (.lit (.int 1) 0 ⟨35, 37, 35, 38⟩) ⟨35, 30, 35, 38⟩) .Sub (.sub (.var 1 ⟨35, 41, 35, 44⟩) (.lit (.int 1) 0 ⟨35, 45, 35, 46⟩) ⟨35, 41, 35, 47⟩) ⟨35, 30, 35, 47⟩) ⟨35, 24, 35, 48⟩) .nil) 0 ⟨35, 23, 35, 50⟩) ⟨35, 15, 35, 50⟩) ⟨35, 8, 35, 50⟩)
    .nil)) .nil ⟨32, 4, 35, 50⟩)
    (.cons (.ite (.cmp (.var 2 ⟨36, 7, 36, 11⟩) .Lt (.sub (.var 3 ⟨36, 14, 36, 19⟩) (.sub (.var 1 ⟨36, 20, 36, 23⟩) (.lit (.int 0) 0 ⟨36, 24, 36, 25⟩) ⟨36, 20, 36, 26⟩) ⟨36, 14, 36, 27⟩) ⟨36, 7, 36, 27⟩) (.cons (.raise 1 "Empty" "too few kinds" 0 ⟨37, 14, 37, 19⟩ ⟨37, 20, 37, 35⟩ ⟨37, 14, 37, 36⟩ ⟨37, 8, 37, 36⟩)
    .nil) .nil ⟨36, 4, 37, 36⟩)
    (.cons (.ite (.cmp (.sub (.var 1 ⟨38, 7, 38, 10⟩) (.lit (.int 0) 0 ⟨38, 11, 38, 12⟩) ⟨38, 7, 38, 13⟩) .Eq (.lit (.str "swap") 0 ⟨38, 17, 38, 23⟩) ⟨38, 7, 38, 23⟩) (.cons (.ret (.bin (.sto (.var 0 ⟨39, 15, 39, 20⟩) (.bin (.var 2 ⟨39, 22, 39, 26⟩) .Sub (.lit (.int 2) 0 ⟨39, 29, 39, 30⟩) ⟨39, 22, 39, 30⟩) ⟨39, 21, 39, 30⟩ ⟨39, 15, 39, 31⟩) .Add (.tup (.cons (.sub (.var 0 ⟨39, 35, 39, 40⟩) (.bin (.var 2 ⟨39, 41, 39, 45⟩) .Sub (.lit (.int 1) 0 ⟨39, 48, 39, 49⟩) ⟨39, 41, 39, 49⟩) ⟨39, 35, 39, 50⟩) (.cons (.sub (.var 0 ⟨39, 52, 39, 57⟩) (.bin (.var 2 ⟨39, 58, 39, 62⟩) .Sub (.lit (.int 2) 0 ⟨39, 65, 39, 66⟩) ⟨39, 58, 39, 66⟩) ⟨39, 52, 39, 67⟩) .nil)) 0 ⟨39, 34, 39, 68⟩) ⟨39, 15, 39, 68⟩) ⟨39, 8, 39, 68⟩)
    .nil) .nil ⟨38, 4, 39, 68⟩)
    (.cons (.ret (.sto (.var 0 ⟨40, 11, 40, 16⟩) (.bin (.var 2 ⟨40, 18, 40, 22⟩) .Sub (.lit (.int 1) 0 ⟨40, 25, 40, 26⟩) ⟨40, 18, 40, 26⟩) ⟨40, 17, 40, 26⟩ ⟨40, 11, 40, 27⟩) ⟨40, 4, 40, 27⟩)
    .nil))))))
noncomputable def S_moved : Scope := {
              kind := PySem.ScopeKind.function,
              names := [
                (PySem.Str.ofString "kinds", PySem.NameKind.local),
                (PySem.Str.ofString "row", PySem.NameKind.local),
                (PySem.Str.ofString "size", PySem.NameKind.local),
                (PySem.Str.ofString "wants", PySem.NameKind.local),
                (PySem.Str.ofString "len", PySem.NameKind.globalImplicit),
                (PySem.Str.ofString "Empty", PySem.NameKind.globalImplicit)],
              isGenerator := false,
              isCoroutine := false,
              more := [] : PySem.Scope }

noncomputable def N_behind : List Str := ["program", "kinds", "row", "word", "left", "yes", "no"]
noncomputable def B_behind : ASs :=
    (.cons (.assign 3 ⟨42, 4, 42, 8⟩ (.sub (.var 2 ⟨42, 11, 42, 14⟩) (.lit (.int 0) 0 ⟨42, 15, 42, 16⟩) ⟨42, 11, 42, 17⟩) ⟨42, 4, 42, 17⟩)
    (.cons (.ite (.bop .Or (.cons (.cmp (.var 3 ⟨43, 7, 43, 11⟩) .Eq (.lit (.str "num") 0 ⟨43, 15, 43, 20⟩) ⟨43, 7, 43, 20⟩) (.cons (.cmp (.var 3 ⟨43, 24, 43, 28⟩) .Eq (.lit (.str "text") 0 ⟨43, 32, 43, 38⟩) ⟨43, 24, 43, 38⟩) .nil)) ⟨43, 7, 43, 38⟩) (.cons (.ret (.bin (.var 1 ⟨44, 15, 44, 20⟩) .Add (.tup (.cons (.var 3 ⟨44, 24, 44, 28⟩) .nil) 0 ⟨44, 23, 44, 30⟩) ⟨44, 15, 44, 30⟩) ⟨44, 8, 44, 30⟩)
    .nil) .nil ⟨43, 4, 44, 30⟩)
    (.cons (.ite (.bop .Or (.cons (.cmp (.var 3 ⟨45, 7, 45, 11⟩) .Eq (.lit (.str "copy") 0 ⟨45, 15, 45, 21⟩) ⟨45, 7, 45, 21⟩) (.cons (.cmp (.var 3 ⟨45, 25, 45, 29⟩) .Eq (.lit (.str "swap") 0 ⟨45, 33, 45, 39⟩) ⟨45, 25, 45, 39⟩) (.cons (.cmp (.var 3 ⟨45, 43, 45, 47⟩) .Eq (.lit (.str "drop") 0 ⟨45, 51, 45, 57⟩) ⟨45, 43, 45, 57⟩) .nil))) ⟨45, 7, 45, 57⟩) (.cons (.ret (.call "moved" (.cons (.var 1 ⟨46, 21, 46, 26⟩) (.cons (.var 2 ⟨46, 28, 46, 31⟩) .nil)) ⟨46, 15, 46, 20⟩ ⟨46, 15, 46, 32⟩) ⟨46, 8, 46, 32⟩)
    .nil) .nil ⟨45, 4, 46, 32⟩)
    (.cons (.ite (.cmp (.var 3 ⟨47, 7, 47, 11⟩) .Eq (.lit (.str "call") 0 ⟨47, 15, 47, 21⟩) ⟨47, 7, 47, 21⟩) (.cons (.ret (.call "called" (.cons (.var 0 ⟨48, 22, 48, 29⟩) (.cons (.var 1 ⟨48, 31, 48, 36⟩) (.cons (.sub (.var 2 ⟨48, 38, 48, 41⟩) (.lit (.int 1) 0 ⟨48, 42, 48, 43⟩) ⟨48, 38, 48, 44⟩) .nil))) ⟨48, 15, 48, 21⟩ ⟨48, 15, 48, 45⟩) ⟨48, 8, 48, 45⟩)
    .nil) .nil ⟨47, 4, 48, 45⟩)
    (.cons (.ite (.cmp (.var 3 ⟨49, 7, 49, 11⟩) .Eq (.lit (.str "if") 0 ⟨49, 15, 49, 19⟩) ⟨49, 7, 49, 19⟩) (.cons (.assign 4 ⟨50, 8, 50, 12⟩ (.call "taken" (.cons (.var 1 ⟨50, 21, 50, 26⟩) (.cons (.tup (.cons (.lit (.str "num") 0 ⟨50, 29, 50, 34⟩) .nil) 0 ⟨50, 28, 50, 36⟩) .nil)) ⟨50, 15, 50, 20⟩ ⟨50, 15, 50, 37⟩) ⟨50, 8, 50, 37⟩)
    (.cons (.assign 5 ⟨51, 8, 51, 11⟩ (.call "block_of" (.cons (.var 0 ⟨51, 23, 51, 30⟩) (.cons (.sub (.var 2 ⟨51, 32, 51, 35⟩) (.lit (.int 1) 0 ⟨51, 36, 51, 37⟩) ⟨51, 32, 51, 38⟩) .nil)) ⟨51, 14, 51, 22⟩ ⟨51, 14, 51, 39⟩) ⟨51, 8, 51, 39⟩)
    (.cons (.assign 6 ⟨52, 8, 52, 10⟩ (.call "block_of" (.cons (.var 0 ⟨52, 22, 52, 29⟩) (.cons (.sub (.var 2 ⟨52, 31, 52, 34⟩) (.lit (.int 2) 0 ⟨52, 35, 52, 36⟩) ⟨52, 31, 52, 37⟩) .nil)) ⟨52, 13, 52, 21⟩ ⟨52, 13, 52, 38⟩) ⟨52, 8, 52, 38⟩)
    (.cons (.ite (.bop .Or (.cons (.cmp (.blt .tuple (.cons (.sub (.var 5 ⟨53, 17, 53, 20⟩) (.lit (.int 0) 0 ⟨53, 21, 53, 22⟩) ⟨53, 17, 53, 23⟩) .nil) ⟨53, 11, 53, 16⟩ ⟨53, 11, 53, 24⟩) .NotEq (.blt .tuple (.cons (.sub (.var 6 ⟨53, 34, 53, 36⟩) (.lit (.int 0) 0 ⟨53, 37, 53, 38⟩) ⟨53, 34, 53, 39⟩) .nil) ⟨53, 28, 53, 33⟩ ⟨53, 28, 53, 40⟩) ⟨53, 11, 53, 40⟩) (.cons (.cmp (.blt .tuple (.cons (.sub (.var 5 ⟨53, 50, 53, 53⟩) (.lit (.int 1) 0 ⟨53, 54, 53, 55⟩) ⟨53, 50, 53, 56⟩) .nil) ⟨53, 44, 53, 49⟩ ⟨53, 44, 53, 57⟩) .NotEq (.blt .tuple (.cons (.sub (.var 6 ⟨53, 67, 53, 69⟩) (.lit (.int 1) 0 ⟨53, 70, 53, 71⟩) ⟨53, 67, 53, 72⟩) .nil) ⟨53, 61, 53, 66⟩ ⟨53, 61, 53, 73⟩) ⟨53, 44, 53, 73⟩) .nil)) ⟨53, 11, 53, 73⟩) (.cons (.raise 4 "Apart" "both blocks tell unlike kinds" 0 ⟨54, 18, 54, 23⟩ ⟨54, 24, 54, 55⟩ ⟨54, 18, 54, 56⟩ ⟨54, 12, 54, 56⟩)
    .nil) .nil ⟨53, 8, 54, 56⟩)
    (.cons (.ret (.call "called" (.cons (.var 0 ⟨55, 22, 55, 29⟩) (.cons (.var 4 ⟨55, 31, 55, 35⟩) (.cons (.sub (.var 2 ⟨55, 37, 55, 40⟩) (.lit (.int 1) 0 ⟨55, 41, 55, 42⟩) ⟨55, 37, 55, 43⟩) .nil))) ⟨55, 15, 55, 21⟩ ⟨55, 15, 55, 44⟩) ⟨55, 8, 55, 44⟩)
    .nil))))) .nil ⟨49, 4, 55, 44⟩)
    (.cons (.ret (.bin (.call "taken" (.cons (.var 1 ⟨56, 17, 56, 22⟩) (.cons (.sub (.glob "TAKES" ⟨56, 24, 56, 29⟩) (.var 3 ⟨56, 30, 56, 34⟩) ⟨56, 24, 56, 35⟩) .nil)) ⟨56, 11, 56, 16⟩ ⟨56, 11, 56, 36⟩) .Add (.tup (.cons (.sub (.glob "PUTS" ⟨56, 40, 56, 44⟩) (.var 3 ⟨56, 45, 56, 49⟩) ⟨56, 40, 56, 50⟩) .nil) 0 ⟨56, 39, 56, 52⟩) ⟨56, 11, 56, 52⟩) ⟨56, 4, 56, 52⟩)
    .nil))))))
noncomputable def S_behind : Scope := {
              kind := PySem.ScopeKind.function,
              names := [
                (PySem.Str.ofString "program", PySem.NameKind.local),
                (PySem.Str.ofString "kinds", PySem.NameKind.local),
                (PySem.Str.ofString "row", PySem.NameKind.local),
                (PySem.Str.ofString "word", PySem.NameKind.local),
                (PySem.Str.ofString "left", PySem.NameKind.local),
                (PySem.Str.ofString "yes", PySem.NameKind.local),
                (PySem.Str.ofString "no", PySem.NameKind.local),
                (PySem.Str.ofString "moved", PySem.NameKind.globalImplicit),
                (PySem.Str.ofString "called", PySem.NameKind.globalImplicit),
                (PySem.Str.ofString "taken", PySem.NameKind.globalImplicit),
                (PySem.Str.ofString "block_of", PySem.NameKind.globalImplicit),
                (PySem.Str.ofString "tuple", PySem.NameKind.globalImplicit),
                (PySem.Str.ofString "Apart", PySem.NameKind.globalImplicit),
                (PySem.Str.ofString "TAKES", PySem.NameKind.globalImplicit),
                (PySem.Str.ofString "PUTS", PySem.NameKind.globalImplicit)],
              isGenerator := false,
              isCoroutine := false,
              more := [] : PySem.Scope }

noncomputable def N_looked : List Str := ["program", "name", "block", "trail", "rows", "place", "word"]
noncomputable def B_looked : ASs :=
    (.cons (.assign 2 ⟨59, 4, 59, 9⟩ (.sub (.var 0 ⟨59, 12, 59, 19⟩) (.var 1 ⟨59, 20, 59, 24⟩) ⟨59, 12, 59, 25⟩) ⟨59, 4, 59, 25⟩)
    (.cons (.assign 3 ⟨60, 4, 60, 9⟩ (.list (.cons (.blt .tuple (.cons (.sub (.var 2 ⟨60, 19, 60, 24⟩) (.lit (.int 0) 0 ⟨60, 25, 60, 26⟩) ⟨60, 19, 60, 27⟩) .nil) ⟨60, 13, 60, 18⟩ ⟨60, 13, 60, 28⟩) .nil) ⟨60, 12, 60, 29⟩) ⟨60, 4, 60, 29⟩)
    (.cons (.assign 4 ⟨61, 4, 61, 8⟩ (.sub (.var 2 ⟨61, 11, 61, 16⟩) (.lit (.int 2) 0 ⟨61, 17, 61, 18⟩) ⟨61, 11, 61, 19⟩) ⟨61, 4, 61, 19⟩)
    (.cons (.for 5 ⟨62, 8, 62, 13⟩ (.blt .range (.cons (.blt .len (.cons (.var 4 ⟨62, 27, 62, 31⟩) .nil) ⟨62, 23, 62, 26⟩ ⟨62, 23, 62, 32⟩) .nil) ⟨62, 17, 62, 22⟩ ⟨62, 17, 62, 33⟩) (.cons (.assign 6 ⟨63, 8, 63, 12⟩ (.lit (.str "") 0 ⟨63, 15, 63, 17⟩) ⟨63, 8, 63, 17⟩)
    (.cons (.try (.cons (.expr (.meth (.var 3 ⟨65, 12, 65, 17⟩) .append (.cons (.call "behind" (.cons (.var 0 ⟨65, 32, 65, 39⟩) (.cons (.sub (.var 3 ⟨65, 41, 65, 46⟩) (.var 5 ⟨65, 47, 65, 52⟩) ⟨65, 41, 65, 53⟩) (.cons (.sub (.var 4 ⟨65, 55, 65, 59⟩) (.var 5 ⟨65, 60, 65, 65⟩) ⟨65, 55, 65, 66⟩) .nil))) ⟨65, 25, 65, 31⟩ ⟨65, 25, 65, 67⟩) .nil) ⟨65, 12, 65, 24⟩ ⟨65, 12, 65, 68⟩) ⟨65, 12, 65, 68⟩)
    .nil) (.cons 1 "Empty" ⟨66, 15, 66, 20⟩ none (.cons (.assign 6 ⟨67, 12, 67, 16⟩ (.lit (.str "empty") 0 ⟨67, 19, 67, 26⟩) ⟨67, 12, 67, 26⟩)
    .nil) ⟨66, 8, 67, 26⟩ (.cons 2 "WrongKind" ⟨68, 15, 68, 24⟩ none (.cons (.assign 6 ⟨69, 12, 69, 16⟩ (.lit (.str "kind") 0 ⟨69, 19, 69, 25⟩) ⟨69, 12, 69, 25⟩)
    .nil) ⟨68, 8, 69, 25⟩ (.cons 3 "NoBlock" ⟨70, 15, 70, 22⟩ none (.cons (.assign 6 ⟨71, 12, 71, 16⟩ (.lit (.str "block") 0 ⟨71, 19, 71, 26⟩) ⟨71, 12, 71, 26⟩)
    .nil) ⟨70, 8, 71, 26⟩ (.cons 4 "Apart" ⟨72, 15, 72, 20⟩ none (.cons (.assign 6 ⟨73, 12, 73, 16⟩ (.lit (.str "apart") 0 ⟨73, 19, 73, 26⟩) ⟨73, 12, 73, 26⟩)
    .nil) ⟨72, 8, 73, 26⟩ .nil)))) ⟨64, 8, 73, 26⟩)
    (.cons (.ite (.cmp (.var 6 ⟨74, 11, 74, 15⟩) .NotEq (.lit (.str "") 0 ⟨74, 19, 74, 21⟩) ⟨74, 11, 74, 21⟩) (.cons (.ret (.tup (.cons (.var 3 ⟨75, 20, 75, 25⟩) (.cons (.tup (.cons (.var 5 ⟨75, 28, 75, 33⟩) (.cons (.var 6 ⟨75, 35, 75, 39⟩) .nil)) 0 ⟨75, 27, 75, 40⟩) .nil)) 0 ⟨75, 19, 75, 41⟩) ⟨75, 12, 75, 41⟩)
    .nil) .nil ⟨74, 8, 75, 41⟩)
    .nil))) ⟨62, 4, 75, 41⟩)
    (.cons (.ite (.cmp (.sub (.var 3 ⟨76, 7, 76, 12⟩) (.neg (.lit (.int 1) 0 ⟨76, 14, 76, 15⟩) ⟨76, 13, 76, 15⟩) ⟨76, 7, 76, 16⟩) .NotEq (.blt .tuple (.cons (.sub (.var 2 ⟨76, 26, 76, 31⟩) (.lit (.int 1) 0 ⟨76, 32, 76, 33⟩) ⟨76, 26, 76, 34⟩) .nil) ⟨76, 20, 76, 25⟩ ⟨76, 20, 76, 35⟩) ⟨76, 7, 76, 35⟩) (.cons (.ret (.tup (.cons (.var 3 ⟨77, 16, 77, 21⟩) (.cons (.tup (.cons (.blt .len (.cons (.var 4 ⟨77, 28, 77, 32⟩) .nil) ⟨77, 24, 77, 27⟩ ⟨77, 24, 77, 33⟩) (.cons (.lit (.str "end") 0 ⟨77, 35, 77, 40⟩) .nil)) 0 ⟨77, 23, 77, 41⟩) .nil)) 0 ⟨77, 15, 77, 42⟩) ⟨77, 8, 77, 42⟩)
    .nil) .nil ⟨76, 4, 77, 42⟩)
    (.cons (.ret (.tup (.cons (.var 3 ⟨78, 12, 78, 17⟩) (.cons (.lit .none 0 ⟨78, 19, 78, 23⟩) .nil)) 0 ⟨78, 11, 78, 24⟩) ⟨78, 4, 78, 24⟩)
    .nil))))))
noncomputable def S_looked : Scope := {
              kind := PySem.ScopeKind.function,
              names := [
                (PySem.Str.ofString "program", PySem.NameKind.local),
                (PySem.Str.ofString "name", PySem.NameKind.local),
                (PySem.Str.ofString "block", PySem.NameKind.local),
                (PySem.Str.ofString "trail", PySem.NameKind.local),
                (PySem.Str.ofString "rows", PySem.NameKind.local),
                (PySem.Str.ofString "place", PySem.NameKind.local),
                (PySem.Str.ofString "word", PySem.NameKind.local),
                (PySem.Str.ofString "tuple", PySem.NameKind.globalImplicit),
                (PySem.Str.ofString "range", PySem.NameKind.globalImplicit),
                (PySem.Str.ofString "len", PySem.NameKind.globalImplicit),
                (PySem.Str.ofString "behind", PySem.NameKind.globalImplicit),
                (PySem.Str.ofString "Empty", PySem.NameKind.globalImplicit),
                (PySem.Str.ofString "WrongKind", PySem.NameKind.globalImplicit),
                (PySem.Str.ofString "NoBlock", PySem.NameKind.globalImplicit),
                (PySem.Str.ofString "Apart", PySem.NameKind.globalImplicit)],
              isGenerator := false,
              isCoroutine := false,
              more := [] : PySem.Scope }

noncomputable def N_fault : List Str := ["program", "name"]
noncomputable def B_fault : ASs :=
    (.cons (.ret (.sub (.call "looked" (.cons (.var 0 ⟨80, 18, 80, 25⟩) (.cons (.var 1 ⟨80, 27, 80, 31⟩) .nil)) ⟨80, 11, 80, 17⟩ ⟨80, 11, 80, 32⟩) (.lit (.int 1) 0 ⟨80, 33, 80, 34⟩) ⟨80, 11, 80, 35⟩) ⟨80, 4, 80, 35⟩)
    .nil)
noncomputable def S_fault : Scope := {
              kind := PySem.ScopeKind.function,
              names := [
                (PySem.Str.ofString "program", PySem.NameKind.local),
                (PySem.Str.ofString "name", PySem.NameKind.local),
                (PySem.Str.ofString "looked", PySem.NameKind.globalImplicit)],
              isGenerator := false,
              isCoroutine := false,
              more := [] : PySem.Scope }

noncomputable def N_named : List Str := ["rows", "names", "row"]
noncomputable def B_named : ASs :=
    (.cons (.assign 1 ⟨82, 4, 82, 9⟩ (.list .nil ⟨82, 12, 82, 14⟩) ⟨82, 4, 82, 14⟩)
    (.cons (.for 2 ⟨83, 8, 83, 11⟩ (.var 0 ⟨83, 15, 83, 19⟩) (.cons (.ite (.cmp (.sub (.var 2 ⟨84, 11, 84, 14⟩) (.lit (.int 0) 0 ⟨84, 15, 84, 16⟩) ⟨84, 11, 84, 17⟩) .Eq (.lit (.str "call") 0 ⟨84, 21, 84, 27⟩) ⟨84, 11, 84, 27⟩) (.cons (.expr (.meth (.var 1 ⟨85, 12, 85, 17⟩) .append (.cons (.sub (.var 2 ⟨85, 25, 85, 28⟩) (.lit (.int 1) 0 ⟨85, 29, 85, 30⟩) ⟨85, 25, 85, 31⟩) .nil) ⟨85, 12, 85, 24⟩ ⟨85, 12, 85, 32⟩) ⟨85, 12, 85, 32⟩)
    .nil) .nil ⟨84, 8, 85, 32⟩)
    (.cons (.ite (.cmp (.sub (.var 2 ⟨86, 11, 86, 14⟩) (.lit (.int 0) 0 ⟨86, 15, 86, 16⟩) ⟨86, 11, 86, 17⟩) .Eq (.lit (.str "if") 0 ⟨86, 21, 86, 25⟩) ⟨86, 11, 86, 25⟩) (.cons (.expr (.meth (.var 1 ⟨87, 12, 87, 17⟩) .append (.cons (.sub (.var 2 ⟨87, 25, 87, 28⟩) (.lit (.int 1) 0 ⟨87, 29, 87, 30⟩) ⟨87, 25, 87, 31⟩) .nil) ⟨87, 12, 87, 24⟩ ⟨87, 12, 87, 32⟩) ⟨87, 12, 87, 32⟩)
    (.cons (.expr (.meth (.var 1 ⟨88, 12, 88, 17⟩) .append (.cons (.sub (.var 2 ⟨88, 25, 88, 28⟩) (.lit (.int 2) 0 ⟨88, 29, 88, 30⟩) ⟨88, 25, 88, 31⟩) .nil) ⟨88, 12, 88, 24⟩ ⟨88, 12, 88, 32⟩) ⟨88, 12, 88, 32⟩)
    .nil)) .nil ⟨86, 8, 88, 32⟩)
    .nil)) ⟨83, 4, 88, 32⟩)
    (.cons (.ret (.var 1 ⟨89, 11, 89, 16⟩) ⟨89, 4, 89, 16⟩)
    .nil)))
noncomputable def S_named : Scope := {
              kind := PySem.ScopeKind.function,
              names := [
                (PySem.Str.ofString "rows", PySem.NameKind.local),
                (PySem.Str.ofString "names", PySem.NameKind.local),
                (PySem.Str.ofString "row", PySem.NameKind.local)],
              isGenerator := false,
              isCoroutine := false,
              more := [] : PySem.Scope }

noncomputable def N_come_to : List Str := ["program", "name", "found", "place", "other"]
noncomputable def B_come_to : ASs :=
    (.cons (.assign 2 ⟨91, 4, 91, 9⟩ (.list (.cons (.var 1 ⟨91, 13, 91, 17⟩) .nil) ⟨91, 12, 91, 18⟩) ⟨91, 4, 91, 18⟩)
    (.cons (.assign 3 ⟨92, 4, 92, 9⟩ (.lit (.int 0) 0 ⟨92, 12, 92, 13⟩) ⟨92, 4, 92, 13⟩)
    (.cons (.while (.cmp (.var 3 ⟨93, 10, 93, 15⟩) .Lt (.blt .len (.cons (.var 2 ⟨93, 22, 93, 27⟩) .nil) ⟨93, 18, 93, 21⟩ ⟨93, 18, 93, 28⟩) ⟨93, 10, 93, 28⟩) (.cons (.ite (.cmp (.sub (.var 2 ⟨94, 11, 94, 16⟩) (.var 3 ⟨94, 17, 94, 22⟩) ⟨94, 11, 94, 23⟩) .In (.var 0 ⟨94, 27, 94, 34⟩) ⟨94, 11, 94, 34⟩) (.cons (.for 4 ⟨95, 16, 95, 21⟩ (.call "named" (.cons (.sub (.sub (.var 0 ⟨95, 31, 95, 38⟩) (.sub (.var 2 ⟨95, 39, 95, 44⟩) (.var 3 ⟨95, 45, 95, 50⟩) ⟨95, 39, 95, 51⟩) ⟨95, 31, 95, 52⟩) (.lit (.int 2) 0 ⟨95, 53, 95, 54⟩) ⟨95, 31, 95, 55⟩) .nil) ⟨95, 25, 95, 30⟩ ⟨95, 25, 95, 56⟩) (.cons (.ite (.cmp (.var 4 ⟨96, 19, 96, 24⟩) .NotIn (.var 2 ⟨96, 32, 96, 37⟩) ⟨96, 19, 96, 37⟩) (.cons (.expr (.meth (.var 2 ⟨97, 20, 97, 25⟩) .append (.cons (.var 4 ⟨97, 33, 97, 38⟩) .nil) ⟨97, 20, 97, 32⟩ ⟨97, 20, 97, 39⟩) ⟨97, 20, 97, 39⟩)
    .nil) .nil ⟨96, 16, 97, 39⟩)
    .nil) ⟨95, 12, 97, 39⟩)
    .nil) .nil ⟨94, 8, 97, 39⟩)
    (.cons (.assign 3 ⟨98, 8, 98, 13⟩ (.bin (.var 3 ⟨98, 16, 98, 21⟩) .Add (.lit (.int 1) 0 ⟨98, 24, 98, 25⟩) ⟨98, 16, 98, 25⟩) ⟨98, 8, 98, 25⟩)
    .nil)) ⟨93, 4, 98, 25⟩)
    (.cons (.ret (.var 2 ⟨99, 11, 99, 16⟩) ⟨99, 4, 99, 16⟩)
    .nil))))
noncomputable def S_come_to : Scope := {
              kind := PySem.ScopeKind.function,
              names := [
                (PySem.Str.ofString "program", PySem.NameKind.local),
                (PySem.Str.ofString "name", PySem.NameKind.local),
                (PySem.Str.ofString "found", PySem.NameKind.local),
                (PySem.Str.ofString "place", PySem.NameKind.local),
                (PySem.Str.ofString "other", PySem.NameKind.local),
                (PySem.Str.ofString "len", PySem.NameKind.globalImplicit),
                (PySem.Str.ofString "named", PySem.NameKind.globalImplicit)],
              isGenerator := false,
              isCoroutine := false,
              more := [] : PySem.Scope }

noncomputable def N_let_by : List Str := ["program", "name", "one"]
noncomputable def B_let_by : ASs :=
    (.cons (.for 2 ⟨101, 8, 101, 11⟩ (.call "come_to" (.cons (.var 0 ⟨101, 23, 101, 30⟩) (.cons (.var 1 ⟨101, 32, 101, 36⟩) .nil)) ⟨101, 15, 101, 22⟩ ⟨101, 15, 101, 37⟩) (.cons (.ite (.bop .Or (.cons (.cmp (.var 2 ⟨102, 11, 102, 14⟩) .NotIn (.var 0 ⟨102, 22, 102, 29⟩) ⟨102, 11, 102, 29⟩) (.cons (.cmp (.call "fault" (.cons (.var 0 ⟨102, 39, 102, 46⟩) (.cons (.var 2 ⟨102, 48, 102, 51⟩) .nil)) ⟨102, 33, 102, 38⟩ ⟨102, 33, 102, 52⟩) .IsNot (.lit .none 0 ⟨102, 60, 102, 64⟩) ⟨102, 33, 102, 64⟩) .nil)) ⟨102, 11, 102, 64⟩) (.cons (.ret (.lit (.bool false) 0 ⟨103, 19, 103, 24⟩) ⟨103, 12, 103, 24⟩)
    .nil) .nil ⟨102, 8, 103, 24⟩)
    .nil) ⟨101, 4, 103, 24⟩)
    (.cons (.ret (.lit (.bool true) 0 ⟨104, 11, 104, 15⟩) ⟨104, 4, 104, 15⟩)
    .nil))
noncomputable def S_let_by : Scope := {
              kind := PySem.ScopeKind.function,
              names := [
                (PySem.Str.ofString "program", PySem.NameKind.local),
                (PySem.Str.ofString "name", PySem.NameKind.local),
                (PySem.Str.ofString "one", PySem.NameKind.local),
                (PySem.Str.ofString "come_to", PySem.NameKind.globalImplicit),
                (PySem.Str.ofString "fault", PySem.NameKind.globalImplicit)],
              isGenerator := false,
              isCoroutine := false,
              more := [] : PySem.Scope }

noncomputable def N_law_draw : List Str := ["_law_script", "_law_tape", "_law_many", "_law_seed", "_law_cell"]
noncomputable def B_law_draw : ASs :=
    (.cons (.store (.var 1 ⟨107, 4, 107, 13⟩) (.lit (.int 0) 0 ⟨107, 14, 107, 15⟩) ⟨107, 4, 107, 16⟩ (.bin (.sub (.var 1 ⟨107, 19, 107, 28⟩) (.lit (.int 0) 0 ⟨107, 29, 107, 30⟩) ⟨107, 19, 107, 31⟩) .Add (.lit (.int 1) 0 ⟨107, 34, 107, 35⟩) ⟨107, 19, 107, 35⟩) ⟨107, 4, 107, 35⟩)
    (.cons (.ite (.cmp (.sub (.var 1 ⟨108, 7, 108, 16⟩) (.lit (.int 0) 0 ⟨108, 17, 108, 18⟩) ⟨108, 7, 108, 19⟩) .LtE (.blt .len (.cons (.var 0 ⟨108, 27, 108, 38⟩) .nil) ⟨108, 23, 108, 26⟩ ⟨108, 23, 108, 39⟩) ⟨108, 7, 108, 39⟩) (.cons (.ret (.bin (.sub (.var 0 ⟨109, 15, 109, 26⟩) (.bin (.sub (.var 1 ⟨109, 27, 109, 36⟩) (.lit (.int 0) 0 ⟨109, 37, 109, 38⟩) ⟨109, 27, 109, 39⟩) .Sub (.lit (.int 1) 0 ⟨109, 42, 109, 43⟩) ⟨109, 27, 109, 43⟩) ⟨109, 15, 109, 44⟩) .Mod (.var 2 ⟨109, 47, 109, 56⟩) ⟨109, 15, 109, 56⟩) ⟨109, 8, 109, 56⟩)
    .nil) .nil ⟨108, 4, 109, 56⟩)
    (.cons (.assign 3 ⟨110, 4, 110, 13⟩ (.blt .len (.cons (.var 0 ⟨110, 20, 110, 31⟩) .nil) ⟨110, 16, 110, 19⟩ ⟨110, 16, 110, 32⟩) ⟨110, 4, 110, 32⟩)
    (.cons (.for 4 ⟨111, 8, 111, 17⟩ (.sto (.var 0 ⟨111, 21, 111, 32⟩) (.lit (.int 4) 0 ⟨111, 34, 111, 35⟩) ⟨111, 33, 111, 35⟩ ⟨111, 21, 111, 36⟩) (.cons (.assign 3 ⟨112, 8, 112, 17⟩ (.bin (.bin (.bin (.var 3 ⟨112, 21, 112, 30⟩) .Mult (.lit (.int 131) 0 ⟨112, 33, 112, 36⟩) ⟨112, 21, 112, 36⟩) .Add (.var 4 ⟨112, 39, 112, 48⟩) ⟨112, 21, 112, 48⟩) .Mod (.lit (.int 1000003) 0 ⟨112, 52, 112, 59⟩) ⟨112, 20, 112, 59⟩) ⟨112, 8, 112, 59⟩)
    .nil) ⟨111, 4, 112, 59⟩)
    (.cons (.ret (.bin (.bin (.bin (.bin (.var 3 ⟨113, 12, 113, 21⟩) .Add (.lit (.int 7) 0 ⟨113, 24, 113, 25⟩) ⟨113, 12, 113, 25⟩) .Mult (.bin (.bin (.sub (.var 1 ⟨113, 30, 113, 39⟩) (.lit (.int 0) 0 ⟨113, 40, 113, 41⟩) ⟨113, 30, 113, 42⟩) .Mult (.sub (.var 1 ⟨113, 45, 113, 54⟩) (.lit (.int 0) 0 ⟨113, 55, 113, 56⟩) ⟨113, 45, 113, 57⟩) ⟨113, 30, 113, 57⟩) .Add (.lit (.int 48271) 0 ⟨113, 60, 113, 65⟩) ⟨113, 30, 113, 65⟩) ⟨113, 11, 113, 66⟩) .Mod (.lit (.int 1000003) 0 ⟨113, 69, 113, 76⟩) ⟨113, 11, 113, 76⟩) .Mod (.var 2 ⟨113, 79, 113, 88⟩) ⟨113, 11, 113, 88⟩) ⟨113, 4, 113, 88⟩)
    .nil)))))
noncomputable def S_law_draw : Scope := {
              kind := PySem.ScopeKind.function,
              names := [
                (PySem.Str.ofString "_law_script", PySem.NameKind.local),
                (PySem.Str.ofString "_law_tape", PySem.NameKind.local),
                (PySem.Str.ofString "_law_many", PySem.NameKind.local),
                (PySem.Str.ofString "_law_seed", PySem.NameKind.local),
                (PySem.Str.ofString "_law_cell", PySem.NameKind.local),
                (PySem.Str.ofString "len", PySem.NameKind.globalImplicit)],
              isGenerator := false,
              isCoroutine := false,
              more := [] : PySem.Scope }

noncomputable def N_law_words : List Str := ["_law_cell", "_law_size", "_law_signs", "_law_k"]
noncomputable def B_law_words : ASs :=
    (.cons (.assign 2 ⟨115, 4, 115, 14⟩ (.lit (.str "abcdefghijklmnopqrstuvwxyzABCDEFGHIJKLMNOPQRSTUVWXYZ0123456789") 0 ⟨115, 17, 115, 81⟩) ⟨115, 4, 115, 81⟩)
    (.cons (.assign 2 ⟨116, 4, 116, 14⟩ (.bin (.var 2 ⟨116, 17, 116, 27⟩) .Add (.lit (.str " .,;:!?'\"()[]{}<>+-*/=&|^~_#$@\\`") 0 ⟨116, 30, 116, 66⟩) ⟨116, 17, 116, 66⟩) ⟨116, 4, 116, 66⟩)
    (.cons (.ret (.meth (.lit (.str "") 0 ⟨117, 11, 117, 13⟩) .join (.cons (.comp (.sub (.var 2 ⟨117, 20, 117, 30⟩) (.bin (.bin (.bin (.var 0 ⟨117, 32, 117, 41⟩) .FloorDiv (.bin (.var 3 ⟨117, 46, 117, 52⟩) .Add (.lit (.int 1) 0 ⟨117, 55, 117, 56⟩) ⟨117, 46, 117, 56⟩) ⟨117, 32, 117, 57⟩) .Add (.bin (.lit (.int 5) 0 ⟨117, 60, 117, 61⟩) .Mult (.var 3 ⟨117, 64, 117, 70⟩) ⟨117, 60, 117, 70⟩) ⟨117, 32, 117, 70⟩) .Mod (.lit (.int 94) 0 ⟨117, 74, 117, 76⟩) ⟨117, 31, 117, 76⟩) ⟨117, 20, 117, 77⟩) 3 ⟨117, 82, 117, 88⟩ (.blt .range (.cons (.var 1 ⟨117, 98, 117, 107⟩) .nil) ⟨117, 92, 117, 97⟩ ⟨117, 92, 117, 108⟩) .nil {                           kind := PySem.ScopeKind.function,                           names := [                             (PySem.Str.ofString ".0", PySem.NameKind.local),                             (PySem.Str.ofString "_law_k", PySem.NameKind.local),                             (PySem.Str.ofString "_law_cell", PySem.NameKind.free),                             (PySem.Str.ofString "_law_signs", PySem.NameKind.free)],                           isGenerator := false,                           isCoroutine := false,                           more := [] : PySem.Scope } ⟨117, 19, 117, 109⟩) .nil) ⟨117, 11, 117, 18⟩ ⟨117, 11, 117, 110⟩) ⟨117, 4, 117, 110⟩)
    .nil)))
noncomputable def S_law_words : Scope := {
              kind := PySem.ScopeKind.function,
              names := [
                (PySem.Str.ofString "_law_cell", PySem.NameKind.cell),
                (PySem.Str.ofString "_law_size", PySem.NameKind.local),
                (PySem.Str.ofString "_law_signs", PySem.NameKind.cell),
                (PySem.Str.ofString "range", PySem.NameKind.globalImplicit)],
              isGenerator := false,
              isCoroutine := false,
              more := [
                (PySem.Str.ofString "fast", (PySem.Const.str "_law_cell")),
                (PySem.Str.ofString "fast", (PySem.Const.str "_law_size")),
                (PySem.Str.ofString "fast", (PySem.Const.str "_law_signs")),
                (PySem.Str.ofString "fast", (PySem.Const.str "_law_k"))] : PySem.Scope }

noncomputable def N_law_value : List Str := ["_law_script", "_law_tape", "_law_kind", "_law_cell", "_law_way"]
noncomputable def B_law_value : ASs :=
    (.cons (.assign 3 ⟨119, 4, 119, 13⟩ (.call "_law_draw" (.cons (.var 0 ⟨119, 26, 119, 37⟩) (.cons (.var 1 ⟨119, 39, 119, 48⟩) (.cons (.lit (.int 1000000000) 0 ⟨119, 50, 119, 60⟩) .nil))) ⟨119, 16, 119, 25⟩ ⟨119, 16, 119, 61⟩) ⟨119, 4, 119, 61⟩)
    (.cons (.assign 4 ⟨120, 4, 120, 12⟩ (.call "_law_draw" (.cons (.var 0 ⟨120, 25, 120, 36⟩) (.cons (.var 1 ⟨120, 38, 120, 47⟩) (.cons (.lit (.int 6) 0 ⟨120, 49, 120, 50⟩) .nil))) ⟨120, 15, 120, 24⟩ ⟨120, 15, 120, 51⟩) ⟨120, 4, 120, 51⟩)
    (.cons (.ite (.cmp (.var 2 ⟨121, 7, 121, 16⟩) .Eq (.lit (.str "text") 0 ⟨121, 20, 121, 26⟩) ⟨121, 7, 121, 26⟩) (.cons (.ite (.cmp (.var 4 ⟨122, 11, 122, 19⟩) .Eq (.lit (.int 0) 0 ⟨122, 23, 122, 24⟩) ⟨122, 11, 122, 24⟩) (.cons (.ret (.call "_law_words" (.cons (.var 3 ⟨123, 30, 123, 39⟩) (.cons (.bin (.lit (.int 58) 0 ⟨123, 41, 123, 43⟩) .Add (.bin (.var 3 ⟨123, 46, 123, 55⟩) .Mod (.lit (.int 3) 0 ⟨123, 58, 123, 59⟩) ⟨123, 46, 123, 59⟩) ⟨123, 41, 123, 59⟩) .nil)) ⟨123, 19, 123, 29⟩ ⟨123, 19, 123, 60⟩) ⟨123, 12, 123, 60⟩)
    .nil) .nil ⟨122, 8, 123, 60⟩)
    (.cons (.ret (.call "_law_words" (.cons (.var 3 ⟨124, 26, 124, 35⟩) (.cons (.bin (.bin (.var 3 ⟨124, 37, 124, 46⟩) .FloorDiv (.lit (.int 94) 0 ⟨124, 50, 124, 52⟩) ⟨124, 37, 124, 52⟩) .Mod (.lit (.int 8) 0 ⟨124, 55, 124, 56⟩) ⟨124, 37, 124, 56⟩) .nil)) ⟨124, 15, 124, 25⟩ ⟨124, 15, 124, 57⟩) ⟨124, 8, 124, 57⟩)
    .nil)) .nil ⟨121, 4, 124, 57⟩)
    (.cons (.ite (.cmp (.var 4 ⟨125, 7, 125, 15⟩) .Eq (.lit (.int 0) 0 ⟨125, 19, 125, 20⟩) ⟨125, 7, 125, 20⟩) (.cons (.ret (.bin (.lit (.int 999999999) 0 ⟨126, 15, 126, 24⟩) .Sub (.bin (.var 3 ⟨126, 27, 126, 36⟩) .Mod (.lit (.int 3) 0 ⟨126, 39, 126, 40⟩) ⟨126, 27, 126, 40⟩) ⟨126, 15, 126, 40⟩) ⟨126, 8, 126, 40⟩)
    .nil) .nil ⟨125, 4, 126, 40⟩)
    (.cons (.ite (.cmp (.var 4 ⟨127, 7, 127, 15⟩) .Lt (.lit (.int 3) 0 ⟨127, 18, 127, 19⟩) ⟨127, 7, 127, 19⟩) (.cons (.ret (.bin (.var 3 ⟨128, 15, 128, 24⟩) .Mod (.lit (.int 4) 0 ⟨128, 27, 128, 28⟩) ⟨128, 15, 128, 28⟩) ⟨128, 8, 128, 28⟩)
    .nil) .nil ⟨127, 4, 128, 28⟩)
    (.cons (.ret (.var 3 ⟨129, 11, 129, 20⟩) ⟨129, 4, 129, 20⟩)
    .nil))))))
noncomputable def S_law_value : Scope := {
              kind := PySem.ScopeKind.function,
              names := [
                (PySem.Str.ofString "_law_script", PySem.NameKind.local),
                (PySem.Str.ofString "_law_tape", PySem.NameKind.local),
                (PySem.Str.ofString "_law_kind", PySem.NameKind.local),
                (PySem.Str.ofString "_law_cell", PySem.NameKind.local),
                (PySem.Str.ofString "_law_way", PySem.NameKind.local),
                (PySem.Str.ofString "_law_draw", PySem.NameKind.globalImplicit),
                (PySem.Str.ofString "_law_words", PySem.NameKind.globalImplicit)],
              isGenerator := false,
              isCoroutine := false,
              more := [] : PySem.Scope }

noncomputable def N_law_wanted : List Str := ["_law_row", "_law_two", "_law_one"]
noncomputable def B_law_wanted : ASs :=
    (.cons (.ite (.cmp (.sub (.var 0 ⟨131, 7, 131, 15⟩) (.lit (.int 0) 0 ⟨131, 16, 131, 17⟩) ⟨131, 7, 131, 18⟩) .Eq (.lit (.str "copy") 0 ⟨131, 22, 131, 28⟩) ⟨131, 7, 131, 28⟩) (.cons (.ret (.bin (.list (.cons (.lit (.str "") 0 ⟨132, 16, 132, 18⟩) .nil) ⟨132, 15, 132, 19⟩) .Mult (.bin (.sub (.var 0 ⟨132, 23, 132, 31⟩) (.lit (.int 1) 0 ⟨132, 32, 132, 33⟩) ⟨132, 23, 132, 34⟩) .Add (.lit (.int 1) 0 ⟨132, 37, 132, 38⟩) ⟨132, 23, 132, 38⟩) ⟨132, 15, 132, 39⟩) ⟨132, 8, 132, 39⟩)
    .nil) .nil ⟨131, 4, 132, 39⟩)
    (.cons (.assign 1 ⟨133, 4, 133, 12⟩ (.dict [("add", ⟨133, 16, 133, 21⟩), ("mul", ⟨133, 30, 133, 35⟩), ("less", ⟨133, 44, 133, 50⟩), ("join", ⟨133, 59, 133, 65⟩), ("swap", ⟨133, 75, 133, 81⟩)] (.cons (.lit (.str "num") 0 ⟨133, 23, 133, 28⟩) (.cons (.lit (.str "num") 0 ⟨133, 37, 133, 42⟩) (.cons (.lit (.str "num") 0 ⟨133, 52, 133, 57⟩) (.cons (.lit (.str "text") 0 ⟨133, 67, 133, 73⟩) (.cons (.lit (.str "") 0 ⟨133, 83, 133, 85⟩) .nil))))) ⟨133, 15, 133, 86⟩) ⟨133, 4, 133, 86⟩)
    (.cons (.assign 2 ⟨134, 4, 134, 12⟩ (.dict [("long", ⟨134, 16, 134, 22⟩), ("show", ⟨134, 32, 134, 38⟩), ("drop", ⟨134, 47, 134, 53⟩)] (.cons (.lit (.str "text") 0 ⟨134, 24, 134, 30⟩) (.cons (.lit (.str "num") 0 ⟨134, 40, 134, 45⟩) (.cons (.lit (.str "") 0 ⟨134, 55, 134, 57⟩) .nil))) ⟨134, 15, 134, 58⟩) ⟨134, 4, 134, 58⟩)
    (.cons (.ite (.cmp (.sub (.var 0 ⟨135, 7, 135, 15⟩) (.lit (.int 0) 0 ⟨135, 16, 135, 17⟩) ⟨135, 7, 135, 18⟩) .In (.var 1 ⟨135, 22, 135, 30⟩) ⟨135, 7, 135, 30⟩) (.cons (.ret (.list (.cons (.sub (.var 1 ⟨136, 16, 136, 24⟩) (.sub (.var 0 ⟨136, 25, 136, 33⟩) (.lit (.int 0) 0 ⟨136, 34, 136, 35⟩) ⟨136, 25, 136, 36⟩) ⟨136, 16, 136, 37⟩) (.cons (.sub (.var 1 ⟨136, 39, 136, 47⟩) (.sub (.var 0 ⟨136, 48, 136, 56⟩) (.lit (.int 0) 0 ⟨136, 57, 136, 58⟩) ⟨136, 48, 136, 59⟩) ⟨136, 39, 136, 60⟩) .nil)) ⟨136, 15, 136, 61⟩) ⟨136, 8, 136, 61⟩)
    .nil) .nil ⟨135, 4, 136, 61⟩)
    (.cons (.ite (.cmp (.sub (.var 0 ⟨137, 7, 137, 15⟩) (.lit (.int 0) 0 ⟨137, 16, 137, 17⟩) ⟨137, 7, 137, 18⟩) .In (.var 2 ⟨137, 22, 137, 30⟩) ⟨137, 7, 137, 30⟩) (.cons (.ret (.list (.cons (.sub (.var 2 ⟨138, 16, 138, 24⟩) (.sub (.var 0 ⟨138, 25, 138, 33⟩) (.lit (.int 0) 0 ⟨138, 34, 138, 35⟩) ⟨138, 25, 138, 36⟩) ⟨138, 16, 138, 37⟩) .nil) ⟨138, 15, 138, 38⟩) ⟨138, 8, 138, 38⟩)
    .nil) .nil ⟨137, 4, 138, 38⟩)
    (.cons (.ret (.list .nil ⟨139, 11, 139, 13⟩) ⟨139, 4, 139, 13⟩)
    .nil))))))
noncomputable def S_law_wanted : Scope := {
              kind := PySem.ScopeKind.function,
              names := [
                (PySem.Str.ofString "_law_row", PySem.NameKind.local),
                (PySem.Str.ofString "_law_two", PySem.NameKind.local),
                (PySem.Str.ofString "_law_one", PySem.NameKind.local)],
              isGenerator := false,
              isCoroutine := false,
              more := [] : PySem.Scope }

noncomputable def N_law_lack : List Str := ["_law_kinds_here", "_law_wanted_here", "_law_low", "_law_k"]
noncomputable def B_law_lack : ASs :=
    (.cons (.ite (.cmp (.blt .len (.cons (.var 0 ⟨141, 11, 141, 26⟩) .nil) ⟨141, 7, 141, 10⟩ ⟨141, 7, 141, 27⟩) .Lt (.blt .len (.cons (.var 1 ⟨141, 34, 141, 50⟩) .nil) ⟨141, 30, 141, 33⟩ ⟨141, 30, 141, 51⟩) ⟨141, 7, 141, 51⟩) (.cons (.ret (.lit (.str "empty") 0 ⟨142, 15, 142, 22⟩) ⟨142, 8, 142, 22⟩)
    .nil) .nil ⟨141, 4, 142, 22⟩)
    (.cons (.assign 2 ⟨143, 4, 143, 12⟩ (.bin (.blt .len (.cons (.var 0 ⟨143, 19, 143, 34⟩) .nil) ⟨143, 15, 143, 18⟩ ⟨143, 15, 143, 35⟩) .Sub (.blt .len (.cons (.var 1 ⟨143, 42, 143, 58⟩) .nil) ⟨143, 38, 143, 41⟩ ⟨143, 38, 143, 59⟩) ⟨143, 15, 143, 59⟩) ⟨143, 4, 143, 59⟩)
    (.cons (.for 3 ⟨144, 8, 144, 14⟩ (.blt .range (.cons (.blt .len (.cons (.var 1 ⟨144, 28, 144, 44⟩) .nil) ⟨144, 24, 144, 27⟩ ⟨144, 24, 144, 45⟩) .nil) ⟨144, 18, 144, 23⟩ ⟨144, 18, 144, 46⟩) (.cons (.ite (.bop .And (.cons (.cmp (.sub (.var 1 ⟨145, 11, 145, 27⟩) (.var 3 ⟨145, 28, 145, 34⟩) ⟨145, 11, 145, 35⟩) .NotEq (.lit (.str "") 0 ⟨145, 39, 145, 41⟩) ⟨145, 11, 145, 41⟩) (.cons (.cmp (.sub (.var 1 ⟨145, 46, 145, 62⟩) (.var 3 ⟨145, 63, 145, 69⟩) ⟨145, 46, 145, 70⟩) .NotEq (.sub (.var 0 ⟨145, 74, 145, 89⟩) (.bin (.var 2 ⟨145, 90, 145, 98⟩) .Add (.var 3 ⟨145, 101, 145, 107⟩) ⟨145, 90, 145, 107⟩) ⟨145, 74, 145, 108⟩) ⟨145, 46, 145, 108⟩) .nil)) ⟨145, 11, 145, 108⟩) (.cons (.ret (.lit (.str "kind") 0 ⟨146, 19, 146, 25⟩) ⟨146, 12, 146, 25⟩)
    .nil) .nil ⟨145, 8, 146, 25⟩)
    .nil) ⟨144, 4, 146, 25⟩)
    (.cons (.ret (.lit (.str "") 0 ⟨147, 11, 147, 13⟩) ⟨147, 4, 147, 13⟩)
    .nil))))
noncomputable def S_law_lack : Scope := {
              kind := PySem.ScopeKind.function,
              names := [
                (PySem.Str.ofString "_law_kinds_here", PySem.NameKind.local),
                (PySem.Str.ofString "_law_wanted_here", PySem.NameKind.local),
                (PySem.Str.ofString "_law_low", PySem.NameKind.local),
                (PySem.Str.ofString "_law_k", PySem.NameKind.local),
                (PySem.Str.ofString "len", PySem.NameKind.globalImplicit),
                (PySem.Str.ofString "range", PySem.NameKind.globalImplicit)],
              isGenerator := false,
              isCoroutine := false,
              more := [] : PySem.Scope }

noncomputable def N_law_plainly : List Str := ["_law_kinds_here", "_law_row", "_law_left"]
noncomputable def B_law_plainly : ASs :=
    (.cons (.assign 2 ⟨149, 4, 149, 13⟩ (.sto (.var 0 ⟨149, 16, 149, 31⟩) (.bin (.blt .len (.cons (.var 0 ⟨149, 37, 149, 52⟩) .nil) ⟨149, 33, 149, 36⟩ ⟨149, 33, 149, 53⟩) .Sub (.blt .len (.cons (.call "_law_wanted" (.cons (.var 1 ⟨149, 72, 149, 80⟩) .nil) ⟨149, 60, 149, 71⟩ ⟨149, 60, 149, 81⟩) .nil) ⟨149, 56, 149, 59⟩ ⟨149, 56, 149, 82⟩) ⟨149, 33, 149, 82⟩) ⟨149, 32, 149, 82⟩ ⟨149, 16, 149, 83⟩) ⟨149, 4, 149, 83⟩)
    (.cons (.ite (.cmp (.sub (.var 1 ⟨150, 7, 150, 15⟩) (.lit (.int 0) 0 ⟨150, 16, 150, 17⟩) ⟨150, 7, 150, 18⟩) .Eq (.lit (.str "copy") 0 ⟨150, 22, 150, 28⟩) ⟨150, 7, 150, 28⟩) (.cons (.ret (.bin (.var 0 ⟨151, 15, 151, 30⟩) .Add (.list (.cons (.sub (.var 0 ⟨151, 34, 151, 49⟩) (.bin (.bin (.blt .len (.cons (.var 0 ⟨151, 54, 151, 69⟩) .nil) ⟨151, 50, 151, 53⟩ ⟨151, 50, 151, 70⟩) .Sub (.lit (.int 1) 0 ⟨151, 73, 151, 74⟩) ⟨151, 50, 151, 74⟩) .Sub (.sub (.var 1 ⟨151, 77, 151, 85⟩) (.lit (.int 1) 0 ⟨151, 86, 151, 87⟩) ⟨151, 77, 151, 88⟩) ⟨151, 50, 151, 88⟩) ⟨151, 34, 151, 89⟩) .nil) ⟨151, 33, 151, 90⟩) ⟨151, 15, 151, 90⟩) ⟨151, 8, 151, 90⟩)
    .nil) .nil ⟨150, 4, 151, 90⟩)
    (.cons (.ite (.cmp (.sub (.var 1 ⟨152, 7, 152, 15⟩) (.lit (.int 0) 0 ⟨152, 16, 152, 17⟩) ⟨152, 7, 152, 18⟩) .Eq (.lit (.str "swap") 0 ⟨152, 22, 152, 28⟩) ⟨152, 7, 152, 28⟩) (.cons (.ret (.bin (.var 2 ⟨153, 15, 153, 24⟩) .Add (.list (.cons (.sub (.var 0 ⟨153, 28, 153, 43⟩) (.neg (.lit (.int 1) 0 ⟨153, 45, 153, 46⟩) ⟨153, 44, 153, 46⟩) ⟨153, 28, 153, 47⟩) (.cons (.sub (.var 0 ⟨153, 49, 153, 64⟩) (.neg (.lit (.int 2) 0 ⟨153, 66, 153, 67⟩) ⟨153, 65, 153, 67⟩) ⟨153, 49, 153, 68⟩) .nil)) ⟨153, 27, 153, 69⟩) ⟨153, 15, 153, 69⟩) ⟨153, 8, 153, 69⟩)
    .nil) .nil ⟨152, 4, 153, 69⟩)
    (.cons (.ite (.cmp (.sub (.var 1 ⟨154, 7, 154, 15⟩) (.lit (.int 0) 0 ⟨154, 16, 154, 17⟩) ⟨154, 7, 154, 18⟩) .Eq (.lit (.str "drop") 0 ⟨154, 22, 154, 28⟩) ⟨154, 7, 154, 28⟩) (.cons (.ret (.var 2 ⟨155, 15, 155, 24⟩) ⟨155, 8, 155, 24⟩)
    .nil) .nil ⟨154, 4, 155, 24⟩)
    (.cons (.ite (.bop .Or (.cons (.cmp (.sub (.var 1 ⟨156, 7, 156, 15⟩) (.lit (.int 0) 0 ⟨156, 16, 156, 17⟩) ⟨156, 7, 156, 18⟩) .Eq (.lit (.str "text") 0 ⟨156, 22, 156, 28⟩) ⟨156, 7, 156, 28⟩) (.cons (.cmp (.sub (.var 1 ⟨156, 32, 156, 40⟩) (.lit (.int 0) 0 ⟨156, 41, 156, 42⟩) ⟨156, 32, 156, 43⟩) .Eq (.lit (.str "join") 0 ⟨156, 47, 156, 53⟩) ⟨156, 32, 156, 53⟩) (.cons (.cmp (.sub (.var 1 ⟨156, 57, 156, 65⟩) (.lit (.int 0) 0 ⟨156, 66, 156, 67⟩) ⟨156, 57, 156, 68⟩) .Eq (.lit (.str "show") 0 ⟨156, 72, 156, 78⟩) ⟨156, 57, 156, 78⟩) .nil))) ⟨156, 7, 156, 78⟩) (.cons (.ret (.bin (.var 2 ⟨157, 15, 157, 24⟩) .Add (.list (.cons (.lit (.str "text") 0 ⟨157, 28, 157, 34⟩) .nil) ⟨157, 27, 157, 35⟩) ⟨157, 15, 157, 35⟩) ⟨157, 8, 157, 35⟩)
    .nil) .nil ⟨156, 4, 157, 35⟩)
    (.cons (.ret (.bin (.var 2 ⟨158, 11, 158, 20⟩) .Add (.list (.cons (.lit (.str "num") 0 ⟨158, 24, 158, 29⟩) .nil) ⟨158, 23, 158, 30⟩) ⟨158, 11, 158, 30⟩) ⟨158, 4, 158, 30⟩)
    .nil))))))
noncomputable def S_law_plainly : Scope := {
              kind := PySem.ScopeKind.function,
              names := [
                (PySem.Str.ofString "_law_kinds_here", PySem.NameKind.local),
                (PySem.Str.ofString "_law_row", PySem.NameKind.local),
                (PySem.Str.ofString "_law_left", PySem.NameKind.local),
                (PySem.Str.ofString "len", PySem.NameKind.globalImplicit),
                (PySem.Str.ofString "_law_wanted", PySem.NameKind.globalImplicit)],
              isGenerator := false,
              isCoroutine := false,
              more := [] : PySem.Scope }

noncomputable def N_law_called : List Str := ["_law_told_here", "_law_kinds_here", "_law_name", "_law_ins", "_law_word"]
noncomputable def B_law_called : ASs :=
    (.cons (.assign 3 ⟨160, 4, 160, 12⟩ (.blt .list (.cons (.sub (.sub (.var 0 ⟨160, 20, 160, 34⟩) (.var 2 ⟨160, 35, 160, 44⟩) ⟨160, 20, 160, 45⟩) (.lit (.int 0) 0 ⟨160, 46, 160, 47⟩) ⟨160, 20, 160, 48⟩) .nil) ⟨160, 15, 160, 19⟩ ⟨160, 15, 160, 49⟩) ⟨160, 4, 160, 49⟩)
    (.cons (.assign 4 ⟨161, 4, 161, 13⟩ (.call "_law_lack" (.cons (.var 1 ⟨161, 26, 161, 41⟩) (.cons (.var 3 ⟨161, 43, 161, 51⟩) .nil)) ⟨161, 16, 161, 25⟩ ⟨161, 16, 161, 52⟩) ⟨161, 4, 161, 52⟩)
    (.cons (.ite (.cmp (.var 4 ⟨162, 7, 162, 16⟩) .NotEq (.lit (.str "") 0 ⟨162, 20, 162, 22⟩) ⟨162, 7, 162, 22⟩) (.cons (.ret (.tup (.cons (.var 4 ⟨163, 16, 163, 25⟩) (.cons (.var 1 ⟨163, 27, 163, 42⟩) .nil)) 0 ⟨163, 15, 163, 43⟩) ⟨163, 8, 163, 43⟩)
    .nil) .nil ⟨162, 4, 163, 43⟩)
    (.cons (.ret (.tup (.cons (.lit (.str "") 0 ⟨164, 12, 164, 14⟩) (.cons (.bin (.sto (.var 1 ⟨164, 16, 164, 31⟩) (.bin (.blt .len (.cons (.var 1 ⟨164, 37, 164, 52⟩) .nil) ⟨164, 33, 164, 36⟩ ⟨164, 33, 164, 53⟩) .Sub (.blt .len (.cons (.var 3 ⟨164, 60, 164, 68⟩) .nil) ⟨164, 56, 164, 59⟩ ⟨164, 56, 164, 69⟩) ⟨164, 33, 164, 69⟩) ⟨164, 32, 164, 69⟩ ⟨164, 16, 164, 70⟩) .Add (.blt .list (.cons (.sub (.sub (.var 0 ⟨164, 78, 164, 92⟩) (.var 2 ⟨164, 93, 164, 102⟩) ⟨164, 78, 164, 103⟩) (.lit (.int 1) 0 ⟨164, 104, 164, 105⟩) ⟨164, 78, 164, 106⟩) .nil) ⟨164, 73, 164, 77⟩ ⟨164, 73, 164, 107⟩) ⟨164, 16, 164, 107⟩) .nil)) 0 ⟨164, 11, 164, 108⟩) ⟨164, 4, 164, 108⟩)
    .nil))))
noncomputable def S_law_called : Scope := {
              kind := PySem.ScopeKind.function,
              names := [
                (PySem.Str.ofString "_law_told_here", PySem.NameKind.local),
                (PySem.Str.ofString "_law_kinds_here", PySem.NameKind.local),
                (PySem.Str.ofString "_law_name", PySem.NameKind.local),
                (PySem.Str.ofString "_law_ins", PySem.NameKind.local),
                (PySem.Str.ofString "_law_word", PySem.NameKind.local),
                (PySem.Str.ofString "list", PySem.NameKind.globalImplicit),
                (PySem.Str.ofString "_law_lack", PySem.NameKind.globalImplicit),
                (PySem.Str.ofString "len", PySem.NameKind.globalImplicit)],
              isGenerator := false,
              isCoroutine := false,
              more := [] : PySem.Scope }

noncomputable def N_law_next : List Str := ["_law_told_here", "_law_kinds_here", "_law_row", "_law_word"]
noncomputable def B_law_next : ASs :=
    (.cons (.ite (.cmp (.sub (.var 2 ⟨166, 7, 166, 15⟩) (.lit (.int 0) 0 ⟨166, 16, 166, 17⟩) ⟨166, 7, 166, 18⟩) .Eq (.lit (.str "call") 0 ⟨166, 22, 166, 28⟩) ⟨166, 7, 166, 28⟩) (.cons (.ite (.cmp (.sub (.var 2 ⟨167, 11, 167, 19⟩) (.lit (.int 1) 0 ⟨167, 20, 167, 21⟩) ⟨167, 11, 167, 22⟩) .NotIn (.var 0 ⟨167, 30, 167, 44⟩) ⟨167, 11, 167, 44⟩) (.cons (.ret (.tup (.cons (.lit (.str "block") 0 ⟨168, 20, 168, 27⟩) (.cons (.var 1 ⟨168, 29, 168, 44⟩) .nil)) 0 ⟨168, 19, 168, 45⟩) ⟨168, 12, 168, 45⟩)
    .nil) .nil ⟨167, 8, 168, 45⟩)
    (.cons (.ret (.call "_law_called" (.cons (.var 0 ⟨169, 27, 169, 41⟩) (.cons (.var 1 ⟨169, 43, 169, 58⟩) (.cons (.sub (.var 2 ⟨169, 60, 169, 68⟩) (.lit (.int 1) 0 ⟨169, 69, 169, 70⟩) ⟨169, 60, 169, 71⟩) .nil))) ⟨169, 15, 169, 26⟩ ⟨169, 15, 169, 72⟩) ⟨169, 8, 169, 72⟩)
    .nil)) .nil ⟨166, 4, 169, 72⟩)
    (.cons (.ite (.cmp (.sub (.var 2 ⟨170, 7, 170, 15⟩) (.lit (.int 0) 0 ⟨170, 16, 170, 17⟩) ⟨170, 7, 170, 18⟩) .Eq (.lit (.str "if") 0 ⟨170, 22, 170, 26⟩) ⟨170, 7, 170, 26⟩) (.cons (.assign 3 ⟨171, 8, 171, 17⟩ (.call "_law_lack" (.cons (.var 1 ⟨171, 30, 171, 45⟩) (.cons (.list (.cons (.lit (.str "num") 0 ⟨171, 48, 171, 53⟩) .nil) ⟨171, 47, 171, 54⟩) .nil)) ⟨171, 20, 171, 29⟩ ⟨171, 20, 171, 55⟩) ⟨171, 8, 171, 55⟩)
    (.cons (.ite (.cmp (.var 3 ⟨172, 11, 172, 20⟩) .NotEq (.lit (.str "") 0 ⟨172, 24, 172, 26⟩) ⟨172, 11, 172, 26⟩) (.cons (.ret (.tup (.cons (.var 3 ⟨173, 20, 173, 29⟩) (.cons (.var 1 ⟨173, 31, 173, 46⟩) .nil)) 0 ⟨173, 19, 173, 47⟩) ⟨173, 12, 173, 47⟩)
    .nil) .nil ⟨172, 8, 173, 47⟩)
    (.cons (.ite (.bop .Or (.cons (.cmp (.sub (.var 2 ⟨174, 11, 174, 19⟩) (.lit (.int 1) 0 ⟨174, 20, 174, 21⟩) ⟨174, 11, 174, 22⟩) .NotIn (.var 0 ⟨174, 30, 174, 44⟩) ⟨174, 11, 174, 44⟩) (.cons (.cmp (.sub (.var 2 ⟨174, 48, 174, 56⟩) (.lit (.int 2) 0 ⟨174, 57, 174, 58⟩) ⟨174, 48, 174, 59⟩) .NotIn (.var 0 ⟨174, 67, 174, 81⟩) ⟨174, 48, 174, 81⟩) .nil)) ⟨174, 11, 174, 81⟩) (.cons (.ret (.tup (.cons (.lit (.str "block") 0 ⟨175, 20, 175, 27⟩) (.cons (.var 1 ⟨175, 29, 175, 44⟩) .nil)) 0 ⟨175, 19, 175, 45⟩) ⟨175, 12, 175, 45⟩)
    .nil) .nil ⟨174, 8, 175, 45⟩)
    (.cons (.ite (.bop .Or (.cons (.cmp (.sub (.sub (.var 0 ⟨176, 11, 176, 25⟩) (.sub (.var 2 ⟨176, 26, 176, 34⟩) (.lit (.int 1) 0 ⟨176, 35, 176, 36⟩) ⟨176, 26, 176, 37⟩) ⟨176, 11, 176, 38⟩) (.lit (.int 0) 0 ⟨176, 39, 176, 40⟩) ⟨176, 11, 176, 41⟩) .NotEq (.sub (.sub (.var 0 ⟨176, 45, 176, 59⟩) (.sub (.var 2 ⟨176, 60, 176, 68⟩) (.lit (.int 2) 0 ⟨176, 69, 176, 70⟩) ⟨176, 60, 176, 71⟩) ⟨176, 45, 176, 72⟩) (.lit (.int 0) 0 ⟨176, 73, 176, 74⟩) ⟨176, 45, 176, 75⟩) ⟨176, 11, 176, 75⟩) (.cons (.cmp (.sub (.sub (.var 0 ⟨176, 79, 176, 93⟩) (.sub (.var 2 ⟨176, 94, 176, 102⟩) (.lit (.int 1) 0 ⟨176, 103, 176, 104⟩) ⟨176, 94, 176, 105⟩) ⟨176, 79, 176, 106⟩) (.lit (.int 1) 0 ⟨176, 107, 176, 108⟩) ⟨176, 79, 176, 109⟩) .NotEq (.sub (.sub (.var 0 ⟨176, 113, 176, 127⟩) (.sub (.var 2 ⟨176, 128, 176, 136⟩) (.lit (.int 2) 0 ⟨176, 137, 176, 138⟩) ⟨176, 128, 176, 139⟩) ⟨176, 113, 176, 140⟩) (.lit (.int 1) 0 ⟨176, 141, 176, 142⟩) ⟨176, 113, 176, 143⟩) ⟨176, 79, 176, 143⟩) .nil)) ⟨176, 11, 176, 143⟩) (.cons (.ret (.tup (.cons (.lit (.str "apart") 0 ⟨177, 20, 177, 27⟩) (.cons (.var 1 ⟨177, 29, 177, 44⟩) .nil)) 0 ⟨177, 19, 177, 45⟩) ⟨177, 12, 177, 45⟩)
    .nil) .nil ⟨176, 8, 177, 45⟩)
    (.cons (.ret (.call "_law_called" (.cons (.var 0 ⟨178, 27, 178, 41⟩) (.cons (.sto (.var 1 ⟨178, 43, 178, 58⟩) (.neg (.lit (.int 1) 0 ⟨178, 61, 178, 62⟩) ⟨178, 60, 178, 62⟩) ⟨178, 59, 178, 62⟩ ⟨178, 43, 178, 63⟩) (.cons (.sub (.var 2 ⟨178, 65, 178, 73⟩) (.lit (.int 1) 0 ⟨178, 74, 178, 75⟩) ⟨178, 65, 178, 76⟩) .nil))) ⟨178, 15, 178, 26⟩ ⟨178, 15, 178, 77⟩) ⟨178, 8, 178, 77⟩)
    .nil))))) .nil ⟨170, 4, 178, 77⟩)
    (.cons (.assign 3 ⟨179, 4, 179, 13⟩ (.call "_law_lack" (.cons (.var 1 ⟨179, 26, 179, 41⟩) (.cons (.call "_law_wanted" (.cons (.var 2 ⟨179, 55, 179, 63⟩) .nil) ⟨179, 43, 179, 54⟩ ⟨179, 43, 179, 64⟩) .nil)) ⟨179, 16, 179, 25⟩ ⟨179, 16, 179, 65⟩) ⟨179, 4, 179, 65⟩)
    (.cons (.ite (.cmp (.var 3 ⟨180, 7, 180, 16⟩) .NotEq (.lit (.str "") 0 ⟨180, 20, 180, 22⟩) ⟨180, 7, 180, 22⟩) (.cons (.ret (.tup (.cons (.var 3 ⟨181, 16, 181, 25⟩) (.cons (.var 1 ⟨181, 27, 181, 42⟩) .nil)) 0 ⟨181, 15, 181, 43⟩) ⟨181, 8, 181, 43⟩)
    .nil) .nil ⟨180, 4, 181, 43⟩)
    (.cons (.ret (.tup (.cons (.lit (.str "") 0 ⟨182, 12, 182, 14⟩) (.cons (.call "_law_plainly" (.cons (.var 1 ⟨182, 29, 182, 44⟩) (.cons (.var 2 ⟨182, 46, 182, 54⟩) .nil)) ⟨182, 16, 182, 28⟩ ⟨182, 16, 182, 55⟩) .nil)) 0 ⟨182, 11, 182, 56⟩) ⟨182, 4, 182, 56⟩)
    .nil)))))
noncomputable def S_law_next : Scope := {
              kind := PySem.ScopeKind.function,
              names := [
                (PySem.Str.ofString "_law_told_here", PySem.NameKind.local),
                (PySem.Str.ofString "_law_kinds_here", PySem.NameKind.local),
                (PySem.Str.ofString "_law_row", PySem.NameKind.local),
                (PySem.Str.ofString "_law_word", PySem.NameKind.local),
                (PySem.Str.ofString "_law_called", PySem.NameKind.globalImplicit),
                (PySem.Str.ofString "_law_lack", PySem.NameKind.globalImplicit),
                (PySem.Str.ofString "_law_wanted", PySem.NameKind.globalImplicit),
                (PySem.Str.ofString "_law_plainly", PySem.NameKind.globalImplicit)],
              isGenerator := false,
              isCoroutine := false,
              more := [] : PySem.Scope }

noncomputable def N_law_plain_row : List Str := ["_law_script", "_law_tape", "_law_some", "_law_word"]
noncomputable def B_law_plain_row : ASs :=
    (.cons (.assign 2 ⟨184, 4, 184, 13⟩ (.list (.cons (.lit (.str "num") 0 ⟨184, 17, 184, 22⟩) (.cons (.lit (.str "text") 0 ⟨184, 24, 184, 30⟩) (.cons (.lit (.str "add") 0 ⟨184, 32, 184, 37⟩) (.cons (.lit (.str "mul") 0 ⟨184, 39, 184, 44⟩) (.cons (.lit (.str "less") 0 ⟨184, 46, 184, 52⟩) (.cons (.lit (.str "join") 0 ⟨184, 54, 184, 60⟩) (.cons (.lit (.str "long") 0 ⟨184, 62, 184, 68⟩) (.cons (.lit (.str "show") 0 ⟨184, 70, 184, 76⟩) (.cons (.lit (.str "swap") 0 ⟨184, 78, 184, 84⟩) (.cons (.lit (.str "drop") 0 ⟨184, 86, 184, 92⟩) (.cons (.lit (.str "copy") 0 ⟨184, 94, 184, 100⟩) (.cons (.lit (.str "copy") 0 ⟨184, 102, 184, 108⟩) (.cons (.lit (.str "copy") 0 ⟨184, 110, 184, 116⟩) .nil))))))))))))) ⟨184, 16, 184, 117⟩) ⟨184, 4, 184, 117⟩)
    (.cons (.assign 3 ⟨185, 4, 185, 13⟩ (.sub (.var 2 ⟨185, 16, 185, 25⟩) (.call "_law_draw" (.cons (.var 0 ⟨185, 36, 185, 47⟩) (.cons (.var 1 ⟨185, 49, 185, 58⟩) (.cons (.lit (.int 13) 0 ⟨185, 60, 185, 62⟩) .nil))) ⟨185, 26, 185, 35⟩ ⟨185, 26, 185, 63⟩) ⟨185, 16, 185, 64⟩) ⟨185, 4, 185, 64⟩)
    (.cons (.ite (.bop .Or (.cons (.cmp (.var 3 ⟨186, 7, 186, 16⟩) .Eq (.lit (.str "num") 0 ⟨186, 20, 186, 25⟩) ⟨186, 7, 186, 25⟩) (.cons (.cmp (.var 3 ⟨186, 29, 186, 38⟩) .Eq (.lit (.str "text") 0 ⟨186, 42, 186, 48⟩) ⟨186, 29, 186, 48⟩) .nil)) ⟨186, 7, 186, 48⟩) (.cons (.ret (.tup (.cons (.var 3 ⟨187, 16, 187, 25⟩) (.cons (.call "_law_value" (.cons (.var 0 ⟨187, 38, 187, 49⟩) (.cons (.var 1 ⟨187, 51, 187, 60⟩) (.cons (.var 3 ⟨187, 62, 187, 71⟩) .nil))) ⟨187, 27, 187, 37⟩ ⟨187, 27, 187, 72⟩) .nil)) 0 ⟨187, 15, 187, 73⟩) ⟨187, 8, 187, 73⟩)
    .nil) .nil ⟨186, 4, 187, 73⟩)
    (.cons (.ite (.cmp (.var 3 ⟨188, 7, 188, 16⟩) .Eq (.lit (.str "copy") 0 ⟨188, 20, 188, 26⟩) ⟨188, 7, 188, 26⟩) (.cons (.ret (.tup (.cons (.var 3 ⟨189, 16, 189, 25⟩) (.cons (.sub (.list (.cons (.lit (.int 0) 0 ⟨189, 28, 189, 29⟩) (.cons (.lit (.int 0) 0 ⟨189, 31, 189, 32⟩) (.cons (.lit (.int 1) 0 ⟨189, 34, 189, 35⟩) (.cons (.lit (.int 1) 0 ⟨189, 37, 189, 38⟩) (.cons (.lit (.int 2) 0 ⟨189, 40, 189, 41⟩) (.cons (.lit (.int 3) 0 ⟨189, 43, 189, 44⟩) (.cons (.call "_law_draw" (.cons (.var 0 ⟨189, 56, 189, 67⟩) (.cons (.var 1 ⟨189, 69, 189, 78⟩) (.cons (.lit (.int 61) 0 ⟨189, 80, 189, 82⟩) .nil))) ⟨189, 46, 189, 55⟩ ⟨189, 46, 189, 83⟩) (.cons (.lit (.int 60) 0 ⟨189, 85, 189, 87⟩) .nil)))))))) ⟨189, 27, 189, 88⟩) (.call "_law_draw" (.cons (.var 0 ⟨189, 99, 189, 110⟩) (.cons (.var 1 ⟨189, 112, 189, 121⟩) (.cons (.lit (.int 8) 0 ⟨189, 123, 189, 124⟩) .nil))) ⟨189, 89, 189, 98⟩ ⟨189, 89, 189, 125⟩) ⟨189, 27, 189, 126⟩) .nil)) 0 ⟨189, 15, 189, 127⟩) ⟨189, 8, 189, 127⟩)
    .nil) .nil ⟨188, 4, 189, 127⟩)
    (.cons (.ret (.tup (.cons (.var 3 ⟨190, 12, 190, 21⟩) .nil) 0 ⟨190, 11, 190, 23⟩) ⟨190, 4, 190, 23⟩)
    .nil)))))
noncomputable def S_law_plain_row : Scope := {
              kind := PySem.ScopeKind.function,
              names := [
                (PySem.Str.ofString "_law_script", PySem.NameKind.local),
                (PySem.Str.ofString "_law_tape", PySem.NameKind.local),
                (PySem.Str.ofString "_law_some", PySem.NameKind.local),
                (PySem.Str.ofString "_law_word", PySem.NameKind.local),
                (PySem.Str.ofString "_law_draw", PySem.NameKind.globalImplicit),
                (PySem.Str.ofString "_law_value", PySem.NameKind.globalImplicit)],
              isGenerator := false,
              isCoroutine := false,
              more := [] : PySem.Scope }

noncomputable def N_law_kinds : List Str := ["_law_script", "_law_tape", "_law_size", "_law_k"]
noncomputable def B_law_kinds : ASs :=
    (.cons (.assign 2 ⟨192, 4, 192, 13⟩ (.call "_law_draw" (.cons (.var 0 ⟨192, 26, 192, 37⟩) (.cons (.var 1 ⟨192, 39, 192, 48⟩) (.cons (.lit (.int 4) 0 ⟨192, 50, 192, 51⟩) .nil))) ⟨192, 16, 192, 25⟩ ⟨192, 16, 192, 52⟩) ⟨192, 4, 192, 52⟩)
    (.cons (.ite (.cmp (.call "_law_draw" (.cons (.var 0 ⟨193, 17, 193, 28⟩) (.cons (.var 1 ⟨193, 30, 193, 39⟩) (.cons (.lit (.int 20) 0 ⟨193, 41, 193, 43⟩) .nil))) ⟨193, 7, 193, 16⟩ ⟨193, 7, 193, 44⟩) .Eq (.lit (.int 7) 0 ⟨193, 48, 193, 49⟩) ⟨193, 7, 193, 49⟩) (.cons (.assign 2 ⟨194, 8, 194, 17⟩ (.bin (.lit (.int 4) 0 ⟨194, 20, 194, 21⟩) .Add (.bin (.var 2 ⟨194, 24, 194, 33⟩) .Mult (.lit (.int 18) 0 ⟨194, 36, 194, 38⟩) ⟨194, 24, 194, 38⟩) ⟨194, 20, 194, 38⟩) ⟨194, 8, 194, 38⟩)
    .nil) .nil ⟨193, 4, 194, 38⟩)
    (.cons (.ret (.blt .tuple (.cons (.comp (.sub (.list (.cons (.lit (.str "num") 0 ⟨195, 19, 195, 24⟩) (.cons (.lit (.str "text") 0 ⟨195, 26, 195, 32⟩) .nil)) ⟨195, 18, 195, 33⟩) (.call "_law_draw" (.cons (.var 0 ⟨195, 44, 195, 55⟩) (.cons (.var 1 ⟨195, 57, 195, 66⟩) (.cons (.lit (.int 2) 0 ⟨195, 68, 195, 69⟩) .nil))) ⟨195, 34, 195, 43⟩ ⟨195, 34, 195, 70⟩) ⟨195, 18, 195, 71⟩) 3 ⟨195, 76, 195, 82⟩ (.blt .range (.cons (.var 2 ⟨195, 92, 195, 101⟩) .nil) ⟨195, 86, 195, 91⟩ ⟨195, 86, 195, 102⟩) .nil {                           kind := PySem.ScopeKind.function,                           names := [                             (PySem.Str.ofString ".0", PySem.NameKind.local),                             (PySem.Str.ofString "_law_k", PySem.NameKind.local),                             (PySem.Str.ofString "_law_draw", PySem.NameKind.globalImplicit),                             (PySem.Str.ofString "_law_script", PySem.NameKind.free),                             (PySem.Str.ofString "_law_tape", PySem.NameKind.free)],                           isGenerator := false,                           isCoroutine := false,                           more := [] : PySem.Scope } ⟨195, 17, 195, 103⟩) .nil) ⟨195, 11, 195, 16⟩ ⟨195, 11, 195, 104⟩) ⟨195, 4, 195, 104⟩)
    .nil)))
noncomputable def S_law_kinds : Scope := {
              kind := PySem.ScopeKind.function,
              names := [
                (PySem.Str.ofString "_law_script", PySem.NameKind.cell),
                (PySem.Str.ofString "_law_tape", PySem.NameKind.cell),
                (PySem.Str.ofString "_law_size", PySem.NameKind.local),
                (PySem.Str.ofString "_law_draw", PySem.NameKind.globalImplicit),
                (PySem.Str.ofString "tuple", PySem.NameKind.globalImplicit),
                (PySem.Str.ofString "range", PySem.NameKind.globalImplicit)],
              isGenerator := false,
              isCoroutine := false,
              more := [
                (PySem.Str.ofString "fast", (PySem.Const.str "_law_script")),
                (PySem.Str.ofString "fast", (PySem.Const.str "_law_tape")),
                (PySem.Str.ofString "fast", (PySem.Const.str "_law_size")),
                (PySem.Str.ofString "fast", (PySem.Const.str "_law_k"))] : PySem.Scope }

noncomputable def N_law_told : List Str := ["_law_script", "_law_tape", "_law_count", "_law_told_here", "_law_kept", "_law_begin", "_law_midst", "_law_k", "_law_name", "_law_way"]
noncomputable def B_law_told : ASs :=
    (.cons (.assign 2 ⟨197, 4, 197, 14⟩ (.bin (.lit (.int 1) 0 ⟨197, 17, 197, 18⟩) .Add (.call "_law_draw" (.cons (.var 0 ⟨197, 31, 197, 42⟩) (.cons (.var 1 ⟨197, 44, 197, 53⟩) (.cons (.lit (.int 4) 0 ⟨197, 55, 197, 56⟩) .nil))) ⟨197, 21, 197, 30⟩ ⟨197, 21, 197, 57⟩) ⟨197, 17, 197, 57⟩) ⟨197, 4, 197, 57⟩)
    (.cons (.ite (.cmp (.call "_law_draw" (.cons (.var 0 ⟨198, 17, 198, 28⟩) (.cons (.var 1 ⟨198, 30, 198, 39⟩) (.cons (.lit (.int 12) 0 ⟨198, 41, 198, 43⟩) .nil))) ⟨198, 7, 198, 16⟩ ⟨198, 7, 198, 44⟩) .Eq (.lit (.int 5) 0 ⟨198, 48, 198, 49⟩) ⟨198, 7, 198, 49⟩) (.cons (.assign 2 ⟨199, 8, 199, 18⟩ (.bin (.lit (.int 6) 0 ⟨199, 21, 199, 22⟩) .Add (.call "_law_draw" (.cons (.var 0 ⟨199, 35, 199, 46⟩) (.cons (.var 1 ⟨199, 48, 199, 57⟩) (.cons (.lit (.int 6) 0 ⟨199, 59, 199, 60⟩) .nil))) ⟨199, 25, 199, 34⟩ ⟨199, 25, 199, 61⟩) ⟨199, 21, 199, 61⟩) ⟨199, 8, 199, 61⟩)
    .nil) .nil ⟨198, 4, 199, 61⟩)
    (.cons (.assign 3 ⟨200, 4, 200, 18⟩ (.dict [] .nil ⟨200, 21, 200, 23⟩) ⟨200, 4, 200, 23⟩)
    (.cons (.assign 4 ⟨201, 4, 201, 13⟩ (.tup (.cons (.tup (.cons (.lit (.str "num") 0 ⟨201, 18, 201, 23⟩) .nil) 0 ⟨201, 17, 201, 25⟩) (.cons (.tup (.cons (.lit (.str "num") 0 ⟨201, 28, 201, 33⟩) .nil) 0 ⟨201, 27, 201, 35⟩) .nil)) 0 ⟨201, 16, 201, 36⟩) ⟨201, 4, 201, 36⟩)
    (.cons (.assign 5 ⟨202, 4, 202, 14⟩ (.call "_law_words" (.cons (.call "_law_draw" (.cons (.var 0 ⟨202, 38, 202, 49⟩) (.cons (.var 1 ⟨202, 51, 202, 60⟩) (.cons (.lit (.int 1000) 0 ⟨202, 62, 202, 66⟩) .nil))) ⟨202, 28, 202, 37⟩ ⟨202, 28, 202, 67⟩) (.cons (.sub (.list (.cons (.lit (.int 0) 0 ⟨202, 70, 202, 71⟩) (.cons (.lit (.int 2) 0 ⟨202, 73, 202, 74⟩) (.cons (.lit (.int 50) 0 ⟨202, 76, 202, 78⟩) .nil))) ⟨202, 69, 202, 79⟩) (.call "_law_draw" (.cons (.var 0 ⟨202, 90, 202, 101⟩) (.cons (.var 1 ⟨202, 103, 202, 112⟩) (.cons (.lit (.int 3) 0 ⟨202, 114, 202, 115⟩) .nil))) ⟨202, 80, 202, 89⟩ ⟨202, 80, 202, 116⟩) ⟨202, 69, 202, 117⟩) .nil)) ⟨202, 17, 202, 27⟩ ⟨202, 17, 202, 118⟩) ⟨202, 4, 202, 118⟩)
    (.cons (.assign 6 ⟨203, 4, 203, 14⟩ (.call "_law_draw" (.cons (.var 0 ⟨203, 27, 203, 38⟩) (.cons (.var 1 ⟨203, 40, 203, 49⟩) (.cons (.lit (.int 2) 0 ⟨203, 51, 203, 52⟩) .nil))) ⟨203, 17, 203, 26⟩ ⟨203, 17, 203, 53⟩) ⟨203, 4, 203, 53⟩)
    (.cons (.for 7 ⟨204, 8, 204, 14⟩ (.blt .range (.cons (.var 2 ⟨204, 24, 204, 34⟩) .nil) ⟨204, 18, 204, 23⟩ ⟨204, 18, 204, 35⟩) (.cons (.assign 8 ⟨205, 8, 205, 17⟩ (.bin (.bin (.var 5 ⟨205, 20, 205, 30⟩) .Add (.call "_law_words" (.cons (.call "_law_draw" (.cons (.var 0 ⟨205, 54, 205, 65⟩) (.cons (.var 1 ⟨205, 67, 205, 76⟩) (.cons (.lit (.int 1000000) 0 ⟨205, 78, 205, 85⟩) .nil))) ⟨205, 44, 205, 53⟩ ⟨205, 44, 205, 86⟩) (.cons (.call "_law_draw" (.cons (.var 0 ⟨205, 98, 205, 109⟩) (.cons (.var 1 ⟨205, 111, 205, 120⟩) (.cons (.lit (.int 4) 0 ⟨205, 122, 205, 123⟩) .nil))) ⟨205, 88, 205, 97⟩ ⟨205, 88, 205, 124⟩) .nil)) ⟨205, 33, 205, 43⟩ ⟨205, 33, 205, 125⟩) ⟨205, 20, 205, 125⟩) .Add (.sub (.lit (.str "abcdefghijkl") 0 ⟨205, 128, 205, 142⟩) (.var 7 ⟨205, 143, 205, 149⟩) ⟨205, 128, 205, 150⟩) ⟨205, 20, 205, 150⟩) ⟨205, 8, 205, 150⟩)
    (.cons (.ite (.cmp (.var 6 ⟨206, 11, 206, 21⟩) .Eq (.lit (.int 1) 0 ⟨206, 25, 206, 26⟩) ⟨206, 11, 206, 26⟩) (.cons (.assign 8 ⟨207, 12, 207, 21⟩ (.bin (.bin (.var 5 ⟨207, 24, 207, 34⟩) .Add (.sub (.lit (.str "abcdefghijkl") 0 ⟨207, 37, 207, 51⟩) (.var 7 ⟨207, 52, 207, 58⟩) ⟨207, 37, 207, 59⟩) ⟨207, 24, 207, 59⟩) .Add (.var 5 ⟨207, 62, 207, 72⟩) ⟨207, 24, 207, 72⟩) ⟨207, 12, 207, 72⟩)
    .nil) .nil ⟨206, 8, 207, 72⟩)
    (.cons (.assign 9 ⟨208, 8, 208, 16⟩ (.call "_law_draw" (.cons (.var 0 ⟨208, 29, 208, 40⟩) (.cons (.var 1 ⟨208, 42, 208, 51⟩) (.cons (.lit (.int 5) 0 ⟨208, 53, 208, 54⟩) .nil))) ⟨208, 19, 208, 28⟩ ⟨208, 19, 208, 55⟩) ⟨208, 8, 208, 55⟩)
    (.cons (.ite (.bop .Or (.cons (.cmp (.var 7 ⟨209, 11, 209, 17⟩) .Eq (.lit (.int 0) 0 ⟨209, 21, 209, 22⟩) ⟨209, 11, 209, 22⟩) (.cons (.cmp (.var 9 ⟨209, 26, 209, 34⟩) .Eq (.lit (.int 0) 0 ⟨209, 38, 209, 39⟩) ⟨209, 26, 209, 39⟩) .nil)) ⟨209, 11, 209, 39⟩) (.cons (.assign 4 ⟨210, 12, 210, 21⟩ (.tup (.cons (.call "_law_kinds" (.cons (.var 0 ⟨210, 36, 210, 47⟩) (.cons (.var 1 ⟨210, 49, 210, 58⟩) .nil)) ⟨210, 25, 210, 35⟩ ⟨210, 25, 210, 59⟩) (.cons (.call "_law_kinds" (.cons (.var 0 ⟨210, 72, 210, 83⟩) (.cons (.var 1 ⟨210, 85, 210, 94⟩) .nil)) ⟨210, 61, 210, 71⟩ ⟨210, 61, 210, 95⟩) .nil)) 0 ⟨210, 24, 210, 96⟩) ⟨210, 12, 210, 96⟩)
    .nil) .nil ⟨209, 8, 210, 96⟩)
    (.cons (.ite (.bop .Or (.cons (.cmp (.var 9 ⟨211, 11, 211, 19⟩) .Eq (.lit (.int 1) 0 ⟨211, 23, 211, 24⟩) ⟨211, 11, 211, 24⟩) (.cons (.cmp (.var 9 ⟨211, 28, 211, 36⟩) .Eq (.lit (.int 2) 0 ⟨211, 40, 211, 41⟩) ⟨211, 28, 211, 41⟩) .nil)) ⟨211, 11, 211, 41⟩) (.cons (.assign 4 ⟨212, 12, 212, 21⟩ (.tup (.cons (.sub (.var 4 ⟨212, 25, 212, 34⟩) (.lit (.int 0) 0 ⟨212, 35, 212, 36⟩) ⟨212, 25, 212, 37⟩) (.cons (.call "_law_kinds" (.cons (.var 0 ⟨212, 50, 212, 61⟩) (.cons (.var 1 ⟨212, 63, 212, 72⟩) .nil)) ⟨212, 39, 212, 49⟩ ⟨212, 39, 212, 73⟩) .nil)) 0 ⟨212, 24, 212, 74⟩) ⟨212, 12, 212, 74⟩)
    .nil) .nil ⟨211, 8, 212, 74⟩)
    (.cons (.store (.var 3 ⟨213, 8, 213, 22⟩) (.var 8 ⟨213, 23, 213, 32⟩) ⟨213, 8, 213, 33⟩ (.var 4 ⟨213, 36, 213, 45⟩) ⟨213, 8, 213, 45⟩)
    .nil)))))) ⟨204, 4, 213, 45⟩)
    (.cons (.ret (.var 3 ⟨214, 11, 214, 25⟩) ⟨214, 4, 214, 25⟩)
    .nil))))))))
noncomputable def S_law_told : Scope := {
              kind := PySem.ScopeKind.function,
              names := [
                (PySem.Str.ofString "_law_script", PySem.NameKind.local),
                (PySem.Str.ofString "_law_tape", PySem.NameKind.local),
                (PySem.Str.ofString "_law_count", PySem.NameKind.local),
                (PySem.Str.ofString "_law_told_here", PySem.NameKind.local),
                (PySem.Str.ofString "_law_kept", PySem.NameKind.local),
                (PySem.Str.ofString "_law_begin", PySem.NameKind.local),
                (PySem.Str.ofString "_law_midst", PySem.NameKind.local),
                (PySem.Str.ofString "_law_k", PySem.NameKind.local),
                (PySem.Str.ofString "_law_name", PySem.NameKind.local),
                (PySem.Str.ofString "_law_way", PySem.NameKind.local),
                (PySem.Str.ofString "_law_draw", PySem.NameKind.globalImplicit),
                (PySem.Str.ofString "_law_words", PySem.NameKind.globalImplicit),
                (PySem.Str.ofString "range", PySem.NameKind.globalImplicit),
                (PySem.Str.ofString "_law_kinds", PySem.NameKind.globalImplicit)],
              isGenerator := false,
              isCoroutine := false,
              more := [] : PySem.Scope }

noncomputable def N_law_pushes : List Str := ["_law_script", "_law_tape", "_law_kinds_here", "_law_kind"]
noncomputable def B_law_pushes : ASs :=
    (.cons (.ret (.comp (.tup (.cons (.var 3 ⟨216, 13, 216, 22⟩) (.cons (.call "_law_value" (.cons (.var 0 ⟨216, 35, 216, 46⟩) (.cons (.var 1 ⟨216, 48, 216, 57⟩) (.cons (.var 3 ⟨216, 59, 216, 68⟩) .nil))) ⟨216, 24, 216, 34⟩ ⟨216, 24, 216, 69⟩) .nil)) 0 ⟨216, 12, 216, 70⟩) 3 ⟨216, 75, 216, 84⟩ (.var 2 ⟨216, 88, 216, 103⟩) .nil {                       kind := PySem.ScopeKind.function,                       names := [                         (PySem.Str.ofString ".0", PySem.NameKind.local),                         (PySem.Str.ofString "_law_kind", PySem.NameKind.local),                         (PySem.Str.ofString "_law_value", PySem.NameKind.globalImplicit),                         (PySem.Str.ofString "_law_script", PySem.NameKind.free),                         (PySem.Str.ofString "_law_tape", PySem.NameKind.free)],                       isGenerator := false,                       isCoroutine := false,                       more := [] : PySem.Scope } ⟨216, 11, 216, 104⟩) ⟨216, 4, 216, 104⟩)
    .nil)
noncomputable def S_law_pushes : Scope := {
              kind := PySem.ScopeKind.function,
              names := [
                (PySem.Str.ofString "_law_script", PySem.NameKind.cell),
                (PySem.Str.ofString "_law_tape", PySem.NameKind.cell),
                (PySem.Str.ofString "_law_kinds_here", PySem.NameKind.local)],
              isGenerator := false,
              isCoroutine := false,
              more := [
                (PySem.Str.ofString "fast", (PySem.Const.str "_law_script")),
                (PySem.Str.ofString "fast", (PySem.Const.str "_law_tape")),
                (PySem.Str.ofString "fast", (PySem.Const.str "_law_kinds_here")),
                (PySem.Str.ofString "fast", (PySem.Const.str "_law_kind"))] : PySem.Scope }

noncomputable def N_law_choice : List Str := ["_law_script", "_law_tape", "_law_told_here", "_law_names", "_law_kinds_here", "_law_name", "_law_other", "_law_like", "_law_value_here", "_law_other"]
noncomputable def B_law_choice : ASs :=
    (.cons (.assign 5 ⟨218, 4, 218, 13⟩ (.sub (.var 3 ⟨218, 16, 218, 26⟩) (.call "_law_draw" (.cons (.var 0 ⟨218, 37, 218, 48⟩) (.cons (.var 1 ⟨218, 50, 218, 59⟩) (.cons (.blt .len (.cons (.var 3 ⟨218, 65, 218, 75⟩) .nil) ⟨218, 61, 218, 64⟩ ⟨218, 61, 218, 76⟩) .nil))) ⟨218, 27, 218, 36⟩ ⟨218, 27, 218, 77⟩) ⟨218, 16, 218, 78⟩) ⟨218, 4, 218, 78⟩)
    (.cons (.ite (.cmp (.call "_law_draw" (.cons (.var 0 ⟨219, 17, 219, 28⟩) (.cons (.var 1 ⟨219, 30, 219, 39⟩) (.cons (.lit (.int 2) 0 ⟨219, 41, 219, 42⟩) .nil))) ⟨219, 7, 219, 16⟩ ⟨219, 7, 219, 43⟩) .Eq (.lit (.int 0) 0 ⟨219, 47, 219, 48⟩) ⟨219, 7, 219, 48⟩) (.cons (.ite (.bop .And (.cons (.cmp (.call "_law_lack" (.cons (.var 4 ⟨220, 21, 220, 36⟩) (.cons (.blt .list (.cons (.sub (.sub (.var 2 ⟨220, 43, 220, 57⟩) (.var 5 ⟨220, 58, 220, 67⟩) ⟨220, 43, 220, 68⟩) (.lit (.int 0) 0 ⟨220, 69, 220, 70⟩) ⟨220, 43, 220, 71⟩) .nil) ⟨220, 38, 220, 42⟩ ⟨220, 38, 220, 72⟩) .nil)) ⟨220, 11, 220, 20⟩ ⟨220, 11, 220, 73⟩) .Eq (.lit (.str "") 0 ⟨220, 77, 220, 79⟩) ⟨220, 11, 220, 79⟩) (.cons (.cmp (.call "_law_draw" (.cons (.var 0 ⟨220, 94, 220, 105⟩) (.cons (.var 1 ⟨220, 107, 220, 116⟩) (.cons (.lit (.int 2) 0 ⟨220, 118, 220, 119⟩) .nil))) ⟨220, 84, 220, 93⟩ ⟨220, 84, 220, 120⟩) .Eq (.lit (.int 0) 0 ⟨220, 124, 220, 125⟩) ⟨220, 84, 220, 125⟩) .nil)) ⟨220, 11, 220, 125⟩) (.cons (.ret (.list (.cons (.tup (.cons (.lit (.str "call") 0 ⟨221, 21, 221, 27⟩) (.cons (.var 5 ⟨221, 29, 221, 38⟩) .nil)) 0 ⟨221, 20, 221, 39⟩) .nil) ⟨221, 19, 221, 40⟩) ⟨221, 12, 221, 40⟩)
    .nil) .nil ⟨220, 8, 221, 40⟩)
    (.cons (.ret (.bin (.call "_law_pushes" (.cons (.var 0 ⟨222, 27, 222, 38⟩) (.cons (.var 1 ⟨222, 40, 222, 49⟩) (.cons (.sub (.sub (.var 2 ⟨222, 51, 222, 65⟩) (.var 5 ⟨222, 66, 222, 75⟩) ⟨222, 51, 222, 76⟩) (.lit (.int 0) 0 ⟨222, 77, 222, 78⟩) ⟨222, 51, 222, 79⟩) .nil))) ⟨222, 15, 222, 26⟩ ⟨222, 15, 222, 80⟩) .Add (.list (.cons (.tup (.cons (.lit (.str "call") 0 ⟨222, 85, 222, 91⟩) (.cons (.var 5 ⟨222, 93, 222, 102⟩) .nil)) 0 ⟨222, 84, 222, 103⟩) .nil) ⟨222, 83, 222, 104⟩) ⟨222, 15, 222, 104⟩) ⟨222, 8, 222, 104⟩)
    .nil)) .nil ⟨219, 4, 222, 104⟩)
    (.cons (.assign 7 ⟨223, 4, 223, 13⟩ (.bin (.comp (.var 9 ⟨223, 17, 223, 27⟩) 9 ⟨223, 32, 223, 42⟩ (.var 3 ⟨223, 46, 223, 56⟩) (.cons (.bop .And (.cons (.cmp (.sub (.var 2 ⟨223, 60, 223, 74⟩) (.var 9 ⟨223, 75, 223, 85⟩) ⟨223, 60, 223, 86⟩) .Eq (.sub (.var 2 ⟨223, 90, 223, 104⟩) (.var 5 ⟨223, 105, 223, 114⟩) ⟨223, 90, 223, 115⟩) ⟨223, 60, 223, 115⟩) (.cons (.cmp (.var 9 ⟨223, 120, 223, 130⟩) .NotEq (.var 5 ⟨223, 134, 223, 143⟩) ⟨223, 120, 223, 143⟩) .nil)) ⟨223, 60, 223, 143⟩) .nil) {                       kind := PySem.ScopeKind.function,                       names := [                         (PySem.Str.ofString ".0", PySem.NameKind.local),                         (PySem.Str.ofString "_law_other", PySem.NameKind.local),                         (PySem.Str.ofString "_law_name", PySem.NameKind.free),                         (PySem.Str.ofString "_law_told_here", PySem.NameKind.free)],                       isGenerator := false,                       isCoroutine := false,                       more := [] : PySem.Scope } ⟨223, 16, 223, 144⟩) .Add (.list (.cons (.var 5 ⟨223, 148, 223, 157⟩) .nil) ⟨223, 147, 223, 158⟩) ⟨223, 16, 223, 158⟩) ⟨223, 4, 223, 158⟩)
    (.cons (.assign 6 ⟨224, 4, 224, 14⟩ (.sub (.var 7 ⟨224, 17, 224, 26⟩) (.bin (.call "_law_draw" (.cons (.var 0 ⟨224, 37, 224, 48⟩) (.cons (.var 1 ⟨224, 50, 224, 59⟩) (.cons (.lit (.int 1000) 0 ⟨224, 61, 224, 65⟩) .nil))) ⟨224, 27, 224, 36⟩ ⟨224, 27, 224, 66⟩) .Mod (.blt .max (.cons (.lit (.int 1) 0 ⟨224, 73, 224, 74⟩) (.cons (.bin (.blt .len (.cons (.var 7 ⟨224, 80, 224, 89⟩) .nil) ⟨224, 76, 224, 79⟩ ⟨224, 76, 224, 90⟩) .Sub (.lit (.int 1) 0 ⟨224, 93, 224, 94⟩) ⟨224, 76, 224, 94⟩) .nil)) ⟨224, 69, 224, 72⟩ ⟨224, 69, 224, 95⟩) ⟨224, 27, 224, 95⟩) ⟨224, 17, 224, 96⟩) ⟨224, 4, 224, 96⟩)
    (.cons (.assign 8 ⟨225, 4, 225, 19⟩ (.sub (.list (.cons (.lit (.int 0) 0 ⟨225, 23, 225, 24⟩) (.cons (.lit (.int 1) 0 ⟨225, 26, 225, 27⟩) (.cons (.lit (.int 2) 0 ⟨225, 29, 225, 30⟩) (.cons (.call "_law_value" (.cons (.var 0 ⟨225, 43, 225, 54⟩) (.cons (.var 1 ⟨225, 56, 225, 65⟩) (.cons (.lit (.str "num") 0 ⟨225, 67, 225, 72⟩) .nil))) ⟨225, 32, 225, 42⟩ ⟨225, 32, 225, 73⟩) .nil)))) ⟨225, 22, 225, 74⟩) (.call "_law_draw" (.cons (.var 0 ⟨225, 85, 225, 96⟩) (.cons (.var 1 ⟨225, 98, 225, 107⟩) (.cons (.lit (.int 4) 0 ⟨225, 109, 225, 110⟩) .nil))) ⟨225, 75, 225, 84⟩ ⟨225, 75, 225, 111⟩) ⟨225, 22, 225, 112⟩) ⟨225, 4, 225, 112⟩)
    (.cons (.ret (.bin (.call "_law_pushes" (.cons (.var 0 ⟨226, 23, 226, 34⟩) (.cons (.var 1 ⟨226, 36, 226, 45⟩) (.cons (.sub (.sub (.var 2 ⟨226, 47, 226, 61⟩) (.var 5 ⟨226, 62, 226, 71⟩) ⟨226, 47, 226, 72⟩) (.lit (.int 0) 0 ⟨226, 73, 226, 74⟩) ⟨226, 47, 226, 75⟩) .nil))) ⟨226, 11, 226, 22⟩ ⟨226, 11, 226, 76⟩) .Add (.list (.cons (.tup (.cons (.lit (.str "num") 0 ⟨226, 81, 226, 86⟩) (.cons (.var 8 ⟨226, 88, 226, 103⟩) .nil)) 0 ⟨226, 80, 226, 104⟩) (.cons (.tup (.cons (.lit (.str "if") 0 ⟨226, 107, 226, 111⟩) (.cons (.var 5 ⟨226, 113, 226, 122⟩) (.cons (.var 6 ⟨226, 124, 226, 134⟩) .nil))) 0 ⟨226, 106, 226, 135⟩) .nil)) ⟨226, 79, 226, 136⟩) ⟨226, 11, 226, 136⟩) ⟨226, 4, 226, 136⟩)
    .nil))))))
noncomputable def S_law_choice : Scope := {
              kind := PySem.ScopeKind.function,
              names := [
                (PySem.Str.ofString "_law_script", PySem.NameKind.local),
                (PySem.Str.ofString "_law_tape", PySem.NameKind.local),
                (PySem.Str.ofString "_law_told_here", PySem.NameKind.cell),
                (PySem.Str.ofString "_law_names", PySem.NameKind.local),
                (PySem.Str.ofString "_law_kinds_here", PySem.NameKind.local),
                (PySem.Str.ofString "_law_name", PySem.NameKind.cell),
                (PySem.Str.ofString "_law_other", PySem.NameKind.local),
                (PySem.Str.ofString "_law_like", PySem.NameKind.local),
                (PySem.Str.ofString "_law_value_here", PySem.NameKind.local),
                (PySem.Str.ofString "_law_draw", PySem.NameKind.globalImplicit),
                (PySem.Str.ofString "len", PySem.NameKind.globalImplicit),
                (PySem.Str.ofString "_law_lack", PySem.NameKind.globalImplicit),
                (PySem.Str.ofString "list", PySem.NameKind.globalImplicit),
                (PySem.Str.ofString "_law_pushes", PySem.NameKind.globalImplicit),
                (PySem.Str.ofString "max", PySem.NameKind.globalImplicit),
                (PySem.Str.ofString "_law_value", PySem.NameKind.globalImplicit)],
              isGenerator := false,
              isCoroutine := false,
              more := [
                (PySem.Str.ofString "fast", (PySem.Const.str "_law_script")),
                (PySem.Str.ofString "fast", (PySem.Const.str "_law_tape")),
                (PySem.Str.ofString "fast", (PySem.Const.str "_law_told_here")),
                (PySem.Str.ofString "fast", (PySem.Const.str "_law_names")),
                (PySem.Str.ofString "fast", (PySem.Const.str "_law_kinds_here")),
                (PySem.Str.ofString "fast", (PySem.Const.str "_law_name")),
                (PySem.Str.ofString "fast", (PySem.Const.str "_law_other")),
                (PySem.Str.ofString "fast", (PySem.Const.str "_law_like")),
                (PySem.Str.ofString "fast", (PySem.Const.str "_law_value_here"))] : PySem.Scope }

noncomputable def N_law_fitting : List Str := ["_law_script", "_law_tape", "_law_told_here", "_law_names", "_law_kinds_here", "_law_row"]
noncomputable def B_law_fitting : ASs :=
    (.cons (.ite (.bop .And (.cons (.cmp (.blt .len (.cons (.var 3 ⟨228, 11, 228, 21⟩) .nil) ⟨228, 7, 228, 10⟩ ⟨228, 7, 228, 22⟩) .Gt (.lit (.int 0) 0 ⟨228, 25, 228, 26⟩) ⟨228, 7, 228, 26⟩) (.cons (.cmp (.call "_law_draw" (.cons (.var 0 ⟨228, 41, 228, 52⟩) (.cons (.var 1 ⟨228, 54, 228, 63⟩) (.cons (.lit (.int 3) 0 ⟨228, 65, 228, 66⟩) .nil))) ⟨228, 31, 228, 40⟩ ⟨228, 31, 228, 67⟩) .Eq (.lit (.int 0) 0 ⟨228, 71, 228, 72⟩) ⟨228, 31, 228, 72⟩) .nil)) ⟨228, 7, 228, 72⟩) (.cons (.ret (.call "_law_choice" (.cons (.var 0 ⟨229, 27, 229, 38⟩) (.cons (.var 1 ⟨229, 40, 229, 49⟩) (.cons (.var 2 ⟨229, 51, 229, 65⟩) (.cons (.var 3 ⟨229, 67, 229, 77⟩) (.cons (.var 4 ⟨229, 79, 229, 94⟩) .nil))))) ⟨229, 15, 229, 26⟩ ⟨229, 15, 229, 95⟩) ⟨229, 8, 229, 95⟩)
    .nil) .nil ⟨228, 4, 229, 95⟩)
    (.cons (.assign 5 ⟨230, 4, 230, 12⟩ (.call "_law_plain_row" (.cons (.var 0 ⟨230, 30, 230, 41⟩) (.cons (.var 1 ⟨230, 43, 230, 52⟩) .nil)) ⟨230, 15, 230, 29⟩ ⟨230, 15, 230, 53⟩) ⟨230, 4, 230, 53⟩)
    (.cons (.ite (.cmp (.call "_law_lack" (.cons (.var 4 ⟨231, 17, 231, 32⟩) (.cons (.call "_law_wanted" (.cons (.var 5 ⟨231, 46, 231, 54⟩) .nil) ⟨231, 34, 231, 45⟩ ⟨231, 34, 231, 55⟩) .nil)) ⟨231, 7, 231, 16⟩ ⟨231, 7, 231, 56⟩) .Eq (.lit (.str "") 0 ⟨231, 60, 231, 62⟩) ⟨231, 7, 231, 62⟩) (.cons (.ret (.list (.cons (.var 5 ⟨232, 16, 232, 24⟩) .nil) ⟨232, 15, 232, 25⟩) ⟨232, 8, 232, 25⟩)
    .nil) .nil ⟨231, 4, 232, 25⟩)
    (.cons (.ret (.call "_law_pushes" (.cons (.var 0 ⟨233, 23, 233, 34⟩) (.cons (.var 1 ⟨233, 36, 233, 45⟩) (.cons (.list (.cons (.sub (.list (.cons (.lit (.str "num") 0 ⟨233, 49, 233, 54⟩) (.cons (.lit (.str "text") 0 ⟨233, 56, 233, 62⟩) .nil)) ⟨233, 48, 233, 63⟩) (.call "_law_draw" (.cons (.var 0 ⟨233, 74, 233, 85⟩) (.cons (.var 1 ⟨233, 87, 233, 96⟩) (.cons (.lit (.int 2) 0 ⟨233, 98, 233, 99⟩) .nil))) ⟨233, 64, 233, 73⟩ ⟨233, 64, 233, 100⟩) ⟨233, 48, 233, 101⟩) .nil) ⟨233, 47, 233, 102⟩) .nil))) ⟨233, 11, 233, 22⟩ ⟨233, 11, 233, 103⟩) ⟨233, 4, 233, 103⟩)
    .nil))))
noncomputable def S_law_fitting : Scope := {
              kind := PySem.ScopeKind.function,
              names := [
                (PySem.Str.ofString "_law_script", PySem.NameKind.local),
                (PySem.Str.ofString "_law_tape", PySem.NameKind.local),
                (PySem.Str.ofString "_law_told_here", PySem.NameKind.local),
                (PySem.Str.ofString "_law_names", PySem.NameKind.local),
                (PySem.Str.ofString "_law_kinds_here", PySem.NameKind.local),
                (PySem.Str.ofString "_law_row", PySem.NameKind.local),
                (PySem.Str.ofString "len", PySem.NameKind.globalImplicit),
                (PySem.Str.ofString "_law_draw", PySem.NameKind.globalImplicit),
                (PySem.Str.ofString "_law_choice", PySem.NameKind.globalImplicit),
                (PySem.Str.ofString "_law_plain_row", PySem.NameKind.globalImplicit),
                (PySem.Str.ofString "_law_lack", PySem.NameKind.globalImplicit),
                (PySem.Str.ofString "_law_wanted", PySem.NameKind.globalImplicit),
                (PySem.Str.ofString "_law_pushes", PySem.NameKind.globalImplicit)],
              isGenerator := false,
              isCoroutine := false,
              more := [] : PySem.Scope }

noncomputable def N_law_good_rows : List Str := ["_law_script", "_law_tape", "_law_told_here", "_law_name", "_law_names", "_law_ins", "_law_outs", "_law_kinds_here", "_law_rows", "_law_k", "_law_row", "_law_other", "_law_ends", "_law_other"]
noncomputable def B_law_good_rows : ASs :=
    (.cons (.assignT [(5, ⟨235, 4, 235, 12⟩), (6, ⟨235, 14, 235, 23⟩)] 0 ⟨235, 4, 235, 23⟩ (.sub (.var 2 ⟨235, 26, 235, 40⟩) (.var 3 ⟨235, 41, 235, 50⟩) ⟨235, 26, 235, 51⟩) ⟨235, 4, 235, 51⟩)
    (.cons (.assign 7 ⟨236, 4, 236, 19⟩ (.blt .list (.cons (.var 5 ⟨236, 27, 236, 35⟩) .nil) ⟨236, 22, 236, 26⟩ ⟨236, 22, 236, 36⟩) ⟨236, 4, 236, 36⟩)
    (.cons (.assign 8 ⟨237, 4, 237, 13⟩ (.list .nil ⟨237, 16, 237, 18⟩) ⟨237, 4, 237, 18⟩)
    (.cons (.for 9 ⟨238, 8, 238, 14⟩ (.blt .range (.cons (.call "_law_draw" (.cons (.var 0 ⟨238, 34, 238, 45⟩) (.cons (.var 1 ⟨238, 47, 238, 56⟩) (.cons (.lit (.int 6) 0 ⟨238, 58, 238, 59⟩) .nil))) ⟨238, 24, 238, 33⟩ ⟨238, 24, 238, 60⟩) .nil) ⟨238, 18, 238, 23⟩ ⟨238, 18, 238, 61⟩) (.cons (.for 10 ⟨239, 12, 239, 20⟩ (.call "_law_fitting" (.cons (.var 0 ⟨239, 37, 239, 48⟩) (.cons (.var 1 ⟨239, 50, 239, 59⟩) (.cons (.var 2 ⟨239, 61, 239, 75⟩) (.cons (.var 4 ⟨239, 77, 239, 87⟩) (.cons (.var 7 ⟨239, 89, 239, 104⟩) .nil))))) ⟨239, 24, 239, 36⟩ ⟨239, 24, 239, 105⟩) (.cons (.assign 7 ⟨240, 12, 240, 27⟩ (.sub (.call "_law_next" (.cons (.var 2 ⟨240, 40, 240, 54⟩) (.cons (.var 7 ⟨240, 56, 240, 71⟩) (.cons (.var 10 ⟨240, 73, 240, 81⟩) .nil))) ⟨240, 30, 240, 39⟩ ⟨240, 30, 240, 82⟩) (.lit (.int 1) 0 ⟨240, 83, 240, 84⟩) ⟨240, 30, 240, 85⟩) ⟨240, 12, 240, 85⟩)
    (.cons (.expr (.meth (.var 8 ⟨241, 12, 241, 21⟩) .append (.cons (.var 10 ⟨241, 29, 241, 37⟩) .nil) ⟨241, 12, 241, 28⟩ ⟨241, 12, 241, 38⟩) ⟨241, 12, 241, 38⟩)
    .nil)) ⟨239, 8, 241, 38⟩)
    .nil) ⟨238, 4, 241, 38⟩)
    (.cons (.assign 12 ⟨242, 4, 242, 13⟩ (.comp (.var 13 ⟨242, 17, 242, 27⟩) 13 ⟨242, 32, 242, 42⟩ (.var 4 ⟨242, 46, 242, 56⟩) (.cons (.cmp (.sub (.sub (.var 2 ⟨242, 60, 242, 74⟩) (.var 13 ⟨242, 75, 242, 85⟩) ⟨242, 60, 242, 86⟩) (.lit (.int 1) 0 ⟨242, 87, 242, 88⟩) ⟨242, 60, 242, 89⟩) .Eq (.var 6 ⟨242, 93, 242, 102⟩) ⟨242, 60, 242, 102⟩) .nil) {                     kind := PySem.ScopeKind.function,                     names := [                       (PySem.Str.ofString ".0", PySem.NameKind.local),                       (PySem.Str.ofString "_law_other", PySem.NameKind.local),                       (PySem.Str.ofString "_law_outs", PySem.NameKind.free),                       (PySem.Str.ofString "_law_told_here", PySem.NameKind.free)],                     isGenerator := false,                     isCoroutine := false,                     more := [] : PySem.Scope } ⟨242, 16, 242, 103⟩) ⟨242, 4, 242, 103⟩)
    (.cons (.ite (.bop .And (.cons (.cmp (.blt .len (.cons (.var 12 ⟨243, 11, 243, 20⟩) .nil) ⟨243, 7, 243, 10⟩ ⟨243, 7, 243, 21⟩) .Gt (.lit (.int 0) 0 ⟨243, 24, 243, 25⟩) ⟨243, 7, 243, 25⟩) (.cons (.cmp (.call "_law_draw" (.cons (.var 0 ⟨243, 40, 243, 51⟩) (.cons (.var 1 ⟨243, 53, 243, 62⟩) (.cons (.lit (.int 3) 0 ⟨243, 64, 243, 65⟩) .nil))) ⟨243, 30, 243, 39⟩ ⟨243, 30, 243, 66⟩) .Eq (.lit (.int 0) 0 ⟨243, 70, 243, 71⟩) ⟨243, 30, 243, 71⟩) .nil)) ⟨243, 7, 243, 71⟩) (.cons (.assign 11 ⟨244, 8, 244, 18⟩ (.sub (.var 12 ⟨244, 21, 244, 30⟩) (.bin (.call "_law_draw" (.cons (.var 0 ⟨244, 41, 244, 52⟩) (.cons (.var 1 ⟨244, 54, 244, 63⟩) (.cons (.lit (.int 1000) 0 ⟨244, 65, 244, 69⟩) .nil))) ⟨244, 31, 244, 40⟩ ⟨244, 31, 244, 70⟩) .Mod (.blt .len (.cons (.var 12 ⟨244, 77, 244, 86⟩) .nil) ⟨244, 73, 244, 76⟩ ⟨244, 73, 244, 87⟩) ⟨244, 31, 244, 87⟩) ⟨244, 21, 244, 88⟩) ⟨244, 8, 244, 88⟩)
    (.cons (.assign 8 ⟨245, 8, 245, 17⟩ (.bin (.var 8 ⟨245, 20, 245, 29⟩) .Add (.bin (.list (.cons (.tup (.cons (.lit (.str "drop") 0 ⟨245, 34, 245, 40⟩) .nil) 0 ⟨245, 33, 245, 42⟩) .nil) ⟨245, 32, 245, 43⟩) .Mult (.blt .len (.cons (.var 7 ⟨245, 50, 245, 65⟩) .nil) ⟨245, 46, 245, 49⟩ ⟨245, 46, 245, 66⟩) ⟨245, 32, 245, 66⟩) ⟨245, 20, 245, 66⟩) ⟨245, 8, 245, 66⟩)
    (.cons (.ret (.bin (.bin (.var 8 ⟨246, 15, 246, 24⟩) .Add (.call "_law_pushes" (.cons (.var 0 ⟨246, 39, 246, 50⟩) (.cons (.var 1 ⟨246, 52, 246, 61⟩) (.cons (.sub (.sub (.var 2 ⟨246, 63, 246, 77⟩) (.var 11 ⟨246, 78, 246, 88⟩) ⟨246, 63, 246, 89⟩) (.lit (.int 0) 0 ⟨246, 90, 246, 91⟩) ⟨246, 63, 246, 92⟩) .nil))) ⟨246, 27, 246, 38⟩ ⟨246, 27, 246, 93⟩) ⟨246, 15, 246, 93⟩) .Add (.list (.cons (.tup (.cons (.lit (.str "call") 0 ⟨246, 98, 246, 104⟩) (.cons (.var 11 ⟨246, 106, 246, 116⟩) .nil)) 0 ⟨246, 97, 246, 117⟩) .nil) ⟨246, 96, 246, 118⟩) ⟨246, 15, 246, 118⟩) ⟨246, 8, 246, 118⟩)
    .nil))) .nil ⟨243, 4, 246, 118⟩)
    (.cons (.while (.cmp (.blt .tuple (.cons (.var 7 ⟨247, 16, 247, 31⟩) .nil) ⟨247, 10, 247, 15⟩ ⟨247, 10, 247, 32⟩) .NotEq (.sto (.var 6 ⟨247, 36, 247, 45⟩) (.blt .len (.cons (.var 7 ⟨247, 51, 247, 66⟩) .nil) ⟨247, 47, 247, 50⟩ ⟨247, 47, 247, 67⟩) ⟨247, 46, 247, 67⟩ ⟨247, 36, 247, 68⟩) ⟨247, 10, 247, 68⟩) (.cons (.assign 7 ⟨248, 8, 248, 23⟩ (.sto (.var 7 ⟨248, 26, 248, 41⟩) (.neg (.lit (.int 1) 0 ⟨248, 44, 248, 45⟩) ⟨248, 43, 248, 45⟩) ⟨248, 42, 248, 45⟩ ⟨248, 26, 248, 46⟩) ⟨248, 8, 248, 46⟩)
    (.cons (.expr (.meth (.var 8 ⟨249, 8, 249, 17⟩) .append (.cons (.tup (.cons (.lit (.str "drop") 0 ⟨249, 26, 249, 32⟩) .nil) 0 ⟨249, 25, 249, 34⟩) .nil) ⟨249, 8, 249, 24⟩ ⟨249, 8, 249, 35⟩) ⟨249, 8, 249, 35⟩)
    .nil)) ⟨247, 4, 249, 35⟩)
    (.cons (.ret (.bin (.var 8 ⟨250, 11, 250, 20⟩) .Add (.call "_law_pushes" (.cons (.var 0 ⟨250, 35, 250, 46⟩) (.cons (.var 1 ⟨250, 48, 250, 57⟩) (.cons (.sfrom (.var 6 ⟨250, 59, 250, 68⟩) (.blt .len (.cons (.var 7 ⟨250, 73, 250, 88⟩) .nil) ⟨250, 69, 250, 72⟩ ⟨250, 69, 250, 89⟩) ⟨250, 69, 250, 90⟩ ⟨250, 59, 250, 91⟩) .nil))) ⟨250, 23, 250, 34⟩ ⟨250, 23, 250, 92⟩) ⟨250, 11, 250, 92⟩) ⟨250, 4, 250, 92⟩)
    .nil))))))))
noncomputable def S_law_good_rows : Scope := {
              kind := PySem.ScopeKind.function,
              names := [
                (PySem.Str.ofString "_law_script", PySem.NameKind.local),
                (PySem.Str.ofString "_law_tape", PySem.NameKind.local),
                (PySem.Str.ofString "_law_told_here", PySem.NameKind.cell),
                (PySem.Str.ofString "_law_name", PySem.NameKind.local),
                (PySem.Str.ofString "_law_names", PySem.NameKind.local),
                (PySem.Str.ofString "_law_ins", PySem.NameKind.local),
                (PySem.Str.ofString "_law_outs", PySem.NameKind.cell),
                (PySem.Str.ofString "_law_kinds_here", PySem.NameKind.local),
                (PySem.Str.ofString "_law_rows", PySem.NameKind.local),
                (PySem.Str.ofString "_law_k", PySem.NameKind.local),
                (PySem.Str.ofString "_law_row", PySem.NameKind.local),
                (PySem.Str.ofString "_law_other", PySem.NameKind.local),
                (PySem.Str.ofString "_law_ends", PySem.NameKind.local),
                (PySem.Str.ofString "list", PySem.NameKind.globalImplicit),
                (PySem.Str.ofString "range", PySem.NameKind.globalImplicit),
                (PySem.Str.ofString "_law_draw", PySem.NameKind.globalImplicit),
                (PySem.Str.ofString "_law_fitting", PySem.NameKind.globalImplicit),
                (PySem.Str.ofString "_law_next", PySem.NameKind.globalImplicit),
                (PySem.Str.ofString "len", PySem.NameKind.globalImplicit),
                (PySem.Str.ofString "_law_pushes", PySem.NameKind.globalImplicit),
                (PySem.Str.ofString "tuple", PySem.NameKind.globalImplicit)],
              isGenerator := false,
              isCoroutine := false,
              more := [
                (PySem.Str.ofString "fast", (PySem.Const.str "_law_script")),
                (PySem.Str.ofString "fast", (PySem.Const.str "_law_tape")),
                (PySem.Str.ofString "fast", (PySem.Const.str "_law_told_here")),
                (PySem.Str.ofString "fast", (PySem.Const.str "_law_name")),
                (PySem.Str.ofString "fast", (PySem.Const.str "_law_names")),
                (PySem.Str.ofString "fast", (PySem.Const.str "_law_ins")),
                (PySem.Str.ofString "fast", (PySem.Const.str "_law_outs")),
                (PySem.Str.ofString "fast", (PySem.Const.str "_law_kinds_here")),
                (PySem.Str.ofString "fast", (PySem.Const.str "_law_rows")),
                (PySem.Str.ofString "fast", (PySem.Const.str "_law_k")),
                (PySem.Str.ofString "fast", (PySem.Const.str "_law_row")),
                (PySem.Str.ofString "fast", (PySem.Const.str "_law_other")),
                (PySem.Str.ofString "fast", (PySem.Const.str "_law_ends"))] : PySem.Scope }

noncomputable def N_law_good_program : List Str := ["_law_script", "_law_tape", "_law_told_here", "_law_names", "_law_down", "_law_program", "_law_k", "_law_some", "_law_rows"]
noncomputable def B_law_good_program : ASs :=
    (.cons (.assign 2 ⟨252, 4, 252, 18⟩ (.call "_law_told" (.cons (.var 0 ⟨252, 31, 252, 42⟩) (.cons (.var 1 ⟨252, 44, 252, 53⟩) .nil)) ⟨252, 21, 252, 30⟩ ⟨252, 21, 252, 54⟩) ⟨252, 4, 252, 54⟩)
    (.cons (.assign 3 ⟨253, 4, 253, 14⟩ (.blt .list (.cons (.var 2 ⟨253, 22, 253, 36⟩) .nil) ⟨253, 17, 253, 21⟩ ⟨253, 17, 253, 37⟩) ⟨253, 4, 253, 37⟩)
    (.cons (.assign 4 ⟨254, 4, 254, 13⟩ (.call "_law_draw" (.cons (.var 0 ⟨254, 26, 254, 37⟩) (.cons (.var 1 ⟨254, 39, 254, 48⟩) (.cons (.lit (.int 2) 0 ⟨254, 50, 254, 51⟩) .nil))) ⟨254, 16, 254, 25⟩ ⟨254, 16, 254, 52⟩) ⟨254, 4, 254, 52⟩)
    (.cons (.assign 5 ⟨255, 4, 255, 16⟩ (.dict [] .nil ⟨255, 19, 255, 21⟩) ⟨255, 4, 255, 21⟩)
    (.cons (.for 6 ⟨256, 8, 256, 14⟩ (.blt .range (.cons (.blt .len (.cons (.var 3 ⟨256, 28, 256, 38⟩) .nil) ⟨256, 24, 256, 27⟩ ⟨256, 24, 256, 39⟩) .nil) ⟨256, 18, 256, 23⟩ ⟨256, 18, 256, 40⟩) (.cons (.assign 7 ⟨257, 8, 257, 17⟩ (.var 3 ⟨257, 20, 257, 30⟩) ⟨257, 8, 257, 30⟩)
    (.cons (.ite (.cmp (.var 4 ⟨258, 11, 258, 20⟩) .Eq (.lit (.int 1) 0 ⟨258, 24, 258, 25⟩) ⟨258, 11, 258, 25⟩) (.cons (.assign 7 ⟨259, 12, 259, 21⟩ (.sfrom (.var 3 ⟨259, 24, 259, 34⟩) (.bin (.var 6 ⟨259, 35, 259, 41⟩) .Add (.lit (.int 1) 0 ⟨259, 44, 259, 45⟩) ⟨259, 35, 259, 45⟩) ⟨259, 35, 259, 46⟩ ⟨259, 24, 259, 47⟩) ⟨259, 12, 259, 47⟩)
    .nil) .nil ⟨258, 8, 259, 47⟩)
    (.cons (.assign 8 ⟨260, 8, 260, 17⟩ (.call "_law_good_rows" (.cons (.var 0 ⟨260, 35, 260, 46⟩) (.cons (.var 1 ⟨260, 48, 260, 57⟩) (.cons (.var 2 ⟨260, 59, 260, 73⟩) (.cons (.sub (.var 3 ⟨260, 75, 260, 85⟩) (.var 6 ⟨260, 86, 260, 92⟩) ⟨260, 75, 260, 93⟩) (.cons (.var 7 ⟨260, 95, 260, 104⟩) .nil))))) ⟨260, 20, 260, 34⟩ ⟨260, 20, 260, 105⟩) ⟨260, 8, 260, 105⟩)
    (.cons (.store (.var 5 ⟨261, 8, 261, 20⟩) (.sub (.var 3 ⟨261, 21, 261, 31⟩) (.var 6 ⟨261, 32, 261, 38⟩) ⟨261, 21, 261, 39⟩) ⟨261, 8, 261, 40⟩ (.tup (.cons (.sub (.sub (.var 2 ⟨261, 44, 261, 58⟩) (.sub (.var 3 ⟨261, 59, 261, 69⟩) (.var 6 ⟨261, 70, 261, 76⟩) ⟨261, 59, 261, 77⟩) ⟨261, 44, 261, 78⟩) (.lit (.int 0) 0 ⟨261, 79, 261, 80⟩) ⟨261, 44, 261, 81⟩) (.cons (.sub (.sub (.var 2 ⟨261, 83, 261, 97⟩) (.sub (.var 3 ⟨261, 98, 261, 108⟩) (.var 6 ⟨261, 109, 261, 115⟩) ⟨261, 98, 261, 116⟩) ⟨261, 83, 261, 117⟩) (.lit (.int 1) 0 ⟨261, 118, 261, 119⟩) ⟨261, 83, 261, 120⟩) (.cons (.var 8 ⟨261, 122, 261, 131⟩) .nil))) 0 ⟨261, 43, 261, 132⟩) ⟨261, 8, 261, 132⟩)
    .nil)))) ⟨256, 4, 261, 132⟩)
    (.cons (.ret (.var 5 ⟨262, 11, 262, 23⟩) ⟨262, 4, 262, 23⟩)
    .nil))))))
noncomputable def S_law_good_program : Scope := {
              kind := PySem.ScopeKind.function,
              names := [
                (PySem.Str.ofString "_law_script", PySem.NameKind.local),
                (PySem.Str.ofString "_law_tape", PySem.NameKind.local),
                (PySem.Str.ofString "_law_told_here", PySem.NameKind.local),
                (PySem.Str.ofString "_law_names", PySem.NameKind.local),
                (PySem.Str.ofString "_law_down", PySem.NameKind.local),
                (PySem.Str.ofString "_law_program", PySem.NameKind.local),
                (PySem.Str.ofString "_law_k", PySem.NameKind.local),
                (PySem.Str.ofString "_law_some", PySem.NameKind.local),
                (PySem.Str.ofString "_law_rows", PySem.NameKind.local),
                (PySem.Str.ofString "_law_told", PySem.NameKind.globalImplicit),
                (PySem.Str.ofString "list", PySem.NameKind.globalImplicit),
                (PySem.Str.ofString "_law_draw", PySem.NameKind.globalImplicit),
                (PySem.Str.ofString "range", PySem.NameKind.globalImplicit),
                (PySem.Str.ofString "len", PySem.NameKind.globalImplicit),
                (PySem.Str.ofString "_law_good_rows", PySem.NameKind.globalImplicit)],
              isGenerator := false,
              isCoroutine := false,
              more := [] : PySem.Scope }

noncomputable def N_law_raw_row : List Str := ["_law_script", "_law_tape", "_law_names", "_law_way", "_law_one", "_law_spot", "_law_some"]
noncomputable def B_law_raw_row : ASs :=
    (.cons (.assign 3 ⟨264, 4, 264, 12⟩ (.call "_law_draw" (.cons (.var 0 ⟨264, 25, 264, 36⟩) (.cons (.var 1 ⟨264, 38, 264, 47⟩) (.cons (.lit (.int 4) 0 ⟨264, 49, 264, 50⟩) .nil))) ⟨264, 15, 264, 24⟩ ⟨264, 15, 264, 51⟩) ⟨264, 4, 264, 51⟩)
    (.cons (.ite (.cmp (.var 3 ⟨265, 7, 265, 15⟩) .Lt (.lit (.int 2) 0 ⟨265, 18, 265, 19⟩) ⟨265, 7, 265, 19⟩) (.cons (.ret (.call "_law_plain_row" (.cons (.var 0 ⟨266, 30, 266, 41⟩) (.cons (.var 1 ⟨266, 43, 266, 52⟩) .nil)) ⟨266, 15, 266, 29⟩ ⟨266, 15, 266, 53⟩) ⟨266, 8, 266, 53⟩)
    .nil) .nil ⟨265, 4, 266, 53⟩)
    (.cons (.assign 4 ⟨267, 4, 267, 12⟩ (.sub (.var 2 ⟨267, 15, 267, 25⟩) (.call "_law_draw" (.cons (.var 0 ⟨267, 36, 267, 47⟩) (.cons (.var 1 ⟨267, 49, 267, 58⟩) (.cons (.blt .len (.cons (.var 2 ⟨267, 64, 267, 74⟩) .nil) ⟨267, 60, 267, 63⟩ ⟨267, 60, 267, 75⟩) .nil))) ⟨267, 26, 267, 35⟩ ⟨267, 26, 267, 76⟩) ⟨267, 15, 267, 77⟩) ⟨267, 4, 267, 77⟩)
    (.cons (.assign 5 ⟨268, 4, 268, 13⟩ (.call "_law_draw" (.cons (.var 0 ⟨268, 26, 268, 37⟩) (.cons (.var 1 ⟨268, 39, 268, 48⟩) (.cons (.blt .len (.cons (.var 4 ⟨268, 54, 268, 62⟩) .nil) ⟨268, 50, 268, 53⟩ ⟨268, 50, 268, 63⟩) .nil))) ⟨268, 16, 268, 25⟩ ⟨268, 16, 268, 64⟩) ⟨268, 4, 268, 64⟩)
    (.cons (.assign 6 ⟨269, 4, 269, 13⟩ (.bin (.var 2 ⟨269, 16, 269, 26⟩) .Add (.list (.cons (.bin (.bin (.sto (.var 4 ⟨269, 30, 269, 38⟩) (.var 5 ⟨269, 40, 269, 49⟩) ⟨269, 39, 269, 49⟩ ⟨269, 30, 269, 50⟩) .Add (.lit (.str "?") 0 ⟨269, 53, 269, 56⟩) ⟨269, 30, 269, 56⟩) .Add (.sfrom (.var 4 ⟨269, 59, 269, 67⟩) (.bin (.var 5 ⟨269, 68, 269, 77⟩) .Add (.lit (.int 1) 0 ⟨269, 80, 269, 81⟩) ⟨269, 68, 269, 81⟩) ⟨269, 68, 269, 82⟩ ⟨269, 59, 269, 83⟩) ⟨269, 30, 269, 83⟩) .nil) ⟨269, 29, 269, 84⟩) ⟨269, 16, 269, 84⟩) ⟨269, 4, 269, 84⟩)
    (.cons (.assign 4 ⟨270, 4, 270, 12⟩ (.sub (.var 6 ⟨270, 15, 270, 24⟩) (.call "_law_draw" (.cons (.var 0 ⟨270, 35, 270, 46⟩) (.cons (.var 1 ⟨270, 48, 270, 57⟩) (.cons (.blt .len (.cons (.var 6 ⟨270, 63, 270, 72⟩) .nil) ⟨270, 59, 270, 62⟩ ⟨270, 59, 270, 73⟩) .nil))) ⟨270, 25, 270, 34⟩ ⟨270, 25, 270, 74⟩) ⟨270, 15, 270, 75⟩) ⟨270, 4, 270, 75⟩)
    (.cons (.ite (.cmp (.var 3 ⟨271, 7, 271, 15⟩) .Eq (.lit (.int 2) 0 ⟨271, 19, 271, 20⟩) ⟨271, 7, 271, 20⟩) (.cons (.ret (.tup (.cons (.lit (.str "call") 0 ⟨272, 16, 272, 22⟩) (.cons (.var 4 ⟨272, 24, 272, 32⟩) .nil)) 0 ⟨272, 15, 272, 33⟩) ⟨272, 8, 272, 33⟩)
    .nil) .nil ⟨271, 4, 272, 33⟩)
    (.cons (.ret (.tup (.cons (.lit (.str "if") 0 ⟨273, 12, 273, 16⟩) (.cons (.var 4 ⟨273, 18, 273, 26⟩) (.cons (.sub (.var 6 ⟨273, 28, 273, 37⟩) (.call "_law_draw" (.cons (.var 0 ⟨273, 48, 273, 59⟩) (.cons (.var 1 ⟨273, 61, 273, 70⟩) (.cons (.blt .len (.cons (.var 6 ⟨273, 76, 273, 85⟩) .nil) ⟨273, 72, 273, 75⟩ ⟨273, 72, 273, 86⟩) .nil))) ⟨273, 38, 273, 47⟩ ⟨273, 38, 273, 87⟩) ⟨273, 28, 273, 88⟩) .nil))) 0 ⟨273, 11, 273, 89⟩) ⟨273, 4, 273, 89⟩)
    .nil))))))))
noncomputable def S_law_raw_row : Scope := {
              kind := PySem.ScopeKind.function,
              names := [
                (PySem.Str.ofString "_law_script", PySem.NameKind.local),
                (PySem.Str.ofString "_law_tape", PySem.NameKind.local),
                (PySem.Str.ofString "_law_names", PySem.NameKind.local),
                (PySem.Str.ofString "_law_way", PySem.NameKind.local),
                (PySem.Str.ofString "_law_one", PySem.NameKind.local),
                (PySem.Str.ofString "_law_spot", PySem.NameKind.local),
                (PySem.Str.ofString "_law_some", PySem.NameKind.local),
                (PySem.Str.ofString "_law_draw", PySem.NameKind.globalImplicit),
                (PySem.Str.ofString "_law_plain_row", PySem.NameKind.globalImplicit),
                (PySem.Str.ofString "len", PySem.NameKind.globalImplicit)],
              isGenerator := false,
              isCoroutine := false,
              more := [] : PySem.Scope }

noncomputable def N_law_spoilt : List Str := ["_law_script", "_law_tape", "_law_program", "_law_names", "_law_name", "_law_ins", "_law_outs", "_law_rows", "_law_place", "_law_way"]
noncomputable def B_law_spoilt : ASs :=
    (.cons (.assign 3 ⟨275, 4, 275, 14⟩ (.blt .list (.cons (.var 2 ⟨275, 22, 275, 34⟩) .nil) ⟨275, 17, 275, 21⟩ ⟨275, 17, 275, 35⟩) ⟨275, 4, 275, 35⟩)
    (.cons (.assign 4 ⟨276, 4, 276, 13⟩ (.sub (.var 3 ⟨276, 16, 276, 26⟩) (.call "_law_draw" (.cons (.var 0 ⟨276, 37, 276, 48⟩) (.cons (.var 1 ⟨276, 50, 276, 59⟩) (.cons (.blt .len (.cons (.var 3 ⟨276, 65, 276, 75⟩) .nil) ⟨276, 61, 276, 64⟩ ⟨276, 61, 276, 76⟩) .nil))) ⟨276, 27, 276, 36⟩ ⟨276, 27, 276, 77⟩) ⟨276, 16, 276, 78⟩) ⟨276, 4, 276, 78⟩)
    (.cons (.assignT [(5, ⟨277, 4, 277, 12⟩), (6, ⟨277, 14, 277, 23⟩), (7, ⟨277, 25, 277, 34⟩)] 0 ⟨277, 4, 277, 34⟩ (.sub (.var 2 ⟨277, 37, 277, 49⟩) (.var 4 ⟨277, 50, 277, 59⟩) ⟨277, 37, 277, 60⟩) ⟨277, 4, 277, 60⟩)
    (.cons (.assign 8 ⟨278, 4, 278, 14⟩ (.call "_law_draw" (.cons (.var 0 ⟨278, 27, 278, 38⟩) (.cons (.var 1 ⟨278, 40, 278, 49⟩) (.cons (.bin (.blt .len (.cons (.var 7 ⟨278, 55, 278, 64⟩) .nil) ⟨278, 51, 278, 54⟩ ⟨278, 51, 278, 65⟩) .Add (.lit (.int 1) 0 ⟨278, 68, 278, 69⟩) ⟨278, 51, 278, 69⟩) .nil))) ⟨278, 17, 278, 26⟩ ⟨278, 17, 278, 70⟩) ⟨278, 4, 278, 70⟩)
    (.cons (.assign 9 ⟨279, 4, 279, 12⟩ (.call "_law_draw" (.cons (.var 0 ⟨279, 25, 279, 36⟩) (.cons (.var 1 ⟨279, 38, 279, 47⟩) (.cons (.lit (.int 6) 0 ⟨279, 49, 279, 50⟩) .nil))) ⟨279, 15, 279, 24⟩ ⟨279, 15, 279, 51⟩) ⟨279, 4, 279, 51⟩)
    (.cons (.ite (.cmp (.var 9 ⟨280, 7, 280, 15⟩) .Lt (.lit (.int 2) 0 ⟨280, 18, 280, 19⟩) ⟨280, 7, 280, 19⟩) (.cons (.assign 7 ⟨281, 8, 281, 17⟩ (.bin (.bin (.sto (.var 7 ⟨281, 20, 281, 29⟩) (.var 8 ⟨281, 31, 281, 41⟩) ⟨281, 30, 281, 41⟩ ⟨281, 20, 281, 42⟩) .Add (.list (.cons (.call "_law_raw_row" (.cons (.var 0 ⟨281, 59, 281, 70⟩) (.cons (.var 1 ⟨281, 72, 281, 81⟩) (.cons (.var 3 ⟨281, 83, 281, 93⟩) .nil))) ⟨281, 46, 281, 58⟩ ⟨281, 46, 281, 94⟩) .nil) ⟨281, 45, 281, 95⟩) ⟨281, 20, 281, 95⟩) .Add (.sfrom (.var 7 ⟨281, 98, 281, 107⟩) (.bin (.var 8 ⟨281, 108, 281, 118⟩) .Add (.lit (.int 1) 0 ⟨281, 121, 281, 122⟩) ⟨281, 108, 281, 122⟩) ⟨281, 108, 281, 123⟩ ⟨281, 98, 281, 124⟩) ⟨281, 20, 281, 124⟩) ⟨281, 8, 281, 124⟩)
    .nil) .nil ⟨280, 4, 281, 124⟩)
    (.cons (.ite (.cmp (.var 9 ⟨282, 7, 282, 15⟩) .Eq (.lit (.int 2) 0 ⟨282, 19, 282, 20⟩) ⟨282, 7, 282, 20⟩) (.cons (.assign 7 ⟨283, 8, 283, 17⟩ (.bin (.bin (.sto (.var 7 ⟨283, 20, 283, 29⟩) (.var 8 ⟨283, 31, 283, 41⟩) ⟨283, 30, 283, 41⟩ ⟨283, 20, 283, 42⟩) .Add (.list (.cons (.call "_law_raw_row" (.cons (.var 0 ⟨283, 59, 283, 70⟩) (.cons (.var 1 ⟨283, 72, 283, 81⟩) (.cons (.var 3 ⟨283, 83, 283, 93⟩) .nil))) ⟨283, 46, 283, 58⟩ ⟨283, 46, 283, 94⟩) .nil) ⟨283, 45, 283, 95⟩) ⟨283, 20, 283, 95⟩) .Add (.sfrom (.var 7 ⟨283, 98, 283, 107⟩) (.var 8 ⟨283, 108, 283, 118⟩) ⟨283, 108, 283, 119⟩ ⟨283, 98, 283, 120⟩) ⟨283, 20, 283, 120⟩) ⟨283, 8, 283, 120⟩)
    .nil) .nil ⟨282, 4, 283, 120⟩)
    (.cons (.ite (.cmp (.var 9 ⟨284, 7, 284, 15⟩) .Eq (.lit (.int 3) 0 ⟨284, 19, 284, 20⟩) ⟨284, 7, 284, 20⟩) (.cons (.assign 7 ⟨285, 8, 285, 17⟩ (.bin (.sto (.var 7 ⟨285, 20, 285, 29⟩) (.var 8 ⟨285, 31, 285, 41⟩) ⟨285, 30, 285, 41⟩ ⟨285, 20, 285, 42⟩) .Add (.sfrom (.var 7 ⟨285, 45, 285, 54⟩) (.bin (.var 8 ⟨285, 55, 285, 65⟩) .Add (.lit (.int 1) 0 ⟨285, 68, 285, 69⟩) ⟨285, 55, 285, 69⟩) ⟨285, 55, 285, 70⟩ ⟨285, 45, 285, 71⟩) ⟨285, 20, 285, 71⟩) ⟨285, 8, 285, 71⟩)
    .nil) .nil ⟨284, 4, 285, 71⟩)
    (.cons (.ite (.cmp (.var 9 ⟨286, 7, 286, 15⟩) .Eq (.lit (.int 4) 0 ⟨286, 19, 286, 20⟩) ⟨286, 7, 286, 20⟩) (.cons (.assign 6 ⟨287, 8, 287, 17⟩ (.call "_law_kinds" (.cons (.var 0 ⟨287, 31, 287, 42⟩) (.cons (.var 1 ⟨287, 44, 287, 53⟩) .nil)) ⟨287, 20, 287, 30⟩ ⟨287, 20, 287, 54⟩) ⟨287, 8, 287, 54⟩)
    .nil) .nil ⟨286, 4, 287, 54⟩)
    (.cons (.ite (.cmp (.var 9 ⟨288, 7, 288, 15⟩) .Eq (.lit (.int 5) 0 ⟨288, 19, 288, 20⟩) ⟨288, 7, 288, 20⟩) (.cons (.assign 5 ⟨289, 8, 289, 16⟩ (.call "_law_kinds" (.cons (.var 0 ⟨289, 30, 289, 41⟩) (.cons (.var 1 ⟨289, 43, 289, 52⟩) .nil)) ⟨289, 19, 289, 29⟩ ⟨289, 19, 289, 53⟩) ⟨289, 8, 289, 53⟩)
    .nil) .nil ⟨288, 4, 289, 53⟩)
    (.cons (.store (.var 2 ⟨290, 4, 290, 16⟩) (.var 4 ⟨290, 17, 290, 26⟩) ⟨290, 4, 290, 27⟩ (.tup (.cons (.var 5 ⟨290, 31, 290, 39⟩) (.cons (.var 6 ⟨290, 41, 290, 50⟩) (.cons (.var 7 ⟨290, 52, 290, 61⟩) .nil))) 0 ⟨290, 30, 290, 62⟩) ⟨290, 4, 290, 62⟩)
    (.cons (.ret (.var 4 ⟨291, 11, 291, 20⟩) ⟨291, 4, 291, 20⟩)
    .nil))))))))))))
noncomputable def S_law_spoilt : Scope := {
              kind := PySem.ScopeKind.function,
              names := [
                (PySem.Str.ofString "_law_script", PySem.NameKind.local),
                (PySem.Str.ofString "_law_tape", PySem.NameKind.local),
                (PySem.Str.ofString "_law_program", PySem.NameKind.local),
                (PySem.Str.ofString "_law_names", PySem.NameKind.local),
                (PySem.Str.ofString "_law_name", PySem.NameKind.local),
                (PySem.Str.ofString "_law_ins", PySem.NameKind.local),
                (PySem.Str.ofString "_law_outs", PySem.NameKind.local),
                (PySem.Str.ofString "_law_rows", PySem.NameKind.local),
                (PySem.Str.ofString "_law_place", PySem.NameKind.local),
                (PySem.Str.ofString "_law_way", PySem.NameKind.local),
                (PySem.Str.ofString "list", PySem.NameKind.globalImplicit),
                (PySem.Str.ofString "_law_draw", PySem.NameKind.globalImplicit),
                (PySem.Str.ofString "len", PySem.NameKind.globalImplicit),
                (PySem.Str.ofString "_law_raw_row", PySem.NameKind.globalImplicit),
                (PySem.Str.ofString "_law_kinds", PySem.NameKind.globalImplicit)],
              isGenerator := false,
              isCoroutine := false,
              more := [] : PySem.Scope }

noncomputable def N_law_copy : List Str := ["_law_program", "_law_found", "_law_name"]
noncomputable def B_law_copy : ASs :=
    (.cons (.assign 1 ⟨293, 4, 293, 14⟩ (.dict [] .nil ⟨293, 17, 293, 19⟩) ⟨293, 4, 293, 19⟩)
    (.cons (.for 2 ⟨294, 8, 294, 17⟩ (.blt .list (.cons (.var 0 ⟨294, 26, 294, 38⟩) .nil) ⟨294, 21, 294, 25⟩ ⟨294, 21, 294, 39⟩) (.cons (.store (.var 1 ⟨295, 8, 295, 18⟩) (.var 2 ⟨295, 19, 295, 28⟩) ⟨295, 8, 295, 29⟩ (.tup (.cons (.sub (.sub (.var 0 ⟨295, 33, 295, 45⟩) (.var 2 ⟨295, 46, 295, 55⟩) ⟨295, 33, 295, 56⟩) (.lit (.int 0) 0 ⟨295, 57, 295, 58⟩) ⟨295, 33, 295, 59⟩) (.cons (.sub (.sub (.var 0 ⟨295, 61, 295, 73⟩) (.var 2 ⟨295, 74, 295, 83⟩) ⟨295, 61, 295, 84⟩) (.lit (.int 1) 0 ⟨295, 85, 295, 86⟩) ⟨295, 61, 295, 87⟩) (.cons (.blt .list (.cons (.sub (.sub (.var 0 ⟨295, 94, 295, 106⟩) (.var 2 ⟨295, 107, 295, 116⟩) ⟨295, 94, 295, 117⟩) (.lit (.int 2) 0 ⟨295, 118, 295, 119⟩) ⟨295, 94, 295, 120⟩) .nil) ⟨295, 89, 295, 93⟩ ⟨295, 89, 295, 121⟩) .nil))) 0 ⟨295, 32, 295, 122⟩) ⟨295, 8, 295, 122⟩)
    .nil) ⟨294, 4, 295, 122⟩)
    (.cons (.ret (.var 1 ⟨296, 11, 296, 21⟩) ⟨296, 4, 296, 21⟩)
    .nil)))
noncomputable def S_law_copy : Scope := {
              kind := PySem.ScopeKind.function,
              names := [
                (PySem.Str.ofString "_law_program", PySem.NameKind.local),
                (PySem.Str.ofString "_law_found", PySem.NameKind.local),
                (PySem.Str.ofString "_law_name", PySem.NameKind.local),
                (PySem.Str.ofString "list", PySem.NameKind.globalImplicit)],
              isGenerator := false,
              isCoroutine := false,
              more := [] : PySem.Scope }

noncomputable def N_law_walked : List Str := ["_law_program", "_law_name", "_law_ins", "_law_outs", "_law_rows", "_law_made", "_law_row", "_law_word", "_law_kinds_here"]
noncomputable def B_law_walked : ASs :=
    (.cons (.assignT [(2, ⟨298, 4, 298, 12⟩), (3, ⟨298, 14, 298, 23⟩), (4, ⟨298, 25, 298, 34⟩)] 0 ⟨298, 4, 298, 34⟩ (.sub (.var 0 ⟨298, 37, 298, 49⟩) (.var 1 ⟨298, 50, 298, 59⟩) ⟨298, 37, 298, 60⟩) ⟨298, 4, 298, 60⟩)
    (.cons (.assign 5 ⟨299, 4, 299, 13⟩ (.list (.cons (.var 2 ⟨299, 17, 299, 25⟩) .nil) ⟨299, 16, 299, 26⟩) ⟨299, 4, 299, 26⟩)
    (.cons (.for 6 ⟨300, 8, 300, 16⟩ (.var 4 ⟨300, 20, 300, 29⟩) (.cons (.assignT [(7, ⟨301, 8, 301, 17⟩), (8, ⟨301, 19, 301, 34⟩)] 0 ⟨301, 8, 301, 34⟩ (.call "_law_next" (.cons (.var 0 ⟨301, 47, 301, 59⟩) (.cons (.blt .list (.cons (.sub (.var 5 ⟨301, 66, 301, 75⟩) (.neg (.lit (.int 1) 0 ⟨301, 77, 301, 78⟩) ⟨301, 76, 301, 78⟩) ⟨301, 66, 301, 79⟩) .nil) ⟨301, 61, 301, 65⟩ ⟨301, 61, 301, 80⟩) (.cons (.var 6 ⟨301, 82, 301, 90⟩) .nil))) ⟨301, 37, 301, 46⟩ ⟨301, 37, 301, 91⟩) ⟨301, 8, 301, 91⟩)
    (.cons (.ite (.cmp (.var 7 ⟨302, 11, 302, 20⟩) .NotEq (.lit (.str "") 0 ⟨302, 24, 302, 26⟩) ⟨302, 11, 302, 26⟩) (.cons (.ret (.tup (.cons (.var 5 ⟨303, 20, 303, 29⟩) (.cons (.var 7 ⟨303, 31, 303, 40⟩) .nil)) 0 ⟨303, 19, 303, 41⟩) ⟨303, 12, 303, 41⟩)
    .nil) .nil ⟨302, 8, 303, 41⟩)
    (.cons (.expr (.meth (.var 5 ⟨304, 8, 304, 17⟩) .append (.cons (.blt .tuple (.cons (.var 8 ⟨304, 31, 304, 46⟩) .nil) ⟨304, 25, 304, 30⟩ ⟨304, 25, 304, 47⟩) .nil) ⟨304, 8, 304, 24⟩ ⟨304, 8, 304, 48⟩) ⟨304, 8, 304, 48⟩)
    .nil))) ⟨300, 4, 304, 48⟩)
    (.cons (.ite (.cmp (.sub (.var 5 ⟨305, 7, 305, 16⟩) (.neg (.lit (.int 1) 0 ⟨305, 18, 305, 19⟩) ⟨305, 17, 305, 19⟩) ⟨305, 7, 305, 20⟩) .NotEq (.var 3 ⟨305, 24, 305, 33⟩) ⟨305, 7, 305, 33⟩) (.cons (.ret (.tup (.cons (.var 5 ⟨306, 16, 306, 25⟩) (.cons (.lit (.str "end") 0 ⟨306, 27, 306, 32⟩) .nil)) 0 ⟨306, 15, 306, 33⟩) ⟨306, 8, 306, 33⟩)
    .nil) .nil ⟨305, 4, 306, 33⟩)
    (.cons (.ret (.tup (.cons (.var 5 ⟨307, 12, 307, 21⟩) (.cons (.lit (.str "") 0 ⟨307, 23, 307, 25⟩) .nil)) 0 ⟨307, 11, 307, 26⟩) ⟨307, 4, 307, 26⟩)
    .nil)))))
noncomputable def S_law_walked : Scope := {
              kind := PySem.ScopeKind.function,
              names := [
                (PySem.Str.ofString "_law_program", PySem.NameKind.local),
                (PySem.Str.ofString "_law_name", PySem.NameKind.local),
                (PySem.Str.ofString "_law_ins", PySem.NameKind.local),
                (PySem.Str.ofString "_law_outs", PySem.NameKind.local),
                (PySem.Str.ofString "_law_rows", PySem.NameKind.local),
                (PySem.Str.ofString "_law_made", PySem.NameKind.local),
                (PySem.Str.ofString "_law_row", PySem.NameKind.local),
                (PySem.Str.ofString "_law_word", PySem.NameKind.local),
                (PySem.Str.ofString "_law_kinds_here", PySem.NameKind.local),
                (PySem.Str.ofString "_law_next", PySem.NameKind.globalImplicit),
                (PySem.Str.ofString "list", PySem.NameKind.globalImplicit),
                (PySem.Str.ofString "tuple", PySem.NameKind.globalImplicit)],
              isGenerator := false,
              isCoroutine := false,
              more := [] : PySem.Scope }

noncomputable def N_law : List Str := ["_law_script", "_law_tape", "_law_way", "_law_anew", "_law_program", "_law_names", "_law_name", "_law_other", "_law_told_here", "_law_one", "_law_rows", "_law_before", "_law_after"]
noncomputable def B_law : ASs :=
    (.cons (.assign 1 ⟨309, 4, 309, 13⟩ (.tape ⟨309, 17, 309, 18⟩ ⟨309, 16, 309, 19⟩) ⟨309, 4, 309, 19⟩)
    (.cons (.assign 2 ⟨310, 4, 310, 12⟩ (.call "_law_draw" (.cons (.var 0 ⟨310, 25, 310, 36⟩) (.cons (.var 1 ⟨310, 38, 310, 47⟩) (.cons (.lit (.int 8) 0 ⟨310, 49, 310, 50⟩) .nil))) ⟨310, 15, 310, 24⟩ ⟨310, 15, 310, 51⟩) ⟨310, 4, 310, 51⟩)
    (.cons (.assign 3 ⟨311, 4, 311, 13⟩ (.call "_law_draw" (.cons (.var 0 ⟨311, 26, 311, 37⟩) (.cons (.var 1 ⟨311, 39, 311, 48⟩) (.cons (.lit (.int 4) 0 ⟨311, 50, 311, 51⟩) .nil))) ⟨311, 16, 311, 25⟩ ⟨311, 16, 311, 52⟩) ⟨311, 4, 311, 52⟩)
    (.cons (.assign 4 ⟨312, 4, 312, 16⟩ (.call "_law_good_program" (.cons (.var 0 ⟨312, 37, 312, 48⟩) (.cons (.var 1 ⟨312, 50, 312, 59⟩) .nil)) ⟨312, 19, 312, 36⟩ ⟨312, 19, 312, 60⟩) ⟨312, 4, 312, 60⟩)
    (.cons (.ite (.cmp (.var 2 ⟨313, 7, 313, 15⟩) .Lt (.lit (.int 5) 0 ⟨313, 18, 313, 19⟩) ⟨313, 7, 313, 19⟩) (.cons (.expr (.call "_law_spoilt" (.cons (.var 0 ⟨314, 20, 314, 31⟩) (.cons (.var 1 ⟨314, 33, 314, 42⟩) (.cons (.var 4 ⟨314, 44, 314, 56⟩) .nil))) ⟨314, 8, 314, 19⟩ ⟨314, 8, 314, 57⟩) ⟨314, 8, 314, 57⟩)
    .nil) .nil ⟨313, 4, 314, 57⟩)
    (.cons (.assign 5 ⟨315, 4, 315, 14⟩ (.blt .list (.cons (.var 4 ⟨315, 22, 315, 34⟩) .nil) ⟨315, 17, 315, 21⟩ ⟨315, 17, 315, 35⟩) ⟨315, 4, 315, 35⟩)
    (.cons (.assign 6 ⟨316, 4, 316, 13⟩ (.sub (.var 5 ⟨316, 16, 316, 26⟩) (.bin (.call "_law_draw" (.cons (.var 0 ⟨316, 37, 316, 48⟩) (.cons (.var 1 ⟨316, 50, 316, 59⟩) (.cons (.lit (.int 1000) 0 ⟨316, 61, 316, 65⟩) .nil))) ⟨316, 27, 316, 36⟩ ⟨316, 27, 316, 66⟩) .Mod (.blt .len (.cons (.var 5 ⟨316, 73, 316, 83⟩) .nil) ⟨316, 69, 316, 72⟩ ⟨316, 69, 316, 84⟩) ⟨316, 27, 316, 84⟩) ⟨316, 16, 316, 85⟩) ⟨316, 4, 316, 85⟩)
    (.cons (.assign 7 ⟨317, 4, 317, 14⟩ (.call "_law_copy" (.cons (.var 4 ⟨317, 27, 317, 39⟩) .nil) ⟨317, 17, 317, 26⟩ ⟨317, 17, 317, 40⟩) ⟨317, 4, 317, 40⟩)
    (.cons (.assign 8 ⟨318, 4, 318, 18⟩ (.dict [] .nil ⟨318, 21, 318, 23⟩) ⟨318, 4, 318, 23⟩)
    (.cons (.for 9 ⟨319, 8, 319, 16⟩ (.var 5 ⟨319, 20, 319, 30⟩) (.cons (.store (.var 8 ⟨320, 8, 320, 22⟩) (.var 9 ⟨320, 23, 320, 31⟩) ⟨320, 8, 320, 32⟩ (.tup (.cons (.sub (.sub (.var 4 ⟨320, 36, 320, 48⟩) (.var 9 ⟨320, 49, 320, 57⟩) ⟨320, 36, 320, 58⟩) (.lit (.int 0) 0 ⟨320, 59, 320, 60⟩) ⟨320, 36, 320, 61⟩) (.cons (.sub (.sub (.var 4 ⟨320, 63, 320, 75⟩) (.var 9 ⟨320, 76, 320, 84⟩) ⟨320, 63, 320, 85⟩) (.lit (.int 1) 0 ⟨320, 86, 320, 87⟩) ⟨320, 63, 320, 88⟩) .nil)) 0 ⟨320, 35, 320, 89⟩) ⟨320, 8, 320, 89⟩)
    .nil) ⟨319, 4, 320, 89⟩)
    (.cons (.assign 10 ⟨321, 4, 321, 13⟩ (.list .nil ⟨321, 16, 321, 18⟩) ⟨321, 4, 321, 18⟩)
    (.cons (.ite (.cmp (.var 3 ⟨322, 7, 322, 16⟩) .Gt (.lit (.int 0) 0 ⟨322, 19, 322, 20⟩) ⟨322, 7, 322, 20⟩) (.cons (.assign 10 ⟨323, 8, 323, 17⟩ (.call "_law_good_rows" (.cons (.var 0 ⟨323, 35, 323, 46⟩) (.cons (.var 1 ⟨323, 48, 323, 57⟩) (.cons (.var 8 ⟨323, 59, 323, 73⟩) (.cons (.var 6 ⟨323, 75, 323, 84⟩) (.cons (.var 5 ⟨323, 86, 323, 96⟩) .nil))))) ⟨323, 20, 323, 34⟩ ⟨323, 20, 323, 97⟩) ⟨323, 8, 323, 97⟩)
    .nil) .nil ⟨322, 4, 323, 97⟩)
    (.cons (.store (.var 7 ⟨324, 4, 324, 14⟩) (.var 6 ⟨324, 15, 324, 24⟩) ⟨324, 4, 324, 25⟩ (.tup (.cons (.sub (.sub (.var 4 ⟨324, 29, 324, 41⟩) (.var 6 ⟨324, 42, 324, 51⟩) ⟨324, 29, 324, 52⟩) (.lit (.int 0) 0 ⟨324, 53, 324, 54⟩) ⟨324, 29, 324, 55⟩) (.cons (.sub (.sub (.var 4 ⟨324, 57, 324, 69⟩) (.var 6 ⟨324, 70, 324, 79⟩) ⟨324, 57, 324, 80⟩) (.lit (.int 1) 0 ⟨324, 81, 324, 82⟩) ⟨324, 57, 324, 83⟩) (.cons (.var 10 ⟨324, 85, 324, 94⟩) .nil))) 0 ⟨324, 28, 324, 95⟩) ⟨324, 4, 324, 95⟩)
    (.cons (.for 9 ⟨325, 8, 325, 16⟩ (.var 5 ⟨325, 20, 325, 30⟩) (.cons (.ite (.cmp (.var 9 ⟨326, 11, 326, 19⟩) .NotEq (.var 6 ⟨326, 23, 326, 32⟩) ⟨326, 11, 326, 32⟩) (.cons (.assign 11 ⟨327, 12, 327, 23⟩ (.call "fault" (.cons (.var 4 ⟨327, 32, 327, 44⟩) (.cons (.var 9 ⟨327, 46, 327, 54⟩) .nil)) ⟨327, 26, 327, 31⟩ ⟨327, 26, 327, 55⟩) ⟨327, 12, 327, 55⟩)
    (.cons (.assign 12 ⟨328, 12, 328, 22⟩ (.call "fault" (.cons (.var 7 ⟨328, 31, 328, 41⟩) (.cons (.var 9 ⟨328, 43, 328, 51⟩) .nil)) ⟨328, 25, 328, 30⟩ ⟨328, 25, 328, 52⟩) ⟨328, 12, 328, 52⟩)
    (.cons (.ite (.bop .Or (.cons (.bop .And (.cons (.cmp (.var 11 ⟨329, 15, 329, 26⟩) .Is (.lit .none 0 ⟨329, 30, 329, 34⟩) ⟨329, 15, 329, 34⟩) (.cons (.cmp (.var 12 ⟨329, 39, 329, 49⟩) .IsNot (.lit .none 0 ⟨329, 57, 329, 61⟩) ⟨329, 39, 329, 61⟩) .nil)) ⟨329, 15, 329, 61⟩) (.cons (.bop .And (.cons (.cmp (.var 11 ⟨329, 66, 329, 77⟩) .IsNot (.lit .none 0 ⟨329, 85, 329, 89⟩) ⟨329, 66, 329, 89⟩) (.cons (.cmp (.var 12 ⟨329, 94, 329, 104⟩) .Is (.lit .none 0 ⟨329, 108, 329, 112⟩) ⟨329, 94, 329, 112⟩) .nil)) ⟨329, 66, 329, 112⟩) .nil)) ⟨329, 15, 329, 113⟩) (.cons (.ret (.lit (.bool false) 0 ⟨330, 23, 330, 28⟩) ⟨330, 16, 330, 28⟩)
    .nil) .nil ⟨329, 12, 330, 28⟩)
    (.cons (.ite (.bop .And (.cons (.cmp (.var 11 ⟨331, 15, 331, 26⟩) .IsNot (.lit .none 0 ⟨331, 34, 331, 38⟩) ⟨331, 15, 331, 38⟩) (.cons (.bop .Or (.cons (.not (.isi (.var 12 ⟨331, 59, 331, 69⟩) .tuple ⟨331, 48, 331, 58⟩ ⟨331, 71, 331, 76⟩ default default ⟨331, 48, 331, 77⟩) ⟨331, 44, 331, 77⟩) (.cons (.cmp (.var 12 ⟨331, 81, 331, 91⟩) .NotEq (.var 11 ⟨331, 95, 331, 106⟩) ⟨331, 81, 331, 106⟩) .nil)) ⟨331, 44, 331, 106⟩) .nil)) ⟨331, 15, 331, 107⟩) (.cons (.ret (.lit (.bool false) 0 ⟨332, 23, 332, 28⟩) ⟨332, 16, 332, 28⟩)
    .nil) .nil ⟨331, 12, 332, 28⟩)
    .nil)))) .nil ⟨326, 8, 332, 28⟩)
    .nil) ⟨325, 4, 332, 28⟩)
    (.cons (.for 9 ⟨333, 8, 333, 16⟩ (.var 5 ⟨333, 20, 333, 30⟩) (.cons (.ite (.bop .Or (.cons (.bop .And (.cons (.cmp (.var 2 ⟨334, 11, 334, 19⟩) .Gt (.lit (.int 4) 0 ⟨334, 22, 334, 23⟩) ⟨334, 11, 334, 23⟩) (.cons (.not (.call "let_by" (.cons (.var 4 ⟨334, 40, 334, 52⟩) (.cons (.var 9 ⟨334, 54, 334, 62⟩) .nil)) ⟨334, 33, 334, 39⟩ ⟨334, 33, 334, 63⟩) ⟨334, 29, 334, 63⟩) .nil)) ⟨334, 11, 334, 64⟩) (.cons (.bop .And (.cons (.cmp (.var 2 ⟨334, 69, 334, 77⟩) .Gt (.lit (.int 4) 0 ⟨334, 80, 334, 81⟩) ⟨334, 69, 334, 81⟩) (.cons (.cmp (.var 3 ⟨334, 86, 334, 95⟩) .Gt (.lit (.int 0) 0 ⟨334, 98, 334, 99⟩) ⟨334, 86, 334, 99⟩) (.cons (.not (.call "let_by" (.cons (.var 7 ⟨334, 116, 334, 126⟩) (.cons (.var 9 ⟨334, 128, 334, 136⟩) .nil)) ⟨334, 109, 334, 115⟩ ⟨334, 109, 334, 137⟩) ⟨334, 105, 334, 137⟩) .nil))) ⟨334, 69, 334, 138⟩) .nil)) ⟨334, 11, 334, 139⟩) (.cons (.ret (.lit (.bool false) 0 ⟨335, 19, 335, 24⟩) ⟨335, 12, 335, 24⟩)
    .nil) .nil ⟨334, 8, 335, 24⟩)
    .nil) ⟨333, 4, 335, 24⟩)
    (.cons (.ret (.lit (.bool true) 0 ⟨336, 11, 336, 15⟩) ⟨336, 4, 336, 15⟩)
    .nil))))))))))))))))
noncomputable def S_law : Scope := {
              kind := PySem.ScopeKind.function,
              names := [
                (PySem.Str.ofString "_law_script", PySem.NameKind.local),
                (PySem.Str.ofString "_law_tape", PySem.NameKind.local),
                (PySem.Str.ofString "_law_way", PySem.NameKind.local),
                (PySem.Str.ofString "_law_anew", PySem.NameKind.local),
                (PySem.Str.ofString "_law_program", PySem.NameKind.local),
                (PySem.Str.ofString "_law_names", PySem.NameKind.local),
                (PySem.Str.ofString "_law_name", PySem.NameKind.local),
                (PySem.Str.ofString "_law_other", PySem.NameKind.local),
                (PySem.Str.ofString "_law_told_here", PySem.NameKind.local),
                (PySem.Str.ofString "_law_one", PySem.NameKind.local),
                (PySem.Str.ofString "_law_rows", PySem.NameKind.local),
                (PySem.Str.ofString "_law_before", PySem.NameKind.local),
                (PySem.Str.ofString "_law_after", PySem.NameKind.local),
                (PySem.Str.ofString "_law_draw", PySem.NameKind.globalImplicit),
                (PySem.Str.ofString "_law_good_program", PySem.NameKind.globalImplicit),
                (PySem.Str.ofString "_law_spoilt", PySem.NameKind.globalImplicit),
                (PySem.Str.ofString "list", PySem.NameKind.globalImplicit),
                (PySem.Str.ofString "len", PySem.NameKind.globalImplicit),
                (PySem.Str.ofString "_law_copy", PySem.NameKind.globalImplicit),
                (PySem.Str.ofString "_law_good_rows", PySem.NameKind.globalImplicit),
                (PySem.Str.ofString "fault", PySem.NameKind.globalImplicit),
                (PySem.Str.ofString "isinstance", PySem.NameKind.globalImplicit),
                (PySem.Str.ofString "tuple", PySem.NameKind.globalImplicit),
                (PySem.Str.ofString "let_by", PySem.NameKind.globalImplicit)],
              isGenerator := false,
              isCoroutine := false,
              more := [] : PySem.Scope }

end Mine
end
section
open PySem PySem.W PySem.Calls PyProof.Rows
namespace Mine
set_option autoImplicit false
set_option maxRecDepth 100000
theorem R_taken : ∃ d ∈ recsOf _root_.Mine.hd.view_39, d.name = "taken" ∧ d.body = B_taken.toSs N_taken ∧ d.scope = S_taken ∧ ∀ (pm code doc : Value) (vals : List Value), vals.length = 2 → bindArgs (docDef d.name d.params d.body d.scope pm code doc) ⟨vals, []⟩ = pure ((N_taken.take 2).zip vals) := by
  refine ⟨(recsOf _root_.Mine.hd.view_39)[0]'(by decide +kernel), List.getElem_mem _, by kernel_rfl, by kernel_rfl, by kernel_rfl, fun pm code doc vals h => ?_⟩
  match vals, h with
  | [v0, v1], _ => kernel_rfl

theorem R_block_of : ∃ d ∈ recsOf _root_.Mine.hd.view_39, d.name = "block_of" ∧ d.body = B_block_of.toSs N_block_of ∧ d.scope = S_block_of ∧ ∀ (pm code doc : Value) (vals : List Value), vals.length = 2 → bindArgs (docDef d.name d.params d.body d.scope pm code doc) ⟨vals, []⟩ = pure ((N_block_of.take 2).zip vals) := by
  refine ⟨(recsOf _root_.Mine.hd.view_39)[1]'(by decide +kernel), List.getElem_mem _, by kernel_rfl, by kernel_rfl, by kernel_rfl, fun pm code doc vals h => ?_⟩
  match vals, h with
  | [v0, v1], _ => kernel_rfl

theorem R_called : ∃ d ∈ recsOf _root_.Mine.hd.view_39, d.name = "called" ∧ d.body = B_called.toSs N_called ∧ d.scope = S_called ∧ ∀ (pm code doc : Value) (vals : List Value), vals.length = 3 → bindArgs (docDef d.name d.params d.body d.scope pm code doc) ⟨vals, []⟩ = pure ((N_called.take 3).zip vals) := by
  refine ⟨(recsOf _root_.Mine.hd.view_39)[2]'(by decide +kernel), List.getElem_mem _, by kernel_rfl, by kernel_rfl, by kernel_rfl, fun pm code doc vals h => ?_⟩
  match vals, h with
  | [v0, v1, v2], _ => kernel_rfl

theorem R_moved : ∃ d ∈ recsOf _root_.Mine.hd.view_39, d.name = "moved" ∧ d.body = B_moved.toSs N_moved ∧ d.scope = S_moved ∧ ∀ (pm code doc : Value) (vals : List Value), vals.length = 2 → bindArgs (docDef d.name d.params d.body d.scope pm code doc) ⟨vals, []⟩ = pure ((N_moved.take 2).zip vals) := by
  refine ⟨(recsOf _root_.Mine.hd.view_39)[3]'(by decide +kernel), List.getElem_mem _, by kernel_rfl, by kernel_rfl, by kernel_rfl, fun pm code doc vals h => ?_⟩
  match vals, h with
  | [v0, v1], _ => kernel_rfl

theorem R_behind : ∃ d ∈ recsOf _root_.Mine.hd.view_39, d.name = "behind" ∧ d.body = B_behind.toSs N_behind ∧ d.scope = S_behind ∧ ∀ (pm code doc : Value) (vals : List Value), vals.length = 3 → bindArgs (docDef d.name d.params d.body d.scope pm code doc) ⟨vals, []⟩ = pure ((N_behind.take 3).zip vals) := by
  refine ⟨(recsOf _root_.Mine.hd.view_39)[4]'(by decide +kernel), List.getElem_mem _, by kernel_rfl, by kernel_rfl, by kernel_rfl, fun pm code doc vals h => ?_⟩
  match vals, h with
  | [v0, v1, v2], _ => kernel_rfl

theorem R_looked : ∃ d ∈ recsOf _root_.Mine.hd.view_39, d.name = "looked" ∧ d.body = B_looked.toSs N_looked ∧ d.scope = S_looked ∧ ∀ (pm code doc : Value) (vals : List Value), vals.length = 2 → bindArgs (docDef d.name d.params d.body d.scope pm code doc) ⟨vals, []⟩ = pure ((N_looked.take 2).zip vals) := by
  refine ⟨(recsOf _root_.Mine.hd.view_39)[5]'(by decide +kernel), List.getElem_mem _, by kernel_rfl, by kernel_rfl, by kernel_rfl, fun pm code doc vals h => ?_⟩
  match vals, h with
  | [v0, v1], _ => kernel_rfl

theorem R_fault : ∃ d ∈ recsOf _root_.Mine.hd.view_39, d.name = "fault" ∧ d.body = B_fault.toSs N_fault ∧ d.scope = S_fault ∧ ∀ (pm code doc : Value) (vals : List Value), vals.length = 2 → bindArgs (docDef d.name d.params d.body d.scope pm code doc) ⟨vals, []⟩ = pure ((N_fault.take 2).zip vals) := by
  refine ⟨(recsOf _root_.Mine.hd.view_39)[6]'(by decide +kernel), List.getElem_mem _, by kernel_rfl, by kernel_rfl, by kernel_rfl, fun pm code doc vals h => ?_⟩
  match vals, h with
  | [v0, v1], _ => kernel_rfl

theorem R_named : ∃ d ∈ recsOf _root_.Mine.hd.view_39, d.name = "named" ∧ d.body = B_named.toSs N_named ∧ d.scope = S_named ∧ ∀ (pm code doc : Value) (vals : List Value), vals.length = 1 → bindArgs (docDef d.name d.params d.body d.scope pm code doc) ⟨vals, []⟩ = pure ((N_named.take 1).zip vals) := by
  refine ⟨(recsOf _root_.Mine.hd.view_39)[7]'(by decide +kernel), List.getElem_mem _, by kernel_rfl, by kernel_rfl, by kernel_rfl, fun pm code doc vals h => ?_⟩
  match vals, h with
  | [v0], _ => kernel_rfl

theorem R_come_to : ∃ d ∈ recsOf _root_.Mine.hd.view_39, d.name = "come_to" ∧ d.body = B_come_to.toSs N_come_to ∧ d.scope = S_come_to ∧ ∀ (pm code doc : Value) (vals : List Value), vals.length = 2 → bindArgs (docDef d.name d.params d.body d.scope pm code doc) ⟨vals, []⟩ = pure ((N_come_to.take 2).zip vals) := by
  refine ⟨(recsOf _root_.Mine.hd.view_39)[8]'(by decide +kernel), List.getElem_mem _, by kernel_rfl, by kernel_rfl, by kernel_rfl, fun pm code doc vals h => ?_⟩
  match vals, h with
  | [v0, v1], _ => kernel_rfl

theorem R_let_by : ∃ d ∈ recsOf _root_.Mine.hd.view_39, d.name = "let_by" ∧ d.body = B_let_by.toSs N_let_by ∧ d.scope = S_let_by ∧ ∀ (pm code doc : Value) (vals : List Value), vals.length = 2 → bindArgs (docDef d.name d.params d.body d.scope pm code doc) ⟨vals, []⟩ = pure ((N_let_by.take 2).zip vals) := by
  refine ⟨(recsOf _root_.Mine.hd.view_39)[9]'(by decide +kernel), List.getElem_mem _, by kernel_rfl, by kernel_rfl, by kernel_rfl, fun pm code doc vals h => ?_⟩
  match vals, h with
  | [v0, v1], _ => kernel_rfl

theorem R_law_draw : ∃ d ∈ recsOf _root_.Mine.hd.view_39, d.name = "_law_draw" ∧ d.body = B_law_draw.toSs N_law_draw ∧ d.scope = S_law_draw ∧ ∀ (pm code doc : Value) (vals : List Value), vals.length = 3 → bindArgs (docDef d.name d.params d.body d.scope pm code doc) ⟨vals, []⟩ = pure ((N_law_draw.take 3).zip vals) := by
  refine ⟨(recsOf _root_.Mine.hd.view_39)[10]'(by decide +kernel), List.getElem_mem _, by kernel_rfl, by kernel_rfl, by kernel_rfl, fun pm code doc vals h => ?_⟩
  match vals, h with
  | [v0, v1, v2], _ => kernel_rfl

theorem R_law_words : ∃ d ∈ recsOf _root_.Mine.hd.view_39, d.name = "_law_words" ∧ d.body = B_law_words.toSs N_law_words ∧ d.scope = S_law_words ∧ ∀ (pm code doc : Value) (vals : List Value), vals.length = 2 → bindArgs (docDef d.name d.params d.body d.scope pm code doc) ⟨vals, []⟩ = pure ((N_law_words.take 2).zip vals) := by
  refine ⟨(recsOf _root_.Mine.hd.view_39)[11]'(by decide +kernel), List.getElem_mem _, by kernel_rfl, by kernel_rfl, by kernel_rfl, fun pm code doc vals h => ?_⟩
  match vals, h with
  | [v0, v1], _ => kernel_rfl

theorem R_law_value : ∃ d ∈ recsOf _root_.Mine.hd.view_39, d.name = "_law_value" ∧ d.body = B_law_value.toSs N_law_value ∧ d.scope = S_law_value ∧ ∀ (pm code doc : Value) (vals : List Value), vals.length = 3 → bindArgs (docDef d.name d.params d.body d.scope pm code doc) ⟨vals, []⟩ = pure ((N_law_value.take 3).zip vals) := by
  refine ⟨(recsOf _root_.Mine.hd.view_39)[12]'(by decide +kernel), List.getElem_mem _, by kernel_rfl, by kernel_rfl, by kernel_rfl, fun pm code doc vals h => ?_⟩
  match vals, h with
  | [v0, v1, v2], _ => kernel_rfl

theorem R_law_wanted : ∃ d ∈ recsOf _root_.Mine.hd.view_39, d.name = "_law_wanted" ∧ d.body = B_law_wanted.toSs N_law_wanted ∧ d.scope = S_law_wanted ∧ ∀ (pm code doc : Value) (vals : List Value), vals.length = 1 → bindArgs (docDef d.name d.params d.body d.scope pm code doc) ⟨vals, []⟩ = pure ((N_law_wanted.take 1).zip vals) := by
  refine ⟨(recsOf _root_.Mine.hd.view_39)[13]'(by decide +kernel), List.getElem_mem _, by kernel_rfl, by kernel_rfl, by kernel_rfl, fun pm code doc vals h => ?_⟩
  match vals, h with
  | [v0], _ => kernel_rfl

theorem R_law_lack : ∃ d ∈ recsOf _root_.Mine.hd.view_39, d.name = "_law_lack" ∧ d.body = B_law_lack.toSs N_law_lack ∧ d.scope = S_law_lack ∧ ∀ (pm code doc : Value) (vals : List Value), vals.length = 2 → bindArgs (docDef d.name d.params d.body d.scope pm code doc) ⟨vals, []⟩ = pure ((N_law_lack.take 2).zip vals) := by
  refine ⟨(recsOf _root_.Mine.hd.view_39)[14]'(by decide +kernel), List.getElem_mem _, by kernel_rfl, by kernel_rfl, by kernel_rfl, fun pm code doc vals h => ?_⟩
  match vals, h with
  | [v0, v1], _ => kernel_rfl

theorem R_law_plainly : ∃ d ∈ recsOf _root_.Mine.hd.view_39, d.name = "_law_plainly" ∧ d.body = B_law_plainly.toSs N_law_plainly ∧ d.scope = S_law_plainly ∧ ∀ (pm code doc : Value) (vals : List Value), vals.length = 2 → bindArgs (docDef d.name d.params d.body d.scope pm code doc) ⟨vals, []⟩ = pure ((N_law_plainly.take 2).zip vals) := by
  refine ⟨(recsOf _root_.Mine.hd.view_39)[15]'(by decide +kernel), List.getElem_mem _, by kernel_rfl, by kernel_rfl, by kernel_rfl, fun pm code doc vals h => ?_⟩
  match vals, h with
  | [v0, v1], _ => kernel_rfl

theorem R_law_called : ∃ d ∈ recsOf _root_.Mine.hd.view_39, d.name = "_law_called" ∧ d.body = B_law_called.toSs N_law_called ∧ d.scope = S_law_called ∧ ∀ (pm code doc : Value) (vals : List Value), vals.length = 3 → bindArgs (docDef d.name d.params d.body d.scope pm code doc) ⟨vals, []⟩ = pure ((N_law_called.take 3).zip vals) := by
  refine ⟨(recsOf _root_.Mine.hd.view_39)[16]'(by decide +kernel), List.getElem_mem _, by kernel_rfl, by kernel_rfl, by kernel_rfl, fun pm code doc vals h => ?_⟩
  match vals, h with
  | [v0, v1, v2], _ => kernel_rfl

theorem R_law_next : ∃ d ∈ recsOf _root_.Mine.hd.view_39, d.name = "_law_next" ∧ d.body = B_law_next.toSs N_law_next ∧ d.scope = S_law_next ∧ ∀ (pm code doc : Value) (vals : List Value), vals.length = 3 → bindArgs (docDef d.name d.params d.body d.scope pm code doc) ⟨vals, []⟩ = pure ((N_law_next.take 3).zip vals) := by
  refine ⟨(recsOf _root_.Mine.hd.view_39)[17]'(by decide +kernel), List.getElem_mem _, by kernel_rfl, by kernel_rfl, by kernel_rfl, fun pm code doc vals h => ?_⟩
  match vals, h with
  | [v0, v1, v2], _ => kernel_rfl

theorem R_law_plain_row : ∃ d ∈ recsOf _root_.Mine.hd.view_39, d.name = "_law_plain_row" ∧ d.body = B_law_plain_row.toSs N_law_plain_row ∧ d.scope = S_law_plain_row ∧ ∀ (pm code doc : Value) (vals : List Value), vals.length = 2 → bindArgs (docDef d.name d.params d.body d.scope pm code doc) ⟨vals, []⟩ = pure ((N_law_plain_row.take 2).zip vals) := by
  refine ⟨(recsOf _root_.Mine.hd.view_39)[18]'(by decide +kernel), List.getElem_mem _, by kernel_rfl, by kernel_rfl, by kernel_rfl, fun pm code doc vals h => ?_⟩
  match vals, h with
  | [v0, v1], _ => kernel_rfl

theorem R_law_kinds : ∃ d ∈ recsOf _root_.Mine.hd.view_39, d.name = "_law_kinds" ∧ d.body = B_law_kinds.toSs N_law_kinds ∧ d.scope = S_law_kinds ∧ ∀ (pm code doc : Value) (vals : List Value), vals.length = 2 → bindArgs (docDef d.name d.params d.body d.scope pm code doc) ⟨vals, []⟩ = pure ((N_law_kinds.take 2).zip vals) := by
  refine ⟨(recsOf _root_.Mine.hd.view_39)[19]'(by decide +kernel), List.getElem_mem _, by kernel_rfl, by kernel_rfl, by kernel_rfl, fun pm code doc vals h => ?_⟩
  match vals, h with
  | [v0, v1], _ => kernel_rfl

theorem R_law_told : ∃ d ∈ recsOf _root_.Mine.hd.view_39, d.name = "_law_told" ∧ d.body = B_law_told.toSs N_law_told ∧ d.scope = S_law_told ∧ ∀ (pm code doc : Value) (vals : List Value), vals.length = 2 → bindArgs (docDef d.name d.params d.body d.scope pm code doc) ⟨vals, []⟩ = pure ((N_law_told.take 2).zip vals) := by
  refine ⟨(recsOf _root_.Mine.hd.view_39)[20]'(by decide +kernel), List.getElem_mem _, by kernel_rfl, by kernel_rfl, by kernel_rfl, fun pm code doc vals h => ?_⟩
  match vals, h with
  | [v0, v1], _ => kernel_rfl

theorem R_law_pushes : ∃ d ∈ recsOf _root_.Mine.hd.view_39, d.name = "_law_pushes" ∧ d.body = B_law_pushes.toSs N_law_pushes ∧ d.scope = S_law_pushes ∧ ∀ (pm code doc : Value) (vals : List Value), vals.length = 3 → bindArgs (docDef d.name d.params d.body d.scope pm code doc) ⟨vals, []⟩ = pure ((N_law_pushes.take 3).zip vals) := by
  refine ⟨(recsOf _root_.Mine.hd.view_39)[21]'(by decide +kernel), List.getElem_mem _, by kernel_rfl, by kernel_rfl, by kernel_rfl, fun pm code doc vals h => ?_⟩
  match vals, h with
  | [v0, v1, v2], _ => kernel_rfl

theorem R_law_choice : ∃ d ∈ recsOf _root_.Mine.hd.view_39, d.name = "_law_choice" ∧ d.body = B_law_choice.toSs N_law_choice ∧ d.scope = S_law_choice ∧ ∀ (pm code doc : Value) (vals : List Value), vals.length = 5 → bindArgs (docDef d.name d.params d.body d.scope pm code doc) ⟨vals, []⟩ = pure ((N_law_choice.take 5).zip vals) := by
  refine ⟨(recsOf _root_.Mine.hd.view_39)[22]'(by decide +kernel), List.getElem_mem _, by kernel_rfl, by kernel_rfl, by kernel_rfl, fun pm code doc vals h => ?_⟩
  match vals, h with
  | [v0, v1, v2, v3, v4], _ => kernel_rfl

theorem R_law_fitting : ∃ d ∈ recsOf _root_.Mine.hd.view_39, d.name = "_law_fitting" ∧ d.body = B_law_fitting.toSs N_law_fitting ∧ d.scope = S_law_fitting ∧ ∀ (pm code doc : Value) (vals : List Value), vals.length = 5 → bindArgs (docDef d.name d.params d.body d.scope pm code doc) ⟨vals, []⟩ = pure ((N_law_fitting.take 5).zip vals) := by
  refine ⟨(recsOf _root_.Mine.hd.view_39)[23]'(by decide +kernel), List.getElem_mem _, by kernel_rfl, by kernel_rfl, by kernel_rfl, fun pm code doc vals h => ?_⟩
  match vals, h with
  | [v0, v1, v2, v3, v4], _ => kernel_rfl

theorem R_law_good_rows : ∃ d ∈ recsOf _root_.Mine.hd.view_39, d.name = "_law_good_rows" ∧ d.body = B_law_good_rows.toSs N_law_good_rows ∧ d.scope = S_law_good_rows ∧ ∀ (pm code doc : Value) (vals : List Value), vals.length = 5 → bindArgs (docDef d.name d.params d.body d.scope pm code doc) ⟨vals, []⟩ = pure ((N_law_good_rows.take 5).zip vals) := by
  refine ⟨(recsOf _root_.Mine.hd.view_39)[24]'(by decide +kernel), List.getElem_mem _, by kernel_rfl, by kernel_rfl, by kernel_rfl, fun pm code doc vals h => ?_⟩
  match vals, h with
  | [v0, v1, v2, v3, v4], _ => kernel_rfl

theorem R_law_good_program : ∃ d ∈ recsOf _root_.Mine.hd.view_39, d.name = "_law_good_program" ∧ d.body = B_law_good_program.toSs N_law_good_program ∧ d.scope = S_law_good_program ∧ ∀ (pm code doc : Value) (vals : List Value), vals.length = 2 → bindArgs (docDef d.name d.params d.body d.scope pm code doc) ⟨vals, []⟩ = pure ((N_law_good_program.take 2).zip vals) := by
  refine ⟨(recsOf _root_.Mine.hd.view_39)[25]'(by decide +kernel), List.getElem_mem _, by kernel_rfl, by kernel_rfl, by kernel_rfl, fun pm code doc vals h => ?_⟩
  match vals, h with
  | [v0, v1], _ => kernel_rfl

theorem R_law_raw_row : ∃ d ∈ recsOf _root_.Mine.hd.view_39, d.name = "_law_raw_row" ∧ d.body = B_law_raw_row.toSs N_law_raw_row ∧ d.scope = S_law_raw_row ∧ ∀ (pm code doc : Value) (vals : List Value), vals.length = 3 → bindArgs (docDef d.name d.params d.body d.scope pm code doc) ⟨vals, []⟩ = pure ((N_law_raw_row.take 3).zip vals) := by
  refine ⟨(recsOf _root_.Mine.hd.view_39)[26]'(by decide +kernel), List.getElem_mem _, by kernel_rfl, by kernel_rfl, by kernel_rfl, fun pm code doc vals h => ?_⟩
  match vals, h with
  | [v0, v1, v2], _ => kernel_rfl

theorem R_law_spoilt : ∃ d ∈ recsOf _root_.Mine.hd.view_39, d.name = "_law_spoilt" ∧ d.body = B_law_spoilt.toSs N_law_spoilt ∧ d.scope = S_law_spoilt ∧ ∀ (pm code doc : Value) (vals : List Value), vals.length = 3 → bindArgs (docDef d.name d.params d.body d.scope pm code doc) ⟨vals, []⟩ = pure ((N_law_spoilt.take 3).zip vals) := by
  refine ⟨(recsOf _root_.Mine.hd.view_39)[27]'(by decide +kernel), List.getElem_mem _, by kernel_rfl, by kernel_rfl, by kernel_rfl, fun pm code doc vals h => ?_⟩
  match vals, h with
  | [v0, v1, v2], _ => kernel_rfl

theorem R_law_copy : ∃ d ∈ recsOf _root_.Mine.hd.view_39, d.name = "_law_copy" ∧ d.body = B_law_copy.toSs N_law_copy ∧ d.scope = S_law_copy ∧ ∀ (pm code doc : Value) (vals : List Value), vals.length = 1 → bindArgs (docDef d.name d.params d.body d.scope pm code doc) ⟨vals, []⟩ = pure ((N_law_copy.take 1).zip vals) := by
  refine ⟨(recsOf _root_.Mine.hd.view_39)[28]'(by decide +kernel), List.getElem_mem _, by kernel_rfl, by kernel_rfl, by kernel_rfl, fun pm code doc vals h => ?_⟩
  match vals, h with
  | [v0], _ => kernel_rfl

theorem R_law_walked : ∃ d ∈ recsOf _root_.Mine.hd.view_39, d.name = "_law_walked" ∧ d.body = B_law_walked.toSs N_law_walked ∧ d.scope = S_law_walked ∧ ∀ (pm code doc : Value) (vals : List Value), vals.length = 2 → bindArgs (docDef d.name d.params d.body d.scope pm code doc) ⟨vals, []⟩ = pure ((N_law_walked.take 2).zip vals) := by
  refine ⟨(recsOf _root_.Mine.hd.view_39)[29]'(by decide +kernel), List.getElem_mem _, by kernel_rfl, by kernel_rfl, by kernel_rfl, fun pm code doc vals h => ?_⟩
  match vals, h with
  | [v0, v1], _ => kernel_rfl

theorem R_law : ∃ d ∈ recsOf _root_.Mine.hd.view_39, d.name = "law" ∧ d.body = B_law.toSs N_law ∧ d.scope = S_law ∧ ∀ (pm code doc : Value) (vals : List Value), vals.length = 1 → bindArgs (docDef d.name d.params d.body d.scope pm code doc) ⟨vals, []⟩ = pure ((N_law.take 1).zip vals) := by
  refine ⟨(recsOf _root_.Mine.hd.view_39)[30]'(by decide +kernel), List.getElem_mem _, by kernel_rfl, by kernel_rfl, by kernel_rfl, fun pm code doc vals h => ?_⟩
  match vals, h with
  | [v0], _ => kernel_rfl

end Mine
end
section
open PySem PySem.W PySem.Calls PyProof.Rows
namespace Mine
set_option autoImplicit false
set_option maxRecDepth 100000
noncomputable def P0 : Params := { strHash := fun _ => 0, shareClass := fun _ => 0, mergeTok := id, idOf := fun _ => 0, idOfShared := fun _ _ => 0, followText := fun _ => false, idOfImm := fun _ => 0 }
noncomputable def csL : List Addr := onms.map fun p => refAt (_root_.Mine.hd.heap_39 P0) p.1
theorem k1 (P : Params) : ((_root_.Mine.hd.heap_39 P).lookup mainGlobals).isSome = true := by kernel_rfl
theorem k3 (P : Params) : excChk (_root_.Mine.hd.heap_39 P) csL = true := by kernel_rfl
theorem k4 (P : Params) : ownChk (_root_.Mine.hd.heap_39 P) csL = true := by kernel_rfl
theorem k5 (P : Params) : bltChk (_root_.Mine.hd.heap_39 P) = true := by kernel_rfl
theorem k6 : ownsChk _root_.Mine.hd.view_39 = true := by kernel_rfl
end Mine
end
section
open PySem PySem.W PySem.Calls PyProof.Rows
namespace Mine
set_option autoImplicit false

abbrev Sp := List PV → AHeap → Post → XPost → Prop

/-! what the law's rows and values are -/
inductive W where
  | num (i : Int) | text (s : Str) | add | mul | less | join | long | show | swap | drop | copy (n : Nat)
noncomputable def W.row : W → List PV
  | .num i => [.str "num", .int i] | .text s => [.str "text", .str s] | .add => [.str "add"] | .mul => [.str "mul"] | .less => [.str "less"] | .join => [.str "join"] | .long => [.str "long"]
  | .show => [.str "show"] | .swap => [.str "swap"] | .drop => [.str "drop"] | .copy n => [.str "copy", .int n]
noncomputable def W.ok : W → Prop
  | .num i => 0 ≤ i ∧ i < 1000000000 | .text s => s.length ≤ 60 | .copy n => n ≤ 60 | _ => True
noncomputable def Okv (v : PV) : Prop := (∃ i, v = .int i ∧ 0 ≤ i ∧ i < 1000000000) ∨ ∃ s, v = .str s ∧ s.length ≤ 60
noncomputable def kindS : PV → Str
  | .str _ => "text"
  | _ => "num"
noncomputable def wantedS : W → List Str
  | .copy n => List.replicate (n + 1) "" | .add => ["num", "num"] | .mul => ["num", "num"] | .less => ["num", "num"] | .join => ["text", "text"] | .swap => ["", ""] | .long => ["text"] | .show => ["num"] | .drop => [""] | _ => []
noncomputable def lackS (kinds wanted : List Str) : Str :=
  if kinds.length < wanted.length then "empty" else if (wanted.zip (kinds.drop (kinds.length - wanted.length))).any (fun p => !(p.1 == ("" : Str)) && !(p.1 == p.2)) then "kind" else ""
noncomputable def cut60 (s : Str) : Str := ⟨(s.cps.toList.take (cutAt s.length 60)).toArray⟩
/-- what a row of two or one makes -/
inductive spDraw (ps : List PV) (H : AHeap) (Q : Post) (_ : XPost) : Prop
  | mk (xs) (t) (k) (n) (a0 : ps = [.fls xs, .obj t, .int k]) (a1 : xs.length ≤ 100) (a2 : H t = some (.tape n)) (a3 : n < 2 ^ 59) (a4 : 0 < k) (a5 : ∀ r H', 0 ≤ r → r < k → H' t = some (.tape (n + 1)) → ExtB t H H' → Q (.int r) H')
inductive spWords (ps : List PV) (H : AHeap) (Q : Post) (_ : XPost) : Prop
  | mk (c) (n) (a0 : ps = [.int c, .int n]) (a1 : 0 ≤ n) (a2 : n ≤ 100) (a3 : ∀ s H', s.length = n.toNat → Ext H H' → Q (.str s) H')
inductive spValue (ps : List PV) (H : AHeap) (Q : Post) (_ : XPost) : Prop
  | mk (xs : List Int) (t : Addr) (kd : Str) (n : Nat) (a0 : ps = [.fls xs, .obj t, .str kd]) (a1 : xs.length ≤ 100) (a2 : H t = some (.tape n)) (a3 : n < 2 ^ 58) (a4 : ∀ v H', Okv v → kindS v = (if kd == "text" then "text" else "num") → H' t = some (.tape (n + 2)) → ExtB t H H' → Q v H')
inductive spWanted (ps : List PV) (H : AHeap) (Q : Post) (_ : XPost) : Prop
  | mk (w : W) (a0 : ps = [.tup w.row]) (a1 : w.ok) (a2 : ∀ c H', H c = none → H' c = some (.list ((wantedS w).map .str)) → Ext H H' → Q (.obj c) H')
inductive spLack (ps : List PV) (H : AHeap) (Q : Post) (_ : XPost) : Prop
  | mk (a b : Addr) (ks ws : List Str) (a0 : ps = [.obj a, .obj b]) (a1 : H a = some (.list (ks.map .str))) (a2 : H b = some (.list (ws.map .str))) (a3 : ks.length ≤ 20000) (a4 : ws.length ≤ 20000) (a5 : Q (.str (lackS ks ws)) H)
inductive spPlain (ps : List PV) (H : AHeap) (Q : Post) (_ : XPost) : Prop
  | mk (xs) (t) (n) (a0 : ps = [.fls xs, .obj t]) (a1 : xs.length ≤ 100) (a2 : H t = some (.tape n)) (a3 : n < 2 ^ 57) (a4 : ∀ (w : W) n' H', w.ok → n' ≤ n + 3 → H' t = some (.tape n') → ExtB t H H' → Q (.tup w.row) H')
noncomputable def wd : W → Str
  | .num _ => "num" | .text _ => "text" | .add => "add" | .mul => "mul" | .less => "less" | .join => "join" | .long => "long" | .show => "show" | .swap => "swap" | .drop => "drop" | .copy _ => "copy"
noncomputable def putsS : W → Str
  | .join => "text" | .show => "text" | _ => "num"
noncomputable def takS : W → List Str
  | .add => ["num", "num"] | .mul => ["num", "num"] | .less => ["num", "num"] | .join => ["text", "text"] | .long => ["text"] | .show => ["num"] | _ => []
noncomputable def resK (ks : List Str) (w : W) : Except Nat (List Str) :=
  match w with
  | .num _ => .ok (ks ++ [("num" : Str)])
  | .text _ => .ok (ks ++ [("text" : Str)])
  | .copy n => (match ks.reverse[n]? with | some v => .ok (ks ++ [v]) | none => .error 1)
  | .swap => (match ks.reverse with | b :: a :: r => .ok (r.reverse ++ [b, a]) | _ => .error 1)
  | .drop => (match ks.reverse with | _ :: r => .ok r.reverse | _ => .error 1)
  | w => if ks.length < (takS w).length then .error 1 else if ks.drop (ks.length - (takS w).length) = takS w then .ok (ks.take (ks.length - (takS w).length) ++ [putsS w]) else .error 2
inductive spTaken (ps : List PV) (H : AHeap) (Q : Post) (X : XPost) : Prop
  | mk (ks ts : List Str) (a0 : ps = [.tup (ks.map .str), .tup (ts.map .str)]) (a1 : ks.length ≤ 20000) (a2 : (if ks.length < ts.length then X 1 H else if ks.drop (ks.length - ts.length) = ts then Q (.tup ((ks.take (ks.length - ts.length)).map .str)) H else X 2 H))
inductive spMoved (ps : List PV) (H : AHeap) (Q : Post) (X : XPost) : Prop
  | mk (ks : List Str) (w : W) (a0 : ps = [.tup (ks.map .str), .tup w.row]) (a1 : w.ok) (a2 : ks.length ≤ 20000) (a3 : (w = .swap ∨ w = .drop ∨ ∃ n, w = .copy n)) (a4 : match resK ks w with | .ok ys => ∀ H', Ext H H' → Q (.tup (ys.map .str)) H' | .error e => ∀ H', Ext H H' → X e H')
inductive spPlainly (ps : List PV) (H : AHeap) (Q : Post) (_ : XPost) : Prop
  | mk (a : Addr) (ks ys : List Str) (w : W) (a0 : ps = [.obj a, .tup w.row]) (a1 : w.ok) (a2 : H a = some (.list (ks.map .str))) (a3 : ks.length ≤ 20000) (a4 : resK ks w = .ok ys) (a5 : ∀ c H', H c = none → H' c = some (.list (ys.map .str)) → Ext H H' → Q (.obj c) H')
noncomputable def spNo : Sp := fun _ _ _ _ => False
inductive Rw where
  | pl (w : W) | call (n : Str) | iff (n m : Str)
noncomputable def Rw.row : Rw → List PV
  | .pl w => w.row | .call n => [.str "call", .str n] | .iff n m => [.str "if", .str n, .str m]
noncomputable def Rw.ok : Rw → Prop
  | .pl w => w.ok | _ => True
noncomputable def Rw.gain : Rw → Nat
  | .pl _ => 1 | _ => 100
noncomputable def gainL (rs : List Rw) : Nat := (rs.map Rw.gain).sum
noncomputable def rowsPV (rs : List Rw) : List PV := rs.map fun r => .tup r.row
noncomputable def RsOk (rs : List Rw) : Prop := (∀ r ∈ rs, r.ok) ∧ rs.length ≤ 4000 ∧ gainL rs ≤ 8000
noncomputable def KOk (s : Str) : Prop := s = "num" ∨ s = "text"
abbrev Bl := List Str × List Str × List PV
abbrev Pr := List (Str × Bl)
noncomputable def blk (b : Bl) : PV := .tup (.tup (b.1.map .str) :: .tup (b.2.1.map .str) :: b.2.2)
noncomputable def kvsP (es : Pr) : List (Str × PV) := es.map fun p => (p.1, blk p.2)
noncomputable def BOk (b : Bl) : Prop := (∀ s ∈ b.1, KOk s) ∧ (∀ s ∈ b.2.1, KOk s) ∧ b.1.length ≤ 100 ∧ b.2.1.length ≤ 100
structure POk (es : Pr) : Prop where
  nodup : (es.map (·.1)).Nodup
  name : ∀ p ∈ es, 0 < p.1.length ∧ p.1.length ≤ 200
  blks : ∀ p ∈ es, BOk p.2
  len : es.length ≤ 100
/-- the rows of a program lie in lists -/
noncomputable def RsSm (rs : List Rw) : Prop := (∀ r ∈ rs, r.ok) ∧ rs.length ≤ 2000 ∧ gainL rs ≤ 3000
noncomputable def RowsP (P : List Rw → Prop) (H : AHeap) (es : Pr) (rw : Str → List Rw) : Prop := ∀ q ∈ es, P (rw q.1) ∧ ∃ a, q.2.2.2 = [.obj a] ∧ H a = some (.list (rowsPV (rw q.1)))
abbrev RowsAt (H : AHeap) (es : Pr) (rw : Str → List Rw) : Prop := RowsP RsOk H es rw
noncomputable def takeK (ks ts : List Str) : Except Nat (List Str) := if ks.length < ts.length then .error 1 else if ks.drop (ks.length - ts.length) = ts then .ok (ks.take (ks.length - ts.length)) else .error 2
noncomputable def thenK (r : Except Nat (List Str)) (o : List Str) : Except Nat (List Str) := match r with | .ok l => .ok (l ++ o) | .error e => .error e
noncomputable def callK (es : Pr) (ks : List Str) (n : Str) : Except Nat (List Str) := match dget es n with | none => .error 3 | some b => thenK (takeK ks b.1) b.2.1
noncomputable def resB (es : Pr) (ks : List Str) (r : Rw) : Except Nat (List Str) :=
  match r with
  | .pl w => resK ks w
  | .call n => callK es ks n
  | .iff n m => match takeK ks ["num"] with
    | .error e => .error e
    | .ok l => match dget es n, dget es m with
      | some a, some b => if a.1 = b.1 ∧ a.2.1 = b.2.1 then callK es l n else .error 4
      | _, _ => .error 3
/-- what rows make of kinds -/
noncomputable def runK (es : Pr) : List Str → List Rw → Option (List Str)
  | ks, [] => some ks
  | ks, r :: rs => match resB es ks r with
    | .ok ys => runK es ys rs
    | .error _ => none
noncomputable def wordE : Nat → Str
  | 1 => "empty" | 2 => "kind" | 3 => "block" | _ => "apart"
/-- the kinds before each row, and what stops the walk -/
noncomputable def walkS (es : Pr) : List Str → List Rw → List (List Str) × Option Nat
  | ks, [] => ([ks], none)
  | ks, r :: rs => match resB es ks r with
    | .ok ys => (ks :: (walkS es ys rs).1, (walkS es ys rs).2)
    | .error e => ([ks], some e)
noncomputable def walkW (es : Pr) (b : Bl) (rs : List Rw) : Str := match (walkS es b.1 rs).2 with
  | some e => wordE e
  | none => if (walkS es b.1 rs).1.getLast? = some b.2.1 then "" else "end"
noncomputable def trPV (tr : List (List Str)) : List PV := tr.map fun ks => .tup (ks.map .str)
inductive spBlockOf (ps : List PV) (H : AHeap) (Q : Post) (X : XPost) : Prop
  | mk (p : Addr) (es : Pr) (n : Str) (a0 : ps = [.obj p, .str n]) (a1 : H p = some (.dict (kvsP es))) (a2 : match dget es n with | none => X 3 H | some b => Q (blk b) H)
inductive spCalled (ps : List PV) (H : AHeap) (Q : Post) (X : XPost) : Prop
  | mk (p : Addr) (es : Pr) (ks : List Str) (n : Str) (a0 : ps = [.obj p, .tup (ks.map .str), .str n]) (a1 : H p = some (.dict (kvsP es))) (a2 : POk es) (a3 : ks.length ≤ 20000) (a4 : match callK es ks n with | .ok ys => Q (.tup (ys.map .str)) H | .error e => X e H)
inductive spBehind (ps : List PV) (H : AHeap) (Q : Post) (X : XPost) : Prop
  | mk (p : Addr) (es : Pr) (ks : List Str) (r : Rw) (a0 : ps = [.obj p, .tup (ks.map .str), .tup r.row]) (a1 : H p = some (.dict (kvsP es))) (a2 : POk es) (a3 : r.ok) (a4 : ks.length ≤ 20000) (a5 : match resB es ks r with | .ok ys => ∀ H', Ext H H' → Q (.tup (ys.map .str)) H' | .error e => ∀ H', Ext H H' → X e H')
inductive spLCalled (ps : List PV) (H : AHeap) (Q : Post) (_ : XPost) : Prop
  | mk (p a : Addr) (es : Pr) (ks : List Str) (n : Str) (b : Bl) (a0 : ps = [.obj p, .obj a, .str n]) (a1 : H p = some (.dict (kvsP es))) (a2 : POk es) (a3 : H a = some (.list (ks.map .str))) (a4 : ks.length ≤ 20000) (a5 : dget es n = some b) (a6 : match takeK ks b.1 with | .ok l => ∀ c H', H c = none → H' c = some (.list ((l ++ b.2.1).map .str)) → Ext H H' → Q (.tup [.str "", .obj c]) H' | .error e => ∀ H', Ext H H' → Q (.tup [.str (wordE e), .obj a]) H')
inductive spNext (ps : List PV) (H : AHeap) (Q : Post) (_ : XPost) : Prop
  | mk (p a : Addr) (es : Pr) (ks : List Str) (r : Rw) (a0 : ps = [.obj p, .obj a, .tup r.row]) (a1 : H p = some (.dict (kvsP es))) (a2 : POk es) (a3 : r.ok) (a4 : H a = some (.list (ks.map .str))) (a5 : ks.length ≤ 20000) (a6 : match resB es ks r with | .ok ys => ∀ c H', H c = none → H' c = some (.list (ys.map .str)) → Ext H H' → Q (.tup [.str "", .obj c]) H' | .error e => ∀ (c : Addr) (ks' : List Str) (H' : AHeap), (H c = none ∨ c = a) → H' c = some (.list (ks'.map .str)) → ks'.length ≤ ks.length → Ext H H' → Q (.tup [.str (wordE e), .obj c]) H')
inductive spKindsT (ps : List PV) (H : AHeap) (Q : Post) (_ : XPost) : Prop
  | mk (xs) (t) (n) (a0 : ps = [.fls xs, .obj t]) (a1 : xs.length ≤ 100) (a2 : H t = some (.tape n)) (a3 : n < 2 ^ 57) (a4 : ∀ (ks : List Str) n' H', ks.length ≤ 60 → (∀ s ∈ ks, KOk s) → n' ≤ n + 100 → H' t = some (.tape n') → ExtB t H H' → Q (.tup (ks.map .str)) H')
inductive spTold (ps : List PV) (H : AHeap) (Q : Post) (_ : XPost) : Prop
  | mk (xs) (t) (n) (a0 : ps = [.fls xs, .obj t]) (a1 : xs.length ≤ 100) (a2 : H t = some (.tape n)) (a3 : n < 2 ^ 50) (a4 : ∀ (p : Addr) (es : Pr) n' H', POk es → es ≠ [] → (∀ q ∈ es, q.2.2.2 = [] ∧ q.2.2.1.length ≤ 60) → H p = none → H' p = some (.dict (kvsP es)) → n' ≤ n + 10000 → H' t = some (.tape n') → ExtB t H H' → Q (.obj p) H')
/-- a row of kinds, in a tuple or a list -/
noncomputable def SrcK (H : AHeap) (v : PV) (ss : List Str) : Prop := v = .tup (ss.map .str) ∨ ∃ a, v = .obj a ∧ H a = some (.list (ss.map .str))
inductive spPushes (ps : List PV) (H : AHeap) (Q : Post) (_ : XPost) : Prop
  | mk (xs) (t) (n) (v) (ss) (a0 : ps = [.fls xs, .obj t, v]) (a1 : xs.length ≤ 100) (a2 : H t = some (.tape n)) (a3 : n < 2 ^ 56) (a4 : SrcK H v ss) (a5 : (∀ s ∈ ss, KOk s)) (a6 : ss.length ≤ 100) (a7 : ∀ (c : Addr) (rs : List Rw) (n' : Nat) (H' : AHeap), (∀ r ∈ rs, r.ok) → rs.length = ss.length → gainL rs = ss.length → (∀ (es : Pr) (ks : List Str), runK es ks rs = some (ks ++ ss)) → n' ≤ n + 200 → H c = none → H' c = some (.list (rowsPV rs)) → H' t = some (.tape n') → ExtB t H H' → Q (.obj c) H')
/-- names of blocks -/
noncomputable def NamesAt (H : AHeap) (a : Addr) (es : Pr) (ns : List Str) : Prop := H a = some (.list (ns.map .str)) ∧ (∀ s ∈ ns, (dget es s).isSome = true) ∧ ns.length ≤ 100
inductive spRows (lo : List Str → Prop) (B D : Nat) (ps : List PV) (H : AHeap) (Q : Post) (_ : XPost) : Prop
  | mk (xs : List Int) (t p a k : Addr) (n : Nat) (es : Pr) (ns ks : List Str) (a0 : ps = [.fls xs, .obj t, .obj p, .obj a, .obj k]) (a1 : xs.length ≤ 100) (a2 : H t = some (.tape n)) (a3 : n < B) (a4 : H p = some (.dict (kvsP es))) (a5 : POk es) (a6 : (∀ q ∈ es, q.2.2.2 = [])) (a7 : NamesAt H a es ns) (a8 : lo ns) (a9 : H k = some (.list (ks.map .str))) (a10 : ks.length ≤ 10000) (a11 : ∀ (c : Addr) (rs : List Rw) (n' : Nat) (H' : AHeap), (∀ r ∈ rs, r.ok) → rs.length ≤ 110 → gainL rs ≤ 220 → (runK es ks rs).isSome = true → n' ≤ n + D → H c = none → H' c = some (.list (rowsPV rs)) → H' t = some (.tape n') → ExtB t H H' → Q (.obj c) H')
noncomputable def spChoice : Sp := spRows (fun ns => ns ≠ []) (2 ^ 54) 390
noncomputable def spFitting : Sp := spRows (fun _ => True) (2 ^ 53) 400
inductive spGoodRows (ps : List PV) (H : AHeap) (Q : Post) (_ : XPost) : Prop
  | mk (xs : List Int) (t p a : Addr) (n : Nat) (es : Pr) (ns : List Str) (nm : Str) (a0 : ps = [.fls xs, .obj t, .obj p, .str nm, .obj a]) (a1 : xs.length ≤ 100) (a2 : H t = some (.tape n)) (a3 : n < 2 ^ 52) (a4 : H p = some (.dict (kvsP es))) (a5 : POk es) (a6 : (∀ q ∈ es, q.2.2.2 = [])) (a7 : NamesAt H a es ns) (a8 : (dget es nm).isSome = true) (a9 : ∀ (c : Addr) (rs : List Rw) (n' : Nat) (H' : AHeap), RsSm rs → (∀ i o z, dget es nm = some (i, o, z) → runK es i rs = some o) → n' ≤ n + 5000 → H c = none → H' c = some (.list (rowsPV rs)) → H' t = some (.tape n') → ExtB t H H' → Q (.obj c) H')
inductive spGoodProgram (ps : List PV) (H : AHeap) (Q : Post) (_ : XPost) : Prop
  | mk (xs) (t) (n) (a0 : ps = [.fls xs, .obj t]) (a1 : xs.length ≤ 100) (a2 : H t = some (.tape n)) (a3 : n < 2 ^ 49) (a4 : ∀ (p : Addr) (es : Pr) (rw : Str → List Rw) n' H', POk es → es ≠ [] → H p = none → H' p = some (.dict (kvsP es)) → RowsP RsSm H' es rw → (∀ q ∈ es, runK es q.2.1 (rw q.1) = some q.2.2.1) → (∀ q ∈ es, q.2.2.1.length ≤ 60) → n' ≤ n + 1000000 → H' t = some (.tape n') → ExtB t H H' → Q (.obj p) H')
inductive spRawRow (ps : List PV) (H : AHeap) (Q : Post) (_ : XPost) : Prop
  | mk (xs : List Int) (t a : Addr) (n : Nat) (ns : List Str) (a0 : ps = [.fls xs, .obj t, .obj a]) (a1 : xs.length ≤ 100) (a2 : H t = some (.tape n)) (a3 : n < 2 ^ 55) (a4 : H a = some (.list (ns.map .str))) (a5 : ns ≠ []) (a6 : ns.length ≤ 100) (a7 : (∀ s ∈ ns, 0 < s.length ∧ s.length ≤ 200)) (a8 : ∀ (r : Rw) n' H', r.ok → n' ≤ n + 10 → H' t = some (.tape n') → ExtB t H H' → Q (.tup r.row) H')
inductive spSpoilt (ps : List PV) (H : AHeap) (Q : Post) (_ : XPost) : Prop
  | mk (xs : List Int) (t p : Addr) (n : Nat) (es : Pr) (rw : Str → List Rw) (a0 : ps = [.fls xs, .obj t, .obj p]) (a1 : xs.length ≤ 100) (a2 : H t = some (.tape n)) (a3 : n < 2 ^ 52) (a4 : H p = some (.dict (kvsP es))) (a5 : POk es) (a6 : es ≠ []) (a7 : RowsP RsSm H es rw) (a7' : ∀ q ∈ es, q.2.2.1.length ≤ 60) (a8 : ∀ (es' : Pr) (rw' : Str → List Rw) (nm : Str) n' H', POk es' → es' ≠ [] → (dget es' nm).isSome = true → n' ≤ n + 1000 → H' t = some (.tape n') → H' p = some (.dict (kvsP es')) → RowsAt H' es' rw' → (∀ q ∈ es', q.2.2.1.length ≤ 60) → Q (.str nm) H')
inductive spCopy (ps : List PV) (H : AHeap) (Q : Post) (_ : XPost) : Prop
  | mk (p : Addr) (es : Pr) (rw : Str → List Rw) (a0 : ps = [.obj p]) (a1 : H p = some (.dict (kvsP es))) (a2 : POk es) (a3 : RowsAt H es rw) (a4 : ∀ (q : Addr) (fs : Pr) H', H q = none → H' q = some (.dict (kvsP fs)) → POk fs → RowsAt H' fs rw → fs.map (fun x => (x.1, x.2.1, x.2.2.1)) = es.map (fun x => (x.1, x.2.1, x.2.2.1)) → Ext H H' → Q (.obj q) H')
inductive spWalked (ps : List PV) (H : AHeap) (Q : Post) (_ : XPost) : Prop
  | mk (p : Addr) (es : Pr) (rw : Str → List Rw) (nm : Str) (b : Bl) (a0 : ps = [.obj p, .str nm]) (a1 : H p = some (.dict (kvsP es))) (a2 : POk es) (a3 : RowsAt H es rw) (a4 : dget es nm = some b) (a5 : ∀ c H', H c = none → H' c = some (.list (trPV (walkS es b.1 (rw nm)).1)) → Ext H H' → Q (.tup [.obj c, .str (walkW es b (rw nm))]) H')
/-- what fault tells -/
noncomputable def faultV (es : Pr) (b : Bl) (rs : List Rw) : PV := if walkW es b rs = "" then .none else .tup [.int (((walkS es b.1 rs).1.length : Int) - 1), .str (walkW es b rs)]
inductive spLooked (ps : List PV) (H : AHeap) (Q : Post) (_ : XPost) : Prop
  | mk (p : Addr) (es : Pr) (rw : Str → List Rw) (nm : Str) (b : Bl) (a0 : ps = [.obj p, .str nm]) (a1 : H p = some (.dict (kvsP es))) (a2 : POk es) (a3 : RowsAt H es rw) (a4 : dget es nm = some b) (a5 : ∀ c H', H c = none → H' c = some (.list (trPV (walkS es b.1 (rw nm)).1)) → Ext H H' → Q (.tup [.obj c, faultV es b (rw nm)]) H')
inductive spFault (ps : List PV) (H : AHeap) (Q : Post) (_ : XPost) : Prop
  | mk (p : Addr) (es : Pr) (rw : Str → List Rw) (nm : Str) (b : Bl) (a0 : ps = [.obj p, .str nm]) (a1 : H p = some (.dict (kvsP es))) (a2 : POk es) (a3 : RowsAt H es rw) (a4 : dget es nm = some b) (a5 : ∀ H', Ext H H' → Q (faultV es b (rw nm)) H')
noncomputable def Rw.names : Rw → List Str
  | .pl _ => [] | .call n => [n] | .iff n m => [n, m]
noncomputable def namesOf (rs : List Rw) : List Str := rs.flatMap Rw.names
inductive spNamed (ps : List PV) (H : AHeap) (Q : Post) (_ : XPost) : Prop
  | mk (a : Addr) (rs : List Rw) (a0 : ps = [.obj a]) (a1 : H a = some (.list (rowsPV rs))) (a2 : rs.length ≤ 4000) (a3 : ∀ r ∈ rs, r.ok) (a4 : ∀ c H', H c = none → H' c = some (.list ((namesOf rs).map .str)) → Ext H H' → Q (.obj c) H')
/-- a program whose rows name its own blocks alone -/
noncomputable def Closed (es : Pr) (rw : Str → List Rw) : Prop := ∀ q ∈ es, ∀ s ∈ namesOf (rw q.1), (dget es s).isSome = true
inductive spComeTo (ps : List PV) (H : AHeap) (Q : Post) (_ : XPost) : Prop
  | mk (p : Addr) (es : Pr) (rw : Str → List Rw) (nm : Str) (a0 : ps = [.obj p, .str nm]) (a1 : H p = some (.dict (kvsP es))) (a2 : POk es) (a3 : RowsAt H es rw) (a4 : (dget es nm).isSome = true) (a5 : Closed es rw) (a6 : ∀ c (ns : List Str) H', H c = none → H' c = some (.list (ns.map .str)) → (∀ s ∈ ns, (dget es s).isSome = true) → ns.length ≤ 100 → Ext H H' → Q (.obj c) H')
inductive spLetBy (ps : List PV) (H : AHeap) (Q : Post) (_ : XPost) : Prop
  | mk (p : Addr) (es : Pr) (rw : Str → List Rw) (nm : Str) (a0 : ps = [.obj p, .str nm]) (a1 : H p = some (.dict (kvsP es))) (a2 : POk es) (a3 : RowsAt H es rw) (a4 : (dget es nm).isSome = true) (a5 : ∀ q ∈ es, runK es q.2.1 (rw q.1) = some q.2.2.1) (a6 : ∀ H', Ext H H' → Q (.bool true) H')
inductive spLaw (ps : List PV) (_ : AHeap) (Q : Post) (_ : XPost) : Prop
  | mk (xs) (a0 : ps = [.fls xs]) (a1 : xs.length ≤ 100) (a2 : ∀ H', Q (.bool true) H')
noncomputable def sps : List (Str × Sp) := ([("_law_draw", spDraw), ("_law_words", spWords), ("_law_value", spValue), ("_law_wanted", spWanted), ("_law_lack", spLack), ("_law_plainly", spPlainly), ("_law_plain_row", spPlain), ("taken", spTaken), ("block_of", spBlockOf), ("called", spCalled), ("moved", spMoved), ("behind", spBehind), ("_law_called", spLCalled), ("_law_next", spNext), ("_law_kinds", spKindsT)] : List (Str × Sp)) ++ ([("_law_told", spTold), ("_law_pushes", spPushes), ("_law_choice", spChoice), ("_law_fitting", spFitting), ("_law_good_rows", spGoodRows), ("_law_good_program", spGoodProgram), ("_law_raw_row", spRawRow), ("_law_spoilt", spSpoilt), ("_law_copy", spCopy), ("_law_walked", spWalked), ("looked", spLooked), ("fault", spFault), ("named", spNamed), ("come_to", spComeTo), ("let_by", spLetBy), ("law", spLaw)] : List (Str × Sp))
noncomputable def takes01 : List (Str × List Str) := [("add", ["num", "num"]), ("mul", ["num", "num"]), ("less", ["num", "num"]), ("join", ["text", "text"]), ("long", ["text"]), ("show", ["num"])]
noncomputable def puts01 : List (Str × Str) := [("add", "num"), ("mul", "num"), ("less", "num"), ("join", "text"), ("long", "num"), ("show", "text")]
noncomputable def cons01 : List (Str × PV) := [("TAKES", .fdt (takes01.map fun e => (e.1, .tup (e.2.map .str)))), ("PUTS", .fdt (puts01.map fun e => (e.1, .str e.2)))]
@[irreducible] noncomputable def c01 : CallSpec := fun f => (sps.lookup f).getD fun _ _ _ _ => False
@[irreducible] noncomputable def k01 (x : Str) : Option PV := cons01.lookup x
noncomputable def g01 : Gl := ⟨c01, k01⟩
theorem U_draw {ps : List PV} {H : AHeap} {Q : Post} {X : XPost} (h : spDraw ps H Q X) : g01.C "_law_draw" ps H Q X := by
  delta g01 c01; exact h
theorem U_words {ps : List PV} {H : AHeap} {Q : Post} {X : XPost} (h : spWords ps H Q X) : g01.C "_law_words" ps H Q X := by
  delta g01 c01; exact h
theorem U_value {ps : List PV} {H : AHeap} {Q : Post} {X : XPost} (h : spValue ps H Q X) : g01.C "_law_value" ps H Q X := by
  delta g01 c01; exact h
theorem U_wanted {ps : List PV} {H : AHeap} {Q : Post} {X : XPost} (h : spWanted ps H Q X) : g01.C "_law_wanted" ps H Q X := by
  delta g01 c01; exact h
theorem U_lack {ps : List PV} {H : AHeap} {Q : Post} {X : XPost} (h : spLack ps H Q X) : g01.C "_law_lack" ps H Q X := by
  delta g01 c01; exact h
theorem U_plainly {ps : List PV} {H : AHeap} {Q : Post} {X : XPost} (h : spPlainly ps H Q X) : g01.C "_law_plainly" ps H Q X := by
  delta g01 c01; exact h
theorem U_plain {ps : List PV} {H : AHeap} {Q : Post} {X : XPost} (h : spPlain ps H Q X) : g01.C "_law_plain_row" ps H Q X := by
  delta g01 c01; exact h
theorem U_taken {ps : List PV} {H : AHeap} {Q : Post} {X : XPost} (h : spTaken ps H Q X) : g01.C "taken" ps H Q X := by
  delta g01 c01; exact h
theorem U_blockof {ps : List PV} {H : AHeap} {Q : Post} {X : XPost} (h : spBlockOf ps H Q X) : g01.C "block_of" ps H Q X := by
  delta g01 c01; exact h
theorem U_called {ps : List PV} {H : AHeap} {Q : Post} {X : XPost} (h : spCalled ps H Q X) : g01.C "called" ps H Q X := by
  delta g01 c01; exact h
theorem U_moved {ps : List PV} {H : AHeap} {Q : Post} {X : XPost} (h : spMoved ps H Q X) : g01.C "moved" ps H Q X := by
  delta g01 c01; exact h
theorem U_behind {ps : List PV} {H : AHeap} {Q : Post} {X : XPost} (h : spBehind ps H Q X) : g01.C "behind" ps H Q X := by
  delta g01 c01; exact h
theorem U_lcalled {ps : List PV} {H : AHeap} {Q : Post} {X : XPost} (h : spLCalled ps H Q X) : g01.C "_law_called" ps H Q X := by
  delta g01 c01; exact h
theorem U_lnext {ps : List PV} {H : AHeap} {Q : Post} {X : XPost} (h : spNext ps H Q X) : g01.C "_law_next" ps H Q X := by
  delta g01 c01; exact h
theorem U_kindst {ps : List PV} {H : AHeap} {Q : Post} {X : XPost} (h : spKindsT ps H Q X) : g01.C "_law_kinds" ps H Q X := by
  delta g01 c01; exact h
theorem U_ltold {ps : List PV} {H : AHeap} {Q : Post} {X : XPost} (h : spTold ps H Q X) : g01.C "_law_told" ps H Q X := by
  delta g01 c01; exact h
theorem U_pushes {ps : List PV} {H : AHeap} {Q : Post} {X : XPost} (h : spPushes ps H Q X) : g01.C "_law_pushes" ps H Q X := by
  delta g01 c01; exact h
theorem U_choice {ps : List PV} {H : AHeap} {Q : Post} {X : XPost} (h : spChoice ps H Q X) : g01.C "_law_choice" ps H Q X := by
  delta g01 c01; exact h
theorem U_fitting {ps : List PV} {H : AHeap} {Q : Post} {X : XPost} (h : spFitting ps H Q X) : g01.C "_law_fitting" ps H Q X := by
  delta g01 c01; exact h
theorem U_goodrows {ps : List PV} {H : AHeap} {Q : Post} {X : XPost} (h : spGoodRows ps H Q X) : g01.C "_law_good_rows" ps H Q X := by
  delta g01 c01; exact h
theorem U_goodprogram {ps : List PV} {H : AHeap} {Q : Post} {X : XPost} (h : spGoodProgram ps H Q X) : g01.C "_law_good_program" ps H Q X := by
  delta g01 c01; exact h
theorem U_rawrow {ps : List PV} {H : AHeap} {Q : Post} {X : XPost} (h : spRawRow ps H Q X) : g01.C "_law_raw_row" ps H Q X := by
  delta g01 c01; exact h
theorem U_spoilt {ps : List PV} {H : AHeap} {Q : Post} {X : XPost} (h : spSpoilt ps H Q X) : g01.C "_law_spoilt" ps H Q X := by
  delta g01 c01; exact h
theorem U_lcopy {ps : List PV} {H : AHeap} {Q : Post} {X : XPost} (h : spCopy ps H Q X) : g01.C "_law_copy" ps H Q X := by
  delta g01 c01; exact h
theorem U_walked {ps : List PV} {H : AHeap} {Q : Post} {X : XPost} (h : spWalked ps H Q X) : g01.C "_law_walked" ps H Q X := by
  delta g01 c01; exact h
theorem U_looked {ps : List PV} {H : AHeap} {Q : Post} {X : XPost} (h : spLooked ps H Q X) : g01.C "looked" ps H Q X := by
  delta g01 c01; exact h
theorem U_fault {ps : List PV} {H : AHeap} {Q : Post} {X : XPost} (h : spFault ps H Q X) : g01.C "fault" ps H Q X := by
  delta g01 c01; exact h
theorem U_named {ps : List PV} {H : AHeap} {Q : Post} {X : XPost} (h : spNamed ps H Q X) : g01.C "named" ps H Q X := by
  delta g01 c01; exact h
theorem U_cometo {ps : List PV} {H : AHeap} {Q : Post} {X : XPost} (h : spComeTo ps H Q X) : g01.C "come_to" ps H Q X := by
  delta g01 c01; exact h
theorem U_letby {ps : List PV} {H : AHeap} {Q : Post} {X : XPost} (h : spLetBy ps H Q X) : g01.C "let_by" ps H Q X := by
  delta g01 c01; exact h
theorem U_law {ps : List PV} {H : AHeap} {Q : Post} {X : XPost} (h : spLaw ps H Q X) : g01.C "law" ps H Q X := by
  delta g01 c01; exact h
theorem G_takes : g01.G "TAKES" = some (.fdt (takes01.map fun e => (e.1, .tup (e.2.map .str)))) := by delta g01 k01; rfl
theorem G_puts : g01.G "PUTS" = some (.fdt (puts01.map fun e => (e.1, .str e.2))) := by delta g01 k01; rfl
noncomputable def Ver (sp : Sp) (B : ASs) (nm : List Str) (np : Nat) : Prop := ∀ {ps : List PV} {H : AHeap} {Q : Post} {X : XPost}, sp ps H Q X → ps.length = np ∧ awpSs g01 B (fun _ H => Q .none H) Q (fun c _ H => X c H) (initL nm np ps) H
theorem draw_ok : Ver spDraw B_law_draw N_law_draw 3 := by
  intro ps H Q X h
  obtain ⟨xs, t, k, n, rfl, hl, ht, hn, hk, hQ⟩ := h
  have hB : (2 : Nat) ^ 59 = 576460752303423488 := by decide
  have hB' : (2 : Nat) ^ 60 = 1152921504606846976 := by decide
  refine ⟨rfl, ?_⟩
  refine O_subTape ht ?_
  refine O_storeT ht (by first | decide | lia | omega) fun H₁ h₁ e₁ => ?_
  have e : ((n : Int) + 1).toNat = n + 1 := by first | decide | lia | omega
  rw [e] at h₁
  refine O_subTape h₁ ?_
  refine O_ite (fun _ => ?_) (fun _ => ?_)
  · rename_i hle
    simp only [decide_eq_true_eq] at hle
    have hlt : n < xs.length := by first | decide | lia | omega
    refine O_subTape h₁ ?_
    refine O_subFls (itemAt_nat (n := n) (by first | decide | lia | omega) (List.getElem?_eq_getElem hlt)) ?_
    refine O_modI hk ?_
    exact hQ _ _ (mod_lt hk).1 (mod_lt hk).2 h₁ e₁
  · refine O_toF fun c H₂ hc h₂ e₂ => ?_
    refine O_itL h₂ ?_
    refine forW_ind (fun ys m H => H = H₂ ∧ (∃ zs : List Int, ys = zs.map .int) ∧ ∃ seed x4, 0 ≤ seed ∧ seed < 1000003 ∧ m = [some (.fls xs), some (.obj t), some (.int k), some (.int seed), x4]) ?_ ?_ _ _ _ ⟨rfl, ⟨_, rfl⟩, xs.length, none, by first | decide | lia | omega, by first | decide | lia | omega, rfl⟩
    · rintro m H ⟨rfl, _, seed, x4, s0, s1, rfl⟩
      refine ⟨h₂, ?_⟩
      refine O_subTape (e₂.at h₁) ?_
      refine O_subTape (e₂.at h₁) ?_
      refine O_mulI (by first | decide | lia | omega) ?_
      refine O_mulI (by first | decide | lia | omega) ?_
      refine O_modI hk ?_
      exact hQ _ _ (mod_lt hk).1 (mod_lt hk).2 (e₂.at h₁) (e₁.trans (e₂.toB t))
    · rintro y ys m H ⟨rfl, ⟨zs, hz⟩, seed, x4, s0, s1, rfl⟩
      refine ⟨h₂, fun K hK => ?_⟩
      cases zs with
      | nil => cases hz
      | cons z zs =>
        cases hz
        refine O_mulI (by first | decide | lia | omega) ?_
        exact hK _ _ ⟨rfl, ⟨zs, rfl⟩, _, some (.int z), (mod_lt (by first | decide | lia | omega)).1, (mod_lt (by first | decide | lia | omega)).2, rfl⟩
theorem lack_kind {ks ws : List Str} {i : Nat} {x y : Str} (hl : ws.length ≤ ks.length) (hi : ws[i]? = some x) (hj : ks[ks.length - ws.length + i]? = some y) (hx : x ≠ "") (hy : x ≠ y) : lackS ks ws = "kind" := by
  unfold lackS
  rw [if_neg (by first | decide | lia | omega), if_pos]
  rw [List.any_eq_true]
  refine ⟨(x, y), ?_, by simp [hx, hy]⟩
  refine List.mem_of_getElem? (i := i) ?_
  rw [List.getElem?_zip_eq_some]
  exact ⟨hi, by rw [List.getElem?_drop]; exact hj⟩
theorem lack_none {ks ws : List Str} (hl : ws.length ≤ ks.length) (h : ∀ (i : Nat) (x y : Str), ws[i]? = some x → ks[ks.length - ws.length + i]? = some y → x = "" ∨ x = y) : lackS ks ws = "" := by
  unfold lackS
  rw [if_neg (by first | decide | lia | omega), if_neg]
  rw [List.any_eq_true]
  rintro ⟨⟨x, y⟩, hm, hp⟩
  obtain ⟨i, hi⟩ := List.mem_iff_getElem?.mp hm
  rw [List.getElem?_zip_eq_some, List.getElem?_drop] at hi
  rcases h i x y hi.1 hi.2 with e | e <;> simp [e] at hp
theorem lack_ok : Ver spLack B_law_lack N_law_lack 2 := by
  intro ps H Q X h
  have hL : LIM = 1048576 := rfl
  obtain ⟨a, b, ks, ws, rfl, ha, hb, lk, lw, hQ⟩ := h
  refine ⟨rfl, ?_⟩
  refine O_lenL ha ?_
  refine O_lenL hb ?_
  refine O_ite (fun _ => ?_) (fun _ => ?_)
  · rename_i hlt
    have : lackS ks ws = "empty" := by unfold lackS; rw [if_pos (by simp at hlt; first | lia | omega)]
    rw [this] at hQ; exact hQ
  · rename_i hge
    have hle : ws.length ≤ ks.length := by simp at hge; first | lia | omega
    refine O_lenL ha ?_
    refine O_lenL hb ?_
    refine O_lenL hb ?_
    refine O_range (by first | omega | (rw [List.length_map]; first | lia | omega)) ?_
    simp only [List.length_map, Int.toNat_natCast]
    refine forW_ind (fun rest m H' => H' = H ∧ ∃ j x3, rest = ((List.range ws.length).drop j).map (fun (i : Nat) => PV.int i) ∧ (∀ (i : Nat) (x y : Str), i < j → ws[i]? = some x → ks[ks.length - ws.length + i]? = some y → x = "" ∨ x = y) ∧ m = [some (.obj a), some (.obj b), some (.int ((ks.length : Int) - (ws.length : Int))), x3]) ?_ ?_ _ _ _ ⟨rfl, 0, none, rfl, fun _ _ _ h => by first | decide | lia | omega, rfl⟩
    · rintro m H' ⟨rfl, j, x3, hr, hj, rfl⟩
      refine ⟨trivial, ?_⟩
      have hjl : ws.length ≤ j := by
        have := congrArg List.length hr
        simp at this; first | lia | omega
      rw [lack_none hle fun i x y hi hy => hj i x y (by have := (List.getElem?_eq_some_iff.mp hi).1; first | lia | omega) hi hy] at hQ
      exact hQ
    · rintro v rest m H' ⟨rfl, j, x3, hr, hj, rfl⟩
      refine ⟨trivial, fun K hK => ?_⟩
      have hjl : j < ws.length := by
        apply Classical.byContradiction
        intro q
        rw [List.drop_eq_nil_of_le (by simp; first | lia | omega)] at hr
        cases hr
      have hd : (List.range ws.length).drop j = j :: (List.range ws.length).drop (j + 1) := by
        rw [List.drop_eq_getElem_cons (by simpa using hjl)]; simp
      rw [hd] at hr
      cases hr
      have hws : (ws.map PV.str)[j]? = some (.str ws[j]) := by simp [hjl]
      have hlow : ks.length - ws.length + j < ks.length := by first | decide | lia | omega
      have hks : (ks.map PV.str)[ks.length - ws.length + j]? = some (.str ks[ks.length - ws.length + j]) := by simp [hlow]
      have cont : ws[j] = "" ∨ ws[j] = ks[ks.length - ws.length + j] → K [some (.obj a), some (.obj b), some (.int ((ks.length : Int) - (ws.length : Int))), some (.int j)] H' := fun hc => by
        refine hK _ _ ⟨rfl, j + 1, _, rfl, fun i x y hi hx hy => ?_, rfl⟩
        by_cases q : i = j
        · subst q
          rw [List.getElem?_eq_getElem hjl] at hx
          rw [List.getElem?_eq_getElem hlow] at hy
          cases hx; cases hy; exact hc
        · exact hj i x y (by first | decide | lia | omega) hx hy
      refine O_subL hb (itemAt_nat rfl hws) ?_
      refine O_ite (fun _ => ?_) (fun _ => ?_)
      · rename_i h1
        refine O_subL hb (itemAt_nat rfl hws) ?_
        refine O_subL ha (itemAt_nat (n := ks.length - ws.length + j) (by first | decide | lia | omega) hks) ?_
        refine O_ite (fun _ => ?_) (fun _ => ?_)
        · rename_i h2
          rw [lack_kind hle (List.getElem?_eq_getElem hjl) (List.getElem?_eq_getElem hlow) (by simpa using h1) (by simpa using h2)] at hQ
          exact hQ
        · rename_i h2
          exact cont (.inr (by simpa using h2))
      · rename_i h1
        exact cont (.inl (by simpa using h1))
end Mine
end
section
open PySem PySem.W PySem.Calls PyProof.Rows
namespace Mine
set_option autoImplicit false

theorem words_ok : Ver spWords B_law_words N_law_words 2 := by
  intro ps H Q X h
  have hL : LIM = 1048576 := rfl
  obtain ⟨c, n, rfl, n0, n1, hQ⟩ := h
  refine ⟨rfl, ?_⟩
  refine O_addS' (by decide +kernel) fun S hS => ?_
  have hl : S.length = 94 := by rw [hS]; decide +kernel
  clear hS
  refine O_recvS ?_
  refine O_range (by first | decide | lia | omega) ?_
  refine compW_ind (fun rest acc H' => H' = H ∧ (∃ ks : List Nat, rest = ks.map (fun (i : Nat) => PV.int i) ∧ ∀ k ∈ ks, k < 1000) ∧ ∃ ss : List Str, acc = ss.map .str ∧ (∀ s ∈ ss, s.length = 1) ∧ ss.length + rest.length = n.toNat) ?_ ?_ _ _ _
    ⟨rfl, ⟨List.range n.toNat, rfl, fun k hk => by rw [List.mem_range] at hk; first | lia | omega⟩, [], rfl, by simp, by simp⟩
  · rintro acc H' ⟨rfl, _, ss, rfl, h1, h2⟩
    refine ⟨trivial, fun a H₁ ha h₁ e₁ => ?_⟩
    have h3 : ss.length = n.toNat := by simpa using h2
    refine O_join h₁ (by decide +kernel) (by rw [sum_ones ss h1]; first | lia | omega) ?_
    exact hQ _ _ (by rw [join_len (by decide +kernel) ss h1, h3]) e₁
  · rintro x xs acc H' ⟨rfl, ⟨ks, hk, hks⟩, ss, rfl, h1, h2⟩
    refine ⟨trivial, fun K hK => ?_⟩
    cases ks with
    | nil => cases hk
    | cons k ks =>
      cases hk
      have hk1 := hks k (by simp)
      refine O_divI (by first | decide | lia | omega) (by first | decide | lia | omega) ?_
      refine O_mulI (by first | decide | lia | omega) ?_
      obtain ⟨y, hy, ly⟩ := sign_at (s := S) (i := (c / ((k : Int) + 1) + 5 * (k : Int)) % 94) (mod_lt (by first | decide | lia | omega)).1 (by rw [hl]; exact (mod_lt (by first | decide | lia | omega)).2)
      refine O_subS (by first | decide | lia | omega) hy ?_
      refine hK _ _ ⟨rfl, ⟨ks, rfl, fun k hk => hks k (by simp [hk])⟩, ss ++ [y], by simp, fun s hs => ?_, by simp at h2 ⊢; first | lia | omega⟩
      rcases List.mem_append.mp hs with hs | hs
      · exact h1 s hs
      · rw [List.mem_singleton.mp hs]; exact ly
theorem value_ok : Ver spValue B_law_value N_law_value 3 := by
  intro ps H Q X h
  obtain ⟨xs, t, kd, n, rfl, hx, ht, hn, hQ⟩ := h
  have hB : (2 : Nat) ^ 58 = 288230376151711744 := by decide
  have hB' : (2 : Nat) ^ 59 = 576460752303423488 := by decide
  refine ⟨rfl, ?_⟩
  refine U_draw ?_
  refine ⟨xs, t, _, n, rfl, hx, ht, by first | exact bd0 hn (by decide) | exact bd1 hn (by decide) | exact bd2 hn (by assumption) (by decide) | exact bd3 hn (by assumption) (by decide) | decide | lia | omega, by first | exact bd0 hn (by decide) | exact bd1 hn (by decide) | exact bd2 hn (by assumption) (by decide) | exact bd3 hn (by assumption) (by decide) | decide | lia | omega, fun cell H₁ c0 c1 h₁ e₁ => ?_⟩
  refine U_draw ?_
  refine ⟨xs, t, _, n + 1, rfl, hx, h₁, by first | exact bd0 hn (by decide) | exact bd1 hn (by decide) | exact bd2 hn (by assumption) (by decide) | exact bd3 hn (by assumption) (by decide) | decide | lia | omega, by first | exact bd0 hn (by decide) | exact bd1 hn (by decide) | exact bd2 hn (by assumption) (by decide) | exact bd3 hn (by assumption) (by decide) | decide | lia | omega, fun way H₂ w0 w1 h₂ e₂ => ?_⟩
  have e₁₂ := e₁.trans e₂
  have word : ∀ (k : Int), 0 ≤ k → k ≤ 60 → (kd == "text") = true → g01.C "_law_words" [.int cell, .int k] H₂ Q (fun c H => X c H) := fun k k0 k1 hk => by
    refine U_words ?_
    refine ⟨cell, k, rfl, k0, by first | decide | lia | omega, fun s H₃ hs e₃ => ?_⟩
    exact hQ _ _ (.inr ⟨s, rfl, by first | decide | lia | omega⟩) (by rw [hk]; rfl) (e₃.at h₂) (e₁₂.trans (e₃.toB t))
  have num : ∀ (k : Int), 0 ≤ k → k < 1000000000 → ¬ (kd == "text") = true → Q (.int k) H₂ := fun k k0 k1 hk => by
    exact hQ _ _ (.inl ⟨k, rfl, k0, k1⟩) (by rw [if_neg hk]; rfl) h₂ e₁₂
  refine O_ite (fun _ => ?_) (fun _ => ?_)
  · rename_i hk
    refine O_ite (fun _ => ?_) (fun _ => ?_)
    · have := mod_lt (a := cell) (k := 3) (by first | decide | lia | omega)
      exact word _ (by first | decide | lia | omega) (by first | decide | lia | omega) hk
    · have := mod_lt (a := cell / 94) (k := 8) (by first | decide | lia | omega)
      exact word _ (by first | decide | lia | omega) (by first | decide | lia | omega) hk
  · rename_i hk
    refine O_ite (fun _ => ?_) (fun _ => ?_)
    · have := mod_lt (a := cell) (k := 3) (by first | decide | lia | omega)
      exact num _ (by first | decide | lia | omega) (by first | decide | lia | omega) hk
    · refine O_ite (fun _ => ?_) (fun _ => ?_)
      · have := mod_lt (a := cell) (k := 4) (by first | decide | lia | omega)
        exact num _ (by first | decide | lia | omega) (by first | decide | lia | omega) hk
      · exact num _ c0 c1 hk
end Mine
end
section
open PySem PySem.W PySem.Calls PyProof.Rows
namespace Mine
set_option autoImplicit false

theorem wanted_ok : Ver spWanted B_law_wanted N_law_wanted 1 := by
  intro ps H Q X h
  have hL : LIM = 1048576 := rfl
  obtain ⟨w, rfl, hw, hQ⟩ := h
  refine ⟨rfl, ?_⟩
  cases w with
  | copy n =>
    have hn : n ≤ 60 := hw
    refine fun c H₁ hc h₁ e₁ => ?_
    refine O_mulL h₁ (by first | decide | lia | omega) (by first | decide | lia | omega) (by simp; first | lia | omega) fun d H₂ hd h₂ e₂ => ?_
    have hd0 : H d = none := by
      cases q : H d with
      | none => rfl
      | some o => rw [e₁.at q] at hd; cases hd
    refine hQ _ _ hd0 ?_ (e₁.trans e₂)
    rw [h₂]
    have : ((n : Int) + 1).toNat = n + 1 := by first | decide | lia | omega
    unfold repL
    rw [this]
    have e : ∀ k : Nat, (List.replicate k [PV.str ""]).flatten = (List.replicate k ("" : Str)).map PV.str := fun k => by
      induction k with
      | zero => rfl
      | succ k ih => rw [List.replicate_succ, List.flatten_cons, ih]; rfl
    rw [e]; rfl
  | _ =>
    refine fun c H₁ hc h₁ e₁ => ?_
    refine fun d H₂ hd h₂ e₂ => ?_
    have hc₂ := e₂.at h₁
    have fr : ∀ x, H₂ x = none → H x = none := fun x hx => by
      cases q : H x with
      | none => rfl
      | some o => rw [e₂.at (e₁.at q)] at hx; cases hx
    refine O_inD hc₂ ?_
    try first
      | (refine O_subD hc₂ rfl ?_
         refine O_subD hc₂ rfl ?_)
      | (refine O_inD h₂ ?_
         try refine O_subD h₂ rfl ?_)
    refine fun b H₃ hb h₃ e₃ => ?_
    exact hQ _ _ (fr b hb) h₃ ((e₁.trans e₂).trans e₃)
end Mine
end
section
open PySem PySem.W PySem.Calls PyProof.Rows
namespace Mine
set_option autoImplicit false

noncomputable def takesS : W → Option (List Str)
  | .add => some ["num", "num"] | .mul => some ["num", "num"] | .less => some ["num", "num"] | .join => some ["text", "text"] | .long => some ["text"] | .show => some ["num"] | _ => none
theorem tk_get : ∀ {w : W} {ts : List Str}, takesS w = some ts → dget (takes01.map fun e => (e.1, PV.tup (e.2.map .str))) (wd w) = some (.tup (ts.map .str)) := by
  intro w ts ht
  cases w <;> cases ht <;> kernel_rfl
theorem rev_one {α : Type} {l : List α} (h : l.length = 1) : ∃ a, l = [a] := by
  match l, h with | [a], _ => exact ⟨a, rfl⟩
theorem rev_two {α : Type} {l : List α} (h : l.length = 2) : ∃ a b, l = [a, b] := by
  match l, h with | [a, b], _ => exact ⟨a, b, rfl⟩
theorem Ext.back {H H' : AHeap} (e : Ext H H') {x : Addr} (h : H' x = none) : H x = none := by
  cases q : H x with
  | none => rfl
  | some o => rw [e.at q] at h; cases h
theorem cut_sub {L k : Nat} (h : k ≤ L) : cutAt L ((L : Int) - (k : Int)) = L - k := by unfold cutAt; rw [if_pos (by first | decide | lia | omega)]; first | lia | omega
theorem rev_cons {st r : List PV} {x : PV} (h : st.reverse = x :: r) : st = r.reverse ++ [x] := by
  have := congrArg List.reverse h
  simpa using this
theorem forR {st : PV → (Loc → AHeap → Prop) → Loc → AHeap → Prop} {N : Loc → AHeap → Prop} {n : Nat} (I : Nat → Loc → AHeap → Prop) (h0 : ∀ m H, I n m H → N m H)
    (h1 : ∀ j m H, j < n → I j m H → ∀ K : Loc → AHeap → Prop, (∀ m' H', I (j + 1) m' H' → K m' H') → st (.int j) K m H) (m : Loc) (H : AHeap) (hi : I 0 m H) :
    forW (fun _ => True) st N ((List.range n).map fun (i : Nat) => PV.int i) m H := by
  refine forW_ind (fun rest m H => ∃ j, j ≤ n ∧ rest = ((List.range n).drop j).map (fun (i : Nat) => PV.int i) ∧ I j m H) ?_ ?_ _ _ _ ⟨0, by first | decide | lia | omega, rfl, hi⟩
  · rintro m H ⟨j, hj, hr, h⟩
    have hl := congrArg List.length hr
    simp at hl
    have : j = n := by first | decide | lia | omega
    subst this
    exact ⟨trivial, h0 _ _ h⟩
  · rintro x xs m H ⟨j, hj, hr, h⟩
    refine ⟨trivial, fun K hK => ?_⟩
    have hjl : j < n := by
      apply Classical.byContradiction
      intro q
      rw [List.drop_eq_nil_of_le (by simp; first | lia | omega)] at hr
      cases hr
    have hd : (List.range n).drop j = j :: (List.range n).drop (j + 1) := by
      rw [List.drop_eq_getElem_cons (by simpa using hjl)]; simp
    rw [hd] at hr
    cases hr
    exact h1 j m H hjl h K fun m' H' h' => hK _ _ ⟨j + 1, by first | decide | lia | omega, rfl, h'⟩
theorem W_cut {g : Gl} {N : NPost} {R : Post} {X : SXPost} {m : Loc} {H : AHeap} {s : AS} {ss : ASs} (P : NPost) (h1 : ∀ K : NPost, (∀ m H, P m H → K m H) → awpS g s K R X m H) (h2 : ∀ m H, P m H → awpSs g ss N R X m H) :
    awpSs g (.cons s ss) N R X m H := h1 _ h2
theorem ExtB.over {H H₁ H₂ : AHeap} {t c : Addr} (hc : H c = none) (e : ExtB t H H₁) (b : ExtB c H₁ H₂) : ExtB t H H₂ := fun x o n h => b x o (ne_of h hc) (e x o n h)
theorem wanted_len {w : W} (h : w.ok) : (wantedS w).length ≤ 61 := by
  cases w <;> try (simp [wantedS]; done)
  rename_i n
  have : n ≤ 60 := h
  simp [wantedS]; first | lia | omega
theorem kind_at {c : Addr} {H : AHeap} {r : Int} (h : H c = some (.list [.str "num", .str "text"])) (r0 : 0 ≤ r) (r1 : r < 2) : ∃ s : Str, itemAt [PV.str "num", PV.str "text"] r = some (.str s) := by
  have : r = 0 ∨ r = 1 := by first | decide | lia | omega
  rcases this with rfl | rfl
  · exact ⟨"num", rfl⟩
  · exact ⟨"text", rfl⟩
theorem lack_take {pre us ws : List Str} (h : us.length = ws.length) : lackS (pre ++ us) ws = if (ws.zip us).any (fun p => !(p.1 == ("" : Str)) && !(p.1 == p.2)) then ("kind" : Str) else ("" : Str) := by
  unfold lackS
  rw [if_neg (by simp; first | lia | omega)]
  rw [show (pre ++ us).length - ws.length = pre.length by simp; first | lia | omega, List.drop_left]
theorem lack_few {ks ws : List Str} (h : ks.length < ws.length) : lackS ks ws = "empty" := by unfold lackS; rw [if_pos h]
theorem lack_free {ks : List Str} {n : Nat} (h : n ≤ ks.length) : lackS ks (List.replicate n "") = "" := by
  refine lack_none (by simpa using h) fun i x y hx _ => .inl ?_
  have := List.mem_of_getElem? hx
  exact (List.mem_replicate.mp this).2
theorem okv_num {v : PV} (h : Okv v) (k : kindS v = "num") : ∃ i, v = .int i ∧ 0 ≤ i ∧ i < 1000000000 := by
  rcases h with h | ⟨s, rfl, _⟩
  · exact h
  · exact absurd (show ("text" : Str) = "num" from k) (by decide +kernel)
theorem okv_text {v : PV} (h : Okv v) (k : kindS v = "text") : ∃ s, v = .str s ∧ s.length ≤ 60 := by
  rcases h with ⟨i, rfl, _⟩ | h
  · exact absurd (show ("num" : Str) = "text" from k) (by decide +kernel)
  · exact h
theorem okv_int {i : Int} (h : Okv (.int i)) : 0 ≤ i ∧ i < 1000000000 := by
  rcases h with ⟨j, e, h⟩ | ⟨s, e, _⟩
  · cases e; exact h
  · cases e
theorem okv_str {s : Str} (h : Okv (.str s)) : s.length ≤ 60 := by
  rcases h with ⟨j, e, h⟩ | ⟨s, e, h⟩
  · cases e
  · cases e; exact h
theorem copy_at {d z : Int} (d0 : 0 ≤ d) (d1 : d < 61) (z0 : 0 ≤ z) (z1 : z < 8) : ∃ k : Int, itemAt [PV.int 0, PV.int 0, PV.int 1, PV.int 1, PV.int 2, PV.int 3, PV.int d, PV.int 60] z = some (.int k) ∧ 0 ≤ k ∧ k ≤ 60 := by
  have : z = 0 ∨ z = 1 ∨ z = 2 ∨ z = 3 ∨ z = 4 ∨ z = 5 ∨ z = 6 ∨ z = 7 := by first | decide | lia | omega
  rcases this with rfl | rfl | rfl | rfl | rfl | rfl | rfl | rfl
  · exact ⟨0, rfl, by first | decide | lia | omega, by first | decide | lia | omega⟩
  · exact ⟨0, rfl, by first | decide | lia | omega, by first | decide | lia | omega⟩
  · exact ⟨1, rfl, by first | decide | lia | omega, by first | decide | lia | omega⟩
  · exact ⟨1, rfl, by first | decide | lia | omega, by first | decide | lia | omega⟩
  · exact ⟨2, rfl, by first | decide | lia | omega, by first | decide | lia | omega⟩
  · exact ⟨3, rfl, by first | decide | lia | omega, by first | decide | lia | omega⟩
  · exact ⟨d, rfl, d0, by first | decide | lia | omega⟩
  · exact ⟨60, rfl, by first | decide | lia | omega, by first | decide | lia | omega⟩
theorem some_copy {r : Int} (h0 : 10 ≤ r) (h1 : r < 13) : itemAt [PV.str "num", PV.str "text", PV.str "add", PV.str "mul", PV.str "less", PV.str "join", PV.str "long", PV.str "show", PV.str "swap", PV.str "drop", PV.str "copy", PV.str "copy", PV.str "copy"] r = some (.str "copy") := by
  have : r = 10 ∨ r = 11 ∨ r = 12 := by first | decide | lia | omega
  rcases this with rfl | rfl | rfl <;> rfl
theorem some_plain {r : Int} (h0 : 2 ≤ r) (h1 : r < 10) : ∃ w : W, w.ok ∧ itemAt [PV.str "num", PV.str "text", PV.str "add", PV.str "mul", PV.str "less", PV.str "join", PV.str "long", PV.str "show", PV.str "swap", PV.str "drop", PV.str "copy", PV.str "copy", PV.str "copy"] r = some (.str (wd w)) ∧ w.row = [.str (wd w)] ∧ (wd w == ("num" : Str)) = false ∧ (wd w == ("text" : Str)) = false ∧ (wd w == ("copy" : Str)) = false := by
  have : r = 2 ∨ r = 3 ∨ r = 4 ∨ r = 5 ∨ r = 6 ∨ r = 7 ∨ r = 8 ∨ r = 9 := by first | decide | lia | omega
  rcases this with rfl | rfl | rfl | rfl | rfl | rfl | rfl | rfl
  · exact ⟨.add, trivial, rfl, rfl, by decide +kernel, by decide +kernel, by decide +kernel⟩
  · exact ⟨.mul, trivial, rfl, rfl, by decide +kernel, by decide +kernel, by decide +kernel⟩
  · exact ⟨.less, trivial, rfl, rfl, by decide +kernel, by decide +kernel, by decide +kernel⟩
  · exact ⟨.join, trivial, rfl, rfl, by decide +kernel, by decide +kernel, by decide +kernel⟩
  · exact ⟨.long, trivial, rfl, rfl, by decide +kernel, by decide +kernel, by decide +kernel⟩
  · exact ⟨.show, trivial, rfl, rfl, by decide +kernel, by decide +kernel, by decide +kernel⟩
  · exact ⟨.swap, trivial, rfl, rfl, by decide +kernel, by decide +kernel, by decide +kernel⟩
  · exact ⟨.drop, trivial, rfl, rfl, by decide +kernel, by decide +kernel, by decide +kernel⟩
theorem plain_ok : Ver spPlain B_law_plain_row N_law_plain_row 2 := by
  intro ps H Q X h
  obtain ⟨xs, t, n, rfl, hx, ht, hn, hQ⟩ := h
  have hB : (2 : Nat) ^ 57 = 144115188075855872 := by decide
  have hB1 : (2 : Nat) ^ 58 = 288230376151711744 := by decide
  have hB' : (2 : Nat) ^ 59 = 576460752303423488 := by decide
  refine ⟨rfl, ?_⟩
  refine fun c H₁ hc h₁ e₁ => ?_
  refine U_draw ?_
  refine ⟨xs, t, _, n, rfl, hx, e₁.at ht, by first | exact bd0 hn (by decide) | exact bd1 hn (by decide) | exact bd2 hn (by assumption) (by decide) | exact bd3 hn (by assumption) (by decide) | decide | lia | omega, by first | exact bd0 hn (by decide) | exact bd1 hn (by decide) | exact bd2 hn (by assumption) (by decide) | exact bd3 hn (by assumption) (by decide) | decide | lia | omega, fun r H₂ r0 r1 h₂ e₂ => ?_⟩
  have htc : t ≠ c := ne_of ht hc
  have hc₂ := e₂.at (Ne.symm htc) h₁
  have e₁₂ : ExtB t H H₂ := (e₁.toB t).trans e₂
  have plain : ∀ w : W, w.ok → Q (.tup w.row) H₂ := fun w hw => hQ w _ _ hw (by first | decide | lia | omega) h₂ e₁₂
  have hr : r = 0 ∨ r = 1 ∨ 10 ≤ r ∨ (2 ≤ r ∧ r < 10) := by first | decide | lia | omega
  rcases hr with rfl | rfl | hr | hr
  · refine O_subL hc₂ (itemAt_nat (n := 0) rfl rfl) ?_
    refine U_value ?_
    refine ⟨xs, t, _, n + 1, rfl, hx, h₂, by first | exact bd0 hn (by decide) | exact bd1 hn (by decide) | exact bd2 hn (by assumption) (by decide) | exact bd3 hn (by assumption) (by decide) | decide | lia | omega, fun v H₃ hv hk h₃ e₃ => ?_⟩
    obtain ⟨i, rfl, i0, i1⟩ := okv_num hv (by rw [hk]; decide +kernel)
    exact hQ (.num i) _ _ ⟨i0, i1⟩ (by first | decide | lia | omega) h₃ (e₁₂.trans e₃)
  · refine O_subL hc₂ (itemAt_nat (n := 1) rfl rfl) ?_
    refine U_value ?_
    refine ⟨xs, t, _, n + 1, rfl, hx, h₂, by first | exact bd0 hn (by decide) | exact bd1 hn (by decide) | exact bd2 hn (by assumption) (by decide) | exact bd3 hn (by assumption) (by decide) | decide | lia | omega, fun v H₃ hv hk h₃ e₃ => ?_⟩
    obtain ⟨s, rfl, hs⟩ := okv_text hv (by rw [hk]; decide +kernel)
    exact hQ (.text s) _ _ hs (by first | decide | lia | omega) h₃ (e₁₂.trans e₃)
  · refine O_subL hc₂ (some_copy hr r1) ?_
    refine U_draw ?_
    refine ⟨xs, t, _, n + 1, rfl, hx, h₂, by first | exact bd0 hn (by decide) | exact bd1 hn (by decide) | exact bd2 hn (by assumption) (by decide) | exact bd3 hn (by assumption) (by decide) | decide | lia | omega, by first | exact bd0 hn (by decide) | exact bd1 hn (by decide) | exact bd2 hn (by assumption) (by decide) | exact bd3 hn (by assumption) (by decide) | decide | lia | omega, fun d H₃ d0 d1 h₃ e₃ => ?_⟩
    refine fun b H₄ hb h₄ e₄ => ?_
    refine U_draw ?_
    refine ⟨xs, t, _, n + 2, rfl, hx, e₄.at h₃, by first | exact bd0 hn (by decide) | exact bd1 hn (by decide) | exact bd2 hn (by assumption) (by decide) | exact bd3 hn (by assumption) (by decide) | decide | lia | omega, by first | exact bd0 hn (by decide) | exact bd1 hn (by decide) | exact bd2 hn (by assumption) (by decide) | exact bd3 hn (by assumption) (by decide) | decide | lia | omega, fun z H₅ z0 z1 h₅ e₅ => ?_⟩
    have hb₅ := e₅.at (Ne.symm (ne_of h₃ hb)) h₄
    have e₁₅ : ExtB t H H₅ := ((e₁₂.trans e₃).trans (e₄.toB t)).trans e₅
    have fin : ∀ k : Int, 0 ≤ k → k ≤ 60 → Q (.tup [.str "copy", .int k]) H₅ := fun k k0 k1 => by
      obtain ⟨j, rfl⟩ := Int.eq_ofNat_of_zero_le k0
      exact hQ (.copy j) _ _ (by show j ≤ 60; first | lia | omega) (by first | decide | lia | omega) h₅ e₁₅
    have hi : ∃ k : Int, itemAt [PV.int 0, PV.int 0, PV.int 1, PV.int 1, PV.int 2, PV.int 3, PV.int d, PV.int 60] z = some (.int k) ∧ 0 ≤ k ∧ k ≤ 60 := copy_at d0 d1 z0 z1
    obtain ⟨k, hk, k0, k1⟩ := hi
    refine O_subL hb₅ hk ?_
    exact fin k k0 k1
  · obtain ⟨w, hwo, gw, hrow, n1, n2, n3⟩ := some_plain hr.1 hr.2
    refine O_subL hc₂ gw ?_
    refine I_neg (by rw [n1]; decide) ?_
    refine I_neg (by rw [n2]; decide) ?_
    refine I_neg (by rw [n3]; decide) ?_
    have := plain w hwo
    rw [hrow] at this
    exact this

theorem cut_nat {L n : Nat} {z : Int} (hz : z = n) (h : n ≤ L) : cutAt L z = n := by subst hz; unfold cutAt; rw [if_pos (by first | decide | lia | omega)]; first | lia | omega
theorem rev_getG {α : Type} {st : List α} {n : Nat} {v : α} (h : st.reverse[n]? = some v) : n < st.length ∧ st[st.length - 1 - n]? = some v := by
  have hn : n < st.reverse.length := (List.getElem?_eq_some_iff.mp h).1
  rw [List.length_reverse] at hn
  rw [List.getElem?_reverse hn] at h
  exact ⟨hn, h⟩
theorem split_atG {α : Type} {st : List α} {k : Nat} (h : k ≤ st.length) : ∃ pre vs, st = pre ++ vs ∧ vs.length = k :=
  ⟨st.take (st.length - k), st.drop (st.length - k), (List.take_append_drop _ _).symm, by simp; first | lia | omega⟩
theorem taken_ok : Ver spTaken B_taken N_taken 2 := by
  intro ps H Q X h
  have hL : LIM = 1048576 := rfl
  obtain ⟨ks, ts, rfl, hlen, hres⟩ := h
  refine ⟨rfl, ?_⟩
  refine O_ite (fun _ => ?_) (fun _ => ?_)
  · rename_i hlt
    rw [if_pos (by simp at hlt; first | lia | omega)] at hres
    exact hres
  · rename_i hlt
    have hle : ts.length ≤ ks.length := by simp at hlt; first | lia | omega
    rw [if_neg (by first | decide | lia | omega)] at hres
    refine O_fromT (ys := (ks.drop (ks.length - ts.length)).map .str) (by rw [List.length_map, List.length_map, cut_sub hle, List.map_drop]) ?_
    refine O_neT (eq_strs _ _) ?_
    refine O_ite (fun _ => ?_) (fun _ => ?_)
    · rename_i hq
      rw [if_neg (by simpa using hq)] at hres
      exact hres
    · rename_i hq
      rw [if_pos (by simpa using hq)] at hres
      refine O_toT (ys := (ks.take (ks.length - ts.length)).map .str) (by rw [List.length_map, List.length_map, cut_sub hle, List.map_take]) ?_
      exact hres
theorem moved_ok : Ver spMoved B_moved N_moved 2 := by
  intro ps H Q X h
  have hL : LIM = 1048576 := rfl
  obtain ⟨ks, w, rfl, hw, hlen, hwc, hres⟩ := h
  refine ⟨rfl, ?_⟩
  refine fun c H₁ hc h₁ e₁ => ?_
  rcases hwc with rfl | rfl | ⟨n, rfl⟩
  · refine O_subD h₁ (x := .int 2) (by kernel_rfl) ?_
    refine O_ite (fun _ => ?_) (fun _ => ?_)
    · rename_i hlt
      have hl : ks.length < 2 := by simp at hlt; first | lia | omega
      have hr : resK ks .swap = .error 1 := by
        match ks, hl with
        | [], _ => rfl
        | [a], _ => rfl
        | _ :: _ :: _, h => simp at h; first | lia | omega
      rw [hr] at hres
      exact hres _ e₁
    · rename_i hlt
      have hl : 2 ≤ ks.length := by simp at hlt; first | lia | omega
      obtain ⟨pre, vs, rfl, hv⟩ := split_atG hl
      obtain ⟨x, y, rfl⟩ := rev_two hv
      have hr : resK (pre ++ [x, y]) .swap = .ok (pre ++ [y, x]) := by simp [resK]
      rw [hr] at hres
      refine O_toT (ys := pre.map .str) (by rw [cut_nat (n := pre.length) (by simp) (by simp), ← List.map_take, List.take_left]) ?_
      refine O_subT (itemAt_nat (n := pre.length + 1) (x := .str y) (by simp; first | lia | omega) (by simp)) ?_
      refine O_subT (itemAt_nat (n := pre.length) (x := .str x) (by simp) (by simp)) ?_
      refine O_addT (by simp at hlen ⊢; first | lia | omega) ?_
      have hq := hres _ e₁
      rw [List.map_append] at hq
      exact hq
  · refine O_subD h₁ (x := .int 1) (by kernel_rfl) ?_
    refine O_ite (fun _ => ?_) (fun _ => ?_)
    · rename_i hlt
      have hl : ks.length < 1 := by simp at hlt; first | lia | omega
      have hr : resK ks .drop = .error 1 := by
        match ks, hl with
        | [], _ => rfl
        | _ :: _, h => simp at h
      rw [hr] at hres
      exact hres _ e₁
    · rename_i hlt
      have hl : 1 ≤ ks.length := by simp at hlt; first | lia | omega
      obtain ⟨pre, vs, rfl, hv⟩ := split_atG hl
      obtain ⟨x, rfl⟩ := rev_one hv
      have hr : resK (pre ++ [x]) .drop = .ok pre := by simp [resK]
      rw [hr] at hres
      refine O_toT (ys := pre.map .str) (by rw [cut_nat (n := pre.length) (by simp) (by simp), ← List.map_take, List.take_left]) ?_
      exact hres _ e₁
  · refine O_ite (fun _ => ?_) (fun _ => ?_)
    · rename_i hlt
      have hl : ks.length < n + 1 := by simp at hlt; first | lia | omega
      have hr : resK ks (.copy n) = .error 1 := by
        simp only [resK]
        rw [List.getElem?_eq_none (by simp; first | lia | omega)]
      rw [hr] at hres
      exact hres _ e₁
    · rename_i hlt
      have hl : n + 1 ≤ ks.length := by simp at hlt; first | lia | omega
      have hv : ks.reverse[n]? = some (ks.reverse[n]'(by simp; first | lia | omega)) := List.getElem?_eq_getElem _
      revert hv
      generalize ks.reverse[n]'(by simp; first | lia | omega) = v
      intro hv
      have hr : resK ks (.copy n) = .ok (ks ++ [v]) := by
        simp only [resK]; rw [hv]
      rw [hr] at hres
      obtain ⟨_, hg⟩ := rev_getG hv
      refine O_subT (itemAt_nat (n := ks.length - 1 - n) (x := .str v) (by rw [List.length_map]; first | lia | omega) (by simp [hg])) ?_
      refine O_addT (by simp; first | lia | omega) ?_
      have hq := hres _ e₁
      rw [List.map_append] at hq
      exact hq
theorem puts_get : ∀ {w : W} {ts : List Str}, takesS w = some ts → dget (puts01.map fun e => (e.1, PV.str e.2)) (wd w) = some (.str (putsS w)) := by
  intro w ts ht
  cases w <;> cases ht <;> kernel_rfl
theorem tak_eq {w : W} {ts : List Str} (h : takesS w = some ts) : takS w = ts := by cases w <;> cases h <;> rfl
theorem resK_takes {w : W} {ts ks : List Str} (h : takesS w = some ts) : resK ks w = if ks.length < ts.length then .error 1 else if ks.drop (ks.length - ts.length) = ts then .ok (ks.take (ks.length - ts.length) ++ [putsS w]) else .error 2 := by
  rw [← tak_eq h]
  cases w <;> cases h <;> rfl
theorem resK_ok {w : W} {ts ks ys : List Str} (ht : takesS w = some ts) (h : resK ks w = .ok ys) : ∃ pre, ks = pre ++ ts ∧ ys = pre ++ [putsS w] := by
  rw [resK_takes ht] at h
  split at h
  · cases h
  · rename_i hl
    split at h
    · rename_i hd
      cases h
      refine ⟨ks.take (ks.length - ts.length), ?_, rfl⟩
      have := (List.take_append_drop (ks.length - ts.length) ks).symm
      rw [hd] at this
      exact this
    · cases h
theorem wants_eq {w : W} {ts : List Str} (h : takesS w = some ts) : wantedS w = ts := by cases w <;> cases h <;> rfl
set_option maxHeartbeats 1000000 in
theorem plainly_ok : Ver spPlainly B_law_plainly N_law_plainly 2 := by
  intro ps H Q X h
  have hL : LIM = 1048576 := rfl
  obtain ⟨a, ks, ys, w, rfl, hw, ha, hlen, hr, hQ⟩ := h
  refine ⟨rfl, ?_⟩
  refine O_lenL ha ?_
  refine U_wanted ?_
  refine ⟨w, rfl, hw, fun d H₁ hd h₁ e₁ => ?_⟩
  refine O_lenL h₁ ?_
  refine O_toL (e₁.at ha) fun c H₂ hc h₂ e₂ => ?_
  simp only [List.length_map] at h₂
  have e₁₂ := e₁.trans e₂
  have a₂ := e₁₂.at ha
  cases w with
  | num i =>
    cases hr
    rw [show ((wantedS (.num i)).length : Int) = ((0 : Nat) : Int) from rfl, cut_sub (by first | decide | lia | omega), Nat.sub_zero, ← List.map_take, List.take_length] at h₂
    refine fun b H₃ hb h₃ e₃ => ?_
    refine O_addL (e₃.at h₂) h₃ (by simp; first | lia | omega) fun z H₄ hz h₄ e₄ => ?_
    exact hQ _ _ ((e₁₂.trans e₃).back hz) (by rw [h₄]; simp) ((e₁₂.trans e₃).trans e₄)
  | text i =>
    cases hr
    rw [show ((wantedS (.text i)).length : Int) = ((0 : Nat) : Int) from rfl, cut_sub (by first | decide | lia | omega), Nat.sub_zero, ← List.map_take, List.take_length] at h₂
    refine fun b H₃ hb h₃ e₃ => ?_
    refine O_addL (e₃.at h₂) h₃ (by simp; first | lia | omega) fun z H₄ hz h₄ e₄ => ?_
    exact hQ _ _ ((e₁₂.trans e₃).back hz) (by rw [h₄]; simp) ((e₁₂.trans e₃).trans e₄)
  | copy n =>
    simp only [resK] at hr
    split at hr
    · rename_i v hv
      cases hr
      obtain ⟨hn, hg⟩ := rev_getG hv
      refine O_lenL a₂ ?_
      refine O_subL a₂ (itemAt_nat (n := ks.length - 1 - n) (x := .str v) (by simp; first | lia | omega) (by simp [hg])) ?_
      refine fun b H₃ hb h₃ e₃ => ?_
      refine O_addL (e₃.at a₂) h₃ (by simp; first | lia | omega) fun z H₄ hz h₄ e₄ => ?_
      exact hQ _ _ ((e₁₂.trans e₃).back hz) (by rw [h₄]; simp) ((e₁₂.trans e₃).trans e₄)
    · cases hr
  | swap =>
    simp only [resK] at hr
    split at hr
    · rename_i y x r hq
      cases hr
      have hs : ks = r.reverse ++ [x, y] := by
        have := congrArg List.reverse hq
        simpa using this
      subst hs
      rw [show ((wantedS .swap).length : Int) = ((2 : Nat) : Int) from rfl, cut_sub (by simp), ← List.map_take, show (r.reverse ++ [x, y]).length - 2 = r.reverse.length by simp, List.take_left] at h₂
      refine O_subL a₂ (x := .str y) (by unfold itemAt; rw [if_neg (by first | decide | lia | omega), if_pos (by simp; first | lia | omega)]; rw [show ((-1 : Int) + ((r.reverse ++ [x, y]).map PV.str).length).toNat = r.length + 1 by simp; first | lia | omega]; simp) ?_
      refine O_subL a₂ (x := .str x) (by unfold itemAt; rw [if_neg (by first | decide | lia | omega), if_pos (by simp; first | lia | omega)]; rw [show ((-2 : Int) + ((r.reverse ++ [x, y]).map PV.str).length).toNat = r.length by simp; first | lia | omega]; simp) ?_
      refine fun b H₃ hb h₃ e₃ => ?_
      refine O_addL (e₃.at h₂) h₃ (by simp at hlen ⊢; first | lia | omega) fun z H₄ hz h₄ e₄ => ?_
      exact hQ _ _ ((e₁₂.trans e₃).back hz) (by rw [h₄]; simp) ((e₁₂.trans e₃).trans e₄)
    · cases hr
  | drop =>
    simp only [resK] at hr
    split at hr
    · rename_i y r hq
      cases hr
      have hs : ks = r.reverse ++ [y] := by
        have := congrArg List.reverse hq
        simpa using this
      subst hs
      rw [show ((wantedS .drop).length : Int) = ((1 : Nat) : Int) from rfl, cut_sub (by simp), ← List.map_take, show (r.reverse ++ [y]).length - 1 = r.reverse.length by simp, List.take_left] at h₂
      exact hQ _ _ (e₁.back hc) h₂ e₁₂
    · cases hr
  | add =>
    obtain ⟨pre, rfl, rfl⟩ := resK_ok (w := .add) rfl hr
    rw [wants_eq (w := .add) rfl, cut_sub (by simp), ← List.map_take, List.length_append, Nat.add_sub_cancel, List.take_left] at h₂
    refine fun b H₃ hb h₃ e₃ => ?_
    refine O_addL (e₃.at h₂) h₃ (by simp at hlen ⊢; first | lia | omega) fun z H₄ hz h₄ e₄ => ?_
    exact hQ _ _ ((e₁₂.trans e₃).back hz) (by rw [h₄]; simp [putsS]) ((e₁₂.trans e₃).trans e₄)
  | mul =>
    obtain ⟨pre, rfl, rfl⟩ := resK_ok (w := .mul) rfl hr
    rw [wants_eq (w := .mul) rfl, cut_sub (by simp), ← List.map_take, List.length_append, Nat.add_sub_cancel, List.take_left] at h₂
    refine fun b H₃ hb h₃ e₃ => ?_
    refine O_addL (e₃.at h₂) h₃ (by simp at hlen ⊢; first | lia | omega) fun z H₄ hz h₄ e₄ => ?_
    exact hQ _ _ ((e₁₂.trans e₃).back hz) (by rw [h₄]; simp [putsS]) ((e₁₂.trans e₃).trans e₄)
  | less =>
    obtain ⟨pre, rfl, rfl⟩ := resK_ok (w := .less) rfl hr
    rw [wants_eq (w := .less) rfl, cut_sub (by simp), ← List.map_take, List.length_append, Nat.add_sub_cancel, List.take_left] at h₂
    refine fun b H₃ hb h₃ e₃ => ?_
    refine O_addL (e₃.at h₂) h₃ (by simp at hlen ⊢; first | lia | omega) fun z H₄ hz h₄ e₄ => ?_
    exact hQ _ _ ((e₁₂.trans e₃).back hz) (by rw [h₄]; simp [putsS]) ((e₁₂.trans e₃).trans e₄)
  | join =>
    obtain ⟨pre, rfl, rfl⟩ := resK_ok (w := .join) rfl hr
    rw [wants_eq (w := .join) rfl, cut_sub (by simp), ← List.map_take, List.length_append, Nat.add_sub_cancel, List.take_left] at h₂
    refine fun b H₃ hb h₃ e₃ => ?_
    refine O_addL (e₃.at h₂) h₃ (by simp at hlen ⊢; first | lia | omega) fun z H₄ hz h₄ e₄ => ?_
    exact hQ _ _ ((e₁₂.trans e₃).back hz) (by rw [h₄]; simp [putsS]) ((e₁₂.trans e₃).trans e₄)
  | long =>
    obtain ⟨pre, rfl, rfl⟩ := resK_ok (w := .long) rfl hr
    rw [wants_eq (w := .long) rfl, cut_sub (by simp), ← List.map_take, List.length_append, Nat.add_sub_cancel, List.take_left] at h₂
    refine fun b H₃ hb h₃ e₃ => ?_
    refine O_addL (e₃.at h₂) h₃ (by simp at hlen ⊢; first | lia | omega) fun z H₄ hz h₄ e₄ => ?_
    exact hQ _ _ ((e₁₂.trans e₃).back hz) (by rw [h₄]; simp [putsS]) ((e₁₂.trans e₃).trans e₄)
  | «show» =>
    obtain ⟨pre, rfl, rfl⟩ := resK_ok (w := .show) rfl hr
    rw [wants_eq (w := .show) rfl, cut_sub (by simp), ← List.map_take, List.length_append, Nat.add_sub_cancel, List.take_left] at h₂
    refine fun b H₃ hb h₃ e₃ => ?_
    refine O_addL (e₃.at h₂) h₃ (by simp at hlen ⊢; first | lia | omega) fun z H₄ hz h₄ e₄ => ?_
    exact hQ _ _ ((e₁₂.trans e₃).back hz) (by rw [h₄]; simp [putsS]) ((e₁₂.trans e₃).trans e₄)
end Mine
end
section
open PySem PySem.W PySem.Calls PyProof.Rows
namespace Mine
set_option autoImplicit false

theorem dget_map {α β : Type} (f : α → β) (k : Str) : ∀ es : List (Str × α), dget (es.map fun p => (p.1, f p.2)) k = (dget es k).map f
  | [] => rfl
  | (n, b) :: es => by
    have ih := dget_map f k es
    unfold dget at ih ⊢
    by_cases h : n = k
    · simp [h]
    · simp only [List.map_cons, List.find?_cons, h, decide_false]; exact ih
theorem dget_blk (es : Pr) (k : Str) : dget (kvsP es) k = (dget es k).map blk := dget_map blk k es
theorem hasKey_blk (es : Pr) (k : Str) : hasKey (kvsP es) k = (dget es k).isSome := by unfold hasKey; rw [dget_blk]; cases dget es k <;> rfl
theorem dget_mem {α : Type} {es : List (Str × α)} {k : Str} {b : α} (h : dget es k = some b) : (k, b) ∈ es := by
  unfold dget at h
  cases q : es.find? (fun p => decide (p.1 = k)) with
  | none => rw [q] at h; cases h
  | some p =>
    rw [q] at h
    have h1 := List.mem_of_find?_eq_some q
    have h2 := List.find?_some q
    have h3 : p.1 = k := by simpa using h2
    cases h
    rw [← h3]; exact h1
theorem blockof_ok : Ver spBlockOf B_block_of N_block_of 2 := by
  intro ps H Q X h
  obtain ⟨p, es, n, rfl, hp, hres⟩ := h
  refine ⟨rfl, ?_⟩
  refine O_niD hp ?_
  rw [hasKey_blk]
  cases hd : dget es n with
  | none =>
    rw [hd] at hres
    exact hres
  | some b =>
    rw [hd] at hres
    exact O_subD hp (by rw [dget_blk, hd]; rfl) hres
theorem called_ok : Ver spCalled B_called N_called 3 := by
  intro ps H Q X h
  have hL : LIM = 1048576 := rfl
  obtain ⟨p, es, ks, n, rfl, hp, hpo, hlen, hres⟩ := h
  refine ⟨rfl, ?_⟩
  refine U_blockof ?_
  refine ⟨p, es, n, rfl, hp, ?_⟩
  unfold callK at hres
  cases hd : dget es n with
  | none => rw [hd] at hres; exact hres
  | some b =>
    rw [hd] at hres
    simp only at hres
    have hb := hpo.blks _ (dget_mem hd)
    have hbl : b.2.1.length ≤ 100 := hb.2.2.2
    refine U_taken ?_
    refine ⟨ks, b.1, rfl, hlen, ?_⟩
    unfold takeK at hres
    refine O_ite (fun _ => ?_) (fun _ => ?_)
    · rename_i q; rw [if_pos q] at hres; exact hres
    · rename_i q
      rw [if_neg q] at hres
      refine O_ite (fun _ => ?_) (fun _ => ?_)
      · rename_i q'
        rw [if_pos q'] at hres
        refine O_addT (by simp; first | lia | omega) ?_
        have hres : Q (.tup (List.map .str (ks.take (ks.length - b.1.length) ++ b.2.1))) H := hres
        rw [List.map_append] at hres
        exact hres
      · rename_i q'
        rw [if_neg q'] at hres
        exact hres
theorem takeK_len {ks ts l : List Str} (h : takeK ks ts = .ok l) : l.length ≤ ks.length := by
  unfold takeK at h
  split at h
  · cases h
  · split at h
    · cases h; simp
    · cases h
theorem behind_takes {w : W} {ts : List Str} (ht : takesS w = some ts) {d : PV} {ks : List Str} {H : AHeap} {Q : Post} {X : XPost} (hlen : ks.length ≤ 20000)
    (hres : match resK ks w with | .ok ys => ∀ H', Ext H H' → Q (.tup (ys.map .str)) H' | .error e => ∀ H', Ext H H' → X e H') :
    awpSs g01 B_behind (fun _ H => Q .none H) Q (fun c _ H => X c H) (initL N_behind 3 [d, .tup (ks.map .str), .tup w.row]) H := by
  have hL : LIM = 1048576 := rfl
  have g0 : itemAt w.row 0 = some (.str (wd w)) := by cases w <;> rfl
  have nn : ∀ x ∈ (["num", "text", "copy", "swap", "drop", "call", "if"] : List Str), (wd w == x) = false := by
    cases w <;> cases ht <;> decide +kernel
  have n1 := nn "num" (by decide +kernel)
  have n2 := nn "text" (by decide +kernel)
  have n3 := nn "copy" (by decide +kernel)
  have n4 := nn "swap" (by decide +kernel)
  have n5 := nn "drop" (by decide +kernel)
  have n6 := nn "call" (by decide +kernel)
  have n7 := nn "if" (by decide +kernel)
  refine O_subT g0 ?_
  refine I_neg (by rw [n1]; decide) ?_
  refine I_neg (by rw [n2]; decide) ?_
  refine I_neg (by rw [n3]; decide) ?_
  refine I_neg (by rw [n4]; decide) ?_
  refine I_neg (by rw [n5]; decide) ?_
  refine I_neg (by rw [n6]; decide) ?_
  refine I_neg (by rw [n7]; decide) ?_
  refine O_glob G_takes ?_
  refine O_subF (tk_get ht) ?_
  refine U_taken ?_
  refine ⟨ks, _, rfl, hlen, ?_⟩
  rw [resK_takes ht] at hres
  refine O_ite (fun _ => ?_) (fun _ => ?_)
  · rename_i q
    rw [if_pos q] at hres
    exact hres _ (Ext.refl H)
  · rename_i q
    rw [if_neg q] at hres
    refine O_ite (fun _ => ?_) (fun _ => ?_)
    · rename_i q'
      rw [if_pos q'] at hres
      refine O_glob G_puts ?_
      refine O_subF (puts_get ht) ?_
      refine O_addT (by simp; first | lia | omega) ?_
      have hq := hres _ (Ext.refl H)
      rw [List.map_append] at hq
      exact hq
    · rename_i q'
      rw [if_neg q'] at hres
      exact hres _ (Ext.refl H)
set_option maxHeartbeats 2000000 in
theorem behind_ok : Ver spBehind B_behind N_behind 3 := by
  intro ps H Q X h
  have hL : LIM = 1048576 := rfl
  obtain ⟨p, es, ks, r, rfl, hp, hpo, hr, hlen, hres⟩ := h
  refine ⟨rfl, ?_⟩
  cases r with
  | call n =>
    refine U_called ?_
    refine ⟨p, es, ks, n, rfl, hp, hpo, hlen, ?_⟩
    have hres : match callK es ks n with | .ok ys => ∀ H', Ext H H' → Q (.tup (ys.map .str)) H' | .error e => ∀ H', Ext H H' → X e H' := hres
    cases hc : callK es ks n with
    | ok ys => rw [hc] at hres; exact hres _ (Ext.refl H)
    | error e => rw [hc] at hres; exact hres _ (Ext.refl H)
  | iff n m =>
    refine U_taken ?_
    refine ⟨ks, ["num"], rfl, hlen, ?_⟩
    simp only [resB] at hres
    have cont : ∀ l, takeK ks ["num"] = .ok l → (match (match dget es n, dget es m with
      | some a, some b => if a.1 = b.1 ∧ a.2.1 = b.2.1 then callK es l n else .error 4
      | _, _ => .error 3) with | .ok ys => ∀ H', Ext H H' → Q (.tup (ys.map .str)) H' | .error e => ∀ H', Ext H H' → X e H') := fun l hl => by rw [hl] at hres; exact hres
    unfold takeK at hres cont
    refine O_ite (fun _ => ?_) (fun _ => ?_)
    · rename_i q
      rw [if_pos q] at hres
      exact hres _ (Ext.refl H)
    · rename_i q
      rw [if_neg q] at hres cont
      refine O_ite (fun _ => ?_) (fun _ => ?_)
      · rename_i q'
        rw [if_pos q'] at cont
        have cont := cont _ rfl
        clear hres
        refine U_blockof ?_
        refine ⟨p, es, n, rfl, hp, ?_⟩
        cases ha : dget es n with
        | none => rw [ha] at cont; exact cont _ (Ext.refl H)
        | some a =>
          rw [ha] at cont
          refine U_blockof ?_
          refine ⟨p, es, m, rfl, hp, ?_⟩
          cases hb : dget es m with
          | none => rw [hb] at cont; exact cont _ (Ext.refl H)
          | some b =>
            rw [hb] at cont
            refine O_neT (eq_strs a.1 b.1) ?_
            by_cases e1 : a.1 = b.1
            · refine I_neg (by simp [e1]) ?_
              refine O_neT (eq_strs a.2.1 b.2.1) ?_
              by_cases e2 : a.2.1 = b.2.1
              · refine I_neg (by simp [e2]) ?_
                have cont : match callK es (ks.take (ks.length - List.length ["num"])) n with | .ok ys => ∀ H', Ext H H' → Q (.tup (ys.map .str)) H' | .error e => ∀ H', Ext H H' → X e H' := by
                  have := cont
                  simp only at this
                  rw [if_pos ⟨e1, e2⟩] at this
                  exact this
                refine U_called ?_
                refine ⟨p, es, ks.take (ks.length - List.length ["num"]), n, rfl, hp, hpo, by simp; first | lia | omega, ?_⟩
                cases hc : callK es (ks.take (ks.length - List.length ["num"])) n with
                | ok ys => rw [hc] at cont; exact cont _ (Ext.refl H)
                | error e => rw [hc] at cont; exact cont _ (Ext.refl H)
              · refine I_pos (by simp [e2]) ?_
                have := cont
                simp only at this
                rw [if_neg (fun q => e2 q.2)] at this
                exact this _ (Ext.refl H)
            · refine I_pos (by simp [e1]) ?_
              have := cont
              simp only at this
              rw [if_neg (fun q => e1 q.1)] at this
              exact this _ (Ext.refl H)
      · rename_i q'
        rw [if_neg q'] at hres
        exact hres _ (Ext.refl H)
  | pl w =>
  have hres : match resK ks w with | .ok ys => ∀ H', Ext H H' → Q (.tup (ys.map .str)) H' | .error e => ∀ H', Ext H H' → X e H' := hres
  have hw : w.ok := hr
  cases w with
  | num i =>
    refine O_addT (by simp; first | lia | omega) ?_
    have hq := hres _ (Ext.refl H)
    rw [List.map_append] at hq
    exact hq
  | text s =>
    refine O_addT (by simp; first | lia | omega) ?_
    have hq := hres _ (Ext.refl H)
    rw [List.map_append] at hq
    exact hq
  | copy n =>
    refine U_moved ?_
    exact ⟨ks, .copy n, rfl, hw, hlen, .inr (.inr ⟨n, rfl⟩), hres⟩
  | swap =>
    refine U_moved ?_
    exact ⟨ks, .swap, rfl, hw, hlen, .inl rfl, hres⟩
  | drop =>
    refine U_moved ?_
    exact ⟨ks, .drop, rfl, hw, hlen, .inr (.inl rfl), hres⟩
  | add => exact behind_takes (w := .add) rfl hlen hres
  | mul => exact behind_takes (w := .mul) rfl hlen hres
  | less => exact behind_takes (w := .less) rfl hlen hres
  | join => exact behind_takes (w := .join) rfl hlen hres
  | long => exact behind_takes (w := .long) rfl hlen hres
  | «show» => exact behind_takes (w := .show) rfl hlen hres
end Mine
end
section
open PySem PySem.W PySem.Calls PyProof.Rows
namespace Mine
set_option autoImplicit false

theorem kok_ne {s : Str} (h : KOk s) : s ≠ ("" : Str) := by
  rcases h with rfl | rfl <;> decide +kernel
theorem zip_any : ∀ {ts us : List Str}, us.length = ts.length → (∀ s ∈ ts, s ≠ ("" : Str)) → (ts.zip us).any (fun p => !(p.1 == ("" : Str)) && !(p.1 == p.2)) = !decide (us = ts)
  | [], [], _, _ => rfl
  | [], _ :: _, h, _ => by simp at h
  | _ :: _, [], h, _ => by simp at h
  | t :: ts, u :: us, h, hn => by
    have ih := zip_any (ts := ts) (us := us) (by simpa using h) fun s hs => hn s (List.mem_cons_of_mem _ hs)
    have ht := hn t (List.mem_cons_self ..)
    rw [List.zip_cons_cons, List.any_cons, ih]
    by_cases q : t = u
    · subst q
      simp
    · have q' : ¬ (u = t) := fun e => q e.symm
      simp [ht, q, q']
noncomputable def wordK : Except Nat (List Str) → Str
  | .ok _ => "" | .error e => wordE e
theorem lack_takeK {ks ts : List Str} (hn : ∀ s ∈ ts, s ≠ ("" : Str)) : lackS ks ts = wordK (takeK ks ts) := by
  unfold takeK
  by_cases hl : ks.length < ts.length
  · rw [lack_few hl, if_pos hl]; rfl
  · rw [if_neg hl]
    obtain ⟨pre, us, rfl, hu⟩ := split_atG (st := ks) (k := ts.length) (by first | decide | lia | omega)
    rw [lack_take hu, zip_any hu hn, show (pre ++ us).length - ts.length = pre.length by simp; first | lia | omega, List.drop_left]
    by_cases q : us = ts
    · rw [if_neg (by simp [q]), if_pos q]; rfl
    · rw [if_pos (by simp [q]), if_neg q]; rfl
theorem thenK_word {r : Except Nat (List Str)} {o : List Str} : wordK (thenK r o) = wordK r := by cases r <;> rfl
theorem lackK_res {ks : List Str} {w : W} : lackS ks (wantedS w) = wordK (resK ks w) := by
  have tk : ∀ ts, takesS w = some ts → (∀ s ∈ ts, s ≠ ("" : Str)) → lackS ks (wantedS w) = wordK (resK ks w) := fun ts ht hn => by
    rw [wants_eq ht, lack_takeK hn, resK_takes ht]
    unfold takeK
    split
    · rfl
    · split <;> rfl
  have free : ∀ n, wantedS w = List.replicate n ("" : Str) → ((ks.length < n ∧ resK ks w = .error 1) ∨ (n ≤ ks.length ∧ ∃ ys, resK ks w = .ok ys)) → lackS ks (wantedS w) = wordK (resK ks w) := fun n hw hc => by
    rw [hw]
    rcases hc with ⟨hl, hr⟩ | ⟨hl, ys, hr⟩
    · rw [hr, lack_few (by simpa using hl)]; rfl
    · rw [hr, lack_free hl]; rfl
  have hn1 : ∀ s ∈ (["num", "num"] : List Str), s ≠ ("" : Str) := by decide +kernel
  have hn2 : ∀ s ∈ (["text", "text"] : List Str), s ≠ ("" : Str) := by decide +kernel
  have hn3 : ∀ s ∈ (["text"] : List Str), s ≠ ("" : Str) := by decide +kernel
  have hn4 : ∀ s ∈ (["num"] : List Str), s ≠ ("" : Str) := by decide +kernel
  cases w with
  | num i => exact free 0 rfl (.inr ⟨by first | decide | lia | omega, _, rfl⟩)
  | text s => exact free 0 rfl (.inr ⟨by first | decide | lia | omega, _, rfl⟩)
  | copy n =>
    refine free (n + 1) rfl ?_
    simp only [resK]
    by_cases hl : ks.length < n + 1
    · left
      refine ⟨hl, ?_⟩
      rw [List.getElem?_eq_none (by simp; first | lia | omega)]
    · right
      refine ⟨by first | decide | lia | omega, ?_⟩
      rw [List.getElem?_eq_getElem (by simp; first | lia | omega)]
      exact ⟨_, rfl⟩
  | swap =>
    refine free 2 rfl ?_
    by_cases hl : ks.length < 2
    · left
      refine ⟨hl, ?_⟩
      match ks, hl with
      | [], _ => rfl
      | [a], _ => rfl
      | _ :: _ :: _, h => simp at h; first | lia | omega
    · right
      refine ⟨by first | decide | lia | omega, ?_⟩
      obtain ⟨pre, vs, rfl, hv⟩ := split_atG (st := ks) (k := 2) (by first | decide | lia | omega)
      obtain ⟨x, y, rfl⟩ := rev_two hv
      exact ⟨pre ++ [y, x], by simp [resK]⟩
  | drop =>
    refine free 1 rfl ?_
    by_cases hl : ks.length < 1
    · left
      refine ⟨hl, ?_⟩
      match ks, hl with
      | [], _ => rfl
      | _ :: _, h => simp at h
    · right
      refine ⟨by first | decide | lia | omega, ?_⟩
      obtain ⟨pre, vs, rfl, hv⟩ := split_atG (st := ks) (k := 1) (by first | decide | lia | omega)
      obtain ⟨x, rfl⟩ := rev_one hv
      exact ⟨pre, by simp [resK]⟩
  | add => exact tk _ rfl hn1
  | mul => exact tk _ rfl hn1
  | less => exact tk _ rfl hn1
  | join => exact tk _ rfl hn2
  | long => exact tk _ rfl hn3
  | «show» => exact tk _ rfl hn4
theorem wordE_ne (e : Nat) : (!(wordE e == ("" : Str))) = true := by
  unfold wordE
  split <;> decide +kernel
theorem takeK_ok {ks ts l : List Str} (h : takeK ks ts = .ok l) : ts.length ≤ ks.length ∧ l = ks.take (ks.length - ts.length) := by
  unfold takeK at h
  split at h
  · cases h
  · rename_i q
    split at h
    · cases h; exact ⟨by first | decide | lia | omega, rfl⟩
    · cases h
theorem lcalled_ok : Ver spLCalled B_law_called N_law_called 3 := by
  intro ps H Q X h
  have hL : LIM = 1048576 := rfl
  obtain ⟨p, a, es, ks, n, b, rfl, hp, hpo, ha, hlen, hd, hres⟩ := h
  refine ⟨rfl, ?_⟩
  have hb := hpo.blks _ (dget_mem hd)
  obtain ⟨hb1, hb2, hb3, hb4⟩ : BOk b := hb
  have hg : dget (kvsP es) n = some (blk b) := by rw [dget_blk, hd]; rfl
  refine O_subD hp hg ?_
  refine O_listT fun c H₁ hc h₁ e₁ => ?_
  refine U_lack ?_
  refine ⟨a, c, ks, b.1, rfl, e₁.at ha, h₁, hlen, by first | decide | lia | omega, ?_⟩
  rw [lack_takeK fun s hs => kok_ne (hb1 s hs)]
  cases ht : takeK ks b.1 with
  | error e =>
    rw [ht] at hres
    refine I_pos (wordE_ne e) ?_
    exact hres _ e₁
  | ok l =>
    rw [ht] at hres
    have hres : ∀ c H', H c = none → H' c = some (.list ((l ++ b.2.1).map .str)) → Ext H H' → Q (.tup [.str "", .obj c]) H' := hres
    obtain ⟨hle, rfl⟩ := takeK_ok ht
    refine O_lenL (e₁.at ha) ?_
    refine O_lenL h₁ ?_
    refine O_toL (e₁.at ha) fun d H₂ hd₂ h₂ e₂ => ?_
    simp only [List.length_map] at h₂
    rw [cut_sub hle, ← List.map_take] at h₂
    refine O_subD ((e₁.trans e₂).at hp) hg ?_
    refine O_listT fun f H₃ hf h₃ e₃ => ?_
    refine O_addL (e₃.at h₂) h₃ (by simp; first | lia | omega) fun z H₄ hz h₄ e₄ => ?_
    exact hres _ _ (((e₁.trans e₂).trans e₃).back hz) (by rw [h₄, List.map_append]) (((e₁.trans e₂).trans e₃).trans e₄)
set_option maxHeartbeats 1000000 in
theorem lnext_ok : Ver spNext B_law_next N_law_next 3 := by
  intro ps H Q X h
  have hL : LIM = 1048576 := rfl
  obtain ⟨p, a, es, ks, r, rfl, hp, hpo, hr, ha, hlen, hres⟩ := h
  refine ⟨rfl, ?_⟩
  cases r with
  | call n =>
    have hres : match callK es ks n with | .ok ys => ∀ c H', H c = none → H' c = some (.list (ys.map .str)) → Ext H H' → Q (.tup [.str "", .obj c]) H' | .error e => ∀ (c : Addr) (ks' : List Str) (H' : AHeap), (H c = none ∨ c = a) → H' c = some (.list (ks'.map .str)) → ks'.length ≤ ks.length → Ext H H' → Q (.tup [.str (wordE e), .obj c]) H' := hres
    unfold callK at hres
    refine O_niD hp ?_
    rw [hasKey_blk]
    cases hd : dget es n with
    | none =>
      rw [hd] at hres
      exact hres a ks H (.inr rfl) ha (Nat.le_refl _) (Ext.refl H)
    | some b =>
      rw [hd] at hres
      simp only at hres
      refine U_lcalled ?_
      refine ⟨p, a, es, ks, n, b, rfl, hp, hpo, ha, hlen, hd, ?_⟩
      cases ht : takeK ks b.1 with
      | ok l => rw [ht] at hres; exact hres
      | error e => rw [ht] at hres; exact fun H' e' => hres a ks H' (.inr rfl) (e'.at ha) (Nat.le_refl _) e'
  | iff n m =>
    refine fun c H₁ hc h₁ e₁ => ?_
    refine U_lack ?_
    have hn1 : ∀ s ∈ (["num"] : List Str), s ≠ ("" : Str) := by decide +kernel
    refine ⟨a, c, ks, ["num"], rfl, e₁.at ha, h₁, hlen, by simp, ?_⟩
    rw [lack_takeK hn1]
    simp only [resB] at hres
    cases ht : takeK ks ["num"] with
    | error e =>
      rw [ht] at hres
      refine I_pos (wordE_ne e) ?_
      exact hres a ks H₁ (.inr rfl) (e₁.at ha) (Nat.le_refl _) e₁
    | ok l =>
      rw [ht] at hres
      simp only at hres
      obtain ⟨hle, rfl⟩ := takeK_ok ht
      refine O_niD (e₁.at hp) ?_
      rw [hasKey_blk]
      cases hd : dget es n with
      | none =>
        rw [hd] at hres
        exact hres a ks H₁ (.inr rfl) (e₁.at ha) (Nat.le_refl _) e₁
      | some x =>
        rw [hd] at hres
        refine O_niD (e₁.at hp) ?_
        rw [hasKey_blk]
        cases hd' : dget es m with
        | none =>
          rw [hd'] at hres
          exact hres a ks H₁ (.inr rfl) (e₁.at ha) (Nat.le_refl _) e₁
        | some y =>
          rw [hd'] at hres
          simp only at hres
          have gn : dget (kvsP es) n = some (blk x) := by rw [dget_blk, hd]; rfl
          have gm : dget (kvsP es) m = some (blk y) := by rw [dget_blk, hd']; rfl
          have hp₁ := e₁.at hp
          refine O_subD hp₁ gn ?_
          refine O_subD hp₁ gm ?_
          refine O_neT (eq_strs x.1 y.1) ?_
          by_cases q1 : x.1 = y.1
          · refine I_neg (by rw [decide_eq_true q1]; decide) ?_
            refine O_subD hp₁ gn ?_
            refine O_subD hp₁ gm ?_
            refine O_neT (eq_strs x.2.1 y.2.1) ?_
            by_cases q2 : x.2.1 = y.2.1
            · rw [if_pos ⟨q1, q2⟩] at hres
              refine I_neg (by rw [decide_eq_true q2]; decide) ?_
              refine O_toL (e₁.at ha) fun d H₂ hd₂ h₂ e₂ => ?_
              have hcut : cutAt (List.map PV.str ks).length (-1) = ks.length - (["num"] : List Str).length := by
                have : 1 ≤ ks.length := hle
                unfold cutAt; rw [if_neg (by first | decide | lia | omega)]; simp; first | lia | omega
              rw [hcut, ← List.map_take] at h₂
              refine U_lcalled ?_
              have e₁₂ := e₁.trans e₂
              refine ⟨p, d, es, ks.take (ks.length - (["num"] : List Str).length), n, x, rfl, e₁₂.at hp, hpo, h₂, by simp; first | lia | omega, hd, ?_⟩
              unfold callK at hres
              rw [hd] at hres
              simp only at hres
              cases ht' : takeK (ks.take (ks.length - (["num"] : List Str).length)) x.1 with
              | ok l' => rw [ht'] at hres; exact fun c H' hc h e => hres c H' (e₁₂.back hc) h (e₁₂.trans e)
              | error e => rw [ht'] at hres; exact fun H' e => hres d _ H' (.inl (e₁.back hd₂)) (e.at h₂) (by simp) (e₁₂.trans e)
            · rw [if_neg (fun q => q2 q.2)] at hres
              refine I_pos (by rw [decide_eq_false q2]; decide) ?_
              exact hres a ks H₁ (.inr rfl) (e₁.at ha) (Nat.le_refl _) e₁
          · rw [if_neg (fun q => q1 q.1)] at hres
            refine I_pos (by rw [decide_eq_false q1]; decide) ?_
            exact hres a ks H₁ (.inr rfl) (e₁.at ha) (Nat.le_refl _) e₁
  | pl w =>
    have hres : match resK ks w with | .ok ys => ∀ c H', H c = none → H' c = some (.list (ys.map .str)) → Ext H H' → Q (.tup [.str "", .obj c]) H' | .error e => ∀ (c : Addr) (ks' : List Str) (H' : AHeap), (H c = none ∨ c = a) → H' c = some (.list (ks'.map .str)) → ks'.length ≤ ks.length → Ext H H' → Q (.tup [.str (wordE e), .obj c]) H' := hres
    have hw : w.ok := hr
    have g0 : itemAt w.row 0 = some (.str (wd w)) := by cases w <;> rfl
    have nc : (wd w == ("call" : Str)) = false := by cases w <;> kernel_rfl
    have ni : (wd w == ("if" : Str)) = false := by cases w <;> kernel_rfl
    refine O_subT g0 ?_
    refine I_neg (by rw [nc]; simp) ?_
    refine O_subT g0 ?_
    refine I_neg (by rw [ni]; simp) ?_
    refine U_wanted ?_
    refine ⟨w, rfl, hw, fun d H₁ hd h₁ e₁ => ?_⟩
    refine U_lack ?_
    refine ⟨a, d, ks, wantedS w, rfl, e₁.at ha, h₁, hlen, by have := wanted_len hw; first | lia | omega, ?_⟩
    rw [lackK_res]
    cases hk : resK ks w with
    | error e =>
      rw [hk] at hres
      refine I_pos (wordE_ne e) ?_
      exact hres a ks H₁ (.inr rfl) (e₁.at ha) (Nat.le_refl _) e₁
    | ok ys =>
      rw [hk] at hres
      refine U_plainly ?_
      refine ⟨a, ks, ys, w, rfl, hw, e₁.at ha, hlen, hk, fun c H' hc h e => ?_⟩
      exact hres _ _ (e₁.back hc) h (e₁.trans e)
theorem resB_err {es : Pr} {ks : List Str} {r : Rw} {e : Nat} (h : resB es ks r = .error e) : e = 1 ∨ e = 2 ∨ e = 3 ∨ e = 4 := by
  have tk : ∀ {ks ts : List Str} {e : Nat}, takeK ks ts = .error e → e = 1 ∨ e = 2 ∨ e = 3 ∨ e = 4 := fun h => by
    unfold takeK at h
    split at h
    · cases h; simp
    · split at h <;> cases h; simp
  have ck : ∀ {ks : List Str} {n : Str} {e : Nat}, callK es ks n = .error e → e = 1 ∨ e = 2 ∨ e = 3 ∨ e = 4 := fun {ks n e} h => by
    unfold callK at h
    cases hd : dget es n with
    | none => rw [hd] at h; cases h; simp
    | some b =>
      rw [hd] at h
      simp only at h
      cases ht : takeK ks b.1 with
      | ok l => rw [ht] at h; cases h
      | error e' => rw [ht] at h; cases h; exact tk ht
  cases r with
  | pl w =>
    have h : resK ks w = .error e := h
    unfold resK at h
    split at h <;> (repeat' split at h) <;> cases h <;> simp
  | call n => exact ck h
  | iff n m =>
    simp only [resB] at h
    cases ht : takeK ks ["num"] with
    | error e' => rw [ht] at h; cases h; exact tk ht
    | ok l =>
      rw [ht] at h
      simp only at h
      split at h
      · split at h
        · exact ck h
        · cases h; simp
      · cases h; simp
end Mine
end
section
open PySem PySem.W PySem.Calls PyProof.Rows
namespace Mine
set_option autoImplicit false

theorem compR {el : PV → (List PV → AHeap → Prop) → AHeap → Prop} {Q : List PV → AHeap → Prop} {n : Nat} (I : Nat → List PV → AHeap → Prop) (h0 : ∀ acc H, I n acc H → Q acc H)
    (h1 : ∀ j acc H, j < n → I j acc H → ∀ K : List PV → AHeap → Prop, (∀ vs H', I (j + 1) (acc ++ vs) H' → K vs H') → el (.int j) K H) (H : AHeap) (hi : I 0 [] H) :
    compW (fun _ => True) el Q ((List.range n).map fun (i : Nat) => PV.int i) [] H := by
  refine compW_ind (fun rest acc H => Ex1 fun j => An3 (j ≤ n) (rest = ((List.range n).drop j).map (fun (i : Nat) => PV.int i)) (I j acc H)) ?_ ?_ _ _ _ ⟨0, by first | decide | lia | omega, rfl, hi⟩
  · rintro acc H ⟨j, hj, hr, h⟩
    have hl := congrArg List.length hr
    simp at hl
    have : j = n := by first | decide | lia | omega
    subst this
    exact ⟨trivial, h0 _ _ h⟩
  · rintro x xs acc H ⟨j, hj, hr, h⟩
    refine ⟨trivial, fun K hK => ?_⟩
    have hjl : j < n := by
      apply Classical.byContradiction
      intro q
      rw [List.drop_eq_nil_of_le (by simp; first | lia | omega)] at hr
      cases hr
    have hd : (List.range n).drop j = j :: (List.range n).drop (j + 1) := by
      rw [List.drop_eq_getElem_cons (by simpa using hjl)]; simp
    rw [hd] at hr
    cases hr
    exact h1 j acc H hjl h K fun m' H' h' => hK _ _ ⟨j + 1, by first | decide | lia | omega, rfl, h'⟩
theorem kind_ne {r : Int} (r0 : 0 ≤ r) (r1 : r < 2) : ∃ s : Str, itemAt [PV.str "num", PV.str "text"] r = some (.str s) ∧ KOk s := by
  have : r = 0 ∨ r = 1 := by first | decide | lia | omega
  rcases this with rfl | rfl
  · exact ⟨"num", rfl, .inl rfl⟩
  · exact ⟨"text", rfl, .inr rfl⟩
theorem kindst_ok : Ver spKindsT B_law_kinds N_law_kinds 2 := by
  intro ps H Q X h
  have hL : LIM = 1048576 := rfl
  obtain ⟨xs, t, n, rfl, hx, ht, hn, hQ⟩ := h
  have hB60 : (2 : Nat) ^ 60 = 1152921504606846976 := by decide
  have hB : (2 : Nat) ^ 57 = 144115188075855872 := by decide
  have hB' : (2 : Nat) ^ 59 = 576460752303423488 := by decide
  refine ⟨rfl, ?_⟩
  refine U_draw ?_
  refine ⟨xs, t, _, n, rfl, hx, ht, by first | exact bd0 hn (by decide) | exact bd1 hn (by decide) | exact bd2 hn (by assumption) (by decide) | exact bd3 hn (by assumption) (by decide) | decide | lia | omega, by first | exact bd0 hn (by decide) | exact bd1 hn (by decide) | exact bd2 hn (by assumption) (by decide) | exact bd3 hn (by assumption) (by decide) | decide | lia | omega, fun r H₁ r0 r1 h₁ e₁ => ?_⟩
  refine W_cut (fun m H₂ => Ex1 fun (size : Nat) => An4 (size ≤ 60) (m = [some (.fls xs), some (.obj t), some (.int size), none]) (H₂ t = some (.tape (n + 2))) (ExtB t H H₂)) ?_ ?_
  · intro K hK
    refine U_draw ?_
    refine ⟨xs, t, _, n + 1, rfl, hx, h₁, by first | exact bd0 hn (by decide) | exact bd1 hn (by decide) | exact bd2 hn (by assumption) (by decide) | exact bd3 hn (by assumption) (by decide) | decide | lia | omega, by first | exact bd0 hn (by decide) | exact bd1 hn (by decide) | exact bd2 hn (by assumption) (by decide) | exact bd3 hn (by assumption) (by decide) | decide | lia | omega, fun r' H₂ r0' r1' h₂ e₂ => ?_⟩
    refine O_ite (fun _ => ?_) (fun _ => ?_)
    · refine O_mulI (by first | decide | lia | omega) ?_
      refine hK _ _ ⟨(4 + r * 18).toNat, by first | decide | lia | omega, ?_, h₂, e₁.trans e₂⟩
      rw [Int.toNat_of_nonneg (by first | decide | lia | omega)]; rfl
    · refine hK _ _ ⟨r.toNat, by first | decide | lia | omega, ?_, h₂, e₁.trans e₂⟩
      rw [Int.toNat_of_nonneg r0]; rfl
  rintro m H₂ ⟨size, z1, rfl, h₂, e₂⟩
  refine O_range (by first | decide | lia | omega) ?_
  refine compR (fun j acc H' => Ex1 fun (ks : List Str) => An5 (acc = ks.map .str) (ks.length = j) ((∀ s ∈ ks, KOk s)) (H' t = some (.tape (n + 2 + j))) (ExtB t H H')) ?_ ?_ _ ⟨[], rfl, rfl, by simp, h₂, e₂⟩
  · rintro acc H₃ ⟨ks, rfl, hl, hne, h₃, e₃⟩
    refine fun c H₄ hc h₄ e₄ => ?_
    refine O_tupL h₄ ?_
    exact hQ _ _ _ (by first | decide | lia | omega) hne (by first | decide | lia | omega) (e₄.at h₃) (e₃.trans (e₄.toB t))
  · rintro j acc H₃ hj ⟨ks, rfl, hl, hne, h₃, e₃⟩ K hK
    refine fun c H₄ hc h₄ e₄ => ?_
    refine U_draw ?_
    refine ⟨xs, t, _, n + 2 + j, rfl, hx, e₄.at h₃, by first | exact bd0 hn (by decide) | exact bd1 hn (by decide) | exact bd2 hn (by assumption) (by decide) | exact bd3 hn (by assumption) (by decide) | decide | lia | omega, by first | exact bd0 hn (by decide) | exact bd1 hn (by decide) | exact bd2 hn (by assumption) (by decide) | exact bd3 hn (by assumption) (by decide) | decide | lia | omega, fun r' H₅ r0' r1' h₅ e₅ => ?_⟩
    have hc₅ := e₅.at (Ne.symm (ne_of h₃ hc)) h₄
    obtain ⟨s, hs, hs'⟩ := kind_ne r0' r1'
    refine O_subL hc₅ hs ?_
    refine hK _ _ ⟨ks ++ [s], by simp, by simp [hl], ?_, h₅, (e₃.trans (e₄.toB t)).trans e₅⟩
    intro y hy
    rcases List.mem_append.mp hy with hy | hy
    · exact hne y hy
    · rw [List.mem_singleton.mp hy]; exact hs'
theorem any_map {α β : Type} (f : α → β) (k : Str) : ∀ es : List (Str × α), (es.map fun p => (p.1, f p.2)).any (fun p => decide (p.1 = k)) = es.any fun p => decide (p.1 = k)
  | [] => rfl
  | p :: es => by simp only [List.map_cons, List.any_cons, any_map f k es]
theorem dset_map {α β : Type} (f : α → β) (k : Str) (v : α) (es : List (Str × α)) : dset (es.map fun p => (p.1, f p.2)) k (f v) = (dset es k v).map fun p => (p.1, f p.2) := by
  unfold dset
  rw [any_map]
  split
  · rw [List.map_map, List.map_map]
    refine List.map_congr_left fun p _ => ?_
    simp only [Function.comp]
    split <;> rfl
  · simp
theorem dset_blk (es : Pr) (k : Str) (b : Bl) : dset (kvsP es) k (blk b) = kvsP (dset es k b) := dset_map blk k b es
theorem dset_mem {α : Type} {es : List (Str × α)} {k : Str} {v : α} {p : Str × α} (h : p ∈ dset es k v) : p ∈ es ∨ p = (k, v) := by
  unfold dset at h
  split at h
  · obtain ⟨q, hq, rfl⟩ := List.mem_map.mp h
    split
    · rename_i e; right; rw [← e]
    · exact .inl hq
  · rcases List.mem_append.mp h with h | h
    · exact .inl h
    · exact .inr (List.mem_singleton.mp h)
theorem dset_nodup {α : Type} {es : List (Str × α)} {k : Str} {v : α} (h : (es.map (·.1)).Nodup) : ((dset es k v).map (·.1)).Nodup := by
  unfold dset
  split
  · rw [List.map_map]
    rw [show ((fun x : Str × α => x.1) ∘ fun p => if p.1 = k then (p.1, v) else p) = fun p => p.1 by funext p; simp only [Function.comp]; split <;> rfl]
    exact h
  · rename_i hn
    rw [List.map_append]
    refine List.nodup_append.mpr ⟨h, by simp, ?_⟩
    intro a ha b hb
    simp at hb
    subst hb
    rintro rfl
    obtain ⟨p, hp, rfl⟩ := List.mem_map.mp ha
    exact hn (List.any_eq_true.mpr ⟨p, hp, by simp⟩)
theorem dset_len {α : Type} {es : List (Str × α)} {k : Str} {v : α} : (dset es k v).length ≤ es.length + 1 := by
  unfold dset; split <;> simp
theorem dset_ne {α : Type} {es : List (Str × α)} {k : Str} {v : α} : dset es k v ≠ [] := by
  unfold dset
  split
  · rename_i h
    intro q
    have : es = [] := by simpa using q
    subst this
    simp at h
  · simp
theorem POk.dset {es : Pr} (h : POk es) {k : Str} {b : Bl} (hk : 0 < k.length ∧ k.length ≤ 200) (hb : BOk b) (hl : es.length < 100) : POk (dset es k b) := by
  refine ⟨dset_nodup h.nodup, fun p hp => ?_, fun p hp => ?_, Nat.le_trans dset_len hl⟩
  · rcases dset_mem hp with hp | rfl
    · exact h.name p hp
    · exact hk
  · rcases dset_mem hp with hp | rfl
    · exact h.blks p hp
    · exact hb
set_option maxRecDepth 10000 in
theorem arith400 {k n n' j : Nat} (hk : k ≤ n' + 320) (hn' : n' ≤ n + 10 + 400 * j) : k ≤ n + 10 + 400 * (j + 1) := by
  rw [Nat.mul_succ]
  generalize 400 * j = z at hn' ⊢
  first | lia | omega
theorem fresh_of {H H' : AHeap} {t c : Addr} {n : Nat} (e : ExtB t H H') (ht : H' t = some (.tape n)) (hc : H' c = none) : H c = none := by
  cases q : H c with
  | none => rfl
  | some o => rw [e.at (by rintro rfl; rw [ht] at hc; cases hc) q] at hc; cases hc
set_option maxRecDepth 10000 in
theorem ltold_ok : Ver spTold B_law_told N_law_told 2 := by
  intro ps H Q X h
  have hL : LIM = 1048576 := rfl
  obtain ⟨xs, t, n, rfl, hx, ht, hn, hQ⟩ := h
  have hB : (2 : Nat) ^ 50 = 1125899906842624 := by decide
  have hB1 : (2 : Nat) ^ 57 = 144115188075855872 := by decide
  have hB' : (2 : Nat) ^ 59 = 576460752303423488 := by decide
  have hlit : Str.length "abcdefghijkl" = 12 := by decide +kernel
  refine ⟨rfl, ?_⟩
  refine W_cut (fun m H₁ => Ex1 fun (count : Nat) => An5 (1 ≤ count) (count ≤ 11) (m = [some (.fls xs), some (.obj t), some (.int count), none, none, none, none, none, none, none]) (H₁ t = some (.tape (n + 1))) (ExtB t H H₁)) ?_ ?_
  · intro K hK
    refine U_draw ?_
    refine ⟨xs, t, _, n, rfl, hx, ht, by first | exact bd0 hn (by decide) | exact bd1 hn (by decide) | exact bd2 hn (by assumption) (by decide) | exact bd3 hn (by assumption) (by decide) | decide | lia | omega, by first | exact bd0 hn (by decide) | exact bd1 hn (by decide) | exact bd2 hn (by assumption) (by decide) | exact bd3 hn (by assumption) (by decide) | decide | lia | omega, fun r H₁ r0 r1 h₁ e₁ => ?_⟩
    refine hK _ _ ⟨(1 + r).toNat, by first | decide | lia | omega, by first | decide | lia | omega, ?_, h₁, e₁⟩
    rw [Int.toNat_of_nonneg (by first | decide | lia | omega)]; rfl
  rintro m H₁ ⟨count, c0, c1, rfl, h₁, x₁⟩
  refine W_cut (fun m H₁ => Ex2 fun (count n' : Nat) => An6 (1 ≤ count) (count ≤ 11) (n' ≤ n + 3) (m = [some (.fls xs), some (.obj t), some (.int count), none, none, none, none, none, none, none]) (H₁ t = some (.tape n')) (ExtB t H H₁)) ?_ ?_
  · intro K hK
    refine U_draw ?_
    refine ⟨xs, t, _, n + 1, rfl, hx, h₁, by first | exact bd0 hn (by decide) | exact bd1 hn (by decide) | exact bd2 hn (by assumption) (by decide) | exact bd3 hn (by assumption) (by decide) | decide | lia | omega, by first | exact bd0 hn (by decide) | exact bd1 hn (by decide) | exact bd2 hn (by assumption) (by decide) | exact bd3 hn (by assumption) (by decide) | decide | lia | omega, fun r H₂ r0 r1 h₂ e₂ => ?_⟩
    refine O_ite (fun _ => ?_) (fun _ => ?_)
    · refine U_draw ?_
      refine ⟨xs, t, _, n + 2, rfl, hx, h₂, by first | exact bd0 hn (by decide) | exact bd1 hn (by decide) | exact bd2 hn (by assumption) (by decide) | exact bd3 hn (by assumption) (by decide) | decide | lia | omega, by first | exact bd0 hn (by decide) | exact bd1 hn (by decide) | exact bd2 hn (by assumption) (by decide) | exact bd3 hn (by assumption) (by decide) | decide | lia | omega, fun r' H₃ r0' r1' h₃ e₃ => ?_⟩
      refine hK _ _ ⟨(6 + r').toNat, n + 3, by first | decide | lia | omega, by first | decide | lia | omega, by first | decide | lia | omega, ?_, h₃, (x₁.trans e₂).trans e₃⟩
      rw [Int.toNat_of_nonneg (by first | decide | lia | omega)]; rfl
    · exact hK _ _ ⟨count, n + 2, c0, c1, by first | decide | lia | omega, rfl, h₂, x₁.trans e₂⟩
  clear c0 c1 h₁ x₁ H₁ count
  rintro m H₁ ⟨count, n₁, c0, c1, hn₁, rfl, h₁, x₁⟩
  refine fun p H₂ hp h₂ e₂ => ?_
  have hpH : H p = none := fresh_of x₁ h₁ hp
  have htp : t ≠ p := ne_of h₁ hp
  have t₂ := e₂.at h₁
  refine U_draw ?_
  refine ⟨xs, t, _, n₁, rfl, hx, t₂, by first | exact bd0 hn (by decide) | exact bd1 hn (by decide) | exact bd2 hn (by assumption) (by decide) | exact bd3 hn (by assumption) (by decide) | decide | lia | omega, by first | exact bd0 hn (by decide) | exact bd1 hn (by decide) | exact bd2 hn (by assumption) (by decide) | exact bd3 hn (by assumption) (by decide) | decide | lia | omega, fun r H₄ r0 r1 t₄ e₄ => ?_⟩
  have p₄ := e₄.at (Ne.symm htp) h₂
  refine fun y H₅ hy h₅ e₅ => ?_
  refine U_draw ?_
  refine ⟨xs, t, _, n₁ + 1, rfl, hx, e₅.at t₄, by first | exact bd0 hn (by decide) | exact bd1 hn (by decide) | exact bd2 hn (by assumption) (by decide) | exact bd3 hn (by assumption) (by decide) | decide | lia | omega, by first | exact bd0 hn (by decide) | exact bd1 hn (by decide) | exact bd2 hn (by assumption) (by decide) | exact bd3 hn (by assumption) (by decide) | decide | lia | omega, fun r' H₆ r0' r1' t₆ e₆ => ?_⟩
  have p₆ := e₆.at (Ne.symm htp) (e₅.at p₄)
  have y₆ := e₆.at (Ne.symm (ne_of t₄ hy)) h₅
  have hi : ∃ i : Int, itemAt [PV.int 0, PV.int 2, PV.int 50] r' = some (.int i) ∧ 0 ≤ i ∧ i ≤ 50 := by
    have : r' = 0 ∨ r' = 1 ∨ r' = 2 := by first | decide | lia | omega
    rcases this with rfl | rfl | rfl
    · exact ⟨0, rfl, by first | decide | lia | omega, by first | decide | lia | omega⟩
    · exact ⟨2, rfl, by first | decide | lia | omega, by first | decide | lia | omega⟩
    · exact ⟨50, rfl, by first | decide | lia | omega, by first | decide | lia | omega⟩
  obtain ⟨i, hi, i0, i1⟩ := hi
  refine O_subL y₆ hi ?_
  refine U_words ?_
  refine ⟨_, i, rfl, i0, by first | decide | lia | omega, fun beg H₇ hbl e₇ => ?_⟩
  have t₇ := e₇.at t₆
  have p₇ := e₇.at p₆
  refine U_draw ?_
  refine ⟨xs, t, _, n₁ + 2, rfl, hx, t₇, by first | exact bd0 hn (by decide) | exact bd1 hn (by decide) | exact bd2 hn (by assumption) (by decide) | exact bd3 hn (by assumption) (by decide) | decide | lia | omega, by first | exact bd0 hn (by decide) | exact bd1 hn (by decide) | exact bd2 hn (by assumption) (by decide) | exact bd3 hn (by assumption) (by decide) | decide | lia | omega, fun mid H₈ _ _ t₈ e₈ => ?_⟩
  have p₈ := e₈.at (Ne.symm htp) p₇
  have hbeg : beg.length ≤ 50 := by first | decide | lia | omega
  have x₈ : ExtB t H H₈ := (((((x₁.trans (e₂.toB t)).trans e₄).trans (e₅.toB t)).trans e₆).trans (e₇.toB t)).trans e₈
  clear h₅ y₆ hi e₂ e₄ e₅ e₆ e₇ e₈ t₂ t₄ t₆ t₇ p₄ p₆ p₇ h₂
  refine O_range (by first | decide | lia | omega) ?_
  refine forR (fun j m H' => Ex6 fun (es : Pr) (b : Bl) (n' : Nat) (x7 x8 x9 : Option PV) => An11 (m = [some (.fls xs), some (.obj t), some (.int count), some (.obj p), some (blk b), some (.str beg), some (.int mid), x7, x8, x9]) (BOk b) (b.2.2 = [] ∧ b.2.1.length ≤ 60) (POk es) ((∀ q ∈ es, q.2.2.2 = [] ∧ q.2.2.1.length ≤ 60)) (es.length ≤ j) ((0 < j → es ≠ [])) (n' ≤ n + 10 + 400 * j) (H' t = some (.tape n')) (H' p = some (.dict (kvsP es))) (ExtB t H H')) ?_ ?_ _ _ ⟨[], (["num"], ["num"], []), n₁ + 3, none, none, none, rfl, ?_, ⟨rfl, by simp⟩, ⟨by simp, by simp, by simp, by simp⟩, by simp, by simp, by simp, by first | decide | lia | omega, t₈, p₈, x₈⟩
  · rintro m H' ⟨es, b, n', x7, x8, x9, rfl, hb, hbn, hes, hen, hl, hne, hn', ht', hp', ex'⟩
    exact hQ p es n' _ hes (hne (by first | decide | lia | omega)) hen hpH hp' (by first | decide | lia | omega) ht' ex'
  · rintro j m H' hj ⟨es, b, n', x7, x8, x9, rfl, hb, hbn, hes, hen, hl, hne, hn', ht', hp', ex'⟩ K hK
    have hnb : n' ≤ n + 4410 := by clear hne; first | lia | omega
    clear hne
    obtain ⟨sj, hsj, hsl⟩ := sign_at (s := "abcdefghijkl") (i := (j : Int)) (by first | decide | lia | omega) (by rw [hlit]; first | lia | omega)
    refine W_cut (fun m H'' => Ex1 fun (nm : Str) => An5 (0 < nm.length) (nm.length ≤ 200) (m = [some (.fls xs), some (.obj t), some (.int count), some (.obj p), some (blk b), some (.str beg), some (.int mid), some (.int j), some (.str nm), x9]) (H'' t = some (.tape (n' + 2))) (ExtB t H' H'')) ?_ ?_
    · intro K hK
      refine U_draw ?_
      refine ⟨xs, t, _, n', rfl, hx, ht', by first | exact bd0 hn (by decide) | exact bd1 hn (by decide) | exact bd2 hn (by assumption) (by decide) | exact bd3 hn (by assumption) (by decide) | decide | lia | omega, by first | exact bd0 hn (by decide) | exact bd1 hn (by decide) | exact bd2 hn (by assumption) (by decide) | exact bd3 hn (by assumption) (by decide) | decide | lia | omega, fun r H₁ r0 r1 t₁ e₁ => ?_⟩
      refine U_draw ?_
      refine ⟨xs, t, _, n' + 1, rfl, hx, t₁, by first | exact bd0 hn (by decide) | exact bd1 hn (by decide) | exact bd2 hn (by assumption) (by decide) | exact bd3 hn (by assumption) (by decide) | decide | lia | omega, by first | exact bd0 hn (by decide) | exact bd1 hn (by decide) | exact bd2 hn (by assumption) (by decide) | exact bd3 hn (by assumption) (by decide) | decide | lia | omega, fun r' H₂ r0' r1' t₂ e₂ => ?_⟩
      refine U_words ?_
      refine ⟨_, r', rfl, r0', by first | decide | lia | omega, fun s H₃ hs e₃ => ?_⟩
      refine O_addS (by first | decide | lia | omega) ?_
      refine O_subS (by rw [hlit]; first | lia | omega) hsj ?_
      refine O_addS (by rw [str_len_append]; first | lia | omega) ?_
      refine hK _ _ ⟨_, ?_, ?_, rfl, e₃.at t₂, (e₁.trans e₂).trans (e₃.toB t)⟩
      · rw [str_len_append, str_len_append]; first | lia | omega
      · rw [str_len_append, str_len_append]; first | lia | omega
    rintro m H₁ ⟨nm, nl0, nl1, rfl, t₁, e₁⟩
    refine W_cut (fun m H'' => Ex1 fun (nm : Str) => An4 (0 < nm.length) (nm.length ≤ 200) (m = [some (.fls xs), some (.obj t), some (.int count), some (.obj p), some (blk b), some (.str beg), some (.int mid), some (.int j), some (.str nm), x9]) (H'' = H₁)) ?_ ?_
    · intro K hK
      refine O_ite (fun _ => ?_) (fun _ => ?_)
      · refine O_subS (by rw [hlit]; first | lia | omega) hsj ?_
        refine O_addS (by first | decide | lia | omega) ?_
        refine O_addS (by rw [str_len_append]; first | lia | omega) ?_
        refine hK _ _ ⟨_, ?_, ?_, rfl, rfl⟩
        · rw [str_len_append, str_len_append]; first | lia | omega
        · rw [str_len_append, str_len_append]; first | lia | omega
      · exact hK _ _ ⟨nm, nl0, nl1, rfl, rfl⟩
    clear nl0 nl1 nm
    rintro m _ ⟨nm, nl0, nl1, rfl, rfl⟩
    refine U_draw ?_
    refine ⟨xs, t, _, n' + 2, rfl, hx, t₁, by first | exact bd0 hn (by decide) | exact bd1 hn (by decide) | exact bd2 hn (by assumption) (by decide) | exact bd3 hn (by assumption) (by decide) | decide | lia | omega, by first | exact bd0 hn (by decide) | exact bd1 hn (by decide) | exact bd2 hn (by assumption) (by decide) | exact bd3 hn (by assumption) (by decide) | decide | lia | omega, fun way H₂ _ _ t₂ e₂ => ?_⟩
    have e₁₂ := e₁.trans e₂
    refine W_cut (fun m H'' => Ex2 fun (b : Bl) (k : Nat) => An6 (BOk b) (b.2.2 = [] ∧ b.2.1.length ≤ 60) (m = [some (.fls xs), some (.obj t), some (.int count), some (.obj p), some (blk b), some (.str beg), some (.int mid), some (.int j), some (.str nm), some (.int way)]) (k ≤ n' + 210) (H'' t = some (.tape k)) (ExtB t H' H'')) ?_ ?_
    · intro K hK
      have fin : ∀ (b : Bl) (k : Nat) (H'' : AHeap), BOk b → b.2.2 = [] ∧ b.2.1.length ≤ 60 → k ≤ n' + 210 → H'' t = some (.tape k) → ExtB t H' H'' → K [some (.fls xs), some (.obj t), some (.int count), some (.obj p), some (blk b), some (.str beg), some (.int mid), some (.int j), some (.str nm), some (.int way)] H'' := fun b k H'' h1 h0 h2 h3 h4 => hK _ _ ⟨b, k, h1, h0, rfl, h2, h3, h4⟩
      refine O_ite (fun _ => ?_) (fun _ => ?_)
      · refine U_kindst ?_
        refine ⟨xs, t, _, rfl, hx, t₂, by first | exact bd0 hn (by decide) | exact bd1 hn (by decide) | exact bd2 hn (by assumption) (by decide) | exact bd3 hn (by assumption) (by decide) | decide | lia | omega, fun ks k₁ H₃ l₁ ne₁ hk₁ t₃ e₃ => ?_⟩
        refine U_kindst ?_
        refine ⟨xs, t, _, rfl, hx, t₃, by first | exact bd0 hn (by decide) | exact bd1 hn (by decide) | exact bd2 hn (by assumption) (by decide) | exact bd3 hn (by assumption) (by decide) | decide | lia | omega, fun ks' k₂ H₄ l₂ ne₂ hk₂ t₄ e₄ => ?_⟩
        exact fin (ks, ks', []) k₂ H₄ ⟨ne₁, ne₂, by show ks.length ≤ 100; first | lia | omega, by show ks'.length ≤ 100; first | lia | omega⟩ ⟨rfl, l₂⟩ (by first | decide | lia | omega) t₄ ((e₁₂.trans e₃).trans e₄)
      · refine O_ite (fun _ => ?_) (fun _ => ?_)
        · refine U_kindst ?_
          refine ⟨xs, t, _, rfl, hx, t₂, by first | exact bd0 hn (by decide) | exact bd1 hn (by decide) | exact bd2 hn (by assumption) (by decide) | exact bd3 hn (by assumption) (by decide) | decide | lia | omega, fun ks k₁ H₃ l₁ ne₁ hk₁ t₃ e₃ => ?_⟩
          refine U_kindst ?_
          refine ⟨xs, t, _, rfl, hx, t₃, by first | exact bd0 hn (by decide) | exact bd1 hn (by decide) | exact bd2 hn (by assumption) (by decide) | exact bd3 hn (by assumption) (by decide) | decide | lia | omega, fun ks' k₂ H₄ l₂ ne₂ hk₂ t₄ e₄ => ?_⟩
          exact fin (ks, ks', []) k₂ H₄ ⟨ne₁, ne₂, by show ks.length ≤ 100; first | lia | omega, by show ks'.length ≤ 100; first | lia | omega⟩ ⟨rfl, l₂⟩ (by first | decide | lia | omega) t₄ ((e₁₂.trans e₃).trans e₄)
        · exact fin b _ _ hb hbn (by first | decide | lia | omega) t₂ e₁₂
    clear t₁ t₂ e₁ e₂ e₁₂ hb hbn b
    rintro m H₂ ⟨b, k, hb, hbn, rfl, hk, t₂, e₂⟩
    refine W_cut (fun m H'' => Ex2 fun (b : Bl) (k : Nat) => An6 (BOk b) (b.2.2 = [] ∧ b.2.1.length ≤ 60) (m = [some (.fls xs), some (.obj t), some (.int count), some (.obj p), some (blk b), some (.str beg), some (.int mid), some (.int j), some (.str nm), some (.int way)]) (k ≤ n' + 320) (H'' t = some (.tape k)) (ExtB t H' H'')) ?_ ?_
    · intro K hK
      have one : ∀ (ks : List Str) (k : Nat) (H'' : AHeap), ks.length ≤ 60 → (∀ s ∈ ks, KOk s) → k ≤ n' + 320 → H'' t = some (.tape k) → ExtB t H' H'' → K [some (.fls xs), some (.obj t), some (.int count), some (.obj p), some (.tup [.tup (b.1.map .str), .tup (ks.map .str)]), some (.str beg), some (.int mid), some (.int j), some (.str nm), some (.int way)] H'' := fun ks k H'' l ne h2 h3 h4 =>
        hK _ _ ⟨(b.1, ks, []), k, ⟨hb.1, ne, hb.2.2.1, by show ks.length ≤ 100; first | lia | omega⟩, ⟨rfl, l⟩, rfl, h2, h3, h4⟩
      refine O_ite (fun _ => ?_) (fun _ => ?_)
      · refine U_kindst ?_
        refine ⟨xs, t, _, rfl, hx, t₂, by first | exact bd0 hn (by decide) | exact bd1 hn (by decide) | exact bd2 hn (by assumption) (by decide) | exact bd3 hn (by assumption) (by decide) | decide | lia | omega, fun ks k₁ H₃ l₁ ne₁ hk₁ t₃ e₃ => ?_⟩
        exact one ks k₁ H₃ l₁ ne₁ (by first | decide | lia | omega) t₃ (e₂.trans e₃)
      · refine O_ite (fun _ => ?_) (fun _ => ?_)
        · refine U_kindst ?_
          refine ⟨xs, t, _, rfl, hx, t₂, by first | exact bd0 hn (by decide) | exact bd1 hn (by decide) | exact bd2 hn (by assumption) (by decide) | exact bd3 hn (by assumption) (by decide) | decide | lia | omega, fun ks k₁ H₃ l₁ ne₁ hk₁ t₃ e₃ => ?_⟩
          exact one ks k₁ H₃ l₁ ne₁ (by first | decide | lia | omega) t₃ (e₂.trans e₃)
        · exact hK _ _ ⟨b, k, hb, hbn, rfl, by first | decide | lia | omega, t₂, e₂⟩
    clear t₂ e₂ hb hbn b hk k H₂
    rintro m H₂ ⟨b, k, hb, hbn, rfl, hk, t₂, e₂⟩
    have p₂ := e₂.at (Ne.symm htp) hp'
    refine O_storeD p₂ (by simp [kvsP]; first | lia | omega) fun H₄ h₄ e₄ => ?_
    have hk' : k ≤ n + 10 + 400 * (j + 1) := arith400 hk hn'
    refine hK _ _ ⟨dset es nm b, b, k, _, _, _, rfl, hb, hbn, hes.dset ⟨nl0, nl1⟩ hb (by first | decide | lia | omega), ?_, Nat.le_trans dset_len (Nat.succ_le_succ hl), fun _ => dset_ne, hk', e₄.at htp t₂, ?_, ExtB.over hpH (ex'.trans e₂) e₄⟩
    · intro q hq
      rcases dset_mem hq with hq | rfl
      · exact hen q hq
      · exact hbn
    · rw [h₄]; exact congrArg some (congrArg AObj.dict (dset_blk es nm b))
  · have hn1 : ∀ s ∈ (["num"] : List Str), KOk s := fun s hs => .inl (by simpa using hs)
    exact ⟨hn1, hn1, by simp, by simp⟩
end Mine
end
section
open PySem PySem.W PySem.Calls PyProof.Rows
namespace Mine
set_option autoImplicit false

theorem gainL_append (a b : List Rw) : gainL (a ++ b) = gainL a + gainL b := by simp [gainL]
theorem rowsPV_append (a b : List Rw) : rowsPV (a ++ b) = rowsPV a ++ rowsPV b := by simp [rowsPV]
theorem names_at {ns : List Str} {r : Int} (h0 : 0 ≤ r) (h1 : r < ns.length) : ∃ s, s ∈ ns ∧ itemAt (ns.map PV.str) r = some (.str s) := by
  obtain ⟨k, rfl⟩ := Int.eq_ofNat_of_zero_le h0
  have hk : k < ns.length := by first | decide | lia | omega
  exact ⟨ns[k], List.getElem_mem hk, itemAt_nat rfl (by simp [hk])⟩
theorem runK_app (es : Pr) : ∀ (ks : List Str) (a b : List Rw), runK es ks (a ++ b) = (runK es ks a).bind fun k => runK es k b
  | ks, [], b => rfl
  | ks, r :: a, b => by
    show (match resB es ks r with | .ok ys => runK es ys (a ++ b) | .error _ => none) = Option.bind (match resB es ks r with | .ok ys => runK es ys a | .error _ => none) _
    cases resB es ks r with
    | ok ys => exact runK_app es ys a b
    | error e => rfl
theorem runK_ok {es : Pr} {ks ys : List Str} {r : Rw} (h : resB es ks r = .ok ys) (rs : List Rw) : runK es ks (r :: rs) = runK es ys rs := by
  show (match resB es ks r with | .ok ys => runK es ys rs | .error _ => none) = _
  rw [h]
theorem runK_inv {es : Pr} {ks : List Str} {r : Rw} {rs : List Rw} (h : (runK es ks (r :: rs)).isSome = true) : ∃ ys, resB es ks r = .ok ys ∧ (runK es ys rs).isSome = true := by
  cases hr : resB es ks r with
  | ok ys => rw [runK_ok hr] at h; exact ⟨ys, rfl, h⟩
  | error e =>
    have : runK es ks (r :: rs) = none := by
      show (match resB es ks r with | .ok ys => runK es ys rs | .error _ => none) = _
      rw [hr]
    rw [this] at h; cases h
theorem takeK_end (ks ts : List Str) : takeK (ks ++ ts) ts = .ok ks := by
  unfold takeK
  rw [if_neg (by simp), show (ks ++ ts).length - ts.length = ks.length by simp, List.drop_left, if_pos rfl, List.take_left]
theorem callK_of {es : Pr} {ks l : List Str} {n : Str} {b : Bl} (hb : dget es n = some b) (h : takeK ks b.1 = .ok l) : callK es ks n = .ok (l ++ b.2.1) := by
  unfold callK; rw [hb]; simp only; rw [h]; rfl
theorem callR_of {es : Pr} {ks l : List Str} {n : Str} {b : Bl} (hb : dget es n = some b) (h : takeK ks b.1 = .ok l) : resB es ks (.call n) = .ok (l ++ b.2.1) := callK_of hb h
theorem lack_ok' {ks ts : List Str} (hn : ∀ s ∈ ts, KOk s) (h : lackS ks ts = "") : ∃ l, takeK ks ts = .ok l := by
  rw [lack_takeK fun s hs => kok_ne (hn s hs)] at h
  cases ht : takeK ks ts with
  | ok l => exact ⟨l, rfl⟩
  | error e => rw [ht] at h; have := wordE_ne e; rw [show wordE e = "" from h] at this; simp at this
theorem push_row {s : Str} {v : PV} (hs : KOk s) (hv : Okv v) (hk : kindS v = (if s == "text" then "text" else "num")) : ∃ w : W, w.ok ∧ w.row = [.str s, v] ∧ ∀ ks, resK ks w = .ok (ks ++ [s]) := by
  rcases hs with rfl | rfl
  · obtain ⟨i, rfl, i0, i1⟩ := okv_num hv (by rw [hk]; decide +kernel)
    exact ⟨.num i, ⟨i0, i1⟩, rfl, fun _ => rfl⟩
  · obtain ⟨u, rfl, hu⟩ := okv_text hv (by rw [hk]; decide +kernel)
    exact ⟨.text u, hu, rfl, fun _ => rfl⟩
theorem pushes_ok : Ver spPushes B_law_pushes N_law_pushes 3 := by
  intro ps H Q X h
  have hL : LIM = 1048576 := rfl
  obtain ⟨xs, t, n, v, ss, rfl, hx, ht, hn, hsrc, hss, hsl, hQ⟩ := h
  have hB : (2 : Nat) ^ 56 = 72057594037927936 := by decide
  have hB1 : (2 : Nat) ^ 58 = 288230376151711744 := by decide
  refine ⟨rfl, ?_⟩
  have fin : ∀ (us : List Str) (rs : List Rw) (H' : AHeap), us.length ≤ 100 → (∀ r ∈ rs, r.ok) → rs.length = ss.length → gainL rs = ss.length → (∀ (es : Pr) (ks : List Str), runK es ks rs = some (ks ++ ss)) → H' t = some (.tape (n + 2 * us.length)) → ExtB t H H' → alloc (.list (rowsPV rs)) Q H' := fun us rs H' h0 h1 h2 h3 hr h4 h5 => by
    refine fun c H'' hc hc' e => ?_
    exact hQ c rs (n + 2 * us.length) H'' h1 h2 h3 hr (by first | decide | lia | omega) (fresh_of h5 h4 hc) hc' (e.at h4) (h5.trans (e.toB t))
  have hls : ∀ us vs : List Str, ss = us ++ vs → us.length + vs.length = ss.length := fun us vs e => by rw [e]; simp
  rcases hsrc with rfl | ⟨a, rfl, ha⟩
  · refine compW_ind (fun rest acc H' => Ex3 fun (us vs : List Str) (rs : List Rw) => An9 (ss = us ++ vs) (rest = vs.map .str) (acc = rowsPV rs) ((∀ r ∈ rs, r.ok)) (rs.length = us.length) (gainL rs = us.length) (∀ (es : Pr) (ks : List Str), runK es ks rs = some (ks ++ us)) (H' t = some (.tape (n + 2 * us.length))) (ExtB t H H')) ?_ ?_ _ _ _ ⟨[], ss, [], rfl, rfl, rfl, by simp, rfl, rfl, fun es ks => by simp [runK], ht, fun _ _ _ h => h⟩
    · rintro acc H' ⟨us, vs, rs, hs, hr, rfl, h1, h2, h3, hrn, h4, h5⟩
      have hvs : vs = [] := by cases vs with | nil => rfl | cons _ _ => cases hr
      subst hvs
      have := hls us [] hs
      simp only [List.length_nil] at this
      refine ⟨trivial, fin us rs H' (by first | decide | lia | omega) h1 (by first | decide | lia | omega) (by first | decide | lia | omega) (by rw [hs, List.append_nil]; exact hrn) h4 h5⟩
    · rintro y rest acc H' ⟨us, vs, rs, hs, hr, rfl, h1, h2, h3, hrn, h4, h5⟩
      refine ⟨trivial, fun K hK => ?_⟩
      cases vs with
      | nil => cases hr
      | cons s vs =>
      cases hr
      have hlu := hls us (s :: vs) hs
      simp only [List.length_cons] at hlu
      refine U_value ?_
      refine ⟨xs, t, _, _, rfl, hx, h4, by first | exact bd0 hn (by decide) | exact bd1 hn (by decide) | exact bd2 hn (by assumption) (by decide) | exact bd3 hn (by assumption) (by decide) | decide | lia | omega, fun v H'' hv hkv t' e' => ?_⟩
      obtain ⟨w, hw, hrow, hrk⟩ := push_row (hss s (by rw [hs]; simp)) hv hkv
      refine hK _ _ ⟨us ++ [s], vs, rs ++ [.pl w], by rw [hs]; simp, rfl, by rw [rowsPV_append]; simp [rowsPV, Rw.row, hrow], ?_, by simp [h2], by rw [gainL_append, h3]; simp [gainL, Rw.gain], fun es ks => by rw [runK_app, hrn]; show runK es (ks ++ us) [.pl w] = _; rw [runK_ok (show resB es (ks ++ us) (.pl w) = .ok (ks ++ us ++ [s]) from hrk _)]; simp [runK], by rw [t']; simp; first | lia | omega, h5.trans e'⟩
      intro r hr
      rcases List.mem_append.mp hr with hr | hr
      · exact h1 r hr
      · rw [List.mem_singleton.mp hr]; exact hw
  · refine O_itL ha ?_
    refine compW_ind (fun rest acc H' => Ex3 fun (us vs : List Str) (rs : List Rw) => An9 (ss = us ++ vs) (rest = vs.map .str) (acc = rowsPV rs) ((∀ r ∈ rs, r.ok)) (rs.length = us.length) (gainL rs = us.length) (∀ (es : Pr) (ks : List Str), runK es ks rs = some (ks ++ us)) (H' t = some (.tape (n + 2 * us.length))) (ExtB t H H')) ?_ ?_ _ _ _ ⟨[], ss, [], rfl, rfl, rfl, by simp, rfl, rfl, fun es ks => by simp [runK], ht, fun _ _ _ h => h⟩
    · rintro acc H' ⟨us, vs, rs, hs, hr, rfl, h1, h2, h3, hrn, h4, h5⟩
      have hvs : vs = [] := by cases vs with | nil => rfl | cons _ _ => cases hr
      subst hvs
      have := hls us [] hs
      simp only [List.length_nil] at this
      refine ⟨h5.at (fun e => by rw [e, ht] at ha; cases ha) ha, fin us rs H' (by first | decide | lia | omega) h1 (by first | decide | lia | omega) (by first | decide | lia | omega) (by rw [hs, List.append_nil]; exact hrn) h4 h5⟩
    · rintro y rest acc H' ⟨us, vs, rs, hs, hr, rfl, h1, h2, h3, hrn, h4, h5⟩
      refine ⟨h5.at (fun e => by rw [e, ht] at ha; cases ha) ha, fun K hK => ?_⟩
      cases vs with
      | nil => cases hr
      | cons s vs =>
      cases hr
      have hlu := hls us (s :: vs) hs
      simp only [List.length_cons] at hlu
      refine U_value ?_
      refine ⟨xs, t, _, _, rfl, hx, h4, by first | exact bd0 hn (by decide) | exact bd1 hn (by decide) | exact bd2 hn (by assumption) (by decide) | exact bd3 hn (by assumption) (by decide) | decide | lia | omega, fun v H'' hv hkv t' e' => ?_⟩
      obtain ⟨w, hw, hrow, hrk⟩ := push_row (hss s (by rw [hs]; simp)) hv hkv
      refine hK _ _ ⟨us ++ [s], vs, rs ++ [.pl w], by rw [hs]; simp, rfl, by rw [rowsPV_append]; simp [rowsPV, Rw.row, hrow], ?_, by simp [h2], by rw [gainL_append, h3]; simp [gainL, Rw.gain], fun es ks => by rw [runK_app, hrn]; show runK es (ks ++ us) [.pl w] = _; rw [runK_ok (show resB es (ks ++ us) (.pl w) = .ok (ks ++ us ++ [s]) from hrk _)]; simp [runK], by rw [t']; simp; first | lia | omega, h5.trans e'⟩
      intro r hr
      rcases List.mem_append.mp hr with hr | hr
      · exact h1 r hr
      · rw [List.mem_singleton.mp hr]; exact hw
theorem lenNE {ns : List Str} (h : ns ≠ []) : 0 < ns.length := List.length_pos_iff.mpr h
theorem eq_told' {H : AHeap} {b c : Bl} (hb : b.2.2 = []) (hc : c.2.2 = []) : EqT H (blk b) (blk c) (decide (b.1 = c.1) && (decide (b.2.1 = c.2.1) && true)) := by
  obtain ⟨b1, b2, b3⟩ := b
  obtain ⟨c1, c2, c3⟩ := c
  replace hb : b3 = [] := hb
  replace hc : c3 = [] := hc
  subst hb hc
  exact .val (.tup (n := 39) (EqL.c (EqV.tup (n := 38) (EqL.strs b1 c1)) (EqL.c (EqV.tup (n := 38) (EqL.strs b2 c2)) EqL.nil)))
theorem eq_told {H : AHeap} {b c : Bl} (hb : b.2.2 = []) (hc : c.2.2 = []) : ∃ r, EqT H (blk b) (blk c) r := by
  unfold blk
  rw [hb, hc]
  exact ⟨_, .val (.tup (n := 39) (EqL.c (EqV.tup (n := 38) (EqL.strs b.1 c.1)) (EqL.c (EqV.tup (n := 38) (EqL.strs b.2.1 c.2.1)) EqL.nil)))⟩
set_option maxRecDepth 10000 in
theorem choice_ok : Ver spChoice B_law_choice N_law_choice 5 := by
  intro ps H Q X h
  have hL : LIM = 1048576 := rfl
  obtain ⟨xs, t, p, a, k, n, es, ns, ks, rfl, hx, ht, hn, hp, hpo, hen, hna, hlo, hk, hkl, hQ⟩ := h
  have hB : (2 : Nat) ^ 54 = 18014398509481984 := by decide
  have hB0 : (2 : Nat) ^ 56 = 72057594037927936 := by decide
  have hB1 : (2 : Nat) ^ 58 = 288230376151711744 := by decide
  have hB2 : (2 : Nat) ^ 59 = 576460752303423488 := by decide
  obtain ⟨ha, hin, hnl⟩ := hna
  have hne := lenNE hlo
  have hpt : p ≠ t := fun e => by rw [e, ht] at hp; cases hp
  have hat : a ≠ t := fun e => by rw [e, ht] at ha; cases ha
  have hkt : k ≠ t := fun e => by rw [e, ht] at hk; cases hk
  refine ⟨rfl, ?_⟩
  refine O_lenL ha ?_
  refine U_draw ?_
  refine ⟨xs, t, _, n, rfl, hx, ht, by first | exact bd0 hn (by decide) | exact bd1 hn (by decide) | exact bd2 hn (by assumption) (by decide) | exact bd3 hn (by assumption) (by decide) | decide | lia | omega, by simp; first | lia | omega, fun r H₁ r0 r1 t₁ e₁ => ?_⟩
  have a₁ := e₁.at hat ha
  have p₁ := e₁.at hpt hp
  have k₁ := e₁.at hkt hk
  obtain ⟨nm, hnm, gnm⟩ := names_at (ns := ns) r0 (by simpa using r1)
  refine O_subL a₁ gnm ?_
  obtain ⟨b, hb⟩ := Option.isSome_iff_exists.mp (hin nm hnm)
  have hbm := dget_mem hb
  have hbo : BOk b := hpo.blks _ hbm
  have hbn : b.2.2 = [] := hen _ hbm
  have gb : dget (kvsP es) nm = some (blk b) := by rw [dget_blk, hb]; rfl
  refine U_draw ?_
  refine ⟨xs, t, _, n + 1, rfl, hx, t₁, by first | exact bd0 hn (by decide) | exact bd1 hn (by decide) | exact bd2 hn (by assumption) (by decide) | exact bd3 hn (by assumption) (by decide) | decide | lia | omega, by first | exact bd0 hn (by decide) | exact bd1 hn (by decide) | exact bd2 hn (by assumption) (by decide) | exact bd3 hn (by assumption) (by decide) | decide | lia | omega, fun r' H₂ _ _ t₂ e₂ => ?_⟩
  have a₂ := e₂.at hat a₁
  have p₂ := e₂.at hpt p₁
  have k₂ := e₂.at hkt k₁
  have x₂ := e₁.trans e₂
  refine O_ite (fun _ => ?_) (fun _ => ?_)
  · refine W_cut (fun m H' => Ex1 fun n' => An5 (m = [some (.fls xs), some (.obj t), some (.obj p), some (.obj a), some (.obj k), some (.str nm), none, none, none, none]) (n' ≤ n + 3) (H' t = some (.tape n')) (H' p = some (.dict (kvsP es))) (ExtB t H H')) ?_ ?_
    · intro K hK
      refine O_subD p₂ gb ?_
      refine O_listT fun c H₃ hc h₃ e₃ => ?_
      refine U_lack ?_
      refine ⟨k, c, ks, b.1, rfl, e₃.at k₂, h₃, by first | decide | lia | omega, by have := hbo.2.2.1; first | lia | omega, ?_⟩
      have x₃ : ExtB t H H₃ := x₂.trans (e₃.toB t)
      refine O_ite (fun hlk => ?_) (fun _ => ?_)
      · refine U_draw ?_
        refine ⟨xs, t, _, n + 2, rfl, hx, e₃.at t₂, by first | exact bd0 hn (by decide) | exact bd1 hn (by decide) | exact bd2 hn (by assumption) (by decide) | exact bd3 hn (by assumption) (by decide) | decide | lia | omega, by first | exact bd0 hn (by decide) | exact bd1 hn (by decide) | exact bd2 hn (by assumption) (by decide) | exact bd3 hn (by assumption) (by decide) | decide | lia | omega, fun r' H₄ _ _ t₄ e₄ => ?_⟩
        refine O_ite (fun _ => ?_) (fun _ => ?_)
        · refine fun c H₅ hc h₅ e₅ => ?_
          have x₄ := x₃.trans e₄
          exact hQ c [.call nm] (n + 3) H₅ (by simp [Rw.ok]) (by simp) (by simp [gainL, Rw.gain]) (by obtain ⟨l, hl⟩ := lack_ok' hbo.1 (by simpa using hlk); rw [runK_ok (callR_of hb hl)]; rfl) (by first | decide | lia | omega) (fresh_of x₄ t₄ hc) h₅ (e₅.at t₄) (x₄.trans (e₅.toB t))
        · exact hK _ _ ⟨n + 3, rfl, by first | decide | lia | omega, t₄, e₄.at hpt (e₃.at p₂), x₃.trans e₄⟩
      · exact hK _ _ ⟨n + 2, rfl, by first | decide | lia | omega, e₃.at t₂, e₃.at p₂, x₃⟩
    · rintro m H₃ ⟨n', rfl, hn', t₃, p₃, x₃⟩
      refine O_subD p₃ gb ?_
      refine U_pushes ?_
      refine ⟨xs, t, n', _, b.1, rfl, hx, t₃, by first | exact bd0 hn (by decide) | exact bd1 hn (by decide) | exact bd2 hn (by assumption) (by decide) | exact bd3 hn (by assumption) (by decide) | decide | lia | omega, .inl rfl, hbo.1, hbo.2.2.1, fun c rs n'' H₄ h1 h2 h3 hrn h4 h5 h6 h7 h8 => ?_⟩
      have hbl := hbo.2.2.1
      refine fun d H₅ hd h₅ e₅ => ?_
      have x₅ := (x₃.trans h8).trans (e₅.toB t)
      refine O_addL (e₅.at h6) h₅ (by simp [rowsPV]; first | lia | omega) fun z H₆ hz h₆ e₆ => ?_
      refine hQ z (rs ++ [.call nm]) n'' H₆ ?_ (by simp; first | lia | omega) (by rw [gainL_append]; simp [gainL, Rw.gain]; simp [gainL] at h3; first | lia | omega) (by rw [runK_app, hrn]; show (runK es (ks ++ b.1) [.call nm]).isSome = true; rw [runK_ok (callR_of hb (takeK_end ks b.1))]; rfl) (by first | decide | lia | omega) (fresh_of x₅ (e₅.at h7) hz) (by rw [h₆, rowsPV_append]; rfl) (e₆.at (e₅.at h7)) (x₅.trans (e₆.toB t))
      intro r hr
      rcases List.mem_append.mp hr with hr | hr
      · exact h1 r hr
      · rw [List.mem_singleton.mp hr]; exact trivial
  · refine W_cut (fun m H' => Ex2 fun (c : Addr) (ls : List Str) => An7 (m = [some (.fls xs), some (.obj t), some (.obj p), some (.obj a), some (.obj k), some (.str nm), none, some (.obj c), none, none]) (H' t = some (.tape (n + 2))) (H' p = some (.dict (kvsP es))) (H' c = some (.list ((ls ++ [nm]).map .str))) (ls.length ≤ 100) (∀ s ∈ ls, ∃ c, dget es s = some c ∧ c.1 = b.1 ∧ c.2.1 = b.2.1) (ExtB t H H')) ?_ ?_
    · intro K hK
      refine O_itL a₂ ?_
      refine compW_ind (fun rest acc H' => Ex3 fun (us vs ls : List Str) => An6 (ns = us ++ vs) (rest = vs.map .str) (acc = ls.map .str) (ls.length ≤ us.length) (∀ s ∈ ls, ∃ c, dget es s = some c ∧ c.1 = b.1 ∧ c.2.1 = b.2.1) (Ext H₂ H')) ?_ ?_ _ _ _ ⟨[], ns, [], rfl, rfl, rfl, by simp, by simp, Ext.refl _⟩
      · rintro acc H₃ ⟨us, vs, ls, hs, hr, rfl, hl, hlq, e₃⟩
        refine ⟨e₃.at a₂, ?_⟩
        have hll : us.length ≤ 100 := by have := congrArg List.length hs; simp at this; first | lia | omega
        refine fun c H₄ hc h₄ e₄ => ?_
        refine fun d H₅ hd h₅ e₅ => ?_
        refine O_addL (e₅.at h₄) h₅ (by simp; first | lia | omega) fun z H₆ hz h₆ e₆ => ?_
        have e₂₆ := ((e₃.trans e₄).trans e₅).trans e₆
        exact hK _ _ ⟨z, ls, rfl, e₂₆.at t₂, e₂₆.at p₂, by rw [h₆]; simp, by first | decide | lia | omega, hlq, x₂.trans (e₂₆.toB t)⟩
      · rintro y rest acc H₃ ⟨us, vs, ls, hs, hr, rfl, hl, hlq, e₃⟩
        refine ⟨e₃.at a₂, fun K hK => ?_⟩
        cases vs with
        | nil => cases hr
        | cons o vs =>
        cases hr
        obtain ⟨c, hc⟩ := Option.isSome_iff_exists.mp (hin o (by rw [hs]; simp))
        have gc : dget (kvsP es) o = some (blk c) := by rw [dget_blk, hc]; rfl
        have hcn : c.2.2 = [] := hen _ (dget_mem hc)
        have yes : c.1 = b.1 ∧ c.2.1 = b.2.1 → K [.str o] H₃ := fun hcb => hK _ _ ⟨us ++ [o], vs, ls ++ [o], by rw [hs]; simp, rfl, by simp, by simp; first | lia | omega, fun s hs => (List.mem_append.mp hs).elim (hlq s) fun h => by rw [List.mem_singleton.mp h]; exact ⟨c, hc, hcb⟩, e₃⟩
        have no : K [] H₃ := hK _ _ ⟨us ++ [o], vs, ls, by rw [hs]; simp, rfl, by simp, by simp; first | lia | omega, hlq, e₃⟩
        refine O_subD (e₃.at p₂) gc ?_
        refine O_subD (e₃.at p₂) gb ?_
        refine O_eqT (eq_told' (H := H₃) hcn hbn) ?_
        refine O_ite (fun hq => ?_) (fun _ => ?_)
        · refine O_ite (fun _ => ?_) (fun _ => ?_)
          · exact yes (by simpa using hq)
          · exact no
        · exact no
    · rintro m H₃ ⟨c, ls, rfl, t₃, p₃, c₃, hll, hlq, x₃⟩
      have hct : c ≠ t := fun e => by rw [e, t₃] at c₃; cases c₃
      refine U_draw ?_
      refine ⟨xs, t, _, n + 2, rfl, hx, t₃, by first | exact bd0 hn (by decide) | exact bd1 hn (by decide) | exact bd2 hn (by assumption) (by decide) | exact bd3 hn (by assumption) (by decide) | decide | lia | omega, by first | exact bd0 hn (by decide) | exact bd1 hn (by decide) | exact bd2 hn (by assumption) (by decide) | exact bd3 hn (by assumption) (by decide) | decide | lia | omega, fun r' H₄ _ _ t₄ e₄ => ?_⟩
      have c₄ := e₄.at hct c₃
      refine O_lenL c₄ ?_
      have hlen1 : ((List.map PV.str (ls ++ [nm])).length : Int) = (ls.length : Int) + 1 := by simp
      rw [hlen1]
      refine O_modI (by split <;> (first | lia | omega)) ?_
      have hm := mod_lt (a := r') (k := if (1 : Int) < (ls.length : Int) + 1 - 1 then (ls.length : Int) + 1 - 1 else 1) (by split <;> (first | lia | omega))
      obtain ⟨ot, hot, got⟩ := names_at (ns := ls ++ [nm]) (r := r' % (if (1 : Int) < (ls.length : Int) + 1 - 1 then (ls.length : Int) + 1 - 1 else 1)) hm.1 (by have := hm.2; rw [List.length_append]; simp only [List.length_singleton]; split at this <;> (first | lia | omega))
      refine O_subL c₄ got ?_
      refine U_value ?_
      refine ⟨xs, t, _, n + 2 + 1, rfl, hx, t₄, by first | exact bd0 hn (by decide) | exact bd1 hn (by decide) | exact bd2 hn (by assumption) (by decide) | exact bd3 hn (by assumption) (by decide) | decide | lia | omega, fun v H₅ hv hkv t₅ e₅ => ?_⟩
      obtain ⟨i, rfl, i0, i1⟩ := okv_num hv (by rw [hkv]; decide +kernel)
      refine fun d H₆ hd h₆ e₆ => ?_
      refine U_draw ?_
      refine ⟨xs, t, _, n + 2 + 1 + 2, rfl, hx, e₆.at t₅, by first | exact bd0 hn (by decide) | exact bd1 hn (by decide) | exact bd2 hn (by assumption) (by decide) | exact bd3 hn (by assumption) (by decide) | decide | lia | omega, by first | exact bd0 hn (by decide) | exact bd1 hn (by decide) | exact bd2 hn (by assumption) (by decide) | exact bd3 hn (by assumption) (by decide) | decide | lia | omega, fun z H₇ z0 z1 t₇ e₇ => ?_⟩
      have hdt : d ≠ t := Ne.symm (ne_of t₅ hd)
      have hi : ∃ j : Int, itemAt [PV.int 0, PV.int 1, PV.int 2, PV.int i] z = some (.int j) ∧ 0 ≤ j ∧ j < 1000000000 := by
        have : z = 0 ∨ z = 1 ∨ z = 2 ∨ z = 3 := by first | decide | lia | omega
        rcases this with rfl | rfl | rfl | rfl
        · exact ⟨0, rfl, by first | decide | lia | omega, by first | decide | lia | omega⟩
        · exact ⟨1, rfl, by first | decide | lia | omega, by first | decide | lia | omega⟩
        · exact ⟨2, rfl, by first | decide | lia | omega, by first | decide | lia | omega⟩
        · exact ⟨i, rfl, i0, i1⟩
      obtain ⟨j, hj, j0, j1⟩ := hi
      refine O_subL (e₇.at hdt h₆) hj ?_
      have p₇ := e₇.at hpt (e₆.at (e₅.at hpt (e₄.at hpt p₃)))
      have x₇ : ExtB t H H₇ := (((x₃.trans e₄).trans e₅).trans (e₆.toB t)).trans e₇
      refine O_subD p₇ gb ?_
      refine U_pushes ?_
      refine ⟨xs, t, _, _, b.1, rfl, hx, t₇, by first | exact bd0 hn (by decide) | exact bd1 hn (by decide) | exact bd2 hn (by assumption) (by decide) | exact bd3 hn (by assumption) (by decide) | decide | lia | omega, .inl rfl, hbo.1, hbo.2.2.1, fun c rs n'' H₈ h1 h2 h3 hrn h4 h5 h6 h7 h8 => ?_⟩
      have hbl := hbo.2.2.1
      refine fun f H₉ hf h₉ e₉ => ?_
      have x₉ := (x₇.trans h8).trans (e₉.toB t)
      refine O_addL (e₉.at h6) h₉ (by simp [rowsPV]; first | lia | omega) fun z H₁₀ hz h₁₀ e₁₀ => ?_
      refine hQ z (rs ++ [.pl (.num j), .iff nm ot]) n'' H₁₀ ?_ (by simp; first | lia | omega) (by rw [gainL_append]; simp [gainL, Rw.gain]; simp [gainL] at h3; first | lia | omega) ?_ (by first | decide | lia | omega) (fresh_of x₉ (e₉.at h7) hz) (by rw [h₁₀, rowsPV_append]; rfl) (e₁₀.at (e₉.at h7)) (x₉.trans (e₁₀.toB t))
      · intro r hr
        rcases List.mem_append.mp hr with hr | hr
        · exact h1 r hr
        · rcases List.mem_cons.mp hr with rfl | hr
          · exact ⟨j0, j1⟩
          · rw [List.mem_singleton.mp hr]; exact trivial
      · obtain ⟨co, hco, hc1, hc2⟩ : ∃ c, dget es ot = some c ∧ c.1 = b.1 ∧ c.2.1 = b.2.1 := (List.mem_append.mp hot).elim (hlq ot) fun h => by rw [List.mem_singleton.mp h]; exact ⟨b, hb, rfl, rfl⟩
        rw [runK_app, hrn]
        show (runK es (ks ++ b.1) [.pl (.num j), .iff nm ot]).isSome = true
        rw [runK_ok (show resB es (ks ++ b.1) (.pl (.num j)) = .ok (ks ++ b.1 ++ [("num" : Str)]) from rfl)]
        have hif : resB es (ks ++ b.1 ++ [("num" : Str)]) (.iff nm ot) = .ok (ks ++ b.2.1) := by
          simp only [resB]
          rw [takeK_end (ks ++ b.1) ["num"]]
          simp only
          rw [hb, hco]
          simp only
          rw [if_pos ⟨hc1.symm, hc2.symm⟩]
          exact callK_of hb (takeK_end ks b.1)
        rw [runK_ok hif]; rfl
theorem fitting_ok : Ver spFitting B_law_fitting N_law_fitting 5 := by
  intro ps H Q X h
  have hL : LIM = 1048576 := rfl
  obtain ⟨xs, t, p, a, k, n, es, ns, ks, rfl, hx, ht, hn, hp, hpo, hen, hna, _, hk, hkl, hQ⟩ := h
  have hB : (2 : Nat) ^ 54 = 18014398509481984 := by decide
  have hB9 : (2 : Nat) ^ 53 = 9007199254740992 := by decide
  have hB0 : (2 : Nat) ^ 56 = 72057594037927936 := by decide
  have hB1 : (2 : Nat) ^ 57 = 144115188075855872 := by decide
  have hB2 : (2 : Nat) ^ 59 = 576460752303423488 := by decide
  obtain ⟨ha, hin, hnl⟩ := hna
  have hpt : p ≠ t := fun e => by rw [e, ht] at hp; cases hp
  have hat : a ≠ t := fun e => by rw [e, ht] at ha; cases ha
  have hkt : k ≠ t := fun e => by rw [e, ht] at hk; cases hk
  refine ⟨rfl, ?_⟩
  refine W_cut (fun m H' => Ex1 fun n' => An4 (m = [some (.fls xs), some (.obj t), some (.obj p), some (.obj a), some (.obj k), none]) (n' ≤ n + 1) (H' t = some (.tape n')) (ExtB t H H')) ?_ ?_
  · intro K hK
    refine O_lenL ha ?_
    refine O_ite (fun _ => ?_) (fun _ => ?_)
    · rename_i hgt
      have hne : ns ≠ [] := by rintro rfl; simp at hgt
      refine U_draw ?_
      refine ⟨xs, t, _, n, rfl, hx, ht, by first | exact bd0 hn (by decide) | exact bd1 hn (by decide) | exact bd2 hn (by assumption) (by decide) | exact bd3 hn (by assumption) (by decide) | decide | lia | omega, by first | exact bd0 hn (by decide) | exact bd1 hn (by decide) | exact bd2 hn (by assumption) (by decide) | exact bd3 hn (by assumption) (by decide) | decide | lia | omega, fun r H₁ r0 r1 t₁ e₁ => ?_⟩
      refine O_ite (fun _ => ?_) (fun _ => ?_)
      · refine U_choice ?_
        refine ⟨xs, t, p, a, k, n + 1, es, ns, ks, rfl, hx, t₁, by first | exact bd0 hn (by decide) | exact bd1 hn (by decide) | exact bd2 hn (by assumption) (by decide) | exact bd3 hn (by assumption) (by decide) | decide | lia | omega, e₁.at hpt hp, hpo, hen, ⟨e₁.at hat ha, hin, hnl⟩, hne, e₁.at hkt hk, hkl, fun c rs n' H' h1 h2 h3 hrn h4 h5 h6 h7 h8 => ?_⟩
        exact hQ c rs n' H' h1 h2 h3 hrn (by first | decide | lia | omega) (fresh_of e₁ t₁ h5) h6 h7 (e₁.trans h8)
      · exact hK _ _ ⟨n + 1, rfl, by first | decide | lia | omega, t₁, e₁⟩
    · exact hK _ _ ⟨n, rfl, by first | decide | lia | omega, ht, fun _ _ _ h => h⟩
  rintro m H₁ ⟨n₁, rfl, hn₁, t₁, x₁⟩
  refine U_plain ?_
  refine ⟨xs, t, n₁, rfl, hx, t₁, by first | exact bd0 hn (by decide) | exact bd1 hn (by decide) | exact bd2 hn (by assumption) (by decide) | exact bd3 hn (by assumption) (by decide) | decide | lia | omega, fun w n₂ H₂ hw hn₂ t₂ e₂ => ?_⟩
  have x₂ := x₁.trans e₂
  refine U_wanted ?_
  refine ⟨w, rfl, hw, fun d H₃ hd h₃ e₃ => ?_⟩
  have x₃ : ExtB t H H₃ := x₂.trans (e₃.toB t)
  refine U_lack ?_
  refine ⟨k, d, ks, wantedS w, rfl, x₃.at hkt hk, h₃, by first | decide | lia | omega, by have := wanted_len hw; first | lia | omega, ?_⟩
  refine O_ite (fun hlk => ?_) (fun _ => ?_)
  · refine fun c H₄ hc h₄ e₄ => ?_
    exact hQ c [.pl w] n₂ H₄ (by intro r hr; rw [List.mem_singleton.mp hr]; exact hw) (by simp) (by simp [gainL, Rw.gain]) (by rw [lackK_res] at hlk; cases hr : resK ks w with | ok ys => rw [runK_ok (show resB es ks (.pl w) = .ok ys from hr)]; rfl | error e => rw [hr] at hlk; have := wordE_ne e; rw [show (wordE e == ("" : Str)) = true from hlk] at this; cases this) (by first | decide | lia | omega) (fresh_of x₃ (e₃.at t₂) hc) h₄ (e₄.at (e₃.at t₂)) (x₃.trans (e₄.toB t))
  · refine fun c H₄ hc h₄ e₄ => ?_
    refine U_draw ?_
    refine ⟨xs, t, _, n₂, rfl, hx, e₄.at (e₃.at t₂), by first | exact bd0 hn (by decide) | exact bd1 hn (by decide) | exact bd2 hn (by assumption) (by decide) | exact bd3 hn (by assumption) (by decide) | decide | lia | omega, by first | exact bd0 hn (by decide) | exact bd1 hn (by decide) | exact bd2 hn (by assumption) (by decide) | exact bd3 hn (by assumption) (by decide) | decide | lia | omega, fun r H₅ r0 r1 t₅ e₅ => ?_⟩
    have hct : c ≠ t := Ne.symm (ne_of (e₃.at t₂) hc)
    obtain ⟨s, gs, hs⟩ := kind_ne r0 r1
    refine O_subL (e₅.at hct h₄) gs ?_
    refine fun f H₆ hf h₆ e₆ => ?_
    have x₆ : ExtB t H H₆ := ((x₃.trans (e₄.toB t)).trans e₅).trans (e₆.toB t)
    refine U_pushes ?_
    refine ⟨xs, t, n₂ + 1, _, [s], rfl, hx, e₆.at t₅, by first | exact bd0 hn (by decide) | exact bd1 hn (by decide) | exact bd2 hn (by assumption) (by decide) | exact bd3 hn (by assumption) (by decide) | decide | lia | omega, .inr ⟨f, rfl, h₆⟩, by simpa using hs, by simp, fun c rs n' H' h1 h2 h3 hrn h4 h5 h6 h7 h8 => ?_⟩
    exact hQ c rs n' H' h1 (by rw [h2]; simp) (by rw [h3]; simp) (by rw [hrn]; rfl) (by first | decide | lia | omega) (fresh_of x₆ (e₆.at t₅) h5) h6 h7 (x₆.trans h8)
end Mine
end
section
open PySem PySem.W PySem.Calls PyProof.Rows
namespace Mine
set_option autoImplicit false

theorem resK_len {ks ys : List Str} {w : W} (h : resK ks w = .ok ys) : ys.length ≤ ks.length + 1 := by
  unfold resK at h
  split at h <;> (try split at h) <;> (try split at h) <;> cases h <;> first
    | (simp; done)
    | (simp; first | lia | omega)
    | (have hl := congrArg List.length ‹ks.reverse = _›
       simp at hl ⊢; first | lia | omega)
theorem callK_len {es : Pr} {ks ys : List Str} {n : Str} (hpo : POk es) (h : callK es ks n = .ok ys) : ys.length ≤ ks.length + 100 := by
  unfold callK at h
  cases hd : dget es n with
  | none => rw [hd] at h; cases h
  | some b =>
    rw [hd] at h
    simp only at h
    have hb : BOk b := hpo.blks _ (dget_mem hd)
    cases ht : takeK ks b.1 with
    | error e => rw [ht] at h; cases h
    | ok l =>
      rw [ht] at h
      cases h
      have := takeK_len ht
      have := hb.2.2.2
      rw [List.length_append]; first | lia | omega
theorem resB_gain {es : Pr} {ks ys : List Str} {r : Rw} (hpo : POk es) (h : resB es ks r = .ok ys) : ys.length ≤ ks.length + r.gain := by
  cases r with
  | pl w => exact resK_len h
  | call n => exact callK_len hpo h
  | iff n m =>
    simp only [resB] at h
    cases ht : takeK ks ["num"] with
    | error e => rw [ht] at h; cases h
    | ok l =>
      rw [ht] at h
      simp only at h
      have hl := takeK_len ht
      split at h
      · split at h
        · have h2 := callK_len hpo h
          show ys.length ≤ ks.length + 100
          first | lia | omega
        · cases h
      · cases h
theorem drop_res {es : Pr} {ks : List Str} {k : Nat} (h : ks.length = k + 1) : resB es ks (.pl .drop) = .ok (ks.take k) := by
  show resK ks .drop = _
  obtain ⟨pre, vs, rfl, hv⟩ := split_atG (st := ks) (k := 1) (by first | lia | omega)
  obtain ⟨x, rfl⟩ := rev_one hv
  have hk : k = pre.length := by simp at h; first | lia | omega
  subst hk
  rw [List.take_left]
  simp [resK]
theorem gainL_cons (r : Rw) (rs : List Rw) : gainL (r :: rs) = r.gain + gainL rs := by simp [gainL]
theorem gain_drops : ∀ k : Nat, gainL (List.replicate k (.pl .drop)) = k
  | 0 => rfl
  | k + 1 => by rw [List.replicate_succ, gainL_cons, gain_drops k]; simp only [Rw.gain]; first | lia | omega
theorem rows_drops (k : Nat) : repL (k : Int) [PV.tup [PV.str "drop"]] = rowsPV (List.replicate k (.pl .drop)) := by
  unfold repL
  rw [Int.toNat_natCast]
  induction k with
  | zero => rfl
  | succ k ih => rw [List.replicate_succ, List.flatten_cons, ih, List.replicate_succ]; rfl
theorem drop_min (l : List Str) (k : Nat) : (l.map PV.str).drop (min k l.length) = (l.map PV.str).drop k := by
  rcases Nat.le_total k l.length with h | h
  · rw [Nat.min_eq_left h]
  · rw [Nat.min_eq_right h, List.drop_eq_nil_of_le (by simp), List.drop_eq_nil_of_le (by simpa using h)]
theorem rowsPV_len (rs : List Rw) : (rowsPV rs).length = rs.length := by simp [rowsPV]
theorem ok_app {a b : List Rw} (ha : ∀ r ∈ a, r.ok) (hb : ∀ r ∈ b, r.ok) : ∀ r ∈ a ++ b, r.ok := fun r hr => (List.mem_append.mp hr).elim (ha r) (hb r)
theorem ok_one {r : Rw} (h : r.ok) : ∀ q ∈ [r], q.ok := fun q hq => by rw [List.mem_singleton.mp hq]; exact h
theorem ok_drops (k : Nat) : ∀ r ∈ List.replicate k (Rw.pl .drop), r.ok := fun r hr => by rw [(List.mem_replicate.mp hr).2]; exact trivial

theorem run_drops (es : Pr) : ∀ (k : Nat) (ks : List Str), ks.length = k → runK es ks (List.replicate k (.pl .drop)) = some []
  | 0, ks, h => by rw [List.length_eq_zero_iff.mp h]; rfl
  | k + 1, ks, h => by
    have hd : resB es ks (.pl .drop) = .ok (ks.take k) := drop_res h
    rw [List.replicate_succ, runK_ok hd]
    exact run_drops es k (ks.take k) (by simp; first | lia | omega)
set_option maxRecDepth 10000 in
set_option maxHeartbeats 1000000 in
theorem goodrows_ok : Ver spGoodRows B_law_good_rows N_law_good_rows 5 := by
  intro ps H Q X h
  have hL : LIM = 1048576 := rfl
  obtain ⟨xs, t, p, a, n, es, ns, nm, rfl, hx, ht, hn, hp, hpo, hen, ⟨ha, hin, hnl⟩, hnm, hQ⟩ := h
  have hB : (2 : Nat) ^ 53 = 9007199254740992 := by decide
  have hBa : (2 : Nat) ^ 52 = 4503599627370496 := by decide
  have hB0 : (2 : Nat) ^ 56 = 72057594037927936 := by decide
  have hB2 : (2 : Nat) ^ 59 = 576460752303423488 := by decide
  obtain ⟨⟨ins, outs, z⟩, hb⟩ := Option.isSome_iff_exists.mp hnm
  have hbo : BOk (ins, outs, z) := hpo.blks _ (dget_mem hb)
  have hbn : z = [] := hen _ (dget_mem hb)
  subst hbn
  have gb : dget (kvsP es) nm = some (blk (ins, outs, [])) := by rw [dget_blk, hb]; rfl
  obtain ⟨hi, ho, hil, hol⟩ := hbo
  replace hil : ins.length ≤ 100 := hil
  replace hol : outs.length ≤ 100 := hol
  have hpt : p ≠ t := fun e => by rw [e, ht] at hp; cases hp
  have hat : a ≠ t := fun e => by rw [e, ht] at ha; cases ha
  refine ⟨rfl, ?_⟩
  refine O_subD hp gb ?_
  refine ⟨rfl, ?_⟩
  refine O_listT fun k H₁ hk h₁ e₁ => ?_
  refine fun r H₂ hr h₂ e₂ => ?_
  have hrH : H r = none := e₁.back hr
  have hrt : r ≠ t := Ne.symm (ne_of ht hrH)
  have hkt : k ≠ t := Ne.symm (ne_of ht hk)
  refine U_draw ⟨xs, t, _, n, rfl, hx, e₂.at (e₁.at ht), by first | exact bd0 hn (by decide) | exact bd1 hn (by decide) | exact bd2 hn (by assumption) (by decide) | exact bd3 hn (by assumption) (by decide) | decide | lia | omega, by first | exact bd0 hn (by decide) | exact bd1 hn (by decide) | exact bd2 hn (by assumption) (by decide) | exact bd3 hn (by assumption) (by decide) | decide | lia | omega, fun z H₃ z0 z1 t₃ e₃ => ?_⟩
  obtain ⟨z, rfl⟩ := Int.eq_ofNat_of_zero_le z0
  refine O_range (by first | decide | lia | omega) ?_
  refine forR (fun j m H' => Ex6 fun (k : Addr) (ks : List Str) (rs : List Rw) (n' : Nat) (x9 x10 : Option PV) => An12 (m = [some (.fls xs), some (.obj t), some (.obj p), some (.str nm), some (.obj a), some (.tup (ins.map .str)), some (.tup (outs.map .str)), some (.obj k), some (.obj r), x9, x10, none, none, none]) (runK es ins rs = some ks) (k ≠ r) ((∀ q ∈ rs, q.ok)) (ks.length ≤ 100 + 220 * j) (rs.length ≤ 110 * j) (gainL rs ≤ 220 * j) (n' ≤ n + 1 + 400 * j) (H' t = some (.tape n')) (H' k = some (.list (ks.map .str))) (H' r = some (.list (rowsPV rs))) (ExtB t H H')) ?_ ?_ _ _
    ⟨k, ins, [], n + 1, none, none, rfl, rfl, ne_of h₁ hr, by simp, by first | decide | lia | omega, by simp, by simp [gainL], by first | decide | lia | omega, t₃, e₃.at hkt (e₂.at h₁), e₃.at hrt h₂, ((e₁.trans e₂).toB t).trans e₃⟩
  · clear t₃ e₃ h₂ e₂ h₁ e₁ hk hr hkt
    rintro m H₄ ⟨k, ks, rs, n₄, x9, x10, rfl, hrun, hkr, hro, hkl, hrl, hg, hn₄, t₄, k₄, r₄, x₄⟩
    have hz5 : z ≤ 5 := by first | decide | lia | omega
    replace hkl : ks.length ≤ 1200 := by first | decide | lia | omega
    replace hrl : rs.length ≤ 550 := by first | decide | lia | omega
    replace hg : gainL rs ≤ 1100 := by first | decide | lia | omega
    replace hn₄ : n₄ ≤ n + 2001 := by first | decide | lia | omega
    have a₄ := x₄.at hat ha
    have p₄ := x₄.at hpt hp
    refine O_itL a₄ ?_
    refine compW_ind (fun rest acc H' => Ex3 fun (us vs zs : List Str) => An6 (ns = us ++ vs) (rest = vs.map .str) (acc = zs.map .str) (∀ s ∈ zs, s ∈ ns ∧ ∃ c, dget es s = some c ∧ c.2.1 = outs) (zs.length ≤ us.length) (H' = H₄)) ?_ ?_ _ _ _ ⟨[], ns, [], rfl, rfl, rfl, by simp, by simp, rfl⟩
    · rintro acc H' ⟨us, vs, zs, hs, hr', rfl, hz, hzl, hH⟩
      rw [hH]
      clear hH H'
      refine ⟨a₄, fun d H₅ hd h₅ e₅ => ?_⟩
      have hul : us.length ≤ 100 := by have := congrArg List.length hs; simp at this; first | lia | omega
      refine W_cut (fun m H' => Ex1 fun n' => An4 (n' ≤ n₄ + 1) (m = [some (.fls xs), some (.obj t), some (.obj p), some (.str nm), some (.obj a), some (.tup (ins.map .str)), some (.tup (outs.map .str)), some (.obj k), some (.obj r), x9, x10, none, some (.obj d), none]) (H' t = some (.tape n')) (ExtB t H₅ H')) ?_ ?_
      · intro K hK
        refine O_lenL h₅ ?_
        refine O_ite (fun hpos => ?_) (fun _ => ?_)
        · have hzp : 0 < zs.length := by simpa using hpos
          refine U_draw ⟨xs, t, _, n₄, rfl, hx, e₅.at t₄, by first | exact bd0 hn (by decide) | exact bd1 hn (by decide) | exact bd2 hn (by assumption) (by decide) | exact bd3 hn (by assumption) (by decide) | decide | lia | omega, by first | exact bd0 hn (by decide) | exact bd1 hn (by decide) | exact bd2 hn (by assumption) (by decide) | exact bd3 hn (by assumption) (by decide) | decide | lia | omega, fun y H₆ y0 y1 t₆ e₆ => ?_⟩
          refine O_ite (fun _ => ?_) (fun _ => ?_)
          · have hdt : d ≠ t := Ne.symm (ne_of t₄ hd)
            have hkt : k ≠ t := fun e => by rw [e, t₄] at k₄; cases k₄
            refine U_draw ⟨xs, t, _, n₄ + 1, rfl, hx, t₆, by first | exact bd0 hn (by decide) | exact bd1 hn (by decide) | exact bd2 hn (by assumption) (by decide) | exact bd3 hn (by assumption) (by decide) | decide | lia | omega, by first | exact bd0 hn (by decide) | exact bd1 hn (by decide) | exact bd2 hn (by assumption) (by decide) | exact bd3 hn (by assumption) (by decide) | decide | lia | omega, fun y' H₇ y0' y1' t₇ e₇ => ?_⟩
            have d₇ := e₇.at hdt (e₆.at hdt h₅)
            refine O_lenL d₇ ?_
            have hlz : 0 < ((zs.map PV.str).length : Int) := by simp; first | lia | omega
            refine O_modI hlz ?_
            obtain ⟨o, hom, go⟩ := names_at (ns := zs) (mod_lt (a := y') hlz).1 (by have := (mod_lt (a := y') hlz).2; rw [List.length_map] at this ⊢; exact this)
            refine O_subL d₇ go ?_
            have x₇ : ExtB t H₄ H₇ := ((e₅.toB t).trans e₆).trans e₇
            refine fun f H₈ hf h₈ e₈ => ?_
            refine O_lenL (e₈.at (x₇.at hkt k₄)) ?_
            refine O_mulL h₈ (by rw [List.length_map]; first | lia | omega) (by rw [List.length_map]; first | lia | omega) (by rw [List.length_map]; simp; first | lia | omega) fun f' H₉ hf' h₉ e₉ => ?_
            rw [List.length_map, rows_drops] at h₉
            have r₇ := x₇.at hrt r₄
            refine O_addL (e₉.at (e₈.at r₇)) h₉ (by rw [rowsPV_len, rowsPV_len]; simp; first | lia | omega) fun v H₁₀ hv h₁₀ e₁₀ => ?_
            have e7a := (e₈.trans e₉).trans e₁₀
            have x₁₀ : ExtB t H₄ H₁₀ := x₇.trans (e7a.toB t)
            obtain ⟨⟨ci, co, cz⟩, hc, hceq⟩ := (hz o hom).2
            replace hceq : co = outs := hceq
            have hco : BOk (ci, co, cz) := hpo.blks _ (dget_mem hc)
            have gc : dget (kvsP es) o = some (blk (ci, co, cz)) := by rw [dget_blk, hc]; rfl
            refine O_subD (x₁₀.at hpt p₄) gc ?_
            have t₁₀ := e7a.at t₇
            have hcl : ci.length ≤ 100 := hco.2.2.1
            refine U_pushes ⟨xs, t, n₄ + 2, _, ci, rfl, hx, t₁₀, by first | exact bd0 hn (by decide) | exact bd1 hn (by decide) | exact bd2 hn (by assumption) (by decide) | exact bd3 hn (by assumption) (by decide) | decide | lia | omega, .inl rfl, hco.1, hcl, fun c us' n' H₁₁ c1 c2 c3 crn c4 c5 c6 c7 c8 => ?_⟩
            have hvt : v ≠ t := Ne.symm (ne_of ((e₈.trans e₉).at t₇) hv)
            refine O_addL (c8.at hvt h₁₀) c6 (by rw [List.length_append, rowsPV_len, rowsPV_len, rowsPV_len]; simp; first | lia | omega) fun g H₁₂ hgg h₁₂ e₁₂ => ?_
            refine fun g' H₁₃ hgg' h₁₃ e₁₃ => ?_
            refine O_addL (e₁₃.at h₁₂) h₁₃ (by simp only [List.length_append, rowsPV_len, List.length_replicate, List.length_map, List.length_cons, List.length_nil]; first | lia | omega) fun w H₁₄ hw h₁₄ e₁₄ => ?_
            have x₁₁ := x₄.trans (x₁₀.trans c8)
            have x₁₃ : ExtB t H H₁₃ := x₁₁.trans ((e₁₂.trans e₁₃).toB t)
            have t₁₃ := (e₁₂.trans e₁₃).at c7
            refine hQ w (rs ++ List.replicate ks.length (.pl .drop) ++ us' ++ [.call o]) n' H₁₄ ⟨ok_app (ok_app (ok_app hro (ok_drops _)) c1) (ok_one (r := .call o) trivial), ?_, ?_⟩ ?_ (by first | decide | lia | omega) (fresh_of x₁₃ t₁₃ hw) ?_ (e₁₄.at t₁₃) (x₁₃.trans (e₁₄.toB t))
            · simp only [List.length_append, List.length_replicate, List.length_cons, List.length_nil]; first | lia | omega
            · simp only [gainL_append, gain_drops, c3]; rw [show gainL [Rw.call o] = 100 from rfl]; first | lia | omega
            · intro i' o' z' hd'
              rw [hb] at hd'
              cases hd'
              rw [runK_app, runK_app, runK_app, hrun]
              show Option.bind (Option.bind (runK es ks _) _) _ = _
              rw [run_drops es _ _ rfl]
              show Option.bind (runK es [] us') _ = _
              rw [crn]
              show runK es ([] ++ ci) [.call o] = _
              rw [runK_ok (callR_of hc (takeK_end [] ci)), ← hceq]; rfl
            · rw [h₁₄, rowsPV_append, rowsPV_append, rowsPV_append]; rfl
          · exact hK _ _ ⟨n₄ + 1, by first | decide | lia | omega, rfl, t₆, e₆⟩
        · exact hK _ _ ⟨n₄, by first | decide | lia | omega, rfl, e₅.at t₄, fun _ _ _ h => h⟩
      · rintro m H₆ ⟨n₆, hn₆, rfl, t₆, e₆⟩
        have x₆ : ExtB t H H₆ := (x₄.trans (e₅.toB t)).trans e₆
        have hkt : k ≠ t := fun e => by rw [e, t₄] at k₄; cases k₄
        refine ⟨fun z m H' => Ex3 fun (k : Addr) (ks : List Str) (rs : List Rw) => An12 (z = ks.length) (runK es ins rs = some ks) (m = [some (.fls xs), some (.obj t), some (.obj p), some (.str nm), some (.obj a), some (.tup (ins.map .str)), some (.tup (outs.map .str)), some (.obj k), some (.obj r), x9, x10, none, some (.obj d), none]) (k ≠ r) (k ≠ t) ((∀ q ∈ rs, q.ok)) (rs.length + ks.length ≤ 1750) (gainL rs + ks.length ≤ 2300) (H' t = some (.tape n₆)) (H' k = some (.list (ks.map .str))) (H' r = some (.list (rowsPV rs))) (ExtB t H H'), ⟨_, k, ks, rs, rfl, hrun, rfl, hkr, hkt, hro, by first | decide | lia | omega, by first | decide | lia | omega, t₆, e₆.at hkt (e₅.at k₄), e₆.at hrt (e₅.at r₄), x₆⟩, ?_⟩
        rintro z m H' ⟨k, ks, rs, rfl, hrun, rfl, hkr, hkt, hro, hrl, hg, t', k', r', x'⟩
        refine O_tupL k' ?_
        refine O_lenL k' ?_
        refine O_toT (ys := (outs.take ks.length).map .str) (by rw [List.map_take, List.length_map, List.length_map]; unfold cutAt; rw [if_pos (by first | decide | lia | omega), Int.toNat_natCast]; rw [List.take_eq_take_iff]; simp) ?_
        refine O_neT (eq_strs _ _) ?_
        refine O_ite (fun hne => ?_) (fun heq => ?_)
        · have hne' : ks ≠ outs.take ks.length := by simpa using hne
          have hpos : 0 < ks.length := by
            rcases Nat.eq_zero_or_pos ks.length with h | h
            · exact absurd (by rw [List.length_eq_zero_iff.mp h]; rfl) hne'
            · exact h
          refine O_toL k' fun c H₇ hc h₇ e₇ => ?_
          rw [List.length_map, show cutAt ks.length (-1) = ks.length - 1 by unfold cutAt; rw [if_neg (by first | decide | lia | omega)]; first | lia | omega, ← List.map_take] at h₇
          have r₇ := e₇.at r'
          refine O_recv r₇ rfl ?_
          refine O_append r₇ (by rw [rowsPV_len]; first | lia | omega) fun H₈ h₈ e₈ => ?_
          have hcr : c ≠ r := Ne.symm (ne_of r' hc)
          refine ⟨(ks.take (ks.length - 1)).length, by simp; first | lia | omega, c, _, rs ++ [.pl .drop], rfl, (by rw [runK_app, hrun]; show runK es ks [.pl .drop] = _; rw [runK_ok (drop_res (k := ks.length - 1) (by first | lia | omega))]; rfl), rfl, hcr, Ne.symm (ne_of t' hc), ok_app hro (ok_one (r := .pl .drop) trivial), by simp; first | lia | omega, ?_, e₈.at (Ne.symm hrt) (e₇.at t'), e₈.at hcr h₇, by rw [h₈, rowsPV_append]; rfl, ExtB.over hrH (x'.trans (e₇.toB t)) e₈⟩
          rw [gainL_append]; simp [gainL, Rw.gain]; simp [gainL] at hg; first | lia | omega
        · have hol' : (outs.drop ks.length).length ≤ 100 := by simp; first | lia | omega
          refine O_lenL k' ?_
          refine O_fromT (ys := (outs.drop ks.length).map .str) (by rw [List.map_drop, List.length_map, List.length_map]; unfold cutAt; rw [if_pos (by first | decide | lia | omega), Int.toNat_natCast]; exact drop_min _ _) ?_
          refine U_pushes ⟨xs, t, n₆, _, outs.drop ks.length, rfl, hx, t', by first | exact bd0 hn (by decide) | exact bd1 hn (by decide) | exact bd2 hn (by assumption) (by decide) | exact bd3 hn (by assumption) (by decide) | decide | lia | omega, .inl rfl, fun s hs => ho s (List.mem_of_mem_drop hs), hol', fun c us' n' H₇ c1 c2 c3 crn c4 c5 c6 c7 c8 => ?_⟩
          refine O_addL (c8.at hrt r') c6 (by rw [rowsPV_len, rowsPV_len]; first | lia | omega) fun w H₈ hw h₈ e₈ => ?_
          have x₇ := x'.trans c8
          have heq' : ks = outs.take ks.length := by simpa using heq
          have hfin : ∀ i' o' z', dget es nm = some (i', o', z') → runK es i' (rs ++ us') = some o' := fun i' o' z' hd' => by
            rw [hb] at hd'
            cases hd'
            rw [runK_app, hrun]
            show runK es ks us' = some outs
            rw [crn]
            have hto := List.take_append_drop ks.length outs
            rw [← heq'] at hto
            rw [hto]
          refine hQ w (rs ++ us') n' H₈ ⟨ok_app hro c1, by rw [List.length_append]; first | lia | omega, by rw [gainL_append, c3]; first | lia | omega⟩ hfin (by first | decide | lia | omega) (fresh_of x₇ c7 hw) (by rw [h₈, rowsPV_append]) (e₈.at c7) (x₇.trans (e₈.toB t))
    · rintro x rest acc H' ⟨us, vs, zs, hs, hr', rfl, hz, hzl, hH⟩
      rw [hH]
      clear hH H'
      refine ⟨a₄, fun K hK => ?_⟩
      cases vs with
      | nil => cases hr'
      | cons s vs =>
      cases hr'
      have hsn : s ∈ ns := by rw [hs]; simp
      obtain ⟨c, hc⟩ := Option.isSome_iff_exists.mp (hin s hsn)
      have gc : dget (kvsP es) s = some (blk c) := by rw [dget_blk, hc]; rfl
      refine O_subD p₄ gc ?_
      refine O_eqT (eq_strs c.2.1 outs) ?_
      refine O_ite (fun hq => ?_) (fun _ => ?_)
      · exact hK _ _ ⟨us ++ [s], vs, zs ++ [s], by rw [hs]; simp, rfl, by simp, fun y hy => (List.mem_append.mp hy).elim (hz y) fun h => by rw [List.mem_singleton.mp h]; exact ⟨hsn, c, hc, by simpa using hq⟩, by simp; first | lia | omega, rfl⟩
      · exact hK _ _ ⟨us ++ [s], vs, zs, by rw [hs]; simp, rfl, by simp, hz, by simp; first | lia | omega, rfl⟩
  · clear t₃ e₃ h₂ e₂ h₁ e₁ hk hr hkt
    rintro j m H' hj ⟨k, ks, rs, n', x9, x10, rfl, hrun, hkr, hro, hkl, hrl, hg, hn', t', k', r', x'⟩ K hK
    have hj5 : j < 5 := by first | decide | lia | omega
    refine U_fitting ⟨xs, t, p, a, k, n', es, ns, ks, rfl, hx, t', by first | exact bd0 hn (by decide) | exact bd1 hn (by decide) | exact bd2 hn (by assumption) (by decide) | exact bd3 hn (by assumption) (by decide) | decide | lia | omega, x'.at hpt hp, hpo, hen, ⟨x'.at hat ha, hin, hnl⟩, trivial, k', by first | exact bd0 hn (by decide) | exact bd1 hn (by decide) | exact bd2 hn (by assumption) (by decide) | exact bd3 hn (by assumption) (by decide) | decide | lia | omega, fun f fs n'' H'' f1 f2 f3 frn f4 f5 f6 f7 f8 => ?_⟩
    have hkt : k ≠ t := fun e => by rw [e, t'] at k'; cases k'
    have hfr : f ≠ r := Ne.symm (ne_of r' f5)
    refine O_itL f6 ?_
    refine forW_ind (fun rest m Hx => Ex5 fun (k : Addr) (ks : List Str) (dn us : List Rw) (x10 : Option PV) => An11 (fs = dn ++ us) (runK es ins (rs ++ dn) = some ks ∧ (runK es ks us).isSome = true) (rest = rowsPV us) (m = [some (.fls xs), some (.obj t), some (.obj p), some (.str nm), some (.obj a), some (.tup (ins.map .str)), some (.tup (outs.map .str)), some (.obj k), some (.obj r), some (.int j), x10, none, none, none]) (k ≠ r) (ks.length ≤ 100 + 220 * j + gainL dn) (Hx t = some (.tape n'')) (Hx k = some (.list (ks.map .str))) (Hx r = some (.list (rowsPV (rs ++ dn)))) (Hx f = some (.list (rowsPV fs))) (ExtB t H Hx)) ?_ ?_ _ _ _
      ⟨k, ks, [], fs, x10, rfl, ⟨by rw [List.append_nil]; exact hrun, frn⟩, rfl, rfl, hkr, by simp [gainL]; exact hkl, f7, f8.at hkt k', by rw [List.append_nil]; exact f8.at hrt r', f6, x'.trans f8⟩
    · rintro m Hx ⟨k, ks, dn, us, x10, hs, hru, hr', rfl, hkr, hkl, t₁, k₁, r₁, f₁, x₁⟩
      have : us = [] := by cases us with | nil => rfl | cons _ _ => cases hr'
      subst this
      rw [List.append_nil] at hs
      subst hs
      refine ⟨f₁, hK _ _ ⟨k, ks, rs ++ fs, n'', _, x10, rfl, hru.1, hkr, ok_app hro f1, by first | decide | lia | omega, by rw [List.length_append]; first | lia | omega, by rw [gainL_append]; first | lia | omega, by first | decide | lia | omega, t₁, k₁, r₁, x₁⟩⟩
    · rintro y ys m Hx ⟨k, ks, dn, us, x10, hs, hru, hr', rfl, hkr, hkl, t₁, k₁, r₁, f₁, x₁⟩
      cases us with
      | nil => cases hr'
      | cons q us =>
      cases hr'
      refine ⟨f₁, fun K hK => ?_⟩
      have hgf : gainL dn ≤ 220 := by
        have := congrArg gainL hs
        rw [gainL_append] at this; first | lia | omega
      have hdl : dn.length ≤ 110 := by
        have := congrArg List.length hs
        rw [List.length_append] at this; first | lia | omega
      have hq : q.ok := f1 q (by rw [hs]; simp)
      obtain ⟨zs, hzs, hzr⟩ := runK_inv hru.2
      have fin : ∀ (c : Addr) (ks' : List Str) (H₃ H₄ : AHeap), ks' = zs → c ≠ r → ks'.length ≤ ks.length + q.gain → H₃ c = some (.list (ks'.map .str)) → Ext Hx H₃ → H₄ r = some (.list (rowsPV (rs ++ dn) ++ [.tup q.row])) → ExtB r H₃ H₄ →
          K [some (.fls xs), some (.obj t), some (.obj p), some (.str nm), some (.obj a), some (.tup (ins.map .str)), some (.tup (outs.map .str)), some (.obj c), some (.obj r), some (.int j), some (.tup q.row), none, none, none] H₄ := fun c ks' H₃ H₄ hkz hc hl h₃ e₃ h₄ e₄ =>
        hK _ _ ⟨c, ks', dn ++ [q], us, _, by rw [hs]; simp, ⟨by rw [← List.append_assoc, runK_app, hru.1, hkz]; show runK es ks [q] = _; rw [runK_ok hzs]; rfl, by rw [hkz]; exact hzr⟩, rfl, rfl, hc, by rw [gainL_append]; simp [gainL] at hkl ⊢; first | lia | omega, e₄.at (Ne.symm hrt) (e₃.at t₁), e₄.at hc h₃, by rw [h₄, ← List.append_assoc, rowsPV_append (rs ++ dn)]; rfl, e₄.at hfr (e₃.at f₁), ExtB.over hrH (x₁.trans (e₃.toB t)) e₄⟩
      have hlen : (rowsPV (rs ++ dn)).length < LIM := by rw [rowsPV_len, List.length_append]; first | lia | omega
      refine U_lnext ⟨p, k, es, ks, q, rfl, x₁.at hpt hp, hpo, hq, k₁, by first | decide | lia | omega, ?_⟩
      cases hres : resB es ks q with
      | ok ys =>
        intro c H₃ hc h₃ e₃
        refine O_recv (e₃.at r₁) rfl ?_
        refine O_append (e₃.at r₁) hlen fun H₄ h₄ e₄ => ?_
        exact fin c ys H₃ H₄ (by rw [hres] at hzs; cases hzs; rfl) (Ne.symm (ne_of r₁ hc)) (resB_gain hpo hres) h₃ e₃ h₄ e₄
      | error e => rw [hres] at hzs; cases hzs
end Mine
end
section
open PySem PySem.W PySem.Calls PyProof.Rows
namespace Mine
set_option autoImplicit false

theorem O_fromS {H : AHeap} {Q : Post} {s : Str} {k : Int} (l : s.length ≤ LIM) (h : Q (.str ⟨(s.cps.toList.drop (cutAt s.length k)).toArray⟩) H) : FromW Q H (.str s) (.int k) := .str l h
theorem O_listD {H : AHeap} {Q : Post} {a : Addr} {kvs : List (Str × PV)} (ha : H a = some (.dict kvs)) (h : ∀ c H', H c = none → H' c = some (.list (kvs.map fun x => .str x.1)) → Ext H H' → Q (.obj c) H') : BltW Q H .list [.obj a] := .listD a kvs ha h
theorem dget_of_mem {α : Type} {es : List (Str × α)} (hn : (es.map (·.1)).Nodup) {p : Str × α} (h : p ∈ es) : dget es p.1 = some p.2 := by
  induction es with
  | nil => cases h
  | cons q es ih =>
    rw [List.map_cons, List.nodup_cons] at hn
    unfold dget
    rcases List.mem_cons.mp h with rfl | h
    · simp
    · have : q.1 ≠ p.1 := fun e => hn.1 (by rw [e]; exact List.mem_map_of_mem h)
      rw [List.find?_cons]
      simp only [this, decide_false]
      exact ih hn.2 h
theorem dget_dset {α : Type} {es : List (Str × α)} {k : Str} {v : α} (x : Str) : dget (dset es k v) x = if x = k then some v else dget es x := by
  unfold dset
  split
  · rename_i h
    induction es with
    | nil => simp at h
    | cons p es ih =>
      unfold dget
      rw [List.map_cons, List.find?_cons]
      by_cases hp : p.1 = k
      · simp only [hp, if_true]
        by_cases hx : x = k
        · subst hx; simp
        · have hx' : ¬ (k = x) := fun e => hx e.symm
          simp only [hx', decide_false, hx, if_false]
          rw [List.find?_cons]
          simp only [hp, hx', decide_false]
          by_cases ha : es.any (fun p => decide (p.1 = k)) = true
          · have := ih ha
            unfold dget at this
            rw [if_neg hx] at this
            exact this
          · have hm : es.map (fun p => if p.1 = k then (p.1, v) else p) = es := by
              conv => rhs; rw [← List.map_id es]
              refine List.map_congr_left fun q hq => ?_
              rw [if_neg fun e => ha (List.any_eq_true.mpr ⟨q, hq, by simp [e]⟩)]; rfl
            rw [hm]
      · simp only [hp, if_false]
        rw [List.any_cons] at h
        simp only [hp, decide_false, Bool.false_or] at h
        have := ih h
        unfold dget at this
        rw [List.find?_cons]
        by_cases hx : p.1 = x
        · have hxk : x ≠ k := fun e => hp (hx.trans e)
          simp [hx, hxk]
        · simp only [hx, decide_false]
          exact this
  · rename_i h
    unfold dget
    rw [List.find?_append]
    by_cases hx : x = k
    · subst hx
      have : es.find? (fun p => decide (p.1 = x)) = none := by
        rw [List.find?_eq_none]
        intro p hp
        simp only [decide_eq_true_eq]
        intro e
        exact h (List.any_eq_true.mpr ⟨p, hp, by simp [e]⟩)
      rw [this]; simp
    · have hx' : ¬ (k = x) := fun e => hx e.symm
      simp [hx, hx']

theorem RowsP.step {H H' : AHeap} {t : Addr} {n : Nat} {es : Pr} {P : List Rw → Prop} {rw : Str → List Rw} (h : RowsP P H es rw) (ht : H t = some (.tape n)) (e : ExtB t H H') : RowsP P H' es rw := fun q hq => by
  obtain ⟨ok, a, h1, h2⟩ := h q hq
  exact ⟨ok, a, h1, e.at (by rintro rfl; rw [ht] at h2; cases h2) h2⟩
theorem RowsP.stepD {H H' : AHeap} {p : Addr} {kvs : List (Str × PV)} {es : Pr} {P : List Rw → Prop} {rw : Str → List Rw} (h : RowsP P H es rw) (hp : H p = some (.dict kvs)) (e : ExtB p H H') : RowsP P H' es rw := fun q hq => by
  obtain ⟨ok, a, h1, h2⟩ := h q hq
  exact ⟨ok, a, h1, e.at (by rintro rfl; rw [hp] at h2; cases h2) h2⟩
theorem RowsP.ext {H H' : AHeap} {es : Pr} {P : List Rw → Prop} {rw : Str → List Rw} (h : RowsP P H es rw) (e : Ext H H') : RowsP P H' es rw := fun q hq => by
  obtain ⟨ok, a, h1, h2⟩ := h q hq
  exact ⟨ok, a, h1, e.at h2⟩
theorem kvs_names (es : Pr) : (kvsP es).map (fun x => PV.str x.1) = (es.map (·.1)).map .str := by unfold kvsP; rw [List.map_map, List.map_map]; rfl
theorem arith5 {k n n' c d j : Nat} (hk : k ≤ n' + d) (hn' : n' ≤ n + c + d * j) : k ≤ n + c + d * (j + 1) := by
  rw [Nat.mul_succ, ← Nat.add_assoc]; exact Nat.le_trans hk (Nat.add_le_add_right hn' d)
theorem nodup_take {l : List Str} (h : l.Nodup) {j : Nat} (hj : j < l.length) : l[j] ∉ l.take j := fun hm => by
  rw [← List.take_append_drop j l, List.drop_eq_getElem_cons hj] at h
  exact (List.nodup_append.mp h).2.2 _ hm _ (List.mem_cons_self ..) rfl
theorem get_str {ns : List Str} {j : Nat} (hj : j < ns.length) : itemAt (ns.map PV.str) (j : Int) = some (.str ns[j]) := itemAt_nat rfl (by simp [hj])
theorem resB_congr {es fs : Pr} (h : ∀ n, (dget es n).map (fun b => (b.1, b.2.1)) = (dget fs n).map (fun b => (b.1, b.2.1))) (ks : List Str) (r : Rw) : resB es ks r = resB fs ks r := by
  have ck : ∀ ks n, callK es ks n = callK fs ks n := fun ks n => by
    have hn := h n
    unfold callK
    cases he : dget es n <;> cases hf : dget fs n <;> rw [he, hf] at hn <;> simp at hn
    simp only; rw [hn.1, hn.2]
  cases r with
  | pl w => rfl
  | call n => exact ck ks n
  | iff n m =>
    simp only [resB]
    have hn := h n
    have hm := h m
    cases takeK ks ["num"] with
    | error e => rfl
    | ok l =>
      simp only
      rw [ck l n]
      cases he : dget es n <;> cases hf : dget fs n <;> rw [he, hf] at hn <;> simp at hn
      cases he' : dget es m <;> cases hf' : dget fs m <;> rw [he', hf'] at hm <;> simp at hm
      simp only; rw [hn.1, hn.2, hm.1, hm.2]
theorem runK_congr {es fs : Pr} (h : ∀ n, (dget es n).map (fun b => (b.1, b.2.1)) = (dget fs n).map (fun b => (b.1, b.2.1))) : ∀ (ks : List Str) (rs : List Rw), runK es ks rs = runK fs ks rs
  | ks, [] => rfl
  | ks, r :: rs => by
    show (match resB es ks r with | .ok ys => runK es ys rs | .error _ => none) = (match resB fs ks r with | .ok ys => runK fs ys rs | .error _ => none)
    rw [resB_congr h]
    cases resB fs ks r with
    | ok ys => exact runK_congr h ys rs
    | error e => rfl
theorem RsSm.ok {rs : List Rw} (h : RsSm rs) : RsOk rs := ⟨h.1, Nat.le_trans h.2.1 (by decide), Nat.le_trans h.2.2 (by decide)⟩
theorem RowsP.weak {H : AHeap} {es : Pr} {rw : Str → List Rw} (h : RowsP RsSm H es rw) : RowsAt H es rw := fun q hq => ⟨(h q hq).1.ok, (h q hq).2⟩
/-- the rows of one more block -/
theorem RowsP.put {H : AHeap} {fs : Pr} {P : List Rw → Prop} {rw : Str → List Rw} {nm : Str} {i o : List Str} {ra : Addr} {rs : List Rw}  (h : RowsP P H fs rw) (hr : P rs) (ha : H ra = some (.list (rowsPV rs))) (hn : (fs.map (·.1)).Nodup) :
    RowsP P H (dset fs nm (i, o, [.obj ra])) (fun s => if s = nm then rs else rw s) := fun q hq => by
  have hd := dget_of_mem (dset_nodup (k := nm) (v := (i, o, [PV.obj ra])) hn) hq
  rw [dget_dset] at hd
  by_cases e : q.1 = nm
  · rw [if_pos e] at hd
    have : q.2 = (i, o, [.obj ra]) := (Option.some.inj hd).symm
    simp only [e, if_true]
    exact ⟨hr, ra, by rw [this], ha⟩
  · rw [if_neg e] at hd
    simp only [e, if_false]
    obtain ⟨ok, a, h1, h2⟩ := h (q.1, q.2) (dget_mem hd)
    exact ⟨ok, a, h1, h2⟩

set_option maxRecDepth 10000 in
set_option maxHeartbeats 1000000 in
theorem goodprogram_ok : Ver spGoodProgram B_law_good_program N_law_good_program 2 := by
  intro ps H Q X h
  have hL : LIM = 1048576 := rfl
  obtain ⟨xs, t, n, rfl, hx, ht, hn, hQ⟩ := h
  have hB : (2 : Nat) ^ 49 = 562949953421312 := by decide
  have hB0 : (2 : Nat) ^ 50 = 1125899906842624 := by decide
  have hB1 : (2 : Nat) ^ 52 = 4503599627370496 := by decide
  have hB2 : (2 : Nat) ^ 59 = 576460752303423488 := by decide
  refine ⟨rfl, ?_⟩
  refine U_ltold ⟨xs, t, n, rfl, hx, ht, by first | exact bd0 hn (by decide) | exact bd1 hn (by decide) | exact bd2 hn (by assumption) (by decide) | exact bd3 hn (by assumption) (by decide) | decide | lia | omega, fun p es n₁ H₁ hpo hne hen hpH p₁ hn₁ t₁ e₁ => ?_⟩
  have hle := hpo.len
  have hlp : 0 < es.length := List.length_pos_iff.mpr hne
  refine O_listD p₁ fun c H₂ hc h₂ e₂ => ?_
  rw [kvs_names] at h₂
  have hct : c ≠ t := Ne.symm (ne_of t₁ hc)
  have hpt : p ≠ t := fun e => by rw [e, t₁] at p₁; cases p₁
  refine U_draw ⟨xs, t, _, n₁, rfl, hx, e₂.at t₁, by first | exact bd0 hn (by decide) | exact bd1 hn (by decide) | exact bd2 hn (by assumption) (by decide) | exact bd3 hn (by assumption) (by decide) | decide | lia | omega, by first | exact bd0 hn (by decide) | exact bd1 hn (by decide) | exact bd2 hn (by assumption) (by decide) | exact bd3 hn (by assumption) (by decide) | decide | lia | omega, fun dn H₃ _ _ t₃ e₃ => ?_⟩
  have c₃ := e₃.at hct h₂
  have p₃ := e₃.at hpt (e₂.at p₁)
  have x₃ : ExtB t H H₃ := (e₁.trans (e₂.toB t)).trans e₃
  refine fun q H₄ hq h₄ e₄ => ?_
  have hqt : q ≠ t := Ne.symm (ne_of t₃ hq)
  refine O_lenL (e₄.at c₃) ?_
  refine O_range (by simp; first | lia | omega) ?_
  generalize hns : es.map (·.1) = ns at c₃ h₂
  have hnl : ns.length = es.length := by rw [← hns]; simp
  have hnd : ns.Nodup := by rw [← hns]; exact hpo.nodup
  have hin : ∀ s ∈ ns, (dget es s).isSome = true := fun s hs => by
    rw [← hns] at hs
    obtain ⟨x, hx, rfl⟩ := List.mem_map.mp hs
    rw [dget_of_mem hpo.nodup hx]; rfl
  refine forR (fun j m H' => Ex6 fun (fs : Pr) (rw : Str → List Rw) (n' : Nat) (x6 x7 x8 : Option PV) => An12 (m = [some (.fls xs), some (.obj t), some (.obj p), some (.obj c), some (.int dn), some (.obj q), x6, x7, x8]) (∀ s i o z, dget fs s = some (i, o, z) → (∃ z', dget es s = some (i, o, z')) ∧ runK es i (rw s) = some o) (∀ s ∈ ns.take j, (dget fs s).isSome = true) (POk fs) (∀ z ∈ fs, z.2.2.1.length ≤ 60) ((0 < j → fs ≠ [])) (fs.length ≤ j) (RowsP RsSm H' fs rw) (n' ≤ n + 10001 + 5000 * j) (H' t = some (.tape n')) (H' q = some (.dict (kvsP fs))) (ExtB t H₃ H')) ?_ ?_ _ _ ⟨[], fun _ => [], n₁ + 1, none, none, none, rfl, fun s i o z h => (nomatch h), by simp, ⟨by simp, by simp, by simp, by simp⟩, by simp, by simp, by simp, fun _ h => (nomatch h), by first | decide | lia | omega, e₄.at t₃, h₄, e₄.toB t⟩
  · rintro m H' ⟨fs, rw', n', x6, x7, x8, rfl, hag, hall, hfo, hft, hfn, hfl, hra, hn', t', q', x'⟩
    have hcong : ∀ n, (dget es n).map (fun b => (b.1, b.2.1)) = (dget fs n).map (fun b => (b.1, b.2.1)) := fun n => by
      cases hf : dget fs n with
      | some b =>
        obtain ⟨⟨z', hz'⟩, _⟩ := hag n b.1 b.2.1 b.2.2 hf
        rw [hz']; rfl
      | none =>
        cases he : dget es n with
        | none => rfl
        | some b =>
          have hm : n ∈ ns := by rw [← hns]; exact List.mem_map.mpr ⟨_, dget_mem he, rfl⟩
          have := hall n (by rw [List.take_of_length_le (by simp [← hns])]; exact hm)
          rw [hf] at this; cases this
    exact hQ q fs rw' n' H' hfo (hfn (by simp; first | lia | omega)) (fresh_of x₃ t₃ hq) q' hra (fun z hz => by rw [← runK_congr hcong]; exact (hag z.1 z.2.1 z.2.2.1 z.2.2.2 (dget_of_mem hfo.nodup hz)).2) hft (by simp at hn'; first | lia | omega) t' (x₃.trans x')
  · rintro j m H' hj ⟨fs, rw', n', x6, x7, x8, rfl, hag, hall, hfo, hft, hfn, hfl, hra, hn', t', q', x'⟩ K hK
    have hj' : j < ns.length := by simpa [hns] using hj
    have c' := x'.at hct c₃
    have p' := x'.at hpt p₃
    refine W_cut (fun m H'' => Ex2 fun (sa : Addr) (ss : List Str) => An3 (m = [some (.fls xs), some (.obj t), some (.obj p), some (.obj c), some (.int dn), some (.obj q), some (.int j), some (.obj sa), x8]) (NamesAt H'' sa es ss) (Ext H' H'')) ?_ ?_
    · intro K hK
      exact hK _ _ ⟨c, ns, rfl, ⟨c', hin, by first | decide | lia | omega⟩, Ext.refl _⟩
    rintro m H₅ ⟨sa, ss, rfl, na, e₅⟩
    refine W_cut (fun m H'' => Ex2 fun (sa : Addr) (ss : List Str) => An3 (m = [some (.fls xs), some (.obj t), some (.obj p), some (.obj c), some (.int dn), some (.obj q), some (.int j), some (.obj sa), x8]) (NamesAt H'' sa es ss) (Ext H' H'')) ?_ ?_
    · intro K hK
      refine O_ite (fun _ => ?_) (fun _ => ?_)
      · refine O_fromL (e₅.at c') fun d H₆ hd h₆ e₆ => ?_
        rw [← List.map_drop] at h₆
        exact hK _ _ ⟨d, _, rfl, ⟨h₆, fun s hs => hin s (List.mem_of_mem_drop hs), by simp; first | lia | omega⟩, e₅.trans e₆⟩
      · exact hK _ _ ⟨sa, ss, rfl, na, e₅⟩
    clear na e₅ ss sa H₅
    rintro m H₅ ⟨sa, ss, rfl, na, e₅⟩
    have c₅ := e₅.at c'
    have gj := get_str hj'
    refine O_subL c₅ gj ?_
    have hnmS := hin ns[j] (List.getElem_mem hj')
    obtain ⟨⟨i, o, zz⟩, hb⟩ := Option.isSome_iff_exists.mp hnmS
    have hbo : BOk (i, o, zz) := hpo.blks _ (dget_mem hb)
    have hnm := hpo.name _ (dget_mem hb)
    have gb : dget (kvsP es) ns[j] = some (blk (i, o, zz)) := by rw [dget_blk, hb]; rfl
    refine U_goodrows ⟨xs, t, p, sa, n', es, ss, ns[j], rfl, hx, e₅.at t', by first | exact bd0 hn (by decide) | exact bd1 hn (by decide) | exact bd2 hn (by assumption) (by decide) | exact bd3 hn (by assumption) (by decide) | decide | lia | omega, e₅.at p', hpo, fun q hq => (hen q hq).1, na, hnmS, fun ra rs n₆ H₆ hrs hrun hn₆ hra₆ ra₆ t₆ e₆ => ?_⟩
    have c₆ := e₆.at hct c₅
    have p₆ := e₆.at hpt (e₅.at p')
    have q₆ := e₆.at hqt (e₅.at q')
    refine O_subL c₆ gj ?_
    refine O_subD p₆ gb ?_
    refine O_subL c₆ gj ?_
    refine O_subD p₆ gb ?_
    refine O_subL c₆ gj ?_
    refine O_storeD q₆ (by simp [kvsP]; first | lia | omega) fun H₇ h₇ e₇ => ?_
    have hraq : ra ≠ q := Ne.symm (ne_of (e₅.at q') hra₆)
    refine hK _ _ ⟨dset fs ns[j] (i, o, [.obj ra]), fun s => if s = ns[j] then rs else rw' s, n₆, _, _, _, rfl, ?_, ?_, hfo.dset hnm hbo (by first | decide | lia | omega), fun z hz => (dset_mem hz).elim (hft z) (fun e => by rw [e]; exact (hen _ (dget_mem hb)).2), fun _ => dset_ne, Nat.le_trans dset_len (Nat.succ_le_succ hfl), ?_, arith5 hn₆ hn', e₇.at (Ne.symm hqt) t₆, ?_, ?_⟩
    · intro s i' o' z' hs
      rw [dget_dset] at hs
      by_cases e : s = ns[j]
      · rw [if_pos e] at hs
        cases hs
        simp only [e, if_true]
        exact ⟨⟨zz, hb⟩, hrun _ _ _ hb⟩
      · rw [if_neg e] at hs
        simp only [e, if_false]
        exact hag s i' o' z' hs
    · intro s hs
      rw [dget_dset]
      by_cases e : s = ns[j]
      · rw [if_pos e]; rfl
      · rw [if_neg e]
        rw [List.take_succ_eq_append_getElem hj'] at hs
        rcases List.mem_append.mp hs with hs | hs
        · exact hall s hs
        · exact absurd (List.mem_singleton.mp hs) e
    · exact ((((hra.ext e₅).step (e₅.at t') e₆).stepD q₆ e₇).put hrs (e₇.at hraq ra₆) hfo.nodup)
    · rw [h₇]; exact congrArg some (congrArg AObj.dict (dset_blk fs ns[j] (i, o, [.obj ra])))
    · exact ExtB.over hq ((x'.trans (e₅.toB t)).trans e₆) e₇

theorem cut_le {s : Str} {l : List Nat} (h : l.length ≤ s.length) : (⟨l.toArray⟩ : Str).length ≤ s.length := by
  show l.toArray.size ≤ s.length
  simpa using h
theorem cps_len (s : Str) : s.cps.toList.length = s.length := by simp [Str.length]
theorem toS_le (s : Str) (k : Int) : (⟨(s.cps.toList.take (cutAt s.length k)).toArray⟩ : Str).length ≤ s.length := cut_le (by rw [List.length_take, cps_len]; first | lia | omega)
theorem fromS_le (s : Str) (k : Int) : (⟨(s.cps.toList.drop (cutAt s.length k)).toArray⟩ : Str).length ≤ s.length := cut_le (by rw [List.length_drop, cps_len]; first | lia | omega)
theorem rawrow_ok : Ver spRawRow B_law_raw_row N_law_raw_row 3 := by
  intro ps H Q X h
  have hL : LIM = 1048576 := rfl
  obtain ⟨xs, t, a, n, ns, rfl, hx, ht, hn, ha, hne, hnl, hns, hQ⟩ := h
  have hB : (2 : Nat) ^ 55 = 36028797018963968 := by decide
  have hB1 : (2 : Nat) ^ 57 = 144115188075855872 := by decide
  have hB2 : (2 : Nat) ^ 59 = 576460752303423488 := by decide
  have hat : a ≠ t := fun e => by rw [e, ht] at ha; cases ha
  have hlp := lenNE hne
  refine ⟨rfl, ?_⟩
  refine U_draw ⟨xs, t, _, n, rfl, hx, ht, by first | exact bd0 hn (by decide) | exact bd1 hn (by decide) | exact bd2 hn (by assumption) (by decide) | exact bd3 hn (by assumption) (by decide) | decide | lia | omega, by first | exact bd0 hn (by decide) | exact bd1 hn (by decide) | exact bd2 hn (by assumption) (by decide) | exact bd3 hn (by assumption) (by decide) | decide | lia | omega, fun way H₁ _ _ t₁ e₁ => ?_⟩
  refine O_ite (fun _ => ?_) (fun _ => ?_)
  · refine U_plain ⟨xs, t, n + 1, rfl, hx, t₁, by first | exact bd0 hn (by decide) | exact bd1 hn (by decide) | exact bd2 hn (by assumption) (by decide) | exact bd3 hn (by assumption) (by decide) | decide | lia | omega, fun w n' H₂ hw hn' t₂ e₂ => ?_⟩
    exact hQ (.pl w) n' H₂ hw (by first | decide | lia | omega) t₂ (e₁.trans e₂)
  · have a₁ := e₁.at hat ha
    refine O_lenL a₁ ?_
    refine U_draw ⟨xs, t, _, n + 1, rfl, hx, t₁, by first | exact bd0 hn (by decide) | exact bd1 hn (by decide) | exact bd2 hn (by assumption) (by decide) | exact bd3 hn (by assumption) (by decide) | decide | lia | omega, by simp; first | lia | omega, fun r H₂ r0 r1 t₂ e₂ => ?_⟩
    have a₂ := e₂.at hat a₁
    obtain ⟨one, hone, gone⟩ := names_at (ns := ns) r0 (by simpa using r1)
    refine O_subL a₂ gone ?_
    have hol := hns one hone
    refine O_lenS (by first | decide | lia | omega) ?_
    refine U_draw ⟨xs, t, _, n + 2, rfl, hx, t₂, by first | exact bd0 hn (by decide) | exact bd1 hn (by decide) | exact bd2 hn (by assumption) (by decide) | exact bd3 hn (by assumption) (by decide) | decide | lia | omega, by first | exact bd0 hn (by decide) | exact bd1 hn (by decide) | exact bd2 hn (by assumption) (by decide) | exact bd3 hn (by assumption) (by decide) | decide | lia | omega, fun s H₃ s0 s1 t₃ e₃ => ?_⟩
    have a₃ := e₃.at hat a₂
    refine O_toS (by first | decide | lia | omega) ?_
    have hl1 := toS_le one s
    have hl2 := fromS_le one (s + 1)
    have hq1 : Str.length "?" = 1 := by decide +kernel
    refine O_addS (by rw [hq1]; first | lia | omega) ?_
    refine O_fromS (by first | decide | lia | omega) ?_
    refine O_addS (by rw [str_len_append, hq1]; first | lia | omega) ?_
    refine fun d H₄ hd h₄ e₄ => ?_
    refine O_addL (e₄.at a₃) h₄ (by simp; first | lia | omega) fun f H₅ hf h₅ e₅ => ?_
    have x₅ : ExtB t H H₅ := (((e₁.trans e₂).trans e₃).trans (e₄.toB t)).trans (e₅.toB t)
    have t₅ := e₅.at (e₄.at t₃)
    have f₅ : ∃ ms : List Str, H₅ f = some (.list (ms.map .str)) ∧ 0 < ms.length := ⟨_, h₅.trans (by rw [show [PV.str _] = List.map PV.str [_] from rfl, ← List.map_append]), by simp⟩
    clear h₅
    obtain ⟨ms, h₅, hml⟩ := f₅
    have hft : f ≠ t := fun e => by rw [e, t₅] at h₅; cases h₅
    refine O_lenL h₅ ?_
    refine U_draw ⟨xs, t, _, n + 3, rfl, hx, t₅, by first | exact bd0 hn (by decide) | exact bd1 hn (by decide) | exact bd2 hn (by assumption) (by decide) | exact bd3 hn (by assumption) (by decide) | decide | lia | omega, by simp; first | lia | omega, fun r' H₆ r0' r1' t₆ e₆ => ?_⟩
    have f₆ := e₆.at hft h₅
    obtain ⟨two, _, gtwo⟩ := names_at (ns := ms) r0' (by simpa using r1')
    refine O_subL f₆ gtwo ?_
    refine O_ite (fun _ => ?_) (fun _ => ?_)
    · exact hQ (.call two) _ H₆ trivial (by first | decide | lia | omega) t₆ (x₅.trans e₆)
    · refine O_lenL f₆ ?_
      refine U_draw ⟨xs, t, _, n + 4, rfl, hx, t₆, by first | exact bd0 hn (by decide) | exact bd1 hn (by decide) | exact bd2 hn (by assumption) (by decide) | exact bd3 hn (by assumption) (by decide) | decide | lia | omega, by simp; first | lia | omega, fun r'' H₇ r0'' r1'' t₇ e₇ => ?_⟩
      have f₇ := e₇.at hft f₆
      obtain ⟨thr, _, gthr⟩ := names_at (ns := ms) r0'' (by simpa using r1'')
      refine O_subL f₇ gthr ?_
      exact hQ (.iff two thr) _ H₇ trivial (by first | decide | lia | omega) t₇ ((x₅.trans e₆).trans e₇)
end Mine
end
section
open PySem PySem.W PySem.Calls PyProof.Rows
namespace Mine
set_option autoImplicit false

theorem gain_take (rs : List Rw) (k : Nat) : gainL (rs.take k) ≤ gainL rs := by
  have h : gainL rs = gainL (rs.take k) + gainL (rs.drop k) := by rw [← gainL_append, List.take_append_drop]
  first | lia | omega
theorem gain_drop (rs : List Rw) (k : Nat) : gainL (rs.drop k) ≤ gainL rs := by
  have h : gainL rs = gainL (rs.take k) + gainL (rs.drop k) := by rw [← gainL_append, List.take_append_drop]
  first | lia | omega
theorem gain_td (rs : List Rw) {j k : Nat} (h : j ≤ k) : gainL (rs.take j) + gainL (rs.drop k) ≤ gainL rs := by
  have h0 : gainL rs = gainL (rs.take j) + gainL (rs.drop j) := by rw [← gainL_append, List.take_append_drop]
  have h1 : (rs.drop j).drop (k - j) = rs.drop k := by rw [List.drop_drop]; congr 1; first | lia | omega
  have h2 := gain_drop (rs.drop j) (k - j)
  rw [h1] at h2; first | lia | omega
theorem rows_take (rs : List Rw) (k : Nat) : (rowsPV rs).take k = rowsPV (rs.take k) := by unfold rowsPV; rw [List.map_take]
theorem rows_drop (rs : List Rw) (k : Nat) : (rowsPV rs).drop k = rowsPV (rs.drop k) := by unfold rowsPV; rw [List.map_drop]
theorem dset_len_in {α : Type} {es : List (Str × α)} {k : Str} {v : α} (h : k ∈ es.map (·.1)) : (dset es k v).length = es.length := by
  obtain ⟨q, hq, e⟩ := List.mem_map.mp h
  unfold dset
  rw [if_pos (List.any_eq_true.mpr ⟨q, hq, by simpa using e⟩)]; simp
theorem POk.dsetI {es : Pr} (h : POk es) {k : Str} {b : Bl} (hk : k ∈ es.map (·.1)) (hb : BOk b) : POk (Mine.dset es k b) := by
  refine ⟨dset_nodup h.nodup, fun p hp => ?_, fun p hp => ?_, by rw [dset_len_in hk]; exact h.len⟩
  · rcases dset_mem hp with hp | rfl
    · exact h.name p hp
    · obtain ⟨q, hq, e⟩ := List.mem_map.mp hk
      have := h.name q hq
      rw [e] at this; exact this
  · rcases dset_mem hp with hp | rfl
    · exact h.blks p hp
    · exact hb

set_option maxRecDepth 10000 in
set_option maxHeartbeats 1000000 in
theorem spoilt_ok : Ver spSpoilt B_law_spoilt N_law_spoilt 3 := by
  intro ps H Q X h
  have hL : LIM = 1048576 := rfl
  obtain ⟨xs, t, p, n, es, rw', rfl, hx, ht, hn, hp, hpo, hne, hra, htg, hQ⟩ := h
  have hB : (2 : Nat) ^ 52 = 4503599627370496 := by decide
  have hB0 : (2 : Nat) ^ 55 = 36028797018963968 := by decide
  have hB1 : (2 : Nat) ^ 57 = 144115188075855872 := by decide
  have hB2 : (2 : Nat) ^ 59 = 576460752303423488 := by decide
  have hpt : p ≠ t := fun e => by rw [e, ht] at hp; cases hp
  have hle := hpo.len
  have hlp : 0 < es.length := List.length_pos_iff.mpr hne
  refine ⟨rfl, ?_⟩
  refine O_listD hp fun c H₁ hc h₁ e₁ => ?_
  rw [kvs_names] at h₁
  have hct : c ≠ t := Ne.symm (ne_of ht hc)
  refine O_lenL h₁ ?_
  refine U_draw ⟨xs, t, _, n, rfl, hx, e₁.at ht, by first | exact bd0 hn (by decide) | exact bd1 hn (by decide) | exact bd2 hn (by assumption) (by decide) | exact bd3 hn (by assumption) (by decide) | decide | lia | omega, by simp; first | lia | omega, fun r H₂ r0 r1 t₂ e₂ => ?_⟩
  have c₂ := e₂.at hct h₁
  obtain ⟨nm, hnm, gnm⟩ := names_at (ns := es.map (·.1)) r0 (by simpa using r1)
  refine O_subL c₂ gnm ?_
  obtain ⟨⟨nm', i, o, zz⟩, hqm, hqe⟩ := List.mem_map.mp hnm
  replace hqe : nm' = nm := hqe
  subst hqe
  have hb : dget es nm' = some (i, o, zz) := dget_of_mem hpo.nodup hqm
  have hbo : BOk (i, o, zz) := hpo.blks _ hqm
  obtain ⟨⟨hro, hrl, hrg⟩, ra, hz, ra₀⟩ := hra _ hqm
  replace hz : zz = [.obj ra] := hz
  subst hz
  have gb : dget (kvsP es) nm' = some (blk (i, o, [.obj ra])) := by rw [dget_blk, hb]; rfl
  have p₂ := e₂.at hpt (e₁.at hp)
  refine O_subD p₂ gb ?_
  refine ⟨rfl, ?_⟩
  replace hro : ∀ r ∈ rw' nm', r.ok := hro
  replace hrl : (rw' nm').length ≤ 2000 := hrl
  replace hrg : gainL (rw' nm') ≤ 3000 := hrg
  replace ra₀ : H ra = some (.list (rowsPV (rw' nm'))) := ra₀
  generalize hrs : rw' nm' = rs at hro hrl hrg ra₀
  have hrat : ra ≠ t := fun e => by rw [e, ht] at ra₀; cases ra₀
  have ra₂ := e₂.at hrat (e₁.at ra₀)
  refine O_lenL ra₂ ?_
  refine U_draw ⟨xs, t, _, n + 1, rfl, hx, t₂, by first | exact bd0 hn (by decide) | exact bd1 hn (by decide) | exact bd2 hn (by assumption) (by decide) | exact bd3 hn (by assumption) (by decide) | decide | lia | omega, by rw [rowsPV_len]; first | lia | omega, fun pl H₃ pl0 pl1 t₃ e₃ => ?_⟩
  obtain ⟨pl, rfl⟩ := Int.eq_ofNat_of_zero_le pl0
  rw [rowsPV_len] at pl1
  have hpl : pl ≤ rs.length := by first | decide | lia | omega
  refine U_draw ⟨xs, t, _, n + 2, rfl, hx, t₃, by first | exact bd0 hn (by decide) | exact bd1 hn (by decide) | exact bd2 hn (by assumption) (by decide) | exact bd3 hn (by assumption) (by decide) | decide | lia | omega, by first | exact bd0 hn (by decide) | exact bd1 hn (by decide) | exact bd2 hn (by assumption) (by decide) | exact bd3 hn (by assumption) (by decide) | decide | lia | omega, fun way H₄ w0 w1 t₄ e₄ => ?_⟩
  have x₄ : ExtB t H H₄ := (((e₁.toB t).trans e₂).trans e₃).trans e₄
  have c₄ := e₄.at hct (e₃.at hct c₂)
  have ra₄ := x₄.at hrat ra₀
  have tk1 : (rowsPV rs).take (cutAt (rowsPV rs).length (pl : Int)) = rowsPV (rs.take pl) := by
    rw [cut_nat rfl (by rw [rowsPV_len]; first | lia | omega), rows_take]
  have dr0 : (rowsPV rs).drop (cutAt (rowsPV rs).length (pl : Int)) = rowsPV (rs.drop pl) := by
    rw [cut_nat rfl (by rw [rowsPV_len]; first | lia | omega), rows_drop]
  have dr1 : (rowsPV rs).drop (cutAt (rowsPV rs).length ((pl : Int) + 1)) = rowsPV (rs.drop (pl + 1)) := by
    rw [← rows_drop]
    unfold cutAt
    rw [if_pos (by first | decide | lia | omega), rowsPV_len]
    rcases Nat.lt_or_ge pl rs.length with h | h
    · congr 1; first | lia | omega
    · rw [List.drop_eq_nil_of_le (by rw [rowsPV_len]; first | lia | omega), List.drop_eq_nil_of_le (by rw [rowsPV_len]; first | lia | omega)]
  have hnok : ∀ s ∈ es.map (·.1), 0 < s.length ∧ s.length ≤ 200 := fun s hs => by
    obtain ⟨q, hq, rfl⟩ := List.mem_map.mp hs; exact hpo.name q hq
  have htake : ∀ r ∈ rs.take pl, r.ok := fun r hr => hro r (List.mem_of_mem_take hr)
  have hdrop : ∀ k, ∀ r ∈ rs.drop k, r.ok := fun k r hr => hro r (List.mem_of_mem_drop hr)
  have hgt := gain_td rs (Nat.le_refl pl)
  have hgt1 := gain_td rs (show pl ≤ pl + 1 by first | decide | lia | omega)
  have one : ∀ q : Rw, gainL [q] ≤ 100 := fun q => by cases q <;> simp [gainL, Rw.gain]
  have fin : ∀ (i' o' : List Str) (a : Addr) (rs' : List Rw) (n' : Nat) (H₈ H₉ : AHeap), BOk (i', o', [.obj a]) → o'.length ≤ 60 → RsOk rs' → n' ≤ n + 1000 → H₈ a = some (.list (rowsPV rs')) → H₈ t = some (.tape n') → ExtB t H H₈ →
      H₉ p = some (.dict (dset (kvsP es) nm' (blk (i', o', [.obj a])))) → ExtB p H₈ H₉ → Q (.str nm') H₉ := fun i' o' a rs' n' H₈ H₉ b1 b0 b2 b3 b4 b5 b6 b7 b8 => by
    have p₈ := b6.at hpt hp
    refine hQ (dset es nm' (i', o', [.obj a])) (fun s => if s = nm' then rs' else rw' s) nm' n' H₉ (hpo.dsetI hnm b1) dset_ne (by rw [dget_dset, if_pos rfl]; rfl) b3 (b8.at (Ne.symm hpt) b5) (by rw [b7, dset_blk]) ?_ fun z hz => (dset_mem hz).elim (htg z) fun e => by rw [e]; exact b0
    exact ((hra.weak.step ht b6).stepD p₈ b8).put b2 (b8.at (by rintro rfl; rw [p₈] at b4; cases b4) b4) hpo.nodup
  have hle9 : (kvsP es).length < LIM := by simp [kvsP]; first | lia | omega
  have hway : way < 2 ∨ way = 2 ∨ way = 3 ∨ way = 4 ∨ way = 5 := by first | decide | lia | omega
  rcases hway with hlt | rfl | rfl | rfl | rfl
  · refine I_pos (by simpa using hlt) ?_
    refine O_toL ra₄ fun d H₅ hd h₅ e₅ => ?_
    rw [tk1] at h₅
    have hdt : d ≠ t := Ne.symm (ne_of t₄ hd)
    refine U_rawrow ⟨xs, t, c, n + 3, es.map (·.1), rfl, hx, e₅.at t₄, by first | exact bd0 hn (by decide) | exact bd1 hn (by decide) | exact bd2 hn (by assumption) (by decide) | exact bd3 hn (by assumption) (by decide) | decide | lia | omega, e₅.at c₄, by simpa using hne, by simpa using hle, hnok, fun q n₆ H₆ hq hn₆ t₆ e₆ => ?_⟩
    refine fun f H₇ hf h₇ e₇ => ?_
    have x₇ : ExtB t H H₇ := ((x₄.trans (e₅.toB t)).trans e₆).trans (e₇.toB t)
    refine O_addL (e₇.at (e₆.at hdt h₅)) h₇ (by rw [rowsPV_len]; simp; first | lia | omega) fun g H₈ hg h₈ e₈ => ?_
    refine O_fromL (e₈.at (x₇.at hrat ra₀)) fun g' H₉ hg' h₉ e₉ => ?_
    rw [dr1] at h₉
    refine O_addL (e₉.at h₈) h₉ (by rw [List.length_append, rowsPV_len, rowsPV_len]; simp; first | lia | omega) fun w H₁₀ hw h₁₀ e₁₀ => ?_
    have e8 := (e₈.trans e₉).trans e₁₀
    have x₁₀ : ExtB t H H₁₀ := x₇.trans (e8.toB t)
    refine I_neg (by simp; first | lia | omega) ?_
    refine I_neg (by simp; first | lia | omega) ?_
    refine I_neg (by simp; first | lia | omega) ?_
    refine I_neg (by simp; first | lia | omega) ?_
    refine O_storeD (x₁₀.at hpt hp) hle9 fun H₁₁ h₁₁ e₁₁ => ?_
    refine fin i o w (rs.take pl ++ [q] ++ rs.drop (pl + 1)) n₆ H₁₀ H₁₁ hbo (htg _ hqm) ⟨ok_app (ok_app htake (ok_one hq)) (hdrop _), by simp; first | lia | omega, ?_⟩ (by first | decide | lia | omega) (by rw [h₁₀, rowsPV_append, rowsPV_append]; rfl) (e8.at (e₇.at t₆)) x₁₀ h₁₁ e₁₁
    have := one q
    rw [gainL_append, gainL_append]; first | lia | omega
  · refine O_toL ra₄ fun d H₅ hd h₅ e₅ => ?_
    rw [tk1] at h₅
    have hdt : d ≠ t := Ne.symm (ne_of t₄ hd)
    refine U_rawrow ⟨xs, t, c, n + 3, es.map (·.1), rfl, hx, e₅.at t₄, by first | exact bd0 hn (by decide) | exact bd1 hn (by decide) | exact bd2 hn (by assumption) (by decide) | exact bd3 hn (by assumption) (by decide) | decide | lia | omega, e₅.at c₄, by simpa using hne, by simpa using hle, hnok, fun q n₆ H₆ hq hn₆ t₆ e₆ => ?_⟩
    refine fun f H₇ hf h₇ e₇ => ?_
    have x₇ : ExtB t H H₇ := ((x₄.trans (e₅.toB t)).trans e₆).trans (e₇.toB t)
    refine O_addL (e₇.at (e₆.at hdt h₅)) h₇ (by rw [rowsPV_len]; simp; first | lia | omega) fun g H₈ hg h₈ e₈ => ?_
    refine O_fromL (e₈.at (x₇.at hrat ra₀)) fun g' H₉ hg' h₉ e₉ => ?_
    rw [dr0] at h₉
    refine O_addL (e₉.at h₈) h₉ (by rw [List.length_append, rowsPV_len, rowsPV_len]; simp; first | lia | omega) fun w H₁₀ hw h₁₀ e₁₀ => ?_
    have e8 := (e₈.trans e₉).trans e₁₀
    have x₁₀ : ExtB t H H₁₀ := x₇.trans (e8.toB t)
    refine O_storeD (x₁₀.at hpt hp) hle9 fun H₁₁ h₁₁ e₁₁ => ?_
    refine fin i o w (rs.take pl ++ [q] ++ rs.drop pl) n₆ H₁₀ H₁₁ hbo (htg _ hqm) ⟨ok_app (ok_app htake (ok_one hq)) (hdrop _), by simp; first | lia | omega, ?_⟩ (by first | decide | lia | omega) (by rw [h₁₀, rowsPV_append, rowsPV_append]; rfl) (e8.at (e₇.at t₆)) x₁₀ h₁₁ e₁₁
    have := one q
    rw [gainL_append, gainL_append]; first | lia | omega
  · refine O_toL ra₄ fun d H₅ hd h₅ e₅ => ?_
    rw [tk1] at h₅
    refine O_fromL (e₅.at ra₄) fun g' H₉ hg' h₉ e₉ => ?_
    rw [dr1] at h₉
    refine O_addL (e₉.at h₅) h₉ (by rw [rowsPV_len, rowsPV_len]; simp; first | lia | omega) fun w H₁₀ hw h₁₀ e₁₀ => ?_
    have e8 := (e₅.trans e₉).trans e₁₀
    have x₁₀ : ExtB t H H₁₀ := x₄.trans (e8.toB t)
    refine O_storeD (x₁₀.at hpt hp) hle9 fun H₁₁ h₁₁ e₁₁ => ?_
    exact fin i o w (rs.take pl ++ rs.drop (pl + 1)) (n + 3) H₁₀ H₁₁ hbo (htg _ hqm) ⟨ok_app htake (hdrop _), by simp; first | lia | omega, by rw [gainL_append]; first | lia | omega⟩ (by first | decide | lia | omega) (by rw [h₁₀, rowsPV_append]) (e8.at t₄) x₁₀ h₁₁ e₁₁
  · refine U_kindst ⟨xs, t, n + 3, rfl, hx, t₄, by first | exact bd0 hn (by decide) | exact bd1 hn (by decide) | exact bd2 hn (by assumption) (by decide) | exact bd3 hn (by assumption) (by decide) | decide | lia | omega, fun ks n₅ H₅ kl kk hn₅ t₅ e₅ => ?_⟩
    have x₅ := x₄.trans e₅
    refine O_storeD (x₅.at hpt hp) hle9 fun H₁₁ h₁₁ e₁₁ => ?_
    exact fin i ks ra rs n₅ H₅ H₁₁ ⟨hbo.1, kk, hbo.2.2.1, by show ks.length ≤ 100; first | lia | omega⟩ kl ⟨hro, by first | decide | lia | omega, by first | decide | lia | omega⟩ (by first | decide | lia | omega) (x₅.at hrat ra₀) t₅ x₅ h₁₁ e₁₁
  · refine U_kindst ⟨xs, t, n + 3, rfl, hx, t₄, by first | exact bd0 hn (by decide) | exact bd1 hn (by decide) | exact bd2 hn (by assumption) (by decide) | exact bd3 hn (by assumption) (by decide) | decide | lia | omega, fun ks n₅ H₅ kl kk hn₅ t₅ e₅ => ?_⟩
    have x₅ := x₄.trans e₅
    refine O_storeD (x₅.at hpt hp) hle9 fun H₁₁ h₁₁ e₁₁ => ?_
    exact fin ks o ra rs n₅ H₅ H₁₁ ⟨kk, hbo.2.1, by show ks.length ≤ 100; first | lia | omega, hbo.2.2.2⟩ (htg _ hqm) ⟨hro, by first | decide | lia | omega, by first | decide | lia | omega⟩ (by first | decide | lia | omega) (x₅.at hrat ra₀) t₅ x₅ h₁₁ e₁₁
end Mine
end
section
open PySem PySem.W PySem.Calls PyProof.Rows
namespace Mine
set_option autoImplicit false

theorem trPV_len (tr : List (List Str)) : (trPV tr).length = tr.length := by simp [trPV]
theorem tr_get {tr : List (List Str)} {j : Nat} (hj : j < tr.length) : (trPV tr)[j]? = some (.tup (tr[j].map .str)) := by simp [trPV, hj]
theorem tr_last {tr : List (List Str)} {ks : List Str} (h : tr.getLast? = some ks) : itemAt (trPV tr) (-1) = some (.tup (ks.map .str)) := by
  have hne : tr ≠ [] := by rintro rfl; cases h
  have hl : 0 < tr.length := List.length_pos_iff.mpr hne
  rw [List.getLast?_eq_getElem?] at h
  unfold itemAt
  rw [if_neg (by first | decide | lia | omega), if_pos (by rw [trPV_len]; first | lia | omega), trPV_len, show ((-1 : Int) + (tr.length : Int)).toNat = tr.length - 1 by first | decide | lia | omega]
  simp [trPV, h]
theorem blk_rows {es : Pr} {rw' : Str → List Rw} {H : AHeap} {nm : Str} {b : Bl} (h : RowsAt H es rw') (hd : dget es nm = some b) : ∃ a, b.2.2 = [.obj a] ∧ H a = some (.list (rowsPV (rw' nm))) ∧ RsOk (rw' nm) := by
  obtain ⟨ok, a, h1, h2⟩ := h _ (dget_mem hd)
  exact ⟨a, h1, h2, ok⟩
theorem rows_get {rs : List Rw} {j : Nat} (hj : j < rs.length) : (rowsPV rs)[j]? = some (.tup rs[j].row) := by simp [rowsPV, hj]

/-- the trail so far -/
theorem walkS_len (es : Pr) : ∀ (ks : List Str) (rs : List Rw), (walkS es ks rs).1.length ≤ rs.length + 1
  | ks, [] => by simp [walkS]
  | ks, r :: rs => by
    unfold walkS
    cases h : resB es ks r with
    | ok ys => simp only [List.length_cons]; have := walkS_len es ys rs; first | lia | omega
    | error e => simp
theorem walkS_ne (es : Pr) (ks : List Str) (rs : List Rw) : (walkS es ks rs).1 ≠ [] := by
  cases rs with
  | nil => simp [walkS]
  | cons r rs => unfold walkS; cases resB es ks r <;> simp
theorem walkS_bound {es : Pr} (hpo : POk es) : ∀ {ks : List Str} {rs : List Rw}, ∀ x ∈ (walkS es ks rs).1, x.length ≤ ks.length + gainL rs
  | ks, [], x, hx => by simp [walkS] at hx; subst hx; simp [gainL]
  | ks, r :: rs, x, hx => by
    rw [gainL_cons]
    unfold walkS at hx
    cases h : resB es ks r with
    | ok ys =>
      rw [h] at hx
      rcases List.mem_cons.mp hx with rfl | hx
      · first | lia | omega
      · have := walkS_bound hpo x hx
        have := resB_gain hpo h
        first | lia | omega
    | error e => rw [h] at hx; simp at hx; subst hx; first | lia | omega
theorem walkS_ok {es : Pr} {ks ys : List Str} {r : Rw} {rs : List Rw} (h : resB es ks r = .ok ys) : walkS es ks (r :: rs) = (ks :: (walkS es ys rs).1, (walkS es ys rs).2) := by
  show (match resB es ks r with | .ok ys => _ | .error e => _) = _
  rw [h]
theorem walkS_err {es : Pr} {ks : List Str} {r : Rw} {rs : List Rw} {e : Nat} (h : resB es ks r = .error e) : walkS es ks (r :: rs) = ([ks], some e) := by
  show (match resB es ks r with | .ok ys => _ | .error e => _) = _
  rw [h]

set_option maxHeartbeats 1000000 in
theorem walked_ok : Ver spWalked B_law_walked N_law_walked 2 := by
  intro ps H Q X h
  have hL : LIM = 1048576 := rfl
  obtain ⟨p, es, rw', nm, ⟨i, o, zz⟩, rfl, hp, hpo, hra, hd, hQ⟩ := h
  obtain ⟨ra, hz, ra₀, hro, hrl, hrg⟩ := blk_rows hra hd
  replace hz : zz = [.obj ra] := hz
  subst hz
  have hbo : BOk (i, o, [.obj ra]) := hpo.blks _ (dget_mem hd)
  have gb : dget (kvsP es) nm = some (blk (i, o, [.obj ra])) := by rw [dget_blk, hd]; rfl
  have hil : i.length ≤ 100 := hbo.2.2.1
  generalize hrs : rw' nm = rs at hro hrl hrg ra₀ hQ
  dsimp only at hQ
  refine ⟨rfl, ?_⟩
  refine O_subD hp gb ?_
  refine ⟨rfl, ?_⟩
  refine fun c H₁ hc h₁ e₁ => ?_
  refine O_itL (e₁.at ra₀) ?_
  have hcr : ra ≠ c := ne_of ra₀ hc
  have hcp : p ≠ c := ne_of hp hc
  refine forW_ind (fun rest m H' => Ex6 fun (dn us : List Rw) (tr : List (List Str)) (ks : List Str) (x6 : Option PV) (x78 : Option PV × Option PV) => An9 (rs = dn ++ us) (rest = rowsPV us) (m = [some (.obj p), some (.str nm), some (.tup (i.map .str)), some (.tup (o.map .str)), some (.obj ra), some (.obj c), x6, x78.1, x78.2])
    (walkS es i rs = (tr ++ (walkS es ks us).1, (walkS es ks us).2)) (ks.length ≤ 100 + gainL dn) (tr.length ≤ dn.length) (H' c = some (.list (trPV (tr ++ [ks])))) (ExtB c H₁ H') (Ext H H')) ?_ ?_ _ _ _
    ⟨[], rs, [], i, none, (none, none), rfl, rfl, rfl, rfl, by first | decide | lia | omega, by simp, h₁, fun _ _ _ h => h, e₁⟩
  · rintro m H' ⟨dn, us, tr, ks, x6, x78, hs, hr', rfl, hw, hkl, htl, c', x', e'⟩
    have : us = [] := by cases us with | nil => rfl | cons _ _ => cases hr'
    subst this
    rw [show walkS es ks [] = ([ks], none) from rfl] at hw
    refine ⟨x'.at hcr (e₁.at ra₀), ?_⟩
    refine O_subL c' (tr_last (ks := ks) (by simp)) ?_
    refine O_neT (eq_strs ks o) ?_
    have hq := hQ c H' hc (by rw [c', hw]) e'
    unfold walkW at hq
    rw [hw] at hq
    have hgl : ((tr ++ [ks]).getLast? = some o) ↔ ks = o := by simp
    refine O_ite (fun hne => ?_) (fun heq => ?_)
    · have hne' : ¬ ks = o := by simpa using hne
      rw [if_neg (fun h => hne' (hgl.mp h))] at hq
      exact hq
    · have heq' : ks = o := by simpa using heq
      rw [if_pos (hgl.mpr heq')] at hq
      exact hq
  · rintro y ys m H' ⟨dn, us, tr, ks, x6, x78, hs, hr', rfl, hw, hkl, htl, c', x', e'⟩
    cases us with
    | nil => cases hr'
    | cons q us =>
    cases hr'
    refine ⟨x'.at hcr (e₁.at ra₀), fun K hK => ?_⟩
    have hq : q.ok := hro q (by rw [hs]; simp)
    have hgl : gainL dn ≤ 8000 := by
      have := congrArg gainL hs
      rw [gainL_append] at this; first | lia | omega
    have hdl : dn.length ≤ 4000 := by
      have := congrArg List.length hs
      rw [List.length_append] at this; first | lia | omega
    refine O_subL c' (tr_last (ks := ks) (by simp)) ?_
    refine O_listT fun d H₂ hd₂ h₂ e₂ => ?_
    have p₂ := e₂.at (x'.at hcp (e₁.at hp))
    refine U_lnext ⟨p, d, es, ks, q, rfl, p₂, hpo, hq, h₂, by first | decide | lia | omega, ?_⟩
    cases hres : resB es ks q with
    | ok zs =>
      intro f H₃ hf h₃ e₃
      refine ⟨rfl, ?_⟩
      have c₃ := e₃.at (e₂.at c')
      refine O_recv c₃ rfl ?_
      refine O_tupL h₃ ?_
      refine O_append c₃ (by rw [trPV_len]; simp; first | lia | omega) fun H₄ h₄ e₄ => ?_
      rw [walkS_ok hres] at hw
      have hzl := resB_gain hpo hres
      refine hK _ _ ⟨dn ++ [q], us, tr ++ [ks], zs, _, (_, _), by rw [hs]; simp, rfl, rfl, by rw [hw]; simp, by rw [gainL_append, show gainL [q] = q.gain by simp [gainL]]; first | lia | omega, by simp; first | lia | omega, by rw [h₄]; simp [trPV], ?_, ExtB.fresh hc ((e'.trans e₂).trans e₃) e₄⟩
      exact fun x v hx h => e₄.at hx (e₃.at (e₂.at (x'.at hx h)))
    | error e =>
      intro f ks' H₃ hf h₃ hl e₃
      refine ⟨rfl, ?_⟩
      refine I_pos (wordE_ne e) ?_
      rw [walkS_err hres] at hw
      have hq := hQ c H₃ hc (by rw [e₃.at (e₂.at c'), hw]) ((e'.trans e₂).trans e₃)
      unfold walkW at hq
      rw [hw] at hq
      exact hq

noncomputable def prj (x : Str × Bl) : Str × List Str × List Str := (x.1, x.2.1, x.2.2.1)
theorem prj_mem {es fs : Pr} (h : fs.map prj = es.map prj) {q : Str × Bl} (hq : q ∈ fs) : ∃ q' ∈ es, q'.1 = q.1 ∧ q'.2.1 = q.2.1 ∧ q'.2.2.1 = q.2.2.1 := by
  have : prj q ∈ es.map prj := by rw [← h]; exact List.mem_map_of_mem hq
  obtain ⟨q', h1, h2⟩ := List.mem_map.mp this
  unfold prj at h2
  simp only [Prod.mk.injEq] at h2
  exact ⟨q', h1, h2.1, h2.2.1, h2.2.2⟩
theorem prj_fst {es fs : Pr} (h : fs.map prj = es.map prj) : fs.map (·.1) = es.map (·.1) := by
  have := congrArg (List.map (fun x => x.1)) h
  rw [List.map_map, List.map_map] at this; exact this
theorem POk.of_prj {es fs : Pr} (h : fs.map prj = es.map prj) (k : POk es) : POk fs := by
  refine ⟨by rw [prj_fst h]; exact k.nodup, fun q hq => ?_, fun q hq => ?_, by have := congrArg List.length h; simp at this; rw [this]; exact k.len⟩
  · obtain ⟨q', h1, h2, _⟩ := prj_mem h hq
    rw [← h2]; exact k.name q' h1
  · obtain ⟨q', h1, _, h3, h4⟩ := prj_mem h hq
    have := k.blks q' h1
    unfold BOk at this ⊢
    rw [h3, h4] at this; exact this
theorem dset_new {α : Type} {es : List (Str × α)} {k : Str} {v : α} (h : k ∉ es.map (·.1)) : dset es k v = es ++ [(k, v)] := by
  unfold dset
  rw [if_neg]
  intro q
  obtain ⟨p, hp, e⟩ := List.any_eq_true.mp q
  exact h (List.mem_map.mpr ⟨p, hp, by simpa using e⟩)
theorem kvsP_app (a b : Pr) : kvsP (a ++ b) = kvsP a ++ kvsP b := by simp [kvsP]

set_option maxHeartbeats 1000000 in
theorem lcopy_ok : Ver spCopy B_law_copy N_law_copy 1 := by
  intro ps H Q X h
  have hL : LIM = 1048576 := rfl
  obtain ⟨p, es, rw', rfl, hp, hpo, hra, hQ⟩ := h
  have hle := hpo.len
  refine ⟨rfl, ?_⟩
  refine fun q H₁ hq h₁ e₁ => ?_
  refine O_listD (e₁.at hp) fun c H₂ hc h₂ e₂ => ?_
  rw [kvs_names] at h₂
  have hqc : c ≠ q := Ne.symm (ne_of h₁ hc)
  have hpq : p ≠ q := ne_of hp hq
  refine O_itL h₂ ?_
  refine forW_ind (fun rest m H' => Ex4 fun (us vs fs : Pr) (x2 : Option PV) => An8 (es = us ++ vs) (rest = (vs.map (·.1)).map .str) (m = [some (.obj p), some (.obj q), x2]) (fs.map prj = us.map prj) (RowsAt H' fs rw') (H' q = some (.dict (kvsP fs))) (ExtB q H₂ H') (Ext H H')) ?_ ?_ _ _ _
    ⟨[], es, [], none, rfl, rfl, rfl, rfl, fun _ h => (nomatch h), e₂.at h₁, fun _ _ _ h => h, e₁.trans e₂⟩
  · rintro m H' ⟨us, vs, fs, x2, hs, hr', rfl, hf, hra', q', x', e'⟩
    have : vs = [] := by cases vs with | nil => rfl | cons _ _ => cases hr'
    subst this
    rw [List.append_nil] at hs
    subst hs
    exact ⟨x'.at hqc h₂, hQ q fs H' hq q' (hpo.of_prj hf) hra' hf e'⟩
  · rintro y ys m H' ⟨us, vs, fs, x2, hs, hr', rfl, hf, hra', q', x', e'⟩
    cases vs with
    | nil => cases hr'
    | cons b vs =>
    obtain ⟨nm, i, o, zz⟩ := b
    cases hr'
    refine ⟨x'.at hqc h₂, fun K hK => ?_⟩
    have hbm : (nm, i, o, zz) ∈ es := by rw [hs]; simp
    obtain ⟨hrs, ra, hz, ra₀⟩ := hra _ hbm
    replace hz : zz = [.obj ra] := hz
    subst hz
    have gb : dget (kvsP es) nm = some (blk (i, o, [.obj ra])) := by rw [dget_blk, dget_of_mem hpo.nodup hbm]; rfl
    have p' := e'.at hp
    refine O_subD p' gb ?_
    refine O_subD p' gb ?_
    refine O_subD p' gb ?_
    refine O_listL (e'.at ra₀) fun d H₃ hd h₃ e₃ => ?_
    have hul : us.length < 100 := by have := congrArg List.length hs; simp at this; first | lia | omega
    have hfl : fs.length = us.length := by have := congrArg List.length hf; simpa using this
    refine O_storeD (e₃.at q') (by simp [kvsP]; first | lia | omega) fun H₄ h₄ e₄ => ?_
    have hnk : nm ∉ fs.map (·.1) := by
      rw [prj_fst hf]
      have hnd := hpo.nodup
      rw [hs, List.map_append] at hnd
      exact fun hm => (List.nodup_append.mp hnd).2.2 _ hm _ (List.mem_cons_self ..) rfl
    have hdq : d ≠ q := Ne.symm (ne_of q' hd)
    refine hK _ _ ⟨us ++ [(nm, i, o, [.obj ra])], vs, fs ++ [(nm, i, o, [.obj d])], _, by rw [hs]; simp, rfl, rfl, by rw [List.map_append, List.map_append, hf]; rfl, ?_, ?_, ?_, ExtB.fresh hq (e'.trans e₃) e₄⟩
    · intro z hz
      rcases List.mem_append.mp hz with hz | hz
      · exact ((hra'.ext e₃).stepD (e₃.at q') e₄) z hz
      · rw [List.mem_singleton.mp hz]
        exact ⟨hrs, d, rfl, e₄.at hdq h₃⟩
    · rw [h₄]
      have := dset_blk fs nm (i, o, [.obj d])
      rw [dset_new hnk] at this
      exact congrArg some (congrArg AObj.dict this)
    · exact fun x v hx h => e₄.at hx (e₃.at (x'.at hx h))
end Mine
end
section
open PySem PySem.W PySem.Calls PyProof.Rows
namespace Mine
set_option autoImplicit false

theorem walkW_none {es : Pr} {b : Bl} {rs : List Rw} (h : (walkS es b.1 rs).2 = none) : walkW es b rs = if (walkS es b.1 rs).1.getLast? = some b.2.1 then ("" : Str) else ("end" : Str) := by
  unfold walkW; rw [h]
theorem walkW_some {es : Pr} {b : Bl} {rs : List Rw} {e : Nat} (h : (walkS es b.1 rs).2 = some e) : walkW es b rs = wordE e := by
  unfold walkW; rw [h]
theorem walkS_full {es : Pr} : ∀ {ks : List Str} {rs : List Rw}, (walkS es ks rs).2 = none → (walkS es ks rs).1.length = rs.length + 1
  | ks, [], _ => rfl
  | ks, r :: rs, h => by
    cases hr : resB es ks r with
    | error e => rw [walkS_err hr] at h; cases h
    | ok ys =>
      rw [walkS_ok hr] at h ⊢
      simp only [List.length_cons]
      rw [walkS_full h]
theorem wordE_nil (e : Nat) : ¬ wordE e = "" := fun h => by have := wordE_ne e; rw [h] at this; simp at this

set_option maxHeartbeats 1000000 in
theorem looked_ok : Ver spLooked B_looked N_looked 2 := by
  intro ps H Q X h
  have hL : LIM = 1048576 := rfl
  obtain ⟨p, es, rw', nm, ⟨i, o, zz⟩, rfl, hp, hpo, hra, hd, hQ⟩ := h
  obtain ⟨ra, hz, ra₀, hro, hrl, hrg⟩ := blk_rows hra hd
  replace hz : zz = [.obj ra] := hz
  subst hz
  have hbo : BOk (i, o, [.obj ra]) := hpo.blks _ (dget_mem hd)
  have gb : dget (kvsP es) nm = some (blk (i, o, [.obj ra])) := by rw [dget_blk, hd]; rfl
  have hil : i.length ≤ 100 := hbo.2.2.1
  generalize hrs : rw' nm = rs at hro hrl hrg ra₀ hQ
  dsimp only at hQ
  refine ⟨rfl, ?_⟩
  refine O_subD hp gb ?_
  refine fun c H₁ hc h₁ e₁ => ?_
  have hcr : ra ≠ c := ne_of ra₀ hc
  have hcp : p ≠ c := ne_of hp hc
  refine O_lenL (e₁.at ra₀) ?_
  refine O_range (by rw [rowsPV_len]; first | lia | omega) ?_
  refine forR (fun j m H' => Ex4 fun (tr : List (List Str)) (ks : List Str) (x5 x6 : Option PV) => An7 (m = [some (.obj p), some (.str nm), some (blk (i, o, [.obj ra])), some (.obj c), some (.obj ra), x5, x6])
    (walkS es i rs = (tr ++ (walkS es ks (rs.drop j)).1, (walkS es ks (rs.drop j)).2)) (ks.length + gainL (rs.drop j) ≤ 100 + gainL rs) (tr.length = j) (H' c = some (.list (trPV (tr ++ [ks])))) (ExtB c H₁ H') (Ext H H')) ?_ ?_ _ _
    ⟨[], i, none, none, rfl, rfl, by rw [List.drop_zero]; first | lia | omega, rfl, h₁, fun _ _ _ h => h, e₁⟩
  · rintro m H' ⟨tr, ks, x5, x6, rfl, hw, hkl, htl, c', x', e'⟩
    rw [Int.toNat_natCast, rowsPV_len, List.drop_eq_nil_of_le (Nat.le_refl _), show walkS es ks [] = ([ks], none) from rfl] at hw
    rw [Int.toNat_natCast, rowsPV_len] at htl
    refine O_subL c' (tr_last (ks := ks) (by simp)) ?_
    refine O_neT (eq_strs ks o) ?_
    have hq := hQ c H' hc (by rw [c', hw]) e'
    have hwn : walkW es (i, o, [.obj ra]) rs = if ks = o then ("" : Str) else ("end" : Str) := by
      rw [walkW_none (by rw [hw]), hw]; simp
    unfold faultV at hq
    rw [hwn, hw] at hq
    refine O_ite (fun hne => ?_) (fun heq => ?_)
    · have hne' : ¬ ks = o := by simpa using hne
      rw [if_neg hne', if_neg (by decide +kernel)] at hq
      refine O_lenL (x'.at hcr (e₁.at ra₀)) ?_
      have hl : (((tr ++ [ks]).length : Nat) : Int) - 1 = ((rowsPV rs).length : Int) := by rw [rowsPV_len]; simp; first | lia | omega
      simp only [hl] at hq
      exact hq
    · have heq' : ks = o := by simpa using heq
      rw [if_pos heq', if_pos rfl] at hq
      exact hq
  · rintro j m H' hj ⟨tr, ks, x5, x6, rfl, hw, hkl, htl, c', x', e'⟩ K hK
    rw [Int.toNat_natCast, rowsPV_len] at hj
    have hq := hro _ (List.getElem_mem hj)
    rw [List.drop_eq_getElem_cons hj] at hw hkl
    rw [gainL_cons] at hkl
    have p' := x'.at hcp (e₁.at hp)
    refine O_recv c' rfl ?_
    refine O_subL c' (itemAt_nat rfl (by rw [← htl]; simp [trPV] : (trPV (tr ++ [ks]))[j]? = some (.tup (ks.map .str)))) ?_
    refine O_subL (x'.at hcr (e₁.at ra₀)) (itemAt_nat rfl (rows_get hj)) ?_
    refine U_behind ⟨p, es, ks, rs[j], rfl, p', hpo, hq, by first | lia | omega, ?_⟩
    cases hres : resB es ks rs[j] with
    | ok zs =>
      intro H₂ e₂
      refine O_append (e₂.at c') (by rw [trPV_len]; simp; first | lia | omega) fun H₃ h₃ e₃ => ?_
      rw [walkS_ok hres] at hw
      have hzl := resB_gain hpo hres
      exact hK _ _ ⟨tr ++ [ks], zs, _, _, rfl, by rw [hw]; simp, by first | lia | omega, by simp [htl], by rw [h₃]; simp [trPV], fun x v hx h => e₃.at hx (e₂.at (x'.at hx h)), ExtB.fresh hc (e'.trans e₂) e₃⟩
    | error e =>
      intro H₂ e₂
      rw [walkS_err hres] at hw
      have hq := hQ c H₂ hc (by rw [e₂.at c', hw]) (e'.trans e₂)
      unfold faultV at hq
      rw [walkW_some (e := e) (by rw [hw]), hw, if_neg (wordE_nil e)] at hq
      have hl : (((tr ++ [ks]).length : Nat) : Int) - 1 = (j : Int) := by simp [htl]
      simp only [hl] at hq
      rcases resB_err hres with rfl | rfl | rfl | rfl <;> exact hq
theorem fault_ok : Ver spFault B_fault N_fault 2 := by
  intro ps H Q X h
  obtain ⟨p, es, rw', nm, b, rfl, hp, hpo, hra, hd, hQ⟩ := h
  refine ⟨rfl, ?_⟩
  exact U_looked ⟨p, es, rw', nm, b, rfl, hp, hpo, hra, hd, fun c H' hc h' e' => hQ H' e'⟩
end Mine
end
section
open PySem PySem.W PySem.Calls PyProof.Rows
namespace Mine
set_option autoImplicit false

theorem names_app (a b : List Rw) : namesOf (a ++ b) = namesOf a ++ namesOf b := by simp [namesOf]
theorem nmsOf_len : ∀ rs : List Rw, (namesOf rs).length ≤ 2 * rs.length
  | [] => by simp [namesOf]
  | r :: rs => by
    have ih := nmsOf_len rs
    have h1 : (r.names).length ≤ 2 := by cases r <;> simp [Rw.names]
    rw [show namesOf (r :: rs) = r.names ++ namesOf rs by simp [namesOf]]
    simp; omega
theorem wd_plain (w : W) : itemAt w.row 0 = some (.str (wd w)) ∧ (wd w == ("call" : Str)) = false ∧ (wd w == ("if" : Str)) = false := by
  cases w <;> exact ⟨rfl, by kernel_rfl, by kernel_rfl⟩
set_option maxHeartbeats 1000000 in
theorem named_ok : Ver spNamed B_named N_named 1 := by
  intro ps H Q X h
  have hL : LIM = 1048576 := rfl
  obtain ⟨a, rs, rfl, ha, hrl, hro, hQ⟩ := h
  refine ⟨rfl, ?_⟩
  refine fun c H₁ hc h₁ e₁ => ?_
  have hac : a ≠ c := ne_of ha hc
  refine O_itL (e₁.at ha) ?_
  refine forW_ind (fun rest m H' => Ex3 fun (us vs : List Rw) (x2 : Option PV) => An6 (rs = us ++ vs) (rest = rowsPV vs) (m = [some (.obj a), some (.obj c), x2]) (H' c = some (.list ((namesOf us).map .str))) (ExtB c H₁ H') (Ext H H')) ?_ ?_ _ _ _ ⟨[], rs, none, rfl, rfl, rfl, h₁, fun _ _ _ h => h, e₁⟩
  · rintro m H' ⟨us, vs, x2, hs, hr', rfl, c', x', e'⟩
    have : vs = [] := by cases vs with | nil => rfl | cons _ _ => cases hr'
    subst this
    rw [List.append_nil] at hs
    subst hs
    exact ⟨x'.at hac (e₁.at ha), hQ c H' hc c' e'⟩
  · rintro y ys m H' ⟨us, vs, x2, hs, hr', rfl, c', x', e'⟩
    cases vs with
    | nil => cases hr'
    | cons r vs =>
    cases hr'
    refine ⟨x'.at hac (e₁.at ha), fun K hK => ?_⟩
    have hul : us.length ≤ 4000 := by have := congrArg List.length hs; simp at this; first | lia | omega
    have hnl := nmsOf_len us
    have fin : ∀ H'', H'' c = some (.list ((namesOf (us ++ [r])).map .str)) → ExtB c H' H'' → K [some (.obj a), some (.obj c), some (.tup r.row)] H'' := fun H'' h'' e'' =>
      hK _ _ ⟨us ++ [r], vs, _, by rw [hs]; simp, rfl, rfl, h'', fun x v hx h => e''.at hx (x'.at hx h), ExtB.fresh hc e' e''⟩
    have hlt : ((namesOf us).map PV.str).length < LIM := by simp; first | lia | omega
    cases r with
    | call n =>
      refine O_recv c' rfl ?_
      refine O_append c' hlt fun H₂ h₂ e₂ => ?_
      exact fin H₂ (by rw [h₂, names_app]; simp [namesOf, Rw.names]) e₂
    | iff n m =>
      refine O_recv c' rfl ?_
      refine O_append c' hlt fun H₂ h₂ e₂ => ?_
      refine O_recv h₂ rfl ?_
      refine O_append h₂ (by simp; first | lia | omega) fun H₃ h₃ e₃ => ?_
      exact fin H₃ (by rw [h₃, names_app]; simp [namesOf, Rw.names]) (fun x v hx h => e₃.at hx (e₂.at hx h))
    | pl w =>
      obtain ⟨g0, n1, n2⟩ := wd_plain w
      refine O_subT g0 ?_
      refine I_neg (by rw [n1]; decide) ?_
      refine O_subT g0 ?_
      refine I_neg (by rw [n2]; decide) ?_
      exact fin H' (by rw [c', names_app]; simp [namesOf, Rw.names]) fun _ _ _ h => h
theorem nodup_sub_len : ∀ {l m : List Str}, l.Nodup → (∀ x ∈ l, x ∈ m) → l.length ≤ m.length
  | [], m, _, _ => Nat.zero_le _
  | a :: l, m, hn, hs => by
    rw [List.nodup_cons] at hn
    have ha := hs a (List.mem_cons_self ..)
    have ih := nodup_sub_len (l := l) (m := m.erase a) hn.2 fun x hx => by
      refine (List.mem_erase_of_ne ?_).mpr (hs x (List.mem_cons_of_mem _ hx))
      rintro rfl; exact hn.1 hx
    have := List.length_erase_of_mem ha
    have : 0 < m.length := List.length_pos_of_mem ha
    simp only [List.length_cons]
    omega
theorem keys_len {es : Pr} {ns : List Str} (hn : ns.Nodup) (h : ∀ s ∈ ns, (dget es s).isSome = true) : ns.length ≤ es.length := by
  have := nodup_sub_len (l := ns) (m := es.map (·.1)) hn fun s hs => by
    obtain ⟨b, hb⟩ := Option.isSome_iff_exists.mp (h s hs)
    exact List.mem_map.mpr ⟨_, dget_mem hb, rfl⟩
  simpa using this
set_option maxHeartbeats 1000000 in
theorem cometo_ok : Ver spComeTo B_come_to N_come_to 2 := by
  intro ps H Q X h
  have hL : LIM = 1048576 := rfl
  obtain ⟨p, es, rw', nm, rfl, hp, hpo, hra, hS, hcl, hQ⟩ := h
  have hle := hpo.len
  refine ⟨rfl, ?_⟩
  refine fun c H₁ hc h₁ e₁ => ?_
  have hpc : p ≠ c := ne_of hp hc
  refine ⟨fun z m H' => Ex3 fun (j : Nat) (ns : List Str) (x4 : Option PV) => An8 (z = 200 - j) (m = [some (.obj p), some (.str nm), some (.obj c), some (.int j), x4]) (j ≤ ns.length) (ns.Nodup) (∀ s ∈ ns, (dget es s).isSome = true) (H' c = some (.list (ns.map .str))) (ExtB c H₁ H') (Ext H H'), ⟨_, 0, [nm], none, rfl, rfl, by simp, by simp, by simpa using hS, h₁, fun _ _ _ h => h, e₁⟩, ?_⟩
  rintro z m H' ⟨j, ns, x4, rfl, rfl, hj, hnd, hns, c', x', e'⟩
  have hnl := keys_len hnd hns
  refine O_lenL c' ?_
  refine O_ite (fun hlt => ?_) (fun _ => ?_)
  · have hlt' : j < ns.length := by simp at hlt; first | lia | omega
    refine O_subL c' (get_str hlt') ?_
    have p' := e'.at hp
    refine O_inD p' ?_
    rw [hasKey_blk, hns _ (List.getElem_mem hlt')]
    refine O_subL c' (get_str hlt') ?_
    obtain ⟨⟨i, o, zz⟩, hb⟩ := Option.isSome_iff_exists.mp (hns _ (List.getElem_mem hlt'))
    obtain ⟨ra, hz, ra₀, hro, hrl, hrg⟩ := blk_rows hra hb
    replace hz : zz = [.obj ra] := hz
    subst hz
    have gb : dget (kvsP es) ns[j] = some (blk (i, o, [.obj ra])) := by rw [dget_blk, hb]; rfl
    refine O_subD p' gb ?_
    refine U_named ⟨ra, rw' ns[j], rfl, e'.at ra₀, hrl, hro, fun d H₂ hd h₂ e₂ => ?_⟩
    have hdc : d ≠ c := Ne.symm (ne_of c' hd)
    refine O_itL h₂ ?_
    refine forW_ind (fun rest m Hx => Ex4 fun (us vs ms : List Str) (x4 : Option PV) => An9 (namesOf (rw' ns[j]) = us ++ vs) (rest = vs.map .str) (m = [some (.obj p), some (.str nm), some (.obj c), some (.int j), x4]) (ns.length ≤ ms.length) (ms.Nodup) (∀ s ∈ ms, (dget es s).isSome = true) (Hx c = some (.list (ms.map .str))) (ExtB c H₂ Hx) (Ext H Hx)) ?_ ?_ _ _ _
      ⟨[], _, ns, x4, rfl, rfl, rfl, Nat.le_refl _, hnd, hns, e₂.at c', fun _ _ _ h => h, e'.trans e₂⟩
    · rintro m Hx ⟨us, vs, ms, x4, hs, hr', rfl, hml, hmd, hms, c₃, x₃, e₃⟩
      refine ⟨x₃.at hdc h₂, ?_⟩
      exact ⟨200 - (j + 1), by first | lia | omega, j + 1, ms, _, rfl, rfl, by first | lia | omega, hmd, hms, c₃, fun x v hx h => x₃.at hx (e₂.at (x'.at hx h)), e₃⟩
    · rintro y ys m Hx ⟨us, vs, ms, x4, hs, hr', rfl, hml, hmd, hms, c₃, x₃, e₃⟩
      cases vs with
      | nil => cases hr'
      | cons s vs =>
      cases hr'
      refine ⟨x₃.at hdc h₂, fun K hK => ?_⟩
      have hml2 := keys_len hmd hms
      have hss : (dget es s).isSome = true := hcl _ (dget_mem hb) s (by rw [show rw' (ns[j], (i, o, [PV.obj ra])).1 = rw' ns[j] from rfl, hs]; simp)
      refine CmpW.niL c₃ ?_
      refine O_ite (fun hnot => ?_) (fun _ => ?_)
      · have hnot' : s ∉ ms := by simpa using hnot
        refine O_recv c₃ rfl ?_
        refine O_append c₃ (by simp; first | lia | omega) fun H₄ h₄ e₄ => ?_
        exact hK _ _ ⟨us ++ [s], vs, ms ++ [s], _, by rw [hs]; simp, rfl, rfl, by simp; first | lia | omega, List.nodup_append.mpr ⟨hmd, by simp, fun a ha b hb => by rw [List.mem_singleton.mp hb]; rintro rfl; exact hnot' ha⟩, fun x hx => (List.mem_append.mp hx).elim (hms x) fun h => by rw [List.mem_singleton.mp h]; exact hss, by rw [h₄]; simp, fun x v hx h => e₄.at hx (x₃.at hx h), ExtB.fresh hc e₃ e₄⟩
      · exact hK _ _ ⟨us ++ [s], vs, ms, _, by rw [hs]; simp, rfl, rfl, hml, hmd, hms, c₃, x₃, e₃⟩
  · exact hQ c ns H' hc c' hns (by first | lia | omega) e'
theorem run_closed {es : Pr} : ∀ {ks ys : List Str} {rs : List Rw}, runK es ks rs = some ys → ∀ s ∈ namesOf rs, (dget es s).isSome = true
  | ks, ys, [], _, s, hs => by simp [namesOf] at hs
  | ks, ys, r :: rs, h, s, hs => by
    obtain ⟨zs, hz, _⟩ := runK_inv (by rw [h]; rfl : (runK es ks (r :: rs)).isSome = true)
    rw [runK_ok hz] at h
    rw [show namesOf (r :: rs) = r.names ++ namesOf rs by simp [namesOf]] at hs
    rcases List.mem_append.mp hs with hs | hs
    · have ck : ∀ {ks n ys}, callK es ks n = .ok ys → (dget es n).isSome = true := fun {ks n ys} h => by
        unfold callK at h
        cases hd : dget es n with
        | none => rw [hd] at h; cases h
        | some b => rfl
      cases r with
      | pl w => simp [Rw.names] at hs
      | call n => simp [Rw.names] at hs; subst hs; exact ck hz
      | iff n m =>
        simp only [resB] at hz
        cases ht : takeK ks ["num"] with
        | error e => rw [ht] at hz; cases hz
        | ok l =>
          rw [ht] at hz
          simp only at hz
          cases hn : dget es n with
          | none => rw [hn] at hz; cases hz
          | some a =>
            cases hm : dget es m with
            | none => rw [hn, hm] at hz; cases hz
            | some b =>
              simp [Rw.names] at hs
              rcases hs with rfl | rfl
              · rw [hn]; rfl
              · rw [hm]; rfl
    · exact run_closed h s hs
theorem run_walk {es : Pr} : ∀ {ks ys : List Str} {rs : List Rw}, runK es ks rs = some ys → (walkS es ks rs).2 = none ∧ (walkS es ks rs).1.getLast? = some ys
  | ks, ys, [], h => by cases h; exact ⟨rfl, rfl⟩
  | ks, ys, r :: rs, h => by
    obtain ⟨zs, hz, _⟩ := runK_inv (by rw [h]; rfl : (runK es ks (r :: rs)).isSome = true)
    rw [runK_ok hz] at h
    have ih := run_walk h
    rw [walkS_ok hz]
    refine ⟨ih.1, ?_⟩
    rw [List.getLast?_cons, ih.2]; rfl
theorem run_word {es : Pr} {b : Bl} {rs : List Rw} (h : runK es b.1 rs = some b.2.1) : walkW es b rs = "" := by
  obtain ⟨h1, h2⟩ := run_walk h
  rw [walkW_none h1, if_pos h2]
theorem letby_ok : Ver spLetBy B_let_by N_let_by 2 := by
  intro ps H Q X h
  obtain ⟨p, es, rw', nm, rfl, hp, hpo, hra, hS, hgood, hQ⟩ := h
  refine ⟨rfl, ?_⟩
  refine U_cometo ⟨p, es, rw', nm, rfl, hp, hpo, hra, hS, fun q hq s hs => run_closed (hgood q hq) s hs, fun c ns H₁ hc h₁ hns hnl e₁ => ?_⟩
  refine O_itL h₁ ?_
  refine forW_ind (fun rest m H' => Ex3 fun (us vs : List Str) (x2 : Option PV) => An4 (ns = us ++ vs) (rest = vs.map .str) (m = [some (.obj p), some (.str nm), x2]) (Ext H₁ H')) ?_ ?_ _ _ _ ⟨[], ns, none, rfl, rfl, rfl, Ext.refl _⟩
  · rintro m H' ⟨us, vs, x2, hs, hr', rfl, e'⟩
    exact ⟨e'.at h₁, hQ H' (e₁.trans e')⟩
  · rintro y ys m H' ⟨us, vs, x2, hs, hr', rfl, e'⟩
    cases vs with
    | nil => cases hr'
    | cons s vs =>
    cases hr'
    refine ⟨e'.at h₁, fun K hK => ?_⟩
    have hsS := hns s (by rw [hs]; simp)
    obtain ⟨b, hb⟩ := Option.isSome_iff_exists.mp hsS
    have p' := (e₁.trans e').at hp
    refine O_niD p' ?_
    rw [hasKey_blk, hsS]
    refine U_fault ⟨p, es, rw', s, b, rfl, p', hpo, hra.ext (e₁.trans e'), hb, fun H₂ e₂ => ?_⟩
    rw [show faultV es b (rw' s) = .none by unfold faultV; rw [if_pos (run_word (hgood _ (dget_mem hb)))]]
    exact hK _ _ ⟨us ++ [s], vs, _, by rw [hs]; simp, rfl, rfl, e'.trans e₂⟩
end Mine
end
section
open PySem PySem.W PySem.Calls PyProof.Rows
namespace Mine
set_option autoImplicit false

theorem walkS_congr {es fs : Pr} (h : ∀ n, (dget es n).map (fun b => (b.1, b.2.1)) = (dget fs n).map (fun b => (b.1, b.2.1))) : ∀ (ks : List Str) (rs : List Rw), walkS es ks rs = walkS fs ks rs
  | ks, [] => rfl
  | ks, r :: rs => by
    have hr := resB_congr h ks r
    cases hc : resB fs ks r with
    | ok ys => rw [hc] at hr; rw [walkS_ok hr, walkS_ok hc, walkS_congr h ys rs]
    | error e => rw [hc] at hr; rw [walkS_err hr, walkS_err hc]
theorem prj_dget {es fs : Pr} (hf : fs.map prj = es.map prj) (hn : (es.map (·.1)).Nodup) (n : Str) : (dget es n).map (fun b => (b.1, b.2.1)) = (dget fs n).map (fun b => (b.1, b.2.1)) := by
  have hfn : (fs.map (·.1)).Nodup := by rw [prj_fst hf]; exact hn
  cases hfd : dget fs n with
  | some b =>
    obtain ⟨q', h1, h2, h3, h4⟩ := prj_mem hf (dget_mem hfd)
    have := dget_of_mem hn h1
    rw [show q'.1 = n from h2] at this
    rw [this]
    simp only [Option.map_some]
    rw [h3, h4]
  | none =>
    cases hed : dget es n with
    | none => rfl
    | some b =>
      obtain ⟨q', h1, h2, _⟩ := prj_mem hf.symm (dget_mem hed)
      have := dget_of_mem hfn h1
      rw [show q'.1 = n from h2, hfd] at this
      cases this
theorem atoms_same {H : AHeap} {n : Nat} : ∀ {l : List PV}, (∀ v ∈ l, (∃ s, v = .str s) ∨ ∃ i, v = .int i) → EqL H n l l true
  | [], _ => .nil
  | v :: l, h => by
    have r := atoms_same (H := H) (n := n) (l := l) fun x hx => h x (List.mem_cons_of_mem _ hx)
    rcases h v (List.mem_cons_self ..) with ⟨s, rfl⟩ | ⟨i, rfl⟩
    · have := EqL.c (EqV.str (n := n) s s) r; simpa using this
    · have := EqL.c (EqV.int (n := n) i i) r; simpa using this
noncomputable def told (q : Str × Bl) : Str × Bl := (q.1, q.2.1, q.2.2.1, [])
theorem told_fst (es : Pr) : (es.map told).map (·.1) = es.map (·.1) := by rw [List.map_map]; rfl
theorem told_prj (es : Pr) : (es.map told).map prj = es.map prj := by rw [List.map_map]; rfl
theorem dset_fst_in {α : Type} {es : List (Str × α)} {k : Str} {v : α} (h : k ∈ es.map (·.1)) : (dset es k v).map (·.1) = es.map (·.1) := by
  obtain ⟨q, hq, e⟩ := List.mem_map.mp h
  unfold dset
  rw [if_pos (List.any_eq_true.mpr ⟨q, hq, by simpa using e⟩), List.map_map]
  refine List.map_congr_left fun x _ => ?_
  dsimp only [Function.comp]
  split <;> rfl
theorem faultV_congr {es fs : Pr} (h : ∀ n, (dget es n).map (fun b => (b.1, b.2.1)) = (dget fs n).map (fun b => (b.1, b.2.1))) (i o : List Str) (z z' : List PV) (rs : List Rw) : faultV fs (i, o, z') rs = faultV es (i, o, z) rs := by
  have hw : walkW fs (i, o, z') rs = walkW es (i, o, z) rs := by
    unfold walkW
    dsimp only
    rw [walkS_congr h]
  unfold faultV
  rw [hw]
  dsimp only
  rw [walkS_congr h]
set_option maxRecDepth 10000 in
set_option maxHeartbeats 2000000 in
theorem law_ok : Ver spLaw B_law N_law 1 := by
  intro ps H Q X h
  have hL : LIM = 1048576 := rfl
  have hB1 : (2 : Nat) ^ 52 = 4503599627370496 := by decide
  have hB2 : (2 : Nat) ^ 59 = 576460752303423488 := by decide
  obtain ⟨xs, rfl, hx, hQ⟩ := h
  refine ⟨rfl, ?_⟩
  refine fun t H₁ ht h₁ e₁ => ?_
  refine U_draw ⟨xs, t, _, 0, rfl, hx, h₁, by decide, by decide, fun way H₂ w0 w1 t₂ e₂ => ?_⟩
  refine U_draw ⟨xs, t, _, 1, rfl, hx, t₂, by decide, by decide, fun anew H₃ a0 a1 t₃ e₃ => ?_⟩
  refine U_goodprogram ⟨xs, t, 2, rfl, hx, t₃, by decide, fun p es₀ rw₀ n₃ H₃ hpo₀ hne₀ hp₀ p₃ hra₀ hrun₀ htg₀ hn₃ t₃ e₃ => ?_⟩
  refine W_cut (fun m H' => Ex3 fun (es : Pr) (rw' : Str → List Rw) (n : Nat) => An8 (m = [some (.fls xs), some (.obj t), some (.int way), some (.int anew), some (.obj p), none, none, none, none, none, none, none, none]) (POk es) (es ≠ []) (RowsAt H' es rw') (4 < way → ∀ q ∈ es, runK es q.2.1 (rw' q.1) = some q.2.2.1) (n ≤ 2000000) (H' t = some (.tape n)) (H' p = some (.dict (kvsP es)))) ?_ ?_
  · intro K hK
    refine O_ite (fun hlt => ?_) (fun _ => ?_)
    · refine U_spoilt ⟨xs, t, p, n₃, es₀, rw₀, rfl, hx, t₃, Nat.lt_of_le_of_lt hn₃ (by decide), p₃, hpo₀, hne₀, hra₀, htg₀, fun es' rw' nm n' H' h1 h2 h3 h4 h5 h6 h7 h8 => ?_⟩
      exact hK _ _ ⟨es', rw', n', rfl, h1, h2, h7, fun h => absurd h (by simp at hlt; first | lia | omega), by first | lia | omega, h5, h6⟩
    · exact hK _ _ ⟨es₀, rw₀, n₃, rfl, hpo₀, hne₀, hra₀.weak, fun _ => hrun₀, by first | lia | omega, t₃, p₃⟩
  clear e₃ t₃ hn₃ htg₀ hrun₀ hra₀ p₃ hp₀ hne₀ hpo₀ e₂ t₂ h₁ e₁ n₃
  rintro m H₁ ⟨es, rw', n, rfl, hpo, hne, hra, hrun, hn, t₁, p₁⟩
  have hle := hpo.len
  have hlp : 0 < es.length := List.length_pos_iff.mpr hne
  have hpt : p ≠ t := fun e => by rw [e, t₁] at p₁; cases p₁
  refine O_listD p₁ fun c H₂ hc h₂ e₂ => ?_
  rw [kvs_names] at h₂
  have hct : c ≠ t := Ne.symm (ne_of t₁ hc)
  refine U_draw ⟨xs, t, _, n, rfl, hx, e₂.at t₁, by first | lia | omega, by decide, fun r H₃ r0 r1 t₃ e₃ => ?_⟩
  have c₃ := e₃.at hct h₂
  have hlz : (0 : Int) < ((es.map (·.1)).map PV.str).length := by simp; first | lia | omega
  refine O_lenL c₃ ?_
  refine O_modI hlz ?_
  have hm := mod_lt (a := r) hlz
  obtain ⟨nm, hnm, gnm⟩ := names_at (ns := es.map (·.1)) (r := r % (((es.map (·.1)).map PV.str).length : Int)) hm.1 (by have := hm.2; simpa using this)
  refine O_subL c₃ gnm ?_
  obtain ⟨⟨nm', i, o, zz⟩, hqm, hqe⟩ := List.mem_map.mp hnm
  replace hqe : nm' = nm := hqe
  subst hqe
  have hb : dget es nm' = some (i, o, zz) := dget_of_mem hpo.nodup hqm
  have hbo : BOk (i, o, zz) := hpo.blks _ hqm
  have p₃ := e₃.at hpt (e₂.at p₁)
  have ra₃ : RowsAt H₃ es rw' := (hra.ext e₂).step (e₂.at t₁) e₃
  clear e₂ e₃ h₂ hra t₁ p₁ hc
  refine U_lcopy ⟨p, es, rw', rfl, p₃, hpo, ra₃, fun q fs H₄ hq q₄ hfo hfr hff e₄ => ?_⟩
  replace hff : fs.map prj = es.map prj := hff
  have hqt : q ≠ t := Ne.symm (ne_of t₃ hq)
  have hpq : p ≠ q := ne_of p₃ hq
  refine fun d H₅ hd h₅ e₅ => ?_
  have p₅ := e₅.at (e₄.at p₃)
  have c₅ := e₅.at (e₄.at c₃)
  have t₅ := e₅.at (e₄.at t₃)
  have q₅ := e₅.at q₄
  have ra₅ : RowsAt H₅ es rw' := (ra₃.ext e₄).ext e₅
  have rf₅ : RowsAt H₅ fs rw' := hfr.ext e₅
  have hdc : c ≠ d := ne_of (e₄.at c₃) hd
  have hdt : t ≠ d := ne_of (e₄.at t₃) hd
  have hdp : p ≠ d := ne_of (e₄.at p₃) hd
  have hdq : q ≠ d := ne_of q₄ hd
  refine O_itL c₅ ?_
  refine forW_ind (fun rest m H' => Ex3 fun (us vs : Pr) (x : Option PV) => An5 (es = us ++ vs) (rest = (vs.map (·.1)).map .str) (m = [some (.fls xs), some (.obj t), some (.int way), some (.int anew), some (.obj p), some (.obj c), some (.str nm'), some (.obj q), some (.obj d), x, none, none, none]) (H' d = some (.dict (kvsP (us.map told)))) (ExtB d H₅ H')) ?_ ?_ _ _ _ ⟨[], es, none, rfl, rfl, rfl, h₅, fun _ _ _ h => h⟩
  rotate_left
  · rintro y ys m H' ⟨us, vs, x, hs, hr', rfl, d', x'⟩
    cases vs with
    | nil => cases hr'
    | cons b vs =>
    obtain ⟨n1, i1, o1, z1⟩ := b
    cases hr'
    refine ⟨x'.at hdc c₅, fun K hK => ?_⟩
    have hbm : (n1, i1, o1, z1) ∈ es := by rw [hs]; simp
    have gb : dget (kvsP es) n1 = some (blk (i1, o1, z1)) := by rw [dget_blk, dget_of_mem hpo.nodup hbm]; rfl
    refine O_subD (x'.at hdp p₅) gb ?_
    refine O_subD (x'.at hdp p₅) gb ?_
    have hul : us.length < 100 := by have := congrArg List.length hs; simp at this; first | lia | omega
    refine O_storeD d' (by simp [kvsP]; first | lia | omega) fun H₄ h₄ e₄ => ?_
    have hnk : n1 ∉ (us.map told).map (·.1) := by
      rw [told_fst]
      have hnd := hpo.nodup
      rw [hs, List.map_append] at hnd
      exact fun hm => (List.nodup_append.mp hnd).2.2 _ hm _ (List.mem_cons_self ..) rfl
    refine hK _ _ ⟨us ++ [(n1, i1, o1, z1)], vs, _, by rw [hs]; simp, rfl, rfl, ?_, fun x v hx h => e₄.at hx (x'.at hx h)⟩
    rw [h₄]
    have := dset_blk (us.map told) n1 (i1, o1, [])
    rw [dset_new hnk] at this
    rw [List.map_append]
    exact congrArg some (congrArg AObj.dict this)
  rintro m H₆ ⟨us, vs, x, hs, hr', rfl, d₆, x₆⟩
  have : vs = [] := by cases vs with | nil => rfl | cons _ _ => cases hr'
  subst this
  rw [List.append_nil] at hs
  subst hs
  have c₆ := x₆.at hdc c₅
  have p₆ := x₆.at hdp p₅
  have t₆ := x₆.at hdt t₅
  have q₆ := x₆.at hdq q₅
  have ra₆ : RowsAt H₆ es rw' := ra₅.stepD h₅ x₆
  have rf₆ : RowsAt H₆ fs rw' := rf₅.stepD h₅ x₆
  refine ⟨c₆, ?_⟩
  have cong0 := prj_dget hff hpo.nodup
  have congT := prj_dget (told_prj es) hpo.nodup
  refine fun r0a H₇ hr0 h₇ e₇ => ?_
  refine W_cut (fun m H' => Ex2 fun (ra : Addr) (rs : List Rw) => An9 (m = [some (.fls xs), some (.obj t), some (.int way), some (.int anew), some (.obj p), some (.obj c), some (.str nm'), some (.obj q), some (.obj d), x, some (.obj ra), none, none]) (RsOk rs) (0 < anew → runK es i rs = some o) (H' ra = some (.list (rowsPV rs))) (H' c = some (.list ((es.map (·.1)).map .str))) (H' p = some (.dict (kvsP es))) (H' q = some (.dict (kvsP fs))) (RowsAt H' es rw') (RowsAt H' fs rw')) ?_ ?_
  · intro K hK
    refine O_ite (fun _ => ?_) (fun hle0 => ?_)
    · have ndT : NamesAt H₇ c (es.map told) (es.map (·.1)) := ⟨e₇.at c₆, fun s hs => by
        obtain ⟨z, hz, rfl⟩ := List.mem_map.mp hs
        have := congT z.1
        rw [dget_of_mem hpo.nodup hz] at this
        cases hg : dget (es.map told) z.1 with
        | none => rw [hg] at this; cases this
        | some _ => rfl, by simpa using hle⟩
      have hgT : dget (es.map told) nm' = some (i, o, []) := dget_of_mem (by rw [told_fst]; exact hpo.nodup) (List.mem_map.mpr ⟨_, hqm, rfl⟩)
      refine U_goodrows ⟨xs, t, d, c, n + 1, es.map told, es.map (·.1), nm', rfl, hx, e₇.at t₆, by first | lia | omega, e₇.at d₆, hpo.of_prj (told_prj es), fun z hz => by obtain ⟨y, _, rfl⟩ := List.mem_map.mp hz; rfl, ndT, by rw [hgT]; rfl, fun ra rs n' H₈ hsm hrn hn' hra8 h₈ t₈ x₈ => ?_⟩
      have hct : c ≠ t := fun e => by rw [e, t₆] at c₆; cases c₆
      exact hK _ _ ⟨ra, rs, rfl, hsm.ok, fun _ => by rw [runK_congr congT]; exact hrn _ _ _ hgT, h₈, x₈.at hct (e₇.at c₆), x₈.at hpt (e₇.at p₆), x₈.at hqt (e₇.at q₆), (ra₆.ext e₇).step (e₇.at t₆) x₈, (rf₆.ext e₇).step (e₇.at t₆) x₈⟩
    · exact hK _ _ ⟨r0a, [], rfl, ⟨fun _ h => (nomatch h), by decide, by decide⟩, fun h => absurd h (by simpa using hle0), h₇, e₇.at c₆, e₇.at p₆, e₇.at q₆, ra₆.ext e₇, rf₆.ext e₇⟩
  clear e₇ h₇ hr0 rf₆ ra₆ q₆ t₆ p₆ c₆ x₆ d₆ rf₅ ra₅ q₅ t₅ c₅ p₅ e₅ h₅ hd e₄ hfr q₄ hq ra₃ p₃ c₃ t₃
  rintro m H₁ ⟨ra, rs, rfl, hrs, hrr, r₁, c₁, p₁, q₁, ra₁, rf₁⟩
  have gb : dget (kvsP es) nm' = some (blk (i, o, zz)) := by rw [dget_blk, hb]; rfl
  refine O_subD p₁ gb ?_
  refine O_subD p₁ gb ?_
  have hcq : c ≠ q := fun e => by rw [e, q₁] at c₁; cases c₁
  have hrq : ra ≠ q := fun e => by rw [e, q₁] at r₁; cases r₁
  have hfl : fs.length = es.length := by have := congrArg List.length hff; simpa using this
  have hnf : nm' ∈ fs.map (·.1) := by rw [prj_fst hff]; exact hnm
  refine O_storeD q₁ (by simp [kvsP]; first | lia | omega) fun H₂ h₂ e₂ => ?_
  replace h₂ : H₂ q = some (.dict (kvsP (dset fs nm' (i, o, [.obj ra])))) := by rw [h₂]; exact congrArg some (congrArg AObj.dict (dset_blk fs nm' (i, o, [.obj ra])))
  have hgo : POk (dset fs nm' (i, o, [.obj ra])) := hfo.dsetI hnf hbo
  have rg₂ : RowsAt H₂ (dset fs nm' (i, o, [.obj ra])) (fun s => if s = nm' then rs else rw' s) := (rf₁.stepD q₁ e₂).put hrs (e₂.at hrq r₁) hfo.nodup
  have ra₂ : RowsAt H₂ es rw' := ra₁.stepD q₁ e₂
  have c₂ := e₂.at hcq c₁
  have p₂ := e₂.at hpq p₁
  have cong : ∀ n, (dget es n).map (fun b => (b.1, b.2.1)) = (dget (dset fs nm' (i, o, [.obj ra])) n).map (fun b => (b.1, b.2.1)) := fun n => by
    rw [dget_dset]
    by_cases e : n = nm'
    · rw [if_pos e, e, hb]; rfl
    · rw [if_neg e]; exact cong0 n
  have hgf : (dset fs nm' (i, o, [.obj ra])).map (·.1) = es.map (·.1) := by rw [dset_fst_in hnf, prj_fst hff]
  have hgood : 4 < way → 0 < anew → ∀ z ∈ dset fs nm' (i, o, [.obj ra]), runK (dset fs nm' (i, o, [.obj ra])) z.2.1 ((fun s => if s = nm' then rs else rw' s) z.1) = some z.2.2.1 := fun h4 h0 z hz => by
    rw [← runK_congr cong]
    have hd := dget_of_mem hgo.nodup hz
    rw [dget_dset] at hd
    by_cases e : z.1 = nm'
    · rw [if_pos e] at hd
      have : z.2 = (i, o, [.obj ra]) := (Option.some.inj hd).symm
      simp only [e, if_true, this]
      exact hrr h0
    · rw [if_neg e] at hd
      simp only [e, if_false]
      have := cong0 z.1
      rw [hd] at this
      cases hg : dget es z.1 with
      | none => rw [hg] at this; cases this
      | some b =>
        rw [hg] at this
        have hh := hrun h4 _ (dget_mem hg)
        simp at this
        rw [this.1, this.2] at hh
        exact hh
  generalize hgs : dset fs nm' (i, o, [.obj ra]) = gs at h₂ hgo rg₂ cong hgf hgood
  have same : ∀ s, s ≠ nm' → (fun s => if s = nm' then rs else rw' s) s = rw' s := fun s h => if_neg h
  generalize (fun s => if s = nm' then rs else rw' s) = rg at rg₂ hgood same
  clear hgs e₂ rf₁ ra₁ q₁ p₁ c₁ r₁ hrr hrs
  refine O_itL c₂ ?_
  refine forW_ind (fun rest m H' => Ex3 fun (us vs : Pr) (x : Option PV × Option PV × Option PV) => An4 (es = us ++ vs) (rest = (vs.map (·.1)).map .str) (m = [some (.fls xs), some (.obj t), some (.int way), some (.int anew), some (.obj p), some (.obj c), some (.str nm'), some (.obj q), some (.obj d), x.1, some (.obj ra), x.2.1, x.2.2]) (Ext H₂ H')) ?_ ?_ _ _ _ ⟨[], es, (_, none, none), rfl, rfl, rfl, Ext.refl _⟩
  · rintro m H₃ ⟨us, vs, x, hs, hr', rfl, e₃⟩
    refine ⟨e₃.at c₂, ?_⟩
    clear hs hr' us vs
    refine O_itL (e₃.at c₂) ?_
    refine forW_ind (fun rest m H' => Ex3 fun (us vs : Pr) (y : Option PV) => An4 (es = us ++ vs) (rest = (vs.map (·.1)).map .str) (m = [some (.fls xs), some (.obj t), some (.int way), some (.int anew), some (.obj p), some (.obj c), some (.str nm'), some (.obj q), some (.obj d), y, some (.obj ra), x.2.1, x.2.2]) (Ext H₂ H')) ?_ ?_ _ _ _ ⟨[], es, _, rfl, rfl, rfl, e₃⟩
    · rintro m H' ⟨us, vs, y, hs, hr', rfl, e'⟩
      exact ⟨e'.at c₂, hQ _⟩
    · rintro y ys m H' ⟨us, vs, y1, hs, hr', rfl, e'⟩
      cases vs with
      | nil => cases hr'
      | cons b vs =>
      obtain ⟨n1, i1, o1, z1⟩ := b
      cases hr'
      refine ⟨e'.at c₂, fun K hK => ?_⟩
      have hbm : (n1, i1, o1, z1) ∈ es := by rw [hs]; simp
      have hd : (dget es n1).isSome = true := by rw [dget_of_mem hpo.nodup hbm]; rfl
      have hd' : (dget gs n1).isSome = true := by
        obtain ⟨⟨m1, b1⟩, hm1, e⟩ := List.mem_map.mp (show n1 ∈ gs.map (·.1) by rw [hgf]; exact List.mem_map.mpr ⟨_, hbm, rfl⟩)
        replace e : m1 = n1 := e
        subst e
        rw [dget_of_mem hgo.nodup hm1]; rfl
      have next : ∀ H'', Ext H' H'' → K [some (.fls xs), some (.obj t), some (.int way), some (.int anew), some (.obj p), some (.obj c), some (.str nm'), some (.obj q), some (.obj d), some (.str n1), some (.obj ra), x.2.1, x.2.2] H'' := fun H'' e'' =>
        hK _ _ ⟨us ++ [(n1, i1, o1, z1)], vs, _, by rw [hs]; simp, rfl, rfl, e'.trans e''⟩
      refine O_ite (fun h4 => ?_) (fun h4 => ?_)
      · have h4' : 4 < way := by simpa using h4
        refine U_letby ⟨p, es, rw', n1, rfl, e'.at p₂, hpo, ra₂.ext e', hd, hrun h4', fun H₄ e₄ => ?_⟩
        refine I_pos h4 ?_
        refine O_ite (fun h0 => ?_) (fun h0 => ?_)
        · have h0' : 0 < anew := by simpa using h0
          refine U_letby ⟨q, gs, rg, n1, rfl, (e'.trans e₄).at h₂, hgo, rg₂.ext (e'.trans e₄), hd', hgood h4' h0', fun H₅ e₅ => ?_⟩
          exact next H₅ (e₄.trans e₅)
        · exact next H₄ e₄
      · refine I_neg h4 ?_
        exact next H' (Ext.refl _)
  · rintro y ys m H' ⟨us, vs, x, hs, hr', rfl, e'⟩
    cases vs with
    | nil => cases hr'
    | cons b vs =>
    obtain ⟨n1, i1, o1, z1⟩ := b
    cases hr'
    refine ⟨e'.at c₂, fun K hK => ?_⟩
    have hbm : (n1, i1, o1, z1) ∈ es := by rw [hs]; simp
    have hd : dget es n1 = some (i1, o1, z1) := dget_of_mem hpo.nodup hbm
    have next : ∀ H'' (x : Option PV × Option PV), Ext H' H'' → K [some (.fls xs), some (.obj t), some (.int way), some (.int anew), some (.obj p), some (.obj c), some (.str nm'), some (.obj q), some (.obj d), some (.str n1), some (.obj ra), x.1, x.2] H'' := fun H'' x e'' =>
      hK _ _ ⟨us ++ [(n1, i1, o1, z1)], vs, (_, _, _), by rw [hs]; simp, rfl, rfl, e'.trans e''⟩
    refine O_ite (fun hne1 => ?_) (fun _ => next H' (_, _) (Ext.refl _))
    have hne' : n1 ≠ nm' := by simpa using hne1
    obtain ⟨z', hd'⟩ : ∃ z', dget gs n1 = some (i1, o1, z') := by
      have hg := cong n1
      rw [hd] at hg
      cases hf : dget gs n1 with
      | none => rw [hf] at hg; cases hg
      | some b' =>
        rw [hf] at hg
        obtain ⟨i', o', z'⟩ := b'
        simp at hg
        exact ⟨z', by rw [hg.1, hg.2]⟩
    refine U_fault ⟨p, es, rw', n1, _, rfl, e'.at p₂, hpo, ra₂.ext e', hd, fun H₄ e₄ => ?_⟩
    refine U_fault ⟨q, gs, rg, n1, _, rfl, (e'.trans e₄).at h₂, hgo, rg₂.ext (e'.trans e₄), hd', fun H₅ e₅ => ?_⟩
    rw [same n1 hne', faultV_congr cong i1 o1 z1 z' (rw' n1)]
    unfold faultV
    by_cases hw : walkW es (i1, o1, z1) (rw' n1) = ""
    · rw [if_pos hw]
      exact next H₅ (_, _) (e₄.trans e₅)
    · rw [if_neg hw]
      have eq5 : EqT H₅ (PV.tup [.int (((walkS es i1 (rw' n1)).1.length : Int) - 1), .str (walkW es (i1, o1, z1) (rw' n1))]) (PV.tup [.int (((walkS es i1 (rw' n1)).1.length : Int) - 1), .str (walkW es (i1, o1, z1) (rw' n1))]) true :=
        .val (EqV.tup (n := 39) (atoms_same (fun v hv => by rcases List.mem_cons.mp hv with rfl | hv; exact .inr ⟨_, rfl⟩; rcases List.mem_cons.mp hv with rfl | hv; exact .inl ⟨_, rfl⟩; cases hv)))
      refine CmpW.ne eq5 ?_
      exact next H₅ (_, _) (e₄.trans e₅)
end Mine
end
section
open PySem PySem.W PySem.Calls PyProof.Rows
namespace Mine
set_option autoImplicit false
set_option maxRecDepth 100000
section
variable {prog : Program} {w : World} {B : Heap} {mg mb : Str → Option Value} {loose : List Str} {mean : ExcName → Option Value}
noncomputable def cxL (prog : Program) (w : World) (B : Heap) : Cx := { prog := prog, w := w, B := B, cls := fun c => csL[c]?, icls := fun _ => none, ga := mainGlobals, ba := builtinsNs }
theorem cr_TAKES (P : Params) : kmg (_root_.Mine.hd.heap_39 P) "TAKES" = some (.ref (refAt (_root_.Mine.hd.heap_39 P) "TAKES")) := by kernel_rfl
theorem cl_TAKES (P : Params) : (_root_.Mine.hd.heap_39 P).lookup (refAt (_root_.Mine.hd.heap_39 P) "TAKES") = some { cls := .type "dict", data := .dict (entV P (dictL (_root_.Mine.hd.heap_39 P) (refAt (_root_.Mine.hd.heap_39 P) "TAKES"))) (dictEp (_root_.Mine.hd.heap_39 P) (refAt (_root_.Mine.hd.heap_39 P) "TAKES")) } := by kernel_rfl
theorem ck_TAKES (P : Params) : (dictL (_root_.Mine.hd.heap_39 P) (refAt (_root_.Mine.hd.heap_39 P) "TAKES")).map (·.1) = (takes01.map fun e => (e.1, PV.tup (e.2.map .str))).map (·.1) := by kernel_rfl
theorem cn_TAKES : ((takes01.map fun e => (e.1, PV.tup (e.2.map .str))).map (·.1)).Nodup := by decide +kernel
theorem cv_TAKES (P : Params) : (((dictL (_root_.Mine.hd.heap_39 P) (refAt (_root_.Mine.hd.heap_39 P) "TAKES")).zip (takes01.map fun e => (e.1, PV.tup (e.2.map .str)))).all fun e => valChk (_root_.Mine.hd.heap_39 P) e.1.2.2 e.2.2) = true := by kernel_rfl
theorem cr_PUTS (P : Params) : kmg (_root_.Mine.hd.heap_39 P) "PUTS" = some (.ref (refAt (_root_.Mine.hd.heap_39 P) "PUTS")) := by kernel_rfl
theorem cl_PUTS (P : Params) : (_root_.Mine.hd.heap_39 P).lookup (refAt (_root_.Mine.hd.heap_39 P) "PUTS") = some { cls := .type "dict", data := .dict (entV P (dictL (_root_.Mine.hd.heap_39 P) (refAt (_root_.Mine.hd.heap_39 P) "PUTS"))) (dictEp (_root_.Mine.hd.heap_39 P) (refAt (_root_.Mine.hd.heap_39 P) "PUTS")) } := by kernel_rfl
theorem ck_PUTS (P : Params) : (dictL (_root_.Mine.hd.heap_39 P) (refAt (_root_.Mine.hd.heap_39 P) "PUTS")).map (·.1) = (puts01.map fun e => (e.1, PV.str e.2)).map (·.1) := by kernel_rfl
theorem cn_PUTS : ((puts01.map fun e => (e.1, PV.str e.2)).map (·.1)).Nodup := by decide +kernel
theorem cv_PUTS (P : Params) : (((dictL (_root_.Mine.hd.heap_39 P) (refAt (_root_.Mine.hd.heap_39 P) "PUTS")).zip (puts01.map fun e => (e.1, PV.str e.2))).all fun e => valChk (_root_.Mine.hd.heap_39 P) e.1.2.2 e.2.2) = true := by kernel_rfl
theorem cokL (X : (_root_.Mine.hd.heap_39 w.params).In B) (T : Top _root_.Mine.hd.view_39 loose mean mg mb B) : Cok (cxL prog w B) g01 [] mg mb 0 := by
  have hmg := kmg_eq X (k1 _) T.g
  refine cok_base (K := _root_.Mine.hd.heap_39 w.params) (cs := csL) X (k1 _) T rfl rfl rfl (k3 _) (k4 _) (k5 _) k6 fun x q h => ?_
  have hx := lookup_mem (l := cons01) (by delta g01 k01 at h; exact h)
  simp only [cons01, List.mem_cons, List.not_mem_nil, or_false, Prod.mk.injEq] at hx
  rcases hx with ⟨rfl, rfl⟩ | ⟨rfl, rfl⟩
  · exact fdt_ofV (cx := cxL prog w B) X hmg (cr_TAKES _) (cl_TAKES _) (ck_TAKES _) cn_TAKES (cv_TAKES _) fun _ _ e => e
  · exact fdt_ofV (cx := cxL prog w B) X hmg (cr_PUTS _) (cl_PUTS _) (ck_PUTS _) cn_PUTS (cv_PUTS _) fun _ _ e => e
theorem fc_law_draw : fnChk [] N_law_draw 3 5 S_law_draw B_law_draw = true := by decide +kernel
theorem fc_law_words : fnChk ["_law_draw"] N_law_words 2 3 S_law_words B_law_words = true := by decide +kernel
theorem fc_law_value : fnChk ["_law_words", "_law_draw"] N_law_value 3 5 S_law_value B_law_value = true := by decide +kernel
theorem fc_law_wanted : fnChk ["_law_value", "_law_words", "_law_draw"] N_law_wanted 1 3 S_law_wanted B_law_wanted = true := by decide +kernel
theorem fc_law_lack : fnChk ["_law_wanted", "_law_value", "_law_words", "_law_draw"] N_law_lack 2 4 S_law_lack B_law_lack = true := by decide +kernel
theorem fc_law_plainly : fnChk ["_law_lack", "_law_wanted", "_law_value", "_law_words", "_law_draw"] N_law_plainly 2 3 S_law_plainly B_law_plainly = true := by decide +kernel
theorem fc_law_called : fnChk ["_law_plainly", "_law_lack", "_law_wanted", "_law_value", "_law_words", "_law_draw"] N_law_called 3 5 S_law_called B_law_called = true := by decide +kernel
theorem fc_law_next : fnChk ["_law_called", "_law_plainly", "_law_lack", "_law_wanted", "_law_value", "_law_words", "_law_draw"] N_law_next 3 4 S_law_next B_law_next = true := by decide +kernel
theorem fc_law_plain_row : fnChk ["_law_next", "_law_called", "_law_plainly", "_law_lack", "_law_wanted", "_law_value", "_law_words", "_law_draw"] N_law_plain_row 2 4 S_law_plain_row B_law_plain_row = true := by decide +kernel
theorem fc_law_kinds : fnChk ["_law_plain_row", "_law_next", "_law_called", "_law_plainly", "_law_lack", "_law_wanted", "_law_value", "_law_words", "_law_draw"] N_law_kinds 2 3 S_law_kinds B_law_kinds = true := by decide +kernel
theorem fc_law_told : fnChk ["_law_kinds", "_law_plain_row", "_law_next", "_law_called", "_law_plainly", "_law_lack", "_law_wanted", "_law_value", "_law_words", "_law_draw"] N_law_told 2 10 S_law_told B_law_told = true := by decide +kernel
theorem fc_law_pushes : fnChk ["_law_told", "_law_kinds", "_law_plain_row", "_law_next", "_law_called", "_law_plainly", "_law_lack", "_law_wanted", "_law_value", "_law_words", "_law_draw"] N_law_pushes 3 3 S_law_pushes B_law_pushes = true := by decide +kernel
theorem fc_law_choice : fnChk ["_law_pushes", "_law_told", "_law_kinds", "_law_plain_row", "_law_next", "_law_called", "_law_plainly", "_law_lack", "_law_wanted", "_law_value", "_law_words", "_law_draw"] N_law_choice 5 9 S_law_choice B_law_choice = true := by decide +kernel
theorem fc_law_fitting : fnChk ["_law_choice", "_law_pushes", "_law_told", "_law_kinds", "_law_plain_row", "_law_next", "_law_called", "_law_plainly", "_law_lack", "_law_wanted", "_law_value", "_law_words", "_law_draw"] N_law_fitting 5 6 S_law_fitting B_law_fitting = true := by decide +kernel
theorem fc_law_good_rows : fnChk ["_law_fitting", "_law_choice", "_law_pushes", "_law_told", "_law_kinds", "_law_plain_row", "_law_next", "_law_called", "_law_plainly", "_law_lack", "_law_wanted", "_law_value", "_law_words", "_law_draw"] N_law_good_rows 5 13 S_law_good_rows B_law_good_rows = true := by decide +kernel
theorem fc_law_good_program : fnChk ["_law_good_rows", "_law_fitting", "_law_choice", "_law_pushes", "_law_told", "_law_kinds", "_law_plain_row", "_law_next", "_law_called", "_law_plainly", "_law_lack", "_law_wanted", "_law_value", "_law_words", "_law_draw"] N_law_good_program 2 9 S_law_good_program B_law_good_program = true := by decide +kernel
theorem fc_law_raw_row : fnChk ["_law_good_program", "_law_good_rows", "_law_fitting", "_law_choice", "_law_pushes", "_law_told", "_law_kinds", "_law_plain_row", "_law_next", "_law_called", "_law_plainly", "_law_lack", "_law_wanted", "_law_value", "_law_words", "_law_draw"] N_law_raw_row 3 7 S_law_raw_row B_law_raw_row = true := by decide +kernel
theorem fc_law_spoilt : fnChk ["_law_raw_row", "_law_good_program", "_law_good_rows", "_law_fitting", "_law_choice", "_law_pushes", "_law_told", "_law_kinds", "_law_plain_row", "_law_next", "_law_called", "_law_plainly", "_law_lack", "_law_wanted", "_law_value", "_law_words", "_law_draw"] N_law_spoilt 3 10 S_law_spoilt B_law_spoilt = true := by decide +kernel
theorem fc_law_copy : fnChk ["_law_spoilt", "_law_raw_row", "_law_good_program", "_law_good_rows", "_law_fitting", "_law_choice", "_law_pushes", "_law_told", "_law_kinds", "_law_plain_row", "_law_next", "_law_called", "_law_plainly", "_law_lack", "_law_wanted", "_law_value", "_law_words", "_law_draw"] N_law_copy 1 3 S_law_copy B_law_copy = true := by decide +kernel
theorem fc_law_walked : fnChk ["_law_copy", "_law_spoilt", "_law_raw_row", "_law_good_program", "_law_good_rows", "_law_fitting", "_law_choice", "_law_pushes", "_law_told", "_law_kinds", "_law_plain_row", "_law_next", "_law_called", "_law_plainly", "_law_lack", "_law_wanted", "_law_value", "_law_words", "_law_draw"] N_law_walked 2 9 S_law_walked B_law_walked = true := by decide +kernel
theorem fc_taken : fnChk ["_law_walked", "_law_copy", "_law_spoilt", "_law_raw_row", "_law_good_program", "_law_good_rows", "_law_fitting", "_law_choice", "_law_pushes", "_law_told", "_law_kinds", "_law_plain_row", "_law_next", "_law_called", "_law_plainly", "_law_lack", "_law_wanted", "_law_value", "_law_words", "_law_draw"] N_taken 2 3 S_taken B_taken = true := by decide +kernel
theorem fc_block_of : fnChk ["taken", "_law_walked", "_law_copy", "_law_spoilt", "_law_raw_row", "_law_good_program", "_law_good_rows", "_law_fitting", "_law_choice", "_law_pushes", "_law_told", "_law_kinds", "_law_plain_row", "_law_next", "_law_called", "_law_plainly", "_law_lack", "_law_wanted", "_law_value", "_law_words", "_law_draw"] N_block_of 2 2 S_block_of B_block_of = true := by decide +kernel
theorem fc_called : fnChk ["block_of", "taken", "_law_walked", "_law_copy", "_law_spoilt", "_law_raw_row", "_law_good_program", "_law_good_rows", "_law_fitting", "_law_choice", "_law_pushes", "_law_told", "_law_kinds", "_law_plain_row", "_law_next", "_law_called", "_law_plainly", "_law_lack", "_law_wanted", "_law_value", "_law_words", "_law_draw"] N_called 3 4 S_called B_called = true := by decide +kernel
theorem fc_moved : fnChk ["called", "block_of", "taken", "_law_walked", "_law_copy", "_law_spoilt", "_law_raw_row", "_law_good_program", "_law_good_rows", "_law_fitting", "_law_choice", "_law_pushes", "_law_told", "_law_kinds", "_law_plain_row", "_law_next", "_law_called", "_law_plainly", "_law_lack", "_law_wanted", "_law_value", "_law_words", "_law_draw"] N_moved 2 4 S_moved B_moved = true := by decide +kernel
theorem fc_behind : fnChk ["moved", "called", "block_of", "taken", "_law_walked", "_law_copy", "_law_spoilt", "_law_raw_row", "_law_good_program", "_law_good_rows", "_law_fitting", "_law_choice", "_law_pushes", "_law_told", "_law_kinds", "_law_plain_row", "_law_next", "_law_called", "_law_plainly", "_law_lack", "_law_wanted", "_law_value", "_law_words", "_law_draw"] N_behind 3 7 S_behind B_behind = true := by decide +kernel
theorem fc_looked : fnChk ["behind", "moved", "called", "block_of", "taken", "_law_walked", "_law_copy", "_law_spoilt", "_law_raw_row", "_law_good_program", "_law_good_rows", "_law_fitting", "_law_choice", "_law_pushes", "_law_told", "_law_kinds", "_law_plain_row", "_law_next", "_law_called", "_law_plainly", "_law_lack", "_law_wanted", "_law_value", "_law_words", "_law_draw"] N_looked 2 7 S_looked B_looked = true := by decide +kernel
theorem fc_fault : fnChk ["looked", "behind", "moved", "called", "block_of", "taken", "_law_walked", "_law_copy", "_law_spoilt", "_law_raw_row", "_law_good_program", "_law_good_rows", "_law_fitting", "_law_choice", "_law_pushes", "_law_told", "_law_kinds", "_law_plain_row", "_law_next", "_law_called", "_law_plainly", "_law_lack", "_law_wanted", "_law_value", "_law_words", "_law_draw"] N_fault 2 2 S_fault B_fault = true := by decide +kernel
theorem fc_named : fnChk ["fault", "looked", "behind", "moved", "called", "block_of", "taken", "_law_walked", "_law_copy", "_law_spoilt", "_law_raw_row", "_law_good_program", "_law_good_rows", "_law_fitting", "_law_choice", "_law_pushes", "_law_told", "_law_kinds", "_law_plain_row", "_law_next", "_law_called", "_law_plainly", "_law_lack", "_law_wanted", "_law_value", "_law_words", "_law_draw"] N_named 1 3 S_named B_named = true := by decide +kernel
theorem fc_come_to : fnChk ["named", "fault", "looked", "behind", "moved", "called", "block_of", "taken", "_law_walked", "_law_copy", "_law_spoilt", "_law_raw_row", "_law_good_program", "_law_good_rows", "_law_fitting", "_law_choice", "_law_pushes", "_law_told", "_law_kinds", "_law_plain_row", "_law_next", "_law_called", "_law_plainly", "_law_lack", "_law_wanted", "_law_value", "_law_words", "_law_draw"] N_come_to 2 5 S_come_to B_come_to = true := by decide +kernel
theorem fc_let_by : fnChk ["come_to", "named", "fault", "looked", "behind", "moved", "called", "block_of", "taken", "_law_walked", "_law_copy", "_law_spoilt", "_law_raw_row", "_law_good_program", "_law_good_rows", "_law_fitting", "_law_choice", "_law_pushes", "_law_told", "_law_kinds", "_law_plain_row", "_law_next", "_law_called", "_law_plainly", "_law_lack", "_law_wanted", "_law_value", "_law_words", "_law_draw"] N_let_by 2 3 S_let_by B_let_by = true := by decide +kernel
theorem fc_law : fnChk ["let_by", "come_to", "named", "fault", "looked", "behind", "moved", "called", "block_of", "taken", "_law_walked", "_law_copy", "_law_spoilt", "_law_raw_row", "_law_good_program", "_law_good_rows", "_law_fitting", "_law_choice", "_law_pushes", "_law_told", "_law_kinds", "_law_plain_row", "_law_next", "_law_called", "_law_plainly", "_law_lack", "_law_wanted", "_law_value", "_law_words", "_law_draw"] N_law 1 13 S_law B_law = true := by decide +kernel
theorem cokA (X : (_root_.Mine.hd.heap_39 w.params).In B) (T : Top _root_.Mine.hd.view_39 loose mean mg mb B) : Cok (cxL prog w B) g01 ["let_by", "come_to", "named", "fault", "looked", "behind", "moved", "called", "block_of", "taken", "_law_walked", "_law_copy", "_law_spoilt", "_law_raw_row", "_law_good_program", "_law_good_rows", "_law_fitting", "_law_choice", "_law_pushes", "_law_told", "_law_kinds", "_law_plain_row", "_law_next", "_law_called", "_law_plainly", "_law_lack", "_law_wanted", "_law_value", "_law_words", "_law_draw"] mg mb 30 := by
  have c0 := cokL (prog := prog) X T
  obtain ⟨d0, hd0, n0, b0, s0, a0⟩ := R_law_draw
  have c1 := c0.addT T rfl rfl hd0 n0 b0 s0 a0 fc_law_draw (fun h => draw_ok (by delta g01 c01 at h; exact h))
  obtain ⟨d1, hd1, n1, b1, s1, a1⟩ := R_law_words
  have c2 := c1.addT T rfl rfl hd1 n1 b1 s1 a1 fc_law_words (fun h => words_ok (by delta g01 c01 at h; exact h))
  obtain ⟨d2, hd2, n2, b2, s2, a2⟩ := R_law_value
  have c3 := c2.addT T rfl rfl hd2 n2 b2 s2 a2 fc_law_value (fun h => value_ok (by delta g01 c01 at h; exact h))
  obtain ⟨d3, hd3, n3, b3, s3, a3⟩ := R_law_wanted
  have c4 := c3.addT T rfl rfl hd3 n3 b3 s3 a3 fc_law_wanted (fun h => wanted_ok (by delta g01 c01 at h; exact h))
  obtain ⟨d4, hd4, n4, b4, s4, a4⟩ := R_law_lack
  have c5 := c4.addT T rfl rfl hd4 n4 b4 s4 a4 fc_law_lack (fun h => lack_ok (by delta g01 c01 at h; exact h))
  obtain ⟨d5, hd5, n5, b5, s5, a5⟩ := R_law_plainly
  have c6 := c5.addT T rfl rfl hd5 n5 b5 s5 a5 fc_law_plainly (fun h => plainly_ok (by delta g01 c01 at h; exact h))
  obtain ⟨d6, hd6, n6, b6, s6, a6⟩ := R_law_called
  have c7 := c6.addT T rfl rfl hd6 n6 b6 s6 a6 fc_law_called (fun h => lcalled_ok (by delta g01 c01 at h; exact h))
  obtain ⟨d7, hd7, n7, b7, s7, a7⟩ := R_law_next
  have c8 := c7.addT T rfl rfl hd7 n7 b7 s7 a7 fc_law_next (fun h => lnext_ok (by delta g01 c01 at h; exact h))
  obtain ⟨d8, hd8, n8, b8, s8, a8⟩ := R_law_plain_row
  have c9 := c8.addT T rfl rfl hd8 n8 b8 s8 a8 fc_law_plain_row (fun h => plain_ok (by delta g01 c01 at h; exact h))
  obtain ⟨d9, hd9, n9, b9, s9, a9⟩ := R_law_kinds
  have c10 := c9.addT T rfl rfl hd9 n9 b9 s9 a9 fc_law_kinds (fun h => kindst_ok (by delta g01 c01 at h; exact h))
  obtain ⟨d10, hd10, n10, b10, s10, a10⟩ := R_law_told
  have c11 := c10.addT T rfl rfl hd10 n10 b10 s10 a10 fc_law_told (fun h => ltold_ok (by delta g01 c01 at h; exact h))
  obtain ⟨d11, hd11, n11, b11, s11, a11⟩ := R_law_pushes
  have c12 := c11.addT T rfl rfl hd11 n11 b11 s11 a11 fc_law_pushes (fun h => pushes_ok (by delta g01 c01 at h; exact h))
  obtain ⟨d12, hd12, n12, b12, s12, a12⟩ := R_law_choice
  have c13 := c12.addT T rfl rfl hd12 n12 b12 s12 a12 fc_law_choice (fun h => choice_ok (by delta g01 c01 at h; exact h))
  obtain ⟨d13, hd13, n13, b13, s13, a13⟩ := R_law_fitting
  have c14 := c13.addT T rfl rfl hd13 n13 b13 s13 a13 fc_law_fitting (fun h => fitting_ok (by delta g01 c01 at h; exact h))
  obtain ⟨d14, hd14, n14, b14, s14, a14⟩ := R_law_good_rows
  have c15 := c14.addT T rfl rfl hd14 n14 b14 s14 a14 fc_law_good_rows (fun h => goodrows_ok (by delta g01 c01 at h; exact h))
  obtain ⟨d15, hd15, n15, b15, s15, a15⟩ := R_law_good_program
  have c16 := c15.addT T rfl rfl hd15 n15 b15 s15 a15 fc_law_good_program (fun h => goodprogram_ok (by delta g01 c01 at h; exact h))
  obtain ⟨d16, hd16, n16, b16, s16, a16⟩ := R_law_raw_row
  have c17 := c16.addT T rfl rfl hd16 n16 b16 s16 a16 fc_law_raw_row (fun h => rawrow_ok (by delta g01 c01 at h; exact h))
  obtain ⟨d17, hd17, n17, b17, s17, a17⟩ := R_law_spoilt
  have c18 := c17.addT T rfl rfl hd17 n17 b17 s17 a17 fc_law_spoilt (fun h => spoilt_ok (by delta g01 c01 at h; exact h))
  obtain ⟨d18, hd18, n18, b18, s18, a18⟩ := R_law_copy
  have c19 := c18.addT T rfl rfl hd18 n18 b18 s18 a18 fc_law_copy (fun h => lcopy_ok (by delta g01 c01 at h; exact h))
  obtain ⟨d19, hd19, n19, b19, s19, a19⟩ := R_law_walked
  have c20 := c19.addT T rfl rfl hd19 n19 b19 s19 a19 fc_law_walked (fun h => walked_ok (by delta g01 c01 at h; exact h))
  obtain ⟨d20, hd20, n20, b20, s20, a20⟩ := R_taken
  have c21 := c20.addT T rfl rfl hd20 n20 b20 s20 a20 fc_taken (fun h => taken_ok (by delta g01 c01 at h; exact h))
  obtain ⟨d21, hd21, n21, b21, s21, a21⟩ := R_block_of
  have c22 := c21.addT T rfl rfl hd21 n21 b21 s21 a21 fc_block_of (fun h => blockof_ok (by delta g01 c01 at h; exact h))
  obtain ⟨d22, hd22, n22, b22, s22, a22⟩ := R_called
  have c23 := c22.addT T rfl rfl hd22 n22 b22 s22 a22 fc_called (fun h => called_ok (by delta g01 c01 at h; exact h))
  obtain ⟨d23, hd23, n23, b23, s23, a23⟩ := R_moved
  have c24 := c23.addT T rfl rfl hd23 n23 b23 s23 a23 fc_moved (fun h => moved_ok (by delta g01 c01 at h; exact h))
  obtain ⟨d24, hd24, n24, b24, s24, a24⟩ := R_behind
  have c25 := c24.addT T rfl rfl hd24 n24 b24 s24 a24 fc_behind (fun h => behind_ok (by delta g01 c01 at h; exact h))
  obtain ⟨d25, hd25, n25, b25, s25, a25⟩ := R_looked
  have c26 := c25.addT T rfl rfl hd25 n25 b25 s25 a25 fc_looked (fun h => looked_ok (by delta g01 c01 at h; exact h))
  obtain ⟨d26, hd26, n26, b26, s26, a26⟩ := R_fault
  have c27 := c26.addT T rfl rfl hd26 n26 b26 s26 a26 fc_fault (fun h => fault_ok (by delta g01 c01 at h; exact h))
  obtain ⟨d27, hd27, n27, b27, s27, a27⟩ := R_named
  have c28 := c27.addT T rfl rfl hd27 n27 b27 s27 a27 fc_named (fun h => named_ok (by delta g01 c01 at h; exact h))
  obtain ⟨d28, hd28, n28, b28, s28, a28⟩ := R_come_to
  have c29 := c28.addT T rfl rfl hd28 n28 b28 s28 a28 fc_come_to (fun h => cometo_ok (by delta g01 c01 at h; exact h))
  obtain ⟨d29, hd29, n29, b29, s29, a29⟩ := R_let_by
  have c30 := c29.addT T rfl rfl hd29 n29 b29 s29 a29 fc_let_by (fun h => letby_ok (by delta g01 c01 at h; exact h))
  exact c30
theorem finL {s : Shared} (X : (_root_.Mine.hd.heap_39 w.params).In s.heap) (T : Top _root_.Mine.hd.view_39 loose mean mg mb s.heap) {fa l : Addr} {items : Array Value} {ns : List Int} (hmg : mg "law" = some (.ref fa)) (il : s.heap.IsList l items) (ia : IntsAre items.toList ns) (hl : ns.length ≤ 100)
    {R : Result → Shared → Prop} (hR : ∀ h' tk, (∀ b o, s.heap.get? b = some o → h'.get? b = some o) → R (.ok (.ret (.bool true))) { s with heap := h', toks := tk }) : codeAny (model prog w) callerA (.call (.ref fa) ⟨[.ref l], []⟩) R s := by
  obtain ⟨d, hd, n1, b1, s1, a1⟩ := R_law
  have hL : LIM = 1048576 := rfl
  exact law_top (cx := cxL prog w s.heap) (cokA X T) T rfl rfl hd n1 b1 s1 a1 fc_law rfl hmg il ia (by omega) (by omega) (fun {Q} hQ => (law_ok (ps := [.fls ns]) (H := fun _ => none) (Q := Q) (X := fun _ _ => False) ⟨ns, rfl, hl, hQ⟩).2) hR
end

end Mine
end
open PySem PySem.W PyProof.Rows
set_option maxRecDepth 100000
set_option maxHeartbeats 8000000
theorem PySem.Challenge.cw_uf030026_12_holds : PySem.Challenge.rw_uf030026_12.Holds := by
  w_on
  refine holds_law (by kernel_rfl) fun said => ?_
  refine holds_open (q := Mine.hd.view_39) (loose := Mine.hd.loos) (Xt := Mine.hd.xt) (XP := XL Mine.hd.view_39 []) (Yf := Mine.hd.hook.obs) (Ya := Mine.hd.hook.val) (YP := Mine.hd.hook.says) Mine.hd.left (Hook.of Mine.hd.hook) (Hook.keeps Mine.hd.hook) (fun s e => xl_of s (Bool.and_eq_true_iff.mp e).1) XL.keeps (by rfl) (by rfl) (by rfl) (fun s e => recFacts_of (Bool.and_eq_true_iff.mp e).2) (by rfl) (by assumption) (by decide +kernel) ⟨rfl, rfl, rfl, rfl, rfl, by decide +kernel⟩ ?hw ?hc
  case hw => w_witness2
  case hc =>
    intro w s₀ s₁ mg mb G Y fa o pm cd doc dV kV ho hd hcd hD hmg hg args vals as hpre hlay hrd hwl hlo
    have KX := kIn_of Y
    refine Ground.open G ?_
    intro T B D TE TW
    wrow_args hpre hlay hrd hwl hlo
    all_goals (
      first | refine callC_kw (enter_call ?_) | refine enter_call ?_ | refine callC_kw (enter_callW ?_) | refine enter_callW ?_ | w_how
      )
    refine Mine.finL KX T hmg (by assumption) (by assumption) (by omega) fun h' tk hk => GoodW.toG ⟨.inl ⟨_, _, _, rfl, ?_, .bool true, ?_, ?_⟩, hk, rfl, hg⟩
    · intro cls; rfl
    · kernel_rfl
    · intro h; exact ⟨List.nodup_nil, fun a ha => nomatch ha⟩
