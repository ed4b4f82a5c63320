import PyProof.Rows.All
import Wide.All
import Open.Line
import OpenK.Peek
import OpenK.KDescr
import OpenK.KMake
import OpenK.KWalk
import KE.LcSums
import KE.KDictList
import KE.KTryMore
import KE.KIsAll
import KE.KEqDict
import Wide.FinOn
import Open.Boot
import PySem.Challenge.RW_uf030026_11
set_option Elab.async false
set_option maxHeartbeats 4000000
section
open PySem PySem.W PyProof.Rows
namespace Mine.hd
noncomputable def view_39 : Program := { PySem.Challenge.rw_uf030026_11.row.toRowW.1 with main := { PySem.Challenge.rw_uf030026_11.row.toRowW.1.main with body := PySem.Challenge.rw_uf030026_11.row.toRowW.1.main.body.filter fun s => match s with | .Assign [.Name x _] _ _ => !(x == Str.ofString "__name__") | _ => true } }
noncomputable def heap_39 : Params → Frag := fun P => [(2, { cls := Value.none, data := Data.dict #[] }), (3, { cls := Value.type "dict", data := Data.dict #[{ hash := PyData.keyHash P (Str.ofString "__name__"), key := Value.str (Str.ofString "__name__") 165, val := Value.str (Str.ofString "law_uf030026_11") 557 }, { hash := PyData.keyHash P (Str.ofString "__doc__"), key := Value.str (Str.ofString "__doc__") 166, val := Value.none }, { hash := PyData.keyHash P (Str.ofString "__package__"), key := Value.str (Str.ofString "__package__") 167, val := Value.none }, { hash := PyData.keyHash P (Str.ofString "__loader__"), key := Value.str (Str.ofString "__loader__") 168, val := Value.builtin "__main__.__loader__#opaque" }, { hash := PyData.keyHash P (Str.ofString "__spec__"), key := Value.str (Str.ofString "__spec__") 169, val := Value.none }, { hash := PyData.keyHash P (Str.ofString "__annotations__"), key := Value.str (Str.ofString "__annotations__") 170, val := Value.ref 6 }, { hash := PyData.keyHash P (Str.ofString "__builtins__"), key := Value.str (Str.ofString "__builtins__") 171, val := Value.ref 4 }, { hash := PyData.keyHash P (Str.ofString "__file__"), key := Value.str (Str.ofString "__file__") 173, val := Value.str (Str.ofString "/claim/cut.py") 172 }, { hash := PyData.keyHash P (Str.ofString "__cached__"), key := Value.str (Str.ofString "__cached__") 174, val := Value.none }, { hash := PyData.keyHash P (Str.ofString "StackError"), key := Value.str (Str.ofString "StackError") 206, val := Value.ref 24 }, { hash := PyData.keyHash P (Str.ofString "Empty"), key := Value.str (Str.ofString "Empty") 222, val := Value.ref 37 }, { hash := PyData.keyHash P (Str.ofString "WrongKind"), key := Value.str (Str.ofString "WrongKind") 238, val := Value.ref 49 }, { hash := PyData.keyHash P (Str.ofString "NoBlock"), key := Value.str (Str.ofString "NoBlock") 254, val := Value.ref 61 }, { hash := PyData.keyHash P (Str.ofString "Apart"), key := Value.str (Str.ofString "Apart") 270, val := Value.ref 73 }, { hash := PyData.keyHash P (Str.ofString "BOUND"), key := Value.str (Str.ofString "BOUND") 274, val := Value.int 1000000000 273 }, { hash := PyData.keyHash P (Str.ofString "LONGEST"), key := Value.str (Str.ofString "LONGEST") 276, val := Value.int 60 275 }, { hash := PyData.keyHash P (Str.ofString "TAKES_rows"), key := Value.str (Str.ofString "TAKES_rows") 299, val := Value.ref 76 }, { hash := PyData.keyHash P (Str.ofString "kinds_of"), key := Value.str (Str.ofString "kinds_of") 308, val := Value.ref 89 }, { hash := PyData.keyHash P (Str.ofString "need"), key := Value.str (Str.ofString "need") 316, val := Value.ref 96 }, { hash := PyData.keyHash P (Str.ofString "reckoned"), key := Value.str (Str.ofString "reckoned") 324, val := Value.ref 103 }, { hash := PyData.keyHash P (Str.ofString "done"), key := Value.str (Str.ofString "done") 336, val := Value.ref 110 }, { hash := PyData.keyHash P (Str.ofString "Machine"), key := Value.str (Str.ofString "Machine") 406, val := Value.ref 155 }, { hash := PyData.keyHash P (Str.ofString "TAKES_kinds"), key := Value.str (Str.ofString "TAKES_kinds") 431, val := Value.ref 160 }, { hash := PyData.keyHash P (Str.ofString "PUTS"), key := Value.str (Str.ofString "PUTS") 450, val := Value.ref 167 }, { hash := PyData.keyHash P (Str.ofString "taken"), key := Value.str (Str.ofString "taken") 459, val := Value.ref 174 }, { hash := PyData.keyHash P (Str.ofString "block_of"), key := Value.str (Str.ofString "block_of") 467, val := Value.ref 181 }, { hash := PyData.keyHash P (Str.ofString "called"), key := Value.str (Str.ofString "called") 477, val := Value.ref 188 }, { hash := PyData.keyHash P (Str.ofString "moved"), key := Value.str (Str.ofString "moved") 487, val := Value.ref 195 }, { hash := PyData.keyHash P (Str.ofString "behind"), key := Value.str (Str.ofString "behind") 500, val := Value.ref 202 }, { hash := PyData.keyHash P (Str.ofString "looked"), key := Value.str (Str.ofString "looked") 515, val := Value.ref 209 }, { hash := PyData.keyHash P (Str.ofString "trail_of"), key := Value.str (Str.ofString "trail_of") 524, val := Value.ref 216 }, { hash := PyData.keyHash P (Str.ofString "named"), key := Value.str (Str.ofString "named") 533, val := Value.ref 223 }, { hash := PyData.keyHash P (Str.ofString "come_to"), key := Value.str (Str.ofString "come_to") 544, val := Value.ref 230 }, { hash := PyData.keyHash P (Str.ofString "height_by"), key := Value.str (Str.ofString "height_by") 550, val := Value.ref 235 }, { hash := PyData.keyHash P (Str.ofString "height"), key := Value.str (Str.ofString "height") 556, val := Value.ref 240 }, { hash := PyData.keyHash P (Str.ofString "_law_draw"), key := Value.str (Str.ofString "_law_draw") 569, val := Value.ref 247 }, { hash := PyData.keyHash P (Str.ofString "_law_words"), key := Value.str (Str.ofString "_law_words") 575, val := Value.ref 252 }, { hash := PyData.keyHash P (Str.ofString "_law_value"), key := Value.str (Str.ofString "_law_value") 586, val := Value.ref 259 }, { hash := PyData.keyHash P (Str.ofString "_law_wanted"), key := Value.str (Str.ofString "_law_wanted") 595, val := Value.ref 266 }, { hash := PyData.keyHash P (Str.ofString "_law_lack"), key := Value.str (Str.ofString "_law_lack") 605, val := Value.ref 273 }, { hash := PyData.keyHash P (Str.ofString "_law_plainly"), key := Value.str (Str.ofString "_law_plainly") 614, val := Value.ref 280 }, { hash := PyData.keyHash P (Str.ofString "_law_called"), key := Value.str (Str.ofString "_law_called") 625, val := Value.ref 287 }, { hash := PyData.keyHash P (Str.ofString "_law_next"), key := Value.str (Str.ofString "_law_next") 635, val := Value.ref 294 }, { hash := PyData.keyHash P (Str.ofString "_law_plain_row"), key := Value.str (Str.ofString "_law_plain_row") 645, val := Value.ref 301 }, { hash := PyData.keyHash P (Str.ofString "_law_kinds"), key := Value.str (Str.ofString "_law_kinds") 651, val := Value.ref 306 }, { hash := PyData.keyHash P (Str.ofString "_law_told"), key := Value.str (Str.ofString "_law_told") 667, val := Value.ref 313 }, { hash := PyData.keyHash P (Str.ofString "_law_pushes"), key := Value.str (Str.ofString "_law_pushes") 673, val := Value.ref 318 }, { hash := PyData.keyHash P (Str.ofString "_law_choice"), key := Value.str (Str.ofString "_law_choice") 679, val := Value.ref 323 }, { hash := PyData.keyHash P (Str.ofString "_law_fitting"), key := Value.str (Str.ofString "_law_fitting") 691, val := Value.ref 330 }, { hash := PyData.keyHash P (Str.ofString "_law_good_rows"), key := Value.str (Str.ofString "_law_good_rows") 697, val := Value.ref 335 }, { hash := PyData.keyHash P (Str.ofString "_law_good_program"), key := Value.str (Str.ofString "_law_good_program") 712, val := Value.ref 342 }, { hash := PyData.keyHash P (Str.ofString "_law_alike"), key := Value.str (Str.ofString "_law_alike") 721, val := Value.ref 349 }, { hash := PyData.keyHash P (Str.ofString "_law_on_top"), key := Value.str (Str.ofString "_law_on_top") 727, val := Value.ref 354 }, { hash := PyData.keyHash P (Str.ofString "_law_step"), key := Value.str (Str.ofString "_law_step") 734, val := Value.ref 361 }, { hash := PyData.keyHash P (Str.ofString "_law_frames"), key := Value.str (Str.ofString "_law_frames") 743, val := Value.ref 368 }, { hash := PyData.keyHash P (Str.ofString "_law_due"), key := Value.str (Str.ofString "_law_due") 758, val := Value.ref 375 }, { hash := PyData.keyHash P (Str.ofString "_law_stands"), key := Value.str (Str.ofString "_law_stands") 773, val := Value.ref 382 }, { hash := PyData.keyHash P (Str.ofString "law"), key := Value.str (Str.ofString "law") 795, val := Value.ref 389 }] 58 }), (15, { cls := Value.type "tuple", data := Data.seq #[Value.type "ValueError"] }), (23, { cls := Value.type "dict", data := Data.dict #[{ hash := PyData.keyHash P (Str.ofString "__module__"), key := Value.str (Str.ofString "__module__") 196, val := Value.str (Str.ofString "stackproof.errors") 187 }, { hash := PyData.keyHash P (Str.ofString "__firstlineno__"), key := Value.str (Str.ofString "__firstlineno__") 200, val := Value.int 2 199 }, { hash := PyData.keyHash P (Str.ofString "__static_attributes__"), key := Value.str (Str.ofString "__static_attributes__") 201, val := Value.ref 22 }, { hash := PyData.keyHash P (Str.ofString "__weakref__"), key := Value.str (Str.ofString "__weakref__") 203, val := Value.ref 25 }, { hash := PyData.keyHash P (Str.ofString "__doc__"), key := Value.str (Str.ofString "__doc__") 204, val := Value.none }] 3 }), (24, { cls := Value.type "type", data := Data.cls { name := Str.ofString "StackError", bases := [Value.type "ValueError"], mro := [Value.ref 24, Value.type "ValueError", Value.type "Exception", Value.type "BaseException", Value.type "object"], ns := 23, qualname := Str.ofString "StackError", subclasses := [Value.ref 37, Value.ref 49, Value.ref 61, Value.ref 73] }, slots := #[some (Value.ref 15), none, some (Value.str (Str.ofString "StackError") 189), some (Value.str (Str.ofString "StackError") 197), some (Value.builtin "ValueError.__new__"), some (Value.bool true)] }), (25, { cls := Value.type "getset_descriptor", data := Data.fields #[Value.str (Str.ofString "__weakref__") 202, Value.ref 24, Value.builtin "ExceptionGroup.__weakref__", Value.none] }), (28, { cls := Value.type "tuple", data := Data.seq #[Value.ref 24] }), (36, { cls := Value.type "dict", data := Data.dict #[{ hash := PyData.keyHash P (Str.ofString "__module__"), key := Value.str (Str.ofString "__module__") 214, val := Value.str (Str.ofString "stackproof.errors") 187 }, { hash := PyData.keyHash P (Str.ofString "__firstlineno__"), key := Value.str (Str.ofString "__firstlineno__") 218, val := Value.int 4 217 }, { hash := PyData.keyHash P (Str.ofString "__static_attributes__"), key := Value.str (Str.ofString "__static_attributes__") 219, val := Value.ref 35 }, { hash := PyData.keyHash P (Str.ofString "__doc__"), key := Value.str (Str.ofString "__doc__") 220, val := Value.none }] 2 }), (37, { cls := Value.type "type", data := Data.cls { name := Str.ofString "Empty", bases := [Value.ref 24], mro := [Value.ref 37, Value.ref 24, Value.type "ValueError", Value.type "Exception", Value.type "BaseException", Value.type "object"], ns := 36, qualname := Str.ofString "Empty" }, slots := #[some (Value.ref 28), none, some (Value.str (Str.ofString "Empty") 207), some (Value.str (Str.ofString "Empty") 215), some (Value.builtin "ValueError.__new__"), some (Value.bool true)] }), (40, { cls := Value.type "tuple", data := Data.seq #[Value.ref 24] }), (48, { cls := Value.type "dict", data := Data.dict #[{ hash := PyData.keyHash P (Str.ofString "__module__"), key := Value.str (Str.ofString "__module__") 230, val := Value.str (Str.ofString "stackproof.errors") 187 }, { hash := PyData.keyHash P (Str.ofString "__firstlineno__"), key := Value.str (Str.ofString "__firstlineno__") 234, val := Value.int 6 233 }, { hash := PyData.keyHash P (Str.ofString "__static_attributes__"), key := Value.str (Str.ofString "__static_attributes__") 235, val := Value.ref 47 }, { hash := PyData.keyHash P (Str.ofString "__doc__"), key := Value.str (Str.ofString "__doc__") 236, val := Value.none }] 2 }), (49, { cls := Value.type "type", data := Data.cls { name := Str.ofString "WrongKind", bases := [Value.ref 24], mro := [Value.ref 49, Value.ref 24, Value.type "ValueError", Value.type "Exception", Value.type "BaseException", Value.type "object"], ns := 48, qualname := Str.ofString "WrongKind" }, slots := #[some (Value.ref 40), none, some (Value.str (Str.ofString "WrongKind") 223), some (Value.str (Str.ofString "WrongKind") 231), some (Value.builtin "ValueError.__new__"), some (Value.bool true)] }), (52, { cls := Value.type "tuple", data := Data.seq #[Value.ref 24] }), (60, { cls := Value.type "dict", data := Data.dict #[{ hash := PyData.keyHash P (Str.ofString "__module__"), key := Value.str (Str.ofString "__module__") 246, val := Value.str (Str.ofString "stackproof.errors") 187 }, { hash := PyData.keyHash P (Str.ofString "__firstlineno__"), key := Value.str (Str.ofString "__firstlineno__") 250, val := Value.int 8 249 }, { hash := PyData.keyHash P (Str.ofString "__static_attributes__"), key := Value.str (Str.ofString "__static_attributes__") 251, val := Value.ref 59 }, { hash := PyData.keyHash P (Str.ofString "__doc__"), key := Value.str (Str.ofString "__doc__") 252, val := Value.none }] 2 }), (61, { cls := Value.type "type", data := Data.cls { name := Str.ofString "NoBlock", bases := [Value.ref 24], mro := [Value.ref 61, Value.ref 24, Value.type "ValueError", Value.type "Exception", Value.type "BaseException", Value.type "object"], ns := 60, qualname := Str.ofString "NoBlock" }, slots := #[some (Value.ref 52), none, some (Value.str (Str.ofString "NoBlock") 239), some (Value.str (Str.ofString "NoBlock") 247), some (Value.builtin "ValueError.__new__"), some (Value.bool true)] }), (64, { cls := Value.type "tuple", data := Data.seq #[Value.ref 24] }), (72, { cls := Value.type "dict", data := Data.dict #[{ hash := PyData.keyHash P (Str.ofString "__module__"), key := Value.str (Str.ofString "__module__") 262, val := Value.str (Str.ofString "stackproof.errors") 187 }, { hash := PyData.keyHash P (Str.ofString "__firstlineno__"), key := Value.str (Str.ofString "__firstlineno__") 266, val := Value.int 10 265 }, { hash := PyData.keyHash P (Str.ofString "__static_attributes__"), key := Value.str (Str.ofString "__static_attributes__") 267, val := Value.ref 71 }, { hash := PyData.keyHash P (Str.ofString "__doc__"), key := Value.str (Str.ofString "__doc__") 268, val := Value.none }] 2 }), (73, { cls := Value.type "type", data := Data.cls { name := Str.ofString "Apart", bases := [Value.ref 24], mro := [Value.ref 73, Value.ref 24, Value.type "ValueError", Value.type "Exception", Value.type "BaseException", Value.type "object"], ns := 72, qualname := Str.ofString "Apart" }, slots := #[some (Value.ref 64), none, some (Value.str (Str.ofString "Apart") 255), some (Value.str (Str.ofString "Apart") 263), some (Value.builtin "ValueError.__new__"), some (Value.bool true)] }), (76, { cls := Value.type "dict", data := Data.dict #[{ hash := PyData.keyHash P (Str.ofString "add"), key := Value.str (Str.ofString "add") 277, val := Value.ref 77 }, { hash := PyData.keyHash P (Str.ofString "mul"), key := Value.str (Str.ofString "mul") 280, val := Value.ref 78 }, { hash := PyData.keyHash P (Str.ofString "less"), key := Value.str (Str.ofString "less") 283, val := Value.ref 79 }, { hash := PyData.keyHash P (Str.ofString "join"), key := Value.str (Str.ofString "join") 286, val := Value.ref 80 }, { hash := PyData.keyHash P (Str.ofString "long"), key := Value.str (Str.ofString "long") 289, val := Value.ref 81 }, { hash := PyData.keyHash P (Str.ofString "show"), key := Value.str (Str.ofString "show") 291, val := Value.ref 82 }] 6 }), (77, { cls := Value.type "tuple", data := Data.seq #[Value.str (Str.ofString "num") 278, Value.str (Str.ofString "num") 279] }), (78, { cls := Value.type "tuple", data := Data.seq #[Value.str (Str.ofString "num") 281, Value.str (Str.ofString "num") 282] }), (79, { cls := Value.type "tuple", data := Data.seq #[Value.str (Str.ofString "num") 284, Value.str (Str.ofString "num") 285] }), (80, { cls := Value.type "tuple", data := Data.seq #[Value.str (Str.ofString "text") 287, Value.str (Str.ofString "text") 288] }), (81, { cls := Value.type "tuple", data := Data.seq #[Value.str (Str.ofString "text") 290] }), (82, { cls := Value.type "tuple", data := Data.seq #[Value.str (Str.ofString "num") 292] }), (154, { cls := Value.type "dict", data := Data.dict #[{ hash := PyData.keyHash P (Str.ofString "__module__"), key := Value.str (Str.ofString "__module__") 346, val := Value.str (Str.ofString "stackproof.machine") 337 }, { hash := PyData.keyHash P (Str.ofString "__firstlineno__"), key := Value.str (Str.ofString "__firstlineno__") 350, val := Value.int 60 349 }, { hash := PyData.keyHash P (Str.ofString "__init__"), key := Value.str (Str.ofString "__init__") 360, val := Value.ref 124 }, { hash := PyData.keyHash P (Str.ofString "settle"), key := Value.str (Str.ofString "settle") 367, val := Value.ref 131 }, { hash := PyData.keyHash P (Str.ofString "over"), key := Value.str (Str.ofString "over") 374, val := Value.ref 138 }, { hash := PyData.keyHash P (Str.ofString "goal_of"), key := Value.str (Str.ofString "goal_of") 383, val := Value.ref 145 }, { hash := PyData.keyHash P (Str.ofString "step"), key := Value.str (Str.ofString "step") 395, val := Value.ref 152 }, { hash := PyData.keyHash P (Str.ofString "__static_attributes__"), key := Value.str (Str.ofString "__static_attributes__") 399, val := Value.ref 153 }, { hash := PyData.keyHash P (Str.ofString "__dict__"), key := Value.str (Str.ofString "__dict__") 401, val := Value.ref 156 }, { hash := PyData.keyHash P (Str.ofString "__weakref__"), key := Value.str (Str.ofString "__weakref__") 403, val := Value.ref 157 }, { hash := PyData.keyHash P (Str.ofString "__doc__"), key := Value.str (Str.ofString "__doc__") 404, val := Value.none }] 4 }), (155, { cls := Value.type "type", data := Data.cls { name := Str.ofString "Machine", bases := [Value.type "object"], mro := [Value.ref 155, Value.type "object"], ns := 154, qualname := Str.ofString "Machine" }, slots := #[none, none, some (Value.str (Str.ofString "Machine") 339), some (Value.str (Str.ofString "Machine") 347), some (Value.builtin "object.__new__"), some (Value.bool true)] }), (156, { cls := Value.type "getset_descriptor", data := Data.fields #[Value.str (Str.ofString "__dict__") 400, Value.ref 155, Value.builtin "function.__dict__", Value.builtin "function.__dict__#set"] }), (157, { cls := Value.type "getset_descriptor", data := Data.fields #[Value.str (Str.ofString "__weakref__") 402, Value.ref 155, Value.builtin "ExceptionGroup.__weakref__", Value.none] }), (160, { cls := Value.type "dict", data := Data.dict #[{ hash := PyData.keyHash P (Str.ofString "add"), key := Value.str (Str.ofString "add") 409, val := Value.ref 161 }, { hash := PyData.keyHash P (Str.ofString "mul"), key := Value.str (Str.ofString "mul") 412, val := Value.ref 162 }, { hash := PyData.keyHash P (Str.ofString "less"), key := Value.str (Str.ofString "less") 415, val := Value.ref 163 }, { hash := PyData.keyHash P (Str.ofString "join"), key := Value.str (Str.ofString "join") 418, val := Value.ref 164 }, { hash := PyData.keyHash P (Str.ofString "long"), key := Value.str (Str.ofString "long") 421, val := Value.ref 165 }, { hash := PyData.keyHash P (Str.ofString "show"), key := Value.str (Str.ofString "show") 423, val := Value.ref 166 }] 6 }), (161, { cls := Value.type "tuple", data := Data.seq #[Value.str (Str.ofString "num") 410, Value.str (Str.ofString "num") 411] }), (162, { cls := Value.type "tuple", data := Data.seq #[Value.str (Str.ofString "num") 413, Value.str (Str.ofString "num") 414] }), (163, { cls := Value.type "tuple", data := Data.seq #[Value.str (Str.ofString "num") 416, Value.str (Str.ofString "num") 417] }), (164, { cls := Value.type "tuple", data := Data.seq #[Value.str (Str.ofString "text") 419, Value.str (Str.ofString "text") 420] }), (165, { cls := Value.type "tuple", data := Data.seq #[Value.str (Str.ofString "text") 422] }), (166, { cls := Value.type "tuple", data := Data.seq #[Value.str (Str.ofString "num") 424] }), (167, { cls := Value.type "dict", data := Data.dict #[{ hash := PyData.keyHash P (Str.ofString "add"), key := Value.str (Str.ofString "add") 432, val := Value.str (Str.ofString "num") 433 }, { hash := PyData.keyHash P (Str.ofString "mul"), key := Value.str (Str.ofString "mul") 434, val := Value.str (Str.ofString "num") 435 }, { hash := PyData.keyHash P (Str.ofString "less"), key := Value.str (Str.ofString "less") 436, val := Value.str (Str.ofString "num") 437 }, { hash := PyData.keyHash P (Str.ofString "join"), key := Value.str (Str.ofString "join") 438, val := Value.str (Str.ofString "text") 439 }, { hash := PyData.keyHash P (Str.ofString "long"), key := Value.str (Str.ofString "long") 440, val := Value.str (Str.ofString "num") 441 }, { hash := PyData.keyHash P (Str.ofString "show"), key := Value.str (Str.ofString "show") 442, val := Value.str (Str.ofString "text") 443 }] 6 })]
noncomputable def adrs : List Addr := [2, 3, 15, 23, 24, 25, 28, 36, 37, 40, 48, 49, 52, 60, 61, 64, 72, 73, 76, 77, 78, 79, 80, 81, 82, 154, 155, 156, 157, 160, 161, 162, 163, 164, 165, 166, 167]
abbrev loos : List Str := ["TAKES_rows", "TAKES_kinds", "PUTS"]
noncomputable abbrev hook : Hook := kHook heap_39 adrs (fun _ => by kernel_rfl)
noncomputable abbrev xt : Shared → Bool := fun s => xlAt view_39 [] s && recOk PySem.Challenge.rw_uf030026_11.row.records s
set_option maxRecDepth 1000000
set_option maxHeartbeats 0
theorem bo : ∀ w : World, (fencedOpening treeTable PySem.Challenge.rw_uf030026_11.row.toRowW.1 w 3300).map (fun s => (s.heap, s.gens, s.drawn, s.toks)) = some (boot_heap w.params, Array.mk [], boot_drawn, boot_toks) := boot_open (by kernel_rfl) (by decide) (fun s => by kernel_rfl)
theorem use_boot {o : Option Shared} {h : Heap} {g : Array GenState} {d : Drawn} {t : Nat} (b : o.map (fun s => (s.heap, s.gens, s.drawn, s.toks)) = some (h, g, d, t)) {X : Type} {F : Shared → X} {x : X} (k : ∀ os, F ⟨h, g, d, t, os⟩ = x) : o.map F = some x := by
  obtain ⟨⟨h', g', d', t', os⟩, e, c⟩ := Option.map_eq_some_iff.mp b
  cases c
  rw [e]; exact congrArg some (k os)
noncomputable abbrev topr (w : World) (os : OsState) (x : Bool) : Option Shared := topFrom treeTable PySem.Challenge.rw_uf030026_11.row.toRowW.1 (w.withFollow "special-get-raises" x) 3300 ⟨boot_heap w.params, Array.mk [], boot_drawn, boot_toks, os⟩
theorem lw : looseW view_39 loos = loos := by kernel_rfl
noncomputable abbrev fC (L : List Str) (s : Shared) := ((seen ((recsOf view_39).map (·.name)) (ownsOf view_39) [] { s with gens := #[] }, s.heap.bltView, s.heap.keysOk L ((recsOf view_39).map (·.name)) ((litsOf view_39).map (·.1)) ((clssOf view_39 L).map (·.name)) && s.heap.accountedOkI (importedModules PySem.Challenge.rw_uf030026_11.row.toRowW.1.main.body) && s.heap.isNs mainGlobals && s.heap.isNs builtinsNs && tablesOk view_39 s.heap && xt s && (if true then s.gens.size == 0 else !leftWithCleanup s.gens), tabsOk view_39 s, pinSeenD view_39 (drecsOf view_39) s, plainSeenE view_39 L s, plainSeenD view_39 loos s, wideSeen view_39 s, clsSeenW view_39 loos s), hook.obs s)
noncomputable abbrev gC (L : List Str) (w : World) := ((expectedOf view_39, bltViewBooted, true, true, pinGoodD (drecsOf view_39), plainGoodE view_39 L, plainGoodD view_39 loos, wideGood view_39, clsGoodW view_39 loos), hook.val w)
theorem half (w : World) (os : OsState) : (topr w os false).map (fC loos) = some (gC loos (w.withFollow "special-get-raises" false)) := by kernel_rfl
theorem half' (w : World) (os : OsState) : (topr w os true).map (fC loos) = some (gC loos (w.withFollow "special-get-raises" true)) := by kernel_rfl
theorem whol (w : World) (os : OsState) (x : Bool) (h : (topr w os x).map (fC loos) = some (gC loos (w.withFollow "special-get-raises" x))) : (topr w os x).map (fun s => (openSeen view_39 loos (importedModules PySem.Challenge.rw_uf030026_11.row.toRowW.1.main.body) xt true s, hook.obs s)) = some (openGood view_39 loos, hook.val (w.withFollow "special-get-raises" x)) := by
  replace h : (topr w os x).map (fC (looseW view_39 loos)) = some (gC (looseW view_39 loos) (w.withFollow "special-get-raises" x)) := by rw [lw]; exact h
  exact h
theorem left : LeftO PySem.Challenge.rw_uf030026_11.row.toRowW.1 view_39 loos xt hook.obs hook.val 3300 := LeftO.of_split "special-get-raises" fun w => use_boot (bo w) fun os => congr (congrArg Prod.mk (whol w os false (half w os))) (whol w os true (half' w os))
end Mine.hd
end
section
open PySem
namespace Mine
set_option genSizeOf false
set_option genInjectivity false
set_option autoImplicit false

/-- abstract values -/
inductive PV where
  | none
  | bool (b : Bool)
  | int (i : Int)
  | str (s : Str)
  | tup (xs : List PV)
  | obj (a : Addr)
  | exc (c : Nat)
  | fls (xs : List Int)
  | fdt (kvs : List (Str × PV))
  | rng (n : Int)

/-- abstract objects -/
inductive AObj where
  | list (xs : List PV)
  | dict (kvs : List (Str × PV))
  | tape (n : Nat)
  | inst (d : Addr)
  | attrs (kvs : List (Str × PV))

abbrev AHeap := Addr → Option AObj
abbrev Loc := List (Option PV)
abbrev Post := PV → AHeap → Prop
abbrev BPost := Bool → AHeap → Prop
abbrev XPost := Nat → AHeap → Prop
abbrev CallSpec := Str → List PV → AHeap → Post → XPost → Prop

noncomputable def Ext (H H' : AHeap) : Prop := ∀ b o, H b = some o → H' b = some o
noncomputable def ExtB (a : Addr) (H H' : AHeap) : Prop := ∀ b o, b ≠ a → H b = some o → H' b = some o

inductive Blt where
  | len | list | tuple | range | max | min | int | str | all | any | abs
noncomputable def Blt.name : Blt → String
  | .len => "len" | .list => "list" | .tuple => "tuple" | .range => "range" | .max => "max" | .min => "min" | .int => "int" | .str => "str" | .all => "all" | .any => "any" | .abs => "abs"

inductive Meth where
  | append | pop | dpop | insert | count | join
noncomputable def Meth.name : Meth → String
  | .append => "append" | .pop => "pop" | .dpop => "pop" | .insert => "insert" | .count => "count" | .join => "join"

inductive ICls where
  | str | list | tuple | bool | int | intstr | value | own (c : Nat) (x : Str)

set_option genSizeOf false
set_option genInjectivity false
mutual
inductive AE where
  | lit (c : Const) (k : Nat) (p : Pos)
  | var (i : Nat) (p : Pos)
  | glob (x : Str) (p : Pos)
  | bin (l : AE) (o : Operator) (r : AE) (p : Pos)
  | neg (e : AE) (p : Pos)
  | not (e : AE) (p : Pos)
  | bop (o : BoolOp) (es : AEs) (p : Pos)
  | cmp (l : AE) (o : CmpOp) (r : AE) (p : Pos)
  | sub (e i : AE) (p : Pos)
  | sfrom (e i : AE) (ps p : Pos)
  | sto (e i : AE) (ps p : Pos)
  | srev (e : AE) (c ps p : Pos) (cu : Pos)
  | tup (es : AEs) (k : Nat) (p : Pos)
  | list (es : AEs) (p : Pos)
  | tape (pc p : Pos)
  | dict (ks : List (Str × Pos)) (vs : AEs) (p : Pos)
  | call (f : Str) (es : AEs) (pf p : Pos)
  | blt (b : Blt) (es : AEs) (pf p : Pos)
  | isi (e : AE) (c : ICls) (pf p1 p2 p3 p : Pos)
  | meth (o : AE) (nm : Meth) (es : AEs) (pa p : Pos)
  | umeth (o : AE) (c : Str) (nm : Str) (es : AEs) (pa p : Pos)
  | attr (o : AE) (nm : Str) (p : Pos)
  | new (es : AEs) (pf p : Pos)
  | comp (elt : AE) (x : Nat) (px : Pos) (it : AE) (cs : AEs) (sc : Scope) (p : Pos)
inductive AEs where
  | nil
  | cons (e : AE) (es : AEs)
end

mutual
inductive AS where
  | expr (e : AE) (p : Pos)
  | assign (x : Nat) (px : Pos) (e : AE) (p : Pos)
  | assignT (xs : List (Nat × Pos)) (k : Nat) (pt : Pos) (e : AE) (p : Pos)
  | store (o i : AE) (ps : Pos) (e : AE) (p : Pos)
  | sattr (o : AE) (nm : Str) (pa : Pos) (e : AE) (p : Pos)
  | ite (c : AE) (a b : ASs) (p : Pos)
  | for (x : Nat) (px : Pos) (it : AE) (b : ASs) (p : Pos)
  | while (c : AE) (b : ASs) (p : Pos)
  | ret (e : AE) (p : Pos)
  | ret0 (p : Pos)
  | raise (c : Nat) (x : Str) (msg : Str) (k : Nat) (pc pm pk p : Pos)
  | try (b : ASs) (hs : AHs) (p : Pos)
inductive ASs where
  | nil
  | cons (s : AS) (ss : ASs)
inductive AHs where
  | nil
  | cons (c : Nat) (x : Str) (px : Pos) (y : Option Nat) (b : ASs) (p : Pos) (hs : AHs)
end

set_option genSizeOf true
set_option genInjectivity true
section toSyntax
variable (nm : List Str)
noncomputable def slot (i : Nat) : Str := nm.getD i Str.empty
noncomputable def ICls.expr (p1 p2 p3 : Pos) : ICls → Expr
  | .str => .Name "str" p1
  | .list => .Name "list" p1
  | .tuple => .Name "tuple" p1
  | .bool => .Name "bool" p1
  | .int => .Name "int" p1
  | .intstr => .Tuple [.Name "int" p2, .Name "str" p3] 0 p1
  | .value => .Name "ValueError" p1
  | .own _ x => .Name x p1
mutual
noncomputable def AE.toE : AE → Expr
  | .lit c k p => .Constant c k p
  | .var i p => .Name (slot nm i) p
  | .glob x p => .Name x p
  | .bin l o r p => .BinOp l.toE o r.toE p
  | .neg e p => .UnaryOp .USub e.toE p
  | .not e p => .UnaryOp .Not e.toE p
  | .bop o es p => .BoolOp o es.toEs p
  | .cmp l o r p => .Compare l.toE [o] [r.toE] p
  | .sub e i p => .Subscript e.toE i.toE p
  | .sfrom e i ps p => .Subscript e.toE (.Slice (some i.toE) none none ps) p
  | .sto e i ps p => .Subscript e.toE (.Slice none (some i.toE) none ps) p
  | .srev e c ps p cu => .Subscript e.toE (.Slice none none (some (.UnaryOp .USub (.Constant (.int 1) 0 c) cu)) ps) p
  | .tup es k p => .Tuple es.toEs k p
  | .list es p => .List es.toEs p
  | .tape pc p => .List [.Constant (.int 0) 0 pc] p
  | .dict ks vs p => .Dict (ks.map fun x => some (.Constant (.str x.1) 0 x.2)) vs.toEs p
  | .call f es pf p => .Call (.Name f pf) es.toEs [] p
  | .blt b es pf p => .Call (.Name b.name pf) es.toEs [] p
  | .isi e c pf p1 p2 p3 p => .Call (.Name "isinstance" pf) [e.toE, c.expr p1 p2 p3] [] p
  | .meth o m es pa p => .Call (.Attribute o.toE m.name pa) es.toEs [] p
  | .umeth o _ m es pa p => .Call (.Attribute o.toE m pa) es.toEs [] p
  | .attr o m p => .Attribute o.toE m p
  | .new es pf p => .Call (.Name "Machine" pf) es.toEs [] p
  | .comp elt x px it cs sc p => .ListComp elt.toE [{ target := .Name (slot nm x) px, iter := it.toE, ifs := cs.toEs, is_async := 0 }] sc p
noncomputable def AEs.toEs : AEs → List Expr
  | .nil => []
  | .cons e es => e.toE :: es.toEs
end
mutual
noncomputable def AS.toS : AS → Stmt
  | .expr e p => .Expr (e.toE nm) p
  | .assign x px e p => .Assign [.Name (slot nm x) px] (e.toE nm) p
  | .assignT xs k pt e p => .Assign [.Tuple (xs.map fun x => .Name (slot nm x.1) x.2) k pt] (e.toE nm) p
  | .store o i ps e p => .Assign [.Subscript (o.toE nm) (i.toE nm) ps] (e.toE nm) p
  | .sattr o n pa e p => .Assign [.Attribute (o.toE nm) n pa] (e.toE nm) p
  | .ite c a b p => .If (c.toE nm) a.toSs b.toSs p
  | .for x px it b p => .For (.Name (slot nm x) px) (it.toE nm) b.toSs [] p
  | .while c b p => .While (c.toE nm) b.toSs [] p
  | .ret e p => .Return (some (e.toE nm)) p
  | .ret0 p => .Return none p
  | .raise _ x msg k pc pm pk p => .Raise (some (.Call (.Name x pc) [.Constant (.str msg) k pm] [] pk)) none p
  | .try b hs p => .Try b.toSs hs.toHs [] [] p
noncomputable def ASs.toSs : ASs → List Stmt
  | .nil => []
  | .cons s ss => s.toS :: ss.toSs
noncomputable def AHs.toHs : AHs → List ExceptHandler
  | .nil => []
  | .cons _ x px y b p hs => .ExceptHandler (some (.Name x px)) (y.map (slot nm)) b.toSs p :: hs.toHs
end
end toSyntax

/-! the abstract semantics -/
noncomputable def LIM : Nat := 1048576
noncomputable def getO (H : AHeap) (a : Addr) (K : AObj → Prop) : Prop := ∃ o, H a = some o ∧ K o
noncomputable def alloc (o : AObj) (Q : Post) (H : AHeap) : Prop := ∀ a H', H a = none → H' a = some o → Ext H H' → Q (.obj a) H'
noncomputable def mutate (a : Addr) (o : AObj) (K : AHeap → Prop) (H : AHeap) : Prop := ∀ H', H' a = some o → ExtB a H H' → K H'

noncomputable def dget {α : Type} (kvs : List (Str × α)) (k : Str) : Option α := (kvs.find? fun p => decide (p.1 = k)).map (·.2)
noncomputable def dset {α : Type} (kvs : List (Str × α)) (k : Str) (v : α) : List (Str × α) :=
  if kvs.any (fun p => decide (p.1 = k)) then kvs.map (fun p => if p.1 = k then (p.1, v) else p) else kvs ++ [(k, v)]

inductive EqA : PV → PV → Bool → Prop
  | bool (a b : Bool) : EqA (.bool a) (.bool b) (a == b)
  | int (a b : Int) : EqA (.int a) (.int b) (a == b)
  | str (a b : Str) : EqA (.str a) (.str b) (a == b)
  | intstr (a : Int) (b : Str) : EqA (.int a) (.str b) false
  | strint (a : Str) (b : Int) : EqA (.str a) (.int b) false
mutual
inductive EqV (H : AHeap) : Nat → PV → PV → Bool → Prop
  | atom {n : Nat} {p q : PV} {b : Bool} : EqA p q b → EqV H n p q b
  | tup {n : Nat} {xs ys : List PV} {b : Bool} : EqL H n xs ys b → EqV H (n + 1) (.tup xs) (.tup ys) b
  | list {n : Nat} {a b : Addr} {xs ys : List PV} {r : Bool} : H a = some (.list xs) → H b = some (.list ys) → EqL H n xs ys r → EqV H (n + 1) (.obj a) (.obj b) r
inductive EqL (H : AHeap) : Nat → List PV → List PV → Bool → Prop
  | nil {n : Nat} : EqL H n [] [] true
  | l {n : Nat} (x : PV) (xs : List PV) : EqL H n (x :: xs) [] false
  | r {n : Nat} (y : PV) (ys : List PV) : EqL H n [] (y :: ys) false
  | c {n : Nat} {x y : PV} {xs ys : List PV} {a b : Bool} : EqV H n x y a → EqL H n xs ys b → EqL H n (x :: xs) (y :: ys) (a && b)
end
theorem EqV.bool {H : AHeap} {n : Nat} (a b : Bool) : EqV H n (.bool a) (.bool b) (a == b) := .atom (.bool a b)
theorem EqV.int {H : AHeap} {n : Nat} (a b : Int) : EqV H n (.int a) (.int b) (a == b) := .atom (.int a b)
theorem EqV.str {H : AHeap} {n : Nat} (a b : Str) : EqV H n (.str a) (.str b) (a == b) := .atom (.str a b)
inductive EqD (H : AHeap) : List (Str × PV) → List (Str × PV) → Bool → Prop
  | nil {ys : List (Str × PV)} : EqD H ys [] true
  | miss {ys xs : List (Str × PV)} {k : Str} {v : PV} : dget ys k = none → EqD H ys ((k, v) :: xs) false
  | c {ys xs : List (Str × PV)} {k : Str} {v w : PV} {a b : Bool} : dget ys k = some w → EqV H 40 v w a → EqD H ys xs b → EqD H ys ((k, v) :: xs) (a && b)
inductive EqT (H : AHeap) : PV → PV → Bool → Prop
  | val {v w : PV} {b : Bool} : EqV H 40 v w b → EqT H v w b
  | dict {a b : Addr} {xs ys : List (Str × PV)} {r : Bool} : H a = some (.dict xs) → H b = some (.dict ys) → xs.length = ys.length → EqD H ys xs r → EqT H (.obj a) (.obj b) r
  | dictlen {a b : Addr} {xs ys : List (Str × PV)} : H a = some (.dict xs) → H b = some (.dict ys) → xs.length ≠ ys.length → EqT H (.obj a) (.obj b) false

noncomputable def litW (c : Const) (Q : Post) (H : AHeap) : Prop :=
  match c with
  | .none => Q .none H
  | .bool b => Q (.bool b) H
  | .int i => Q (.int i) H
  | .str s => Q (.str s) H
  | _ => False
noncomputable def varW (v : Option PV) (Q : Post) (H : AHeap) : Prop :=
  match v with
  | some v => Q v H
  | none => False
noncomputable def truthW (v : PV) (K : Bool → Prop) : Prop :=
  match v with
  | .bool b => K b
  | _ => False
noncomputable def repL (n : Int) (xs : List PV) : List PV := (List.replicate n.toNat xs).flatten
inductive BinW (Q : Post) (H : AHeap) : Operator → PV → PV → Prop
  | addI (a b : Int) (h : Q (.int (a + b)) H) : BinW Q H .Add (.int a) (.int b)
  | subI (a b : Int) (h : Q (.int (a - b)) H) : BinW Q H .Sub (.int a) (.int b)
  | mulI (a b : Int) (k : a.natAbs < 2 ^ 60 ∨ b.natAbs < 2 ^ 60) (h : Q (.int (a * b)) H) : BinW Q H .Mult (.int a) (.int b)
  | modI (a b : Int) (k : 0 < b) (h : Q (.int (a % b)) H) : BinW Q H .Mod (.int a) (.int b)
  | divI (a b : Int) (k : 0 < b) (k' : b < 1073741824) (h : Q (.int (a / b)) H) : BinW Q H .FloorDiv (.int a) (.int b)
  | powI (h : Q (.int 1000000000) H) : BinW Q H .Pow (.int 10) (.int 9)
  | addS (a b : Str) (k : a.length + b.length ≤ LIM) (h : Q (.str (a ++ b)) H) : BinW Q H .Add (.str a) (.str b)
  | addT (a b : List PV) (k : a.length + b.length ≤ LIM) (h : Q (.tup (a ++ b)) H) : BinW Q H .Add (.tup a) (.tup b)
  | addL (a b : Addr) (xs ys : List PV) (ha : H a = some (.list xs)) (hb : H b = some (.list ys)) (k : xs.length + ys.length ≤ LIM) (h : alloc (.list (xs ++ ys)) Q H) : BinW Q H .Add (.obj a) (.obj b)
  | mulL (a : Addr) (n : Int) (xs : List PV) (ha : H a = some (.list xs)) (k1 : n ≤ LIM) (k2 : -LIM ≤ n) (k3 : xs.length * n.toNat ≤ LIM) (h : alloc (.list (repL n xs)) Q H) : BinW Q H .Mult (.obj a) (.int n)
/-- a told value, or a rule -/
noncomputable def pureOr {α : Type} (f : Option α) (K : α → Prop) (R : Prop) : Prop := match f with
  | some a => K a
  | none => R
theorem pureOr.to {α : Type} {f : Option α} {K : α → Prop} {R : Prop} (h : pureOr f K R) (k : ∀ a, f = some a → K a → R) : R := by
  cases f with
  | none => exact h
  | some a => exact k a rfl h
noncomputable def intF (op : Operator) (a b : Int) : Option Int := match op with
  | .Add => some (a + b)
  | .Sub => some (a - b)
  | .Mod => if 0 < b then some (a % b) else none
  | .FloorDiv => if 0 < b then if b < 1073741824 then some (a / b) else none else none
  | _ => none
noncomputable def binF (op : Operator) (v w : PV) : Option PV := match v with
  | .int a => (match w with
    | .int b => (match intF op a b with | some i => some (.int i) | none => none)
    | _ => none)
  | _ => none
noncomputable def binW (op : Operator) (v w : PV) (Q : Post) (H : AHeap) : Prop := pureOr (binF op v w) (fun u => Q u H) (BinW Q H op v w)
noncomputable def hasKey (kvs : List (Str × PV)) (k : Str) : Bool := (dget kvs k).isSome
noncomputable def isN : PV → Bool
  | .none => true
  | _ => false
inductive CmpW (K : Bool → Prop) (H : AHeap) : CmpOp → PV → PV → Prop
  | eq {v w : PV} {b : Bool} (e : EqT H v w b) (h : K b) : CmpW K H .Eq v w
  | ne {v w : PV} {b : Bool} (e : EqT H v w b) (h : K (!b)) : CmpW K H .NotEq v w
  | lt (a b : Int) (h : K (decide (a < b))) : CmpW K H .Lt (.int a) (.int b)
  | le (a b : Int) (h : K (decide (a ≤ b))) : CmpW K H .LtE (.int a) (.int b)
  | gt (a b : Int) (h : K (decide (b < a))) : CmpW K H .Gt (.int a) (.int b)
  | isN {v : PV} (h : K (Mine.isN v)) : CmpW K H .Is v .none
  | niN {v : PV} (h : K (!Mine.isN v)) : CmpW K H .IsNot v .none
  | isB {a b : Bool} (h : K (a == b)) : CmpW K H .Is (.bool a) (.bool b)
  | niB {a b : Bool} (h : K (a != b)) : CmpW K H .IsNot (.bool a) (.bool b)
  | inD {k : Str} {a : Addr} {kvs : List (Str × PV)} (ha : H a = some (.dict kvs)) (h : K (hasKey kvs k)) : CmpW K H .In (.str k) (.obj a)
  | niD {k : Str} {a : Addr} {kvs : List (Str × PV)} (ha : H a = some (.dict kvs)) (h : K (!hasKey kvs k)) : CmpW K H .NotIn (.str k) (.obj a)
  | inL {k : Str} {a : Addr} {ks : List Str} (ha : H a = some (.list (ks.map .str))) (h : K (decide (k ∈ ks))) : CmpW K H .In (.str k) (.obj a)
  | niL {k : Str} {a : Addr} {ks : List Str} (ha : H a = some (.list (ks.map .str))) (h : K (!decide (k ∈ ks))) : CmpW K H .NotIn (.str k) (.obj a)
noncomputable def cmpI (op : CmpOp) (a b : Int) : Option Bool := match op with
  | .Eq => some (a == b)
  | .NotEq => some (!(a == b))
  | .Lt => some (decide (a < b))
  | .LtE => some (decide (a ≤ b))
  | .Gt => some (decide (b < a))
  | _ => none
noncomputable def cmpS (op : CmpOp) (a b : Str) : Option Bool := match op with
  | .Eq => some (a == b)
  | .NotEq => some (!(a == b))
  | _ => none
noncomputable def noneF (op : CmpOp) (v : PV) : Option Bool := match op with
  | .Is => some (isN v)
  | .IsNot => some (!isN v)
  | _ => none
noncomputable def cmpF (op : CmpOp) (v w : PV) : Option Bool := match v with
  | .int a => (match w with | .int b => cmpI op a b | _ => none)
  | .str a => (match w with | .str b => cmpS op a b | _ => none)
  | v => (match w with | .none => noneF op v | _ => none)
noncomputable def cmpW (op : CmpOp) (v w : PV) (Q : BPost) (H : AHeap) : Prop := pureOr (cmpF op v w) (fun b => Q b H) (CmpW (fun b => Q b H) H op v w)
noncomputable def itemAt {α : Type} (xs : List α) (k : Int) : Option α :=
  if 0 ≤ k then xs[k.toNat]? else if 0 ≤ k + xs.length then xs[(k + xs.length).toNat]? else none
noncomputable def signAt (s : Str) (k : Int) : Option Str := (itemAt s.cps.toList k).map fun c => ⟨#[c]⟩
inductive SubW (Q : Post) (H : AHeap) : PV → PV → Prop
  | tup {xs : List PV} {k : Int} {x : PV} (e : itemAt xs k = some x) (h : Q x H) : SubW Q H (.tup xs) (.int k)
  | str {s x : Str} {k : Int} (l : s.length ≤ LIM) (e : signAt s k = some x) (h : Q (.str x) H) : SubW Q H (.str s) (.int k)
  | fls {xs : List Int} {k x : Int} (e : itemAt xs k = some x) (h : Q (.int x) H) : SubW Q H (.fls xs) (.int k)
  | fdt {kvs : List (Str × PV)} {k : Str} {x : PV} (e : dget kvs k = some x) (h : Q x H) : SubW Q H (.fdt kvs) (.str k)
  | list {a : Addr} {xs : List PV} {k : Int} {x : PV} (ha : H a = some (.list xs)) (e : itemAt xs k = some x) (h : Q x H) : SubW Q H (.obj a) (.int k)
  | dict {a : Addr} {kvs : List (Str × PV)} {k : Str} {x : PV} (ha : H a = some (.dict kvs)) (e : dget kvs k = some x) (h : Q x H) : SubW Q H (.obj a) (.str k)
  | tape {a : Addr} {n : Nat} (ha : H a = some (.tape n)) (h : Q (.int n) H) : SubW Q H (.obj a) (.int 0)
noncomputable def subF (v i : PV) : Option PV := match v with
  | .tup xs => (match i with | .int k => itemAt xs k | _ => none)
  | _ => none
noncomputable def subW (v i : PV) (Q : Post) (H : AHeap) : Prop := pureOr (subF v i) (fun u => Q u H) (SubW Q H v i)
/-- where a cut falls in a row of n -/
noncomputable def cutAt (n : Nat) (k : Int) : Nat := if 0 ≤ k then min k.toNat n else (k + n).toNat
inductive FromW (Q : Post) (H : AHeap) : PV → PV → Prop
  | tup {xs : List PV} {k : Int} (h : Q (.tup (xs.drop (cutAt xs.length k))) H) : FromW Q H (.tup xs) (.int k)
  | str {s : Str} {k : Int} (l : s.length ≤ LIM) (h : Q (.str ⟨(s.cps.toList.drop (cutAt s.length k)).toArray⟩) H) : FromW Q H (.str s) (.int k)
  | list {a : Addr} {xs : List PV} {k : Int} (ha : H a = some (.list xs)) (h : alloc (.list (xs.drop (cutAt xs.length k))) Q H) : FromW Q H (.obj a) (.int k)
inductive ToW (Q : Post) (H : AHeap) : PV → PV → Prop
  | tup {xs : List PV} {k : Int} (h : Q (.tup (xs.take (cutAt xs.length k))) H) : ToW Q H (.tup xs) (.int k)
  | str {s : Str} {k : Int} (l : s.length ≤ LIM) (h : Q (.str ⟨(s.cps.toList.take (cutAt s.length k)).toArray⟩) H) : ToW Q H (.str s) (.int k)
  | fls {xs : List Int} {k : Int} (h : alloc (.list ((xs.take (cutAt xs.length k)).map .int)) Q H) : ToW Q H (.fls xs) (.int k)
  | list {a : Addr} {xs : List PV} {k : Int} (ha : H a = some (.list xs)) (h : alloc (.list (xs.take (cutAt xs.length k))) Q H) : ToW Q H (.obj a) (.int k)
inductive RevW (Q : Post) (H : AHeap) : PV → Prop
  | list {a : Addr} {xs : List PV} (ha : H a = some (.list xs)) (h : alloc (.list xs.reverse) Q H) : RevW Q H (.obj a)
noncomputable def dictOf (ks : List Str) (vs : List PV) : List (Str × PV) := (ks.zip vs).foldl (fun d p => dset d p.1 p.2) []
inductive BltW (Q : Post) (H : AHeap) : Blt → List PV → Prop
  | lenT (xs : List PV) (h : Q (.int xs.length) H) : BltW Q H .len [.tup xs]
  | lenS (s : Str) (l : s.length ≤ LIM) (h : Q (.int s.length) H) : BltW Q H .len [.str s]
  | lenF (xs : List Int) (h : Q (.int xs.length) H) : BltW Q H .len [.fls xs]
  | lenL (a : Addr) (xs : List PV) (ha : H a = some (.list xs)) (h : Q (.int xs.length) H) : BltW Q H .len [.obj a]
  | lenD (a : Addr) (kvs : List (Str × PV)) (ha : H a = some (.dict kvs)) (h : Q (.int kvs.length) H) : BltW Q H .len [.obj a]
  | listT (xs : List PV) (h : alloc (.list xs) Q H) : BltW Q H .list [.tup xs]
  | listL (a : Addr) (xs : List PV) (ha : H a = some (.list xs)) (h : alloc (.list xs) Q H) : BltW Q H .list [.obj a]
  | listD (a : Addr) (kvs : List (Str × PV)) (ha : H a = some (.dict kvs)) (h : alloc (.list (kvs.map fun x => .str x.1)) Q H) : BltW Q H .list [.obj a]
  | tupT (xs : List PV) (h : Q (.tup xs) H) : BltW Q H .tuple [.tup xs]
  | tupL (a : Addr) (xs : List PV) (ha : H a = some (.list xs)) (h : Q (.tup xs) H) : BltW Q H .tuple [.obj a]
  | range (n : Int) (k : n.natAbs ≤ LIM) (h : Q (.rng n) H) : BltW Q H .range [.int n]
  | max (a b : Int) (h : Q (.int (if a < b then b else a)) H) : BltW Q H .max [.int a, .int b]
  | min (a b : Int) (h : Q (.int (if b < a then b else a)) H) : BltW Q H .min [.int a, .int b]
  | intB (b : Bool) (h : Q (.int (if b then 1 else 0)) H) : BltW Q H .int [.bool b]
  | strI (i : Int) (k : i.natAbs < 10 ^ 18) (h : Q (.str (Str.ofString (toString i))) H) : BltW Q H .str [.int i]
  | maxL (a : Addr) (ns : List Int) (ha : H a = some (.list (ns.map .int))) (k : 0 < ns.length) (h : ∀ M, M ∈ ns → (∀ x ∈ ns, x ≤ M) → Q (.int M) H) : BltW Q H .max [.obj a]
  | allL (a : Addr) (bs : List Bool) (ha : H a = some (.list (bs.map .bool))) (h : Q (.bool (bs.all id)) H) : BltW Q H .all [.obj a]
noncomputable def blt1 (b : Blt) (v : PV) : Option PV := match v with
  | .tup xs => (match b with | .len => some (.int xs.length) | .tuple => some (.tup xs) | _ => none)
  | .fls xs => (match b with | .len => some (.int xs.length) | _ => none)
  | .bool c => (match b with | .int => some (.int (if c then 1 else 0)) | _ => none)
  | _ => none
noncomputable def blt2 (b : Blt) (v w : PV) : Option PV := match v with
  | .int x => (match w with
    | .int y => (match b with | .max => some (.int (if x < y then y else x)) | .min => some (.int (if y < x then y else x)) | _ => none)
    | _ => none)
  | _ => none
noncomputable def bltF (b : Blt) (vs : List PV) : Option PV := match vs with
  | [v] => blt1 b v
  | [v, w] => blt2 b v w
  | _ => none
noncomputable def bltW (b : Blt) (vs : List PV) (Q : Post) (H : AHeap) : Prop := pureOr (bltF b vs) (fun u => Q u H) (BltW Q H b vs)
noncomputable def isSub (k c : Nat) : Bool := k == c || c == 0
noncomputable def ICls.basic : ICls → Bool
  | .str | .list | .tuple | .bool | .int => true
  | _ => false
noncomputable def ICls.hits (c : ICls) (t : Nat) : Bool := match c with
  | .bool => t == 1
  | .int => t == 1 || t == 2
  | .str => t == 3
  | .tuple => t == 4
  | .list => t == 5
  | _ => false
noncomputable def tagOf : PV → Option Nat
  | .none => some 0
  | .bool _ => some 1
  | .int _ => some 2
  | .str _ => some 3
  | .tup _ => some 4
  | _ => none
inductive IsiW (K : Bool → Prop) (H : AHeap) : ICls → PV → Prop
  | val {c : ICls} {v : PV} {t : Nat} (b : c.basic = true) (e : tagOf v = some t) (h : K (c.hits t)) : IsiW K H c v
  | list {c : ICls} {a : Addr} {xs : List PV} (b : c.basic = true) (ha : H a = some (.list xs)) (h : K (c.hits 5)) : IsiW K H c (.obj a)
  | isI {i : Int} (h : K true) : IsiW K H .intstr (.int i)
  | isS {s : Str} (h : K true) : IsiW K H .intstr (.str s)
noncomputable def isiF (c : ICls) (v : PV) : Option Bool := match c.basic with | true => (match tagOf v with | some t => some (c.hits t) | none => none) | false => none
noncomputable def isiW (c : ICls) (v : PV) (K : Bool → Prop) (H : AHeap) : Prop := pureOr (isiF c v) K (IsiW K H c v)
inductive MethW (Q : Post) (H : AHeap) : Meth → PV → List PV → Prop
  | append (a : Addr) (xs : List PV) (x : PV) (ha : H a = some (.list xs)) (k : xs.length < LIM) (h : mutate a (.list (xs ++ [x])) (fun H' => Q .none H') H) : MethW Q H .append (.obj a) [x]
  | join (s : Str) (a : Addr) (ss : List Str) (ha : H a = some (.list (ss.map .str))) (e : s.length = 0) (k : (ss.map (·.length)).sum ≤ LIM) (h : Q (.str (Str.join s ss)) H) : MethW Q H .join (.str s) [.obj a]
noncomputable def methW (m : Meth) (v : PV) (vs : List PV) (Q : Post) (H : AHeap) : Prop := MethW Q H m v vs
noncomputable def Meth.onL : Meth → Bool
  | .append | .pop | .insert | .count => true
  | _ => false
inductive RecvW (P : Prop) (H : AHeap) : Meth → PV → Prop
  | list {m : Meth} {a : Addr} {xs : List PV} (ha : H a = some (.list xs)) (k : m.onL = true) (h : P) : RecvW P H m (.obj a)
  | str {s : Str} (h : P) : RecvW P H .join (.str s)
/-- what a loop goes over, and what must stay so -/
inductive ItemsW (K : List PV → (AHeap → Prop) → Prop) (H : AHeap) : PV → Prop
  | tup {xs : List PV} (h : K xs fun _ => True) : ItemsW K H (.tup xs)
  | rng {n : Int} (h : K ((List.range n.toNat).map fun (i : Nat) => .int i) fun _ => True) : ItemsW K H (.rng n)
  | list {a : Addr} {xs : List PV} (ha : H a = some (.list xs)) (h : K xs fun H' => H' a = some (.list xs)) : ItemsW K H (.obj a)
noncomputable def itemsF (v : PV) : Option (List PV) := match v with
  | .tup xs => some xs
  | .rng n => some ((List.range n.toNat).map fun (i : Nat) => .int i)
  | _ => none
noncomputable def itemsW (v : PV) (K : List PV → (AHeap → Prop) → Prop) (H : AHeap) : Prop := pureOr (itemsF v) (fun xs => K xs fun _ => True) (ItemsW K H v)
noncomputable def compW (src : AHeap → Prop) (el : PV → (List PV → AHeap → Prop) → AHeap → Prop) (Q : List PV → AHeap → Prop) : List PV → List PV → AHeap → Prop
  | [], acc, H => src H ∧ Q acc H
  | x :: xs, acc, H => src H ∧ el x (fun vs H' => compW src el Q xs (acc ++ vs) H') H
noncomputable def forW (src : AHeap → Prop) (st : PV → (Loc → AHeap → Prop) → Loc → AHeap → Prop) (N : Loc → AHeap → Prop) : List PV → Loc → AHeap → Prop
  | [], m, H => src H ∧ N m H
  | x :: xs, m, H => src H ∧ st x (fun m' H' => forW src st N xs m' H') m H

noncomputable def boolW (o : BoolOp) (b : Bool) (stop go : Prop) : Prop := match o with
  | .And => if b then go else stop
  | .Or => if b then stop else go
/-! objects of the program's own class -/
inductive AttrW (Q : Post) (H : AHeap) (nm : Str) : PV → Prop
  | mk {a d : Addr} {kvs : List (Str × PV)} {x : PV} (ha : H a = some (.inst d)) (hd : H d = some (.attrs kvs)) (e : dget kvs nm = some x) (h : Q x H) : AttrW Q H nm (.obj a)
inductive UmW (P : Prop) (H : AHeap) (nm : Str) : PV → Prop
  | mk {a d : Addr} {kvs : List (Str × PV)} (ha : H a = some (.inst d)) (hd : H d = some (.attrs kvs)) (e : dget kvs nm = none) (h : P) : UmW P H nm (.obj a)
inductive SattrW (K : AHeap → Prop) (H : AHeap) (nm : Str) (x : PV) : PV → Prop
  | mk {a d : Addr} {kvs : List (Str × PV)} (ha : H a = some (.inst d)) (hd : H d = some (.attrs kvs)) (l : kvs.length < 100) (h : mutate d (.attrs (dset kvs nm x)) K H) : SattrW K H nm x (.obj a)
structure Gl where
  C : CallSpec
  G : Str → Option PV

noncomputable def newW (g : Gl) (vs : List PV) (Q : Post) (X : XPost) (H : AHeap) : Prop := ∀ a d H', H a = none → H d = none → H' a = some (.inst d) → H' d = some (.attrs []) → Ext H H' → g.C "Machine.__init__" (.obj a :: vs) H' (fun r H => r = .none ∧ Q (.obj a) H) X
section
variable (g : Gl)
mutual
noncomputable def awpE : AE → Post → XPost → Loc → AHeap → Prop
  | .lit c _ _, Q, _, _, H => litW c Q H
  | .var i _, Q, _, m, H => varW (m.getD i none) Q H
  | .glob x _, Q, _, _, H => varW (g.G x) Q H
  | .bin l o r _, Q, X, m, H => awpE l (fun v H => awpE r (fun w H => binW o v w Q H) X m H) X m H
  | .neg e _, Q, X, m, H => awpE e (fun v H => match v with | .int i => Q (.int (-i)) H | _ => False) X m H
  | .not e _, Q, X, m, H => awpE e (fun v H => truthW v fun b => Q (.bool !b) H) X m H
  | .bop o es _, Q, X, m, H => awpV o es Q X m H
  | .cmp l o r _, Q, X, m, H => awpE l (fun v H => awpE r (fun w H => cmpW o v w (fun b H => Q (.bool b) H) H) X m H) X m H
  | .sub e i _, Q, X, m, H => awpE e (fun v H => awpE i (fun w H => subW v w Q H) X m H) X m H
  | .sfrom e i _ _, Q, X, m, H => awpE e (fun v H => awpE i (fun w H => FromW Q H v w) X m H) X m H
  | .sto e i _ _, Q, X, m, H => awpE e (fun v H => awpE i (fun w H => ToW Q H v w) X m H) X m H
  | .srev e _ _ _ _, Q, X, m, H => awpE e (fun v H => RevW Q H v) X m H
  | .tup es _ _, Q, X, m, H => awpL es (fun vs H => Q (.tup vs) H) X m H
  | .list es _, Q, X, m, H => awpL es (fun vs H => alloc (.list vs) Q H) X m H
  | .tape _ _, Q, _, _, H => alloc (.tape 0) Q H
  | .dict ks es _, Q, X, m, H => awpL es (fun vs H => alloc (.dict (dictOf (ks.map (·.1)) vs)) Q H) X m H
  | .call f es _ _, Q, X, m, H => awpL es (fun vs H => g.C f vs H Q X) X m H
  | .blt b es _ _, Q, X, m, H => awpL es (fun vs H => bltW b vs Q H) X m H
  | .isi e c _ _ _ _ _, Q, X, m, H => awpE e (fun v H => isiW c v (fun b => Q (.bool b) H) H) X m H
  | .meth e n es _ _, Q, X, m, H => awpE e (fun v H => RecvW (awpL es (fun vs H => methW n v vs Q H) X m H) H n v) X m H
  | .umeth o c nm es _ _, Q, X, m, H => awpE o (fun v H => UmW (awpL es (fun vs H => g.C c (v :: vs) H Q X) X m H) H nm v) X m H
  | .attr o nm _, Q, X, m, H => awpE o (fun v H => AttrW Q H nm v) X m H
  | .new es _ _, Q, X, m, H => awpL es (fun vs H => newW g vs Q X H) X m H
  | .comp e x _ it cs _ _, Q, X, m, H => awpE it (fun v H => itemsW v (fun xs src =>
      compW src (fun y K H => awpC cs (fun b H => if b then awpE e (fun v H => K [v] H) (fun _ _ => False) (m.set x (some y)) H else K [] H) (fun _ _ => False) (m.set x (some y)) H)
        (fun vs H => alloc (.list vs) Q H) xs [] H) H) X m H
noncomputable def awpL : AEs → (List PV → AHeap → Prop) → XPost → Loc → AHeap → Prop
  | .nil, Q, _, _, H => Q [] H
  | .cons e es, Q, X, m, H => awpE e (fun v H => awpL es (fun vs H => Q (v :: vs) H) X m H) X m H
noncomputable def awpV : BoolOp → AEs → Post → XPost → Loc → AHeap → Prop
  | _, .nil, _, _, _, _ => False
  | _, .cons e .nil, Q, X, m, H => awpE e Q X m H
  | o, .cons e es, Q, X, m, H => awpE e (fun v H => truthW v fun b => boolW o b (Q v H) (awpV o es Q X m H)) X m H
noncomputable def awpB : AE → (Post → XPost → Loc → AHeap → Prop) → BPost → XPost → Loc → AHeap → Prop
  | .not e _, _, Q, X, m, H => awpB e (awpE e) (fun b H => Q (!b) H) X m H
  | .bop o es _, _, Q, X, m, H => awpBs o es Q X m H
  | .cmp l o r _, _, Q, X, m, H => awpE l (fun v H => awpE r (fun w H => cmpW o v w Q H) X m H) X m H
  | _, W, Q, X, m, H => W (fun v H => truthW v fun b => Q b H) X m H
noncomputable def awpBs : BoolOp → AEs → BPost → XPost → Loc → AHeap → Prop
  | o, .nil, Q, _, _, H => Q (o == .And) H
  | o, .cons e es, Q, X, m, H => awpB e (awpE e) (fun b H => boolW o b (Q (match o with | .And => false | .Or => true) H) (awpBs o es Q X m H)) X m H
noncomputable def awpC : AEs → BPost → XPost → Loc → AHeap → Prop
  | .nil, Q, _, _, H => Q true H
  | .cons e _, Q, X, m, H => awpB e (awpE e) Q X m H
end

abbrev NPost := Loc → AHeap → Prop
abbrev SXPost := Nat → Loc → AHeap → Prop
noncomputable def unpackW (v : PV) (n : Nat) (K : List PV → Prop) : Prop :=
  match v with
  | .tup xs => xs.length = n ∧ K xs
  | _ => False
noncomputable def setAll : List (Nat × Pos) → List PV → Loc → Loc
  | x :: xs, v :: vs, m => setAll xs vs (m.set x.1 (some v))
  | _, _, m => m
inductive StoreW (K : AHeap → Prop) (H : AHeap) : PV → PV → PV → Prop
  | list {a : Addr} {xs : List PV} {k : Int} {x : PV} (ha : H a = some (.list xs)) (k0 : 0 ≤ k) (k1 : k < xs.length) (h : mutate a (.list (xs.set k.toNat x)) K H) : StoreW K H (.obj a) (.int k) x
  | dict {a : Addr} {kvs : List (Str × PV)} {k : Str} {x : PV} (ha : H a = some (.dict kvs)) (l : kvs.length < LIM) (h : mutate a (.dict (dset kvs k x)) K H) : StoreW K H (.obj a) (.str k) x
  | tape {a : Addr} {n : Nat} {j : Int} (ha : H a = some (.tape n)) (j0 : 0 ≤ j) (h : mutate a (.tape j.toNat) K H) : StoreW K H (.obj a) (.int 0) (.int j)
mutual
noncomputable def awpS : AS → NPost → Post → SXPost → Loc → AHeap → Prop
  | .expr e _, N, _, X, m, H => awpE g e (fun _ H => N m H) (fun c H => X c m H) m H
  | .assign x _ e _, N, _, X, m, H => awpE g e (fun v H => N (m.set x (some v)) H) (fun c H => X c m H) m H
  | .assignT xs _ _ e _, N, _, X, m, H => awpE g e (fun v H => unpackW v xs.length fun vs => N (setAll xs vs m) H) (fun c H => X c m H) m H
  | .store o i _ e _, N, _, X, m, H => awpE g e (fun x H => awpE g o (fun v H => awpE g i (fun w H => StoreW (fun H => N m H) H v w x) (fun c H => X c m H) m H) (fun c H => X c m H) m H) (fun c H => X c m H) m H
  | .sattr o nm _ e _, N, _, X, m, H => awpE g e (fun x H => awpE g o (fun v H => SattrW (fun H => N m H) H nm x v) (fun c H => X c m H) m H) (fun c H => X c m H) m H
  | .ite c a b _, N, R, X, m, H => awpB g c (awpE g c) (fun t H => if t then awpSs a N R X m H else awpSs b N R X m H) (fun c H => X c m H) m H
  | .for x _ it b _, N, R, X, m, H => awpE g it (fun v H => itemsW v (fun xs src => forW src (fun y K m H => awpSs b K R X (m.set x (some y)) H) N xs m H) H) (fun c H => X c m H) m H
  | .while c b _, N, R, X, m, H => ∃ I : Nat → Loc → AHeap → Prop, (∃ k, I k m H) ∧ ∀ k m H, I k m H →
      awpB g c (awpE g c) (fun t H => if t then awpSs b (fun m H => ∃ j, j < k ∧ I j m H) R X m H else N m H) (fun c H => X c m H) m H
  | .ret e _, _, R, X, m, H => awpE g e R (fun c H => X c m H) m H
  | .ret0 _, _, R, _, _, H => R .none H
  | .raise c _ _ _ _ _ _ _, _, _, X, m, H => X c m H
  | .try b hs _, N, R, _, m, H => awpSs b N R (fun c m H => awpHs hs c N R m H) m H
noncomputable def awpSs : ASs → NPost → Post → SXPost → Loc → AHeap → Prop
  | .nil, N, _, _, m, H => N m H
  | .cons s ss, N, R, X, m, H => awpS s (fun m H => awpSs ss N R X m H) R X m H
noncomputable def awpHs : AHs → Nat → NPost → Post → Loc → AHeap → Prop
  | .nil, _, _, _, _, _ => False
  | .cons k _ _ y b _ hs, c, N, R, m, H =>
    if isSub c k then (match y with
      | none => awpSs b N R (fun _ _ _ => False) m H
      | some y => awpSs b (fun m H => N (m.set y none) H) R (fun _ _ _ => False) (m.set y (some (.exc c))) H)
    else awpHs hs c N R m H
end
end
end Mine
end
section
namespace Mine
inductive An3 (p0 p1 p2 : Prop) : Prop
  | mk (h0 : p0) (h1 : p1) (h2 : p2) : An3 p0 p1 p2
inductive An4 (p0 p1 p2 p3 : Prop) : Prop
  | mk (h0 : p0) (h1 : p1) (h2 : p2) (h3 : p3) : An4 p0 p1 p2 p3
inductive An5 (p0 p1 p2 p3 p4 : Prop) : Prop
  | mk (h0 : p0) (h1 : p1) (h2 : p2) (h3 : p3) (h4 : p4) : An5 p0 p1 p2 p3 p4
inductive An6 (p0 p1 p2 p3 p4 p5 : Prop) : Prop
  | mk (h0 : p0) (h1 : p1) (h2 : p2) (h3 : p3) (h4 : p4) (h5 : p5) : An6 p0 p1 p2 p3 p4 p5
inductive An8 (p0 p1 p2 p3 p4 p5 p6 p7 : Prop) : Prop
  | mk (h0 : p0) (h1 : p1) (h2 : p2) (h3 : p3) (h4 : p4) (h5 : p5) (h6 : p6) (h7 : p7) : An8 p0 p1 p2 p3 p4 p5 p6 p7
inductive An9 (p0 p1 p2 p3 p4 p5 p6 p7 p8 : Prop) : Prop
  | mk (h0 : p0) (h1 : p1) (h2 : p2) (h3 : p3) (h4 : p4) (h5 : p5) (h6 : p6) (h7 : p7) (h8 : p8) : An9 p0 p1 p2 p3 p4 p5 p6 p7 p8
inductive An10 (p0 p1 p2 p3 p4 p5 p6 p7 p8 p9 : Prop) : Prop
  | mk (h0 : p0) (h1 : p1) (h2 : p2) (h3 : p3) (h4 : p4) (h5 : p5) (h6 : p6) (h7 : p7) (h8 : p8) (h9 : p9) : An10 p0 p1 p2 p3 p4 p5 p6 p7 p8 p9
inductive An11 (p0 p1 p2 p3 p4 p5 p6 p7 p8 p9 p10 : Prop) : Prop
  | mk (h0 : p0) (h1 : p1) (h2 : p2) (h3 : p3) (h4 : p4) (h5 : p5) (h6 : p6) (h7 : p7) (h8 : p8) (h9 : p9) (h10 : p10) : An11 p0 p1 p2 p3 p4 p5 p6 p7 p8 p9 p10
inductive Ex1 {α0 : Type} (P : α0 → Prop) : Prop
  | mk (x0 : α0) (h : P x0) : Ex1 P
inductive Ex2 {α0 : Type} {α1 : Type} (P : α0 → α1 → Prop) : Prop
  | mk (x0 : α0) (x1 : α1) (h : P x0 x1) : Ex2 P
inductive Ex3 {α0 : Type} {α1 : Type} {α2 : Type} (P : α0 → α1 → α2 → Prop) : Prop
  | mk (x0 : α0) (x1 : α1) (x2 : α2) (h : P x0 x1 x2) : Ex3 P
inductive Ex5 {α0 : Type} {α1 : Type} {α2 : Type} {α3 : Type} {α4 : Type} (P : α0 → α1 → α2 → α3 → α4 → Prop) : Prop
  | mk (x0 : α0) (x1 : α1) (x2 : α2) (x3 : α3) (x4 : α4) (h : P x0 x1 x2 x3 x4) : Ex5 P
inductive Ex6 {α0 : Type} {α1 : Type} {α2 : Type} {α3 : Type} {α4 : Type} {α5 : Type} (P : α0 → α1 → α2 → α3 → α4 → α5 → Prop) : Prop
  | mk (x0 : α0) (x1 : α1) (x2 : α2) (x3 : α3) (x4 : α4) (x5 : α5) (h : P x0 x1 x2 x3 x4 x5) : Ex6 P
inductive Ex4 {α0 : Type} {α1 : Type} {α2 : Type} {α3 : Type} (P : α0 → α1 → α2 → α3 → Prop) : Prop
  | mk (x0 : α0) (x1 : α1) (x2 : α2) (x3 : α3) (h : P x0 x1 x2 x3) : Ex4 P
inductive An7 (p0 p1 p2 p3 p4 p5 p6 : Prop) : Prop
  | mk (h0 : p0) (h1 : p1) (h2 : p2) (h3 : p3) (h4 : p4) (h5 : p5) (h6 : p6) : An7 p0 p1 p2 p3 p4 p5 p6
inductive An12 (p0 p1 p2 p3 p4 p5 p6 p7 p8 p9 p10 p11 : Prop) : Prop
  | mk (h0 : p0) (h1 : p1) (h2 : p2) (h3 : p3) (h4 : p4) (h5 : p5) (h6 : p6) (h7 : p7) (h8 : p8) (h9 : p9) (h10 : p10) (h11 : p11) : An12 p0 p1 p2 p3 p4 p5 p6 p7 p8 p9 p10 p11
inductive An2 (p0 p1 : Prop) : Prop
  | mk (h0 : p0) (h1 : p1) : An2 p0 p1
theorem bd0 {n j k : Nat} (h : n < 2 ^ j) (e : 2 ^ j ≤ 2 ^ k) : n < 2 ^ k := Nat.lt_of_lt_of_le h e
theorem bd1 {n c j k : Nat} (h : n < 2 ^ j) (e : 2 ^ j + c ≤ 2 ^ k) : n + c < 2 ^ k := Nat.lt_of_lt_of_le (Nat.add_lt_add_right h c) e
theorem bd2 {n n' c d j k : Nat} (h : n < 2 ^ j) (q : n' ≤ n + c) (e : 2 ^ j + c + d ≤ 2 ^ k) : n' + d < 2 ^ k := Nat.lt_of_lt_of_le (Nat.add_lt_add_right (Nat.lt_of_le_of_lt q (Nat.add_lt_add_right h c)) d) e
theorem bd3 {n n' c j k : Nat} (h : n < 2 ^ j) (q : n' ≤ n + c) (e : 2 ^ j + c ≤ 2 ^ k) : n' < 2 ^ k := Nat.lt_of_lt_of_le (Nat.lt_of_le_of_lt q (Nat.add_lt_add_right h c)) e
end Mine
end
section
open PySem PySem.Calls PyProof.Rows
namespace Mine
set_option autoImplicit false

structure Cx where
  prog : Program
  w : World
  B : Heap
  cls : Nat → Option Addr
  icls : Option Addr
  mN : Str → Option Value
  ga : Addr
  ba : Addr
abbrev Cx.M (cx : Cx) : Model := model cx.prog cx.w
abbrev Cx.sk (cx : Cx) : KeyKind cx.prog cx.w Str := PySem.strKind cx.prog cx.w

noncomputable def tupObj (items : Array Value) (n : Nat) : Obj := { cls := .type "tuple", data := .seq items n }
noncomputable def lstObj (items : Array Value) (n : Nat) : Obj := { cls := .type "list", data := .seq items n }
noncomputable def rngObj (n : Int) (t u v : Tok) : Obj := { cls := .type "range", dict := none, data := .fields #[.int 0 t, .int n u, .int 1 v], slots := #[] }
noncomputable def insObj (C d : Addr) : Obj := { cls := .ref C, dict := some d }

mutual
inductive Rep (cx : Cx) (h : Heap) : Value → PV → Prop
  | none : Rep cx h .none .none
  | bool (b : Bool) : Rep cx h (.bool b) (.bool b)
  | int (i : Int) (t : Tok) : Rep cx h (.int i t) (.int i)
  | str (x : Str) (t : Tok) : Rep cx h (.str x t) (.str x)
  | tup {a : Addr} {items : Array Value} {n : Nat} {xs : List PV} : h.get? a = some (tupObj items n) → xs.length ≤ LIM → RepL cx h items.toList xs → Rep cx h (.ref a) (.tup xs)
  | obj (a : Addr) : Rep cx h (.ref a) (.obj a)
  | exc {e : Addr} {o : Obj} {vs : Array Value} {c : Nat} {C : Addr} : h.get? e = some o → o.cls = .ref C → o.data = .fields vs → cx.cls c = some C → o.dict = none → Rep cx h (.ref e) (.exc c)
  | fls {a : Addr} {items : Array Value} {ns : List Int} : cx.B.IsList a items → IntsAre items.toList ns → ns.length ≤ LIM → Rep cx h (.ref a) (.fls ns)
  | fdt {a : Addr} {vs : List (Str × Value)} {kvs : List (Str × PV)} : cx.B.DictOf cx.sk a vs → RepK cx h vs kvs → Rep cx h (.ref a) (.fdt kvs)
  | rng {a : Addr} {n : Int} {t u v : Tok} : h.get? a = some (rngObj n t u v) → n.natAbs ≤ LIM → Rep cx h (.ref a) (.rng n)
inductive RepL (cx : Cx) (h : Heap) : List Value → List PV → Prop
  | nil : RepL cx h [] []
  | cons {v : Value} {p : PV} {vs : List Value} {ps : List PV} : Rep cx h v p → RepL cx h vs ps → RepL cx h (v :: vs) (p :: ps)
inductive RepK (cx : Cx) (h : Heap) : List (Str × Value) → List (Str × PV) → Prop
  | nil : RepK cx h [] []
  | cons {k : Str} {v : Value} {p : PV} {vs : List (Str × Value)} {ps : List (Str × PV)} : Rep cx h v p → RepK cx h vs ps → RepK cx h ((k, v) :: vs) ((k, p) :: ps)
end

noncomputable def RepO (cx : Cx) (h : Heap) (a : Addr) : AObj → Prop
  | .list xs => ∃ items n, h.get? a = some (lstObj items n) ∧ RepL cx h items.toList xs ∧ xs.length ≤ LIM
  | .tape k => ∃ t n, h.get? a = some (lstObj #[.int k t] n)
  | .dict kvs => ∃ vs, h.DictOf cx.sk a vs ∧ RepK cx h vs kvs ∧ kvs.length ≤ LIM ∧ (a == sysModules) = false
  | .inst d => ∃ C o, cx.icls = some C ∧ h.get? a = some o ∧ o.cls = .ref C ∧ o.dict = some d ∧ ∀ c, o.data ≠ .cls c
  | .attrs kvs => ∃ m, h.Ns1 a m ∧ h.ExactDictFk a ∧ (∀ x p, dget kvs x = some p → ∃ v, m x = some v ∧ Rep cx h v p) ∧ (∀ x, dget kvs x = none → m x = none) ∧ kvs.length ≤ 100

/-- the objects that values hang on -/
noncomputable def Solid (o : Obj) : Prop := (∃ items n, o = tupObj items n) ∨ (∃ n t u v, o = rngObj n t u v) ∨ ((∃ C, o.cls = .ref C) ∧ o.dict = none ∧ ∃ vs, o.data = .fields vs)
noncomputable def Holds (cx : Cx) (h : Heap) (H : AHeap) : Prop := ∀ a o, H a = some o → RepO cx h a o

theorem RepO.get {cx : Cx} {h : Heap} {a : Addr} {o : AObj} (r : RepO cx h a o) : ∃ ob, h.get? a = some ob ∧ ¬ Solid ob ∧ ∀ vs, ob.data = .fields vs → ob.dict ≠ none ∧ ∃ C, ob.cls = .ref C := by
  cases o with
  | list xs =>
    obtain ⟨items, n, e, _⟩ := r
    exact ⟨_, e, by rintro (⟨i, n, q⟩ | ⟨n, t, u, v, q⟩ | ⟨⟨C, q⟩, _⟩) <;> simp [lstObj, tupObj, rngObj] at q, by simp [lstObj]⟩
  | tape k =>
    obtain ⟨t, n, e⟩ := r
    exact ⟨_, e, by rintro (⟨i, n, q⟩ | ⟨n, t, u, v, q⟩ | ⟨⟨C, q⟩, _⟩) <;> simp [lstObj, tupObj, rngObj] at q, by simp [lstObj]⟩
  | dict kvs =>
    obtain ⟨vs, ⟨o, es, ep, e, ⟨hc, _⟩, hd, _⟩, _⟩ := r
    refine ⟨_, e, ?_, fun vs q => by rw [hd] at q; cases q⟩
    rintro (⟨i, n, q⟩ | ⟨n, t, u, v, q⟩ | ⟨⟨C, q⟩, _⟩)
    · rw [q] at hc; simp [tupObj] at hc
    · rw [q] at hc; simp [rngObj] at hc
    · rw [q] at hc; simp at hc
  | attrs kvs =>
    obtain ⟨m, ⟨o, es, ep, e, hd, _⟩, ⟨od, e', hc, _⟩, _⟩ := r
    rw [e] at e'
    cases e'
    refine ⟨_, e, ?_, fun vs q => by rw [hd] at q; cases q⟩
    rintro (⟨i, n, q⟩ | ⟨n, t, u, v, q⟩ | ⟨⟨C, q⟩, _⟩)
    · rw [q] at hc; simp [tupObj] at hc
    · rw [q] at hc; simp [rngObj] at hc
    · rw [q] at hc; simp at hc
  | inst d =>
    obtain ⟨C, o, _, e, hc, hd, _⟩ := r
    refine ⟨_, e, ?_, fun _ _ => ⟨by rw [hd]; exact fun q => (nomatch q), C, hc⟩⟩
    rintro (⟨i, n, rfl⟩ | ⟨n, t, u, v, rfl⟩ | ⟨_, q, _⟩)
    · cases hd
    · cases hd
    · rw [hd] at q; cases q

mutual
theorem Rep.mono' {cx : Cx} {h h' : Heap} (k : ∀ b o, h.get? b = some o → Solid o → h'.get? b = some o ∨ ((∃ C, o.cls = .ref C) ∧ ∃ o' vs', h'.get? b = some o' ∧ (o'.cls = o.cls ∧ o'.dict = o.dict) ∧ o'.data = .fields vs')) {v : Value} {p : PV} (r : Rep cx h v p) : Rep cx h' v p := by
  refine Rep.rec (motive_1 := fun v p _ => Rep cx h' v p) (motive_2 := fun vs ps _ => RepL cx h' vs ps) (motive_3 := fun vs ps _ => RepK cx h' vs ps) .none .bool .int .str ?_ .obj ?_ ?_ ?_ ?_ .nil (fun _ _ a b => .cons a b) .nil (fun _ _ a b => .cons a b) r
  · intro _ _ _ _ e l r ih
    rcases k _ _ e (.inl ⟨_, _, rfl⟩) with e' | ⟨⟨C, q⟩, _⟩
    · exact .tup e' l ih
    · cases q
  · intro _ _ _ _ _ e c d x y
    rcases k _ _ e (.inr (.inr ⟨⟨_, c⟩, y, _, d⟩)) with e' | ⟨_, o', vs', e', c', d'⟩
    · exact .exc e' c d x y
    · exact .exc e' (c'.1.trans c) d' x (c'.2.trans y)
  · intro _ _ _ e i l
    exact .fls e i l
  · intro _ _ _ d r ih
    exact .fdt d ih
  · intro _ _ _ _ _ e l
    rcases k _ _ e (.inr (.inl ⟨_, _, _, _, rfl⟩)) with e' | ⟨⟨C, q⟩, _⟩
    · exact .rng e' l
    · cases q
theorem RepL.mono' {cx : Cx} {h h' : Heap} (k : ∀ b o, h.get? b = some o → Solid o → h'.get? b = some o ∨ ((∃ C, o.cls = .ref C) ∧ ∃ o' vs', h'.get? b = some o' ∧ (o'.cls = o.cls ∧ o'.dict = o.dict) ∧ o'.data = .fields vs')) {vs : List Value} {ps : List PV} (r : RepL cx h vs ps) : RepL cx h' vs ps := by
  induction vs generalizing ps with
  | nil => cases r; exact .nil
  | cons v vs ih => cases r with | cons r rs => exact .cons (Rep.mono' k r) (ih rs)
theorem RepK.mono' {cx : Cx} {h h' : Heap} (k : ∀ b o, h.get? b = some o → Solid o → h'.get? b = some o ∨ ((∃ C, o.cls = .ref C) ∧ ∃ o' vs', h'.get? b = some o' ∧ (o'.cls = o.cls ∧ o'.dict = o.dict) ∧ o'.data = .fields vs')) {vs : List (Str × Value)} {ps : List (Str × PV)} (r : RepK cx h vs ps) : RepK cx h' vs ps := by
  induction vs generalizing ps with
  | nil => cases r; exact .nil
  | cons v vs ih => cases r with | cons r rs => exact .cons (Rep.mono' k r) (ih rs)
end
theorem Rep.mono {cx : Cx} {h h' : Heap} (k : ∀ b o, h.get? b = some o → Solid o → h'.get? b = some o) {v : Value} {p : PV} (r : Rep cx h v p) : Rep cx h' v p := Rep.mono' (fun b o e s => .inl (k b o e s)) r
theorem RepL.mono {cx : Cx} {h h' : Heap} (k : ∀ b o, h.get? b = some o → Solid o → h'.get? b = some o) {vs : List Value} {ps : List PV} (r : RepL cx h vs ps) : RepL cx h' vs ps := RepL.mono' (fun b o e s => .inl (k b o e s)) r
theorem RepK.mono {cx : Cx} {h h' : Heap} (k : ∀ b o, h.get? b = some o → Solid o → h'.get? b = some o) {vs : List (Str × Value)} {ps : List (Str × PV)} (r : RepK cx h vs ps) : RepK cx h' vs ps := RepK.mono' (fun b o e s => .inl (k b o e s)) r

theorem RepL.length {cx : Cx} {h : Heap} : ∀ {vs : List Value} {ps : List PV}, RepL cx h vs ps → vs.length = ps.length
  | _, _, .nil => rfl
  | _, _, .cons _ rs => by simp [RepL.length rs]
theorem RepK.length {cx : Cx} {h : Heap} : ∀ {vs : List (Str × Value)} {ps : List (Str × PV)}, RepK cx h vs ps → vs.length = ps.length
  | _, _, .nil => rfl
  | _, _, .cons _ rs => by simp [RepK.length rs]

noncomputable def SameO (o o' : Obj) : Prop := o' = o ∨ ((∃ es ep, o.data = .dict es ep) ∧ ∃ sl, o' = { o with slots := sl })
theorem SameO.refl (o : Obj) : SameO o o := .inl rfl
theorem SameO.data {o o' : Obj} (h : SameO o o') : o'.data = o.data := by rcases h with rfl | ⟨_, sl, rfl⟩ <;> rfl
theorem SameO.trans {a b c : Obj} (h : SameO a b) (k : SameO b c) : SameO a c := by
  rcases k with rfl | ⟨hc, sl, rfl⟩
  · exact h
  · rcases h with rfl | ⟨hb, sl', rfl⟩
    · exact .inr ⟨hc, sl, rfl⟩
    · exact .inr ⟨hb, sl, rfl⟩
theorem SameO.eq {o o' : Obj} (h : SameO o o') (n : ∀ es ep, o.data ≠ .dict es ep) : o' = o := h.resolve_right fun ⟨⟨es, ep, q⟩, _⟩ => n es ep q

/-- what a piece of a run leaves as it was -/
structure Kp (cx : Cx) (S : List Addr) (H : AHeap) (s : Shared) (H' : AHeap) (s' : Shared) : Prop where
  same : ∃ h' tk, s' = { s with heap := h', toks := tk }
  keep : ∀ b o, s.heap.get? b = some o → b ∉ S → H b = none → H' b = none ∧ ∃ o', s'.heap.get? b = some o' ∧ SameO o o'
  alive : ∀ b o, s.heap.get? b = some o → ∃ o', s'.heap.get? b = some o'
  base : ∀ b o, cx.B.get? b = some o → s.heap.get? b = some o → s'.heap.get? b = some o

theorem Kp.refl (cx : Cx) (S : List Addr) (H : AHeap) (s : Shared) : Kp cx S H s H s :=
  ⟨⟨s.heap, s.toks, rfl⟩, fun _ o e _ h => ⟨h, o, e, .refl o⟩, fun _ o e => ⟨o, e⟩, fun _ _ _ e => e⟩
theorem Kp.trans {cx : Cx} {S : List Addr} {H H₁ H₂ : AHeap} {s s₁ s₂ : Shared} (a : Kp cx S H s H₁ s₁) (b : Kp cx S H₁ s₁ H₂ s₂) : Kp cx S H s H₂ s₂ where
  same := by obtain ⟨h, t, rfl⟩ := a.same; obtain ⟨h', t', rfl⟩ := b.same; exact ⟨h', t', rfl⟩
  keep := fun x o e n hn => by
    obtain ⟨h1, o1, e1, s1⟩ := a.keep x o e n hn
    obtain ⟨h2, o2, e2, s2⟩ := b.keep x o1 e1 n h1
    exact ⟨h2, o2, e2, s1.trans s2⟩
  alive := fun x o e => let ⟨o1, e1⟩ := a.alive x o e; b.alive x o1 e1
  base := fun x o e e' => b.base x o e (a.base x o e e')
theorem Kp.sub {cx : Cx} {S S' : List Addr} {H H' : AHeap} {s s' : Shared} (a : Kp cx S H s H' s') (k : ∀ b o, s.heap.get? b = some o → b ∈ S → b ∈ S') : Kp cx S' H s H' s' :=
  ⟨a.same, fun b o e n hn => a.keep b o e (fun q => n (k b o e q)) hn, a.alive, a.base⟩
theorem Kp.nil {cx : Cx} {S : List Addr} {H H' : AHeap} {s s' : Shared} (a : Kp cx [] H s H' s') : Kp cx S H s H' s' := a.sub fun _ _ _ q => nomatch q
/-- every object stays, the abstract heap is the same or larger by new ones -/
theorem Kp.grow {cx : Cx} {S : List Addr} {H H' : AHeap} {s : Shared} {h' : Heap} {tk : Nat} (k : ∀ b o, s.heap.get? b = some o → h'.get? b = some o)
    (hH : ∀ b o, s.heap.get? b = some o → H b = none → H' b = none) : Kp cx S H s H' { s with heap := h', toks := tk } :=
  ⟨⟨h', tk, rfl⟩, fun b o e _ hn => ⟨hH b o e hn, o, k b o e, .refl o⟩, fun b o e => ⟨o, k b o e⟩, fun b o _ e => k b o e⟩

structure Fm where
  A : Around
  env : Env
  fs : List Env
  nm : List Str
  vis : Nat → Bool

inductive FrAt (cx : Cx) (H : AHeap) (h : Heap) (env : Env) : Prop
  | mk (hk : env.scope.kind ≠ .module) (L : Addr) (o : Obj) (es : Array DictEntry) (ep : Nat) (hf : env.frame = some L) (hH : H L = none) (hb : cx.B.get? L = none) (ho : h.get? L = some o) (hd : o.data = .dict es ep) : FrAt cx H h env
inductive VarsAt (cx : Cx) (F : Fm) (m : Loc) (h : Heap) : Prop
  | mk (o : Obj) (es : Array DictEntry) (ep : Nat) (mc : Str → Option Value) (ho : h.get? F.env.locals = some o) (hd : o.data = .dict es ep) (ns : h.Ns F.env.locals mc)
    (hv : ∀ i v, F.vis i = true → F.env.kindOf (slot F.nm i) = some .local → m.getD i none = some v → ∃ x, mc (slot F.nm i) = some x ∧ Rep cx h x v) : VarsAt cx F m h
inductive CellAt (cx : Cx) (F : Fm) (m : Loc) (H : AHeap) (h : Heap) (n : Str) (c : Addr) : Prop
  | mk (h1 : H c = none) (h2 : cx.B.get? c = none) (o : Obj) (x : Option Value) (ho : h.get? c = some o) (hd : o.data = .cell x)
    (hv : ∀ i v, F.vis i = true → slot F.nm i = n → F.env.kindOf n ≠ some .local → m.getD i none = some v → ∃ y, x = some y ∧ Rep cx h y v) : CellAt cx F m H h n c

structure St (cx : Cx) (F : Fm) (m : Loc) (H : AHeap) (h : Heap) : Prop where
  base : cx.B.StaysIn h
  off : ∀ b o, cx.B.get? b = some o → H b = none
  heap : Holds cx h H
  frames : ∀ env ∈ F.fs, FrAt cx H h env
  own : H F.env.locals = none ∧ cx.B.get? F.env.locals = none
  vars : VarsAt cx F m h
  cells : ∀ n c, F.env.cells.lookup n = some c → CellAt cx F m H h n c

theorem Solid.notLoc {o : Obj} (h : Solid o) : (∀ es ep, o.data ≠ .dict es ep) ∧ ∀ x, o.data ≠ .cell x := by
  rcases h with ⟨i, n, rfl⟩ | ⟨n, t, u, v, rfl⟩ | ⟨_, _, vs, q⟩
  · exact ⟨fun _ _ q => (nomatch q), fun _ q => (nomatch q)⟩
  · exact ⟨fun _ _ q => (nomatch q), fun _ q => (nomatch q)⟩
  · exact ⟨fun _ _ q' => by rw [q] at q'; exact (nomatch q'), fun _ q' => by rw [q] at q'; exact (nomatch q')⟩
theorem Holds.none_of_solid {cx : Cx} {h : Heap} {H : AHeap} (k : Holds cx h H) {b : Addr} {o : Obj} (e : h.get? b = some o) (s : Solid o) : H b = none := by
  cases q : H b with
  | none => rfl
  | some x => obtain ⟨ob, e', n, _⟩ := (k b x q).get; rw [e] at e'; cases e'; exact absurd s n
theorem Holds.fresh {cx : Cx} {h : Heap} {H : AHeap} (k : Holds cx h H) {b : Addr} (e : h.get? b = none) : H b = none := by
  cases q : H b with
  | none => rfl
  | some x => obtain ⟨ob, e', _⟩ := (k b x q).get; rw [e] at e'; cases e'

/-- values stay, S holding names' places alone -/
theorem Kp.solid {cx : Cx} {S : List Addr} {H H' : AHeap} {s s' : Shared} (k : Kp cx S H s H' s') (hh : Holds cx s.heap H)
    (hS : ∀ b ∈ S, ∀ o, s.heap.get? b = some o → (∃ es ep, o.data = .dict es ep) ∨ ∃ x, o.data = .cell x) : ∀ b o, s.heap.get? b = some o → Solid o → s'.heap.get? b = some o := fun b o e so => by
  obtain ⟨_, o', e', sm⟩ := k.keep b o e (fun q => by
    rcases hS b q o e with ⟨es, ep, d⟩ | ⟨x, d⟩
    · exact so.notLoc.1 _ _ d
    · exact so.notLoc.2 _ d) (hh.none_of_solid e so)
  rw [sm.eq so.notLoc.1] at e'; exact e'
theorem Kp.solid0 {cx : Cx} {H H' : AHeap} {s s' : Shared} (k : Kp cx [] H s H' s') (hh : Holds cx s.heap H) : ∀ b o, s.heap.get? b = some o → Solid o → s'.heap.get? b = some o :=
  k.solid hh fun _ q => nomatch q

theorem FrAt.step {cx : Cx} {H H' : AHeap} {S : List Addr} {s s' : Shared} (k : Kp cx S H s H' s') {env : Env} (f : FrAt cx H s.heap env) (n : ∀ L, env.frame = some L → L ∉ S) : FrAt cx H' s'.heap env := by
  obtain ⟨hk, L, o, es, ep, hf, hH, hb, ho, hd⟩ := f
  obtain ⟨hH', o', e', sm⟩ := k.keep L o ho (n L hf) hH
  exact ⟨hk, L, o', es, ep, hf, hH', hb, e', sm.data.trans hd⟩

/-- an expression's step leaves the frame's state -/
theorem St.step {cx : Cx} {F : Fm} {m : Loc} {H H' : AHeap} {s s' : Shared} (t : St cx F m H s.heap) (k : Kp cx [] H s H' s') (hh : Holds cx s'.heap H') : St cx F m H' s'.heap := by
  have so := k.solid0 t.heap
  refine ⟨fun b o e => k.base b o e (t.base b o e), fun b o e => ?_, hh, (fun env he => (t.frames env he).step k (fun L _ q => nomatch q)), ?_, ?_, fun n c hc => ?_⟩
  · exact (k.keep b o (t.base b o e) (fun q => nomatch q) (t.off b o e)).1
  · obtain ⟨o, es, ep, mc, ho, _⟩ := t.vars
    exact ⟨(k.keep _ o ho (fun q => nomatch q) t.own.1).1, t.own.2⟩
  · obtain ⟨o, es, ep, mc, ho, hd, ⟨o1, es1, ep1, ho1, hd1, hk1, hm1⟩, hv⟩ := t.vars
    obtain ⟨_, o', e', sm⟩ := k.keep _ o ho (fun q => nomatch q) t.own.1
    rw [ho] at ho1; cases ho1
    exact ⟨o', es, ep, mc, e', sm.data.trans hd, ⟨o', es1, ep1, e', sm.data.trans hd1, hk1, hm1⟩, fun i v h1 h2 h3 => let ⟨x, q, r⟩ := hv i v h1 h2 h3; ⟨x, q, r.mono so⟩⟩
  · obtain ⟨h1, h2, o, x, ho, hd, hv⟩ := t.cells n c hc
    obtain ⟨h3, o', e', sm⟩ := k.keep c o ho (fun q => nomatch q) h1
    exact ⟨h3, h2, o', x, e', sm.data.trans hd, fun i v a b c d => let ⟨y, q, r⟩ := hv i v a b c d; ⟨y, q, r.mono so⟩⟩

noncomputable def upd (H : AHeap) (a : Addr) (o : AObj) : AHeap := fun b => if b = a then some o else H b
theorem upd_self (H : AHeap) (a : Addr) (o : AObj) : upd H a o a = some o := by simp [upd]
theorem upd_ne {H : AHeap} {a b : Addr} {o : AObj} (n : b ≠ a) : upd H a o b = H b := by simp [upd, n]
theorem upd_ext {H : AHeap} {a : Addr} {o : AObj} (e : H a = none) : Ext H (upd H a o) := fun b x hb => by
  rw [upd_ne]; exact hb
  rintro rfl; rw [e] at hb; cases hb
theorem upd_extB (H : AHeap) (a : Addr) (o : AObj) : ExtB a H (upd H a o) := fun _ _ n hb => by rw [upd_ne n]; exact hb

theorem Holds.grow {cx : Cx} {h h' : Heap} {H : AHeap} (k : Holds cx h H) (g : ∀ b o, h.get? b = some o → h'.get? b = some o) : Holds cx h' H := fun a o e => by
  have r := k a o e
  have so : ∀ b o, h.get? b = some o → Solid o → h'.get? b = some o := fun b o e _ => g b o e
  cases o with
  | list xs => obtain ⟨items, n, e, r, l⟩ := r; exact ⟨items, n, g _ _ e, r.mono so, l⟩
  | tape k => obtain ⟨t, n, e⟩ := r; exact ⟨t, n, g _ _ e⟩
  | dict kvs => obtain ⟨vs, d, r, l⟩ := r; exact ⟨vs, d.keep g, r.mono so, l⟩
  | inst d => obtain ⟨C, o, x, e, y⟩ := r; exact ⟨C, o, x, g _ _ e, y⟩
  | attrs kvs => obtain ⟨m, n1, ed, f, n, l⟩ := r; exact ⟨m, n1.keeps g, ed.keeps g, fun x p e => let ⟨v, a, b⟩ := f x p e; ⟨v, a, b.mono so⟩, n, l⟩
/-- one object put anew -/
theorem Holds.put {cx : Cx} {h h' : Heap} {H : AHeap} {a : Addr} {o : AObj} (k : Holds cx h H) (g : ∀ b o, b ≠ a → h.get? b = some o → h'.get? b = some o)
    (ha : ∀ o, h.get? a = some o → ¬ Solid o) (r : RepO cx h' a o) : Holds cx h' (upd H a o) := fun b x e => by
  by_cases q : b = a
  · subst q; rw [upd_self] at e; cases e; exact r
  · rw [upd_ne q] at e
    have r := k b x e
    have so : ∀ b o, h.get? b = some o → Solid o → h'.get? b = some o := fun b o e s => g b o (by rintro rfl; exact ha o e s) e
    cases x with
    | list xs => obtain ⟨items, n, e, r, l⟩ := r; exact ⟨items, n, g _ _ q e, r.mono so, l⟩
    | tape k => obtain ⟨t, n, e⟩ := r; exact ⟨t, n, g _ _ q e⟩
    | dict kvs => obtain ⟨vs, d, r, l⟩ := r; exact ⟨vs, (let ⟨o, es, ep, ho, y⟩ := d; ⟨o, es, ep, g _ _ q ho, y⟩), r.mono so, l⟩
    | inst d => obtain ⟨C, o, x, e, y⟩ := r; exact ⟨C, o, x, g _ _ q e, y⟩
    | attrs kvs => obtain ⟨m, n1, ed, f, n, l⟩ := r; exact ⟨m, (let ⟨o, es, ep, e, y⟩ := n1; ⟨o, es, ep, g _ _ q e, y⟩), (let ⟨od, e, y⟩ := ed; ⟨od, g _ _ q e, y⟩), fun x p e => let ⟨v, a, b⟩ := f x p e; ⟨v, a, b.mono so⟩, n, l⟩

/-! what an evaluation gives -/
inductive ExcTb (fr : Option Addr) (h₀ h : Heap) (e : Addr) (vs : Array Value) : Prop
  | mk (T : Addr) (oT : Obj) (ts : Array Value) (b1 : vs[1]? = some (.ref T)) (b2 : h₀.get? T = none) (b3 : T ≠ e) (b4 : h.get? T = some oT) (b5 : oT.cls = .type "traceback") (b6 : oT.data = .fields ts) (b7 : ts[3]? = some .none ∨ ∃ L, fr = some L ∧ ts[3]? = some (rawInt L)) : ExcTb fr h₀ h e vs
inductive Exc (cx : Cx) (fr : Option Addr) (h₀ h : Heap) (e : Addr) (c : Nat) : Prop
  | mk (n : h₀.get? e = none) (oe : Obj) (vs : Array Value) (C : Addr) (a0 : Value) (g : h.get? e = some oe) (k : oe.cls = .ref C) (x : cx.cls c = some C ∧ oe.dict = none) (d : oe.data = .fields vs) (z : vs[0]? = some a0) (y : vs[1]? = some .none ∨ ExcTb fr h₀ h e vs) : Exc cx fr h₀ h e c
inductive OkG {α β : Type} (R : Heap → α → β → Prop) (cx : Cx) (F : Fm) (m : Loc) (H : AHeap) (s : Shared) (Q : β → AHeap → Prop) (a : α) (s' : Shared) : Prop
  | mk (b : β) (H' : AHeap) (r : R s'.heap a b) (t : St cx F m H' s'.heap) (k : Kp cx [] H s H' s') (q : Q b H') : OkG R cx F m H s Q a s'
inductive ErP (cx : Cx) (F : Fm) (m : Loc) (H : AHeap) (s : Shared) (X : XPost) (v : Value) (s' : Shared) : Prop
  | mk (e : Addr) (c : Nat) (H' : AHeap) (hv : v = .ref e) (x : Exc cx F.env.frame s.heap s'.heap e c) (t : St cx F m H' s'.heap) (k : Kp cx [] H s H' s') (q : X c H') : ErP cx F m H s X v s'
noncomputable def Ev {α β : Type} (R : Heap → α → β → Prop) (cx : Cx) (F : Fm) (t : Sem α) (m : Loc) (H : AHeap) (s : Shared) (Q : β → AHeap → Prop) (X : XPost) : Prop :=
  wpAny cx.M F.A t (OkG R cx F m H s Q) (ErP cx F m H s X) s

theorem Exc.older {cx : Cx} {fr : Option Addr} {h₀ h₁ h : Heap} {e : Addr} {c : Nat} (x : Exc cx fr h₁ h e c) (al : ∀ b o, h₀.get? b = some o → ∃ o', h₁.get? b = some o') : Exc cx fr h₀ h e c := by
  have f : ∀ b, h₁.get? b = none → h₀.get? b = none := fun b q => by
    cases e : h₀.get? b with
    | none => rfl
    | some o => obtain ⟨o', e'⟩ := al b o e; rw [q] at e'; cases e'
  obtain ⟨n, oe, vs, C, a0, a1, a2, a3, a4, a5, a6⟩ := x
  refine ⟨f _ n, oe, vs, C, a0, a1, a2, a3, a4, a5, a6.imp id ?_⟩
  rintro ⟨T, oT, ts, b1, b2, b3, b4, b5, b6, b7⟩
  exact ⟨T, oT, ts, b1, f _ b2, b3, b4, b5, b6, b7⟩
theorem OkG.older {α β : Type} {R : Heap → α → β → Prop} {cx : Cx} {F : Fm} {m : Loc} {H H₁ : AHeap} {s s₁ : Shared} {Q : β → AHeap → Prop} (k : Kp cx [] H s H₁ s₁) {a : α} {s' : Shared}
    (x : OkG R cx F m H₁ s₁ Q a s') : OkG R cx F m H s Q a s' := let ⟨b, H', r, t, k', q⟩ := x; ⟨b, H', r, t, k.trans k', q⟩
theorem ErP.older {cx : Cx} {F : Fm} {m : Loc} {H H₁ : AHeap} {s s₁ : Shared} {X : XPost} (k : Kp cx [] H s H₁ s₁) {v : Value} {s' : Shared}
    (x : ErP cx F m H₁ s₁ X v s') : ErP cx F m H s X v s' := let ⟨e, c, H', r, y, t, k', q⟩ := x; ⟨e, c, H', r, y.older k.alive, t, k.trans k', q⟩
theorem Ev.older {α β : Type} {R : Heap → α → β → Prop} {cx : Cx} {F : Fm} {m : Loc} {H H₁ : AHeap} {s s₁ : Shared} {Q : β → AHeap → Prop} {X : XPost} {t : Sem α} (k : Kp cx [] H s H₁ s₁)
    (x : Ev R cx F t m H₁ s₁ Q X) : wpAny cx.M F.A t (OkG R cx F m H s Q) (ErP cx F m H s X) s₁ := wpAny_mono x (fun _ _ y => y.older k) fun _ _ y => y.older k
theorem Ev.bind {α β γ δ : Type} {R : Heap → α → β → Prop} {R' : Heap → γ → δ → Prop} {cx : Cx} {F : Fm} {m : Loc} {H : AHeap} {s : Shared} {Q₁ : β → AHeap → Prop} {Q : δ → AHeap → Prop} {X : XPost} {t : Sem α} {f : α → Sem γ}
    (h : Ev R cx F t m H s Q₁ X) (k : ∀ a b s₁ H₁, R s₁.heap a b → St cx F m H₁ s₁.heap → Kp cx [] H s H₁ s₁ → Q₁ b H₁ → Ev R' cx F (f a) m H₁ s₁ Q X) : Ev R' cx F (t >>= f) m H s Q X :=
  wpAny_bind (wpAny_mono h (fun a s₁ ⟨b, H₁, r, st, kp, q⟩ => (k a b s₁ H₁ r st kp q).older kp) fun _ _ y => y)
theorem Ev.pure {α β : Type} {R : Heap → α → β → Prop} {cx : Cx} {F : Fm} {m : Loc} {H : AHeap} {s : Shared} {Q : β → AHeap → Prop} {X : XPost} {a : α} {b : β} (r : R s.heap a b) (t : St cx F m H s.heap) (q : Q b H) :
    Ev R cx F (pure a) m H s Q X := wpAny_pure ⟨b, H, r, t, .refl _ _ _ _, q⟩
theorem Ev.holding {α β : Type} {R : Heap → α → β → Prop} {cx : Cx} {F : Fm} {m : Loc} {H : AHeap} {s : Shared} {Q : β → AHeap → Prop} {X : XPost} {t : Sem α} {vs : List Value} (h : Ev R cx F t m H s Q X) : Ev R cx F (holding vs t) m H s Q X := wpAny_holding h
theorem Ev.stand {α β : Type} {R : Heap → α → β → Prop} {cx : Cx} {F : Fm} {m : Loc} {H : AHeap} {s : Shared} {Q : β → AHeap → Prop} {X : XPost} {p : Pos} {f : Unit → Sem α} (h : Ev R cx F (f ()) m H s Q X) : Ev R cx F (standAt p >>= f) m H s Q X :=
  wpAny_bind (wpAny_standAt h)
/-- the same state, tokens spent -/
theorem OkG.toks {α β : Type} {R : Heap → α → β → Prop} {cx : Cx} {F : Fm} {m : Loc} {H : AHeap} {s : Shared} {Q : β → AHeap → Prop} {a : α} {b : β} (tk : Nat) (r : R s.heap a b) (t : St cx F m H s.heap) (q : Q b H) :
    OkG R cx F m H s Q a { s with toks := tk } := ⟨b, H, r, t, .grow (fun _ _ e => e) (fun _ _ _ e => e), q⟩
/-- new objects, no abstract one -/
theorem OkG.grow {α β : Type} {R : Heap → α → β → Prop} {cx : Cx} {F : Fm} {m : Loc} {H : AHeap} {s : Shared} {Q : β → AHeap → Prop} {a : α} {b : β} {h' : Heap} {tk : Nat} (g : ∀ b o, s.heap.get? b = some o → h'.get? b = some o)
    (r : R h' a b) (t : St cx F m H s.heap) (q : Q b H) : OkG R cx F m H s Q a { s with heap := h', toks := tk } :=
  have k : Kp cx [] H s H { s with heap := h', toks := tk } := .grow g fun _ _ _ e => e
  ⟨b, H, r, t.step k (t.heap.grow g), k, q⟩
/-- a new abstract object at an address that was free -/
theorem OkG.alloc {α β : Type} {R : Heap → α → β → Prop} {cx : Cx} {F : Fm} {m : Loc} {H : AHeap} {s : Shared} {Q : β → AHeap → Prop} {v : α} {b : β} {h' : Heap} {tk : Nat} {a : Addr} {o : AObj} (g : ∀ b o, s.heap.get? b = some o → h'.get? b = some o)
    (fr : s.heap.get? a = none) (r : R h' v b) (ro : RepO cx h' a o) (t : St cx F m H s.heap) (q : Q b (upd H a o)) : OkG R cx F m H s Q v { s with heap := h', toks := tk } :=
  have k : Kp cx [] H s (upd H a o) { s with heap := h', toks := tk } := .grow g fun b ob e hn => by rw [upd_ne (by rintro rfl; rw [fr] at e; cases e)]; exact hn
  ⟨b, _, r, t.step k (t.heap.put (fun b o _ e => g b o e) (fun o e => by rw [fr] at e; cases e) ro), k, q⟩
theorem alloc_use {o : AObj} {Q : Post} {H : AHeap} {a : Addr} (h : alloc o Q H) (e : H a = none) : Q (.obj a) (upd H a o) := h a _ e (upd_self ..) (upd_ext e)
/-- an abstract object put anew -/
theorem OkG.put {α β : Type} {R : Heap → α → β → Prop} {cx : Cx} {F : Fm} {m : Loc} {H : AHeap} {s : Shared} {Q : β → AHeap → Prop} {v : α} {b : β} {h' : Heap} {tk : Nat} {a : Addr} {o o' : AObj} (ha : H a = some o)
    (g : ∀ b o, b ≠ a → s.heap.get? b = some o → h'.get? b = some o) (r : R h' v b) (ro : RepO cx h' a o') (t : St cx F m H s.heap) (q : Q b (upd H a o')) : OkG R cx F m H s Q v { s with heap := h', toks := tk } := by
  have na : ∀ x, s.heap.get? a = some x → ¬ Solid x := fun x e => by
    obtain ⟨ob, e', n, _⟩ := (t.heap a o ha).get; rw [e] at e'; cases e'; exact n
  have k : Kp cx [] H s (upd H a o') { s with heap := h', toks := tk } := by
    refine ⟨⟨h', tk, rfl⟩, fun b ob e _ hn => ?_, fun b ob e => ?_, fun b ob eb e => ?_⟩
    · have n : b ≠ a := by rintro rfl; rw [ha] at hn; cases hn
      exact ⟨by rw [upd_ne n]; exact hn, ob, g b ob n e, .refl _⟩
    · by_cases n : b = a
      · subst n; obtain ⟨ob', e', _⟩ := ro.get; exact ⟨ob', e'⟩
      · exact ⟨ob, g b ob n e⟩
    · exact g b ob (by rintro rfl; rw [t.off _ _ eb] at ha; cases ha) e
  exact ⟨b, _, r, t.step k (t.heap.put g na ro), k, q⟩
theorem mutate_use {o : AObj} {K : AHeap → Prop} {H : AHeap} {a : Addr} (h : mutate a o K H) : K (upd H a o) := h _ (upd_self ..) (upd_extB H a o)
end Mine
end
section
open PySem PySem.Calls PyProof.Rows
namespace Mine
set_option autoImplicit false

theorem RepL.append {cx : Cx} {h : Heap} : ∀ {vs ws : List Value} {ps qs : List PV}, RepL cx h vs ps → RepL cx h ws qs → RepL cx h (vs ++ ws) (ps ++ qs)
  | _, _, _, _, .nil, r => r
  | _, _, _, _, .cons a r, r' => .cons a (RepL.append r r')
theorem RepL.rep {cx : Cx} {h : Heap} {vs : List Value} {ps : List PV} (r : RepL cx h vs ps) : ∀ n : Nat, RepL cx h (List.replicate n vs).flatten (List.replicate n ps).flatten
  | 0 => .nil
  | n + 1 => by rw [List.replicate_succ, List.replicate_succ, List.flatten_cons, List.flatten_cons]; exact r.append (r.rep n)
theorem RepL.get {cx : Cx} {h : Heap} : ∀ {vs : List Value} {ps : List PV}, RepL cx h vs ps → ∀ {i : Nat} {p : PV}, ps[i]? = some p → ∃ v, vs[i]? = some v ∧ Rep cx h v p
  | _, _, .cons a _, 0, _, e => by simp at e; subst e; exact ⟨_, rfl, a⟩
  | _, _, .cons _ r, i + 1, _, e => by simp at e; simpa using r.get e
theorem RepL.drop {cx : Cx} {h : Heap} : ∀ {vs : List Value} {ps : List PV}, RepL cx h vs ps → ∀ n : Nat, RepL cx h (vs.drop n) (ps.drop n)
  | _, _, r, 0 => r
  | _, _, .nil, _ + 1 => .nil
  | _, _, .cons _ r, n + 1 => r.drop n
theorem RepL.take {cx : Cx} {h : Heap} : ∀ {vs : List Value} {ps : List PV}, RepL cx h vs ps → ∀ n : Nat, RepL cx h (vs.take n) (ps.take n)
  | _, _, _, 0 => .nil
  | _, _, .nil, _ + 1 => .nil
  | _, _, .cons a r, n + 1 => .cons a (r.take n)
theorem RepL.reverse {cx : Cx} {h : Heap} : ∀ {vs : List Value} {ps : List PV}, RepL cx h vs ps → RepL cx h vs.reverse ps.reverse
  | _, _, .nil => .nil
  | _, _, .cons a r => by rw [List.reverse_cons, List.reverse_cons]; exact r.reverse.append (.cons a .nil)
theorem RepL.set {cx : Cx} {h : Heap} : ∀ {vs : List Value} {ps : List PV}, RepL cx h vs ps → ∀ (n : Nat) {v : Value} {p : PV}, Rep cx h v p → RepL cx h (vs.set n v) (ps.set n p)
  | _, _, .nil, _, _, _, _ => .nil
  | _, _, .cons _ r, 0, _, _, a => .cons a r
  | _, _, .cons b r, n + 1, _, _, a => .cons b (r.set n a)

theorem Rep.tupI {cx : Cx} {h : Heap} {v : Value} {xs : List PV} (r : Rep cx h v (.tup xs)) : ∃ a items n, v = .ref a ∧ h.get? a = some (tupObj items n) ∧ xs.length ≤ LIM ∧ RepL cx h items.toList xs := by
  cases r with | tup e l r => exact ⟨_, _, _, rfl, e, l, r⟩
theorem RepL.one {cx : Cx} {h : Heap} {vs : List Value} {p : PV} (r : RepL cx h vs [p]) : ∃ v, vs = [v] ∧ Rep cx h v p := by
  obtain _ | ⟨rv, _ | _⟩ := r
  exact ⟨_, rfl, rv⟩
theorem RepL.two {cx : Cx} {h : Heap} {vs : List Value} {p q : PV} (r : RepL cx h vs [p, q]) : ∃ v w, vs = [v, w] ∧ Rep cx h v p ∧ Rep cx h w q := by
  obtain _ | ⟨rv, _ | ⟨rw', _ | _⟩⟩ := r
  exact ⟨_, _, rfl, rv, rw'⟩
theorem RepL.zero {cx : Cx} {h : Heap} {vs : List Value} (r : RepL cx h vs []) : vs = [] := by cases r; rfl
theorem Rep.objI {cx : Cx} {h : Heap} {v : Value} {a : Addr} (r : Rep cx h v (.obj a)) : v = .ref a := by cases r; rfl
theorem Rep.intI {cx : Cx} {h : Heap} {v : Value} {i : Int} (r : Rep cx h v (.int i)) : ∃ t, v = .int i t := by cases r; exact ⟨_, rfl⟩
theorem Rep.strI {cx : Cx} {h : Heap} {v : Value} {i : Str} (r : Rep cx h v (.str i)) : ∃ t, v = .str i t := by cases r; exact ⟨_, rfl⟩
theorem Rep.boolI {cx : Cx} {h : Heap} {v : Value} {b : Bool} (r : Rep cx h v (.bool b)) : v = .bool b := by cases r; rfl
theorem Rep.noneI {cx : Cx} {h : Heap} {v : Value} (r : Rep cx h v .none) : v = .none := by cases r; rfl
theorem Rep.flsI {cx : Cx} {h : Heap} {v : Value} {ns : List Int} (r : Rep cx h v (.fls ns)) : ∃ a items, v = .ref a ∧ cx.B.IsList a items ∧ IntsAre items.toList ns ∧ ns.length ≤ LIM := by
  cases r with | fls e i l => exact ⟨_, _, rfl, e, i, l⟩
theorem Rep.fdtI {cx : Cx} {h : Heap} {v : Value} {kvs : List (Str × PV)} (r : Rep cx h v (.fdt kvs)) : ∃ a vs, v = .ref a ∧ cx.B.DictOf cx.sk a vs ∧ RepK cx h vs kvs := by
  cases r with | fdt e r => exact ⟨_, _, rfl, e, r⟩
theorem Rep.rngI {cx : Cx} {h : Heap} {v : Value} {n : Int} (r : Rep cx h v (.rng n)) : ∃ a t u x, v = .ref a ∧ h.get? a = some (rngObj n t u x) ∧ n.natAbs ≤ LIM := by
  cases r with | rng e l => exact ⟨_, _, _, _, rfl, e, l⟩

section
variable {cx : Cx} {F : Fm} {m : Loc} {H : AHeap} {s : Shared} {Q : Post} {X : XPost}

theorem St.list {a : Addr} {xs : List PV} (t : St cx F m H s.heap) (e : H a = some (.list xs)) : ∃ items n, s.heap.get? a = some (lstObj items n) ∧ RepL cx s.heap items.toList xs ∧ xs.length ≤ LIM := t.heap a _ e
theorem isList_of {h : Heap} {a : Addr} {items : Array Value} {n : Nat} (e : h.get? a = some (lstObj items n)) : h.IsList a items := ⟨_, e, rfl, n, rfl⟩
theorem isList_up {h h' : Heap} {a : Addr} {items : Array Value} (x : h.IsList a items) (k : h.StaysIn h') : h'.IsList a items := let ⟨o, e, r⟩ := x; ⟨o, k _ _ e, r⟩
theorem isTup_of {h : Heap} {a : Addr} {items : Array Value} {n : Nat} (e : h.get? a = some (tupObj items n)) : IsTup h a items := ⟨_, e, rfl, n, rfl⟩
theorem get_size_none (h : Heap) : h.get? h.objs.size = none := by
  cases e : h.get? h.objs.size with
  | none => rfl
  | some o => exact absurd (Heap.lt_size e) (Nat.lt_irrefl _)
theorem get_ge_none {h : Heap} {a : Addr} (l : h.objs.size ≤ a) : h.get? a = none := by
  cases e : h.get? a with
  | none => rfl
  | some o => exact absurd (Heap.lt_size e) (Nat.not_lt.mpr l)

theorem arr_len {cx : Cx} {h : Heap} {items : Array Value} {xs : List PV} (r : RepL cx h items.toList xs) : items.size = xs.length := by rw [← r.length]; simp

/-- a new list -/
theorem new_list {vs : Array Value} {xs : List PV} {c tk : Nat} {h' : Heap} {a : Addr} (t : St cx F m H s.heap) (g : ∀ b o, s.heap.get? b = some o → h'.get? b = some o) (fr : s.heap.get? a = none)
    (e : h'.get? a = some (lstObj vs c)) (r : RepL cx s.heap vs.toList xs) (l : xs.length ≤ LIM) (q : alloc (.list xs) Q H) : OkG (Rep cx) cx F m H s Q (.ref a) { s with heap := h', toks := tk } :=
  .alloc (o := .list xs) g fr (.obj a) ⟨vs, c, e, r.mono (fun b o e _ => g b o e), l⟩ t (alloc_use q (t.heap.fresh fr))
/-- a new tuple -/
theorem new_tup {vs : Array Value} {xs : List PV} {c tk : Nat} {h' : Heap} {a : Addr} (t : St cx F m H s.heap) (g : ∀ b o, s.heap.get? b = some o → h'.get? b = some o)
    (e : h'.get? a = some (tupObj vs c)) (r : RepL cx s.heap vs.toList xs) (l : xs.length ≤ LIM) (q : Q (.tup xs) H) : OkG (Rep cx) cx F m H s Q (.ref a) { s with heap := h', toks := tk } :=
  .grow g (.tup e l (r.mono (fun b o e _ => g b o e))) t q
theorem push_keeps {h : Heap} {o : Obj} : ∀ b x, h.get? b = some x → (h.push o).get? b = some x := fun _ _ e => Heap.get?_push_of_some o e

theorem LIM_le : LIM ≤ sizeLine := by decide
theorem bits_le {a : Int} (h : a.natAbs < 2 ^ 60) : Builtin.Int.intBits a ≤ 64 := by
  unfold Builtin.Int.intBits
  split
  · first | lia | omega
  · rename_i q
    have : a.natAbs.log2 < 60 := (Nat.log2_lt (by simpa using q)).mpr h
    first | lia | omega
theorem mulOk {a b : Int} (h : a.natAbs < 2 ^ 60 ∨ b.natAbs < 2 ^ 60) : IntMulOk a b := h.elim (fun h => .of_left (bits_le h)) fun h => .of_right (bits_le h)

theorem add_tup0 {t b : Addr} {items items2 : Array Value} {n n2 : Nat} {A : Around} {E : Value → Shared → Prop} {s : Shared} {Q : Value → Shared → Prop} {prog : Program} {w : World} (ht : s.heap.get? t = some (tupObj items n)) (hb : s.heap.get? b = some (tupObj items2 n2)) (hsz : items.size + items2.size ≤ sizeLine)
    (h0 : items.isEmpty = true → Q (.ref b) s) (h1 : ¬ items.isEmpty = true → items2.isEmpty = true → Q (.ref t) s)
    (h2 : Q (.ref s.heap.objs.size) { s with heap := s.heap.push (tupObj (items ++ items2) 0) }) :
    wpAny (model prog w) A (binaryOp .Add (.ref t) (.ref b)) Q E s := by
  by_cases a : items.isEmpty = true
  · exact concat_meets ⟨_, ht, rfl⟩ ⟨_, hb, rfl⟩ noFill_tuple_add seq_tuple_add F.slot_tuple_add F.entry_tuple_add (F.args_tuple_add_2 _ _) (AutoSeq1.tuple___add___tuple_tuple_0 t items n b items2 n2 a) ⟨ht, hb, h0 a⟩
  · by_cases c : items2.isEmpty = true
    · exact concat_meets ⟨_, ht, rfl⟩ ⟨_, hb, rfl⟩ noFill_tuple_add seq_tuple_add F.slot_tuple_add F.entry_tuple_add (F.args_tuple_add_2 _ _) (AutoSeq1.tuple___add___tuple_tuple_1 t items n b items2 n2 a c) ⟨ht, hb, h1 a c⟩
    · exact P.add_tuple ht hb a c h2 hsz

theorem mul_lst0 {l : Addr} {items : Array Value} {k : Nat} {x : Int} {u : Tok} {A : Around} {E : Value → Shared → Prop} {s : Shared} {Q : Value → Shared → Prop} {prog : Program} {w : World}
    (hl : s.heap.get? l = some (lstObj items k)) (hlo : -(2 ^ 63 : Int) ≤ x) (hhi : x < 2 ^ 63) (hsz : items.size * x.toNat ≤ 2 ^ 24)
    (h : Q (.ref s.heap.objs.size) { s with heap := s.heap.push (lstObj (List.foldl (fun x1 x2 => x1 ++ x2) #[] (List.replicate (if items.isEmpty = true then 0 else x.toNat) items)) 0) }) :
    wpAny (model prog w) A (binaryOp .Mult (.ref l) (.int x u)) Q E s :=
  wpAny_binaryOp_repeat_ref (T := "list") (U := "int") (by decide) ⟨_, hl, rfl⟩ (fun s' => typeIs_int s' x u) noFill_list_mul PySem.F.fills_int_mul PySem.F.slot_int_rmul repeat_list PySem.F.slot_int_index.lookup
    (call_meets PySem.F.slot_int_rmul (typeIs_int s x u) PySem.F.entry_int_rmul (PySem.F.args_int_rmul_2 _ _) (int___rmul___int_list x u l items k)
      ⟨hl, rfl, ⟨_, hl, rfl⟩, call_meets PySem.F.slot_list_mul ⟨_, hl, rfl⟩ PySem.F.entry_list_mul (PySem.F.args_list_mul_2 _ _)
        (AutoListH.list___mul___list_int_3 l items k x u (by simp [Builtin.List.listFitsIndex]; first | lia | omega) (by first | lia | omega) (by simp [Builtin.List.listTooLong, sizeLine]; first | lia | omega))
        ⟨hl, h⟩⟩)

theorem foldl_arrays (items : Array Value) : ∀ (n : Nat) (acc : Array Value), (List.foldl (fun x1 x2 => x1 ++ x2) acc (List.replicate n items)).toList = acc.toList ++ (List.replicate n items.toList).flatten
  | 0, acc => by simp
  | n + 1, acc => by
    rw [List.replicate_succ, List.foldl_cons, foldl_arrays items n, List.replicate_succ, List.flatten_cons]
    simp

theorem binW_to {op : Operator} {pv pw : PV} (h : binW op pv pw Q H) : BinW Q H op pv pw := h.to fun u e q => by
  unfold binF at e
  split at e
  · split at e
    · split at e
      · rename_i a b i hi
        cases e
        unfold intF at hi
        split at hi
        · cases hi; exact .addI _ _ q
        · cases hi; exact .subI _ _ q
        · split at hi
          · cases hi; exact .modI _ _ (by assumption) q
          · cases hi
        · split at hi
          · split at hi
            · cases hi; exact .divI _ _ (by assumption) (by assumption) q
            · cases hi
          · cases hi
        · cases hi
      · cases e
    · cases e
  · cases e
theorem bin_ok {op : Operator} {v w : Value} {pv pw : PV} (rv : Rep cx s.heap v pv) (rw' : Rep cx s.heap w pw) (t : St cx F m H s.heap) (h : binW op pv pw Q H) :
    Ev (Rep cx) cx F (binaryOp op v w) m H s Q X := by
  replace h := binW_to h
  cases h with
  | addI a b h =>
    (first | (obtain ⟨_, rfl⟩ := Rep.intI rv) | (obtain ⟨_, rfl⟩ := Rep.strI rv) | (obtain rfl := Rep.objI rv) | (obtain rfl := Rep.boolI rv) | (obtain rfl := Rep.noneI rv)); (first | (obtain ⟨_, rfl⟩ := Rep.intI rw') | (obtain ⟨_, rfl⟩ := Rep.strI rw') | (obtain rfl := Rep.objI rw') | (obtain rfl := Rep.boolI rw') | (obtain rfl := Rep.noneI rw')); exact add_int (.toks _ (.int _ _) t h)
  | subI a b h =>
    (first | (obtain ⟨_, rfl⟩ := Rep.intI rv) | (obtain ⟨_, rfl⟩ := Rep.strI rv) | (obtain rfl := Rep.objI rv) | (obtain rfl := Rep.boolI rv) | (obtain rfl := Rep.noneI rv)); (first | (obtain ⟨_, rfl⟩ := Rep.intI rw') | (obtain ⟨_, rfl⟩ := Rep.strI rw') | (obtain rfl := Rep.objI rw') | (obtain rfl := Rep.boolI rw') | (obtain rfl := Rep.noneI rw')); exact sub_int (.toks _ (.int _ _) t h)
  | mulI a b hk h =>
    (first | (obtain ⟨_, rfl⟩ := Rep.intI rv) | (obtain ⟨_, rfl⟩ := Rep.strI rv) | (obtain rfl := Rep.objI rv) | (obtain rfl := Rep.boolI rv) | (obtain rfl := Rep.noneI rv)); (first | (obtain ⟨_, rfl⟩ := Rep.intI rw') | (obtain ⟨_, rfl⟩ := Rep.strI rw') | (obtain rfl := Rep.objI rw') | (obtain rfl := Rep.boolI rw') | (obtain rfl := Rep.noneI rw')); exact mul_int (.toks _ (.int _ _) t h) (mulOk hk)
  | modI a b hk h =>
    (first | (obtain ⟨_, rfl⟩ := Rep.intI rv) | (obtain ⟨_, rfl⟩ := Rep.strI rv) | (obtain rfl := Rep.objI rv) | (obtain rfl := Rep.boolI rv) | (obtain rfl := Rep.noneI rv)); (first | (obtain ⟨_, rfl⟩ := Rep.intI rw') | (obtain ⟨_, rfl⟩ := Rep.strI rw') | (obtain rfl := Rep.objI rw') | (obtain rfl := Rep.boolI rw') | (obtain rfl := Rep.noneI rw'))
    refine mod_int' (by first | lia | omega) (.toks _ (.int _ _) t ?_)
    rw [Int.fmod_eq_emod_of_nonneg _ (by first | lia | omega)]; exact h
  | divI a b hk hk2 h =>
    (first | (obtain ⟨_, rfl⟩ := Rep.intI rv) | (obtain ⟨_, rfl⟩ := Rep.strI rv) | (obtain rfl := Rep.objI rv) | (obtain rfl := Rep.boolI rv) | (obtain rfl := Rep.noneI rv)); (first | (obtain ⟨_, rfl⟩ := Rep.intI rw') | (obtain ⟨_, rfl⟩ := Rep.strI rw') | (obtain rfl := Rep.objI rw') | (obtain rfl := Rep.boolI rw') | (obtain rfl := Rep.noneI rw'))
    refine floordiv_int (by first | lia | omega) (.toks _ (.int _ _) t ?_) (.inl (PyProof.noPylong_small (by first | lia | omega)))
    rw [Int.fdiv_eq_ediv_of_nonneg _ (by first | lia | omega)]; exact h
  | powI h =>
    (first | (obtain ⟨_, rfl⟩ := Rep.intI rv) | (obtain ⟨_, rfl⟩ := Rep.strI rv) | (obtain rfl := Rep.objI rv) | (obtain rfl := Rep.boolI rv) | (obtain rfl := Rep.noneI rv)); (first | (obtain ⟨_, rfl⟩ := Rep.intI rw') | (obtain ⟨_, rfl⟩ := Rep.strI rw') | (obtain rfl := Rep.objI rw') | (obtain rfl := Rep.boolI rw') | (obtain rfl := Rep.noneI rw'))
    exact pow_int (by decide) (by decide) (.toks _ (.int _ _) t h)
  | addS a b hk h =>
    (first | (obtain ⟨_, rfl⟩ := Rep.intI rv) | (obtain ⟨_, rfl⟩ := Rep.strI rv) | (obtain rfl := Rep.objI rv) | (obtain rfl := Rep.boolI rv) | (obtain rfl := Rep.noneI rv)); (first | (obtain ⟨_, rfl⟩ := Rep.intI rw') | (obtain ⟨_, rfl⟩ := Rep.strI rw') | (obtain rfl := Rep.objI rw') | (obtain rfl := Rep.boolI rw') | (obtain rfl := Rep.noneI rw')); exact add_str (fun t' tk => .toks tk (.str _ _) t h) (Nat.le_trans hk LIM_le)
  | addT xs ys hk h =>
    obtain ⟨a, i1, n1, rfl, e1, l1, r1⟩ := rv.tupI
    obtain ⟨b, i2, n2, rfl, e2, l2, r2⟩ := rw'.tupI
    have k1 := arr_len r1
    have k2 := arr_len r2
    have hl := LIM_le
    refine add_tup0 e1 e2 (by first | lia | omega) (fun c => ?_) (fun _ c => ?_) ?_
    · have z : xs = [] := by
        have : i1.size = 0 := by simpa using c
        rw [k1] at this; exact List.length_eq_zero_iff.mp this
      subst z
      exact .toks s.toks (.tup e2 l2 r2) t h
    · have z : ys = [] := by
        have : i2.size = 0 := by simpa using c
        rw [k2] at this; exact List.length_eq_zero_iff.mp this
      subst z
      refine .toks s.toks (.tup e1 l1 r1) t ?_
      simpa using h
    · refine new_tup (tk := s.toks) (c := 0) t push_keeps (Heap.get?_push_size _ rfl) ?_ ?_ h
      · rw [Array.toList_append]; exact r1.append r2
      · simpa using hk
  | addL a b xs ys ha hb hk h =>
    obtain rfl := Rep.objI rv
    obtain rfl := Rep.objI rw'
    obtain ⟨i1, n1, e1, r1, l1⟩ := t.list ha
    obtain ⟨i2, n2, e2, r2, l2⟩ := t.list hb
    have k1 := arr_len r1
    have k2 := arr_len r2
    have hl := LIM_le
    refine P.add_list e1 e2 ?_ (by first | lia | omega)
    refine new_list (tk := s.toks) (c := 0) t push_keeps (get_size_none _) (Heap.get?_push_size _ rfl) ?_ ?_ h
    · rw [Array.toList_append]; exact r1.append r2
    · simpa using hk
  | mulL a x xs ha u1 u2 u3 h =>
    obtain rfl := Rep.objI rv
    obtain ⟨_, rfl⟩ := Rep.intI rw'
    obtain ⟨items, n1, e1, r1, l1⟩ := t.list ha
    have k1 := arr_len r1
    have hl : LIM = 1048576 := rfl
    refine mul_lst0 e1 (by first | lia | omega) (by first | lia | omega) (by rw [k1]; first | lia | omega) ?_
    refine new_list (tk := s.toks) (c := 0) t push_keeps (get_size_none _) (Heap.get?_push_size _ rfl) ?_ ?_ h
    · rw [foldl_arrays]
      cases z : items.isEmpty with
      | false => simpa [repL] using r1.rep x.toNat
      | true =>
        have z' : xs = [] := by
          have : items.size = 0 := by simpa using z
          rw [k1] at this; exact List.length_eq_zero_iff.mp this
        subst z'
        have : repL x [] = [] := by simp [repL]
        rw [this]; exact .nil
    · rw [repL, List.length_flatten]; simp; rw [Nat.mul_comm]; exact u3
end
end Mine
end
section
open PySem PySem.Calls PyProof.Rows
namespace Mine
set_option autoImplicit false
open SeqAt (EqAt RcAt RcNeAt)

section
variable {cx : Cx} {s : Shared} {H : AHeap}
theorem EqA.same {h : Heap} {p q : PV} {b : Bool} (e : EqA p q b) {v : Value} (r : Rep cx h v p) (r' : Rep cx h v q) : b = true := by
  cases e with
  | bool a b => obtain rfl := Rep.boolI r; cases Rep.boolI r'; simp
  | int a b => obtain ⟨_, rfl⟩ := Rep.intI r; obtain ⟨_, q⟩ := Rep.intI r'; cases q; simp
  | str a b => obtain ⟨_, rfl⟩ := Rep.strI r; obtain ⟨_, q⟩ := Rep.strI r'; cases q; simp
  | intstr a b => obtain ⟨_, rfl⟩ := Rep.intI r; obtain ⟨_, q⟩ := Rep.strI r'; cases q
  | strint a b => obtain ⟨_, rfl⟩ := Rep.strI r; obtain ⟨_, q⟩ := Rep.intI r'; cases q
theorem EqL.all {n : Nat} : ∀ {ps qs : List PV} {b : Bool}, EqL H n ps qs b → ∃ f : Nat → Bool, (∀ j x y, ps[j]? = some x → qs[j]? = some y → EqV H n x y (f j)) ∧ b = ((List.range (min ps.length qs.length)).all f && ps.length == qs.length)
  | _, _, _, .nil => ⟨fun _ => true, fun j x y e => (by simp at e), rfl⟩
  | _, _, _, .l x xs => ⟨fun _ => true, fun j x y _ e => (by simp at e), by simp⟩
  | _, _, _, .r x xs => ⟨fun _ => true, fun j x y e => (by simp at e), by simp⟩
  | _, _, _, .c (a := a) e es => by
    obtain ⟨f, h1, h2⟩ := es.all
    refine ⟨fun j => match j with | 0 => a | j + 1 => f j, fun j x y ex ey => ?_, ?_⟩
    · cases j with
      | zero => simp at ex ey; subst ex ey; exact e
      | succ j => simp at ex ey; exact h1 j x y ex ey
    · rw [h2]
      simp only [List.length_cons, Nat.add_min_add_right, List.range_succ_eq_map, List.all_cons, List.all_map, Bool.and_assoc]
      simp [Function.comp_def]

/-- one and the same value -/
theorem EqV.same (t : Holds cx s.heap H) (n : Nat) : ∀ {p q : PV} {b : Bool}, EqV H n p q b → ∀ {v : Value}, Rep cx s.heap v p → Rep cx s.heap v q → b = true := by
  induction n with
  | zero =>
    intro p q b e v r r'
    cases e with
    | atom e => exact e.same r r'
  | succ n ih =>
    intro p q b e v r r'
    have key : ∀ {ps qs : List PV} {b : Bool} {vs : List Value}, EqL H n ps qs b → RepL cx s.heap vs ps → RepL cx s.heap vs qs → b = true := fun {ps qs b vs} el r1 r2 => by
      obtain ⟨f, hf, hb⟩ := el.all
      have hl : ps.length = qs.length := r1.length.symm.trans r2.length
      rw [hb, ← hl, Nat.min_self, beq_self_eq_true, Bool.and_true, List.all_eq_true]
      intro j hj
      have hj1 : j < ps.length := List.mem_range.mp hj
      have e1 : ps[j]? = some ps[j] := List.getElem?_eq_getElem hj1
      have e2 : qs[j]? = some (qs[j]'(hl ▸ hj1)) := List.getElem?_eq_getElem _
      obtain ⟨v1, ev1, rv1⟩ := r1.get e1
      obtain ⟨v2, ev2, rv2⟩ := r2.get e2
      rw [ev1] at ev2
      cases ev2
      exact ih (hf j _ _ e1 e2) rv1 rv2
    cases e with
    | atom e => exact e.same r r'
    | tup el =>
      obtain ⟨a, i, n, rfl, e1, _, r1⟩ := r.tupI
      obtain ⟨a', i', n', q, e2, _, r2⟩ := r'.tupI
      cases q
      rw [e1] at e2
      have : i = i' := by simp [tupObj] at e2; exact e2.1
      subst this
      exact key el r1 r2
    | list ha hb el =>
      obtain rfl := r.objI
      cases r'.objI
      rw [ha] at hb; cases hb
      obtain ⟨i, n, _, r1, _⟩ := t _ _ ha
      exact key el r1 r1

theorem isTuple_of {h : Heap} {a : Addr} {items : Array Value} {n : Nat} (e : h.get? a = some (tupObj items n)) : h.IsTuple a items := ⟨_, e, rfl, n, rfl⟩

theorem RepL.at {h : Heap} {items : Array Value} {xs : List PV} (r : RepL cx h items.toList xs) {j : Nat} (hj : j < items.size) : ∃ p, xs[j]? = some p ∧ Rep cx h items[j] p := by
  have hl := arr_len r
  have e : xs[j]? = some (xs[j]'(by first | lia | omega)) := by simp
  obtain ⟨v, ev, rv⟩ := r.get e
  refine ⟨_, e, ?_⟩
  have : items[j] = v := by
    rw [Array.getElem?_toList] at ev
    rw [Array.getElem?_eq_getElem hj] at ev
    exact Option.some.inj ev
  rw [this]; exact rv

theorem atom_at {p q : PV} {b : Bool} (e : EqA p q b) {v w : Value} (rv : Rep cx s.heap v p) (rw' : Rep cx s.heap w q) (A : Around) : EqAt A s v w b ∧ RcAt A s v w b ∧ RcNeAt A s v w (!b) := by
  cases e with
  | bool a b => obtain rfl := Rep.boolI rv; obtain rfl := Rep.boolI rw'; exact ⟨.bool_bool _ _, .bool_bool _ _, .bool_bool _ _⟩
  | int a b => obtain ⟨_, rfl⟩ := Rep.intI rv; obtain ⟨_, rfl⟩ := Rep.intI rw'; exact ⟨.int_int _ _ _ _, .int_int _ _ _ _, .int_int _ _ _ _⟩
  | str a b => obtain ⟨_, rfl⟩ := Rep.strI rv; obtain ⟨_, rfl⟩ := Rep.strI rw'; exact ⟨.str_str _ _ _ _, .str_str _ _ _ _, .str_str _ _ _ _⟩
  | intstr a b => obtain ⟨_, rfl⟩ := Rep.intI rv; obtain ⟨_, rfl⟩ := Rep.strI rw'; exact ⟨.int_str _ _ _ _, .int_str _ _ _ _, .int_str _ _ _ _⟩
  | strint a b => obtain ⟨_, rfl⟩ := Rep.strI rv; obtain ⟨_, rfl⟩ := Rep.intI rw'; exact ⟨.str_int _ _ _ _, .str_int _ _ _ _, .str_int _ _ _ _⟩
/-- == told by item, of two made rows -/
theorem eqv_at (t : Holds cx s.heap H) : ∀ (n : Nat) {p q : PV} {b : Bool}, EqV H n p q b → ∀ {v w : Value}, Rep cx s.heap v p → Rep cx s.heap w q → ∀ (A : Around), A.units + n < cLine →
    EqAt A s v w b ∧ RcAt A s v w b ∧ RcNeAt A s v w (!b) := by
  intro n
  induction n with
  | zero =>
    intro p q b e v w rv rw' A hu
    cases e with
    | atom e => exact atom_at e rv rw' A
  | succ n ih =>
    intro p q b e v w rv rw' A hu
    have e0 := e
    cases e with
    | atom e => exact atom_at e rv rw' A
    | tup el =>
      obtain ⟨a1, i1, n1, rfl, e1, _, r1⟩ := rv.tupI
      obtain ⟨a2, i2, n2, rfl, e2, _, r2⟩ := rw'.tupI
      obtain ⟨f, hf, hb⟩ := el.all
      have hi : ∀ j (h1 : j < i1.size) (h2 : j < i2.size), EqAt A.in1 s i1[j] i2[j] (f j) := fun j h1 h2 => by
        obtain ⟨p1, q1, s1⟩ := r1.at h1
        obtain ⟨p2, q2, s2⟩ := r2.at h2
        exact (ih (hf j p1 p2 q1 q2) s1 s2 A.in1 (by show A.units + 1 + n < cLine; first | lia | omega)).1
      rw [← arr_len r1, ← arr_len r2] at hb
      have rc : RcAt A s (.ref a1) (.ref a2) b := by rw [hb]; exact RcAt.tuples (isTuple_of e1) (isTuple_of e2) (by first | lia | omega) hi
      have rn : RcNeAt A s (.ref a1) (.ref a2) (!b) := by rw [hb]; exact RcNeAt.tuples (isTuple_of e1) (isTuple_of e2) (by first | lia | omega) hi
      refine ⟨?_, rc, rn⟩
      by_cases q : a1 = a2
      · subst q; rw [EqV.same t _ e0 rv rw']; exact .same _
      · exact .of_refs q rc
    | list ha hb' el =>
      rename_i a1 a2 _ _
      obtain rfl := rv.objI
      obtain rfl := rw'.objI
      obtain ⟨i1, n1, e1, r1, _⟩ := t _ _ ha
      obtain ⟨i2, n2, e2, r2, _⟩ := t _ _ hb'
      obtain ⟨f, hf, hb⟩ := el.all
      have hi : ∀ j (h1 : j < i1.size) (h2 : j < i2.size), EqAt A.in1 s i1[j] i2[j] (f j) := fun j h1 h2 => by
        obtain ⟨p1, q1, s1⟩ := r1.at h1
        obtain ⟨p2, q2, s2⟩ := r2.at h2
        exact (ih (hf j p1 p2 q1 q2) s1 s2 A.in1 (by show A.units + 1 + n < cLine; first | lia | omega)).1
      rw [← arr_len r1, ← arr_len r2] at hb
      have both : RcAt A s (.ref a1) (.ref a2) b ∧ RcNeAt A s (.ref a1) (.ref a2) (!b) := by
        by_cases hs : i1.size = i2.size
        · rw [hb, ← hs, Nat.min_self, beq_self_eq_true, Bool.and_true]
          exact ⟨RcAt.lists (isList_of e1) (isList_of e2) hs (by first | lia | omega) hi, RcNeAt.lists (isList_of e1) (isList_of e2) hs (by first | lia | omega) hi⟩
        · have hz : (i1.size == i2.size) = false := by simpa using hs
          rw [hb, hz, Bool.and_false]
          exact ⟨RcAt.lists_lengths (isList_of e1) (isList_of e2) (by simpa using hs) (by first | lia | omega), RcNeAt.lists_lengths (isList_of e1) (isList_of e2) (by simpa using hs) (by first | lia | omega)⟩
      refine ⟨?_, both.1, both.2⟩
      by_cases q : a1 = a2
      · subst q; rw [EqV.same t _ e0 (.obj _) (.obj _)]; exact .same _
      · exact .of_refs q both.1
end
end Mine
end
section
open PySem PySem.Calls PyProof.Rows
namespace Mine
set_option autoImplicit false
open SeqAt (EqAt RcAt RcNeAt)

section
variable {cx : Cx}
theorem RepK.get {h : Heap} : ∀ {vs : List (Str × Value)} {ps : List (Str × PV)}, RepK cx h vs ps → ∀ {k : Str} {p : PV}, dget ps k = some p → ∃ v, valueAt vs k = some v ∧ Rep cx h v p
  | _, _, .nil, k, p, e => by simp [dget] at e
  | _, _, .cons (k := k') (ps := qs) a r, k, p, e => by
    by_cases q : k' = k
    · subst q; simp [dget] at e; subst e; exact ⟨_, by simp [valueAt], a⟩
    · have e' : dget qs k = some p := by simpa [dget, q] using e
      obtain ⟨v, e1, r1⟩ := r.get e'
      exact ⟨v, by simpa [valueAt, q] using e1, r1⟩
theorem RepK.miss {h : Heap} : ∀ {vs : List (Str × Value)} {ps : List (Str × PV)}, RepK cx h vs ps → ∀ {k : Str}, dget ps k = none → valueAt vs k = none
  | _, _, .nil, k, e => by simp [valueAt]
  | _, _, .cons (k := k') (ps := qs) a r, k, e => by
    by_cases q : k' = k
    · subst q; simp [dget] at e
    · have e' : dget qs k = none := by simpa [dget, q] using e
      have := r.miss e'
      simpa [valueAt, q] using this
theorem RepK.isSome {h : Heap} {vs : List (Str × Value)} {ps : List (Str × PV)} (r : RepK cx h vs ps) (k : Str) : (valueAt vs k).isSome = hasKey ps k := by
  unfold hasKey
  cases e : dget ps k with
  | none => rw [r.miss e]; rfl
  | some p => obtain ⟨v, q, _⟩ := r.get e; rw [q]; rfl

noncomputable def eqStr (k : Str) : Value → Bool
  | .str z _ => z == k
  | _ => false
theorem RepL.strs {h : Heap} : ∀ {vs : List Value} {ks : List Str}, RepL cx h vs (ks.map .str) → (∀ y ∈ vs, ∃ z t, y = .str z t) ∧ ∀ k, vs.any (eqStr k) = decide (k ∈ ks)
  | [], [], _ => ⟨fun _ q => (nomatch q), fun k => by simp⟩
  | v :: vs, z :: ks, .cons a r => by
    obtain ⟨t, rfl⟩ := a.strI
    obtain ⟨h1, h2⟩ := r.strs
    refine ⟨fun y hy => ?_, fun k => ?_⟩
    · rcases List.mem_cons.mp hy with rfl | hy
      · exact ⟨z, t, rfl⟩
      · exact h1 y hy
    · rw [List.any_cons, h2 k]
      by_cases q : z = k
      · subst q; simp [eqStr]
      · have q' : ¬ k = z := fun e => q e.symm
        simp [eqStr, q, q', List.mem_cons]
end

section
variable {cx : Cx} {F : Fm} {m : Loc} {H : AHeap} {s : Shared} {Q : BPost} {X : XPost}
abbrev IsB : Heap → Value → Bool → Prop := fun _ v b => v = .bool b

theorem St.dict {a : Addr} {xs : List (Str × PV)} (t : St cx F m H s.heap) (e : H a = some (.dict xs)) : ∃ vs, s.heap.DictOf cx.sk a vs ∧ RepK cx s.heap vs xs ∧ xs.length ≤ LIM ∧ (a == sysModules) = false := t.heap a _ e

theorem eqd_hits (t : Holds cx s.heap H) {vb : List (Str × Value)} {ys : List (Str × PV)} (rb : RepK cx s.heap vb ys) {xs : List (Str × PV)} {r : Bool} (hd : EqD H ys xs r) : ∀ {va : List (Str × Value)}, RepK cx s.heap va xs → ∀ A : Around, A.units + 40 < cLine →
    PySem.W.KeqHits A s vb va r := by
  induction hd with
  | nil => intro va ra A hu; cases ra; exact .nil
  | miss e => intro va ra A hu; cases ra; exact .miss (rb.miss e)
  | c e ev es ih =>
    intro va ra A hu
    cases ra with
    | cons a r =>
      obtain ⟨v, q, rv⟩ := rb.get e
      exact .hit q (eqv_at t 40 ev a rv A hu).1 (ih r A hu)

theorem eq_ok {v w : Value} {p q : PV} {b : Bool} (hu : F.A.units + 100 < cLine) (rv : Rep cx s.heap v p) (rw' : Rep cx s.heap w q) (t : St cx F m H s.heap) (e : EqT H p q b) (Q' : Value → Shared → Prop) (E : Value → Shared → Prop) :
    (Q' (.bool b) s → wpAny cx.M F.A (compareOp .Eq v w) Q' E s) ∧ (Q' (.bool (!b)) s → wpAny cx.M F.A (compareOp .NotEq v w) Q' E s) := by
  cases e with
  | val e =>
    obtain ⟨_, h2, h3⟩ := eqv_at t.heap 40 e rv rw' F.A (by first | lia | omega)
    exact ⟨fun h => h2 _ _ E Q' h, fun h => h3 _ _ E Q' h⟩
  | dict ha hb hl hd =>
    obtain rfl := Rep.objI rv; obtain rfl := Rep.objI rw'
    obtain ⟨va, da, ra, _, na⟩ := t.dict ha
    obtain ⟨vb, db, rb, _, nb⟩ := t.dict hb
    have hh := eqd_hits t.heap rb hd ra F.A.in1 (by show F.A.units + 1 + 40 < cLine; first | lia | omega)
    have hlen : (va.length == vb.length) = true := by rw [ra.length, rb.length, hl]; simp
    exact ⟨fun h => PySem.W.keq_eq na nb da db (by first | lia | omega) (fun _ => hh) (by rw [hlen, Bool.true_and]; exact h), fun h => PySem.W.keq_ne na nb da db (by first | lia | omega) (fun _ => hh) (by rw [hlen, Bool.true_and]; exact h)⟩
  | dictlen ha hb hl =>
    obtain rfl := Rep.objI rv; obtain rfl := Rep.objI rw'
    obtain ⟨va, da, ra, _, na⟩ := t.dict ha
    obtain ⟨vb, db, rb, _, nb⟩ := t.dict hb
    have hne : ¬ va.length = vb.length := by rw [ra.length, rb.length]; exact hl
    have hlen : (va.length == vb.length) = false := by simpa using hne
    exact ⟨fun h => PySem.W.keq_eq (r := true) na nb da db (by first | lia | omega) (fun e => absurd e hne) (by rw [hlen, Bool.false_and]; exact h), fun h => PySem.W.keq_ne (r := true) na nb da db (by first | lia | omega) (fun e => absurd e hne) (by rw [hlen, Bool.false_and]; exact h)⟩

theorem cmpW_to {op : CmpOp} {p q : PV} (h : cmpW op p q Q H) : CmpW (fun b => Q b H) H op p q := h.to fun b e k => by
  unfold cmpF at e
  split at e
  · split at e
    · unfold cmpI at e
      split at e <;> cases e
      · exact .eq (.val (.int _ _)) k
      · exact .ne (.val (.int _ _)) k
      · exact .lt _ _ k
      · exact .le _ _ k
      · exact .gt _ _ k
    · cases e
  · split at e
    · unfold cmpS at e
      split at e <;> cases e
      · exact .eq (.val (.str _ _)) k
      · exact .ne (.val (.str _ _)) k
    · cases e
  · split at e
    · unfold noneF at e
      split at e <;> cases e
      · exact .isN k
      · exact .niN k
    · cases e
theorem none_rep {h : Heap} {v : Value} {p : PV} (r : Rep cx h v p) : (v == .none) = isN p := by cases r <;> rfl
theorem cmp_ok {op : CmpOp} {v w : Value} {p q : PV} (hu : F.A.units + 100 < cLine) (rv : Rep cx s.heap v p) (rw' : Rep cx s.heap w q) (t : St cx F m H s.heap) (h : cmpW op p q Q H) :
    Ev IsB cx F (compareOp op v w) m H s Q X := by
  replace h := cmpW_to h
  cases h with
  | eq e k => exact (eq_ok hu rv rw' t e _ _).1 (.toks s.toks rfl t k)
  | ne e k => exact (eq_ok hu rv rw' t e _ _).2 (.toks s.toks rfl t k)
  | lt a b k => obtain ⟨_, rfl⟩ := Rep.intI rv; obtain ⟨_, rfl⟩ := Rep.intI rw'; exact lt_int (.toks s.toks rfl t k)
  | le a b k => obtain ⟨_, rfl⟩ := Rep.intI rv; obtain ⟨_, rfl⟩ := Rep.intI rw'; exact le_int (.toks s.toks rfl t k)
  | gt a b k => obtain ⟨_, rfl⟩ := Rep.intI rv; obtain ⟨_, rfl⟩ := Rep.intI rw'; exact gt_int (.toks s.toks rfl t k)
  | isN k => obtain rfl := Rep.noneI rw'; exact is_none_gen (by rw [none_rep rv]; exact .toks s.toks rfl t k)
  | niN k => obtain rfl := Rep.noneI rw'; exact isnot_none_gen (by rw [none_rep rv]; exact .toks s.toks rfl t k)
  | isB k => obtain rfl := Rep.boolI rv; obtain rfl := Rep.boolI rw'; exact is_bool (.toks s.toks rfl t k)
  | niB k => obtain rfl := Rep.boolI rv; obtain rfl := Rep.boolI rw'; exact isnot_bool (.toks s.toks rfl t k)
  | inD ha h =>
    obtain ⟨tk, rfl⟩ := rv.strI
    obtain rfl := Rep.objI rw'
    obtain ⟨vs, d, r, _, hn⟩ := t.dict ha
    refine wpAny_in_of (knd := cx.sk) (strKind_is _ _ _ _) hn d.mapOf ?_
    rw [r.isSome]; exact .toks _ rfl t h
  | niD ha h =>
    obtain ⟨tk, rfl⟩ := rv.strI
    obtain rfl := Rep.objI rw'
    obtain ⟨vs, d, r, _, hn⟩ := t.dict ha
    refine wpAny_notIn_of (knd := cx.sk) (strKind_is _ _ _ _) hn d.mapOf ?_
    rw [r.isSome]; exact .toks _ rfl t h
  | inL ha h =>
    rename_i k a ks
    obtain ⟨tk, rfl⟩ := rv.strI
    obtain rfl := Rep.objI rw'
    obtain ⟨items, n, e, r, _⟩ := t.list ha
    obtain ⟨h1, h2⟩ := r.strs
    refine SeqAt.in_listAt (eqStr k) (isList_of e) (fun y hy => ?_) ?_
    · obtain ⟨z, u, rfl⟩ := h1 y (by simpa using hy)
      exact EqAt.str_str _ _ _ _
    · rw [← Array.any_toList, h2]; exact .toks s.toks rfl t h
  | niL ha h =>
    rename_i k a ks
    obtain ⟨tk, rfl⟩ := rv.strI
    obtain rfl := Rep.objI rw'
    obtain ⟨items, n, e, r, _⟩ := t.list ha
    obtain ⟨h1, h2⟩ := r.strs
    refine SeqAt.notIn_listAt (eqStr k) (isList_of e) (fun y hy => ?_) ?_
    · obtain ⟨z, u, rfl⟩ := h1 y (by simpa using hy)
      exact EqAt.str_str _ _ _ _
    · rw [← Array.any_toList, h2]; exact .toks s.toks rfl t h
end
end Mine
end
section
open PySem PySem.Calls PyProof.Rows
namespace Mine
set_option autoImplicit false

section
variable {prog : Program} {w : World} {A : Around} {E : Value → Shared → Prop} {s : Shared}
theorem tail_at {value slice : Expr} {o i : Value} {T id : String} {ops : List Value} {Q : Value → Shared → Prop} (hT : s.TypeIs o T)
    (hl : typeLookup (.type T) "__getitem__" = pure (some (.builtin id))) (h : wpAny (model prog w) A (getItem o i) Q E s)
    (hs : subscripted slice false o i = operate ops (getItem o i)) :
    wpAny (model prog w) A (subscriptTail value slice o i) Q E s := by
  unfold subscriptTail
  refine wpAny_bind ?_
  rw [getitemInPython_of_ne hT.not_modules]
  refine wpAny_bind (wpAny_specialOf hT hl ?_)
  have fin : wpAny (model prog w) A (subscripted slice false o i) (fun r s₃ => wpAny (model prog w) A (letTemporaryGo value o r >>= fun _ => pure r) Q E s₃) E s := by
    rw [hs]
    exact wpAny_operating (wpAny_mono h (fun r s₃ h₃ => wpAny_bind (wpAny_letTemporaryGo (wpAny_pure h₃))) fun _ _ x => x)
  first
    | exact wpAny_pure (wpAny_bind fin)
    | exact wpAny_bind (wpAny_pure (wpAny_bind fin))
    | exact wpAny_bind fin

theorem getItem_lst {l : Addr} {items : Array Value} {k : Int} {t : Tok} {x : Value} {Q : Value → Shared → Prop} (hl : s.heap.IsList l items) (hsz : items.size ≤ LIM) (hx : itemAt items.toList k = some x) (h : Q x s) :
    wpAny (model prog w) A (getItem (.ref l) (.int k t)) Q E s := by
  unfold itemAt at hx
  have hL : LIM = 1048576 := rfl
  simp only [Array.length_toList, Array.getElem?_toList] at hx
  split at hx
  · rename_i h0
    have : k.toNat < items.size := (Array.getElem?_eq_some_iff.mp hx).1
    exact wpAny_getItem_list hl h0 (by first | lia | omega) hx h
  · split at hx
    · exact wpAny_getItem_list_neg hl (by first | lia | omega) (by first | lia | omega) (by first | lia | omega) hx h
    · cases hx
theorem seqIdx {k : Int} {n : Nat} {α : Type} {xs : List α} {x : α} (hn : xs.length = n) (hx : itemAt xs k = some x) : ∃ j, seqIndex? k n = some j ∧ xs[j]? = some x := by
  unfold itemAt at hx
  split at hx
  · rename_i h0
    have : k.toNat < xs.length := (List.getElem?_eq_some_iff.mp hx).1
    exact ⟨_, seqIndex_of h0 (by first | lia | omega), hx⟩
  · split at hx
    · rename_i h0 h1
      refine ⟨_, seqIndex_neg (by first | lia | omega) (by first | lia | omega), ?_⟩
      rw [← hn]; exact hx
    · cases hx
theorem itemAt_range {k : Int} {α : Type} {xs : List α} {x : α} (hx : itemAt xs k = some x) : -(xs.length : Int) ≤ k ∧ k < xs.length := by
  unfold itemAt at hx
  split at hx
  · have : k.toNat < xs.length := (List.getElem?_eq_some_iff.mp hx).1
    first | lia | omega
  · split at hx
    · have : (k + xs.length).toNat < xs.length := (List.getElem?_eq_some_iff.mp hx).1
      first | lia | omega
    · cases hx
end

theorem RepL.item {cx : Cx} {h : Heap} {vs : List Value} {ps : List PV} (r : RepL cx h vs ps) {k : Int} {p : PV} (e : itemAt ps k = some p) : ∃ v, itemAt vs k = some v ∧ Rep cx h v p := by
  unfold itemAt at e ⊢
  rw [r.length]
  split at e
  · rw [if_pos (by assumption)]; exact r.get e
  · rw [if_neg (by assumption)]
    split at e
    · rw [if_pos (by assumption)]; exact r.get e
    · cases e
theorem ints_item {vs : List Value} {ns : List Int} (r : IntsAre vs ns) {k : Int} {n : Int} (e : itemAt ns k = some n) : ∃ t, itemAt vs k = some (.int n t) := by
  have g : ∀ {vs : List Value} {ns : List Int}, IntsAre vs ns → ∀ {j : Nat} {n : Int}, ns[j]? = some n → ∃ t, vs[j]? = some (.int n t) := by
    intro vs ns r
    induction r with
    | nil => intro j n e; simp at e
    | cons a t _ ih =>
      intro j n e
      cases j with
      | zero => simp at e; subst e; exact ⟨t, rfl⟩
      | succ j => simp at e; simpa using ih e
  unfold itemAt at e ⊢
  rw [r.length]
  split at e
  · rw [if_pos (by assumption)]; exact g r e
  · rw [if_neg (by assumption)]
    split at e
    · rw [if_pos (by assumption)]; exact g r e
    · cases e

section
variable {cx : Cx} {F : Fm} {m : Loc} {H : AHeap} {s : Shared} {Q : Post} {X : XPost}

theorem St.tape {a : Addr} {n : Nat} (t : St cx F m H s.heap) (e : H a = some (.tape n)) : ∃ u k, s.heap.get? a = some (lstObj #[.int n u] k) := t.heap a _ e
theorem ints_len {vs : List Value} {ns : List Int} (r : IntsAre vs ns) : vs.length = ns.length := r.length

theorem subW_to {p q : PV} (h : subW p q Q H) : SubW Q H p q := h.to fun u e k => by
  unfold subF at e
  split at e
  · split at e
    · exact .tup e k
    · cases e
  · cases e
theorem sub_ok {value slice : Expr} {v i : Value} {p q : PV} (hs : ∀ o i, subscripted slice false o i = operate [o, i] (getItem o i)) (rv : Rep cx s.heap v p) (ri : Rep cx s.heap i q) (t : St cx F m H s.heap) (h : subW p q Q H) :
    Ev (Rep cx) cx F (subscriptTail value slice v i) m H s Q X := by
  have hL : LIM = 1048576 := rfl
  replace h := subW_to h
  cases h with
  | tup e h =>
    obtain ⟨a, items, n, rfl, g, l, r⟩ := rv.tupI
    obtain ⟨u, rfl⟩ := ri.intI
    obtain ⟨y, ey, ry⟩ := r.item e
    obtain ⟨j, h1, h2⟩ := seqIdx (n := items.size) (by simp) ey
    have := itemAt_range e
    refine tail_at (T := "tuple") ⟨_, g, rfl⟩ slot_tuple_getitem.lookup (P.getItem_tuple g (by first | lia | omega) (by first | lia | omega) h1 (by simpa using h2) (.toks s.toks ry t h)) (hs _ _)
  | str hz e h =>
    rename_i y x k
    obtain ⟨u, rfl⟩ := rv.strI
    obtain ⟨u, rfl⟩ := ri.intI
    unfold signAt at e
    obtain ⟨c, ec, rfl⟩ := Option.map_eq_some_iff.mp e
    have hl : y.cps.toList.length = y.length := by simp [Str.length]
    obtain ⟨j, h1, h2⟩ := seqIdx hl ec
    have := itemAt_range ec
    refine tail_at (T := "str") (typeIs_str _ _ _) PySem.F.slot_str_getitem.lookup (getItem_str (i := k) (c := c) ?_ ?_ (.toks _ (.str _ _) t h)) (hs _ _)
    · simp; first | lia | omega
    · rw [h1]; simpa using h2
  | fls e h =>
    obtain ⟨a, items, rfl, g, ii, l⟩ := rv.flsI
    obtain ⟨u, rfl⟩ := ri.intI
    obtain ⟨y, ey⟩ := ints_item ii e
    have hk := ints_len ii
    have g' := isList_up g t.base
    refine tail_at (T := "list") g'.typeIs slot_list_getitem.lookup (getItem_lst g' (by simp at hk; first | lia | omega) ey (.toks s.toks (.int _ _) t h)) (hs _ _)
  | fdt e h =>
    obtain ⟨a, vs, rfl, d, r⟩ := rv.fdtI
    obtain ⟨u, rfl⟩ := ri.strI
    obtain ⟨y, ey, ry⟩ := r.get e
    have d' := d.keep t.base
    exact tail_at (T := "dict") d'.typeIs slot_dict_getitem.lookup (wpAny_getItem_of (knd := cx.sk) (strKind_is _ _ _ _) d'.mapOf ey (.toks _ ry t h)) (hs _ _)
  | list ha e h =>
    obtain rfl := Rep.objI rv
    obtain ⟨u, rfl⟩ := ri.intI
    obtain ⟨items, n, g, r, l⟩ := t.list ha
    obtain ⟨y, ey, ry⟩ := r.item e
    have hk := arr_len r
    refine tail_at (T := "list") ⟨_, g, rfl⟩ slot_list_getitem.lookup (getItem_lst (isList_of g) (by first | lia | omega) ey (.toks s.toks ry t h)) (hs _ _)
  | dict ha e h =>
    obtain rfl := Rep.objI rv
    obtain ⟨u, rfl⟩ := ri.strI
    obtain ⟨vs, d, r, _⟩ := t.dict ha
    obtain ⟨y, ey, ry⟩ := r.get e
    exact tail_at (T := "dict") d.typeIs slot_dict_getitem.lookup (wpAny_getItem_of (knd := cx.sk) (strKind_is _ _ _ _) d.mapOf ey (.toks _ ry t h)) (hs _ _)
  | tape ha h =>
    obtain rfl := Rep.objI rv
    obtain ⟨u, rfl⟩ := ri.intI
    obtain ⟨u, k, g⟩ := t.tape ha
    exact tail_at (T := "list") ⟨_, g, rfl⟩ slot_list_getitem.lookup (getItem_lst (isList_of g) (by simp [LIM]) rfl (.toks s.toks (.int _ _) t h)) (hs _ _)
end
end Mine
end
section
open PySem PySem.Calls PyProof.Rows
namespace Mine
set_option autoImplicit false
open PySem.Builtin.Str (strSliceIndices)

theorem cutAt_le (n : Nat) (k : Int) : cutAt n k ≤ n := by unfold cutAt; split <;> (first | lia | omega)
theorem clip_cut (n : Nat) (k : Int) : max 0 (min (if k < 0 then k + (n : Int) else k) (n : Int)) = (cutAt n k : Int) := by
  unfold cutAt
  by_cases h : 0 ≤ k
  · rw [if_neg (by first | lia | omega), if_pos h]; first | lia | omega
  · rw [if_pos (by first | lia | omega), if_neg h]; first | lia | omega
theorem bounds_from (n : Nat) (k : Int) : sliceBounds (some k) none none n = ((cutAt n k : Int), (n : Int), 1) := by
  show (max 0 (min (if k < 0 then k + (n : Int) else k) (n : Int)), (n : Int), (1 : Int)) = _
  rw [clip_cut]
theorem bounds_to (n : Nat) (k : Int) : sliceBounds none (some k) none n = ((0 : Int), (cutAt n k : Int), 1) := by
  show ((0 : Int), max 0 (min (if k < 0 then k + (n : Int) else k) (n : Int)), (1 : Int)) = _
  rw [clip_cut]
theorem pick_from' (items : Array Value) (k : Int) : (slicePick items (some k) none none).toList = items.toList.drop (cutAt items.size k) := by
  unfold slicePick
  rw [bounds_from]
  simp only
  rw [sliceRange_one, pick_run, List.take_of_length_le (by simp)]
theorem pick_to' (items : Array Value) (k : Int) : (slicePick items none (some k) none).toList = items.toList.take (cutAt items.size k) := by
  unfold slicePick
  rw [bounds_to]
  simp only
  rw [show (0 : Int) = ((0 : Nat) : Int) from rfl, sliceRange_one, pick_run, List.drop_zero, Nat.sub_zero]
theorem fm_congr {α β : Type} {f g : α → Option β} : ∀ {l : List α}, (∀ x ∈ l, f x = g x) → l.filterMap f = l.filterMap g
  | [], _ => rfl
  | a :: l, h => by rw [List.filterMap_cons, List.filterMap_cons, h a (List.mem_cons_self ..), fm_congr fun x hx => h x (List.mem_cons_of_mem _ hx)]
theorem pick_rev (items : Array Value) : (slicePick items none none (some (-1))).toList = items.toList.reverse := by
  have h := pick_run items.toList.reverse.toArray 0 items.size
  rw [List.drop_zero, List.take_of_length_le (by simp)] at h
  simp only [List.toList_toArray] at h
  refine Eq.trans ?_ h
  unfold slicePick
  rw [show sliceBounds none none (some (-1)) items.size = ((items.size : Int) - 1, -1, -1) from rfl]
  simp only [List.toList_toArray]
  unfold sliceRange
  rw [if_neg (by decide)]
  have hc : (if (items.size : Int) - 1 > -1 then ((items.size : Int) - 1 - -1 - -1 - 1) / (- -1) else 0).toNat = items.size := by
    split
    · rw [show (- -1 : Int) = 1 from rfl, Int.ediv_one]; first | lia | omega
    · first | lia | omega
  simp only [hc]
  rw [List.filterMap_map, List.filterMap_map]
  refine fm_congr fun k hk => ?_
  have hk' : k < items.size := List.mem_range.mp hk
  simp only [Function.comp]
  rw [show ((items.size : Int) - 1 + -1 * (k : Int)).toNat = items.size - 1 - k by first | lia | omega, Nat.zero_add]
  have e : items.toList.reverse.toArray[k]? = items.toList.reverse[k]? := by simp
  rw [e, List.getElem?_reverse (by simpa using hk'), Array.length_toList, Array.getElem?_toList]
theorem str_from (x : Str) (k : Int) : Txt.slice x (some k) none = ⟨(x.cps.toList.drop (cutAt x.length k)).toArray⟩ := by
  have e : strSliceIndices (some k) none 1 x.length = (List.range (x.length - cutAt x.length k)).map (cutAt x.length k + ·) := by
    show sliceRange (max 0 (min (if k < 0 then k + (x.length : Int) else k) (x.length : Int))) (x.length : Int) 1 = _
    rw [clip_cut, sliceRange_one]
  unfold Txt.slice
  rw [e, pick_run]
  split
  · rename_i h
    simp at h
    have hc := cutAt_le x.length k
    have z : cutAt x.length k = 0 ∨ x.length = 0 := by first | lia | omega
    rcases z with z | z
    · rw [z]; simp
    · have : x.cps.toList = [] := by
        have : x.cps.size = 0 := z
        simpa using this
      rw [this]; cases x; simp_all
  · rw [List.take_of_length_le (by simp [Str.length])]
theorem str_to (x : Str) (k : Int) : Txt.slice x none (some k) = ⟨(x.cps.toList.take (cutAt x.length k)).toArray⟩ := by
  have e : strSliceIndices none (some k) 1 x.length = (List.range (cutAt x.length k - 0)).map (0 + ·) := by
    show sliceRange 0 (max 0 (min (if k < 0 then k + (x.length : Int) else k) (x.length : Int))) 1 = _
    rw [clip_cut, show (0 : Int) = ((0 : Nat) : Int) from rfl, sliceRange_one]
  unfold Txt.slice
  rw [e, pick_run]
  split
  · rename_i h
    simp at h
    rw [h, List.take_of_length_le (by simp [Str.length])]
  · rw [List.drop_zero, Nat.sub_zero]

section
variable {prog : Program} {w : World} {A : Around} {E : Value → Shared → Prop} {s : Shared}
theorem slicePart_of {v : Value} {k : Option Int} {Q : Option Int → Shared → Prop} (p : IsPart v k) (h : Q k s) : wpAny (model prog w) A (Builtin.Slice.slicePartIndex v) Q E s := by
  cases p with
  | none => exact slicePart_none h
  | int i t => exact slicePart_int h
theorem sliceApplied_of {sl : Addr} {vl vu : Value} {lo hi : Option Int} {n : Nat} {a b : Nat} {Q : Int × Int × Nat → Shared → Prop} (hs : s.heap.IsSliceOf sl vl vu .none) (pl : IsPart vl lo) (pu : IsPart vu hi)
    (e : Builtin.Slice.sliceAdjust lo hi 1 (n : Int) = ((a : Int), (b : Int))) (h : Q ((a : Int), 1, b - a) s) :
    wpAny (model prog w) A (Builtin.Slice.sliceApplied (.ref sl) (pure (n : Int))) Q E s := by
  obtain ⟨os, hos, hcs, hds⟩ := id hs
  unfold Builtin.Slice.sliceApplied Builtin.Slice.sliceFields
  refine wpAny_bind (wpAny_bind (wpAny_field hos hds (x := vl) rfl (wpAny_bind (wpAny_field hos hds (x := vu) rfl (wpAny_bind (wpAny_field hos hds (x := .none) rfl (wpAny_pure ?_)))))))
  refine wpAny_bind (slicePart_none ?_)
  show wpAny _ _ (if ((1 : Int) == 0) = true then _ else _) _ _ s
  rw [if_neg (by decide)]
  refine wpAny_bind (slicePart_of pl (wpAny_bind (slicePart_of pu (wpAny_bind (wpAny_pure ?_)))))
  show wpAny _ _ (match Builtin.Slice.sliceAdjust lo hi 1 (n : Int) with | (lo, hi) => pure (lo, (1 : Int), Builtin.Slice.slicePlaces lo hi 1)) _ _ s
  rw [e]
  show wpAny _ _ (pure ((a : Int), (1 : Int), Builtin.Slice.slicePlaces (a : Int) (b : Int) 1)) _ _ s
  have : Builtin.Slice.slicePlaces (a : Int) (b : Int) 1 = b - a := by
    unfold Builtin.Slice.slicePlaces
    have h1 : (1 : Int) > 0 := by first | lia | omega
    simp only [h1, if_true, Int.ediv_one]
    split <;> (first | lia | omega)
  rw [this]
  exact wpAny_pure h
theorem pick_cut (xs : Array Value) (a b : Nat) : ((List.range (b - a)).filterMap fun (k : Nat) => xs[((a : Int) + (k : Int) * 1).toNat]?).toArray = ((xs.toList.drop a).take (b - a)).toArray := by
  have e : (fun (k : Nat) => xs[((a : Int) + (k : Int) * 1).toNat]?) = fun k => xs[a + k]? := by
    funext k
    have : ((a : Int) + (k : Int) * 1).toNat = a + k := by first | lia | omega
    rw [this]
  rw [e]
  have := pick_run xs a (b - a)
  rw [List.filterMap_map] at this
  have e2 : ((fun x => xs[x]?) ∘ fun x => a + x) = fun k => xs[a + k]? := rfl
  rw [e2] at this
  rw [this]
theorem getItem_tup_cut {t sl : Addr} {items : Array Value} {k : Nat} {vl vu : Value} {lo hi : Option Int} {a b : Nat} {Q : Value → Shared → Prop} (ht : s.heap.get? t = some (tupObj items k)) (hs : s.heap.IsSliceOf sl vl vu .none)
    (pl : IsPart vl lo) (pu : IsPart vu hi) (e : Builtin.Slice.sliceAdjust lo hi 1 (items.size : Int) = ((a : Int), (b : Int))) (hb : b ≤ items.size) (hsz : items.size ≤ sizeLine)
    (h0 : a = 0 → b - a = items.size → Q (.ref t) s)
    (h : Q (.ref s.heap.objs.size) { s with heap := s.heap.push (tupObj ((items.toList.drop a).take (b - a)).toArray 0) }) : wpAny (model prog w) A (getItem (.ref t) (.ref sl)) Q E s := by
  have hit : IsTup s.heap t items := isTup_of ht
  have hdrop : sizeOk (.seq ((items.toList.drop a).take (b - a)).toArray) := by
    show ((items.toList.drop a).take (b - a)).toArray.size ≤ sizeLine
    rw [List.size_toArray, List.length_take, List.length_drop, Array.length_toList]
    first | lia | omega
  obtain ⟨os, hos, hcs, hds⟩ := id hs
  have hTs : s.TypeIs (.ref sl) "slice" := ⟨os, hos, hcs⟩
  unfold getItem
  try with_reducible refine wpAny_holding ?_
  first | refine wpAny_bind (wpAny_pure ?_) | skip
  refine wpAny_bind (wpAny_sequenceKey hit.typeIs (by decide) ?_)
  refine wpAny_bind (wpAny_callSpecial?_slot (name := Str.ofString "__getitem__") hit.typeIs slot_tuple_getitem
    (wpAny_call_entry slot_tuple_getitem hit.typeIs entry_tuple_getitem ?_ (args_tuple_getitem _ _)))
  show wpAny _ _ (Builtin.Tuple.tupleItemsOf (.ref t) >>= _) _ _ s
  refine wpAny_bind (tupleItemsOf_ hit ?_)
  refine wpAny_bind (wpAny_typeOf hTs ?_)
  rw [if_pos (by decide)]
  refine wpAny_bind (sliceApplied_of hs pl pu e ?_)
  show wpAny _ _ (if ((a : Int) == 0 && (1 : Int) == 1 && (b - a) == items.size) = true then _ else _) _ _ s
  by_cases hc : ((a : Int) == 0 && (1 : Int) == 1 && (b - a) == items.size) = true
  · rw [if_pos hc]
    simp at hc
    have hq := h0 (by first | lia | omega) (by first | lia | omega)
    unfold Builtin.Tuple.tupleIsExact
    refine wpAny_bind (wpAny_bind (wpAny_typeOf hit.typeIs (wpAny_pure ?_)))
    first
      | exact wpAny_bind (wpAny_rule (wpAny_pure ⟨_, rfl, wpAny_pure hq⟩))
      | exact wpAny_bind (wpAny_rule (wpAny_bind (wpAny_pure (wpAny_pure ⟨_, rfl, wpAny_pure hq⟩))))
  · rw [if_neg hc, pick_cut items a b]
    first
      | exact wpAny_bind (m := Builtin.Tuple.tupleExact _) (wpAny_newObj_type (wpAny_pure ⟨_, rfl, wpAny_pure h⟩) hdrop)
      | exact wpAny_bind (m := Builtin.Tuple.tupleExact _) (wpAny_newObj_type (wpAny_bind (wpAny_pure (wpAny_pure ⟨_, rfl, wpAny_pure h⟩))) hdrop)
      | exact wpAny_bind (wpAny_bind (m := Builtin.Tuple.tupleExact _) (wpAny_newObj_type (wpAny_pure (wpAny_pure ⟨_, rfl, wpAny_pure h⟩)) hdrop))
      | exact wpAny_bind (wpAny_bind (m := Builtin.Tuple.tupleExact _) (wpAny_newObj_type (wpAny_pure ⟨_, rfl, wpAny_pure h⟩) hdrop))
end
section
variable {cx : Cx} {F : Fm} {m : Loc} {H : AHeap} {s : Shared} {Q : Post} {X : XPost}
theorem adj_from (n : Nat) (k : Int) : Builtin.Slice.sliceAdjust (some k) none 1 (n : Int) = ((cutAt n k : Int), (n : Int)) := by
  unfold Builtin.Slice.sliceAdjust cutAt
  simp only [show ¬ ((1 : Int) < 0) by first | lia | omega, if_false]
  congr 1
  split <;> split <;> (first | lia | omega)
theorem adj_to (n : Nat) (k : Int) : Builtin.Slice.sliceAdjust none (some k) 1 (n : Int) = (((0 : Nat) : Int), (cutAt n k : Int)) := by
  unfold Builtin.Slice.sliceAdjust cutAt
  simp only [show ¬ ((1 : Int) < 0) by first | lia | omega, if_false]
  congr 1
  split <;> split <;> (first | lia | omega)

theorem repl_ints {cx : Cx} {h : Heap} : ∀ {vs : List Value} {ns : List Int}, IntsAre vs ns → RepL cx h vs (ns.map .int)
  | _, _, .nil => .nil
  | _, _, .cons _ _ r => .cons (.int _ _) (repl_ints r)
noncomputable def slObj (l u st : Value) : Obj := { cls := .type "slice", data := .fields #[l, u, st] }
theorem St.push {o : Obj} (t : St cx F m H s.heap) : St cx F m H (s.heap.push o) :=
  t.step (s := s) (s' := { s with heap := s.heap.push o }) (.grow (tk := s.toks) push_keeps fun _ _ _ e => e) (t.heap.grow push_keeps)

theorem sfrom_ok {value slice : Expr} {v i : Value} {p q : PV} (hs : ∀ o i, subscripted slice false o i = operate [i, o] (getItem o i)) (rv : Rep cx s.heap v p) (ri : Rep cx s.heap i q) (t : St cx F m H s.heap) (h : FromW Q H p q) :
    Ev (Rep cx) cx F (subscriptTail value slice v (.ref s.heap.objs.size)) m H { s with heap := s.heap.push (slObj i .none .none) } Q X := by
  have hL : LIM = 1048576 := rfl
  have hL' := LIM_le
  have so : ∀ b o, s.heap.get? b = some o → Solid o → (s.heap.push (slObj i .none .none)).get? b = some o := fun b o e _ => push_keeps b o e
  have t' := t.push (o := slObj i .none .none)
  have hsl := Heap.IsSliceOf.new s.heap i .none .none
  replace rv := rv.mono so
  cases h with
  | tup h =>
    rename_i xs k
    obtain ⟨a, items, n, rfl, g, l, r⟩ := rv.tupI
    obtain ⟨u, rfl⟩ := ri.intI
    have hk := arr_len r
    refine tail_at (T := "tuple") ⟨_, g, rfl⟩ slot_tuple_getitem.lookup (getItem_tup_cut g hsl (.int _ _) .none (adj_from _ _) (Nat.le_refl _) (by first | lia | omega) (fun h1 h2 => ?_) ?_) (hs _ _)
    · refine .toks s.toks (.tup (xs := _) g l r) t' ?_
      rw [← hk, h1] at h; exact h
    · refine new_tup (tk := s.toks) (c := 0) t' push_keeps (Heap.get?_push_size _ rfl) ?_ ?_ h
      · rw [List.take_of_length_le (by simp), ← hk]; exact r.drop _
      · simp; first | lia | omega
  | str hz h =>
    rename_i x k
    obtain ⟨u, rfl⟩ := rv.strI
    obtain ⟨u, rfl⟩ := ri.intI
    refine tail_at (T := "str") (typeIs_str _ _ _) PySem.F.slot_str_getitem.lookup (wpAny_getItem_str_slice (l := some (k, u)) (u := none) (st := none) ⟨_, Heap.get?_push_size _ rfl, rfl, rfl⟩ rfl
      (post_val_or_str ⟨Nat.le_trans (Txt.slice_le x _ _) (by first | lia | omega), fun t'' k' => ?_⟩)) (hs _ _)
    show OkG _ _ _ _ _ _ _ (Value.str (Txt.slice x (some k) none) t'') _
    rw [str_from]; exact .toks _ (.str _ _) t' h
  | list ha h =>
      obtain rfl := Rep.objI rv
      obtain ⟨u, rfl⟩ := ri.intI
      obtain ⟨items, n, g, r, l⟩ := t'.list (s := { s with heap := _ }) ha
      have hk := arr_len r
      refine tail_at (T := "list") ⟨_, g, rfl⟩ slot_list_getitem.lookup (wpAny_getItem_list_slice (isList_of g) hsl (.int _ _) .none .none (by simp) ?_ (by first | lia | omega)) (hs _ _)
      refine new_list (tk := s.toks) (c := 0) t' push_keeps (get_size_none _) (Heap.get?_push_size _ rfl) ?_ ?_ h
      · rw [pick_from', hk]; exact r.drop _
      · simp; first | lia | omega

theorem rev_ok {value slice : Expr} {v : Value} {u : Tok} {p : PV} (hs : ∀ o i, subscripted slice false o i = operate [o, i] (getItem o i)) (rv : Rep cx s.heap v p) (t : St cx F m H s.heap) (h : RevW Q H p) :
    Ev (Rep cx) cx F (subscriptTail value slice v (.ref s.heap.objs.size)) m H { s with heap := s.heap.push (slObj .none .none (.int (-1) u)) } Q X := by
  have hL : LIM = 1048576 := rfl
  have hL' := LIM_le
  have t' := t.push (o := slObj .none .none (.int (-1) u))
  cases h with
  | list ha h =>
    obtain rfl := Rep.objI rv
    obtain ⟨items, n, g, r, l⟩ := t'.list (s := { s with heap := _ }) ha
    have hk := arr_len r
    refine tail_at (T := "list") ⟨_, g, rfl⟩ slot_list_getitem.lookup (wpAny_getItem_list_slice (isList_of g) (Heap.IsSliceOf.new s.heap .none .none (.int (-1) u)) .none .none (.int _ _) (by simp) ?_ (by first | lia | omega)) (hs _ _)
    refine new_list (tk := s.toks) (c := 0) t' push_keeps (get_size_none _) (Heap.get?_push_size _ rfl) ?_ ?_ h
    · rw [pick_rev]; exact r.reverse
    · simpa using l
theorem sto_ok {value slice : Expr} {v i : Value} {p q : PV} (hs : ∀ o i, subscripted slice false o i = operate [i, o] (getItem o i)) (rv : Rep cx s.heap v p) (ri : Rep cx s.heap i q) (t : St cx F m H s.heap) (h : ToW Q H p q) :
    Ev (Rep cx) cx F (subscriptTail value slice v (.ref s.heap.objs.size)) m H { s with heap := s.heap.push (slObj .none i .none) } Q X := by
  have hL : LIM = 1048576 := rfl
  have hL' := LIM_le
  have so : ∀ b o, s.heap.get? b = some o → Solid o → (s.heap.push (slObj .none i .none)).get? b = some o := fun b o e _ => push_keeps b o e
  have t' := t.push (o := slObj .none i .none)
  have hsl := Heap.IsSliceOf.new s.heap .none i .none
  replace rv := rv.mono so
  cases h with
  | tup h =>
    rename_i xs k
    obtain ⟨a, items, n, rfl, g, l, r⟩ := rv.tupI
    obtain ⟨u, rfl⟩ := ri.intI
    have hk := arr_len r
    have hc := cutAt_le items.size k
    refine tail_at (T := "tuple") ⟨_, g, rfl⟩ slot_tuple_getitem.lookup (getItem_tup_cut g hsl .none (.int _ _) (adj_to _ _) hc (by first | lia | omega) (fun h1 h2 => ?_) ?_) (hs _ _)
    · refine .toks s.toks (.tup (xs := _) g l r) t' ?_
      rw [List.take_of_length_le (by rw [← hk]; first | lia | omega)] at h; exact h
    · refine new_tup (tk := s.toks) (c := 0) t' push_keeps (Heap.get?_push_size _ rfl) ?_ ?_ h
      · rw [List.drop_zero, Nat.sub_zero, hk]; exact r.take _
      · simp; first | lia | omega
  | str hz h =>
    rename_i x k
    obtain ⟨u, rfl⟩ := rv.strI
    obtain ⟨u, rfl⟩ := ri.intI
    refine tail_at (T := "str") (typeIs_str _ _ _) PySem.F.slot_str_getitem.lookup (wpAny_getItem_str_slice (l := none) (u := some (k, u)) (st := none) ⟨_, Heap.get?_push_size _ rfl, rfl, rfl⟩ rfl
      (post_val_or_str ⟨Nat.le_trans (Txt.slice_le x _ _) (by first | lia | omega), fun t'' k' => ?_⟩)) (hs _ _)
    show OkG _ _ _ _ _ _ _ (Value.str (Txt.slice x none (some k)) t'') _
    rw [str_to]; exact .toks _ (.str _ _) t' h
  | fls h =>
    obtain ⟨a, items, rfl, g, ii, l⟩ := rv.flsI
    obtain ⟨u, rfl⟩ := ri.intI
    have hk := ints_len ii
    rw [Array.length_toList] at hk
    have g' := isList_up g t'.base
    refine tail_at (T := "list") g'.typeIs slot_list_getitem.lookup (wpAny_getItem_list_slice g' hsl .none (.int _ _) .none (by simp) ?_ (by first | lia | omega)) (hs _ _)
    refine new_list (tk := s.toks) (c := 0) t' push_keeps (get_size_none _) (Heap.get?_push_size _ rfl) ?_ ?_ h
    · rw [pick_to', hk]; exact repl_ints (ii.take _)
    · simp; first | lia | omega
  | list ha h =>
      obtain rfl := Rep.objI rv
      obtain ⟨u, rfl⟩ := ri.intI
      obtain ⟨items, n, g, r, l⟩ := t'.list (s := { s with heap := _ }) ha
      have hk := arr_len r
      refine tail_at (T := "list") ⟨_, g, rfl⟩ slot_list_getitem.lookup (wpAny_getItem_list_slice (isList_of g) hsl .none (.int _ _) .none (by simp) ?_ (by first | lia | omega)) (hs _ _)
      refine new_list (tk := s.toks) (c := 0) t' push_keeps (get_size_none _) (Heap.get?_push_size _ rfl) ?_ ?_ h
      · rw [pick_to', hk]; exact r.take _
      · simp; first | lia | omega
end
end Mine
end
section
open PySem PySem.Calls PyProof.Rows
namespace Mine
set_option autoImplicit false

noncomputable def Blt.val : Blt → Value
  | .len => .builtin "len" | .list => .type "list" | .tuple => .type "tuple" | .range => .type "range" | .max => .builtin "max" | .min => .builtin "min" | .int => .type "int" | .str => .type "str"
  | .all => .builtin "all" | .any => .builtin "any" | .abs => .builtin "abs"

section
variable {cx : Cx} {F : Fm} {m : Loc} {H : AHeap} {s : Shared} {Q : Post} {X : XPost}

theorem list_ok {a : Addr} {T : String} {o : Obj} {items : Array Value} {n : Nat} {xs : List PV} (hT : T = "list" ∨ T = "tuple") (g : s.heap.get? a = some o) (hc : o.cls = .type T) (hd : o.data = .seq items n) (r : RepL cx s.heap items.toList xs) (l : xs.length ≤ LIM)
    (t : St cx F m H s.heap) (h : alloc (.list xs) Q H) : Ev (Rep cx) cx F (call (.type "list") [.ref a]) m H s Q X := by
  have hk := arr_len r
  have hL' := LIM_le
  exact call_list_seq a hT g hc hd (fun h' c' gr e => new_list (tk := s.toks) t gr (get_size_none _) e r l h) (by first | lia | omega)

theorem strs_of_keys {h : Heap} : ∀ {vs : List (Str × Value)} {ps : List (Str × PV)} {zs : List Value}, RepK cx h vs ps → zs.length = vs.length →
    (∀ (j : Nat) v, zs[j]? = some v → ∃ k x, vs[j]? = some (k, x) ∧ cx.sk.is k v = true) → RepL cx h zs (ps.map fun x => .str x.1)
  | _, _, [], .nil, _, _ => .nil
  | _, _, [], .cons _ _, e, _ => by simp at e
  | _, _, z :: zs, .nil, e, _ => by simp at e
  | _, _, z :: zs, .cons a r, e, f => by
    refine .cons ?_ (strs_of_keys r (by simpa using e) fun j v q => by simpa using f (j + 1) v (by simpa using q))
    obtain ⟨k, x, h1, h2⟩ := f 0 z rfl
    simp at h1
    obtain ⟨rfl, rfl⟩ := h1
    obtain ⟨t, rfl⟩ := Value.isStrOf_shape h2
    exact .str _ _

theorem ints_rep {h : Heap} : ∀ {vs : List Value} {ns : List Int}, RepL cx h vs (ns.map .int) → IntsAre vs ns
  | _, [], r => by cases r; exact .nil
  | _, b :: bs, r => by
    cases r with
    | cons a r => obtain ⟨t, rfl⟩ := a.intI; exact .cons _ _ (ints_rep r)
theorem bools_are {h : Heap} : ∀ {vs : List Value} {bs : List Bool}, RepL cx h vs (bs.map .bool) → vs = bs.map .bool
  | _, [], r => by cases r; rfl
  | _, b :: bs, r => by
    cases r with
    | cons a r => rw [a.boolI, bools_are r]; rfl
theorem bltW_to {b : Blt} {ps : List PV} (h : bltW b ps Q H) : BltW Q H b ps := h.to fun u e k => by
  unfold bltF at e
  split at e
  · unfold blt1 at e
    split at e
    · split at e <;> cases e
      · exact .lenT _ k
      · exact .tupT _ k
    · split at e <;> cases e
      exact .lenF _ k
    · split at e <;> cases e
      exact .intB _ k
    · cases e
  · unfold blt2 at e
    split at e
    · split at e
      · split at e <;> cases e
        · exact .max _ _ k
        · exact .min _ _ k
      · cases e
    · cases e
  · cases e
theorem blt_ok {b : Blt} {vs : List Value} {ps : List PV} (hh : F.A.handled = none) (r : RepL cx s.heap vs ps) (t : St cx F m H s.heap) (h : bltW b ps Q H) : Ev (Rep cx) cx F (call b.val vs []) m H s Q X := by
  have hL : LIM = 1048576 := rfl
  have hL' := LIM_le
  replace h := bltW_to h
  cases h with
  | lenT xs h =>
    obtain ⟨_, rfl, rv⟩ := r.one
    obtain ⟨a, items, n, rfl, g, l, r⟩ := rv.tupI
    have hk := arr_len r
    refine P.len_tuple g (by first | lia | omega) (.toks _ ?_ t h)
    rw [hk]; exact .int _ _
  | lenS x l h =>
    obtain ⟨_, rfl, rv⟩ := r.one
    obtain ⟨u, rfl⟩ := rv.strI
    exact PyProof.Rows.len_str (by first | lia | omega) (.toks _ (.int _ _) t h)
  | lenF xs h =>
    obtain ⟨_, rfl, rv⟩ := r.one
    obtain ⟨a, items, rfl, g, ii, l⟩ := rv.flsI
    have hk := ints_len ii
    rw [Array.length_toList] at hk
    refine call_len_list (isList_up g t.base) (by first | lia | omega) (.toks _ ?_ t h)
    rw [hk]; exact .int _ _
  | lenL a xs ha h =>
    obtain ⟨_, rfl, rv⟩ := r.one
    obtain rfl := Rep.objI rv
    obtain ⟨items, n, g, r, l⟩ := t.list ha
    have hk := arr_len r
    refine call_len_list (isList_of g) (by first | lia | omega) (.toks _ ?_ t h)
    rw [hk]; exact .int _ _
  | lenD a kvs ha h =>
    obtain ⟨_, rfl, rv⟩ := r.one
    obtain rfl := Rep.objI rv
    obtain ⟨vs, d, r, l, hn⟩ := t.dict ha
    have hk := r.length
    refine call_len_dict hn d (by first | lia | omega) (.toks _ ?_ t h)
    rw [hk]; exact .int _ _
  | listT xs h =>
    obtain ⟨_, rfl, rv⟩ := r.one
    obtain ⟨a, items, n, rfl, g, l, r⟩ := rv.tupI
    exact list_ok (.inr rfl) g rfl rfl r l t h
  | listL a xs ha h =>
    obtain ⟨_, rfl, rv⟩ := r.one
    obtain rfl := Rep.objI rv
    obtain ⟨items, n, g, r, l⟩ := t.list ha
    exact list_ok (.inl rfl) g rfl rfl r l t h
  | listD a kvs ha h =>
    obtain ⟨_, rfl, rv⟩ := r.one
    obtain rfl := Rep.objI rv
    obtain ⟨vs, d, r, l, hn⟩ := t.dict ha
    obtain ⟨ep, d'⟩ := d.dictAt
    have hk := r.length
    refine PySem.W.kdl_call (PySem.W.kdl_dict (knd := cx.sk) hn) hh d' (by first | lia | omega) fun h' tk acc c gr e it => ?_
    refine new_list t gr (get_size_none _) e (strs_of_keys r ?_ fun j v q => ?_) (by simpa using l) h
    · rw [Array.length_toList]; exact it.1
    · exact it.2 j v (by rw [← Array.getElem?_toList]; exact q)
  | tupT xs h =>
    obtain ⟨_, rfl, rv⟩ := r.one
    obtain ⟨a, items, n, rfl, g, l, r⟩ := rv.tupI
    exact call_tuple_same (isTuple_of g) (.toks s.toks (.tup g l r) t h)
  | tupL a xs ha h =>
    obtain ⟨_, rfl, rv⟩ := r.one
    obtain rfl := Rep.objI rv
    obtain ⟨items, n, g, r, l⟩ := t.list ha
    have hk := arr_len r
    refine call_tuple_list (isList_of g) (fun h' gr => ?_) (by first | lia | omega)
    exact new_tup (tk := s.toks) (c := 0) t (fun b o e => push_keeps b o (gr b o e)) (Heap.get?_push_size _ rfl) r l h
  | range n k h =>
    obtain ⟨_, rfl, rv⟩ := r.one
    obtain ⟨u, rfl⟩ := rv.intI
    exact call_range_1 (.grow push_keeps (.rng (Heap.get?_push_size _ rfl) k) t h)
  | max a b h =>
    obtain ⟨_, _, rfl, ra, rb⟩ := r.two
    obtain ⟨u, rfl⟩ := ra.intI
    obtain ⟨v, rfl⟩ := rb.intI
    refine max_two_ints hh fun h' tk g => ?_
    refine .grow g ?_ t h
    split <;> exact .int _ _
  | min a b h =>
    obtain ⟨_, _, rfl, ra, rb⟩ := r.two
    obtain ⟨u, rfl⟩ := ra.intI
    obtain ⟨v, rfl⟩ := rb.intI
    refine min_two_ints hh fun h' tk g => ?_
    refine .grow g ?_ t h
    split <;> exact .int _ _
  | intB b h =>
    obtain ⟨_, rfl, rv⟩ := r.one
    obtain rfl := Rep.boolI rv
    exact call_int_bool (.toks _ (.int _ _) t h)
  | strI i k h =>
    obtain ⟨_, rfl, rv⟩ := r.one
    obtain ⟨u, rfl⟩ := rv.intI
    refine P.str_of_int ?_ (.toks _ (.str _ _) t h)
    by_cases z : i.natAbs = 0
    · rw [z]; decide
    · exact Nat.lt_of_lt_of_le ((Nat.log2_lt z).mpr (Nat.lt_of_lt_of_le k (by decide : (10 : Nat) ^ 18 ≤ 2 ^ 60))) (by decide)
  | maxL a ns ha k h =>
    obtain ⟨_, rfl, rv⟩ := r.one
    obtain rfl := Rep.objI rv
    obtain ⟨items, n, g, r, l⟩ := t.list ha
    have hi := ints_rep r
    obtain ⟨xs, e⟩ := hi.allInts.items
    have hns : ns = xs.toList.map (·.1) := by rw [← hi.numsOf, ← nums_intItems, ← e]
    have hsz : 0 < xs.size := by rw [hns, List.length_map, Array.length_toList] at k; exact k
    have hl : s.heap.IsList a (intItems xs) := by rw [← e]; exact isList_of g
    refine max_intList hh hl hsz fun v h' tk hv hk => ?_
    obtain ⟨u, rfl⟩ := intItems_at hv
    obtain ⟨h1, h2⟩ := argBest_gt (numAt xs) (xs.size - 1)
    refine .grow hk (.int _ _) t (h _ ?_ fun a ha => ?_)
    · rw [hns, numAt_eq]; exact getD_mem (by rw [List.length_map, Array.length_toList]; (first | lia | omega))
    · rw [hns] at ha
      obtain ⟨j, hj, rfl⟩ := mem_getD ha
      rw [List.length_map, Array.length_toList] at hj
      rw [← numAt_eq]; exact h2 j (by first | lia | omega)
  | allL a bs ha h =>
    obtain ⟨_, rfl, rv⟩ := r.one
    obtain rfl := Rep.objI rv
    obtain ⟨items, n, g, r, l⟩ := t.list ha
    have hlt : a < s.heap.objs.size := Heap.lt_size g
    have hl := isList_of g
    have hb := bools_are r
    refine call_all_walk (wpAny_pyIter_list hl ?_)
    refine ⟨s.heap.objs.size, [s.heap.objs.size, a], [s.heap.objs.size], items.size, _, _, fun i => (bs[i]?).getD true, rfl, Walks.list (A := F.A.in1) hh _ a (Nat.ne_of_lt hlt) items,
      ⟨⟨_, Heap.get?_push_size _ rfl, rfl, rfl⟩, hl.push _⟩, fun i v s' Q' E' hP hQ => ?_, fun h' tk hk => ?_⟩
    · have hv : items.toList[i]? = some v := by simpa using hP
      replace hQ : Q' ((bs[i]?).getD true) s' := hQ
      rw [hb, List.getElem?_map] at hv
      cases hi : bs[i]? with
      | none => rw [hi] at hv; cases hv
      | some b =>
        rw [hi] at hv hQ
        cases hv
        exact wpAny_truthy_bool hQ
    · have e : ((List.range items.size).all fun i => (bs[i]?).getD true) = bs.all id := by
        have : items.size = bs.length := by rw [← Array.length_toList, hb, List.length_map]
        rw [this]; exact LSm.range_all bs
      rw [e]
      exact .grow (LSm.kept_iter hk) (.bool _) t h
end
end Mine
end
section
open PySem PySem.Calls PyProof.Rows
namespace Mine
set_option autoImplicit false

noncomputable def ICls.T : ICls → Option String
  | .str => some "str" | .list => some "list" | .tuple => some "tuple" | .bool => some "bool" | .int => some "int" | _ => none

section
variable {cx : Cx} {F : Fm} {m : Loc} {H : AHeap} {s : Shared} {K : Bool → Prop} {X : XPost}
theorem inEmpty (h : Heap) : PySem.W.Frag.In [] h := fun _ _ e => nomatch e

theorem isiW_to {c : ICls} {p : PV} (h : isiW c p K H) : IsiW K H c p := h.to fun b e k => by
  unfold isiF at e
  split at e
  · split at e
    · cases e; exact .val (by assumption) (by assumption) k
    · cases e
  · cases e
theorem isi_val {c : ICls} {T : String} {v : Value} {p : PV} {n : Nat} {Q : Post} (hT : c.T = some T) (rv : Rep cx s.heap v p) (t : St cx F m H s.heap) (e : tagOf p = some n) (h : Q (.bool (c.hits n)) H) :
    Ev (Rep cx) cx F (call (.builtin "isinstance") [v, .type T]) m H s Q X := by
  cases rv <;> cases e
  · exact PySem.W.kia_one PySem.W.kitx_none (inEmpty _) trivial (by cases c <;> cases hT <;> decide +kernel) (by cases c <;> cases hT <;> simp) fun tk => .toks tk (.bool _) t h
  · exact PySem.W.kia_one PySem.W.kitx_bool (inEmpty _) trivial (by cases c <;> cases hT <;> decide +kernel) (by cases c <;> cases hT <;> simp) fun tk => .toks tk (.bool _) t h
  · exact PySem.W.kia_one PySem.W.kitx_int (inEmpty _) trivial (by cases c <;> cases hT <;> decide +kernel) (by cases c <;> cases hT <;> simp) fun tk => .toks tk (.bool _) t h
  · exact PySem.W.kia_one PySem.W.kitx_str (inEmpty _) trivial (by cases c <;> cases hT <;> decide +kernel) (by cases c <;> cases hT <;> simp) fun tk => .toks tk (.bool _) t h
  · exact PySem.W.kia_one PySem.W.kitx_tuple (inEmpty _) ⟨_, by assumption, rfl⟩ (by cases c <;> cases hT <;> decide +kernel) (by cases c <;> cases hT <;> simp) fun tk => .toks tk (.bool _) t h
theorem isi_list {c : ICls} {T : String} {a : Addr} {xs : List PV} {Q : Post} (hT : c.T = some T) (t : St cx F m H s.heap) (ha : H a = some (.list xs)) (h : Q (.bool (c.hits 5)) H) :
    Ev (Rep cx) cx F (call (.builtin "isinstance") [.ref a, .type T]) m H s Q X := by
  obtain ⟨items, n, g, r, l⟩ := t.list ha
  cases c <;> cases hT <;> exact PySem.W.kia_one PySem.W.kitx_list (inEmpty _) ⟨_, g, rfl⟩ (by decide +kernel) (by simp) fun tk => .toks tk (.bool _) t h
end
end Mine
end
section
open PySem PySem.Calls PyProof.Rows
namespace Mine
set_option autoImplicit false
open SeqAt (EqAt RcAt RcNeAt)

noncomputable def Meth.id : Meth → String
  | .append => "list.append" | .pop => "list.pop" | .dpop => "dict.pop" | .insert => "list.insert" | .count => "list.count" | .join => "str.join"
noncomputable def Meth.ty : Meth → String
  | .append => "list" | .pop => "list" | .dpop => "dict" | .insert => "list" | .count => "list" | .join => "str"

section
variable {cx : Cx} {F : Fm} {m : Loc} {H : AHeap} {s : Shared} {Q : Post} {X : XPost}

theorem lst_update {h : Heap} {l : Addr} {items : Array Value} {n : Nat} (x : h.get? l = some (lstObj items n)) (f : Array Value → Array Value) :
    ∃ n', (h.update l (Obj.mapSeq f)).get? l = some (lstObj (f items) n') := ⟨_, Heap.get?_update_self _ x rfl⟩
theorem upd_keeps {h : Heap} {l : Addr} {f : Obj → Obj} : ∀ b o, b ≠ l → h.get? b = some o → (h.update l f).get? b = some o := fun _ _ n e => (Heap.get?_update_other h f (Ne.symm n)).trans e

/-- a list's row put anew -/
theorem put_list {α β : Type} {R : Heap → α → β → Prop} {Q : β → AHeap → Prop} {l : Addr} {items : Array Value} {n : Nat} {xs ys : List PV} {f : Array Value → Array Value} {v : α} {p : β} {tk : Nat} (t : St cx F m H s.heap) (ha : H l = some (.list xs)) (g : s.heap.get? l = some (lstObj items n))
    (r : RepL cx s.heap (f items).toList ys) (ly : ys.length ≤ LIM) (rv : ∀ h', (∀ b o, s.heap.get? b = some o → Solid o → h'.get? b = some o) → R h' v p) (q : Q p (upd H l (.list ys))) :
    OkG R cx F m H s Q v { s with heap := s.heap.update l (Obj.mapSeq f), toks := tk } := by
  have so : ∀ b o, s.heap.get? b = some o → Solid o → (s.heap.update l (Obj.mapSeq f)).get? b = some o := fun b o e so => upd_keeps b o (by
    rintro rfl; rw [g] at e; cases e
    rcases so with ⟨i, n, q⟩ | ⟨n, t, u, v, q⟩ | ⟨⟨C, q⟩, _⟩ <;> simp [lstObj, tupObj, rngObj] at q) e
  obtain ⟨n', g'⟩ := lst_update g f
  have ro : RepO cx (s.heap.update l (Obj.mapSeq f)) l (.list ys) := ⟨f items, n', g', r.mono so, ly⟩
  exact .put ha upd_keeps (rv _ so) ro t q

theorem bools_rep {h : Heap} : ∀ {vs : List Value} {bs : List Bool}, RepL cx h vs (bs.map .bool) → vs = bs.map .bool
  | _, [], r => by cases r; rfl
  | _, b :: bs, r => by
    cases r with
    | cons a r => rw [a.boolI, bools_rep r]; rfl
theorem strs_rep {h : Heap} : ∀ {vs : List Value} {ss : List Str}, RepL cx h vs (ss.map .str) → StrsAre vs ss
  | _, [], r => by cases r; exact .nil
  | _, b :: bs, r => by
    cases r with
    | cons a r => obtain ⟨t, rfl⟩ := a.strI; exact .cons _ _ (strs_rep r)


theorem meth_ok {k : Meth} {v : Value} {p : PV} {vs : List Value} {ps : List PV} (rv : Rep cx s.heap v p) (r : RepL cx s.heap vs ps) (t : St cx F m H s.heap) (h : methW k p ps Q H) : Ev (Rep cx) cx F (call (.builtin k.id) (v :: vs) []) m H s Q X := by
  have hL : LIM = 1048576 := rfl
  have hL' := LIM_le
  cases h with
  | append a xs x ha hlt h =>
    obtain ⟨_, rfl, rx⟩ := r.one
    (first | (obtain ⟨_, rfl⟩ := Rep.intI rv) | (obtain ⟨_, rfl⟩ := Rep.strI rv) | (obtain rfl := Rep.objI rv) | (obtain rfl := Rep.boolI rv) | (obtain rfl := Rep.noneI rv))
    obtain ⟨items, n, g, r, l⟩ := t.list ha
    have hk := arr_len r
    refine call_meets PySem.F.slot_list_append ⟨_, g, rfl⟩ PySem.F.entry_list_append (PySem.F.args_list_append_2 _ _) (list_append _ items n _ (by first | lia | omega)) ⟨g, ?_⟩
    exact put_list (R := Rep cx) (f := fun xs => xs.push _) t ha g (by simpa using r.append (.cons rx .nil)) (by simp; first | lia | omega) (fun _ _ => .none) (mutate_use h)
  | join sep a ss ha h0 hs h =>
    obtain ⟨_, rfl, rx⟩ := r.one
    obtain ⟨u, rfl⟩ := rv.strI
    (first | (obtain ⟨_, rfl⟩ := Rep.intI rx) | (obtain ⟨_, rfl⟩ := Rep.strI rx) | (obtain rfl := Rep.objI rx) | (obtain rfl := Rep.boolI rx) | (obtain rfl := Rep.noneI rx))
    obtain ⟨items, n, g, r, l⟩ := t.list ha
    refine join_list (isList_of g) (strs_rep r) (by rw [h0]; first | lia | omega) fun t' k => ?_
    rw [show Txt.join _ ss = Str.join _ ss from StrLaws.glued_eq_join _ _]
    exact .toks _ (.str _ _) t h
end
end Mine
end
section
open PySem PySem.Calls PyProof.Rows
namespace Mine
set_option autoImplicit false

section
variable {prog : Program} {w : World} {A : Around} {E : Value → Shared → Prop} {s : Shared}
theorem set_lst0 {l : Addr} {items : Array Value} {n : Nat} {k : Int} {t : Tok} {v : Value} {Q : Unit → Shared → Prop} (g : s.heap.get? l = some (lstObj items n))
    (h0 : 0 ≤ k) (hfit : k < 2 ^ 63) (hn : k < items.size) (hQ : Q () { s with heap := s.heap.update l (Obj.mapSeq (·.setIfInBounds k.toNat v)) }) :
    wpAny (model prog w) A (setItem (.ref l) (.int k t) v) Q E s := by
  have hl := isList_of g
  unfold setItem
  try with_reducible refine wpAny_holding ?_
  first | refine wpAny_bind (wpAny_pure ?_) | skip
  refine wpAny_bind (wpAny_sequenceKey hl.typeIs (by decide) ?_)
  refine wpAny_bind (wpAny_callSpecial?_slot (name := Str.ofString "__setitem__") hl.typeIs slot_list_setitem
    (wpAny_call_entry slot_list_setitem hl.typeIs entry_list_setitem ?_ (args_list_setitem _ _ _)))
  show wpAny _ _ (Builtin.List.listSubscript? (.int k t) >>= _) _ _ s
  refine wpAny_bind (wpAny_listSubscript_int (fitsIndex_of h0 hfit) ?_)
  clear hfit
  obtain ⟨j, rfl⟩ := Int.eq_ofNat_of_zero_le h0
  have hn : j < items.size := by first | lia | omega
  show wpAny _ _ ((seqItemAt l j >>= fun r => pure (r.map (j, ·))) >>= _) _ _ s
  refine wpAny_bind (wpAny_bind (wpAny_seqItemAt g rfl (wpAny_pure ?_)))
  rw [show items[j]? = some items[j] from Array.getElem?_eq_getElem hn]
  show wpAny _ _ (setSeqItemAt l j v >>= _) _ _ s
  refine wpAny_bind (wpAny_setSeqItemAt g rfl ?_)
  first
    | exact wpAny_bind (wpAny_pure (wpAny_pure ⟨.none, rfl, wpAny_pure hQ⟩))
    | exact wpAny_pure ⟨.none, rfl, wpAny_pure hQ⟩
end

section
variable {cx : Cx} {F : Fm} {m : Loc} {H : AHeap} {s : Shared} {Q : Post} {X : XPost}

theorem RepK.any {h : Heap} {k : Str} : ∀ {vs : List (Str × Value)} {ps : List (Str × PV)}, RepK cx h vs ps → vs.any (fun kv => decide (kv.1 = k)) = ps.any (fun kv => decide (kv.1 = k))
  | _, _, .nil => rfl
  | _, _, .cons _ r => by simp only [List.any_cons]; rw [RepK.any r]
theorem RepK.map {h : Heap} {k : Str} {v : Value} {p : PV} (r : Rep cx h v p) : ∀ {vs : List (Str × Value)} {ps : List (Str × PV)}, RepK cx h vs ps →
    RepK cx h (vs.map fun kv => if kv.1 = k then (kv.1, v) else kv) (ps.map fun kv => if kv.1 = k then (kv.1, p) else kv)
  | _, _, .nil => .nil
  | _, _, .cons (k := k') a rs => by
    simp only [List.map_cons]
    by_cases q : k' = k
    · simp only [q, if_true]; exact .cons r (RepK.map r rs)
    · simp only [q, if_false]; exact .cons a (RepK.map r rs)
theorem RepK.snoc {h : Heap} {k : Str} {v : Value} {p : PV} (r : Rep cx h v p) : ∀ {vs : List (Str × Value)} {ps : List (Str × PV)}, RepK cx h vs ps → RepK cx h (vs ++ [(k, v)]) (ps ++ [(k, p)])
  | _, _, .nil => .cons r .nil
  | _, _, .cons a rs => .cons a (RepK.snoc r rs)
theorem RepK.dset {h : Heap} {k : Str} {v : Value} {p : PV} {vs : List (Str × Value)} {ps : List (Str × PV)} (rs : RepK cx h vs ps) (r : Rep cx h v p) : RepK cx h (stored vs k v) (dset ps k p) := by
  unfold stored Mine.dset
  rw [RepK.any rs]
  split
  · exact RepK.map r rs
  · exact RepK.snoc r rs
theorem dset_length_le {α : Type} (kvs : List (Str × α)) (k : Str) (v : α) : (dset kvs k v).length ≤ kvs.length + 1 := by
  unfold dset; split <;> simp

theorem SameBut.keeps {h h' : Heap} {a : Addr} (x : Heap.SameBut a h h') : ∀ b o, b ≠ a → h.get? b = some o → h'.get? b = some o := fun b o n e => by
  have := x.2 b n
  rw [this]; exact e

theorem store_ok {v i x : Value} {p q y : PV} {K : AHeap → Prop} (rv : Rep cx s.heap v p) (ri : Rep cx s.heap i q) (rx : Rep cx s.heap x y) (t : St cx F m H s.heap) (h : StoreW K H p q y) :
    Ev (fun _ (_ : Unit) (_ : Unit) => True) cx F (setItem v i x) m H s (fun _ H => K H) X := by
  have hL : LIM = 1048576 := rfl
  have hL' := LIM_le
  cases h with
  | list ha h0 h1 h =>
    rename_i a xs k
    obtain rfl := Rep.objI rv
    obtain ⟨u, rfl⟩ := ri.intI
    obtain ⟨items, n, g, r, l⟩ := t.list ha
    have hk := arr_len r
    refine set_lst0 g h0 (by first | lia | omega) (by first | lia | omega) ?_
    exact put_list (p := ()) (tk := s.toks) (f := (·.setIfInBounds k.toNat x)) t ha g (by simpa using r.set k.toNat rx) (by simp; first | lia | omega) (fun _ _ => trivial) (mutate_use h)
  | dict ha h1 h =>
    rename_i a kvs k
    obtain rfl := Rep.objI rv
    obtain ⟨u, rfl⟩ := ri.strI
    obtain ⟨vs, d, r, l, hn⟩ := t.dict ha
    have hk := r.length
    refine wpAny_setItem_pairs (knd := cx.sk) (k := k) (by simp [Cx.sk, PySem.strKind, Value.isStrOf]) d (fun h' d' sb => ?_) (by first | lia | omega)
    have hs := SameBut.keeps sb
    have so : ∀ b o, s.heap.get? b = some o → Solid o → h'.get? b = some o := fun b o e so => hs b o (by
      rintro rfl
      obtain ⟨ob, e', n, _⟩ := (t.heap _ _ ha).get; rw [e] at e'; cases e'; exact n so) e
    have ro : RepO cx h' a (.dict (dset kvs k y)) := ⟨_, d', (r.dset rx).mono so, Nat.le_trans (dset_length_le ..) (by first | lia | omega), hn⟩
    exact .put (b := ()) ha hs trivial ro t (mutate_use h)
  | tape ha h0 h =>
    rename_i a n0 j
    obtain rfl := Rep.objI rv
    obtain ⟨u, rfl⟩ := ri.intI
    obtain ⟨u', rfl⟩ := rx.intI
    obtain ⟨tt, n, g⟩ := t.heap _ _ ha
    obtain ⟨j, rfl⟩ := Int.eq_ofNat_of_zero_le h0
    refine set_lst0 g (by first | lia | omega) (by first | lia | omega) (by simp) ?_
    obtain ⟨n', g'⟩ := lst_update g (·.setIfInBounds 0 (.int j u'))
    have ro : RepO cx (s.heap.update a (Obj.mapSeq (·.setIfInBounds 0 (.int j u')))) a (.tape j) := ⟨u', n', by simpa using g'⟩
    exact .put (b := ()) (tk := s.toks) ha upd_keeps trivial ro t (mutate_use h)
end
end Mine
end
section
open PySem PySem.Calls PyProof.Rows
namespace Mine
set_option autoImplicit false

/-! static facts -/
abbrev Kd := Str → Option NameKind
noncomputable def onms : List (Str × Nat) := [("StackError", 0), ("Empty", 1), ("WrongKind", 2), ("NoBlock", 3), ("Apart", 4)]
noncomputable def onm (x : Str) : Option Nat := onms.lookup x
noncomputable def relab (kd : Kd) (sc : Scope) : Kd := fun x => (sc.names.map fun (n, k) => if (k == .free && kd n == some .cell) then (n, .cell) else (n, k)).lookup x
noncomputable def isVar (kd : Kd) (x : Str) : Bool := kd x == some .local || kd x == some .cell || kd x == some .free
noncomputable def isGlob (kd : Kd) (x : Str) : Bool := kd x == some .globalImplicit && !(x == ("__debug__" : Str))
noncomputable def visC (kd' : Kd) (nm : List Str) (vis : Nat → Bool) (x : Nat) : Nat → Bool := fun i => i == x || (vis i && (kd' (slot nm i) == some .cell || kd' (slot nm i) == some .free))
noncomputable def scOk (kd kd' : Kd) (sc : Scope) (x : Str) : Bool := decide (sc.kind = .function) && !sc.isGenerator && !sc.isCoroutine && sc.names.all (fun p => p.2 != .cell) && sc.names.all (fun p => p.2 != .local || sc.names.lookup p.1 == some .local)
  && sc.names.all (fun p => p.2 != .free || kd p.1 == some .cell || kd p.1 == some .free) && kd' x == some .local && !(x == ("__debug__" : Str))
noncomputable def blbase : AE → Bool
  | .call _ .nil _ _ => false
  | .blt _ .nil _ _ => false
  | .new _ _ _ => false
  | _ => true
noncomputable def iclsOk (kd : Kd) : ICls → Bool
  | .str => isGlob kd "str" | .list => isGlob kd "list" | .tuple => isGlob kd "tuple" | .bool => isGlob kd "bool" | .int => isGlob kd "int"
  | .intstr => isGlob kd "int" && isGlob kd "str" | .value => isGlob kd "ValueError" | .own c x => isGlob kd x && onm x == some c
noncomputable def AEs.len : AEs → Nat
  | .nil => 0
  | .cons _ es => es.len + 1
noncomputable def AEs.lits : AEs → Bool
  | .nil => true
  | .cons (.lit _ _ _) es => es.lits
  | .cons _ _ => false
/-! the program's own class: methods, attributes -/
noncomputable def mtab : List (Str × Str) := [("__init__", "Machine.__init__"), ("settle", "Machine.settle"), ("over", "Machine.over"), ("goal_of", "Machine.goal_of"), ("step", "Machine.step")]
noncomputable def isMeth (f : Str) : Bool := mtab.any fun p => p.2 == f
noncomputable def atns : List Str := ["program", "stack", "frames"]
noncomputable def fad (cx : Cx) (mg : Str → Option Value) (f : Str) : Option Value := match mtab.find? fun p => p.2 == f with
  | some p => cx.mN p.1
  | none => mg f
section
variable (fl : List Str) (nm : List Str)
mutual
noncomputable def okE (q : Bool) (vis : Nat → Bool) (kd : Kd) : AE → Bool
  | .lit _ _ _ => true
  | .var i _ => vis i && isVar kd (slot nm i) && !(slot nm i == ("__debug__" : Str)) && !(slot nm i == ("__classdict__" : Str))
  | .glob x _ => isGlob kd x
  | .bin l _ r _ => okE q vis kd l && okE q vis kd r
  | .neg e _ => okE q vis kd e
  | .not e _ => okE q vis kd e
  | .bop _ es _ => okEs q vis kd es
  | .cmp l _ r _ => okE q vis kd l && okE q vis kd r
  | .sub e i _ => okE q vis kd e && okE q vis kd i
  | .sfrom e i _ _ => okE q vis kd e && okE q vis kd i
  | .sto e i _ _ => okE q vis kd e && okE q vis kd i
  | .srev e _ _ _ _ => okE q vis kd e
  | .tup es _ _ => okEs q vis kd es && decide (es.len ≤ 100)
  | .list es _ => okEs q vis kd es && decide (es.len ≤ 100)
  | .tape _ _ => true
  | .dict ks vs _ => vs.lits && decide (ks.length = vs.len) && decide (vs.len ≤ 15)
  | .call f es _ _ => q && isGlob kd f && fl.contains f && okEs q vis kd es && !isMeth f
  | .blt b es _ _ => q && isGlob kd b.name && okEs q vis kd es
  | .isi e c _ _ _ _ _ => isGlob kd "isinstance" && iclsOk kd c && okE q vis kd e
  | .meth o _ es pa p => okE q vis kd o && okEs q vis kd es && (pa.endLine == p.line) && decide (es.len ≤ 3) && blbase o
  | .umeth o c m es pa p => okE q vis kd o && okEs q vis kd es && (pa.endLine == p.line) && decide (es.len ≤ 3) && blbase o && fl.contains c && q && decide (mtab.lookup m = some c)
  | .attr o m _ => okE q vis kd o && blbase o && decide (m ∈ atns)
  | .new es _ _ => q && isGlob kd "Machine" && fl.contains "Machine.__init__" && okEs q vis kd es && decide (0 < es.len)
  | .comp e x _ it cs sc _ => okE q vis kd it && scOk kd (relab kd sc) sc (slot nm x) && okE q (visC (relab kd sc) nm vis x) (relab kd sc) e && okEs q (visC (relab kd sc) nm vis x) (relab kd sc) cs && decide (cs.len ≤ 1) && q
noncomputable def okEs (q : Bool) (vis : Nat → Bool) (kd : Kd) : AEs → Bool
  | .nil => true
  | .cons e es => okE q vis kd e && okEs q vis kd es
end
end

structure Fok (cx : Cx) (n : Nat) (q : Bool) (kd : Kd) (F : Fm) : Prop where
  fr : F.A.frames = some F.fs
  kind : F.env.scope.kind = .function
  kdo : F.env.kindOf = kd
  glob : F.env.globals = cx.ga
  bltn : F.env.builtins = cx.ba
  quiet : q = true → F.A.handled = none
  depth : F.A.depth + 2 * n + 1 ≤ 900
  units : F.A.units + 8 * n + 204 ≤ cLine
  cells : ∀ x, (kd x = some .cell ∨ kd x = some .free) → ∃ c, F.env.cells.lookup x = some c
  apart : ∀ x y c, F.env.cells.lookup x = some c → F.env.cells.lookup y = some c → x = y
  inj : ∀ i j, F.vis i = true → F.vis j = true → slot F.nm i = slot F.nm j → i = j

/-- what a call asks of its frame -/
structure Fcl (n : Nat) (F : Fm) : Prop where
  fr : F.A.frames = some F.fs
  quiet : F.A.handled = none
  depth : F.A.depth + 2 * n ≤ 900
  units : F.A.units + 8 * n + 200 ≤ cLine
structure Cok (cx : Cx) (g : Gl) (fl : List Str) (mg mb : Str → Option Value) (n : Nat) : Prop where
  gns : cx.B.Ns cx.ga mg
  mods : ∃ a o, sysModules < a ∧ cx.B.get? a = some o
  bns : cx.B.Ns cx.ba mb
  consts : ∀ x p, g.G x = some p → ∃ v, mg x = some v ∧ Rep cx cx.B v p
  blts : ∀ b : Blt, mg b.name = none ∧ mb b.name = some b.val
  isi : mg "isinstance" = none ∧ mb "isinstance" = some (.builtin "isinstance")
  bty : ∀ T ∈ ["str", "list", "tuple", "bool", "int", "ValueError"], mg (Str.ofString T) = none ∧ mb (Str.ofString T) = some (.type T)
  own : ∀ x c, onm x = some c → ∃ C, cx.cls c = some C ∧ mg x = some (.ref C)
  rais : ∀ {F : Fm} {kd : Kd} {m : Loc} {H : AHeap} {s : Shared} {c : Nat} {x msg : Str} {k : Nat} {pc pm pk p : Pos} {QQ : Flow → Shared → Prop} {E : Value → Shared → Prop}, Fok cx n true kd F → isGlob kd x = true → onm x = some c → St cx F m H s.heap →
    (∀ e s', Exc cx F.env.frame s.heap s'.heap e c → St cx F m H s'.heap → Kp cx [] H s H s' → E (.ref e) s') → wpAny cx.M F.A (exec (.Raise (some (.Call (.Name x pc) [.Constant (.str msg) k pm] [] pk)) none p) F.env) QQ E s
  mats : ∀ {A : Around} {s : Shared} {e : Value} {k c : Nat} {C : Addr} {QQ : Bool → Shared → Prop} {E : Value → Shared → Prop}, cx.B.StaysIn s.heap → Rep cx s.heap e (.exc k) → cx.cls c = some C → (∀ tk, QQ (isSub k c) { s with toks := tk }) → wpAny cx.M A (excMatches e (.ref C)) QQ E s
  mach : ∃ C N, cx.icls = some C ∧ mg "Machine" = some (.ref C) ∧ ClsAt cx.B C N cx.mN ∧ ∀ x ∈ (["__getattribute__", "__getattr__", "__setattr__"] : List Str) ++ atns, cx.mN x = none
  fns : ∀ f, fl.contains f = true → ∃ a o fd, fad cx mg f = some (.ref a) ∧ cx.B.get? a = some o ∧ o.data = .func fd ∧ (isMeth f = true → o.cls = .type "function")
  calls : ∀ f, fl.contains f = true → ∀ {ps : List PV} {H : AHeap} {Q : Post} {X : XPost}, g.C f ps H Q X → ∀ {F : Fm} {m : Loc} {s : Shared} {vs : List Value} {a : Addr}, Fcl n F → fad cx mg f = some (.ref a) →
    RepL cx s.heap vs ps → St cx F m H s.heap → Ev (Rep cx) cx F (call (.ref a) vs []) m H s Q X
theorem Fok.fcl {cx : Cx} {n : Nat} {kd : Kd} {F : Fm} (fo : Fok cx n true kd F) : Fcl n F := ⟨fo.fr, fo.quiet rfl, by have := fo.depth; (first | lia | omega), by have := fo.units; (first | lia | omega)⟩
theorem fad_glob {cx : Cx} {mg : Str → Option Value} {f : Str} (h : isMeth f = false) : fad cx mg f = mg f := by
  unfold fad
  cases e : mtab.find? fun p => p.2 == f with
  | none => rfl
  | some p =>
    have h1 := List.find?_some e
    have : isMeth f = true := List.any_eq_true.mpr ⟨p, List.mem_of_find?_eq_some e, h1⟩
    rw [h] at this; cases this
end Mine
end
section
open PySem PySem.Calls PyProof.Rows
namespace Mine
set_option autoImplicit false

section
variable {cx : Cx} {F : Fm} {m : Loc} {H H' : AHeap} {s s' : Shared} {I : Addr}

/-- nothing but I's record changes -/
noncomputable def Tch (I : Addr) (s s' : Shared) : Prop := ∃ h' tk, s' = { s with heap := h', toks := tk } ∧ ∀ b o, b ≠ I → s.heap.get? b = some o → h'.get? b = some o
noncomputable def Clean (cx : Cx) (H : AHeap) (h : Heap) (I : Addr) : Prop := H I = none ∧ cx.B.get? I = none ∧ ∃ o T vs, h.get? I = some o ∧ o.cls = .type T ∧ T ≠ "range" ∧ o.data = .fields vs

theorem notSolid_of {o : Obj} {T : String} {vs : Array Value} (hc : o.cls = .type T) (hT : T ≠ "range") (hd : o.data = .fields vs) : ¬ Solid o := by
  rintro (⟨i, n, rfl⟩ | ⟨n, t, u, v, rfl⟩ | ⟨⟨C, q⟩, _⟩)
  · cases hd
  · simp [rngObj] at hc; exact hT hc.symm
  · rw [hc] at q; cases q

theorem Holds.keepBut {h h' : Heap} (k : Holds cx h H) (hI : H I = none) (g : ∀ b o, b ≠ I → h.get? b = some o → h'.get? b = some o) (ns : ∀ o, h.get? I = some o → ¬ Solid o) : Holds cx h' H := fun b x e => by
  have q : b ≠ I := by rintro rfl; rw [hI] at e; cases e
  have r := k b x e
  have so : ∀ b o, h.get? b = some o → Solid o → h'.get? b = some o := fun b o e s => g b o (by rintro rfl; exact ns o e s) e
  cases x with
  | list xs => obtain ⟨items, n, e, r, l⟩ := r; exact ⟨items, n, g _ _ q e, r.mono so, l⟩
  | tape k => obtain ⟨t, n, e⟩ := r; exact ⟨t, n, g _ _ q e⟩
  | dict kvs => obtain ⟨vs, d, r, l⟩ := r; exact ⟨vs, (let ⟨o, es, ep, ho, y⟩ := d; ⟨o, es, ep, g _ _ q ho, y⟩), r.mono so, l⟩
  | inst d => obtain ⟨C, o, x, e, y⟩ := r; exact ⟨C, o, x, g _ _ q e, y⟩
  | attrs kvs => obtain ⟨m, n1, ed, f, n, l⟩ := r; exact ⟨m, (let ⟨o, es, ep, e, y⟩ := n1; ⟨o, es, ep, g _ _ q e, y⟩), (let ⟨od, e, y⟩ := ed; ⟨od, g _ _ q e, y⟩), fun x p e => let ⟨v, a, b⟩ := f x p e; ⟨v, a, b.mono so⟩, n, l⟩

theorem St.touch {h h' : Heap} (t : St cx F m H h) (c : Clean cx H h I) (k : ∀ b o, b ≠ I → h.get? b = some o → h'.get? b = some o) : St cx F m H h' := by
  obtain ⟨hI, hB, oI, T, vs, gI, hc, hT, hd⟩ := c
  have ns : ∀ o, h.get? I = some o → ¬ Solid o := fun o e => by rw [gI] at e; cases e; exact notSolid_of hc hT hd
  have so : ∀ b o, h.get? b = some o → Solid o → h'.get? b = some o := fun b o e s => k b o (by rintro rfl; exact ns o e s) e
  have nd : ∀ b o es ep, h.get? b = some o → o.data = .dict es ep → b ≠ I := fun b o es ep e q => by rintro rfl; rw [gI] at e; cases e; rw [hd] at q; cases q
  refine ⟨fun b o e => k b o (by rintro rfl; rw [hB] at e; cases e) (t.base b o e), t.off, t.heap.keepBut hI k ns, fun env he => ?_, t.own, ?_, fun n c hc' => ?_⟩
  · obtain ⟨hk, L, o, es, ep, hf, hH, hb, ho, hd'⟩ := t.frames env he
    exact ⟨hk, L, o, es, ep, hf, hH, hb, k L o (nd L o es ep ho hd') ho, hd'⟩
  · obtain ⟨o, es, ep, mc, ho, hd', ⟨o1, es1, ep1, ho1, hd1, hk1, hm1⟩, hv⟩ := t.vars
    have n := nd _ o es ep ho hd'
    exact ⟨o, es, ep, mc, k _ o n ho, hd', ⟨o1, es1, ep1, k _ o1 n ho1, hd1, hk1, hm1⟩, fun i v h1 h2 h3 => let ⟨x, q, r⟩ := hv i v h1 h2 h3; ⟨x, q, r.mono so⟩⟩
  · obtain ⟨h1, h2, o, x, ho, hd', hv⟩ := t.cells n c hc'
    exact ⟨h1, h2, o, x, k c o (by rintro rfl; rw [gI] at ho; cases ho; rw [hd] at hd'; cases hd') ho, hd', fun i v a b c d => let ⟨y, q, r⟩ := hv i v a b c d; ⟨y, q, r.mono so⟩⟩

theorem Kp.touch {S : List Addr} {H₁ : AHeap} {s₁ s₂ : Shared} (k : Kp cx S H s H₁ s₁) (f : s.heap.get? I = none) (tc : Tch I s₁ s₂) (hB : cx.B.get? I = none) : Kp cx S H s H₁ s₂ := by
  obtain ⟨h', tk, rfl, g⟩ := tc
  have n : ∀ b o, s.heap.get? b = some o → b ≠ I := fun b o e => by rintro rfl; rw [f] at e; cases e
  refine ⟨?_, fun b o e hS hH => ?_, fun b o e => ?_, fun b o e e' => ?_⟩
  · obtain ⟨h, t, rfl⟩ := k.same; exact ⟨h', tk, rfl⟩
  · obtain ⟨h1, o', e', sm⟩ := k.keep b o e hS hH; exact ⟨h1, o', g b o' (n b o e) e', sm⟩
  · obtain ⟨o', e'⟩ := k.alive b o e; exact ⟨o', g b o' (n b o e) e'⟩
  · exact g b o (by rintro rfl; rw [hB] at e; cases e) (k.base b o e e')

noncomputable def Src (p : PV) (xs : List PV) (H : AHeap) : Prop :=
  match p with
  | .obj a => H a = some (.list xs)
  | _ => True
noncomputable def Itr (cx : Cx) (h : Heap) (I : Addr) (i : Nat) (xs : List PV) : PV → Prop
  | .obj a => h.IsListIter I a i ∧ a ≠ I
  | .tup _ => ∃ t items n, h.IsTupleIter I t i ∧ h.get? t = some (tupObj items n) ∧ RepL cx h items.toList xs ∧ t ≠ I
  | .rng n => IsRangeIter h I i ((n.toNat : Int) - i) 1 ∧ xs = (List.range n.toNat).map fun i => .int i
  | _ => False

theorem Itr.clean {h : Heap} {i : Nat} {xs : List PV} {p : PV} (it : Itr cx h I i xs p) : ∃ o T vs, h.get? I = some o ∧ o.cls = .type T ∧ T ≠ "range" ∧ o.data = .fields vs := by
  cases p <;> try exact it.elim
  · obtain ⟨t, items, n, ⟨o, ho, hc, hd⟩, _⟩ := it; exact ⟨o, _, _, ho, hc, by decide, hd⟩
  · obtain ⟨⟨o, ho, hc, hd⟩, _⟩ := it; exact ⟨o, _, _, ho, hc, by decide, hd⟩
  · exact ⟨_, _, _, it.1, rfl, by decide, rfl⟩
theorem Itr.keep {h h' : Heap} {i : Nat} {xs : List PV} {p : PV} (it : Itr cx h I i xs p) (so : ∀ b o, h.get? b = some o → Solid o → h'.get? b = some o) (kI : ∀ o, h.get? I = some o → h'.get? I = some o) : Itr cx h' I i xs p := by
  cases p <;> try exact it.elim
  · obtain ⟨t, items, n, ⟨o, ho, hc, hd⟩, ht, r, ne⟩ := it
    exact ⟨t, items, n, ⟨o, kI o ho, hc, hd⟩, so _ _ ht (.inl ⟨_, _, rfl⟩), r.mono so, ne⟩
  · obtain ⟨⟨o, ho, hc, hd⟩, ne⟩ := it
    exact ⟨⟨o, kI o ho, hc, hd⟩, ne⟩
  · exact ⟨kI _ it.1, it.2⟩

theorem itemsW_to {p : PV} {K : List PV → (AHeap → Prop) → Prop} (h : itemsW p K H) : ItemsW K H p := h.to fun xs e k => by
  unfold itemsF at e
  split at e <;> cases e
  · exact .tup k
  · exact .rng k
theorem iter_ok {v : Value} {p : PV} {K : List PV → (AHeap → Prop) → Prop} {Q : Value → Shared → Prop} {E : Value → Shared → Prop} (rv : Rep cx s.heap v p) (t : St cx F m H s.heap) (h : itemsW p K H)
    (hQ : ∀ I xs h', s.heap.get? I = none → (∀ b o, s.heap.get? b = some o → h'.get? b = some o) → Itr cx h' I 0 xs p → Clean cx H h' I → Src p xs H → xs.length ≤ LIM → K xs (Src p xs) → Q (.ref I) { s with heap := h' }) :
    wpAny cx.M F.A (pyIter v) Q E s := by
  have hL : LIM = 1048576 := rfl
  have fr := get_size_none s.heap
  have hH : H s.heap.objs.size = none := t.heap.fresh fr
  have hB : cx.B.get? s.heap.objs.size = none := by
    cases e : cx.B.get? s.heap.objs.size with
    | none => rfl
    | some o => have := t.base _ _ e; rw [fr] at this; cases this
  replace h := itemsW_to h
  cases h with
  | tup h =>
    obtain ⟨a, items, n, rfl, g, l, r⟩ := rv.tupI
    refine wpAny_pyIter_tuple (isTuple_of g) (hQ _ _ _ fr push_keeps ⟨a, items, n, ⟨_, Heap.get?_push_size _ rfl, rfl, rfl⟩, push_keeps _ _ g, r.mono fun b o e _ => push_keeps b o e, ?_⟩ ⟨hH, hB, _, _, _, Heap.get?_push_size _ rfl, rfl, by decide, rfl⟩ trivial l h)
    rintro rfl; rw [fr] at g; cases g
  | rng h =>
    rename_i n
    obtain ⟨a, t1, u1, v1, rfl, g, l⟩ := rv.rngI
    have e : Builtin.Range.rangeSize 0 n 1 = n.toNat := by unfold Builtin.Range.rangeSize; simp; split <;> (first | lia | omega)
    refine wpAny_pyIter_range g ?_ (hQ _ _ _ fr push_keeps ⟨?_, rfl⟩ ⟨hH, hB, _, _, _, Heap.get?_push_size _ rfl, rfl, by decide, rfl⟩ trivial ?_ h)
    · unfold Builtin.Range.small Builtin.Range.rangeFitsLong
      rw [e]
      simp
      first | lia | omega
    · rw [e]
      show _ = some _
      rw [Heap.get?_push_size _ rfl]
      simp
    · simp; first | lia | omega
  | list ha h =>
      obtain rfl := Rep.objI rv
      obtain ⟨items, n, g, r, l⟩ := t.list ha
      refine wpAny_pyIter_list (isList_of g) (hQ _ _ _ fr push_keeps ⟨⟨_, Heap.get?_push_size _ rfl, rfl, rfl⟩, ?_⟩ ⟨hH, hB, _, _, _, Heap.get?_push_size _ rfl, rfl, by decide, rfl⟩ ha l h)
      rintro rfl; rw [fr] at g; cases g

theorem next_ok {i : Nat} {xs : List PV} {p x : PV} {Q : Option Value → Shared → Prop} {E : Value → Shared → Prop} (t : St cx F m H s.heap) (it : Itr cx s.heap I i xs p) (sr : Src p xs H) (cl : Clean cx H s.heap I) (xi : xs[i]? = some x)
    (hQ : ∀ v s', Rep cx s'.heap v x → Itr cx s'.heap I (i + 1) xs p → Clean cx H s'.heap I → Tch I s s' → Q (some v) s') : wpAny cx.M F.A (pyNext (.ref I)) Q E s := by
  obtain ⟨hI, hB, oI, T, vs, gI, hc, hT, hd⟩ := cl
  have so : ∀ h', Heap.SameBut I s.heap h' → ∀ b o, s.heap.get? b = some o → Solid o → h'.get? b = some o := fun h' sb b o e so => by
    rw [sb.2 b (by rintro rfl; rw [gI] at e; cases e; exact notSolid_of hc hT hd so)]; exact e
  have fin : ∀ v h' tk, Heap.SameBut I s.heap h' → Rep cx s.heap v x → Itr cx h' I (i + 1) xs p → Q (some v) { s with heap := h', toks := tk } := fun v h' tk sb r it' =>
    hQ v _ (r.mono (so h' sb)) it' ⟨hI, hB, it'.clean⟩ ⟨h', tk, rfl, fun b o n e => by rw [sb.2 b n]; exact e⟩
  cases p <;> try exact it.elim
  · obtain ⟨tt, items, n, hit, g, r, ne⟩ := it
    obtain ⟨v, ev, rv⟩ := r.get xi
    rw [Array.getElem?_toList] at ev
    refine wpAny_pyNext_tuple_item hit (isTuple_of g) ev fun h' hit' sb => fin v h' s.toks sb rv ⟨tt, items, n, hit', ?_, r.mono (so h' sb), ne⟩
    rw [sb.2 _ ne]; exact g
  · obtain ⟨hit, ne⟩ := it
    obtain ⟨items, n, g, r, l⟩ := t.list sr
    obtain ⟨v, ev, rv⟩ := r.get xi
    rw [Array.getElem?_toList] at ev
    exact wpAny_pyNext_list_item hit (isList_of g) ev fun h' hit' sb => fin v h' s.toks sb rv ⟨hit', ne⟩
  · obtain ⟨hit, rfl⟩ := it
    simp only [List.getElem?_map] at xi
    obtain ⟨j, hj, rfl⟩ := Option.map_eq_some_iff.mp xi
    have hlt := (List.getElem?_eq_some_iff.mp hj).1
    simp at hlt
    have hj' : j = i := by simpa [hlt] using hj.symm
    subst hj'
    refine wpAny_pyNext_range_item hit (by first | lia | omega) fun h' hit' sb => fin _ h' _ sb (.int _ _) ⟨?_, rfl⟩
    have e1 : ((j + 1 : Nat) : Int) = (j : Int) + 1 := by first | lia | omega
    have e2 : ∀ n : Nat, (n : Int) - ((j + 1 : Nat) : Int) = (n : Int) - (j : Int) - 1 := by intro n; first | lia | omega
    rw [e2, e1]; exact hit'

theorem end_ok {i : Nat} {xs : List PV} {p : PV} {Q : Option Value → Shared → Prop} {E : Value → Shared → Prop} (hh : F.A.handled = none) (t : St cx F m H s.heap) (it : Itr cx s.heap I i xs p) (sr : Src p xs H) (xi : xs[i]? = none)
    (hQ : ∀ s', Tch I s s' → Q none s') : wpAny cx.M F.A (pyNext (.ref I)) Q E s := by
  have hle := List.getElem?_eq_none_iff.mp xi
  cases p <;> try exact it.elim
  · obtain ⟨tt, items, n, hit, g, r, ne⟩ := it
    have hk := arr_len r
    exact wpAny_pyNext_tuple_end hh hit (isTuple_of g) (by simp; first | lia | omega) fun h' sb => hQ _ ⟨h', s.toks, rfl, fun b o n e => sb b o n e⟩
  · obtain ⟨hit, ne⟩ := it
    obtain ⟨items, n, g, r, l⟩ := t.list sr
    have hk := arr_len r
    exact wpAny_pyNext_list_end hh hit (isList_of g) (by simp; first | lia | omega) fun h' sb => hQ _ ⟨h', s.toks, rfl, fun b o n e => sb b o n e⟩
  · obtain ⟨hit, rfl⟩ := it
    simp at hle
    exact wpAny_pyNext_range_end hh hit (by first | lia | omega) fun h' sb => hQ _ ⟨h', s.toks, rfl, fun b o n e => sb b o n e⟩
theorem self_ok {A : Around} {i : Nat} {xs : List PV} {p : PV} {Q : Value → Shared → Prop} {E : Value → Shared → Prop} (it : Itr cx s.heap I i xs p) (hQ : Q (.ref I) s) : wpAny cx.M A (pyIter (.ref I)) Q E s := by
  cases p <;> try exact it.elim
  · obtain ⟨t, items, n, hit, _⟩ := it; exact wpAny_pyIter_tupleiter hit hQ
  · exact wpAny_pyIter_listiter it.1 hQ
  · exact wpAny_pyIter_rangeiter it.1 hQ
end
end Mine
end
section
open PySem PySem.Calls PyProof.Rows
namespace Mine
set_option autoImplicit false

section
variable {cx : Cx} {F : Fm} {m : Loc} {H H' : AHeap} {s s' : Shared} {I : Addr}

theorem Loc.get_set {m : Loc} {x i : Nat} {p v : PV} (h : (m.set x (some p)).getD i none = some v) : (i = x ∧ v = p) ∨ (i ≠ x ∧ m.getD i none = some v) := by
  by_cases q : i = x
  · subst q
    by_cases l : i < m.length
    · left; simp [List.getD, l] at h; exact ⟨rfl, h.symm⟩
    · simp [List.getD, l] at h
  · right
    refine ⟨q, ?_⟩
    simpa [List.getD, List.getElem?_set, Ne.symm q] using h
theorem Loc.get_set0 {m : Loc} {x i : Nat} {v : PV} (h : (m.set x none).getD i none = some v) : i ≠ x ∧ m.getD i none = some v := by
  by_cases q : i = x
  · subst q
    by_cases l : i < m.length
    · simp [List.getD, l] at h
    · simp [List.getD, l] at h
  · refine ⟨q, ?_⟩
    simpa [List.getD, List.getElem?_set, Ne.symm q] using h

theorem notSolid_dict {o : Obj} {es : Array DictEntry} {ep : Nat} (hd : o.data = .dict es ep) : ¬ Solid o := fun h => h.notLoc.1 _ _ hd
theorem notSolid_cell {o : Obj} {x : Option Value} (hd : o.data = .cell x) : ¬ Solid o := fun h => h.notLoc.2 _ hd

/-- a name put anew in the frame's own row -/
theorem St.setLocal {h h' : Heap} {x : Nat} {v : Value} {p : PV} {mc mc' : Str → Option Value} (t : St cx F m H h) (inj : ∀ i j, F.vis i = true → F.vis j = true → slot F.nm i = slot F.nm j → i = j) (vx : F.vis x = true) (kl : F.env.kindOf (slot F.nm x) = some .local)
    (ns : h.Ns F.env.locals mc) (ns' : h'.Ns F.env.locals mc') (hm : mc' = fun z => if z = slot F.nm x then some v else mc z) (sb : Heap.SameBut F.env.locals h h') (rv : Rep cx h v p) : St cx F (m.set x (some p)) H h' := by
  obtain ⟨o, es, ep, mc₀, ho, hd, ns₀, hv⟩ := t.vars
  have e0 : mc₀ = mc := funext (ns₀.agree ns)
  subst e0
  have ns1 : ∀ o, h.get? F.env.locals = some o → ¬ Solid o := fun o' e => by rw [ho] at e; cases e; exact notSolid_dict hd
  have k : ∀ b o, b ≠ F.env.locals → h.get? b = some o → h'.get? b = some o := fun b o n e => by rw [sb.2 b n]; exact e
  have so : ∀ b o, h.get? b = some o → Solid o → h'.get? b = some o := fun b o e s => k b o (by rintro rfl; exact ns1 o e s) e
  obtain ⟨o', es', ep', ho', hd', r'⟩ := id ns'
  refine ⟨fun b o e => k b o (by rintro rfl; rw [t.own.2] at e; cases e) (t.base b o e), t.off, t.heap.keepBut t.own.1 k ns1, fun env he => ?_, t.own, ⟨o', es', ep', mc', ho', hd', ns', fun i w h1 h2 h3 => ?_⟩, fun n c hc' => ?_⟩
  · obtain ⟨hk, L, o1, es1, ep1, hf, hH, hb, ho1, hd1⟩ := t.frames env he
    by_cases q : L = F.env.locals
    · subst q; exact ⟨hk, _, o', es', ep', hf, hH, hb, ho', hd'⟩
    · exact ⟨hk, L, o1, es1, ep1, hf, hH, hb, k L o1 q ho1, hd1⟩
  · rcases Loc.get_set h3 with ⟨rfl, rfl⟩ | ⟨n, h3⟩
    · exact ⟨v, by simp [hm], rv.mono so⟩
    · obtain ⟨y, e, r⟩ := hv i w h1 h2 h3
      refine ⟨y, ?_, r.mono so⟩
      rw [hm]
      simp only
      rw [if_neg (fun q => n (inj i x h1 vx q))]; exact e
  · obtain ⟨h1, h2, oc, y, hoc, hdc, hvc⟩ := t.cells n c hc'
    have nc : c ≠ F.env.locals := by rintro rfl; rw [ho] at hoc; cases hoc; rw [hd] at hdc; cases hdc
    refine ⟨h1, h2, oc, y, k c oc nc hoc, hdc, fun i w a b c' d => ?_⟩
    rcases Loc.get_set d with ⟨rfl, rfl⟩ | ⟨ne, d⟩
    · subst b; exact absurd kl c'
    · obtain ⟨z, q, r⟩ := hvc i w a b c' d
      exact ⟨z, q, r.mono so⟩

theorem St.forget {h : Heap} (x : Nat) (t : St cx F m H h) : St cx F (m.set x none) H h := by
  refine ⟨t.base, t.off, t.heap, t.frames, t.own, ?_, fun n c hc => ?_⟩
  · obtain ⟨o, es, ep, mc, ho, hd, ns, hv⟩ := t.vars
    exact ⟨o, es, ep, mc, ho, hd, ns, fun i v h1 h2 h3 => hv i v h1 h2 (Loc.get_set0 h3).2⟩
  · obtain ⟨h1, h2, o, y, ho, hd, hv⟩ := t.cells n c hc
    exact ⟨h1, h2, o, y, ho, hd, fun i v a b c' d => hv i v a b c' (Loc.get_set0 d).2⟩

theorem St.solidNow {h : Heap} (_ : St cx F m H h) : True := trivial

/-- the comprehension's own frame -/
noncomputable def compF (F : Fm) (sc : Scope) (cl : List (Str × Addr)) (C : Addr) (x : Nat) (kd' : Kd) : Fm := { F with env := compEnvC sc cl C F.env, vis := visC kd' F.nm F.vis x }

theorem relab_eq {kd : Kd} {n : Nat} {q : Bool} {sc : Scope} {cl : List (Str × Addr)} {C : Addr} (fo : Fok cx n q kd F) : (compEnvC sc cl C F.env).kindOf = relab kd sc := by
  funext x
  show List.lookup x (List.map _ sc.names) = _
  unfold relab
  have e1 : (F.env.scope.kind == ScopeKind.function) = true := by rw [fo.kind]; rfl
  simp only [e1, fo.kdo, Bool.and_true]

theorem closure_lookup {env : Env} {kd : Kd} (hc : ∀ x, (kd x = some .cell ∨ kd x = some .free) → ∃ c, env.cells.lookup x = some c) :
    ∀ (names : List (Str × NameKind)) (acc : List (Str × Addr)), (names.all fun p => p.2 != .free || kd p.1 == some .cell || kd p.1 == some .free) = true → (∀ n c, acc.lookup n = some c → env.cells.lookup n = some c) →
      ∃ cl, (forIn names acc (fun x cs => if x.2 == .free then (do let c ← cellOf env x.1; pure (ForInStep.yield ((x.1, c) :: cs))) else pure (ForInStep.yield cs)) : Sem (List (Str × Addr))) = pure cl ∧
        (∀ n c, cl.lookup n = some c → env.cells.lookup n = some c) ∧ (∀ n, (acc.lookup n).isSome = true → (cl.lookup n).isSome = true) ∧ ∀ n, (n, NameKind.free) ∈ names → (cl.lookup n).isSome = true
  | [], acc, _, ha => ⟨acc, by simp, ha, fun _ h => h, fun _ h => by simp at h⟩
  | (y, k) :: r, acc, hall, ha => by
    simp only [List.all_cons, Bool.and_eq_true] at hall
    rw [List.forIn_cons]
    by_cases hk : k = .free
    · subst hk
      have hy : kd y = some .cell ∨ kd y = some .free := by
        have := hall.1; simp at this; exact this
      obtain ⟨c, hc'⟩ := hc y hy
      obtain ⟨cl, e, h1, h2, h3⟩ := closure_lookup hc r ((y, c) :: acc) hall.2 (fun n d h => by
        rw [List.lookup_cons] at h
        by_cases q : n = y
        · subst q; simp at h; subst h; exact hc'
        · rw [show (n == y) = false by simpa using q] at h; exact ha n d h)
      refine ⟨cl, ?_, h1, fun n h => h2 n ?_, fun n h => ?_⟩
      · simp only [cellOf, hc']
        exact e
      · rw [List.lookup_cons]; split <;> simp_all
      · rcases List.mem_cons.mp h with q | q
        · cases q; exact h2 _ (by simp)
        · exact h3 n q
    · obtain ⟨cl, e, h1, h2, h3⟩ := closure_lookup hc r acc hall.2 ha
      refine ⟨cl, ?_, h1, h2, fun n h => ?_⟩
      · have : (k == NameKind.free) = false := by simpa using hk
        simp only [this]
        exact e
      · rcases List.mem_cons.mp h with q | q
        · cases q; exact absurd rfl hk
        · exact h3 n q
theorem closure_ok {env : Env} {kd : Kd} {sc : Scope} (hc : ∀ x, (kd x = some .cell ∨ kd x = some .free) → ∃ c, env.cells.lookup x = some c)
    (hall : (sc.names.all fun p => p.2 != .free || kd p.1 == some .cell || kd p.1 == some .free) = true) : ∃ cl, closureFor sc env = pure cl ∧ (∀ n c, cl.lookup n = some c → env.cells.lookup n = some c) ∧ ∀ n, (n, NameKind.free) ∈ sc.names → (cl.lookup n).isSome = true := by
  obtain ⟨cl, e, h1, _, h3⟩ := closure_lookup hc sc.names [] hall (fun _ _ h => by simp at h)
  refine ⟨cl, ?_, h1, h3⟩
  unfold closureFor
  rw [← e]
  simp only [bind_pure]
end
end Mine
end
section
open PySem PySem.Calls PyProof.Rows
namespace Mine
set_option autoImplicit false

section
variable {cx : Cx} {F : Fm} {m : Loc} {H H' : AHeap} {s s' : Shared} {I : Addr} {kd : Kd} {sc : Scope} {x n : Nat} {q : Bool} {cl : List (Str × Addr)} {C : Addr}

theorem lookup_map_free {kd : Kd} {y : Str} {k : NameKind} : ∀ {names : List (Str × NameKind)}, (names.map fun (n, k) => if (k == .free && kd n == some .cell) then (n, .cell) else (n, k)).lookup y = some k →
    ∃ k₀, (y, k₀) ∈ names ∧ k = if (k₀ == .free && kd y == some .cell) then .cell else k₀
  | [], h => by simp at h
  | (z, k₀) :: r, h => by
    have hs : ∀ p : Str × NameKind, (if (k₀ == NameKind.free && kd z == some .cell) = true then (z, NameKind.cell) else (z, k₀)) = p → p.1 = z := fun p e => by rw [← e]; split <;> rfl
    rw [List.map_cons] at h
    simp only at h
    generalize hp : (if (k₀ == NameKind.free && kd z == some .cell) = true then (z, NameKind.cell) else (z, k₀)) = p at h
    have h1 := hs p hp
    obtain ⟨p1, p2⟩ := p
    simp only at h1
    subst h1
    rw [List.lookup_cons] at h
    by_cases e : y = p1
    · subst e
      simp at h
      subst h
      refine ⟨k₀, List.mem_cons_self, ?_⟩
      split at hp <;> simp_all
    · rw [show (y == p1) = false by simpa using e] at h
      obtain ⟨k₁, h2, h3⟩ := lookup_map_free h
      exact ⟨k₁, List.mem_cons_of_mem _ h2, h3⟩

theorem relab_free (hsc : scOk kd (relab kd sc) sc (slot F.nm x) = true) {y : Str} (h : relab kd sc y = some .cell ∨ relab kd sc y = some .free) : (y, NameKind.free) ∈ sc.names ∧ (kd y = some .cell ∨ kd y = some .free) := by
  unfold scOk at hsc
  simp only [Bool.and_eq_true] at hsc
  obtain ⟨⟨⟨⟨⟨⟨⟨_, _⟩, _⟩, hnc⟩, _⟩, hfr⟩, _⟩, _⟩ := hsc
  have key : ∀ k, relab kd sc y = some k → k = .cell ∨ k = .free → (y, NameKind.free) ∈ sc.names := fun k e hk => by
    obtain ⟨k₀, h1, h2⟩ := lookup_map_free e
    have h3 := List.all_eq_true.mp hnc _ h1
    simp at h3
    cases k₀ <;> simp_all
  have hm : (y, NameKind.free) ∈ sc.names := h.elim (fun e => key _ e (.inl rfl)) fun e => key _ e (.inr rfl)
  have := List.all_eq_true.mp hfr _ hm
  simp at this
  exact ⟨hm, this⟩

theorem compF_ok (fo : Fok cx n q kd F) (hsc : scOk kd (relab kd sc) sc (slot F.nm x) = true) (hcl1 : ∀ n c, cl.lookup n = some c → F.env.cells.lookup n = some c) (hcl : ∀ n, (n, NameKind.free) ∈ sc.names → (cl.lookup n).isSome = true) :
    Fok cx n q (relab kd sc) (compF F sc cl C x (relab kd sc)) where
  fr := fo.fr
  kind := by
    unfold scOk at hsc
    simp only [Bool.and_eq_true, decide_eq_true_eq] at hsc
    exact hsc.1.1.1.1.1.1.1
  kdo := relab_eq fo
  glob := fo.glob
  bltn := fo.bltn
  quiet := fo.quiet
  depth := fo.depth
  units := fo.units
  cells := fun y h => Option.isSome_iff_exists.mp (hcl y (relab_free hsc h).1)
  apart := fun x y c h1 h2 => fo.apart x y c (hcl1 x c h1) (hcl1 y c h2)
  inj := fun i j hi hj e => by
    have hx : relab kd sc (slot F.nm x) = some .local := by
      unfold scOk at hsc
      simp only [Bool.and_eq_true, beq_iff_eq] at hsc
      exact hsc.1.2
    simp only [compF, visC, Bool.or_eq_true, Bool.and_eq_true, beq_iff_eq] at hi hj e
    rcases hi with rfl | ⟨hi, ki⟩ <;> rcases hj with rfl | ⟨hj, kj⟩
    · rfl
    · rw [← e, hx] at kj; simp at kj
    · rw [e, hx] at ki; simp at ki
    · exact fo.inj i j hi hj e

theorem comp_start {h' : Heap} {mc : Str → Option Value} (fo : Fok cx n q kd F) (hsc : scOk kd (relab kd sc) sc (slot F.nm x) = true) (hcl : ∀ n c, cl.lookup n = some c → F.env.cells.lookup n = some c)
    (t : St cx F m H s.heap) (fr : s.heap.get? C = none) (g : ∀ b o, s.heap.get? b = some o → h'.get? b = some o) (ns : h'.Ns C mc) : St cx (compF F sc cl C x (relab kd sc)) (m.set x none) H h' := by
  have hx : relab kd sc (slot F.nm x) = some .local := by
    unfold scOk at hsc
    simp only [Bool.and_eq_true, beq_iff_eq] at hsc
    exact hsc.1.2
  have so : ∀ b o, s.heap.get? b = some o → Solid o → h'.get? b = some o := fun b o e _ => g b o e
  obtain ⟨o, es, ep, ho, hd, r⟩ := id ns
  refine ⟨fun b o e => g b o (t.base b o e), t.off, t.heap.grow g, fun env he => ?_, ⟨t.heap.fresh fr, ?_⟩, ⟨o, es, ep, mc, ho, hd, ns, fun i v h1 h2 h3 => ?_⟩, fun y c hc => ?_⟩
  · obtain ⟨hk, L, o, es, ep, hf, hH, hb, ho, hd'⟩ := t.frames env he
    exact ⟨hk, L, o, es, ep, hf, hH, hb, g L o ho, hd'⟩
  · show cx.B.get? C = none
    cases e : cx.B.get? C with
    | none => rfl
    | some o => rw [t.base _ _ e] at fr; cases fr
  · exfalso
    rw [show (compF F sc cl C x (relab kd sc)).env.kindOf = relab kd sc from relab_eq fo] at h2
    obtain ⟨ne, h3⟩ := Loc.get_set0 h3
    simp only [compF, visC, Bool.or_eq_true, Bool.and_eq_true, beq_iff_eq] at h1 h2
    rcases h1 with rfl | ⟨_, hk⟩
    · exact ne rfl
    · rw [h2] at hk; simp at hk
  · obtain ⟨h1, h2, o, w, ho, hd, hv⟩ := t.cells y c (hcl y c hc)
    refine ⟨h1, h2, o, w, g c o ho, hd, fun i v a b c' d => ?_⟩
    obtain ⟨ne, d⟩ := Loc.get_set0 d
    simp only [compF, visC, Bool.or_eq_true, Bool.and_eq_true, beq_iff_eq] at a b
    rcases a with rfl | ⟨a, hk⟩
    · exact absurd rfl ne
    · obtain ⟨z, e, r⟩ := hv i v a b (by
        rw [fo.kdo]
        rw [b] at hk
        rcases (relab_free hsc hk).2 with q | q <;> rw [q] <;> decide) d
      exact ⟨z, e, r.mono so⟩
end
end Mine
end
section
open PySem PySem.Calls PyProof.Rows
namespace Mine
set_option autoImplicit false

abbrev testsSem (ifs : List Expr) (env : Env) : Sem Bool := forIn ifs true fun c r => if r = true then do let ok ← isTrue c env (eval c env); pure (ForInStep.yield ok) else pure (ForInStep.yield r)
abbrev IsBB : Heap → Bool → Bool → Prop := fun _ a b => a = b

inductive CompI (cx : Cx) (F' : Fm) (m0 : Loc) (H : AHeap) (s₀ : Shared) (I D : Addr) (xs : List PV) (p : PV) (W : List PV → List PV → AHeap → Prop) (k : Nat) (s' : Shared) : Prop
  | mk (i : Nat) (acc : List PV) (Hk : AHeap) (ys : Array Value) (c : Nat) (hi : i ≤ xs.length) (hk : k = xs.length - i) (ti : St cx F' m0 Hk s'.heap) (ki : Kp cx [] H s₀ Hk s') (iti : Itr cx s'.heap I i xs p) (ci : Clean cx Hk s'.heap I)
    (hDi : s'.heap.get? D = some (lstObj ys c)) (ri : RepL cx s'.heap ys.toList acc) (hHD : Hk D = none) (hacc : acc.length ≤ i) (hw : W (xs.drop i) acc Hk) : CompI cx F' m0 H s₀ I D xs p W k s'
section
variable {cx : Cx} {F : Fm} {m : Loc} {H H' : AHeap} {s s' : Shared} {I : Addr} {kd : Kd} {sc : Scope} {x n : Nat} {q : Bool} {cl : List (Str × Addr)}

/-- what no name or list holds stays -/
theorem Kp.same1 {s₁ s₂ : Shared} {H₁ H₂ : AHeap} (k : Kp cx [] H₁ s₁ H₂ s₂) {b : Addr} {o : Obj} (e : s₁.heap.get? b = some o) (hb : H₁ b = none) (hd : ∀ es ep, o.data ≠ .dict es ep) : H₂ b = none ∧ s₂.heap.get? b = some o := by
  obtain ⟨h, o', e', sm⟩ := k.keep b o e (fun q => nomatch q) hb
  rw [sm.eq hd] at e'; exact ⟨h, e'⟩

theorem comp_block {elt iter : Expr} {ifs : List Expr} {px pos : Pos} {xs : List PV} {p : PV} {aT : BPost → Loc → AHeap → Prop} {aE : Post → Loc → AHeap → Prop} {QF : List PV → AHeap → Prop}
    {RR : Value → Addr → Result → Shared → Prop} {E : Value → Shared → Prop} {s₀ s₂ : Shared} {h₂ : Heap} (fo : Fok cx n true kd F) (hsc : scOk kd (relab kd sc) sc (slot F.nm x) = true)
    (hcl1 : ∀ n c, cl.lookup n = some c → F.env.cells.lookup n = some c) (hcl2 : ∀ n, (n, NameKind.free) ∈ sc.names → (cl.lookup n).isSome = true)
    (hT : ∀ {C : Addr} {m' : Loc} {H : AHeap} {s : Shared} {Q : BPost}, Fok cx n true (relab kd sc) (compF F sc cl C x (relab kd sc)) → St cx (compF F sc cl C x (relab kd sc)) m' H s.heap → aT Q m' H →
      Ev IsBB cx (compF F sc cl C x (relab kd sc)) (testsSem ifs (compEnvC sc cl C F.env)) m' H s Q fun _ _ => False)
    (hE : ∀ {C : Addr} {m' : Loc} {H : AHeap} {s : Shared} {Q : Post}, Fok cx n true (relab kd sc) (compF F sc cl C x (relab kd sc)) → St cx (compF F sc cl C x (relab kd sc)) m' H s.heap → aE Q m' H →
      Ev (Rep cx) cx (compF F sc cl C x (relab kd sc)) (eval elt (compEnvC sc cl C F.env)) m' H s Q fun _ _ => False)
    (t : St cx F m H s₀.heap) (hs₂ : s₂ = { s₀ with heap := h₂ }) (g₂ : ∀ b o, s₀.heap.get? b = some o → h₂.get? b = some o) (fI : s₀.heap.get? I = none) (it : Itr cx h₂ I 0 xs p) (cI : Clean cx H h₂ I) (hl : xs.length ≤ LIM)
    (h : compW (Src p xs) (fun y K H => aT (fun b H => if b then aE (fun v H => K [v] H) (m.set x (some y)) H else K [] H) (m.set x (some y)) H) QF xs [] H)
    (hRR : ∀ D C s' H' vs mc, s₀.heap.get? C = none → s₀.heap.get? D = none → D ≠ C → s'.heap.Ns C mc → (∃ ys k, s'.heap.get? D = some (lstObj ys k) ∧ RepL cx s'.heap ys.toList vs ∧ vs.length ≤ LIM) → H' D = none → H' C = none → Holds cx s'.heap H' →
      Kp cx [] H s₀ H' s' → QF vs H' → RR (.ref D) C (.ok .next) s') :
    wpAny cx.M F.A (newList []) (fun acc s₃ => wpAny cx.M F.A (newFunctionEnv sc F.env.globals cl [] F.env.qual none .none (some F.env)) (fun cenv s₄ =>
      codeAny cx.M F.A (.compStart (.ListComp elt [⟨.Name (slot F.nm x) px, iter, ifs, 0⟩] sc pos) 0 (.ref I) acc { cenv with scope := relabel sc F.env }) (RR acc cenv.locals) s₄) E s₃) E s₂ := by
  have hL : LIM = 1048576 := rfl
  have hL' := LIM_le
  have hsc' := hsc
  unfold scOk at hsc'
  simp only [Bool.and_eq_true, beq_iff_eq, decide_eq_true_eq] at hsc'
  obtain ⟨⟨⟨⟨⟨⟨⟨hkind, _⟩, _⟩, hnc⟩, hloc⟩, hfr⟩, hx⟩, _⟩ := hsc'
  have hcell : ∀ y ∈ sc.names, y.2 ≠ .cell := fun y hy => by have := List.all_eq_true.mp hnc y hy; simpa using this
  subst hs₂
  refine wpAny_newObj_type (wpAny_newFunctionEnv hcell (by intro y hy; simp at hy) (fun h₁ hns₁ hsb₁ => ?_) hkind)
  dsimp only at hns₁ hsb₁ ⊢
  generalize hH2 : h₂.push { cls := .type "list", dict := none, data := .seq ([] : List Value).toArray } = H2 at hns₁ hsb₁ ⊢
  have hC : H2.objs.size = h₂.objs.size + 1 := by rw [← hH2, Heap.size_push]
  have hDC : h₂.objs.size ≠ H2.objs.size := by rw [hC]; exact Nat.ne_of_lt (Nat.lt_succ_self _)
  have below : ∀ b, b < h₂.objs.size → b ≠ H2.objs.size ∧ b ≠ h₂.objs.size := fun b hb => ⟨by rw [hC]; exact Nat.ne_of_lt (Nat.lt_succ_of_lt hb), Nat.ne_of_lt hb⟩
  have old : ∀ b o, h₂.get? b = some o → h₁.get? b = some o := fun b o e => hsb₁.extBut b o (below b (Heap.lt_size e)).1 (Heap.get?_push_of_some _ (hH2 ▸ Heap.get?_push_of_some _ e))
  have hD₁ : h₁.get? h₂.objs.size = some (lstObj #[] 0) := hsb₁.extBut _ _ hDC (Heap.get?_push_of_some _ (hH2 ▸ Heap.get?_push_size _ rfl))
  have fresh : ∀ a, h₂.objs.size ≤ a → s₀.heap.get? a = none := fun a ha => by
    cases e : s₀.heap.get? a with
    | none => rfl
    | some o' => exact absurd (Heap.lt_size (g₂ _ _ e)) (Nat.not_lt.mpr ha)
  have fC : s₀.heap.get? H2.objs.size = none := fresh _ (by rw [hC]; exact Nat.le_succ _)
  have fD : s₀.heap.get? h₂.objs.size = none := fresh _ (Nat.le_refl _)
  have bnone : ∀ a, s₀.heap.get? a = none → cx.B.get? a = none := fun a f => by
    cases e : cx.B.get? a with
    | none => rfl
    | some o => rw [t.base _ _ e] at f; cases f
  generalize hCg : H2.objs.size = C at *
  generalize hDg : h₂.objs.size = D at *
  clear hH2
  have hID : I ≠ D := by obtain ⟨_, _, oI, _, _, gI, _⟩ := cI; exact Nat.ne_of_lt (hDg ▸ Heap.lt_size gI)
  have fo' := compF_ok (C := C) fo hsc hcl1 hcl2
  have keep₁ : ∀ b o, s₀.heap.get? b = some o → h₁.get? b = some o := fun b o e => old b o (g₂ b o e)
  have t₁ : St cx (compF F sc cl C x (relab kd sc)) (m.set x none) H h₁ := comp_start fo hsc hcl1 t fC keep₁ hns₁
  have it₁ : Itr cx h₁ I 0 xs p := it.keep (fun b o e _ => old b o e) fun o e => old _ o e
  have cI₁ : Clean cx H h₁ I := ⟨cI.1, cI.2.1, it₁.clean⟩
  have hp : ((compEnvC sc cl C F.env).scope.kind == .class || ((compEnvC sc cl C F.env).scope.kind == .module && (compEnvC sc cl C F.env).locals != (compEnvC sc cl C F.env).globals)) = false := by
    simp [compEnvC, relabel, hkind]
  have hkx : (compEnvC sc cl C F.env).kindOf (slot F.nm x) = some .local := by rw [relab_eq fo]; exact hx
  have loop : ∀ s₃ : Shared, s₃ = { s₀ with heap := h₁, toks := s₀.toks + ([] : List (Str × Value)).length } →
      codeAny cx.M F.A (.compLoop (.ListComp elt [⟨.Name (slot F.nm x) px, iter, ifs, 0⟩] sc pos) 0 (.ref I) (.ref D) (compEnvC sc cl C F.env)) (RR (.ref D) C) s₃ := by
    rintro s₃ rfl
    refine codeAny_compLoop_tests (CompI cx (compF F sc cl C x (relab kd sc)) (m.set x none) H s₀ I D xs p (compW (Src p xs) (fun y K H => aT (fun b H => if b then aE (fun v H => K [v] H) (m.set x (some y)) H else K [] H) (m.set x (some y)) H) QF)) ?_ xs.length
      ⟨0, [], H, #[], 0, Nat.zero_le _, rfl, t₁, .grow keep₁ (fun _ _ _ e => e), it₁, cI₁, hD₁, .nil, t.heap.fresh fD, Nat.le_refl _, h⟩
    rintro k s' ⟨i, acc, Hk, ys, c, hi, rfl, ti, ki, iti, ci, hDi, ri, hHD, hacc, hw⟩
    by_cases hlt : i < xs.length
    · have hx1 : xs[i]? = some xs[i] := List.getElem?_eq_getElem hlt
      rw [List.drop_eq_getElem_cons hlt] at hw
      obtain ⟨sr, hw⟩ := hw
      refine next_ok (F := compF F sc cl C x (relab kd sc)) ti iti sr ci hx1 fun v s₄ rv it₄ c₄ tc₄ => ?_
      obtain ⟨h₄, tk₄, rfl, k₄⟩ := id tc₄
      have t₄ : St cx (compF F sc cl C x (relab kd sc)) (m.set x none) Hk h₄ := ti.touch ci k₄
      have kp₄ := ki.touch fI tc₄ ci.2.1
      have hD₄ : h₄.get? D = some (lstObj ys c) := k₄ D _ (Ne.symm hID) hDi
      have so₄ : ∀ b o, s'.heap.get? b = some o → Solid o → h₄.get? b = some o := fun b o e so => k₄ b o (by
        rintro rfl; obtain ⟨_, _, oI, T, vs, gI, hc, hT, hd⟩ := ci; rw [gI] at e; cases e; exact notSolid_of hc hT hd so) e
      obtain ⟨oC, esC, epC, mc, hoC, hdC, nsC, _⟩ := t₄.vars
      refine wpAny_assign_Name (wpAny_storeName_local hkx nsC (fun h₅ ns₅ sb₅ => ?_) hp)
      have nsC' : h₄.Ns C mc := nsC
      have sb₅' : Heap.SameBut C h₄ h₅ := sb₅
      have t₅ : St cx (compF F sc cl C x (relab kd sc)) (m.set x (some xs[i])) Hk h₅ := by
        have := t₄.setLocal (x := x) fo'.inj (by simp [compF, visC]) hkx nsC ns₅ rfl sb₅ rv
        rw [List.set_set] at this; exact this
      have hCD : C ≠ D := Ne.symm hDC
      have kk₅ : ∀ b o, b ≠ C → h₄.get? b = some o → h₅.get? b = some o := fun b o n e => by rw [sb₅'.2 b n]; exact e
      have so₅ : ∀ b o, h₄.get? b = some o → Solid o → h₅.get? b = some o := fun b o e so => kk₅ b o (by rintro rfl; rw [show h₄.get? b = some oC from hoC] at e; cases e; exact notSolid_dict hdC so) e
      have kp₅ : Kp cx [] H s₀ Hk { s' with heap := h₅, toks := tk₄ + 1 } := kp₄.touch (I := C) fC ⟨h₅, tk₄ + 1, rfl, kk₅⟩ (bnone _ fC)
      have hIC : I ≠ C := by
        obtain ⟨_, _, oI, _, _, gI, _, _, hd⟩ := c₄
        rintro rfl
        rw [show h₄.get? I = some oC from hoC] at gI; cases gI; rw [hdC] at hd; cases hd
      have it₅ : Itr cx h₅ I (i + 1) xs p := it₄.keep so₅ fun o e => kk₅ _ o hIC e
      have c₅ : Clean cx Hk h₅ I := ⟨c₄.1, c₄.2.1, it₅.clean⟩
      have hD₅ : h₅.get? D = some (lstObj ys c) := kk₅ D _ hDC hD₄
      have r₅ : RepL cx h₅ ys.toList acc := (ri.mono so₄).mono so₅
      refine wpAny_mono (hT fo' t₅ hw) (fun ok s₆ h₆ => ?_) fun _ _ ⟨_, _, _, _, _, _, _, f⟩ => f.elim
      obtain ⟨b, H₆, rfl, t₆, kp₆, hb⟩ := h₆
      have nd : ∀ es ep, (lstObj ys c).data ≠ .dict es ep := fun _ _ q => nomatch q
      have so₆ : ∀ b o, h₅.get? b = some o → Solid o → s₆.heap.get? b = some o := kp₆.solid0 t₅.heap
      have hD₆ := kp₆.same1 (b := D) hD₅ hHD nd
      have stepI : ∀ {sa sb : Shared} {Ha Hb : AHeap} {ma : Loc}, Kp cx [] Ha sa Hb sb → St cx (compF F sc cl C x (relab kd sc)) ma Ha sa.heap → Itr cx sa.heap I (i + 1) xs p → Clean cx Ha sa.heap I → Itr cx sb.heap I (i + 1) xs p ∧ Clean cx Hb sb.heap I := fun {sa sb Ha Hb ma} kp ta ita ca => by
        obtain ⟨hI, hB, oI, T, vs, gI, hc, hT, hd⟩ := ca
        have e1 := kp.same1 gI hI (fun _ _ q => by rw [hd] at q; cases q)
        have itb := ita.keep (kp.solid0 ta.heap) fun o e => by rw [gI] at e; cases e; exact e1.2
        exact ⟨itb, e1.1, hB, itb.clean⟩
      obtain ⟨it₆, c₆⟩ := stepI kp₆ t₅ it₅ c₅
      cases ok with
      | false =>
        rw [if_neg (by decide)] at hb ⊢
        exact ⟨xs.length - (i + 1), by first | lia | omega, i + 1, acc, H₆, ys, c, hlt, rfl, by have := t₆.forget x; rw [List.set_set] at this; exact this, kp₅.trans kp₆, it₆, c₆, hD₆.2, r₅.mono so₆, hD₆.1, Nat.le_succ_of_le hacc, by simpa using hb⟩
      | true =>
        rw [if_pos rfl] at hb ⊢
        refine wpAny_mono (hE fo' t₆ hb) (fun v₇ s₇ h₇ => ?_) fun _ _ ⟨_, _, _, _, _, _, _, f⟩ => f.elim
        obtain ⟨y, H₇, r₇, t₇, kp₇, hy⟩ := h₇
        have hD₇ := kp₇.same1 (b := D) hD₆.2 hD₆.1 nd
        have so₇ := kp₇.solid0 t₆.heap
        obtain ⟨it₇, c₇⟩ := stepI kp₇ t₆ it₆ c₆
        have ry : RepL cx s₇.heap ys.toList acc := (r₅.mono so₆).mono so₇
        have hsz := arr_len ry
        refine call_meets PySem.F.slot_list_append ⟨_, hD₇.2, rfl⟩ PySem.F.entry_list_append (PySem.F.args_list_append_2 _ _) (list_append _ ys c _ (by first | lia | omega)) ⟨hD₇.2, ?_⟩
        obtain ⟨c', g'⟩ := lst_update hD₇.2 (fun z => z.push v₇)
        have nsD : ∀ o, s₇.heap.get? D = some o → ¬ Solid o := fun o e => by
          rw [hD₇.2] at e; cases e
          rintro (⟨i, n, q⟩ | ⟨n, t, u, v, q⟩ | ⟨⟨C, q⟩, _⟩) <;> simp [lstObj, tupObj, rngObj] at q
        have so₈ : ∀ b o, s₇.heap.get? b = some o → Solid o → (s₇.heap.update D (Obj.mapSeq fun z => z.push v₇)).get? b = some o := fun b o e so => upd_keeps b o (by rintro rfl; exact nsD o e so) e
        have bD := bnone _ fD
        have t₈ : St cx (compF F sc cl C x (relab kd sc)) (m.set x (some xs[i])) H₇ (s₇.heap.update D (Obj.mapSeq fun z => z.push v₇)) := by
          have ndl : ∀ b o es ep, s₇.heap.get? b = some o → o.data = .dict es ep → b ≠ D := fun b o es ep e q => by rintro rfl; rw [hD₇.2] at e; cases e; cases q
          refine ⟨fun b o e => upd_keeps b o (by rintro rfl; rw [bD] at e; cases e) (t₇.base b o e), t₇.off, t₇.heap.keepBut hD₇.1 upd_keeps nsD, fun env he => ?_, t₇.own, ?_, fun nn cc hc' => ?_⟩
          · obtain ⟨hk, L, o, es, ep, hf, hH, hb, ho, hd'⟩ := t₇.frames env he
            exact ⟨hk, L, o, es, ep, hf, hH, hb, upd_keeps L o (ndl L o es ep ho hd') ho, hd'⟩
          · obtain ⟨o, es, ep, mc, ho, hd', ns, hv⟩ := t₇.vars
            have nn := ndl _ o es ep ho hd'
            exact ⟨o, es, ep, mc, upd_keeps _ o nn ho, hd', ns.at fun o e => upd_keeps _ o nn e, fun i v h1 h2 h3 => let ⟨x, q, r⟩ := hv i v h1 h2 h3; ⟨x, q, r.mono so₈⟩⟩
          · obtain ⟨h1, h2, o, xx, ho, hd', hv⟩ := t₇.cells nn cc hc'
            exact ⟨h1, h2, o, xx, upd_keeps cc o (by rintro rfl; rw [hD₇.2] at ho; cases ho; cases hd') ho, hd', fun i v a b c d => let ⟨y, q, r⟩ := hv i v a b c d; ⟨y, q, r.mono so₈⟩⟩
        have kp₈ : Kp cx [] H s₀ H₇ { s₇ with heap := s₇.heap.update D (Obj.mapSeq fun z => z.push v₇), toks := s₇.toks } := ((kp₅.trans kp₆).trans kp₇).touch (I := D) fD ⟨_, s₇.toks, rfl, upd_keeps⟩ bD
        have it₈ : Itr cx (s₇.heap.update D (Obj.mapSeq fun z => z.push v₇)) I (i + 1) xs p := it₇.keep so₈ fun o e => upd_keeps _ o hID e
        refine ⟨xs.length - (i + 1), by first | lia | omega, i + 1, acc ++ [y], H₇, ys.push v₇, c', hlt, rfl, by have := t₈.forget x; rw [List.set_set] at this; exact this, kp₈, it₈, ⟨c₇.1, c₇.2.1, it₈.clean⟩, g', ?_, hD₇.1, by simp; first | lia | omega, hy⟩
        have := (ry.append (.cons r₇ .nil)).mono so₈
        simpa using this
    · have hi' : i = xs.length := by first | lia | omega
      subst hi'
      rw [List.drop_length] at hw
      obtain ⟨sr, hw⟩ := hw
      refine end_ok (F := compF F sc cl C x (relab kd sc)) (fo'.quiet rfl) ti iti sr (by simp) fun s₄ tc₄ => ?_
      obtain ⟨h₄, tk₄, rfl, k₄⟩ := id tc₄
      have t₄ : St cx (compF F sc cl C x (relab kd sc)) (m.set x none) Hk h₄ := ti.touch ci k₄
      obtain ⟨oC, esC, epC, mc, hoC, hdC, nsC, _⟩ := t₄.vars
      have so₄ : ∀ b o, s'.heap.get? b = some o → Solid o → h₄.get? b = some o := fun b o e so => k₄ b o (by
        rintro rfl; obtain ⟨_, _, oI, T, vs, gI, hc, hT, hd⟩ := ci; rw [gI] at e; cases e; exact notSolid_of hc hT hd so) e
      exact hRR D C _ Hk acc mc fC fD hDC nsC ⟨ys, c, k₄ D _ (Ne.symm hID) hDi, ri.mono so₄, by first | lia | omega⟩ hHD t₄.own.1 t₄.heap (ki.touch fI tc₄ ci.2.1) hw
  exact codeAny_compStart_list (loop _ rfl) (self_ok it₁ (loop _ rfl))
end
end Mine
end
section
open PySem PySem.Calls PyProof.Rows
namespace Mine
set_option autoImplicit false

section
variable {cx : Cx} {F : Fm} {m : Loc} {H H' : AHeap} {s s' : Shared} {I : Addr} {kd : Kd} {sc : Scope} {x n : Nat} {q : Bool} {cl : List (Str × Addr)} {Q : Post} {X : XPost}

abbrev RepLs (cx : Cx) (k : Nat) : Heap → List Value → List PV → Prop := fun h vs ps => RepL cx h vs ps ∧ ps.length = k

theorem comp_fin' {vs : List PV} {D C : Addr} {mc : Str → Option Value} (t : St cx F m H s.heap) (fC : s.heap.get? C = none) (fD : s.heap.get? D = none) (hDC : D ≠ C) (ns : s'.heap.Ns C mc)
    (hD : ∃ ys k, s'.heap.get? D = some (lstObj ys k) ∧ RepL cx s'.heap ys.toList vs ∧ vs.length ≤ LIM) (hHD : H' D = none) (hHC : H' C = none) (hh : Holds cx s'.heap H') (k : Kp cx [] H s H' s') (h : alloc (.list vs) Q H')
    {h' : Heap} (sb : Heap.SameBut C s'.heap h') : St cx F m (upd H' D (.list vs)) h' ∧ Kp cx [] H s (upd H' D (.list vs)) { s' with heap := h' } ∧ Q (.obj D) (upd H' D (.list vs)) := by
  obtain ⟨ys, c, gD, r, l⟩ := hD
  obtain ⟨oC, es, ep, hoC, hdC, _⟩ := ns
  have bC : cx.B.get? C = none := by
    cases e : cx.B.get? C with
    | none => rfl
    | some o => rw [t.base _ _ e] at fC; cases fC
  have g : ∀ b o, b ≠ C → s'.heap.get? b = some o → h'.get? b = some o := fun b o n e => by rw [sb.2 b n]; exact e
  have nsC : ∀ o, s'.heap.get? C = some o → ¬ Solid o := fun o e => by rw [hoC] at e; cases e; exact notSolid_dict hdC
  have so : ∀ b o, s'.heap.get? b = some o → Solid o → h'.get? b = some o := fun b o e s => g b o (by rintro rfl; exact nsC o e s) e
  have hh' : Holds cx h' H' := hh.keepBut hHC g nsC
  have gD' := g D _ hDC gD
  have hu : Holds cx h' (upd H' D (.list vs)) := hh'.put (fun b o _ e => e) (fun o e => by
    rw [gD'] at e; cases e
    rintro (⟨i, n, q⟩ | ⟨n, t, u, v, q⟩ | ⟨⟨C, q⟩, _⟩) <;> simp [lstObj, tupObj, rngObj] at q) ⟨ys, c, gD', r.mono so, l⟩
  have k₁ : Kp cx [] H s H' { s' with heap := h' } := k.touch fC ⟨h', s'.toks, rfl, g⟩ bC
  have k₂ : Kp cx [] H s (upd H' D (.list vs)) { s' with heap := h' } := ⟨k₁.same, fun b o e nS hn => by
      obtain ⟨h1, o', e', sm⟩ := k₁.keep b o e nS hn
      exact ⟨by rw [upd_ne (by rintro rfl; rw [fD] at e; cases e)]; exact h1, o', e', sm⟩, k₁.alive, k₁.base⟩
  exact ⟨t.step k₂ hu, k₂, alloc_use h hHD⟩
theorem comp_fin {vs : List PV} {D C : Addr} {mc : Str → Option Value} (t : St cx F m H s.heap) (fC : s.heap.get? C = none) (fD : s.heap.get? D = none) (hDC : D ≠ C) (ns : s'.heap.Ns C mc)
    (hD : ∃ ys k, s'.heap.get? D = some (lstObj ys k) ∧ RepL cx s'.heap ys.toList vs ∧ vs.length ≤ LIM) (hHD : H' D = none) (hHC : H' C = none) (hh : Holds cx s'.heap H') (k : Kp cx [] H s H' s') (h : alloc (.list vs) Q H')
    {h' : Heap} (sb : Heap.SameBut C s'.heap h') : OkG (Rep cx) cx F m H s Q (.ref D) { s' with heap := h' } :=
  let ⟨a, b, c⟩ := comp_fin' t fC fD hDC ns hD hHD hHC hh k h sb; ⟨_, _, .obj D, a, b, c⟩

theorem comp_ok {elt iter : Expr} {ifs : List Expr} {px pos : Pos} {aT : BPost → Loc → AHeap → Prop} {aE : Post → Loc → AHeap → Prop}
    (fo : Fok cx n true kd F) (hsc : scOk kd (relab kd sc) sc (slot F.nm x) = true)
    (hIt : Ev (Rep cx) cx F (eval iter F.env) m H s (fun v H => itemsW v (fun xs src => compW src (fun y K H => aT (fun b H => if b then aE (fun v H => K [v] H) (m.set x (some y)) H else K [] H) (m.set x (some y)) H)
      (fun vs H => alloc (.list vs) Q H) xs [] H) H) X)
    (hT : ∀ {cl : List (Str × Addr)} {C : Addr} {m' : Loc} {H : AHeap} {s : Shared} {Q : BPost}, Fok cx n true (relab kd sc) (compF F sc cl C x (relab kd sc)) → St cx (compF F sc cl C x (relab kd sc)) m' H s.heap → aT Q m' H →
      Ev IsBB cx (compF F sc cl C x (relab kd sc)) (testsSem ifs (compEnvC sc cl C F.env)) m' H s Q fun _ _ => False)
    (hE : ∀ {cl : List (Str × Addr)} {C : Addr} {m' : Loc} {H : AHeap} {s : Shared} {Q : Post}, Fok cx n true (relab kd sc) (compF F sc cl C x (relab kd sc)) → St cx (compF F sc cl C x (relab kd sc)) m' H s.heap → aE Q m' H →
      Ev (Rep cx) cx (compF F sc cl C x (relab kd sc)) (eval elt (compEnvC sc cl C F.env)) m' H s Q fun _ _ => False)
    (hs : ∀ x, foldedSetIterable iter F.env x = pure x) :
    Ev (Rep cx) cx F (eval (.ListComp elt [⟨.Name (slot F.nm x) px, iter, ifs, 0⟩] sc pos) F.env) m H s Q X := by
  have hsc' := hsc
  unfold scOk at hsc'
  simp only [Bool.and_eq_true, beq_iff_eq, decide_eq_true_eq] at hsc'
  obtain ⟨⟨⟨⟨⟨⟨⟨hkind, _⟩, _⟩, hnc⟩, hloc⟩, hfr⟩, hx⟩, _⟩ := hsc'
  obtain ⟨cl, hclos, hcl1, hcl2⟩ := closure_ok fo.cells hfr
  have hnames : ∀ y ∈ sc.names, y.2 = .local → sc.names.lookup y.1 = some .local := fun y hy hl => by
    have := List.all_eq_true.mp hloc y hy
    simp [hl] at this; exact this
  unfold Ev
  rw [eval_ListComp]
  refine wpAny_comprehension_free (use := none) rfl hs hclos hkind hnames (wpAny_mono hIt (fun xv s₁ h₁ => ?_) fun _ _ e => e)
  obtain ⟨p, H₁, rv, t₁, k₁, hw⟩ := h₁
  refine iter_ok (F := F) rv t₁ hw fun I xs h' fI g it cI sr hl hc => ?_
  refine comp_block (RR := fun acc C => compPost cx.M F.A _ none _ acc C) fo hsc hcl1 hcl2 hT hE t₁ rfl g fI it cI hl hc ?_
  intro D C s' H' vs mc fC fD hDC ns hD hHD hHC hh k hq
  exact ⟨mc, ns, fun h'' sb => (comp_fin t₁ fC fD hDC ns hD hHD hHC hh k hq sb).older k₁⟩

theorem args_sem {f : Value} {k : Nat} {trees : List (Bool × Sem Value)} {Q : List PV → AHeap → Prop} (hp : ∀ x ∈ trees, x.1 = false) (h : Ev (RepLs cx k) cx F (spliced trees) m H s Q X) {QQ : Args → Shared → Prop}
    (hk : ∀ vs s', OkG (RepLs cx k) cx F m H s Q vs s' → QQ ⟨vs, []⟩ s') : wpAny cx.M F.A (evalArgs f true trees []) QQ (ErP cx F m H s X) s := by
  cases trees with
  | nil =>
    unfold evalArgs
    show wpAny cx.M F.A (spliced [] >>= _) QQ _ s
    refine wpAny_bind (wpAny_mono h (fun vs s' h' => ?_) fun _ _ x => x)
    refine wpAny_holding ?_
    exact wpAny_bind (wpAny_pure (wpAny_bind (wpAny_pure (wpAny_pure (hk vs s' h')))))
  | cons a r =>
    obtain ⟨b, x⟩ := a
    have := hp (b, x) List.mem_cons_self
    simp only at this
    subst this
    exact evalArgs_plain (wpAny_mono h (fun vs s' h' => hk vs s' h') fun _ _ e => e)

noncomputable def litV : Const → Option PV
  | .none => some .none
  | .bool b => some (.bool b)
  | .int i => some (.int i)
  | .str s => some (.str s)
  | _ => none
theorem litW_iff {c : Const} {Q : Post} (h : litW c Q H) : ∃ v, litV c = some v ∧ Q v H := by
  unfold litW at h
  split at h <;> first | exact ⟨_, rfl, h⟩ | exact h.elim
theorem lit_ok {c : Const} {k : Nat} {p : Pos} {v : PV} {A : Around} {env : Env} {QQ : Value → Shared → Prop} {E : Value → Shared → Prop} (hv : litV c = some v)
    (hQ : ∀ x tk, (∀ h, Rep cx h x v) → QQ x { s with toks := tk }) : wpAny cx.M A (eval (.Constant c k p) env) QQ E s := by
  unfold litV at hv
  split at hv <;> cases hv
  · exact wpAny_pure (hQ _ s.toks fun _ => .none)
  · exact wpAny_pure (hQ _ s.toks fun _ => .bool _)
  · exact fun _ _ _ => hQ _ _ fun _ => .int _ _
  · exact fun _ _ _ => hQ _ _ fun _ => .str _ _

theorem pairs_ok {g : Gl} {env : Env} {A : Around} {pos : Pos} : ∀ (ks : List (Str × Pos)) (es : AEs) {nm : List Str} {m : Loc} {Q : List PV → AHeap → Prop} {X : XPost} {s : Shared} {QQ : List (Value × Value) → Shared → Prop} {E : Value → Shared → Prop}, es.lits = true → ks.length = es.len →
    awpL g es Q X m H → (∀ prs tk kvs ps, Carries cx.sk prs kvs → kvs.map (·.1) = ks.map (·.1) → (∀ h, RepL cx h (kvs.map (·.2)) ps) → Q ps H → QQ prs { s with toks := tk }) →
    wpAny cx.M A (evalPairs (pairTrees (ks.map fun x => some (.Constant (.str x.1) 0 x.2)) (es.toEs nm) env pos)) QQ E s
  | [], .nil, _, _, _, _, s, _, _, _, _, h, hQ => pairTrees_nil_walk (hQ [] s.toks [] [] trivial rfl (fun _ => .nil) h)
  | [], .cons _ _, _, _, _, _, _, _, _, _, hl, _, _ => nomatch hl
  | _ :: _, .nil, _, _, _, _, _, _, _, _, hl, _, _ => nomatch hl
  | k :: ks, .cons e es, nm, m, Q, X, s, QQ, E, hlit, hl, h, hQ => by
    obtain ⟨c, kk, pp, rfl⟩ : ∃ c kk pp, e = .lit c kk pp := by
      cases e with
      | lit c kk pp => exact ⟨c, kk, pp, rfl⟩
      | _ => exact nomatch (show false = true from hlit)
    have hlit' : es.lits = true := hlit
    have hw : litW c (fun v H => awpL g es (fun vs H => Q (v :: vs) H) X m H) H := h
    obtain ⟨v, hv, hw⟩ := litW_iff hw
    refine pairTrees_cons_walk ?_
    refine Constant_str ?_
    refine lit_ok hv fun y tk ry => ?_
    refine pairs_ok ks es hlit' (by simpa [AEs.len] using hl) hw fun prs tk' kvs ps c1 c2 c3 c4 => ?_
    refine hQ _ tk' ((k.1, y) :: kvs) (v :: ps) ⟨by simp [Cx.sk, PySem.strKind, Value.isStrOf], rfl, c1⟩ (by simp [c2]) (fun h => .cons (ry h) (c3 h)) c4

theorem merged_rep {h : Heap} : ∀ {kvs : List (Str × Value)} {ks : List Str} {ps : List PV} {acc : List (Str × Value)} {pcc : List (Str × PV)}, kvs.map (·.1) = ks → RepL cx h (kvs.map (·.2)) ps → RepK cx h acc pcc →
    RepK cx h (merged acc kvs) ((ks.zip ps).foldl (fun d p => dset d p.1 p.2) pcc)
  | [], _, _, _, _, rfl, .nil, r => r
  | (k, v) :: kvs, _, _, acc, pcc, rfl, .cons a rs, r => by
    simp only [List.map_cons, List.zip_cons_cons, List.foldl_cons]
    exact merged_rep (acc := stored acc k v) rfl rs (r.dset a)
theorem dictOf_len (ks : List Str) (ps : List PV) : (dictOf ks ps).length ≤ ks.length := by
  unfold dictOf
  have : ∀ (l : List (Str × PV)) (acc : List (Str × PV)), (l.foldl (fun d p => dset d p.1 p.2) acc).length ≤ acc.length + l.length := by
    intro l
    induction l with
    | nil => intro acc; simp
    | cons a l ih =>
      intro acc
      have h1 := ih (dset acc a.1 a.2)
      have h2 := dset_length_le acc a.1 a.2
      simp only [List.foldl_cons, List.length_cons]
      first | lia | omega
  have h := this (ks.zip ps) []
  have : (ks.zip ps).length ≤ ks.length := by simp [List.length_zip]; exact Nat.min_le_left _ _
  simp at h; simp at this; first | lia | omega

theorem dict_ok {g : Gl} {ks : List (Str × Pos)} {es : AEs} {pos : Pos} (hm : ∃ a o, sysModules < a ∧ cx.B.get? a = some o) (hlit : es.lits = true) (hl : ks.length = es.len) (hn : es.len ≤ 15) (t : St cx F m H s.heap)
    (h : awpL g es (fun vs H => alloc (.dict (dictOf (ks.map (·.1)) vs)) Q H) X m H) :
    Ev (Rep cx) cx F (eval (.Dict (ks.map fun x => some (.Constant (.str x.1) 0 x.2)) (es.toEs F.nm) pos) F.env) m H s Q X := by
  have hL : LIM = 1048576 := rfl
  have lenE : ∀ es : AEs, (es.toEs F.nm).length = es.len := fun es => by
    have : ∀ k (es : AEs), es.len = k → (es.toEs F.nm).length = k := by
      intro k
      induction k with
      | zero => intro es h; cases es <;> simp_all [AEs.len, AEs.toEs]
      | succ k ih => intro es h; cases es <;> simp_all [AEs.len, AEs.toEs]
    exact this _ es rfl
  have fr := get_size_none s.heap
  have nm : (s.heap.objs.size == sysModules) = false := by
    obtain ⟨a, o, la, e⟩ := hm
    have := Heap.lt_size (t.base _ _ e)
    simp only [beq_eq_false_iff_ne]
    intro q; rw [← q] at la; exact absurd (Nat.lt_trans la this) (Nat.lt_irrefl _)
  cases ks with
  | nil =>
    cases es with
    | cons _ _ => simp [AEs.len] at hl
    | nil =>
      refine wpAny_Dict_empty (M := cx.M) ?_
      refine .alloc (tk := s.toks) (a := s.heap.objs.size) push_keeps fr (.obj _) ?_ t (alloc_use h (t.heap.fresh fr))
      exact ⟨[], Heap.DictOf.new _, .nil, by simp [dictOf], nm⟩
  | cons k ks =>
    refine wpAny_Dict_walk (knd := cx.sk) (by simp) (by rw [lenE]; simpa using hl) (by simp) (by rw [List.length_map]; first | lia | omega) ?_
    refine pairs_ok (H := H) (cx := cx) (k :: ks) es hlit hl h fun prs tk kvs ps c1 c2 c3 c4 => ?_
    have hD : (s.heap.push { cls := .type "dict", data := .dict #[] }).DictOf cx.sk s.heap.objs.size [] := Heap.DictOf.new _
    refine ⟨kvs, c1, hD, fun h' hm' sb => ?_⟩
    have keep : ∀ b o, s.heap.get? b = some o → h'.get? b = some o := fun b o e => by
      rw [sb.2 b (by rintro rfl; rw [fr] at e; cases e)]; exact push_keeps b o e
    have hk2 : kvs.length = ks.length + 1 := by have := congrArg List.length c2; simpa using this
    refine .alloc (a := s.heap.objs.size) keep fr (.obj _) ?_ t (alloc_use c4 (t.heap.fresh fr))
    refine ⟨_, hm', ?_, ?_, nm⟩
    · exact merged_rep c2 (c3 _) .nil
    · have := dictOf_len ((k :: ks).map (·.1)) ps
      simp only [List.length_map] at this
      simp only [List.length_cons] at this hl
      first | lia | omega
end
end Mine
end
section
open PySem PySem.Calls PyProof.Rows
namespace Mine
set_option autoImplicit false

section
variable {cx : Cx} {g : Gl} {fl : List Str} {mg mb : Str → Option Value} {n : Nat}

theorem St.ns_g {F : Fm} {m : Loc} {H : AHeap} {h : Heap} {a : Addr} {mm : Str → Option Value} (t : St cx F m H h) (x : cx.B.Ns a mm) : h.Ns a mm := x.keeps t.base

theorem glob_ok {F : Fm} {kd : Kd} {q : Bool} {m : Loc} {H : AHeap} {s : Shared} {x : Str} {p : Pos} {v : Value} {QQ : Value → Shared → Prop} {E : Value → Shared → Prop} (fo : Fok cx n q kd F) (gk : isGlob kd x = true) (t : St cx F m H s.heap) (gns : cx.B.Ns cx.ga mg)
    (hv : mg x = some v) (hQ : QQ v s) : wpAny cx.M F.A (eval (.Name x p) F.env) QQ E s := by
  unfold isGlob at gk
  simp only [Bool.and_eq_true, beq_iff_eq, Bool.not_eq_true'] at gk
  refine Name_function_global fo.kind (by rw [fo.kdo]; exact gk.1) ?_ gk.2
  exact loadGlobal_global (by rw [fo.glob]; exact t.ns_g gns) hv hQ
theorem bglob_ok {F : Fm} {kd : Kd} {q : Bool} {m : Loc} {H : AHeap} {s : Shared} {x : Str} {p : Pos} {v : Value} {QQ : Value → Shared → Prop} {E : Value → Shared → Prop} (fo : Fok cx n q kd F) (gk : isGlob kd x = true) (t : St cx F m H s.heap) (gns : cx.B.Ns cx.ga mg) (bns : cx.B.Ns cx.ba mb)
    (hm : mg x = none) (hv : mb x = some v) (hQ : QQ v s) : wpAny cx.M F.A (eval (.Name x p) F.env) QQ E s := by
  unfold isGlob at gk
  simp only [Bool.and_eq_true, beq_iff_eq, Bool.not_eq_true'] at gk
  refine Name_function_global fo.kind (by rw [fo.kdo]; exact gk.1) ?_ gk.2
  exact loadGlobal_builtin (by rw [fo.glob]; exact t.ns_g gns) hm (by rw [fo.bltn]; exact t.ns_g bns) hv hQ

theorem var_ok {F : Fm} {kd : Kd} {q : Bool} {m : Loc} {H : AHeap} {s : Shared} {i : Nat} {p : Pos} {Q : Post} {X : XPost} (fo : Fok cx n q kd F) (hv : F.vis i = true) (hk : isVar kd (slot F.nm i) = true) (hd : (slot F.nm i == ("__debug__" : Str)) = false) (hcd : (slot F.nm i == ("__classdict__" : Str)) = false)
    (t : St cx F m H s.heap) (h : varW (m.getD i none) Q H) : Ev (Rep cx) cx F (eval (.Name (slot F.nm i) p) F.env) m H s Q X := by
  unfold varW at h
  split at h
  · rename_i v hm
    refine wpAny_Name ?_ hd
    unfold isVar at hk
    simp only [Bool.or_eq_true, beq_iff_eq] at hk
    have cellCase : F.env.kindOf (slot F.nm i) ≠ some .local → ∀ c, F.env.cells.lookup (slot F.nm i) = some c → ∃ y, s.heap.IsCell c (some y) ∧ Rep cx s.heap y v := fun nl c hc => by
      obtain ⟨_, _, o, x, ho, hd, hv'⟩ := t.cells _ c hc
      obtain ⟨y, rfl, r⟩ := hv' i v hv rfl nl hm
      exact ⟨y, ⟨o, ho, hd⟩, r⟩
    rcases hk with (hk | hk) | hk
    · obtain ⟨o, es, ep, mc, ho, hd, ns, hv'⟩ := t.vars
      have hl : F.env.kindOf (slot F.nm i) = some .local := by rw [fo.kdo]; exact hk
      obtain ⟨x, hx, r⟩ := hv' i v hv hl hm
      exact wpAny_loadName_local fo.kind hl ns hx (.toks s.toks r t h)
    · have hl : F.env.kindOf (slot F.nm i) = some .cell := by rw [fo.kdo]; exact hk
      obtain ⟨c, hc⟩ := fo.cells _ (.inl hk)
      obtain ⟨y, hy, r⟩ := cellCase (by rw [hl]; decide) c hc
      exact wpAny_loadName_cell fo.kind hl hc hy (.toks s.toks r t h)
    · have hl : F.env.kindOf (slot F.nm i) = some .free := by rw [fo.kdo]; exact hk
      obtain ⟨c, hc⟩ := fo.cells _ (.inr hk)
      obtain ⟨y, hy, r⟩ := cellCase (by rw [hl]; decide) c hc
      exact wpAny_loadName_free fo.kind hl hc hy (.toks s.toks r t h) hcd
  · exact h.elim

noncomputable def semL (nm : List Str) (env : Env) : AEs → List (Bool × Sem Value)
  | .nil => []
  | .cons e es => (false, eval (e.toE nm) env) :: semL nm env es
theorem starEach_toEs (nm : List Str) (env : Env) : ∀ es : AEs, starEach (es.toEs nm) env = semL nm env es
  | .nil => rfl
  | .cons e es => by
    show starEach (e.toE nm :: es.toEs nm) env = _
    rw [show starEach (e.toE nm :: es.toEs nm) env = (false, eval (e.toE nm) env) :: starEach (es.toEs nm) env by cases e <;> rfl, starEach_toEs nm env es]
    rfl
theorem backTo_sem (nm : List Str) (env : Env) (pos : Pos) : ∀ es : AEs, backTo pos (semL nm env es) = semL nm env es
  | .nil => rfl
  | .cons e es => by
    have := backTo_sem nm env pos es
    unfold backTo at this ⊢
    simp only [semL, List.map_cons, this]
    rfl
theorem semL_plain (nm : List Str) (env : Env) : ∀ es : AEs, ∀ x ∈ semL nm env es, x.1 = false
  | .nil, x, h => by simp [semL] at h
  | .cons e es, x, h => by
    rcases List.mem_cons.mp h with rfl | h
    · rfl
    · exact semL_plain nm env es x h
theorem len_toEs (nm : List Str) : ∀ es : AEs, (es.toEs nm).length = es.len
  | .nil => rfl
  | .cons e es => by simp [AEs.toEs, AEs.len, len_toEs nm es]
theorem folded_ok (nm : List Str) (env : Env) (e : AE) (x : Value) : foldedSetIterable (e.toE nm) env x = pure x := by cases e <;> rfl
theorem marked_ok (nm : List Str) (o : CmpOp) (e : AE) (t : Sem Value) : markedBehindIn o (e.toE nm) t = t := by cases e <;> rfl
theorem isTrue_plain (nm : List Str) (env : Env) (e : AE) (w : Sem Value) (h1 : ∀ x p, e ≠ .not x p) (h2 : ∀ o es p, e ≠ .bop o es p) (h3 : ∀ l o r p, e ≠ .cmp l o r p) :
    isTrue (e.toE nm) env w = (do let v ← w; standAt (e.toE nm).pos; holding [v] (truthy v)) := by
  cases e with
  | not x p => exact absurd rfl (h1 x p)
  | bop o es p => exact absurd rfl (h2 o es p)
  | cmp l o r p => exact absurd rfl (h3 l o r p)
  | _ => rfl
theorem subscripted_plain (nm : List Str) (e : AE) : ∀ o i, subscripted (e.toE nm) false o i = operate [o, i] (getItem o i) := fun _ _ => by cases e <;> rfl
theorem base_ok (nm : List Str) (env : Env) (e : AE) (a : Str) (w : Sem Value) (h : blbase e = true) : attributeBase (e.toE nm) a env w = w := by
  cases e with
  | call f es pf p =>
    cases es with
    | nil => exact nomatch (show false = true from h)
    | cons e es => rfl
  | blt b es pf p =>
    cases es with
    | nil => exact nomatch (show false = true from h)
    | cons e es => rfl
  | new es pf p => exact nomatch (show false = true from h)
  | _ => rfl
end
end Mine
end
section
open PySem PySem.Calls PyProof.Rows
namespace Mine
set_option autoImplicit false

section
variable {cx : Cx} {g : Gl} {fl : List Str} {mg mb : Str → Option Value} {n : Nat}

/-- carry a value over a later step -/
theorem Ev.two {F : Fm} {m : Loc} {H : AHeap} {s : Shared} {X : XPost} {Q : Post} {α : Type} {β : Type} {R : Heap → α → β → Prop} {QQ : β → AHeap → Prop} {t : Sem α} {f : α → Sem Value}
    (h : Ev R cx F t m H s QQ X) (k : ∀ a b s₁ H₁, R s₁.heap a b → St cx F m H₁ s₁.heap → (∀ x o, s.heap.get? x = some o → Solid o → s₁.heap.get? x = some o) → QQ b H₁ → Ev (Rep cx) cx F (f a) m H₁ s₁ Q X) (t₀ : St cx F m H s.heap) :
    Ev (Rep cx) cx F (t >>= f) m H s Q X := Ev.bind h fun a b s₁ H₁ r st kp q => k a b s₁ H₁ r st (kp.solid0 t₀.heap) q

theorem Ev.mono_rep {F : Fm} {m : Loc} {H : AHeap} {s : Shared} {X : XPost} {Q : BPost} {t : Sem Value} (h : Ev IsB cx F t m H s Q X) : Ev (Rep cx) cx F t m H s (fun v H => ∃ b, v = .bool b ∧ Q b H) X :=
  wpAny_mono h (fun _ _ ⟨b, H', r, st, k, q⟩ => ⟨.bool b, H', by subst r; exact .bool b, st, k, b, rfl, q⟩) fun _ _ e => e
theorem Ev.weaken {α β : Type} {R : Heap → α → β → Prop} {F : Fm} {m : Loc} {H : AHeap} {s : Shared} {X : XPost} {Q Q' : β → AHeap → Prop} {t : Sem α} (h : Ev R cx F t m H s Q X) (k : ∀ b H, Q b H → Q' b H) : Ev R cx F t m H s Q' X :=
  wpAny_mono h (fun _ _ ⟨b, H', r, st, kp, q⟩ => ⟨b, H', r, st, kp, k b H' q⟩) fun _ _ e => e

theorem meth_case {F : Fm} {m : Loc} {H : AHeap} {s : Shared} {Q : Post} {X : XPost} {k : Meth} {o : AE} {es : AEs} {pa p : Pos}
    (hline : (pa.endLine == p.line) = true) (hlen : es.len ≤ 3) (hb : blbase o = true)
    (ho : Ev (Rep cx) cx F (eval (o.toE F.nm) F.env) m H s (fun v H => RecvW (awpL g es (fun vs H => methW k v vs Q H) X m H) H k v) X)
    (hes : ∀ {H : AHeap} {s : Shared} {QQ : List PV → AHeap → Prop}, St cx F m H s.heap → awpL g es QQ X m H → Ev (RepLs cx es.len) cx F (spliced (semL F.nm F.env es)) m H s QQ X) :
    Ev (Rep cx) cx F (eval (.Call (.Attribute (o.toE F.nm) k.name pa) (es.toEs F.nm) [] p) F.env) m H s Q X := by
  have hst : backTo p (starEach (es.toEs F.nm) F.env) = semL F.nm F.env es := by rw [starEach_toEs, backTo_sem]
  refine wpAny_Call_method_late (trees := semL F.nm F.env es) (base_ok _ _ _ _ _ hb) ?_ hline hst ?_
  · rw [hst]
    have : (semL F.nm F.env es).all (fun x => !x.1) = true := List.all_eq_true.mpr fun x hx => by rw [semL_plain _ _ _ x hx]; rfl
    rw [this, len_toEs]
    simp only [List.length_nil, List.isEmpty_nil, if_true]
    have : decide (es.len + 0 + 0 < 30) = true := by simp; first | lia | omega
    rw [this]; rfl
  · refine wpAny_mono ho (fun ov s₁ h₁ => ?_) fun _ _ e => e
    obtain ⟨v, H₁, rv, t₁, k₁, hr⟩ := h₁
    have fin : awpL g es (fun vs H => methW k v vs Q H) X m H₁ → wpAny cx.M F.A (callWith p (.builtin k.id) [ov] (semL F.nm F.env es) []) (OkG (Rep cx) cx F m H s Q) (ErP cx F m H s X) s₁ := fun hw => by
      refine callWith_builtin ?_ ?_
      · rw [List.any_eq_false]; intro x hx; rw [semL_plain _ _ _ x hx]; decide
      · refine wpAny_mono (args_sem (semL_plain _ _ _) (hes t₁ hw) (QQ := fun a s₂ => wpAny cx.M F.A (call (.builtin k.id) ([ov] ++ a.pos) a.kw) (OkG (Rep cx) cx F m H s Q) (ErP cx F m H s X) s₂) fun vs s₂ h₂ => ?_) (fun _ _ h => h) fun _ _ e => e.older k₁
        obtain ⟨ps, H₂, rs, t₂, k₂, hm⟩ := h₂
        exact Ev.older (k₁.trans k₂) (meth_ok (rv.mono (k₂.solid0 t₁.heap)) rs.1 t₂ hm)
    cases hr with
    | list ha hk hw =>
      rename_i a xs
      obtain rfl := Rep.objI rv
      obtain ⟨items, nn, gg, _⟩ := t₁.list ha
      have e2 : ∀ b, Value.ref a = .ref b → ∃ ob, s₁.heap.get? b = some ob ∧ ob.dict = none := fun b e => by cases e; exact ⟨_, gg, rfl⟩
      cases k <;> cases hk
      · exact ⟨"list", _, PySem.F.plainAttrs_list, PySem.F.slot_list_append, PySem.F.type_list_append, ⟨_, gg, rfl⟩, e2, fin hw⟩
      · exact ⟨"list", _, PySem.F.plainAttrs_list, PySem.F.slot_list_pop, PySem.F.type_list_pop, ⟨_, gg, rfl⟩, e2, fin hw⟩
      · exact ⟨"list", _, PySem.F.plainAttrs_list, PySem.F.slot_list_insert, PySem.F.type_list_insert, ⟨_, gg, rfl⟩, e2, fin hw⟩
      · exact ⟨"list", _, PySem.F.plainAttrs_list, PySem.F.slot_list_count, PySem.F.type_list_count, ⟨_, gg, rfl⟩, e2, fin hw⟩
    | str hw =>
      obtain ⟨u, rfl⟩ := rv.strI
      exact ⟨"str", _, PySem.F.plainAttrs_str, PySem.F.slot_str_join, PySem.F.type_str_join, typeIs_str _ _ _, (fun _ e => nomatch e), fin hw⟩

variable (ck : Cok cx g fl mg mb n)
include ck

theorem call_case {F : Fm} {kd : Kd} {m : Loc} {H : AHeap} {s : Shared} {Q : Post} {X : XPost} {f : Str} {es : AEs} {pf p : Pos} (fo : Fok cx n true kd F) (t : St cx F m H s.heap)
    (hg : isGlob kd f = true) (hf : fl.contains f = true) (hnm : isMeth f = false) (hw : awpL g es (fun vs H => g.C f vs H Q X) X m H)
    (hes : ∀ {H : AHeap} {s : Shared} {QQ : List PV → AHeap → Prop}, St cx F m H s.heap → awpL g es QQ X m H → Ev (RepLs cx es.len) cx F (spliced (semL F.nm F.env es)) m H s QQ X) :
    Ev (Rep cx) cx F (eval (.Call (.Name f pf) (es.toEs F.nm) [] p) F.env) m H s Q X := by
  obtain ⟨a, o, fd, hm, ho, hd, _⟩ := ck.fns f hf
  unfold Ev
  rw [arm_eval_Call_Name', starEach_toEs, backTo_sem]
  refine wpAny_bind (glob_ok fo hg t ck.gns ((fad_glob hnm).symm.trans hm) ?_)
  refine callWith_function (o := o) (fd := fd) (first := []) ?_
  refine args_sem (semL_plain _ _ _) (hes t hw) fun vs s₂ h₂ => ?_
  obtain ⟨ps, H₂, rs, t₂, k₂, hc⟩ := h₂
  exact ⟨⟨t₂.base _ _ ho, hd⟩, Ev.older k₂ (ck.calls f hf hc fo.fcl hm rs.1 t₂)⟩

theorem blt_case {F : Fm} {kd : Kd} {q : Bool} {m : Loc} {H : AHeap} {s : Shared} {Q : Post} {X : XPost} {b : Blt} {es : AEs} {pf p : Pos} (fo : Fok cx n q kd F) (t : St cx F m H s.heap) (hh : F.A.handled = none)
    (hg : isGlob kd b.name = true) (hw : awpL g es (fun vs H => bltW b vs Q H) X m H)
    (hes : ∀ {H : AHeap} {s : Shared} {QQ : List PV → AHeap → Prop}, St cx F m H s.heap → awpL g es QQ X m H → Ev (RepLs cx es.len) cx F (spliced (semL F.nm F.env es)) m H s QQ X) :
    Ev (Rep cx) cx F (eval (.Call (.Name b.name pf) (es.toEs F.nm) [] p) F.env) m H s Q X := by
  obtain ⟨h1, h2⟩ := ck.blts b
  unfold Ev
  rw [arm_eval_Call_Name', starEach_toEs, backTo_sem]
  refine wpAny_bind (bglob_ok fo hg t ck.gns ck.bns h1 h2 ?_)
  have hany : (semL F.nm F.env es).any (·.1) = false := by rw [List.any_eq_false]; intro x hx; rw [semL_plain _ _ _ x hx]; decide
  have key : ∀ {f : Value}, f = b.val → wpAny cx.M F.A (evalArgs f true (semL F.nm F.env es) []) (fun a s₁ => wpAny cx.M F.A (call f ([] ++ a.pos) a.kw) (OkG (Rep cx) cx F m H s Q) (ErP cx F m H s X) s₁) (ErP cx F m H s X) s := by
    rintro f rfl
    refine args_sem (semL_plain _ _ _) (hes t hw) fun vs s₂ h₂ => ?_
    obtain ⟨ps, H₂, rs, t₂, k₂, hc⟩ := h₂
    exact Ev.older k₂ (blt_ok hh rs.1 t₂ hc)
  have hk := key rfl
  have hb : (∃ id, b.val = .builtin id) ∨ ∃ T, b.val = .type T := by cases b <;> first | exact .inl ⟨_, rfl⟩ | exact .inr ⟨_, rfl⟩
  generalize b.val = f at hk hb ⊢
  rcases hb with ⟨id, rfl⟩ | ⟨T, rfl⟩
  · exact callWith_builtin hany hk
  · exact PySem.callWith_type hany hk
end
end Mine
end
section
open PySem PySem.Calls PyProof.Rows
namespace Mine
set_option autoImplicit false

theorem lk_atns : ∀ k ∈ atns, typeLookup (.type "object") k = pure none := by
  intro k hk
  rcases List.mem_cons.mp hk with rfl | hk
  · rw [typeLookup_type, builtinLookup_eq_fast]; kernel_rfl
  rcases List.mem_cons.mp hk with rfl | hk
  · rw [typeLookup_type, builtinLookup_eq_fast]; kernel_rfl
  rw [List.mem_singleton.mp hk, typeLookup_type, builtinLookup_eq_fast]; kernel_rfl
theorem lk_mtab : ∀ p ∈ mtab, ∃ y, typeLookup (.type "object") p.1 = pure y := by
  intro p hp
  exact ⟨_, typeLookup_type ..⟩
theorem fad_meth {cx : Cx} {mg : Str → Option Value} : ∀ p ∈ mtab, fad cx mg p.2 = cx.mN p.1 := by
  intro p hp
  rcases List.mem_cons.mp hp with rfl | hp
  · rfl
  rcases List.mem_cons.mp hp with rfl | hp
  · rfl
  rcases List.mem_cons.mp hp with rfl | hp
  · rfl
  rcases List.mem_cons.mp hp with rfl | hp
  · rfl
  rw [List.mem_singleton.mp hp]; rfl
theorem isMeth_of {p : Str × Str} (h : p ∈ mtab) : isMeth p.2 = true := List.any_eq_true.mpr ⟨p, h, beq_self_eq_true _⟩
section
variable {cx : Cx} {g : Gl} {fl : List Str} {mg mb : Str → Option Value} {n : Nat} (ck : Cok cx g fl mg mb n) {F : Fm} {m : Loc} {H : AHeap} {s : Shared} {Q : Post} {X : XPost}

theorem Rep.handed {h : Heap} {v : Value} {p : PV} (r : Rep cx h v p) : handedOut v = pure v := by cases r <;> rfl
theorem St.around {A A' : Around} {env : Env} {fs : List Env} {nm : List Str} {vis : Nat → Bool} {h : Heap} (t : St cx ⟨A, env, fs, nm, vis⟩ m H h) : St cx ⟨A', env, fs, nm, vis⟩ m H h := ⟨t.base, t.off, t.heap, t.frames, t.own, (let ⟨o, es, ep, mc, a, b, c, d⟩ := t.vars; ⟨o, es, ep, mc, a, b, c, d⟩), fun n c h => let ⟨a, b, o, x, d, e, f⟩ := t.cells n c h; ⟨a, b, o, x, d, e, f⟩⟩
theorem dget_dset {α : Type} {es : List (Str × α)} {k : Str} {v : α} (x : Str) : dget (dset es k v) x = if x = k then some v else dget es x := by
  unfold dset
  split
  · rename_i h
    induction es with
    | nil => simp at h
    | cons p es ih =>
      unfold dget
      rw [List.map_cons, List.find?_cons]
      by_cases hp : p.1 = k
      · simp only [hp, if_true]
        by_cases hx : x = k
        · subst hx; simp
        · have hx' : ¬ (k = x) := fun e => hx e.symm
          simp only [hx', decide_false, hx, if_false]
          rw [List.find?_cons]
          simp only [hp, hx', decide_false]
          by_cases ha : es.any (fun p => decide (p.1 = k)) = true
          · have := ih ha
            unfold dget at this
            rw [if_neg hx] at this
            exact this
          · have hm : es.map (fun p => if p.1 = k then (p.1, v) else p) = es := by
              conv => rhs; rw [← List.map_id es]
              refine List.map_congr_left fun q hq => ?_
              rw [if_neg fun e => ha (List.any_eq_true.mpr ⟨q, hq, by simp [e]⟩)]; rfl
            rw [hm]
      · simp only [hp, if_false]
        rw [List.any_cons] at h
        simp only [hp, decide_false, Bool.false_or] at h
        have := ih h
        unfold dget at this
        rw [List.find?_cons]
        by_cases hx : p.1 = x
        · have hxk : x ≠ k := fun e => hp (hx.trans e)
          simp [hx, hxk]
        · simp only [hx, decide_false]
          exact this
  · rename_i h
    unfold dget
    rw [List.find?_append]
    by_cases hx : x = k
    · subst hx
      have : es.find? (fun p => decide (p.1 = x)) = none := by
        rw [List.find?_eq_none]
        intro p hp
        simp only [decide_eq_true_eq]
        intro e
        exact h (List.any_eq_true.mpr ⟨p, hp, by simp [e]⟩)
      rw [this]; simp
    · have hx' : ¬ (k = x) := fun e => hx e.symm
      simp [hx, hx']
include ck
theorem inst_at {a d : Addr} {kvs : List (Str × PV)} (t : St cx F m H s.heap) (ha : H a = some (.inst d)) (hd : H d = some (.attrs kvs)) : ∃ C N mA, ClsAt s.heap C N cx.mN ∧ s.heap.InstFk a C mA ∧ (∀ x ∈ (["__getattribute__", "__getattr__", "__setattr__"] : List Str) ++ atns, cx.mN x = none)
    ∧ (∀ x p, dget kvs x = some p → ∃ v, mA x = some v ∧ Rep cx s.heap v p) ∧ (∀ x, dget kvs x = none → mA x = none) := by
  obtain ⟨C, N, hC, _, hcl, hid⟩ := ck.mach
  obtain ⟨C', o, hC', go, hc, hdd, hnc⟩ := t.heap a _ ha
  rw [hC] at hC'; cases hC'
  obtain ⟨mA, n1, ed, f, n, l⟩ := t.heap d _ hd
  have hne : d ≠ a := by rintro rfl; rw [ha] at hd; cases hd
  exact ⟨C, N, mA, hcl.keeps t.base, ⟨o, go, hc, hnc, .inr ⟨d, hdd, hne, n1, ed⟩⟩, hid, f, n⟩

theorem attr_ok {v : Value} {p : PV} {k : Str} (hk : k ∈ atns) (rv : Rep cx s.heap v p) (t : St cx F m H s.heap) (h : AttrW Q H k p) : Ev (Rep cx) cx F (getAttr v k true) m H s Q X := by
  cases h with
  | mk ha hd e h =>
    obtain rfl := Rep.objI rv
    obtain ⟨C, N, mA, hcl, I, hid, f, _⟩ := inst_at ck t ha hd
    obtain ⟨nm, q, bs, sn, sub, col, dd, k0, k1, k2, k3, k5, hC⟩ := hcl.obj
    obtain ⟨v, hv, rv⟩ := f _ _ e
    exact load_attrFk hC hcl.ns (hid _ (List.mem_append.mpr (.inl (by decide)))) (hid _ (List.mem_append.mpr (.inr hk))) (lk_atns k hk) I hv rv.handed (.toks _ rv t h)

theorem attr_case {o : AE} {k : Str} {p : Pos} (hb : blbase o = true) (hk : k ∈ atns) (ho : Ev (Rep cx) cx F (eval (o.toE F.nm) F.env) m H s (fun v H => AttrW Q H k v) X) :
    Ev (Rep cx) cx F (eval (.Attribute (o.toE F.nm) k p) F.env) m H s Q X := by
  unfold Ev
  rw [arm_eval_Attribute, base_ok _ _ _ _ _ hb]
  refine wpAny_bind (wpAny_mono ho (fun ov s₁ h₁ => ?_) fun _ _ e => e)
  obtain ⟨v, H₁, rv, t₁, k₁, hw⟩ := h₁
  exact wpAny_bind (wpAny_standAt (wpAny_bind (wpAny_holding (wpAny_mono (attr_ok ck hk rv t₁ hw) (fun r s₂ h₂ => wpAny_bind (wpAny_letTemporaryGo (wpAny_pure (h₂.older k₁)))) fun _ _ e => e.older k₁))))

theorem sattr_ok {v x : Value} {p y : PV} {k : Str} {K : AHeap → Prop} (hk : k ∈ atns) (rv : Rep cx s.heap v p) (rx : Rep cx s.heap x y) (t : St cx F m H s.heap) (h : SattrW K H k y p) :
    Ev (fun _ (_ : Unit) (_ : Unit) => True) cx F (setAttr v k x) m H s (fun _ H => K H) X := by
  cases h with
  | @mk a d kvs ha hd l h =>
    obtain rfl := Rep.objI rv
    obtain ⟨C, N, mA, hcl, I, hid, f, hno⟩ := inst_at ck t ha hd
    obtain ⟨nm, q, bs, sn, sub, col, dd, k0, k1, k2, k3, k5, hC⟩ := hcl.obj
    obtain ⟨C', o, hC', go, hc, hdd, hnc⟩ := t.heap a _ ha
    have hxC : a ≠ C := by
      rintro rfl
      rw [go] at hC
      cases hC
      exact hnc _ rfl
    have hda : a ≠ d := by rintro rfl; rw [ha] at hd; cases hd
    have hin : PySem.Within mA (kvs.map Prod.fst) := fun y hy => by
      cases hq : dget kvs y with
      | none => exact absurd (hno y hq) hy
      | some p =>
        unfold dget at hq
        obtain ⟨z, hz, _⟩ := Option.map_eq_some_iff.mp hq
        have h1 := List.find?_some hz
        exact List.mem_map.mpr ⟨z, List.mem_of_find?_eq_some hz, of_decide_eq_true h1⟩
    refine store_attrFk (ns := kvs.map Prod.fst) PySem.F.store_object hC hcl.ns (hid _ (List.mem_append.mpr (.inl (by decide)))) (hid _ (List.mem_append.mpr (.inr hk))) (lk_atns k hk) hxC I (fun h' tk I' hkeep hsame => ?_) hin (by rw [List.length_map, sizeLine_eq]; (first | lia | omega))
    have g : ∀ b o, b ≠ d → s.heap.get? b = some o → h'.get? b = some o := fun b o₂ hb e => by
      by_cases hba : b = a
      · subst hba
        rw [go] at e; cases e
        obtain ⟨o₁, e1, c1, c2, c3, c4⟩ := hsame o go
        have : o₁ = o := by
          obtain ⟨a1, a2, a3, a4⟩ := o₁
          obtain ⟨b1, b2, b3, b4⟩ := o
          have := c4 d hdd
          simp only at c1 c2 c3 this hdd
          subst c1 c2 c3
          rw [this, hdd]
        rw [e1, this]
      · exact hkeep b o₂ hba (fun o₀ dx g0 d0 => by rw [go] at g0; cases g0; rw [hdd] at d0; cases d0; exact hb) e
    have so : ∀ b o, s.heap.get? b = some o → Solid o → h'.get? b = some o := fun b o e so => g b o (by
      rintro rfl
      obtain ⟨ob, e', n, _⟩ := (t.heap _ _ hd).get; rw [e] at e'; cases e'; exact n so) e
    obtain ⟨o', go', _, _, hd'⟩ := I'
    rw [g a o hda go] at go'
    cases go'
    rcases hd' with ⟨q, _⟩ | ⟨d', q, _, n1', ed'⟩
    · rw [hdd] at q; cases q
    rw [hdd] at q; cases q
    have ro : RepO cx h' d (.attrs (dset kvs k y)) := by
      refine ⟨_, n1', ed', fun z p e => ?_, fun z e => ?_, Nat.le_trans (dset_length_le ..) l⟩
      · rw [dget_dset] at e
        by_cases hz : z = k
        · rw [if_pos hz] at e; cases e; exact ⟨x, if_pos hz, rx.mono so⟩
        · rw [if_neg hz] at e
          obtain ⟨v, hv, r⟩ := f z p e
          exact ⟨v, (if_neg hz).trans hv, r.mono so⟩
      · rw [dget_dset] at e
        by_cases hz : z = k
        · rw [if_pos hz] at e; cases e
        · rw [if_neg hz] at e
          exact (if_neg hz).trans (hno z e)
    exact .put (b := ()) hd g trivial ro t (mutate_use h)

theorem umeth_case {kd : Kd} {k c : Str} {o : AE} {es : AEs} {pa p : Pos} (fo : Fok cx n true kd F)
    (hline : (pa.endLine == p.line) = true) (hlen : es.len ≤ 3) (hb : blbase o = true) (hf : fl.contains c = true) (hm : mtab.lookup k = some c)
    (ho : Ev (Rep cx) cx F (eval (o.toE F.nm) F.env) m H s (fun v H => UmW (awpL g es (fun vs H => g.C c (v :: vs) H Q X) X m H) H k v) X)
    (hes : ∀ {H : AHeap} {s : Shared} {QQ : List PV → AHeap → Prop}, St cx F m H s.heap → awpL g es QQ X m H → Ev (RepLs cx es.len) cx F (spliced (semL F.nm F.env es)) m H s QQ X) :
    Ev (Rep cx) cx F (eval (.Call (.Attribute (o.toE F.nm) k pa) (es.toEs F.nm) [] p) F.env) m H s Q X := by
  have hst : backTo p (starEach (es.toEs F.nm) F.env) = semL F.nm F.env es := by rw [starEach_toEs, backTo_sem]
  unfold Ev
  rw [arm_eval_Call, base_ok _ _ _ _ _ hb, hst]
  refine wpAny_bind (wpAny_mono ho (fun ov s₁ h₁ => ?_) fun _ _ e => e)
  obtain ⟨v, H₁, rv, t₁, k₁, hw⟩ := h₁
  refine wpAny_bind (wpAny_standAt ?_)
  have hform : methodCallForm ((es.toEs F.nm).length + ([] : List Keyword).length) (semL F.nm F.env es) (backToKw p (keywordEach [] F.env)) = true := by
    show ((semL F.nm F.env es).all (fun x => !x.1) && (backToKw p (keywordEach [] F.env)).all (fun x => x.1.isSome) && decide ((es.toEs F.nm).length + ([] : List Keyword).length + (if ([] : List Keyword).isEmpty then 0 else 1) < 30)) = true
    have : (semL F.nm F.env es).all (fun x => !x.1) = true := List.all_eq_true.mpr fun x hx => by rw [semL_plain _ _ _ x hx]; rfl
    rw [this, len_toEs]
    simp only [List.length_nil, List.isEmpty_nil, if_true]
    have : decide (es.len + 0 + 0 < 30) = true := by simp; first | lia | omega
    rw [this]; rfl
  have hpos : methodCallPos true (o.toE F.nm) F.env pa p = pure p := by unfold methodCallPos; simp [hline]
  unfold methodCall
  rw [hform]
  obtain ⟨fa, oo, fd, hfa, hfo, hfd, hfc⟩ := ck.fns c hf
  have hmm := mem_of_lookup hm
  have hmn : cx.mN k = some (.ref fa) := (fad_meth (cx := cx) (mg := mg) (k, c) hmm).symm.trans hfa
  obtain ⟨y, hy⟩ := lk_mtab (k, c) hmm
  cases hw with
  | @mk a d kvs ha hd he hw =>
    obtain rfl := Rep.objI rv
    obtain ⟨C, N, mA, hcl, I, hid, f, hno⟩ := inst_at ck t₁ ha hd
    obtain ⟨nm, q, bs, sn, sub, col, dd, k0, k1, k2, k3, k5, hC⟩ := hcl.obj
    refine wpAny_bind (wpAny_holding (method_ofFk hC hcl.ns (hid _ (List.mem_append.mpr (.inl (by decide)))) (hid _ (List.mem_append.mpr (.inl (by decide)))) hmn (t₁.base _ _ hfo) (hfc (isMeth_of (p := (k, c)) hmm)) hy I (hno _ he) ?_))
    refine wpAny_bind (wpAny_of_eq hpos ?_)
    refine callWith_function (o := oo) (fd := fd) (first := [.ref a]) ?_
    refine wpAny_mono (args_sem (semL_plain _ _ _) (hes t₁ hw) (QQ := fun x s₂ => (s₂.heap.get? fa = some oo ∧ oo.data = .func fd) ∧ wpAny cx.M F.A (call (.ref fa) ([.ref a] ++ x.pos) x.kw) (OkG (Rep cx) cx F m H s Q) (ErP cx F m H s X) s₂) fun vs s₂ h₂ => ?_) (fun _ _ h => h) fun _ _ e => e.older k₁
    obtain ⟨ps, H₂, rs, t₂, k₂, hc⟩ := h₂
    exact ⟨⟨t₂.base _ _ hfo, hfd⟩, Ev.older (k₁.trans k₂) (ck.calls c hf hc fo.fcl hfa (.cons (.obj a) rs.1) t₂)⟩

theorem new_case {kd : Kd} {es : AEs} {pf p : Pos} (fo : Fok cx n true kd F) (t : St cx F m H s.heap) (hg : isGlob kd "Machine" = true) (hf : fl.contains "Machine.__init__" = true) (hne : 0 < es.len)
    (hw : awpL g es (fun vs H => newW g vs Q X H) X m H)
    (hes : ∀ {H : AHeap} {s : Shared} {QQ : List PV → AHeap → Prop}, St cx F m H s.heap → awpL g es QQ X m H → Ev (RepLs cx es.len) cx F (spliced (semL F.nm F.env es)) m H s QQ X) :
    Ev (Rep cx) cx F (eval (.Call (.Name "Machine" pf) (es.toEs F.nm) [] p) F.env) m H s Q X := by
  obtain ⟨C, N, hC, hmg, hcl, hid⟩ := ck.mach
  obtain ⟨fa, oo, fd, hfa, hfo, hfd, hfc⟩ := ck.fns _ hf
  have hst : backTo p (starEach (es.toEs F.nm) F.env) = semL F.nm F.env es := by rw [starEach_toEs, backTo_sem]
  unfold Ev
  rw [arm_eval_Call_Name']
  refine wpAny_bind (glob_ok fo hg t ck.gns hmg ?_)
  cases es with
  | nil => exact absurd hne (by decide)
  | cons e es =>
  refine callWith_cls (h₀ := cx.B) (C := C) (N := N) (mN := cx.mN) (e := e.toE F.nm) (rest := es.toEs F.nm) hcl ?_ ?_ ?_
  · show wpAny _ _ (spliced (backTo p (starEach ((AEs.cons e es).toEs F.nm) F.env))) _ _ _
    rw [hst]
    refine wpAny_mono (hes t hw) (fun vs s₂ h₂ => ?_) fun _ _ e => e
    obtain ⟨ps, H₂, rs, t₂, k₂, hn⟩ := h₂
    refine ⟨t₂.base, ?_⟩
    obtain ⟨nm, q, bs, sn, sub, col, dd, k0, k1, k2, k3, k5, hCo⟩ := (hcl.keeps t₂.base).obj
    refine wpAny_call_obj_initFk PySem.F.objNew hCo (hcl.keeps t₂.base).ns hfa (t₂.base _ _ hfo) (hfc rfl) fun h' x dx Mk => ?_
    obtain ⟨o, go, hc, hnc, hd⟩ := Mk.inst
    have hod := Mk.dict o go
    rcases hd with ⟨q, _⟩ | ⟨d', q, hdx, n1, ed⟩
    · rw [hod] at q; cases q
    rw [hod] at q; cases q
    have fx := t₂.heap.fresh Mk.newX
    have fd' := t₂.heap.fresh Mk.newD
    have ro1 : RepO cx h' dx (.attrs []) := ⟨_, n1, ed, fun _ _ e => (nomatch e), fun _ _ => rfl, Nat.zero_le _⟩
    have ro2 : RepO cx h' x (.inst dx) := ⟨C, o, hC, go, hc, hod, hnc⟩
    have hh1 : Holds cx h' (upd H₂ dx (.attrs [])) := t₂.heap.put (fun b ob _ e => Mk.keeps b ob e) (fun o e => by rw [Mk.newD] at e; cases e) ro1
    have hh2 : Holds cx h' (upd (upd H₂ dx (.attrs [])) x (.inst dx)) := hh1.put (fun _ _ _ e => e) (fun o' e => by
      obtain ⟨ob, e', ns, _⟩ := ro2.get; rw [e] at e'; cases e'; exact ns) ro2
    have k₃ : Kp cx [] H₂ s₂ (upd (upd H₂ dx (.attrs [])) x (.inst dx)) { s₂ with heap := h' } := .grow (tk := s₂.toks) Mk.keeps fun b ob e hb => by
      rw [upd_ne (by rintro rfl; rw [Mk.newX] at e; cases e), upd_ne (by rintro rfl; rw [Mk.newD] at e; cases e)]; exact hb
    have t₃ := t₂.step k₃ hh2
    have hx := upd_self (upd H₂ dx (.attrs [])) x (.inst dx)
    have hdx' : upd (upd H₂ dx (.attrs [])) x (.inst dx) dx = some (.attrs []) := by rw [upd_ne hdx, upd_self]
    have ex : Ext H₂ (upd (upd H₂ dx (.attrs [])) x (.inst dx)) := fun b ob e => upd_ext (by rw [upd_ne (Ne.symm hdx)]; exact fx) b ob (upd_ext fd' b ob e)
    have hcall := ck.calls _ hf (hn x dx _ fx fd' hx hdx' ex) (F := { F with A := F.A.under (.builtin "type.__call__" ⟨.ref C :: vs, []⟩) }) ⟨fo.fr, fo.quiet rfl, by show F.A.depth + 1 + 2 * n ≤ 900; have := fo.depth; (first | lia | omega), by show F.A.units + 1 + 8 * n + 200 ≤ cLine; have := fo.units; (first | lia | omega)⟩ hfa (.cons (.obj x) (rs.1.mono fun b o e _ => Mk.keeps b o e)) t₃.around
    refine wpAny_mono hcall (fun r s' h' => ?_) fun e s' h' => ?_
    · obtain ⟨pr, H', rr, t', k', rfl, hq⟩ := h'
      exact ⟨Rep.noneI rr, .obj x, H', .obj x, t'.around, (k₂.trans k₃).trans k', hq⟩
    · obtain ⟨e, c, H', rfl, x', t', k', hq⟩ := h'
      exact ErP.older (k₂.trans k₃) ⟨e, c, H', rfl, x', t'.around, k', hq⟩
  · have h1 := starEach_toEs F.nm F.env (.cons e es)
    have h2 := starEach_toEs F.nm F.env es
    rw [h2]; exact h1
  · rw [starEach_toEs, backTo_sem, List.any_eq_false]
    intro x hx
    rw [semL_plain _ _ _ x hx]; decide
end
end Mine
end
section
open PySem PySem.Calls PyProof.Rows
namespace Mine
set_option autoImplicit false
set_option linter.unusedSectionVars false
set_option linter.unusedVariables false

section
variable {cx : Cx} {g : Gl} {fl : List Str} {mg mb : Str → Option Value} {n : Nat}
variable (ck : Cok cx g fl mg mb n)

theorem tup_made {F : Fm} {m : Loc} {H : AHeap} {s : Shared} {vs : List Value} {ps : List PV} {Q : Post} {X : XPost} (r : RepL cx s.heap vs ps) (l : ps.length ≤ LIM) (t : St cx F m H s.heap) (h : Q (.tup ps) H) : Ev (Rep cx) cx F (newTuple vs) m H s Q X := by
  have hl := r.length
  have := LIM_le
  refine wpAny_newTuple ?_ (by first | lia | omega)
  exact new_tup (tk := s.toks) (c := 0) t push_keeps (Heap.get?_push_size _ rfl) (by simpa using r) l h
theorem list_made {F : Fm} {m : Loc} {H : AHeap} {s : Shared} {vs : List Value} {ps : List PV} {Q : Post} {X : XPost} (r : RepL cx s.heap vs ps) (l : ps.length ≤ LIM) (t : St cx F m H s.heap) (h : alloc (.list ps) Q H) : Ev (Rep cx) cx F (newList vs) m H s Q X := by
  have hl := r.length
  have := LIM_le
  refine wpAny_newList ?_ (by first | lia | omega)
  exact new_list (tk := s.toks) (c := 0) t push_keeps (get_size_none _) (Heap.get?_push_size _ rfl) (by simpa using r) l h

theorem truth_ok {F : Fm} {m : Loc} {H : AHeap} {s : Shared} {v : Value} {p : PV} {Q : BPost} {X : XPost} (r : Rep cx s.heap v p) (t : St cx F m H s.heap) (h : truthW p fun b => Q b H) : Ev IsBB cx F (truthy v) m H s Q X := by
  unfold truthW at h
  split at h
  · (first | (obtain ⟨_, rfl⟩ := Rep.intI r) | (obtain ⟨_, rfl⟩ := Rep.strI r) | (obtain rfl := Rep.objI r) | (obtain rfl := Rep.boolI r) | (obtain rfl := Rep.noneI r)); exact wpAny_truthy_bool (.toks s.toks rfl t h)
  · exact h.elim
theorem neg_ok {F : Fm} {m : Loc} {H : AHeap} {s : Shared} {i : Int} {u : Tok} {Q : Post} {X : XPost} (t : St cx F m H s.heap) (h : Q (.int (-i)) H) : Ev (Rep cx) cx F (unaryOp .USub (.int i u)) m H s Q X :=
  PyProof.Rows.neg_int (.toks _ (.int _ _) t h)
theorem not_ok {F : Fm} {m : Loc} {H : AHeap} {s : Shared} {b : Bool} {Q : Post} {X : XPost} (t : St cx F m H s.heap) (h : Q (.bool (!b)) H) : Ev (Rep cx) cx F (unaryOp .Not (.bool b)) m H s Q X :=
  PyProof.Rows.not_of (wpAny_truthy_bool (.toks s.toks (.bool _) t h))
theorem soundW {F : Fm} {m : Loc} {H : AHeap} {s : Shared} {Q : BPost} {X : XPost} (e : AE) (h1 : ∀ x p, e ≠ .not x p) (h2 : ∀ o es p, e ≠ .bop o es p) (h3 : ∀ l o r p, e ≠ .cmp l o r p)
    (h : Ev (Rep cx) cx F (eval (e.toE F.nm) F.env) m H s (fun v H => truthW v fun b => Q b H) X) : Ev IsBB cx F (isTrue (e.toE F.nm) F.env (eval (e.toE F.nm) F.env)) m H s Q X := by
  rw [isTrue_plain _ _ _ _ h1 h2 h3]
  exact Ev.bind h fun a pa s₁ H₁ ra t₁ k₁ h₁ => Ev.stand (Ev.holding (truth_ok ra t₁ h₁))

theorem m1_ok {F : Fm} {m : Loc} {H : AHeap} {s : Shared} {Q : Post} {X : XPost} {c cu : Pos} (t : St cx F m H s.heap) (h : Q (.int (-1)) H) : Ev (Rep cx) cx F (eval (.UnaryOp .USub (.Constant (.int 1) 0 c) cu) F.env) m H s Q X := by
  refine Ev.two (Q := Q) (QQ := fun v H => v = .int 1 ∧ Q (.int (-1)) H) (lit_ok (cx := cx) (c := .int 1) rfl fun x tk r => .toks tk (r _) t ⟨rfl, h⟩) (fun a pa s₁ H₁ ra t₁ _ h₁ => ?_) t
  obtain ⟨rfl, h₁⟩ := h₁
  refine Ev.stand (Ev.holding ?_)
  obtain ⟨u, rfl⟩ := ra.intI
  exact neg_ok t₁ h₁
noncomputable def evalEachL (nm : List Str) (env : Env) : AEs → List (Sem Value)
  | .nil => []
  | .cons e es => eval (e.toE nm) env :: evalEachL nm env es
theorem evalEach_toEs (nm : List Str) (env : Env) : ∀ es : AEs, evalEach (es.toEs nm) env = evalEachL nm env es
  | .nil => rfl
  | .cons e es => by
    show eval (e.toE nm) env :: evalEach (es.toEs nm) env = _
    rw [evalEach_toEs nm env es]; rfl

include ck
theorem ist_case {F : Fm} {kd : Kd} {q : Bool} {m : Loc} {H : AHeap} {s : Shared} {p1 p2 p3 : Pos} {QQ : List Value → Shared → Prop} {E : Value → Shared → Prop} (fo : Fok cx n q kd F) (hc : iclsOk kd .intstr = true) (t : St cx F m H s.heap)
    (h : ∀ tp h', h'.get? tp = some ⟨.type "tuple", none, .seq [Value.type "int", .type "str"].toArray 0, #[]⟩ → (∀ b o, s.heap.get? b = some o → h'.get? b = some o) → QQ [.ref tp] { s with heap := h' }) : wpAny cx.M F.A (spliced [(false, eval (ICls.intstr.expr p1 p2 p3) F.env)]) QQ E s := by
  have hc' : isGlob kd "int" = true ∧ isGlob kd "str" = true := Bool.and_eq_true_iff.mp hc
  have h1 := ck.bty "int" (by decide)
  have h2 := ck.bty "str" (by decide)
  refine spliced_cons (wpAny_Tuple ?_)
  show wpAny cx.M F.A (spliced [(false, eval (.Name "int" p2) F.env), (false, eval (.Name "str" p3) F.env)]) _ _ s
  refine spliced_cons (bglob_ok fo hc'.1 t ck.gns ck.bns h1.1 h1.2 (spliced_cons (bglob_ok fo hc'.2 t ck.gns ck.bns h2.1 h2.2 (spliced_nil ⟨by decide, spliced_nil (h _ _ (Heap.get?_push_size _ rfl) push_keeps)⟩))))
theorem isi_case {F : Fm} {kd : Kd} {q : Bool} {m : Loc} {H : AHeap} {s : Shared} {Q : Post} {X : XPost} {e : AE} {c : ICls} {pf p1 p2 p3 p : Pos} (fo : Fok cx n q kd F) (hi : isGlob kd "isinstance" = true) (hc : iclsOk kd c = true) (t : St cx F m H s.heap)
    (h : Ev (Rep cx) cx F (eval (e.toE F.nm) F.env) m H s (fun v H => isiW c v (fun b => Q (.bool b) H) H) X) : Ev (Rep cx) cx F (eval ((AE.isi e c pf p1 p2 p3 p).toE F.nm) F.env) m H s Q X := by
  have hst : starEach [e.toE F.nm, c.expr p1 p2 p3] F.env = [(false, eval (e.toE F.nm) F.env), (false, eval (c.expr p1 p2 p3) F.env)] := by
    have h1 : ∀ r, starEach (e.toE F.nm :: r) F.env = (false, eval (e.toE F.nm) F.env) :: starEach r F.env := fun r => by cases e <;> rfl
    rw [h1]
    cases c <;> rfl
  show wpAny cx.M F.A (eval (.Call (.Name "isinstance" pf) [e.toE F.nm, c.expr p1 p2 p3] [] p) F.env) _ _ s
  rw [arm_eval_Call_Name', hst]
  refine wpAny_bind (bglob_ok fo hi t ck.gns ck.bns ck.isi.1 ck.isi.2 ?_)
  refine callWith_builtin rfl (evalArgs_plain (spliced_cons (wpAny_mono h (fun v s₁ h₁ => ?_) fun _ _ e => e)))
  obtain ⟨pv, H₁, rv, t₁, k₁, h₁⟩ := h₁
  have bt : ∀ (T : String), T ∈ ["str", "list", "tuple", "bool", "int", "ValueError"] → isGlob kd (Str.ofString T) = true → Ev (Rep cx) cx F (call (.builtin "isinstance") [v, .type T]) m H₁ s₁ Q X →
      wpAny cx.M F.A (spliced [(false, eval (.Name (Str.ofString T) p1) F.env)]) (fun vs s₂ => wpAny cx.M F.A (call (.builtin "isinstance") ([] ++ v :: vs) []) (OkG (Rep cx) cx F m H s Q) (ErP cx F m H s X) s₂) (ErP cx F m H s X) s₁ := fun T hT hg hw =>
    spliced_cons (bglob_ok fo hg t₁ ck.gns ck.bns (ck.bty T hT).1 (ck.bty T hT).2 (spliced_nil (Ev.older k₁ hw)))
  have bas : c.basic = true → (∀ T, c.T = some T → Ev (Rep cx) cx F (call (.builtin "isinstance") [v, .type T]) m H₁ s₁ Q X) →
      wpAny cx.M F.A (spliced [(false, eval (c.expr p1 p2 p3) F.env)]) (fun vs s₂ => wpAny cx.M F.A (call (.builtin "isinstance") ([] ++ v :: vs) []) (OkG (Rep cx) cx F m H s Q) (ErP cx F m H s X) s₂) (ErP cx F m H s X) s₁ := fun hb hT => by
    cases c <;> cases hb
    · exact bt "str" (by decide) hc (hT _ rfl)
    · exact bt "list" (by decide) hc (hT _ rfl)
    · exact bt "tuple" (by decide) hc (hT _ rfl)
    · exact bt "bool" (by decide) hc (hT _ rfl)
    · exact bt "int" (by decide) hc (hT _ rfl)
  cases isiW_to h₁ with
  | val b e q => exact bas b fun T hT => isi_val hT rv t₁ e q
  | list b ha q => obtain rfl := Rep.objI rv; exact bas b fun T hT => isi_list hT t₁ ha q
  | isI q =>
    obtain ⟨u, rfl⟩ := rv.intI
    exact ist_case ck fo hc t₁ fun tp h' g k => PySem.W.kia_tup PySem.W.kitx_int (inEmpty _) trivial g (by decide +kernel) (by simp) fun tk => OkG.older k₁ (.grow k (.bool _) t₁ q)
  | isS q =>
    obtain ⟨u, rfl⟩ := rv.strI
    exact ist_case ck fo hc t₁ fun tp h' g k => PySem.W.kia_tup PySem.W.kitx_str (inEmpty _) trivial g (by decide +kernel) (by simp) fun tk => OkG.older k₁ (.grow k (.bool _) t₁ q)

mutual
theorem soundE : ∀ (e : AE) {F : Fm} {kd : Kd} {q : Bool} {m : Loc} {H : AHeap} {s : Shared} {Q : Post} {X : XPost}, Fok cx n q kd F → okE fl F.nm q F.vis kd e = true → St cx F m H s.heap → awpE g e Q X m H →
    Ev (Rep cx) cx F (eval (e.toE F.nm) F.env) m H s Q X
  | .lit c k p, F, kd, q, m, H, s, Q, X, fo, ok, t, h => by
    obtain ⟨v, hv, h⟩ := litW_iff h
    exact lit_ok (cx := cx) hv fun x tk r => .toks tk (r _) t h
  | .var i p, F, kd, q, m, H, s, Q, X, fo, ok, t, h => by
    replace ok := (show (_ && _) = true from ok); simp only [Bool.and_eq_true, Bool.not_eq_true'] at ok
    exact var_ok fo ok.1.1.1 ok.1.1.2 ok.1.2 ok.2 t h
  | .glob x p, F, kd, q, m, H, s, Q, X, fo, ok, t, h => by
    have h' : varW (g.G x) Q H := h
    unfold varW at h'
    split at h'
    · rename_i v hv
      obtain ⟨w, hw, r⟩ := ck.consts x v hv
      exact glob_ok fo ok t ck.gns hw (.toks s.toks (r.mono fun b o e _ => t.base b o e) t h')
    · exact h'.elim
  | .bin l o r p, F, kd, q, m, H, s, Q, X, fo, ok, t, h => by
    replace ok := (show (_ && _) = true from ok); simp only [Bool.and_eq_true] at ok
    refine Ev.two (soundE l fo ok.1 t h) (fun a pa s₁ H₁ ra t₁ _ h₁ => ?_) t
    refine Ev.two (Ev.holding (soundE r fo ok.2 t₁ h₁)) (fun b pb s₂ H₂ rb t₂ so h₂ => ?_) t₁
    exact Ev.stand (wpAny_operating (bin_ok (ra.mono so) rb t₂ h₂))
  | .neg e p, F, kd, q, m, H, s, Q, X, fo, ok, t, h => by
    refine Ev.two (soundE e fo ok t h) (fun a pa s₁ H₁ ra t₁ _ h₁ => ?_) t
    refine Ev.stand (Ev.holding ?_)
    split at h₁
    · obtain ⟨u, rfl⟩ := ra.intI; exact neg_ok t₁ h₁
    · exact h₁.elim
  | .not e p, F, kd, q, m, H, s, Q, X, fo, ok, t, h => by
    refine Ev.two (soundE e fo ok t h) (fun a pa s₁ H₁ ra t₁ _ h₁ => ?_) t
    refine Ev.stand (Ev.holding ?_)
    unfold truthW at h₁
    split at h₁
    · cases ra; exact not_ok t₁ h₁
    · exact h₁.elim
  | .bop o es p, F, kd, q, m, H, s, Q, X, fo, ok, t, h => by
    show Ev (Rep cx) cx F (boolOp p o (evalEach (es.toEs F.nm) F.env)) m H s Q X
    rw [evalEach_toEs]
    exact soundV o p es fo ok t h
  | .cmp l o r p, F, kd, q, m, H, s, Q, X, fo, ok, t, h => by
    replace ok := (show (_ && _) = true from ok); simp only [Bool.and_eq_true] at ok
    refine Ev.two (soundE l fo ok.1 t h) (fun a pa s₁ H₁ ra t₁ _ h₁ => ?_) t
    show Ev (Rep cx) cx F (compareChain p a [o] [markedBehindIn o (r.toE F.nm) (eval (r.toE F.nm) F.env)]) m H₁ s₁ Q X
    rw [marked_ok]
    refine Ev.two (Ev.holding (soundE r fo ok.2 t₁ h₁)) (fun b pb s₂ H₂ rb t₂ so h₂ => ?_) t₁
    refine Ev.stand (wpAny_operating ?_)
    have hu := fo.units
    exact (Ev.mono_rep (cmp_ok (by first | lia | omega) (ra.mono so) rb t₂ h₂)).weaken fun v H ⟨b, e, q⟩ => by subst e; exact q
  | .sub e i p, F, kd, q, m, H, s, Q, X, fo, ok, t, h => by
    replace ok := (show (_ && _) = true from ok); simp only [Bool.and_eq_true] at ok
    refine Ev.two (soundE e fo ok.1 t h) (fun a pa s₁ H₁ ra t₁ _ h₁ => ?_) t
    refine Ev.two (Ev.holding (soundE i fo ok.2 t₁ h₁)) (fun b pb s₂ H₂ rb t₂ so h₂ => ?_) t₁
    exact Ev.stand (sub_ok (subscripted_plain _ _) (ra.mono so) rb t₂ h₂)
  | .sfrom e i ps p, F, kd, q, m, H, s, Q, X, fo, ok, t, h => by
    replace ok := (show (_ && _) = true from ok); simp only [Bool.and_eq_true] at ok
    refine Subscript_ (wpAny_mono (soundE e fo ok.1 t h) (fun a s₁ h₁ => ?_) fun _ _ e => e)
    obtain ⟨pa, H₁, ra, t₁, k₁, h₁⟩ := h₁
    refine wpAny_bind (wpAny_mono (soundE i fo ok.2 t₁ h₁) (fun b s₂ h₂ => ?_) fun _ _ e => e.older k₁)
    obtain ⟨pb, H₂, rb, t₂, k₂, h₂⟩ := h₂
    refine wpAny_bind (wpAny_holding (wpAny_pure (wpAny_bind (wpAny_holding (wpAny_pure (wpAny_newObj_type ?_))))))
    exact Ev.older (((k₁.trans k₂)).trans (.grow (tk := s₂.toks) push_keeps fun _ _ _ e => e)) (sfrom_ok (fun _ _ => rfl) (ra.mono (k₂.solid0 t₁.heap)) rb t₂ h₂)
  | .sto e i ps p, F, kd, q, m, H, s, Q, X, fo, ok, t, h => by
    replace ok := (show (_ && _) = true from ok); simp only [Bool.and_eq_true] at ok
    refine Subscript_ (wpAny_mono (soundE e fo ok.1 t h) (fun a s₁ h₁ => ?_) fun _ _ e => e)
    obtain ⟨pa, H₁, ra, t₁, k₁, h₁⟩ := h₁
    refine wpAny_bind (wpAny_pure (wpAny_bind (wpAny_holding (wpAny_mono (soundE i fo ok.2 t₁ h₁) (fun b s₂ h₂ => ?_) fun _ _ e => e.older k₁))))
    obtain ⟨pb, H₂, rb, t₂, k₂, h₂⟩ := h₂
    refine wpAny_bind (wpAny_holding (wpAny_pure (wpAny_newObj_type ?_)))
    exact Ev.older (((k₁.trans k₂)).trans (.grow (tk := s₂.toks) push_keeps fun _ _ _ e => e)) (sto_ok (fun _ _ => rfl) (ra.mono (k₂.solid0 t₁.heap)) rb t₂ h₂)
  | .srev e c ps p cu, F, kd, q, m, H, s, Q, X, fo, ok, t, h => by
    refine Subscript_ (wpAny_mono (soundE e fo ok t h) (fun a s₁ h₁ => ?_) fun _ _ e => e)
    obtain ⟨pa, H₁, ra, t₁, k₁, h₁⟩ := h₁
    refine wpAny_bind (wpAny_pure (wpAny_bind (wpAny_holding (wpAny_pure (wpAny_bind (wpAny_holding (wpAny_mono (m1_ok (Q := fun w H => w = .int (-1) ∧ RevW Q H pa) (X := X) t₁ ⟨rfl, h₁⟩) (fun b s₂ h₂ => ?_) fun _ _ e => e.older k₁)))))))
    obtain ⟨pb, H₂, rb, t₂, k₂, rfl, h₂⟩ := h₂
    obtain ⟨u, rfl⟩ := rb.intI
    refine wpAny_newObj_type ?_
    exact Ev.older (((k₁.trans k₂)).trans (.grow (tk := s₂.toks) push_keeps fun _ _ _ e => e)) (rev_ok (fun _ _ => rfl) (ra.mono (k₂.solid0 t₁.heap)) t₂ h₂)
  | .tup es k p, F, kd, q, m, H, s, Q, X, fo, ok, t, h => by
    replace ok := (show (_ && _) = true from ok); simp only [Bool.and_eq_true, decide_eq_true_eq] at ok
    show Ev (Rep cx) cx F (do standAt p; newTuple (← spliced (backTo p (starEach (es.toEs F.nm) F.env)))) m H s Q X
    rw [starEach_toEs, backTo_sem]
    refine Ev.stand (Ev.two (soundL es fo ok.1 t h) (fun a ps s₁ H₁ ra t₁ _ h₁ => ?_) t)
    have hL : LIM = 1048576 := rfl
    have hl := ra.2
    exact tup_made ra.1 (by first | lia | omega) t₁ h₁
  | .list es p, F, kd, q, m, H, s, Q, X, fo, ok, t, h => by
    replace ok := (show (_ && _) = true from ok); simp only [Bool.and_eq_true, decide_eq_true_eq] at ok
    show Ev (Rep cx) cx F (do standAt p; newList (← spliced (backTo p (starEach (es.toEs F.nm) F.env)))) m H s Q X
    rw [starEach_toEs, backTo_sem]
    refine Ev.stand (Ev.two (soundL es fo ok.1 t h) (fun a ps s₁ H₁ ra t₁ _ h₁ => ?_) t)
    have hL : LIM = 1048576 := rfl
    have hl := ra.2
    exact list_made ra.1 (by first | lia | omega) t₁ h₁
  | .tape pc p, F, kd, q, m, H, s, Q, X, fo, ok, t, h => by
    refine Ev.stand (f := fun _ => spliced [(false, eval (.Constant (.int 0) 0 pc) F.env)] >>= fun vs => newList vs) ?_
    refine wpAny_bind (spliced_cons (lit_ok (cx := cx) (v := .int 0) rfl fun x tk r => spliced_nil ?_))
    obtain ⟨u, rfl⟩ := (r s.heap).intI
    refine wpAny_newList ?_ (by rw [sizeLine_eq]; simp)
    have fr := get_size_none s.heap
    have ro : RepO cx (s.heap.push (lstObj #[.int 0 u] 0)) s.heap.objs.size (.tape 0) := ⟨u, 0, Heap.get?_push_size _ rfl⟩
    exact .alloc (a := s.heap.objs.size) push_keeps fr (.obj _) ro t (alloc_use h (t.heap.fresh fr))
  | .dict ks vs p, F, kd, q, m, H, s, Q, X, fo, ok, t, h => by
    replace ok := (show (_ && _) = true from ok); simp only [Bool.and_eq_true, decide_eq_true_eq] at ok
    exact dict_ok ck.mods ok.1.1 ok.1.2 ok.2 t h
  | .call f es pf p, F, kd, q, m, H, s, Q, X, fo, ok, t, h => by
    replace ok := (show (_ && _) = true from ok); simp only [Bool.and_eq_true] at ok
    obtain ⟨⟨⟨⟨rfl, hg⟩, hf⟩, hes⟩, hnm⟩ := ok
    exact call_case ck fo t hg hf (by simpa using hnm) h fun t' h' => soundL es fo hes t' h'
  | .blt b es pf p, F, kd, q, m, H, s, Q, X, fo, ok, t, h => by
    replace ok := (show (_ && _) = true from ok); simp only [Bool.and_eq_true] at ok
    exact blt_case ck fo t (fo.quiet ok.1.1) ok.1.2 h fun t' h' => soundL es fo ok.2 t' h'
  | .isi e c pf p1 p2 p3 p, F, kd, q, m, H, s, Q, X, fo, ok, t, h => by
    replace ok := (show (_ && _) = true from ok); simp only [Bool.and_eq_true] at ok
    exact isi_case ck fo ok.1.1 ok.1.2 t (soundE e fo ok.2 t h)
  | .meth o k es pa p, F, kd, q, m, H, s, Q, X, fo, ok, t, h => by
    replace ok := (show (_ && _) = true from ok); simp only [Bool.and_eq_true, decide_eq_true_eq] at ok
    exact meth_case ok.1.1.2 ok.1.2 ok.2 (soundE o fo ok.1.1.1.1 t h) fun t' h' => soundL es fo ok.1.1.1.2 t' h'
  | .umeth o c k es pa p, F, kd, q, m, H, s, Q, X, fo, ok, t, h => by
    replace ok := (show (_ && _) = true from ok); simp only [Bool.and_eq_true, decide_eq_true_eq] at ok
    obtain ⟨⟨⟨⟨⟨⟨⟨ho, hes⟩, hl⟩, hn⟩, hb⟩, hf⟩, rfl⟩, hm⟩ := ok
    exact umeth_case ck fo hl hn hb hf hm (soundE o fo ho t h) fun t' h' => soundL es fo hes t' h'
  | .attr o k p, F, kd, q, m, H, s, Q, X, fo, ok, t, h => by
    replace ok := (show (_ && _) = true from ok); simp only [Bool.and_eq_true, decide_eq_true_eq] at ok
    exact attr_case ck ok.1.2 ok.2 (soundE o fo ok.1.1 t h)
  | .new es pf p, F, kd, q, m, H, s, Q, X, fo, ok, t, h => by
    replace ok := (show (_ && _) = true from ok); simp only [Bool.and_eq_true, decide_eq_true_eq] at ok
    obtain ⟨⟨⟨⟨rfl, hg⟩, hf⟩, hes⟩, hne⟩ := ok
    exact new_case ck fo t hg hf hne h fun t' h' => soundL es fo hes t' h'
  | .comp e x px it cs sc p, F, kd, q, m, H, s, Q, X, fo, ok, t, h => by
    replace ok := (show (_ && _) = true from ok); simp only [Bool.and_eq_true, decide_eq_true_eq] at ok
    obtain ⟨⟨⟨⟨⟨hit, hsc⟩, he⟩, hcs⟩, hlen⟩, rfl⟩ := ok
    refine comp_ok (aT := fun Q m H => awpC g cs Q (fun _ _ => False) m H) (aE := fun Q m H => awpE g e Q (fun _ _ => False) m H) fo hsc (soundE it fo hit t h) (fun {cl C m' H s Q} fo' t' h' => ?_) (fun {cl C m' H s Q} fo' t' h' => ?_) (folded_ok _ _ _)
    · exact soundC cs fo' hcs hlen t' h'
    · exact soundE e fo' he t' h'
theorem soundL : ∀ (es : AEs) {F : Fm} {kd : Kd} {q : Bool} {m : Loc} {H : AHeap} {s : Shared} {Q : List PV → AHeap → Prop} {X : XPost}, Fok cx n q kd F → okEs fl F.nm q F.vis kd es = true → St cx F m H s.heap → awpL g es Q X m H →
    Ev (RepLs cx es.len) cx F (spliced (semL F.nm F.env es)) m H s Q X
  | .nil, F, kd, q, m, H, s, Q, X, fo, ok, t, h => spliced_nil (.toks s.toks ⟨.nil, rfl⟩ t h)
  | .cons e es, F, kd, q, m, H, s, Q, X, fo, ok, t, h => by
    replace ok := (show (_ && _) = true from ok); simp only [Bool.and_eq_true] at ok
    refine spliced_cons (wpAny_mono (soundE e fo ok.1 t h) (fun v s₁ h₁ => ?_) fun _ _ x => x)
    obtain ⟨pv, H₁, rv, t₁, k₁, h₁⟩ := h₁
    refine wpAny_mono (soundL es fo ok.2 t₁ h₁) (fun vs s₂ h₂ => ?_) fun _ _ x => x.older k₁
    obtain ⟨ps, H₂, rs, t₂, k₂, h₂⟩ := h₂
    exact ⟨pv :: ps, H₂, ⟨.cons (rv.mono (k₂.solid0 t₁.heap)) rs.1, by simp [AEs.len, rs.2]⟩, t₂, k₁.trans k₂, h₂⟩
theorem soundV : ∀ (o : BoolOp) (p : Pos) (es : AEs) {F : Fm} {kd : Kd} {q : Bool} {m : Loc} {H : AHeap} {s : Shared} {Q : Post} {X : XPost}, Fok cx n q kd F → okEs fl F.nm q F.vis kd es = true → St cx F m H s.heap → awpV g o es Q X m H →
    Ev (Rep cx) cx F (boolOp p o (evalEachL F.nm F.env es)) m H s Q X
  | _, _, .nil, _, _, _, _, _, _, _, _, _, _, _, h => False.elim h
  | o, p, .cons e .nil, F, kd, q, m, H, s, Q, X, fo, ok, t, h => by
    replace ok := (show (_ && _) = true from ok); simp only [Bool.and_eq_true] at ok
    exact soundE e fo ok.1 t h
  | o, p, .cons e (.cons e' es), F, kd, q, m, H, s, Q, X, fo, ok, t, h => by
    replace ok := (show (_ && _) = true from ok); simp only [Bool.and_eq_true] at ok
    have ok' : okEs fl F.nm q F.vis kd (.cons e' es) = true := ok.2
    refine Ev.two (soundE e fo ok.1 t h) (fun a pa s₁ H₁ ra t₁ _ h₁ => ?_) t
    unfold truthW at h₁
    split at h₁
    · rename_i b
      cases ra
      refine Ev.stand (wpAny_bind (wpAny_holding (wpAny_truthy_bool ?_)))
      cases o <;> cases b
      · exact Ev.pure (.bool _) t₁ h₁
      · exact soundV .And p (.cons e' es) fo ok' t₁ h₁
      · exact soundV .Or p (.cons e' es) fo ok' t₁ h₁
      · exact Ev.pure (.bool _) t₁ h₁
    · exact h₁.elim
theorem soundB : ∀ (e : AE) {F : Fm} {kd : Kd} {q : Bool} {m : Loc} {H : AHeap} {s : Shared} {Q : BPost} {X : XPost}, Fok cx n q kd F → okE fl F.nm q F.vis kd e = true →
    (∀ {m : Loc} {H : AHeap} {s : Shared} {Q : Post} {X : XPost}, St cx F m H s.heap → awpE g e Q X m H → Ev (Rep cx) cx F (eval (e.toE F.nm) F.env) m H s Q X) → St cx F m H s.heap → awpB g e (awpE g e) Q X m H →
    Ev IsBB cx F (isTrue (e.toE F.nm) F.env (eval (e.toE F.nm) F.env)) m H s Q X
  | .not e p, F, kd, q, m, H, s, Q, X, fo, ok, hW, t, h => by
    refine Ev.bind (soundB e fo ok (fun t h => soundE e fo ok t h) t h) fun b b' s₁ H₁ rb t₁ k₁ h₁ => ?_
    have rb : b = b' := rb
    subst rb
    exact Ev.pure rfl t₁ h₁
  | .bop o es p, F, kd, q, m, H, s, Q, X, fo, ok, hW, t, h => soundBs o es fo ok t h
  | .cmp l o r p, F, kd, q, m, H, s, Q, X, fo, ok, hW, t, h => by
    replace ok := (show (_ && _) = true from ok); simp only [Bool.and_eq_true] at ok
    refine Ev.bind (soundE l fo ok.1 t h) fun a pa s₁ H₁ ra t₁ k₁ h₁ => ?_
    show Ev IsBB cx F (testChain p a [o] [markedBehindIn o (r.toE F.nm) (eval (r.toE F.nm) F.env)]) m H₁ s₁ Q X
    rw [marked_ok]
    refine Ev.bind (Ev.holding (soundE r fo ok.2 t₁ h₁)) fun b pb s₂ H₂ rb t₂ k₂ h₂ => ?_
    have hu := fo.units
    refine Ev.stand (Ev.bind (wpAny_operating (cmp_ok (by first | lia | omega) (ra.mono (k₂.solid0 t₁.heap)) rb t₂ h₂)) fun c c' s₃ H₃ rc t₃ k₃ h₃ => ?_)
    have rc : c = .bool c' := rc
    subst rc
    exact Ev.holding (wpAny_truthy_bool (.toks s₃.toks rfl t₃ h₃))
  | .lit c k p, F, kd, q, m, H, s, Q, X, fo, ok, hW, t, h => soundW _ (fun _ _ => (nomatch ·)) (fun _ _ _ => (nomatch ·)) (fun _ _ _ _ => (nomatch ·)) (hW t h)
  | .var i p, F, kd, q, m, H, s, Q, X, fo, ok, hW, t, h => soundW _ (fun _ _ => (nomatch ·)) (fun _ _ _ => (nomatch ·)) (fun _ _ _ _ => (nomatch ·)) (hW t h)
  | .glob x p, F, kd, q, m, H, s, Q, X, fo, ok, hW, t, h => soundW _ (fun _ _ => (nomatch ·)) (fun _ _ _ => (nomatch ·)) (fun _ _ _ _ => (nomatch ·)) (hW t h)
  | .bin l o r p, F, kd, q, m, H, s, Q, X, fo, ok, hW, t, h => soundW _ (fun _ _ => (nomatch ·)) (fun _ _ _ => (nomatch ·)) (fun _ _ _ _ => (nomatch ·)) (hW t h)
  | .neg e p, F, kd, q, m, H, s, Q, X, fo, ok, hW, t, h => soundW _ (fun _ _ => (nomatch ·)) (fun _ _ _ => (nomatch ·)) (fun _ _ _ _ => (nomatch ·)) (hW t h)
  | .sub e i p, F, kd, q, m, H, s, Q, X, fo, ok, hW, t, h => soundW _ (fun _ _ => (nomatch ·)) (fun _ _ _ => (nomatch ·)) (fun _ _ _ _ => (nomatch ·)) (hW t h)
  | .sfrom e i ps p, F, kd, q, m, H, s, Q, X, fo, ok, hW, t, h => soundW _ (fun _ _ => (nomatch ·)) (fun _ _ _ => (nomatch ·)) (fun _ _ _ _ => (nomatch ·)) (hW t h)
  | .sto e i ps p, F, kd, q, m, H, s, Q, X, fo, ok, hW, t, h => soundW _ (fun _ _ => (nomatch ·)) (fun _ _ _ => (nomatch ·)) (fun _ _ _ _ => (nomatch ·)) (hW t h)
  | .srev e c ps p cu, F, kd, q, m, H, s, Q, X, fo, ok, hW, t, h => soundW _ (fun _ _ => (nomatch ·)) (fun _ _ _ => (nomatch ·)) (fun _ _ _ _ => (nomatch ·)) (hW t h)
  | .tup es k p, F, kd, q, m, H, s, Q, X, fo, ok, hW, t, h => soundW _ (fun _ _ => (nomatch ·)) (fun _ _ _ => (nomatch ·)) (fun _ _ _ _ => (nomatch ·)) (hW t h)
  | .list es p, F, kd, q, m, H, s, Q, X, fo, ok, hW, t, h => soundW _ (fun _ _ => (nomatch ·)) (fun _ _ _ => (nomatch ·)) (fun _ _ _ _ => (nomatch ·)) (hW t h)
  | .tape pc p, F, kd, q, m, H, s, Q, X, fo, ok, hW, t, h => soundW _ (fun _ _ => (nomatch ·)) (fun _ _ _ => (nomatch ·)) (fun _ _ _ _ => (nomatch ·)) (hW t h)
  | .dict ks vs p, F, kd, q, m, H, s, Q, X, fo, ok, hW, t, h => soundW _ (fun _ _ => (nomatch ·)) (fun _ _ _ => (nomatch ·)) (fun _ _ _ _ => (nomatch ·)) (hW t h)
  | .call f es pf p, F, kd, q, m, H, s, Q, X, fo, ok, hW, t, h => soundW _ (fun _ _ => (nomatch ·)) (fun _ _ _ => (nomatch ·)) (fun _ _ _ _ => (nomatch ·)) (hW t h)
  | .blt b es pf p, F, kd, q, m, H, s, Q, X, fo, ok, hW, t, h => soundW _ (fun _ _ => (nomatch ·)) (fun _ _ _ => (nomatch ·)) (fun _ _ _ _ => (nomatch ·)) (hW t h)
  | .isi e c pf p1 p2 p3 p, F, kd, q, m, H, s, Q, X, fo, ok, hW, t, h => soundW _ (fun _ _ => (nomatch ·)) (fun _ _ _ => (nomatch ·)) (fun _ _ _ _ => (nomatch ·)) (hW t h)
  | .meth o k es pa p, F, kd, q, m, H, s, Q, X, fo, ok, hW, t, h => soundW _ (fun _ _ => (nomatch ·)) (fun _ _ _ => (nomatch ·)) (fun _ _ _ _ => (nomatch ·)) (hW t h)
  | .umeth o c k es pa p, F, kd, q, m, H, s, Q, X, fo, ok, hW, t, h => soundW _ (fun _ _ => (nomatch ·)) (fun _ _ _ => (nomatch ·)) (fun _ _ _ _ => (nomatch ·)) (hW t h)
  | .attr o k p, F, kd, q, m, H, s, Q, X, fo, ok, hW, t, h => soundW _ (fun _ _ => (nomatch ·)) (fun _ _ _ => (nomatch ·)) (fun _ _ _ _ => (nomatch ·)) (hW t h)
  | .new es pf p, F, kd, q, m, H, s, Q, X, fo, ok, hW, t, h => soundW _ (fun _ _ => (nomatch ·)) (fun _ _ _ => (nomatch ·)) (fun _ _ _ _ => (nomatch ·)) (hW t h)
  | .comp e x px it cs sc p, F, kd, q, m, H, s, Q, X, fo, ok, hW, t, h => soundW _ (fun _ _ => (nomatch ·)) (fun _ _ _ => (nomatch ·)) (fun _ _ _ _ => (nomatch ·)) (hW t h)
theorem soundBs : ∀ (o : BoolOp) (es : AEs) {F : Fm} {kd : Kd} {q : Bool} {m : Loc} {H : AHeap} {s : Shared} {Q : BPost} {X : XPost}, Fok cx n q kd F → okEs fl F.nm q F.vis kd es = true → St cx F m H s.heap → awpBs g o es Q X m H →
    Ev IsBB cx F (allTrue o (es.toEs F.nm) F.env) m H s Q X
  | o, .nil, F, kd, q, m, H, s, Q, X, fo, ok, t, h => Ev.pure rfl t h
  | o, .cons e es, F, kd, q, m, H, s, Q, X, fo, ok, t, h => by
    replace ok := (show (_ && _) = true from ok); simp only [Bool.and_eq_true] at ok
    refine Ev.bind (soundB e fo ok.1 (fun t h => soundE e fo ok.1 t h) t h) fun b b' s₁ H₁ rb t₁ k₁ h₁ => ?_
    have rb : b = b' := rb
    subst rb
    cases o <;> cases b
    · exact Ev.pure rfl t₁ h₁
    · exact soundBs .And es fo ok.2 t₁ h₁
    · exact soundBs .Or es fo ok.2 t₁ h₁
    · exact Ev.pure rfl t₁ h₁
theorem soundC : ∀ (cs : AEs) {F : Fm} {kd : Kd} {q : Bool} {m : Loc} {H : AHeap} {s : Shared} {Q : BPost} {X : XPost}, Fok cx n q kd F → okEs fl F.nm q F.vis kd cs = true → cs.len ≤ 1 → St cx F m H s.heap → awpC g cs Q X m H →
    Ev IsBB cx F (testsSem (cs.toEs F.nm) F.env) m H s Q X
  | .nil, F, kd, q, m, H, s, Q, X, fo, ok, hl, t, h => wpAny_tests_nil (.toks s.toks rfl t h)
  | .cons c .nil, F, kd, q, m, H, s, Q, X, fo, ok, hl, t, h => by
    replace ok := (show (_ && _) = true from ok); simp only [Bool.and_eq_true] at ok
    exact wpAny_tests_one (soundB c fo ok.1 (fun t h => soundE c fo ok.1 t h) t h)
  | .cons c (.cons d ds), F, kd, q, m, H, s, Q, X, fo, ok, hl, t, h => by simp [AEs.len] at hl
end
end
end Mine
end
section
open PySem PySem.Calls PyProof.Rows
namespace Mine
set_option autoImplicit false


/-- the error's own record and its traceback change, of frames the slots alone -/
structure Fly (F : Fm) (e : Addr) (P : Addr → Prop) (h h' : Heap) : Prop where
  oth : ∀ b o, h.get? b = some o → b ≠ e → ¬ P b → h'.get? b = some o ∨ ((∃ env ∈ F.fs, env.frame = some b) ∧ ∃ sl, h'.get? b = some { o with slots := sl })
  exc : ∀ o vs, h.get? e = some o → o.data = .fields vs → ∃ o' vs', h'.get? e = some o' ∧ (o'.cls = o.cls ∧ o'.dict = o.dict) ∧ o'.data = .fields vs'
  tb : ∀ b, P b → b ≠ e ∧ ∃ o ts, h.get? b = some o ∧ o.cls = .type "traceback" ∧ o.data = .fields ts

theorem dict_mapFields (f : Array Value → Array Value) (o : Obj) : (Obj.mapFields f o).dict = o.dict := by
  obtain ⟨c, d, dt, sl⟩ := o
  cases dt <;> rfl

section
variable {cx : Cx} {F : Fm} {m : Loc} {H H₁ : AHeap} {s s₁ : Shared} {e : Addr} {P : Addr → Prop}

theorem St.fly {h h' : Heap} (t : St cx F m H h) (f : Fly F e P h h') (he : ∃ o C vs, h.get? e = some o ∧ o.cls = .ref C ∧ o.dict = none ∧ o.data = .fields vs) (hB : cx.B.get? e = none) (hP : ∀ b, P b → cx.B.get? b = none) : St cx F m H h' := by
  obtain ⟨oe, C, vs, ge, hc, hy, hd⟩ := he
  obtain ⟨oe', vs', ge', hc', hd'⟩ := f.exc oe vs ge hd
  have nP : ∀ b o, h.get? b = some o → (∀ ts, o.data = .fields ts → o.dict ≠ none ∧ ∃ C, o.cls = .ref C) → b ≠ e ∧ ¬ P b := fun b o g n => ⟨by rintro rfl; rw [ge] at g; cases g; exact (n _ hd).1 hy, fun p => by
    obtain ⟨_, ob, ts, g', c, d⟩ := f.tb b p; rw [g] at g'; cases g'; obtain ⟨_, C, q⟩ := n _ d; rw [c] at q; cases q⟩
  have frame : ∀ b, (∃ env ∈ F.fs, env.frame = some b) → H b = none ∧ cx.B.get? b = none ∧ ∃ o es ep, h.get? b = some o ∧ o.data = .dict es ep := fun b ⟨env, hm, hf⟩ => by
    obtain ⟨_, L, o, es, ep, hf', hH, hb, ho, hd⟩ := t.frames env hm
    rw [hf] at hf'; cases hf'
    exact ⟨hH, hb, o, es, ep, ho, hd⟩
  have notF : ∀ b o, h.get? b = some o → (∀ es ep, o.data ≠ .dict es ep) → ¬ ∃ env ∈ F.fs, env.frame = some b := fun b o g n q => by
    obtain ⟨_, _, o', es, ep, g', d⟩ := frame b q; rw [g] at g'; cases g'; exact n _ _ d
  have so : ∀ b o, h.get? b = some o → Solid o → h'.get? b = some o ∨ ((∃ C, o.cls = .ref C) ∧ ∃ o' vs', h'.get? b = some o' ∧ (o'.cls = o.cls ∧ o'.dict = o.dict) ∧ o'.data = .fields vs') := fun b o g sl => by
    by_cases q : b = e
    · subst q; rw [ge] at g; cases g; exact .inr ⟨⟨C, hc⟩, oe', vs', ge', hc', hd'⟩
    · by_cases p : P b
      · obtain ⟨_, ob, ts, g', c', d⟩ := f.tb b p
        rw [g] at g'; cases g'
        exact absurd sl (notSolid_of c' (by decide) d)
      · exact .inl ((f.oth b o g q p).resolve_right fun x => notF b o g sl.notLoc.1 x.1)
  have keepA : ∀ b o, H b = some o → ∀ ob, h.get? b = some ob → h'.get? b = some ob := fun b o hb ob g => by
    obtain ⟨ob', g', ns, nf⟩ := (t.heap b o hb).get
    rw [g] at g'; cases g'
    obtain ⟨n1, n2⟩ := nP b ob g nf
    exact (f.oth b ob g n1 n2).resolve_right fun x => by have := (frame b x.1).1; rw [hb] at this; cases this
  have upto : ∀ b o, h.get? b = some o → (∀ ts, o.data ≠ .fields ts) → ∃ sl, h'.get? b = some { o with slots := sl } := fun b o g n => by
    obtain ⟨n1, n2⟩ := nP b o g fun ts q => absurd q (n ts)
    rcases f.oth b o g n1 n2 with g' | ⟨_, sl, g'⟩
    · exact ⟨o.slots, g'⟩
    · exact ⟨sl, g'⟩
  refine ⟨fun b o g => ?_, t.off, fun a o ha => ?_, fun env hm => ?_, t.own, ?_, fun n c hc' => ?_⟩
  · have g1 := t.base b o g
    refine (f.oth b o g1 (by rintro rfl; rw [hB] at g; cases g) (fun p => by rw [hP b p] at g; cases g)).resolve_right fun x => ?_
    have := (frame b x.1).2.1; rw [g] at this; cases this
  · have r := t.heap a o ha
    cases o with
    | list xs => obtain ⟨items, n, e, r, l⟩ := r; exact ⟨items, n, keepA _ _ ha _ e, r.mono' so, l⟩
    | tape k => obtain ⟨t, n, e⟩ := r; exact ⟨t, n, keepA _ _ ha _ e⟩
    | dict kvs => obtain ⟨vs, d, r, l⟩ := r; exact ⟨vs, (let ⟨o, es, ep, ho, y⟩ := d; ⟨o, es, ep, keepA _ _ ha _ ho, y⟩), r.mono' so, l⟩
    | inst d => obtain ⟨C, o, x, e, y⟩ := r; exact ⟨C, o, x, keepA _ _ ha _ e, y⟩
    | attrs kvs => obtain ⟨m, n1, ed, f, n, l⟩ := r; exact ⟨m, (let ⟨o, es, ep, e, y⟩ := n1; ⟨o, es, ep, keepA _ _ ha _ e, y⟩), (let ⟨od, e, y⟩ := ed; ⟨od, keepA _ _ ha _ e, y⟩), fun x p e => let ⟨v, a, b⟩ := f x p e; ⟨v, a, b.mono' so⟩, n, l⟩
  · obtain ⟨hk, L, o, es, ep, hf, hH, hb, ho, hd⟩ := t.frames env hm
    obtain ⟨sl, g'⟩ := upto L o ho (fun ts q => by rw [hd] at q; cases q)
    exact ⟨hk, L, _, es, ep, hf, hH, hb, g', hd⟩
  · obtain ⟨o, es, ep, mc, ho, hd, ⟨o1, es1, ep1, ho1, hd1, hk1, hm1⟩, hv⟩ := t.vars
    rw [ho] at ho1; cases ho1
    obtain ⟨sl, g'⟩ := upto _ o ho (fun ts q => by rw [hd] at q; cases q)
    exact ⟨_, es, ep, mc, g', hd, ⟨_, es1, ep1, g', hd1, hk1, hm1⟩, fun i v h1 h2 h3 => let ⟨x, q, r⟩ := hv i v h1 h2 h3; ⟨x, q, r.mono' so⟩⟩
  · obtain ⟨h1, h2, o, x, ho, hd, hv⟩ := t.cells n c hc'
    have n0 : ∀ ts, o.data ≠ .fields ts := fun ts q => by rw [hd] at q; cases q
    obtain ⟨n1, n2⟩ := nP c o ho fun ts q => absurd q (n0 ts)
    have g' := (f.oth c o ho n1 n2).resolve_right fun x => notF c o ho (fun _ _ q => by rw [hd] at q; cases q) x.1
    exact ⟨h1, h2, o, x, g', hd, fun i v a b c d => let ⟨y, q, r⟩ := hv i v a b c d; ⟨y, q, r.mono' so⟩⟩

theorem Kp.fly {S : List Addr} {h' : Heap} (k : Kp cx S H s H₁ s₁) (t : St cx F m H₁ s₁.heap) (f : Fly F e P s₁.heap h') (fe : s.heap.get? e = none) (fP : ∀ b, P b → s.heap.get? b = none) (hB : cx.B.get? e = none) (hP : ∀ b, P b → cx.B.get? b = none) :
    Kp cx S H s H₁ { s₁ with heap := h' } := by
  have frame : ∀ b, (∃ env ∈ F.fs, env.frame = some b) → cx.B.get? b = none ∧ ∃ o es ep, s₁.heap.get? b = some o ∧ o.data = .dict es ep := fun b ⟨env, hm, hf⟩ => by
    obtain ⟨_, L, o, es, ep, hf', hH, hb, ho, hd⟩ := t.frames env hm
    rw [hf] at hf'; cases hf'
    exact ⟨hb, o, es, ep, ho, hd⟩
  have step : ∀ b o, s.heap.get? b = some o → ∀ o₁, s₁.heap.get? b = some o₁ → ∃ o', h'.get? b = some o' ∧ SameO o₁ o' := fun b o g o₁ g₁ => by
    rcases f.oth b o₁ g₁ (by rintro rfl; rw [fe] at g; cases g) (fun p => by rw [fP b p] at g; cases g) with g' | ⟨fr, sl, g'⟩
    · exact ⟨o₁, g', .refl _⟩
    · obtain ⟨_, o2, es, ep, g2, d⟩ := frame b fr
      rw [g₁] at g2; cases g2
      exact ⟨_, g', .inr ⟨⟨es, ep, d⟩, sl, rfl⟩⟩
  refine ⟨?_, fun b o g nS hn => ?_, fun b o g => ?_, fun b o gB g => ?_⟩
  · obtain ⟨h, tk, e⟩ := k.same; exact ⟨h', tk, by rw [e]⟩
  · obtain ⟨h1, o₁, g₁, sm⟩ := k.keep b o g nS hn
    obtain ⟨o', g', sm'⟩ := step b o g o₁ g₁
    exact ⟨h1, o', g', sm.trans sm'⟩
  · obtain ⟨o₁, g₁⟩ := k.alive b o g
    obtain ⟨o', g', _⟩ := step b o g o₁ g₁
    exact ⟨o', g'⟩
  · have g₁ := k.base b o gB g
    refine (f.oth b o g₁ (by rintro rfl; rw [hB] at gB; cases gB) (fun p => by rw [hP b p] at gB; cases gB)).resolve_right fun x => ?_
    have := (frame b x.1).1; rw [gB] at this; cases this

/-- an error in flight, its traceback's top entry standing in the frame -/
inductive ExcAt (cx : Cx) (h₀ h : Heap) (e : Addr) (c : Nat) (v3 : Value) : Prop
  | mk (n : h₀.get? e = none) (oe : Obj) (vs : Array Value) (C : Addr) (a0 : Value) (g : h.get? e = some oe) (k : oe.cls = .ref C) (x : cx.cls c = some C ∧ oe.dict = none) (d : oe.data = .fields vs) (z : vs[0]? = some a0)
    (T : Addr) (oT : Obj) (ts : Array Value) (b1 : vs[1]? = some (.ref T)) (b2 : h₀.get? T = none) (b3 : T ≠ e) (b4 : h.get? T = some oT) (b5 : oT.cls = .type "traceback") (b6 : oT.data = .fields ts) (b7 : ts[3]? = some v3) : ExcAt cx h₀ h e c v3
abbrev ExcIn (cx : Cx) (L : Addr) (h₀ h : Heap) (e : Addr) (c : Nat) : Prop := ExcAt cx h₀ h e c (rawInt L)
theorem ExcIn.exc {L : Addr} {h₀ h : Heap} {c : Nat} (x : ExcIn cx L h₀ h e c) : Exc cx (some L) h₀ h e c := by
  obtain ⟨a, oe, vs, C, a0, b, c, d, f, g, T, oT, ts, h1, h2, h3, h4, h5, h6, h7⟩ := x
  exact ⟨a, oe, vs, C, a0, b, c, d, f, g, .inr ⟨T, oT, ts, h1, h2, h3, h4, h5, h6, .inr ⟨L, rfl, h7⟩⟩⟩

theorem funFrames_of {h : Heap} (hh : ∀ env ∈ F.fs, FrAt cx H h env) : ∀ l : List Env, (∀ env ∈ l, env ∈ F.fs) → h.FunFrames cx.B l
  | [], _ => trivial
  | env :: r, hl => by
    obtain ⟨hk, L, o, es, ep, hf, _, hb, ho, hd⟩ := hh env (hl env List.mem_cons_self)
    exact ⟨hk, ⟨L, o, hf, hb, ho, fun vs q => by rw [hd] at q; cases q⟩, funFrames_of hh r fun x hx => hl x (List.mem_cons_of_mem _ hx)⟩

theorem entry_own {A : Around} {outer : List Env} {L : Addr} {oe : Obj} {vs : Array Value} {head : Value} {hadNext : Bool} {Q : Unit → Shared → Prop} {E : Value → Shared → Prop}
    (hfr : A.frames = some F.fs) (hfs : F.fs = F.env :: outer) (t : St cx F m H s.heap) (hf : F.env.frame = some L) (he : s.heap.get? e = some oe) (hd : oe.data = .fields vs) (hsz : 1 < vs.size)
    (h : ∀ h' T oT ts oe' vs', (∀ b o, s.heap.get? b = some o → b ≠ e → h'.get? b = some o ∨ ((∃ env ∈ F.fs, env.frame = some b) ∧ ∃ sl, h'.get? b = some { o with slots := sl })) → s.heap.get? T = none → T ≠ e →
      h'.get? e = some oe' → (oe'.cls = oe.cls ∧ oe'.dict = oe.dict) → oe'.data = .fields vs' → vs'[0]? = vs[0]? → vs'[1]? = some (.ref T) → h'.get? T = some oT → oT.cls = .type "traceback" → oT.data = .fields ts → ts[3]? = some (rawInt L) → Q () { s with heap := h' }) :
    wpAny cx.M A (do let a ← frameOf F.env; let pl ← entryPlaceOf L hadNext; let b ← EntryCells.newEntry head a .none (rawInt L) .none pl; setField (.ref e) 1 b) Q E s := by
  have hl : s.heap.FunFrames cx.B (F.env :: outer) := funFrames_of t.frames _ fun env hm => hfs ▸ hm
  have hene : e ∉ (F.env :: outer).filterMap (·.frame) := fun hm => by
    obtain ⟨_, o, ho, hnf⟩ := hl.mem hm
    rw [he] at ho; injection ho with ho; subst ho; exact hnf vs hd
  refine wpAny_bind (wpAny_frameOf_fun (by rw [hfr, hfs]) hl hf fun h₁ hs₁ => ?_)
  refine wpAny_bind (wpAny_entryPlaceOf fun pl hpl => ?_)
  unfold EntryCells.newEntry newFields
  refine wpAny_bind (wpAny_newObj_type ?_ (hpl.sizeOk5 _ _ _ _ _))
  have he₁ : h₁.get? e = some oe := (hs₁.2.1 e hene).trans he
  have he₂ := Heap.get?_push_of_some (h := h₁) { cls := .type "traceback", dict := none, data := .fields ([head, .ref L, .none, rawInt L, .none] ++ (if pl.isEmpty then List.replicate 6 Value.none else pl)).toArray } he₁
  have hTe : h₁.objs.size ≠ e := Nat.ne_of_gt (Heap.lt_size he₁)
  have hd₃ := Obj.data_mapFields hd (·.setIfInBounds 1 (Value.ref h₁.objs.size))
  have he₃ := Heap.get?_update_self (Obj.mapFields (·.setIfInBounds 1 (Value.ref h₁.objs.size))) he₂ (Obj.isFreed_of_fields hd₃)
  have hT₃ := (Heap.get?_update_other (h₁.push { cls := .type "traceback", dict := none, data := .fields ([head, .ref L, .none, rawInt L, .none] ++ (if pl.isEmpty then List.replicate 6 Value.none else pl)).toArray })
    (Obj.mapFields (·.setIfInBounds 1 (Value.ref h₁.objs.size))) (Ne.symm hTe)).trans (Heap.get?_push_size h₁ rfl)
  refine wpAny_setField he₂ hd hsz (h _ h₁.objs.size _ _ _ _ (fun b o g n => ?_) ?_ hTe he₃ ⟨Obj.cls_mapFields _ _, dict_mapFields _ _⟩ hd₃ ?_ ?_ hT₃ rfl rfl ?_)
  · by_cases hm : b ∈ (F.env :: outer).filterMap (·.frame)
    · right
      obtain ⟨env, h1, h2⟩ := List.mem_filterMap.mp hm
      refine ⟨⟨env, hfs ▸ h1, h2⟩, ?_⟩
      obtain ⟨sl, g'⟩ := hs₁.2.2 b o g
      exact ⟨sl, by rw [Heap.get?_update_other _ _ (Ne.symm n)]; exact Heap.get?_push_of_some _ g'⟩
    · left
      rw [Heap.get?_update_other _ _ (Ne.symm n)]; exact Heap.get?_push_of_some _ ((hs₁.2.1 b hm).trans g)
  · cases q : s.heap.get? h₁.objs.size with
    | none => rfl
    | some o => have := Heap.lt_size q; rw [hs₁.1] at this; exact absurd this (Nat.lt_irrefl _)
  · rw [Array.getElem?_setIfInBounds_ne (by decide)]
  · simp [hsz]
  · first | (simp; done) | (rcases hpl with rfl | ⟨_, _, _, _, _, _, _, rfl⟩ <;> simp)

theorem note_ok {S : List Addr} {outer : List Env} {L : Addr} {c : Nat} {Q : Unit → Shared → Prop} {E : Value → Shared → Prop} {A : Around} (hfr : A.frames = some F.fs) (hfs : F.fs = F.env :: outer) (hf : F.env.frame = some L) (t : St cx F m H₁ s₁.heap) (k : Kp cx S H s H₁ s₁)
    (t₀ : cx.B.StaysIn s.heap) (x : Exc cx F.env.frame s.heap s₁.heap e c) (hQ : ∀ s₂, St cx F m H₁ s₂.heap → Kp cx S H s H₁ s₂ → ExcIn cx L s.heap s₂.heap e c → Q () s₂) : wpAny cx.M A (noteFrame (.ref e) F.env) Q E s₁ := by
  obtain ⟨fe, oe, vs, C, a0, ge, hc, hC, hd, h0, hx⟩ := x
  have hBn : ∀ b, s.heap.get? b = none → cx.B.get? b = none := fun b f => by
    cases q : cx.B.get? b with
    | none => rfl
    | some o => rw [t₀ _ _ q] at f; cases f
  have he : ∃ o C vs, s₁.heap.get? e = some o ∧ o.cls = .ref C ∧ o.dict = none ∧ o.data = .fields vs := ⟨oe, C, vs, ge, hc, hC.2, hd⟩
  unfold noteFrame
  simp only [hf]
  rcases hx with h1 | ⟨T, oT, ts, h1, fT, hTe, gT, cT, dT, h3⟩
  · refine wpAny_bind (wpAny_field ge hd h1 ?_)
    rw [if_neg (by decide)]
    refine entry_own hfr hfs t hf ge hd (Array.getElem?_eq_some_iff.mp h1).1 fun h' T oT ts oe' vs' oth fT hTe ge' ce' de' h0' h1' gT' cT dT h3 => ?_
    have f : Fly F e (fun _ => False) s₁.heap h' := ⟨fun b o g n _ => oth b o g n, fun o vs g d => by rw [ge] at g; cases g; exact ⟨oe', vs', ge', ce', de'⟩, fun _ q => q.elim⟩
    have fT0 : s.heap.get? T = none := by
      cases q : s.heap.get? T with
      | none => rfl
      | some o => obtain ⟨o', e'⟩ := k.alive T o q; rw [fT] at e'; cases e'
    exact hQ { s₁ with heap := h' } (t.fly f he (hBn _ fe) fun _ q => q.elim) (k.fly t f fe (fun _ q => q.elim) (hBn _ fe) fun _ q => q.elim)
      ⟨fe, oe', vs', C, a0, ge', ce'.1.trans hc, ⟨hC.1, ce'.2.trans hC.2⟩, de', h0'.trans h0, T, oT, ts, h1', fT0, hTe, gT', cT, dT, h3⟩
  · refine wpAny_bind (wpAny_field ge hd h1 ?_)
    rw [if_pos (show (Value.ref T != Value.none) = true from by simp)]
    rcases h3 with h3 | ⟨L', hL', h3⟩
    · refine wpAny_bind (wpAny_field gT dT h3 ?_)
      rw [if_neg (show ¬ ((Value.none == rawInt L) = true) from by simp [rawInt])]
      refine wpAny_bind (wpAny_setField gT dT (Array.getElem?_eq_some_iff.mp h3).1 ?_)
      have dT' := Obj.data_mapFields dT (·.setIfInBounds 3 Value.none)
      have gT' := Heap.get?_update_self (Obj.mapFields (·.setIfInBounds 3 Value.none)) gT (Obj.isFreed_of_fields dT')
      have f : Fly F e (fun b => b = T) s₁.heap (s₁.heap.update T (Obj.mapFields (·.setIfInBounds 3 Value.none))) :=
        ⟨fun b o g n q => .inl (upd_keeps b o q g), fun o vs' g d => ⟨o, vs', upd_keeps e o (Ne.symm hTe) g, ⟨rfl, rfl⟩, d⟩, fun b q => by subst q; exact ⟨hTe, oT, ts, gT, cT, dT⟩⟩
      have t₂ := t.fly f he (hBn _ fe) fun b q => by subst q; exact hBn _ fT
      have k₂ := k.fly t f fe (fun b q => by subst q; exact fT) (hBn _ fe) fun b q => by subst q; exact hBn _ fT
      have ge₂ := upd_keeps (f := Obj.mapFields (·.setIfInBounds 3 Value.none)) e oe (Ne.symm hTe) ge
      refine entry_own (s := { s₁ with heap := s₁.heap.update T (Obj.mapFields (·.setIfInBounds 3 Value.none)) }) hfr hfs t₂ hf ge₂ hd (Array.getElem?_eq_some_iff.mp h1).1 fun h' T₂ oT₂ ts₂ oe' vs' oth fT₂ hTe₂ ge' ce' de' h0' h1' gT₂ cT₂ dT₂ h3₂ => ?_
      have f₂ : Fly F e (fun _ => False) (s₁.heap.update T (Obj.mapFields (·.setIfInBounds 3 Value.none))) h' := ⟨fun b o g n _ => oth b o g n, fun o vs g d => by rw [ge₂] at g; cases g; exact ⟨oe', vs', ge', ce', de'⟩, fun _ q => q.elim⟩
      have fT0 : s.heap.get? T₂ = none := by
        cases q : s.heap.get? T₂ with
        | none => rfl
        | some o => obtain ⟨o', e'⟩ := k₂.alive T₂ o q; rw [fT₂] at e'; cases e'
      exact hQ { s₁ with heap := h' } (t₂.fly f₂ ⟨oe, C, vs, ge₂, hc, hC.2, hd⟩ (hBn _ fe) fun _ q => q.elim) (k₂.fly (s₁ := { s₁ with heap := s₁.heap.update T (Obj.mapFields (·.setIfInBounds 3 Value.none)) }) t₂ f₂ fe (fun _ q => q.elim) (hBn _ fe) fun _ q => q.elim)
        ⟨fe, oe', vs', C, a0, ge', ce'.1.trans hc, ⟨hC.1, ce'.2.trans hC.2⟩, de', h0'.trans h0, T₂, oT₂, ts₂, h1', fT0, hTe₂, gT₂, cT₂, dT₂, h3₂⟩
    · rw [hf] at hL'; cases hL'
      refine wpAny_bind (wpAny_field gT dT h3 ?_)
      rw [if_pos (show (rawInt L == rawInt L) = true from by simp)]
      exact wpAny_pure (hQ s₁ t k ⟨fe, oe, vs, C, a0, ge, hc, hC, hd, h0, T, oT, ts, h1, fT, hTe, gT, cT, dT, h3⟩)

/-- the flight ends: the record lies still -/
abbrev ExcOut (cx : Cx) (h₀ h : Heap) (e : Addr) (c : Nat) : Prop := ExcAt cx h₀ h e c .none
theorem ExcOut.exc {fr : Option Addr} {h₀ h : Heap} {c : Nat} (x : ExcOut cx h₀ h e c) : Exc cx fr h₀ h e c := by
  obtain ⟨a, oe, vs, C, a0, b, c, d, f, g, T, oT, ts, h1, h2, h3, h4, h5, h6, h7⟩ := x
  exact ⟨a, oe, vs, C, a0, b, c, d, f, g, .inr ⟨T, oT, ts, h1, h2, h3, h4, h5, h6, .inl h7⟩⟩
theorem ExcOut.rep {h₀ h : Heap} {c : Nat} (x : ExcOut cx h₀ h e c) : Rep cx h (.ref e) (.exc c) := by
  obtain ⟨a, oe, vs, C, a0, b, c, d, f, _⟩ := x
  exact .exc b c f d.1 d.2

theorem unflight_ok {S : List Addr} {c : Nat} {Q : Unit → Shared → Prop} {E : Value → Shared → Prop} {A : Around} {v3 : Value} (t : St cx F m H₁ s₁.heap) (k : Kp cx S H s H₁ s₁) (t₀ : cx.B.StaysIn s.heap)
    (x : ExcAt cx s.heap s₁.heap e c v3)
    (hQ : ∀ s₂, St cx F m H₁ s₂.heap → Kp cx S H s H₁ s₂ → ExcOut cx s.heap s₂.heap e c → Q () s₂) : wpAny cx.M A (setFlight (.ref e) none) Q E s₁ := by
  obtain ⟨fe, oe, vs, C, a0, ge, hc, hC, hd, h0, T, oT, ts, h1, fT, hTe, gT, cT, dT, h3⟩ := x
  have hBn : ∀ b, s.heap.get? b = none → cx.B.get? b = none := fun b f => by
    cases q : cx.B.get? b with
    | none => rfl
    | some o => rw [t₀ _ _ q] at f; cases f
  have hsz := (Array.getElem?_eq_some_iff.mp h3).1
  refine wpAny_setFlight_none ge hd h1 gT dT hsz ?_
  have dT' := Obj.data_mapFields dT (·.setIfInBounds 3 Value.none)
  have gT' := Heap.get?_update_self (Obj.mapFields (·.setIfInBounds 3 Value.none)) gT (Obj.isFreed_of_fields dT')
  have f : Fly F e (fun b => b = T) s₁.heap (s₁.heap.update T (Obj.mapFields (·.setIfInBounds 3 Value.none))) :=
    ⟨fun b o g n q => .inl (upd_keeps b o q g), fun o vs' g d => ⟨o, vs', upd_keeps e o (Ne.symm hTe) g, ⟨rfl, rfl⟩, d⟩, fun b q => by subst q; exact ⟨hTe, oT, ts, gT, cT, dT⟩⟩
  have t₂ := t.fly f ⟨oe, C, vs, ge, hc, hC.2, hd⟩ (hBn _ fe) fun b q => by subst q; exact hBn _ fT
  have k₂ := k.fly t f fe (fun b q => by subst q; exact fT) (hBn _ fe) fun b q => by subst q; exact hBn _ fT
  exact hQ { s₁ with heap := _ } t₂ k₂ ⟨fe, oe, vs, C, a0, upd_keeps e oe (Ne.symm hTe) ge, hc, hC, hd, h0, T, _, _, h1, fT, hTe, gT', (Obj.cls_mapFields _ _).trans cT, dT', by simp [hsz]⟩
end
end Mine
end
section
open PySem PySem.Calls PyProof.Rows
namespace Mine
set_option autoImplicit false

noncomputable def plc (F : Fm) : List Addr := F.env.locals :: F.env.cells.filterMap fun p => F.env.cells.lookup p.1
theorem mem_plc_cell {F : Fm} {x : Str} {c : Addr} (h : F.env.cells.lookup x = some c) : c ∈ plc F := List.mem_cons_of_mem _ (List.mem_filterMap.mpr ⟨(x, c), mem_of_lookup h, h⟩)

section
variable {cx : Cx} {F : Fm} {m : Loc} {H H₁ : AHeap} {s s₁ : Shared} {kd : Kd} {n : Nat} {q : Bool}

theorem St.setCell {h h' : Heap} {x : Nat} {v : Value} {p : PV} {c : Addr} (t : St cx F m H h) (fo : Fok cx n q kd F) (vx : F.vis x = true) (kl : F.env.kindOf (slot F.nm x) ≠ some .local)
    (hc : F.env.cells.lookup (slot F.nm x) = some c) (hc' : h'.IsCell c (some v)) (sb : Heap.SameBut c h h') (rv : Rep cx h v p) : St cx F (m.set x (some p)) H h' := by
  obtain ⟨hHc, hBc, oc, y, goc, dc, _⟩ := t.cells _ c hc
  have ns1 : ∀ o, h.get? c = some o → ¬ Solid o := fun o' e => by rw [goc] at e; cases e; exact notSolid_cell dc
  have k : ∀ b o, b ≠ c → h.get? b = some o → h'.get? b = some o := fun b o n e => by rw [sb.2 b n]; exact e
  have so : ∀ b o, h.get? b = some o → Solid o → h'.get? b = some o := fun b o e s => k b o (by rintro rfl; exact ns1 o e s) e
  have nd : ∀ b o es ep, h.get? b = some o → o.data = .dict es ep → b ≠ c := fun b o es ep e q => by rintro rfl; rw [goc] at e; cases e; rw [dc] at q; cases q
  refine ⟨fun b o e => k b o (by rintro rfl; rw [hBc] at e; cases e) (t.base b o e), t.off, t.heap.keepBut hHc k ns1, fun env he => ?_, t.own, ?_, fun nn c₂ hc₂ => ?_⟩
  · obtain ⟨hk, L, o, es, ep, hf, hH, hb, ho, hd'⟩ := t.frames env he
    exact ⟨hk, L, o, es, ep, hf, hH, hb, k L o (nd L o es ep ho hd') ho, hd'⟩
  · obtain ⟨o, es, ep, mc, ho, hd', ns, hv⟩ := t.vars
    have n := nd _ o es ep ho hd'
    refine ⟨o, es, ep, mc, k _ o n ho, hd', ns.at fun o e => k _ o n e, fun i w h1 h2 h3 => ?_⟩
    rcases Loc.get_set h3 with ⟨rfl, rfl⟩ | ⟨_, h3⟩
    · exact absurd h2 kl
    · obtain ⟨x, q, r⟩ := hv i w h1 h2 h3; exact ⟨x, q, r.mono so⟩
  · obtain ⟨h1, h2, o, w, ho, hd', hv⟩ := t.cells nn c₂ hc₂
    by_cases qc : c₂ = c
    · subst qc
      have e1 : nn = slot F.nm x := fo.apart _ _ _ hc₂ hc
      subst e1
      obtain ⟨o', go', do'⟩ := hc'
      refine ⟨h1, h2, o', some v, go', do', fun i w a b _ d => ?_⟩
      have : i = x := fo.inj i x a vx b
      subst this
      rcases Loc.get_set d with ⟨_, rfl⟩ | ⟨ne, _⟩
      · exact ⟨v, rfl, rv.mono so⟩
      · exact absurd rfl ne
    · refine ⟨h1, h2, o, w, k c₂ o qc ho, hd', fun i w' a b c' d => ?_⟩
      rcases Loc.get_set d with ⟨rfl, rfl⟩ | ⟨_, d⟩
      · subst b; rw [hc] at hc₂; cases hc₂; exact absurd rfl qc
      · obtain ⟨z, q, r⟩ := hv i w' a b c' d; exact ⟨z, q, r.mono so⟩

theorem Kp.one {h' : Heap} {tk : Nat} {a : Addr} (ha : a ∈ plc F) (hB : cx.B.get? a = none) (ga : ∃ o, h'.get? a = some o) (k : ∀ b o, b ≠ a → s.heap.get? b = some o → h'.get? b = some o) : Kp cx (plc F) H s H { s with heap := h', toks := tk } := by
  refine ⟨⟨h', tk, rfl⟩, fun b o e nS hn => ⟨hn, o, k b o (by rintro rfl; exact nS ha) e, .refl _⟩, fun b o e => ?_, fun b o eB e => k b o (by rintro rfl; rw [hB] at eB; cases eB) e⟩
  by_cases q : b = a
  · subst q; exact ga
  · exact ⟨o, k b o q e⟩

theorem store_name {x : Nat} {v : Value} {p : PV} {QQ : Unit → Shared → Prop} {E : Value → Shared → Prop} {A : Around} (fo : Fok cx n q kd F) (vx : F.vis x = true) (hk : kd (slot F.nm x) = some .local ∨ kd (slot F.nm x) = some .cell) (t : St cx F m H s.heap) (rv : Rep cx s.heap v p)
    (hQ : ∀ s', St cx F (m.set x (some p)) H s'.heap → Kp cx (plc F) H s H s' → (∀ b o, s.heap.get? b = some o → Solid o → s'.heap.get? b = some o) → QQ () s') : wpAny cx.M A (storeName F.env (slot F.nm x) v) QQ E s := by
  rcases hk with hk | hk
  · have hl : F.env.kindOf (slot F.nm x) = some .local := by rw [fo.kdo]; exact hk
    obtain ⟨o, es, ep, mc, ho, hd, ns, _⟩ := t.vars
    refine wpAny_storeName_local hl ns (fun h' ns' sb => ?_) (by rw [fo.kind]; rfl)
    have kk : ∀ b o, b ≠ F.env.locals → s.heap.get? b = some o → h'.get? b = some o := fun b o n e => by rw [sb.2 b n]; exact e
    refine hQ _ (t.setLocal fo.inj vx hl ns ns' rfl sb rv) (Kp.one (List.mem_cons_self ..) t.own.2 (let ⟨o, _, _, g, _⟩ := ns'; ⟨o, g⟩) kk) fun b o e so => kk b o ?_ e
    rintro rfl; rw [ho] at e; cases e; exact notSolid_dict hd so
  · have hl : F.env.kindOf (slot F.nm x) = some .cell := by rw [fo.kdo]; exact hk
    obtain ⟨c, hc⟩ := fo.cells _ (.inl hk)
    obtain ⟨hHc, hBc, oc, y, goc, dc, _⟩ := t.cells _ c hc
    refine wpAny_storeName_cell fo.kind hl hc ⟨oc, goc, dc⟩ fun h' hc' sb => ?_
    have kk : ∀ b o, b ≠ c → s.heap.get? b = some o → h'.get? b = some o := fun b o n e => by rw [sb.2 b n]; exact e
    refine hQ _ (t.setCell fo vx (by rw [hl]; decide) hc hc' sb rv) (Kp.one (tk := s.toks) (mem_plc_cell hc) hBc (let ⟨o, g, _⟩ := hc'; ⟨o, g⟩) kk) fun b o e so => kk b o ?_ e
    rintro rfl; rw [goc] at e; cases e; exact notSolid_cell dc so

/-! statements -/
inductive OkN (cx : Cx) (F : Fm) (H : AHeap) (s : Shared) (N : NPost) (s' : Shared) : Prop
  | mk (m' : Loc) (H' : AHeap) (t : St cx F m' H' s'.heap) (k : Kp cx (plc F) H s H' s') (q : N m' H') : OkN cx F H s N s'
inductive OkR (cx : Cx) (F : Fm) (H : AHeap) (s : Shared) (R : Post) (v : Value) (s' : Shared) : Prop
  | mk (p : PV) (m' : Loc) (H' : AHeap) (r : Rep cx s'.heap v p) (t : St cx F m' H' s'.heap) (k : Kp cx (plc F) H s H' s') (q : R p H') : OkR cx F H s R v s'
noncomputable def OkS (cx : Cx) (F : Fm) (H : AHeap) (s : Shared) (N : NPost) (R : Post) : Flow → Shared → Prop := fun f s' => match f with
  | .next => OkN cx F H s N s'
  | .ret v => OkR cx F H s R v s'
  | _ => False
inductive ErS (cx : Cx) (F : Fm) (H : AHeap) (s : Shared) (X : SXPost) (v : Value) (s' : Shared) : Prop
  | mk (e : Addr) (c : Nat) (m' : Loc) (H' : AHeap) (hv : v = .ref e) (x : Exc cx F.env.frame s.heap s'.heap e c) (t : St cx F m' H' s'.heap) (k : Kp cx (plc F) H s H' s') (q : X c m' H') : ErS cx F H s X v s'
noncomputable def EvS (cx : Cx) (F : Fm) (t : Sem Flow) (H : AHeap) (s : Shared) (N : NPost) (R : Post) (X : SXPost) : Prop := wpAny cx.M F.A t (OkS cx F H s N R) (ErS cx F H s X) s

theorem OkS.older {N : NPost} {R : Post} {f : Flow} {s' : Shared} (k : Kp cx (plc F) H s H₁ s₁) (x : OkS cx F H₁ s₁ N R f s') : OkS cx F H s N R f s' := by
  cases f with
  | next => obtain ⟨m', H', t, k', h⟩ := x; exact ⟨m', H', t, k.trans k', h⟩
  | ret v => obtain ⟨p, m', H', r, t, k', h⟩ := x; exact ⟨p, m', H', r, t, k.trans k', h⟩
  | _ => exact x.elim
theorem ErS.older {X : SXPost} {v : Value} {s' : Shared} (k : Kp cx (plc F) H s H₁ s₁) (x : ErS cx F H₁ s₁ X v s') : ErS cx F H s X v s' := by
  obtain ⟨e, c, m', H', r, y, t, k', h⟩ := x
  exact ⟨e, c, m', H', r, y.older k.alive, t, k.trans k', h⟩
theorem EvS.older {N : NPost} {R : Post} {X : SXPost} {t : Sem Flow} (k : Kp cx (plc F) H s H₁ s₁) (x : EvS cx F t H₁ s₁ N R X) : wpAny cx.M F.A t (OkS cx F H s N R) (ErS cx F H s X) s₁ :=
  wpAny_mono x (fun _ _ y => y.older k) fun _ _ y => y.older k
theorem ErP.toS {X : SXPost} {v : Value} {s' : Shared} (x : ErP cx F m H s (fun c H => X c m H) v s') : ErS cx F H s X v s' := by
  obtain ⟨e, c, H', r, y, t, k, h⟩ := x; exact ⟨e, c, m, H', r, y, t, k.nil, h⟩
/-- an expression, then the rest of the statement -/
theorem EvS.after {α β : Type} {RR : Heap → α → β → Prop} {Q : β → AHeap → Prop} {N : NPost} {R : Post} {X : SXPost} {t : Sem α} {f : α → Sem Flow} (h : Ev RR cx F t m H s Q fun c H => X c m H)
    (k : ∀ a b s₁ H₁, RR s₁.heap a b → St cx F m H₁ s₁.heap → Kp cx [] H s H₁ s₁ → Q b H₁ → EvS cx F (f a) H₁ s₁ N R X) : EvS cx F (t >>= f) H s N R X :=
  wpAny_bind (wpAny_mono h (fun a s₁ ⟨b, H₁, r, st, kp, q⟩ => (k a b s₁ H₁ r st kp q).older kp.nil) fun _ _ y => y.toS)
theorem EvS.seq {N N₁ : NPost} {R : Post} {X : SXPost} {st : Stmt} {rest : List Stmt} (h : EvS cx F (exec st F.env) H s N₁ R X)
    (k : ∀ m₁ s₁ H₁, St cx F m₁ H₁ s₁.heap → N₁ m₁ H₁ → EvS cx F (execs rest F.env) H₁ s₁ N R X) : EvS cx F (execs (st :: rest) F.env) H s N R X := by
  refine wpAny_execs_cons (wpAny_mono h (fun f s' h' => ?_) fun _ _ e => e)
  cases f with
  | next => obtain ⟨m', H', t, kp, hn⟩ := h'; exact (k m' s' H' t hn).older kp
  | ret v => exact h'
  | brk => exact h'
  | cont => exact h'
end
end Mine
end
section
open PySem PySem.Calls PyProof.Rows
namespace Mine
set_option autoImplicit false

noncomputable def isComp : AE → Bool
  | .comp .. => true
  | _ => false
noncomputable def isTup : AE → Bool
  | .tup .. => true
  | _ => false
noncomputable def ASs.isNil : ASs → Bool
  | .nil => true
  | _ => false
noncomputable def AHs.isNil : AHs → Bool
  | .nil => true
  | _ => false
section
variable (fl : List Str) (nm : List Str) (vis : Nat → Bool) (kd : Kd)
noncomputable def stOk (x : Nat) : Bool := vis x && (kd (slot nm x) == some .local || kd (slot nm x) == some .cell)
mutual
noncomputable def okS (q : Bool) : AS → Bool
  | .expr e _ => okE fl nm q vis kd e && !isComp e
  | .assign x _ e _ => okE fl nm q vis kd e && stOk nm vis kd x
  | .assignT xs _ _ e _ => q && okE fl nm q vis kd e && !isComp e && !isTup e && xs.all fun x => stOk nm vis kd x.1
  | .store o i _ e _ => okE fl nm q vis kd o && okE fl nm q vis kd i && okE fl nm q vis kd e && !isComp e
  | .sattr o k _ e _ => okE fl nm q vis kd o && okE fl nm q vis kd e && !isComp e && decide (k ∈ atns)
  | .ite c a b _ => okE fl nm q vis kd c && okSs q a && okSs q b
  | .for x _ it b _ => q && okE fl nm q vis kd it && stOk nm vis kd x && okSs q b
  | .while c b _ => q && okE fl nm q vis kd c && okSs q b
  | .ret e _ => okE fl nm q vis kd e
  | .ret0 _ => true
  | .raise c x _ _ _ _ _ _ => q && isGlob kd x && onm x == some c
  | .try b hs _ => q && okSs q b && okHs hs && !hs.isNil
noncomputable def okSs (q : Bool) : ASs → Bool
  | .nil => true
  | .cons s ss => okS q s && okSs q ss
noncomputable def okHs : AHs → Bool
  | .nil => true
  | .cons c x _ y b _ hs => isGlob kd x && onm x == some c && (match y with | none => true | some y => vis y && kd (slot nm y) == some .local) && okSs false b && !b.isNil && okHs hs
end
end

inductive ForI (cx : Cx) (F : Fm) (H₁ : AHeap) (s₁ : Shared) (I : Addr) (xs : List PV) (p : PV) (W : List PV → Loc → AHeap → Prop) (k : Nat) (s' : Shared) : Prop
  | mk (i : Nat) (mk : Loc) (Hk : AHeap) (hi : i ≤ xs.length) (hk : k = xs.length - i) (ti : St cx F mk Hk s'.heap) (ki : Kp cx (plc F) H₁ s₁ Hk s') (iti : Itr cx s'.heap I i xs p) (ci : Clean cx Hk s'.heap I) (hw : W (xs.drop i) mk Hk) : ForI cx F H₁ s₁ I xs p W k s'
section
variable {cx : Cx} {F : Fm} {m : Loc} {H H₁ : AHeap} {s s₁ : Shared} {kd : Kd} {n : Nat} {q : Bool} {e : Addr}

theorem St.plcData {h : Heap} (t : St cx F m H h) : ∀ b ∈ plc F, ∀ o, h.get? b = some o → (∃ es ep, o.data = .dict es ep) ∨ ∃ x, o.data = .cell x := fun b hb o g => by
  rcases List.mem_cons.mp hb with rfl | hb
  · obtain ⟨o', es, ep, _, g', d, _⟩ := t.vars; rw [g] at g'; cases g'; exact .inl ⟨es, ep, d⟩
  · obtain ⟨p, _, hl⟩ := List.mem_filterMap.mp hb
    obtain ⟨_, _, o', x, g', d, _⟩ := t.cells _ b hl
    rw [g] at g'; cases g'; exact .inr ⟨x, d⟩
theorem Kp.solidP (k : Kp cx (plc F) H s H₁ s₁) (t : St cx F m H s.heap) : ∀ b o, s.heap.get? b = some o → Solid o → s₁.heap.get? b = some o := k.solid t.heap t.plcData
/-- a record that no name holds stays -/
theorem Kp.sameP (k : Kp cx (plc F) H s H₁ s₁) (t : St cx F m H s.heap) {b : Addr} {o : Obj} {vs : Array Value} (g : s.heap.get? b = some o) (hb : H b = none) (hd : o.data = .fields vs) : H₁ b = none ∧ s₁.heap.get? b = some o := by
  obtain ⟨h, o', e', sm⟩ := k.keep b o g (fun q => by
    rcases t.plcData b q o g with ⟨es, ep, d⟩ | ⟨x, d⟩ <;> rw [hd] at d <;> cases d) hb
  rw [sm.eq fun _ _ q => by rw [hd] at q; cases q] at e'; exact ⟨h, e'⟩
theorem Itr.over {I : Addr} {i : Nat} {xs : List PV} {p : PV} (it : Itr cx s.heap I i xs p) (k : Kp cx (plc F) H s H₁ s₁) (t : St cx F m H s.heap) (c : Clean cx H s.heap I) : Itr cx s₁.heap I i xs p ∧ Clean cx H₁ s₁.heap I := by
  obtain ⟨hI, hB, oI, T, vs, gI, hc, hT, hd⟩ := c
  have e1 := k.sameP t gI hI hd
  have itb := it.keep (k.solidP t) fun o e => by rw [gI] at e; cases e; exact e1.2
  exact ⟨itb, e1.1, hB, itb.clean⟩

theorem flight_ok {S : List Addr} {c : Nat} {L : Addr} {Q : Unit → Shared → Prop} {E : Value → Shared → Prop} {A : Around} (hf : F.env.frame = some L) (t : St cx F m H₁ s₁.heap) (k : Kp cx S H s H₁ s₁) (t₀ : cx.B.StaysIn s.heap) (x : ExcIn cx L s.heap s₁.heap e c)
    (hQ : ∀ s₂, St cx F m H₁ s₂.heap → Kp cx S H s H₁ s₂ → ExcIn cx L s.heap s₂.heap e c → Q () s₂) : wpAny cx.M A (do
      if (← field (.ref e) 1) == .none then unsupported "frame.own-activation:exception-without-traceback"
      setFlight (.ref e) F.env.frame) Q E s₁ := by
  obtain ⟨fe, oe, vs, C, a0, ge, hc, hC, hd, h0, T, oT, ts, h1, fT, hTe, gT, cT, dT, h3⟩ := x
  have hBn : ∀ b, s.heap.get? b = none → cx.B.get? b = none := fun b f => by
    cases q : cx.B.get? b with
    | none => rfl
    | some o => rw [t₀ _ _ q] at f; cases f
  have hsz := (Array.getElem?_eq_some_iff.mp h3).1
  refine wpAny_bind (wpAny_field ge hd h1 ?_)
  rw [if_neg (show ¬ ((Value.ref T == Value.none) = true) from by simp)]
  unfold setFlight
  refine wpAny_bind (wpAny_field ge hd h1 ?_)
  rw [if_pos (show (Value.ref T != Value.none) = true from by simp), hf]
  refine wpAny_setField gT dT hsz ?_
  show Q () { s₁ with heap := s₁.heap.update T (Obj.mapFields (·.setIfInBounds 3 (rawInt L))) }
  have dT' := Obj.data_mapFields dT (·.setIfInBounds 3 (rawInt L))
  have gT' := Heap.get?_update_self (Obj.mapFields (·.setIfInBounds 3 (rawInt L))) gT (Obj.isFreed_of_fields dT')
  have f : Fly F e (fun b => b = T) s₁.heap (s₁.heap.update T (Obj.mapFields (·.setIfInBounds 3 (rawInt L)))) :=
    ⟨fun b o g n q => .inl (upd_keeps b o q g), fun o vs' g d => ⟨o, vs', upd_keeps e o (Ne.symm hTe) g, ⟨rfl, rfl⟩, d⟩, fun b q => by subst q; exact ⟨hTe, oT, ts, gT, cT, dT⟩⟩
  have t₂ := t.fly f ⟨oe, C, vs, ge, hc, hC.2, hd⟩ (hBn _ fe) fun b q => by subst q; exact hBn _ fT
  have k₂ := k.fly t f fe (fun b q => by subst q; exact fT) (hBn _ fe) fun b q => by subst q; exact hBn _ fT
  exact hQ { s₁ with heap := _ } t₂ k₂ ⟨fe, oe, vs, C, a0, upd_keeps e oe (Ne.symm hTe) ge, hc, hC, hd, h0, T, _, _, h1, fT, hTe, gT', (Obj.cls_mapFields _ _).trans cT, dT', by simp [hsz]⟩

/-- an error out of a loop of the frame's own -/
theorem noted_ok {outer : List Env} {L : Addr} {X : SXPost} {v : Value} (hfr : F.A.frames = some F.fs) (hfs : F.fs = F.env :: outer) (hf : F.env.frame = some L) (t₀ : cx.B.StaysIn s.heap) (x : ErS cx F H s X v s₁) :
    notedBy cx.M F.A F.env (fun e s' => cameBackBy cx.M F.A F.env (ErS cx F H s X) e s') v s₁ := by
  obtain ⟨e, c, m', H', rfl, y, t, k, h⟩ := x
  refine note_ok hfr hfs hf t k t₀ y fun s₂ t₂ k₂ x₂ => ?_
  exact flight_ok hf t₂ k₂ t₀ x₂ fun s₃ t₃ k₃ x₃ => ⟨e, c, m', H', rfl, by rw [hf]; exact x₃.exc, t₃, k₃, h⟩

theorem names_ok {A : Around} {E : Value → Shared → Prop} (fo : Fok cx n q kd F) : ∀ (xs : List (Nat × Pos)) (ys : List PV) (vs : List Value) {m : Loc} {H : AHeap} {s : Shared} {QQ : Unit → Shared → Prop}, xs.length = ys.length →
    (∀ x ∈ xs, F.vis x.1 = true ∧ (kd (slot F.nm x.1) = some .local ∨ kd (slot F.nm x.1) = some .cell)) → RepL cx s.heap vs ys → St cx F m H s.heap →
    (∀ s', St cx F (setAll xs ys m) H s'.heap → Kp cx (plc F) H s H s' → QQ () s') → wpAny cx.M A (assignInOrder ((assignEach (xs.map fun x => Expr.Name (slot F.nm x.1) x.2) F.env).map (·.2)) vs) QQ E s
  | [], [], _, m, H, s, QQ, _, _, rs, t, hQ => by
    cases rs
    exact wpAny_assignInOrder_none (hQ s t (.refl _ _ _ _))
  | x :: xs, y :: ys, _, m, H, s, QQ, hl, hx, rs, t, hQ => by
    cases rs with
    | cons r rs =>
      have h1 := hx x (List.mem_cons_self ..)
      refine wpAny_assignInOrder_more (wpAny_assign_Name (store_name fo h1.1 h1.2 t r fun s' t' k' so => ?_))
      exact names_ok fo xs ys _ (by simpa using hl) (fun z hz => hx z (List.mem_cons_of_mem _ hz)) (rs.mono so) t' fun s'' t'' k'' => hQ s'' t'' (k'.trans k'')
  | [], _ :: _, _, _, _, _, _, hl, _, _, _, _ => by simp at hl
  | _ :: _, [], _, _, _, _, _, hl, _, _, _, _ => by simp at hl
theorem names_len (nm : List Str) (env : Env) : ∀ xs : List (Nat × Pos), (assignEach (xs.map fun x => Expr.Name (slot nm x.1) x.2) env).length = xs.length ∧ (assignEach (xs.map fun x => Expr.Name (slot nm x.1) x.2) env).findIdx? (·.1) = none
  | [] => ⟨rfl, rfl⟩
  | x :: xs => by
    have ih := names_len nm env xs
    refine ⟨?_, ?_⟩
    · show (assignEach (Expr.Name (slot nm x.1) x.2 :: xs.map fun x => Expr.Name (slot nm x.1) x.2) env).length = _
      exact congrArg (· + 1) ih.1
    · show (assignEach (Expr.Name (slot nm x.1) x.2 :: xs.map fun x => Expr.Name (slot nm x.1) x.2) env).findIdx? (·.1) = none
      change List.findIdx? (·.1) ((false, _) :: assignEach (xs.map fun x => Expr.Name (slot nm x.1) x.2) env) = none
      rw [List.findIdx?_cons, ih.2]; rfl

theorem for_ok {outer : List Env} {L : Addr} {x : Nat} {px pos : Pos} {iter : Expr} {body : List Stmt} {N : NPost} {R : Post} {X : SXPost} {st : PV → (Loc → AHeap → Prop) → Loc → AHeap → Prop} (fo : Fok cx n true kd F) (hfs : F.fs = F.env :: outer) (hf : F.env.frame = some L)
    (vx : F.vis x = true) (hk : kd (slot F.nm x) = some .local ∨ kd (slot F.nm x) = some .cell) (t : St cx F m H s.heap)
    (hIt : Ev (Rep cx) cx F (eval iter F.env) m H s (fun v H => itemsW v (fun xs src => forW src st N xs m H) H) fun c H => X c m H)
    (hB : ∀ {y : PV} {K : NPost} {m' : Loc} {H : AHeap} {s : Shared}, St cx F (m'.set x (some y)) H s.heap → st y K m' H → EvS cx F (execs body F.env) H s K R X)
    (hs : ∀ x, foldedSetIterable iter F.env x = pure x) :
    EvS cx F (exec (.For (.Name (slot F.nm x) px) iter body [] pos) F.env) H s N R X := by
  refine wpAny_For (wpAny_mono hIt (fun xv s₁ h₁ => ?_) fun _ _ e => e.toS) hs
  obtain ⟨p, H₁, rv, t₁, k₁, hw⟩ := h₁
  have t₀ : cx.B.StaysIn s.heap := t.base
  refine iter_ok (F := F) rv t₁ hw fun I xs h' fI g it cI sr hl hc => ?_
  refine codeAny_forLoop (ForI cx F H₁ s₁ I xs p (forW (Src p xs) st N)) ?_ xs.length
    ⟨0, m, H₁, Nat.zero_le _, rfl, t₁.step (s' := { s₁ with heap := h' }) (.grow (tk := s₁.toks) g fun _ _ _ e => e) (t₁.heap.grow g), .grow (tk := s₁.toks) g (fun _ _ _ e => e), it, cI, hc⟩
  rintro k s' ⟨i, mk, Hk, hi, rfl, ti, ki, iti, ci, hw⟩
  by_cases hlt : i < xs.length
  · have hx1 : xs[i]? = some xs[i] := List.getElem?_eq_getElem hlt
    rw [List.drop_eq_getElem_cons hlt] at hw
    obtain ⟨sr, hw⟩ := hw
    refine next_ok ti iti sr ci hx1 fun v s₄ rv it₄ c₄ tc₄ => ?_
    obtain ⟨h₄, tk₄, rfl, k₄⟩ := id tc₄
    have t₄ : St cx F mk Hk h₄ := ti.touch ci k₄
    have kp₄ := ki.touch fI tc₄ ci.2.1
    refine wpAny_assign_Name (store_name (s := { s' with heap := h₄, toks := tk₄ }) fo vx hk t₄ rv fun s₅ t₅ kp₅ so₅ => ?_)
    obtain ⟨it₅, c₅⟩ := it₄.over kp₅ t₄ c₄
    refine wpAny_mono (hB t₅ hw) (fun f s₆ h₆ => ?_) fun v s₆ h₆ => ?_
    · cases f with
      | next =>
        obtain ⟨m₆, H₆, t₆, kp₆, h₆⟩ := h₆
        obtain ⟨it₆, c₆⟩ := it₅.over kp₆ t₅ c₅
        exact ⟨xs.length - (i + 1), by first | lia | omega, i + 1, m₆, H₆, hlt, rfl, t₆, (kp₄.trans kp₅).trans kp₆, it₆, c₆, h₆⟩
      | ret v => exact OkS.older (f := .ret v) ((k₁.nil.trans kp₄).trans kp₅) h₆
      | brk => exact h₆.elim
      | cont => exact h₆.elim
    · exact noted_ok fo.fr hfs hf t₀ (h₆.older ((k₁.nil.trans kp₄).trans kp₅))
  · have hi' : i = xs.length := by first | lia | omega
    subst hi'
    rw [List.drop_length] at hw
    obtain ⟨sr, hw⟩ := hw
    refine end_ok (fo.quiet rfl) ti iti sr (by simp) fun s₄ tc₄ => ?_
    obtain ⟨h₄, tk₄, rfl, k₄⟩ := id tc₄
    exact wpAny_execs_nil ⟨mk, Hk, ti.touch ci k₄, k₁.nil.trans (ki.touch fI tc₄ ci.2.1), hw⟩

noncomputable def Fm.mark (F : Fm) (e : Value) : Fm := { F with A := F.A.mark (some e) }
theorem St.mark {h : Heap} {v : Value} (t : St cx F m H h) : St cx (F.mark v) m H h := ⟨t.base, t.off, t.heap, t.frames, t.own, (let ⟨o, es, ep, mc, a, b, c, d⟩ := t.vars; ⟨o, es, ep, mc, a, b, c, d⟩), fun n c h => let ⟨a, b, o, x, d, e, f⟩ := t.cells n c h; ⟨a, b, o, x, d, e, f⟩⟩
theorem St.unmark {h : Heap} {v : Value} (t : St cx (F.mark v) m H h) : St cx F m H h := ⟨t.base, t.off, t.heap, t.frames, t.own, (let ⟨o, es, ep, mc, a, b, c, d⟩ := t.vars; ⟨o, es, ep, mc, a, b, c, d⟩), fun n c h => let ⟨a, b, o, x, d, e, f⟩ := t.cells n c h; ⟨a, b, o, x, d, e, f⟩⟩
theorem Fok.mark {v : Value} (fo : Fok cx n q kd F) : Fok cx n false kd (F.mark v) := ⟨fo.fr, fo.kind, fo.kdo, fo.glob, fo.bltn, fun q => (nomatch q), fo.depth, fo.units, fo.cells, fo.apart, fo.inj⟩
theorem OkS.unmark {v : Value} {N : NPost} {R : Post} {f : Flow} {s' : Shared} (x : OkS cx (F.mark v) H s N R f s') : OkS cx F H s N R f s' := by
  cases f with
  | next => obtain ⟨m', H', t, k', h⟩ := x; exact ⟨m', H', t.unmark, k', h⟩
  | ret v => obtain ⟨p, m', H', r, t, k', h⟩ := x; exact ⟨p, m', H', r, t.unmark, k', h⟩
  | _ => exact x.elim

/-- the caught error's name goes -/
theorem unbind_ok {y : Nat} {pos : Pos} {QQ : Unit → Shared → Prop} {E : Value → Shared → Prop} {A : Around} (fo : Fok cx n q kd F) (vy : F.vis y = true) (hk : kd (slot F.nm y) = some .local) (t : St cx F m H s.heap)
    (hQ : ∀ s', St cx F (m.set y none) H s'.heap → Kp cx (plc F) H s H s' → (∀ b o, s.heap.get? b = some o → Solid o → s'.heap.get? b = some o) → QQ () s') : wpAny cx.M A (do bindName F.env (slot F.nm y) .none; unbindBehindTheSuite F.env (slot F.nm y) pos) QQ E s := by
  have hl : F.env.kindOf (slot F.nm y) = some .local := by rw [fo.kdo]; exact hk
  obtain ⟨o, es, ep, mc, ho, hd, ns, _⟩ := t.vars
  have hp : (F.env.scope.kind == .class || (F.env.scope.kind == .module && F.env.locals != F.env.globals)) = false := by rw [fo.kind]; rfl
  refine wpAny_bind (wpAny_bindName (wpAny_storeName_local hl ns (fun h' ns' sb => ?_) hp))
  unfold unbindBehindTheSuite
  refine wpAny_onRaise ?_
  refine wpAny_unbindName_local hl ns' (v := .none) (by simp) hp fun h'' u ns'' sb' => ?_
  have kk : ∀ b o, b ≠ F.env.locals → s.heap.get? b = some o → h''.get? b = some o := fun b o n e => by rw [sb'.2 b n, sb.2 b n]; exact e
  have t' : St cx F (m.set y (some .none)) H h' := t.setLocal fo.inj vy hl ns ns' rfl sb .none
  have nsl : ∀ o, s.heap.get? F.env.locals = some o → ¬ Solid o := fun o' e => by rw [ho] at e; cases e; exact notSolid_dict hd
  have so : ∀ b o, s.heap.get? b = some o → Solid o → h''.get? b = some o := fun b o e so => kk b o (by rintro rfl; exact nsl o e so) e
  refine hQ _ ?_ (Kp.one (tk := s.toks + 1) (List.mem_cons_self ..) t.own.2 (let ⟨o, _, _, g, _⟩ := ns''; ⟨o, g⟩) kk) so
  have t₁ := t.forget y
  obtain ⟨o₁, es₁, ep₁, mc₁, ho₁, hd₁, ns₁, hv₁⟩ := t₁.vars
  have e0 : mc₁ = mc := funext (ns₁.agree ns)
  subst e0
  obtain ⟨o', es', ep', ho', hd', r'⟩ := id ns''
  refine ⟨fun b o e => kk b o (by rintro rfl; rw [t.own.2] at e; cases e) (t.base b o e), t.off, t.heap.keepBut t.own.1 kk nsl, fun env he => ?_, t.own, ⟨o', es', ep', _, ho', hd', ns'', fun i w h1 h2 h3 => ?_⟩, fun nn c hc' => ?_⟩
  · obtain ⟨hk, L, o1, es1, ep1, hf, hH, hb, ho1, hd1⟩ := t.frames env he
    by_cases q : L = F.env.locals
    · subst q; exact ⟨hk, _, o', es', ep', hf, hH, hb, ho', hd'⟩
    · exact ⟨hk, L, o1, es1, ep1, hf, hH, hb, kk L o1 q ho1, hd1⟩
  · obtain ⟨x, q, r⟩ := hv₁ i w h1 h2 h3
    have ne := (Loc.get_set0 h3).1
    have nn : slot F.nm i ≠ slot F.nm y := fun q => ne (fo.inj i y h1 vy q)
    exact ⟨x, by simp only [nn, if_false]; exact q, r.mono so⟩
  · obtain ⟨h1, h2, oc, z, hoc, hdc, hvc⟩ := t₁.cells nn c hc'
    have nc : c ≠ F.env.locals := by rintro rfl; rw [ho] at hoc; cases hoc; rw [hd] at hdc; cases hdc
    exact ⟨h1, h2, oc, z, kk c oc nc hoc, hdc, fun i w a b c' d => let ⟨z', q, r⟩ := hvc i w a b c' d; ⟨z', q, r.mono so⟩⟩
end
end Mine
end
section
open PySem PySem.Calls PyProof.Rows
namespace Mine
set_option autoImplicit false

section
variable {cx : Cx} {F : Fm} {m : Loc} {H H₁ : AHeap} {s s₁ : Shared} {kd : Kd} {n : Nat} {q : Bool} {e : Addr} {sc : Scope}

theorem St.touchAt {h h' : Heap} {I : Addr} (t : St cx F m H h) (hI : H I = none) (hB : cx.B.get? I = none) (ns : ∀ o, h.get? I = some o → ¬ Solid o) (nf : ∀ env ∈ F.fs, env.frame ≠ some I) (nl : F.env.locals ≠ I) (nc : ∀ n c, F.env.cells.lookup n = some c → c ≠ I)
    (k : ∀ b o, b ≠ I → h.get? b = some o → h'.get? b = some o) : St cx F m H h' := by
  have so : ∀ b o, h.get? b = some o → Solid o → h'.get? b = some o := fun b o e s => k b o (by rintro rfl; exact ns o e s) e
  refine ⟨fun b o e => k b o (by rintro rfl; rw [hB] at e; cases e) (t.base b o e), t.off, t.heap.keepBut hI k ns, fun env he => ?_, t.own, ?_, fun n c hc' => ?_⟩
  · obtain ⟨hk, L, o, es, ep, hf, hH, hb, ho, hd'⟩ := t.frames env he
    exact ⟨hk, L, o, es, ep, hf, hH, hb, k L o (by rintro rfl; exact nf env he hf) ho, hd'⟩
  · obtain ⟨o, es, ep, mc, ho, hd', ns', hv⟩ := t.vars
    exact ⟨o, es, ep, mc, k _ o nl ho, hd', ns'.at fun o e => k _ o nl e, fun i v h1 h2 h3 => let ⟨x, q, r⟩ := hv i v h1 h2 h3; ⟨x, q, r.mono so⟩⟩
  · obtain ⟨h1, h2, o, x, ho, hd', hv⟩ := t.cells n c hc'
    exact ⟨h1, h2, o, x, k c o (nc n c hc') ho, hd', fun i v a b c d => let ⟨y, q, r⟩ := hv i v a b c d; ⟨y, q, r.mono so⟩⟩

theorem assign_comp {elt iter : Expr} {ifs : List Expr} {x y : Nat} {px py pc pos : Pos} {N : NPost} {R : Post} {X : SXPost} {aT : BPost → Loc → AHeap → Prop} {aE : Post → Loc → AHeap → Prop}
    (fo : Fok cx n true kd F) (hsc : scOk kd (relab kd sc) sc (slot F.nm x) = true) (vy : F.vis y = true) (hky : kd (slot F.nm y) = some .local ∨ kd (slot F.nm y) = some .cell)
    (hIt : Ev (Rep cx) cx F (eval iter F.env) m H s (fun v H => itemsW v (fun xs src => compW src (fun y K H => aT (fun b H => if b then aE (fun v H => K [v] H) (m.set x (some y)) H else K [] H) (m.set x (some y)) H)
      (fun vs H => alloc (.list vs) (fun v H => N (m.set y (some v)) H) H) xs [] H) H) fun c H => X c m H)
    (hT : ∀ {cl : List (Str × Addr)} {C : Addr} {m' : Loc} {H : AHeap} {s : Shared} {Q : BPost}, Fok cx n true (relab kd sc) (compF F sc cl C x (relab kd sc)) → St cx (compF F sc cl C x (relab kd sc)) m' H s.heap → aT Q m' H →
      Ev IsBB cx (compF F sc cl C x (relab kd sc)) (testsSem ifs (compEnvC sc cl C F.env)) m' H s Q fun _ _ => False)
    (hE : ∀ {cl : List (Str × Addr)} {C : Addr} {m' : Loc} {H : AHeap} {s : Shared} {Q : Post}, Fok cx n true (relab kd sc) (compF F sc cl C x (relab kd sc)) → St cx (compF F sc cl C x (relab kd sc)) m' H s.heap → aE Q m' H →
      Ev (Rep cx) cx (compF F sc cl C x (relab kd sc)) (eval elt (compEnvC sc cl C F.env)) m' H s Q fun _ _ => False)
    (hs : ∀ x, foldedSetIterable iter F.env x = pure x) :
    EvS cx F (exec (.Assign [.Name (slot F.nm y) py] (.ListComp elt [⟨.Name (slot F.nm x) px, iter, ifs, 0⟩] sc pc) pos) F.env) H s N R X := by
  obtain ⟨b, hb⟩ : ∃ b, swapsWith (.ListComp elt [⟨.Name (slot F.nm x) px, iter, ifs, 0⟩] sc pc) (some (.Name (slot F.nm y) py)) pos.line F.env = pure b := ⟨_, rfl⟩
  cases b with
  | false =>
    refine wpAny_Assign_Name (wpAny_mono (comp_ok fo hsc hIt hT hE hs) (fun v s₁ h₁ => ?_) fun _ _ e => e.toS) hb
    obtain ⟨p, H₁, rv, t₁, k₁, hN⟩ := h₁
    exact store_name fo vy hky t₁ rv fun s' t' kp' _ => ⟨_, _, t', k₁.nil.trans kp', hN⟩
  | true =>
    have hsc' := hsc
    unfold scOk at hsc'
    simp only [Bool.and_eq_true, beq_iff_eq, decide_eq_true_eq] at hsc'
    obtain ⟨⟨⟨⟨⟨⟨⟨hkind, _⟩, _⟩, hnc⟩, hloc⟩, hfr⟩, hx⟩, _⟩ := hsc'
    obtain ⟨cl, hclos, hcl1, hcl2⟩ := closure_ok fo.cells hfr
    have hnames : ∀ y ∈ sc.names, y.2 = .local → sc.names.lookup y.1 = some .local := fun y hy hl => by
      have := List.all_eq_true.mp hloc y hy
      simp [hl] at this; exact this
    unfold EvS
    rw [exec_Assign_Name_used _ _ _ _ hb]
    refine wpAny_bind (wpAny_standAt (wpAny_bind ?_))
    show wpAny _ F.A (do let _ ← comprehension (.ListComp elt [⟨.Name (slot F.nm x) px, iter, ifs, 0⟩] sc pc) sc F.env _ (newList []) false (eval iter F.env) (some (assign (.Name (slot F.nm y) py) F.env))) _ _ s
    refine wpAny_bind (wpAny_mono (wpAny_comprehension_free (use := some (assign (.Name (slot F.nm y) py) F.env)) (Q := fun _ s' => OkS cx F H s N R .next s') rfl hs hclos hkind hnames
      (wpAny_mono hIt (fun xv s₁ h₁ => ?_) fun _ _ e => e.toS)) (fun _ s' hq => wpAny_pure (wpAny_pure hq)) fun _ _ e => e)
    obtain ⟨p, H₁, rv, t₁, k₁, hw⟩ := h₁
    refine iter_ok (F := F) rv t₁ hw fun I xs h' fI g it cI sr hl hc => ?_
    refine comp_block (RR := fun acc C => compPost cx.M F.A _ (some (assign (.Name (slot F.nm y) py) F.env)) _ acc C) fo hsc hcl1 hcl2 hT hE t₁ rfl g fI it cI hl hc ?_
    intro D C s' H' vs mc fC fD hDC ns hD hHD hHC hh k hq
    obtain ⟨t₂, k₂, hN⟩ := comp_fin' t₁ fC fD hDC ns hD hHD hHC hh k hq (Heap.SameBut.refl C s'.heap)
    refine wpAny_assign_Name (store_name fo vy hky t₂ (.obj D) fun s'' t'' kp'' _ => ?_)
    have bC : cx.B.get? C = none := by
      cases e : cx.B.get? C with
      | none => rfl
      | some o => rw [t₁.base _ _ e] at fC; cases fC
    have hH₂C : upd H' D (.list vs) C = none := by rw [upd_ne (Ne.symm hDC)]; exact hHC
    obtain ⟨oC, es, ep, gC, dC, rC⟩ := ns
    have npl : C ∉ plc F := fun hm => by
      rcases List.mem_cons.mp hm with q | hm
      · obtain ⟨o, _, _, _, g, _⟩ := t₁.vars; rw [← q, fC] at g; cases g
      · obtain ⟨p, _, hl⟩ := List.mem_filterMap.mp hm
        obtain ⟨_, _, o, _, g, _⟩ := t₁.cells _ C hl; rw [fC] at g; cases g
    obtain ⟨hC'', oC'', gC'', sm⟩ := kp''.keep C oC gC npl hH₂C
    refine ⟨mc, ⟨oC'', es, ep, gC'', sm.data.trans dC, rC⟩, fun h'' sb => ?_⟩
    have kk : ∀ b o, b ≠ C → s''.heap.get? b = some o → h''.get? b = some o := fun b o n e => by rw [sb.2 b n]; exact e
    have kp₀ : Kp cx (plc F) H s (upd H' D (.list vs)) { s'' with heap := h'' } := by
      have a : Kp cx (plc F) H₁ s₁ (upd H' D (.list vs)) s'' := k₂.nil.trans kp''
      exact k₁.nil.trans (a.touch (I := C) fC ⟨h'', s''.toks, rfl, kk⟩ bC)
    refine ⟨_, _, t''.touchAt (I := C) hC'' bC (fun o e => ?_) (fun env he hf => ?_) (fun q => ?_) (fun nn c hl q => ?_) kk, kp₀, hN⟩
    · rw [gC''] at e; cases e; exact notSolid_dict (sm.data.trans dC)
    · obtain ⟨_, L, o, _, _, hf', _, _, g, _⟩ := t₁.frames env he
      rw [hf] at hf'; cases hf'; rw [fC] at g; cases g
    · exact npl (by rw [← q]; exact List.mem_cons_self ..)
    · exact npl (by rw [← q]; exact mem_plc_cell hl)
end
end Mine
end
section
open PySem PySem.Calls PyProof.Rows
namespace Mine
set_option autoImplicit false
set_option linter.unusedSectionVars false
set_option linter.unusedVariables false

section
variable {cx : Cx} {g : Gl} {fl : List Str} {mg mb : Str → Option Value} {n : Nat}

theorem swaps_none (nm : List Str) (e : AE) (t : Option Expr) (l : Nat) (env : Env) (h : isComp e = false) : swapsWith (e.toE nm) t l env = pure false := by
  cases e with
  | comp => exact nomatch (show true = false from h)
  | _ => rfl
theorem stores_none (nm : List Str) (e : AE) (xs : List Expr) (k : Nat) (p : Pos) (env : Env) (h : isTup e = false) : swappedStores [.Tuple xs k p] (e.toE nm) env = pure none := by
  cases e with
  | tup => exact nomatch (show true = false from h)
  | _ => rfl
theorem noninter {F : Fm} {kd : Kd} {q : Bool} (fo : Fok cx n q kd F) : interactive F.env = false := by unfold interactive; rw [fo.kind]; rfl
theorem stOk_of {nm : List Str} {vis : Nat → Bool} {kd : Kd} {x : Nat} (h : stOk nm vis kd x = true) : vis x = true ∧ (kd (slot nm x) = some .local ∨ kd (slot nm x) = some .cell) := by
  simpa [stOk] using h

variable (ck : Cok cx g fl mg mb n)
include ck
mutual
theorem soundS : ∀ (st : AS) {F : Fm} {kd : Kd} {q : Bool} {m : Loc} {H : AHeap} {s : Shared} {N : NPost} {R : Post} {X : SXPost} {outer : List Env} {L : Addr}, Fok cx n q kd F → F.fs = F.env :: outer → F.env.frame = some L → okS fl F.nm F.vis kd q st = true → St cx F m H s.heap →
    awpS g st N R X m H → EvS cx F (exec (st.toS F.nm) F.env) H s N R X
  | .expr e p, F, kd, q, m, H, s, N, R, X, outer, L, fo, hfs, hf, ok, t, h => by
    replace ok := (show (_ && _) = true from ok); simp only [Bool.and_eq_true, Bool.not_eq_true'] at ok
    refine wpAny_Expr_any (wpAny_mono (soundE ck e fo ok.1 t h) (fun v s₁ h₁ => ?_) fun _ _ e => e.toS) (noninter fo) (swaps_none _ _ _ _ _ ok.2)
    obtain ⟨p, H₁, rv, t₁, k₁, h₁⟩ := h₁
    exact ⟨m, H₁, t₁, k₁.nil, h₁⟩
  | .assign x px e p, F, kd, q, m, H, s, N, R, X, outer, L, fo, hfs, hf, ok, t, h => by
    replace ok := (show (_ && _) = true from ok); simp only [Bool.and_eq_true] at ok
    obtain ⟨vx, hk⟩ := stOk_of ok.2
    by_cases hc : isComp e = true
    · cases e with
      | comp elt y py it cs sc pc =>
        have ok1 := ok.1
        replace ok1 := (show (_ && _) = true from ok1); simp only [Bool.and_eq_true, decide_eq_true_eq] at ok1
        obtain ⟨⟨⟨⟨⟨hit, hsc⟩, he⟩, hcs⟩, hlen⟩, rfl⟩ := ok1
        refine assign_comp (aT := fun Q m H => awpC g cs Q (fun _ _ => False) m H) (aE := fun Q m H => awpE g elt Q (fun _ _ => False) m H) fo hsc vx hk (soundE ck it fo hit t h) (fun {cl C m' H s Q} fo' t' h' => ?_) (fun {cl C m' H s Q} fo' t' h' => ?_) (folded_ok _ _ _)
        · exact soundC ck cs fo' hcs hlen t' h'
        · exact soundE ck elt fo' he t' h'
      | _ => exact nomatch (show false = true from hc)
    · refine wpAny_Assign_Name (wpAny_mono (soundE ck e fo ok.1 t h) (fun v s₁ h₁ => ?_) fun _ _ e => e.toS) (swaps_none _ _ _ _ _ (by simpa using hc))
      obtain ⟨p, H₁, rv, t₁, k₁, hN⟩ := h₁
      exact store_name fo vx hk t₁ rv fun s' t' kp' _ => ⟨_, _, t', k₁.nil.trans kp', hN⟩
  | .assignT xs k pt e p, F, kd, q, m, H, s, N, R, X, outer, L, fo, hfs, hf, ok, t, h => by
    replace ok := (show (_ && _) = true from ok); simp only [Bool.and_eq_true, Bool.not_eq_true'] at ok
    obtain ⟨⟨⟨⟨rfl, he⟩, hc⟩, htp⟩, hxs⟩ := ok
    refine wpAny_Assign_stores (wpAny_mono (soundE ck e fo he t h) (fun v s₁ h₁ => ?_) fun _ _ e => e.toS) (by rw [show swapsWithSole [Expr.Tuple (xs.map fun x => Expr.Name (slot F.nm x.1) x.2) k pt] (AE.toE F.nm e) p.line F.env = swapsWith (AE.toE F.nm e) (some (Expr.Tuple (xs.map fun x => Expr.Name (slot F.nm x.1) x.2) k pt)) p.line F.env by unfold swapsWithSole; rfl]; exact swaps_none _ _ _ _ _ hc) (stores_none _ _ _ _ _ _ htp)
    obtain ⟨pv, H₁, rv, t₁, k₁, hu⟩ := h₁
    cases pv with
    | tup ys =>
      obtain ⟨hyl, hN⟩ := hu
      cases rv with
      | tup ge hle rs =>
        have nl := names_len F.nm F.env xs
        refine wpAny_assign_Tuple (x1 := k) (fo.quiet rfl) ⟨_, ge, rfl, _, rfl⟩ (by rw [nl.1, ← hyl, ← rs.length]; simp) nl.2 fun h' ex => ?_
        have g : ∀ b o, s₁.heap.get? b = some o → h'.get? b = some o := fun b o e => ex b o (Nat.ne_of_lt (Heap.lt_size e)) e
        have kp : Kp cx (plc F) H₁ s₁ H₁ { s₁ with heap := h' } := .grow (tk := s₁.toks) g fun _ _ _ e => e
        have kp0 : Kp cx [] H₁ s₁ H₁ { s₁ with heap := h' } := .grow (tk := s₁.toks) g fun _ _ _ e => e
        refine names_ok (s := { s₁ with heap := h' }) fo xs ys _ hyl.symm (fun x hx => stOk_of (List.all_eq_true.mp hxs x hx)) (rs.mono fun b o e _ => g b o e) (t₁.step kp0 (t₁.heap.grow g)) fun s' t' k' => ?_
        exact ⟨_, _, t', (k₁.nil.trans kp).trans k', hN⟩
    | _ => exact hu.elim
  | .store o i ps e p, F, kd, q, m, H, s, N, R, X, outer, L, fo, hfs, hf, ok, t, h => by
    replace ok := (show (_ && _) = true from ok); simp only [Bool.and_eq_true, Bool.not_eq_true'] at ok
    obtain ⟨⟨⟨ho, hi⟩, he⟩, hc⟩ := ok
    refine wpAny_Assign_Subscript (wpAny_mono (soundE ck e fo he t h) (fun v s₁ h₁ => ?_) fun _ _ e => e.toS) (swaps_none _ _ _ _ _ hc)
    obtain ⟨pv, H₁, rv, t₁, k₁, h₁⟩ := h₁
    refine wpAny_mono (soundE ck o fo ho t₁ h₁) (fun ov s₂ h₂ => ?_) fun _ _ e => (e.older k₁).toS
    obtain ⟨po, H₂, ro, t₂, k₂, h₂⟩ := h₂
    refine wpAny_mono (soundE ck i fo hi t₂ h₂) (fun iv s₃ h₃ => ?_) fun _ _ e => (e.older (k₁.trans k₂)).toS
    obtain ⟨pi, H₃, ri, t₃, k₃, h₃⟩ := h₃
    have so₂ := k₂.solid0 t₁.heap
    have so₃ := k₃.solid0 t₂.heap
    refine wpAny_mono (store_ok (X := fun c H => X c m H) (ro.mono so₃) ri ((rv.mono so₂).mono so₃) t₃ h₃) (fun _ s₄ h₄ => ?_) fun _ _ e => (e.older ((k₁.trans k₂).trans k₃)).toS
    obtain ⟨_, H₄, _, t₄, k₄, h₄⟩ := h₄
    exact ⟨m, H₄, t₄, (((k₁.trans k₂).trans k₃).trans k₄).nil, h₄⟩
  | .sattr o k pa e p, F, kd, q, m, H, s, N, R, X, outer, L, fo, hfs, hf, ok, t, h => by
    replace ok := (show (_ && _) = true from ok); simp only [Bool.and_eq_true, Bool.not_eq_true', decide_eq_true_eq] at ok
    obtain ⟨⟨⟨ho, he⟩, hc⟩, hk⟩ := ok
    refine plainObj_wpAny_Assign_Attribute (wpAny_mono (soundE ck e fo he t h) (fun v s₁ h₁ => ?_) fun _ _ e => e.toS) (swaps_none _ _ _ _ _ hc)
    obtain ⟨pv, H₁, rv, t₁, k₁, h₁⟩ := h₁
    refine wpAny_mono (soundE ck o fo ho t₁ h₁) (fun ov s₂ h₂ => ?_) fun _ _ e => (e.older k₁).toS
    obtain ⟨po, H₂, ro, t₂, k₂, h₂⟩ := h₂
    refine wpAny_mono (sattr_ok (X := fun c H => X c m H) ck hk ro (rv.mono (k₂.solid0 t₁.heap)) t₂ h₂) (fun _ s₃ h₃ => ?_) fun _ _ e => (e.older (k₁.trans k₂)).toS
    obtain ⟨_, H₃, _, t₃, k₃, h₃⟩ := h₃
    exact ⟨m, H₃, t₃, ((k₁.trans k₂).trans k₃).nil, h₃⟩
  | .ite c a b p, F, kd, q, m, H, s, N, R, X, outer, L, fo, hfs, hf, ok, t, h => by
    replace ok := (show (_ && _) = true from ok); simp only [Bool.and_eq_true] at ok
    obtain ⟨⟨hc, ha⟩, hb⟩ := ok
    refine wpAny_bind (wpAny_standAt ?_)
    refine EvS.after (soundB ck c fo hc (fun t h => soundE ck c fo hc t h) t h) fun v b' s₁ H₁ rv t₁ k₁ h₁ => ?_
    have rv : v = b' := rv
    subst rv
    cases v with
    | true => exact soundSs a fo hfs hf ha t₁ (by simpa using h₁)
    | false => exact soundSs b fo hfs hf hb t₁ (by simpa using h₁)
  | .for x px it b p, F, kd, q, m, H, s, N, R, X, outer, L, fo, hfs, hf, ok, t, h => by
    replace ok := (show (_ && _) = true from ok); simp only [Bool.and_eq_true] at ok
    obtain ⟨⟨⟨rfl, hit⟩, hx⟩, hb⟩ := ok
    obtain ⟨vx, hk⟩ := stOk_of hx
    exact for_ok (st := fun y K m H => awpSs g b K R X (m.set x (some y)) H) fo hfs hf vx hk t (soundE ck it fo hit t h) (fun t' h' => soundSs b fo hfs hf hb t' h') (folded_ok _ _ _)
  | .while c b p, F, kd, q, m, H, s, N, R, X, outer, L, fo, hfs, hf, ok, t, h => by
    replace ok := (show (_ && _) = true from ok); simp only [Bool.and_eq_true] at ok
    obtain ⟨⟨rfl, hc⟩, hb⟩ := ok
    obtain ⟨I, ⟨k, hI⟩, hstep⟩ := h
    refine wpAny_While (codeAny_whileLoop (fun k s' => ∃ m' H', St cx F m' H' s'.heap ∧ Kp cx (plc F) H s H' s' ∧ I k m' H') ?_ k ⟨m, H, t, .refl _ _ _ _, hI⟩)
    rintro k s' ⟨m', H', t', k', hI'⟩
    refine wpAny_mono (soundB ck c fo hc (fun t h => soundE ck c fo hc t h) t' (hstep k m' H' hI')) (fun v s₁ h₁ => ?_) fun v s₁ h₁ => ?_
    · obtain ⟨b', H₁, rv, t₁, k₁, h₁⟩ := h₁
      have rv : v = b' := rv
      subst rv
      cases v with
      | true =>
        simp only [if_true] at h₁ ⊢
        refine wpAny_mono (soundSs b fo hfs hf hb t₁ h₁) (fun f s₂ h₂ => ?_) fun v s₂ h₂ => ?_
        · have h₂ := OkS.older (k'.trans k₁.nil) h₂
          cases f with
          | next => obtain ⟨m₂, H₂, t₂, k₂, j, hj, hI₂⟩ := h₂; exact ⟨j, hj, m₂, H₂, t₂, k₂, hI₂⟩
          | ret v => exact h₂
          | brk => exact h₂.elim
          | cont => exact h₂.elim
        · exact noted_ok fo.fr hfs hf t.base (ErS.older (k'.trans k₁.nil) h₂)
      | false =>
        simp only [Bool.false_eq_true, if_false] at h₁ ⊢
        exact wpAny_execs_nil ⟨m', H₁, t₁, k'.trans k₁.nil, h₁⟩
    · exact noted_ok fo.fr hfs hf t.base (ErS.older k' (ErP.toS h₁))
  | .ret e p, F, kd, q, m, H, s, N, R, X, outer, L, fo, hfs, hf, ok, t, h => by
    refine wpAny_Return_some (wpAny_mono (soundE ck e fo ok t h) (fun v s₁ h₁ => ?_) fun _ _ e => e.toS)
    obtain ⟨p, H₁, rv, t₁, k₁, h₁⟩ := h₁
    exact ⟨p, m, H₁, rv, t₁, k₁.nil, h₁⟩
  | .ret0 p, F, kd, q, m, H, s, N, R, X, outer, L, fo, hfs, hf, ok, t, h => wpAny_Return_none ⟨.none, m, H, .none, t, .refl _ _ _ _, h⟩
  | .raise c x msg k pc pm pk p, F, kd, q, m, H, s, N, R, X, outer, L, fo, hfs, hf, ok, t, h => by
    replace ok := (show (_ && _) = true from ok); simp only [Bool.and_eq_true, beq_iff_eq] at ok
    obtain ⟨⟨rfl, hx⟩, ho⟩ := ok
    exact ck.rais fo hx ho t fun e s' y t' k' => ⟨e, c, m, H, rfl, y, t', k'.nil, h⟩
  | .try b hs p, F, kd, q, m, H, s, N, R, X, outer, L, fo, hfs, hf, ok, t, h => by
    replace ok := (show (_ && _) = true from ok); simp only [Bool.and_eq_true, Bool.not_eq_true'] at ok
    obtain ⟨⟨⟨rfl, hb⟩, hh⟩, hnil⟩ := ok
    cases hs with
    | nil => simp [AHs.isNil] at hnil
    | cons k x px y b' p' hs' =>
      have hsb : EvS cx F (execs (b.toSs F.nm) F.env) H s N R (fun c m H => awpHs g (.cons k x px y b' p' hs') c N R m H) := soundSs b fo hfs hf hb t h
      refine wpAny_Try_except (wpAny_mono hsb (fun f s₁ h₁ => ?_) fun v s₁ h₁ => ?_)
      · cases f with
        | next => exact wpAny_execs_nil h₁
        | ret v => exact h₁
        | brk => exact h₁
        | cont => exact h₁
      · obtain ⟨e, c, m', H', rfl, y', t', k', h'⟩ := h₁
        refine note_ok fo.fr hfs hf t' k' t.base y' fun s₂ t₂ k₂ x₂ => ?_
        refine unflight_ok t₂ k₂ t.base x₂ fun s₃ t₃ k₃ x₃ => ?_
        exact soundHs (.cons k x px y b' p' hs') fo hfs hf hh t₃ t.base k₃ x₃ h'
theorem soundSs : ∀ (ss : ASs) {F : Fm} {kd : Kd} {q : Bool} {m : Loc} {H : AHeap} {s : Shared} {N : NPost} {R : Post} {X : SXPost} {outer : List Env} {L : Addr}, Fok cx n q kd F → F.fs = F.env :: outer → F.env.frame = some L → okSs fl F.nm F.vis kd q ss = true → St cx F m H s.heap →
    awpSs g ss N R X m H → EvS cx F (execs (ss.toSs F.nm) F.env) H s N R X
  | .nil, F, kd, q, m, H, s, N, R, X, outer, L, fo, hfs, hf, ok, t, h => wpAny_execs_nil ⟨m, H, t, .refl _ _ _ _, h⟩
  | .cons st ss, F, kd, q, m, H, s, N, R, X, outer, L, fo, hfs, hf, ok, t, h => by
    replace ok := (show (_ && _) = true from ok); simp only [Bool.and_eq_true] at ok
    exact EvS.seq (soundS st fo hfs hf ok.1 t h) fun m₁ s₁ H₁ t₁ h₁ => soundSs ss fo hfs hf ok.2 t₁ h₁
theorem soundHs : ∀ (hs : AHs) {F : Fm} {kd : Kd} {m : Loc} {H H₀ : AHeap} {s s₀ : Shared} {N : NPost} {R : Post} {outer : List Env} {L e : Addr} {c : Nat} {E : Value → Shared → Prop}, Fok cx n true kd F → F.fs = F.env :: outer → F.env.frame = some L → okHs fl F.nm F.vis kd hs = true → St cx F m H s.heap →
    cx.B.StaysIn s₀.heap → Kp cx (plc F) H₀ s₀ H s → ExcOut cx s₀.heap s.heap e c → awpHs g hs c N R m H → wpAny cx.M F.A (handleBy (.ref e) F.env (hs.toHs F.nm)) (OkS cx F H₀ s₀ N R) E s
  | .nil, F, kd, m, H, H₀, s, s₀, N, R, outer, L, e, c, E, fo, hfs, hf, ok, t, t₀, k, x, h => False.elim h
  | .cons kc xn px y b p hs, F, kd, m, H, H₀, s, s₀, N, R, outer, L, e, c, E, fo, hfs, hf, ok, t, t₀, k, x, h => by
    replace ok := (show (_ && _) = true from ok); simp only [Bool.and_eq_true, beq_iff_eq, Bool.not_eq_true'] at ok
    obtain ⟨⟨⟨⟨⟨hg, ho⟩, hy⟩, hb⟩, hnil⟩, hhs⟩ := ok
    obtain ⟨C, hC, hm⟩ := ck.own xn kc ho
    have fo' : Fok cx n false kd (F.mark (.ref e)) := fo.mark
    refine wpAny_handleBy_cons (codeAny_handlers_test (glob_ok (F := F.mark (.ref e)) fo' hg t.mark ck.gns hm ?_)) (by intro q; cases q)
    refine ck.mats t.base x.rep hC fun tk => ?_
    have k' : Kp cx (plc F) H₀ s₀ H { s with toks := tk } := k.trans (.grow (fun _ _ e => e) fun _ _ _ e => e)
    have h' : (if isSub c kc = true then _ else _) := h
    cases hsub : isSub c kc with
    | false =>
      rw [hsub] at h'
      simp only [Bool.false_eq_true, if_false] at h'
      exact soundHs hs (s := { s with toks := tk }) fo hfs hf hhs t t₀ k' x h'
    | true =>
      rw [hsub] at h'
      simp only [if_true] at h'
      cases b with
      | nil => simp [ASs.isNil] at hnil
      | cons b₀ bs =>
        cases y with
        | none =>
          refine codeAny_handlers_suite ?_
          refine unflight_ok (s₁ := { s with toks := tk }) t k' t₀ x fun s₂ t₂ k₂ x₂ => ?_
          have := soundSs (.cons b₀ bs) (F := F.mark (.ref e)) fo' hfs hf hb t₂.mark h'
          exact wpAny_mono this (fun f s₃ h₃ => (OkS.unmark h₃).older k₂) fun _ _ ⟨_, _, _, _, _, _, _, _, f⟩ => f.elim
        | some y =>
          simp only [Bool.and_eq_true, beq_iff_eq] at hy
          refine codeAny_handlers_suite_as ?_
          refine unflight_ok (s₁ := { s with toks := tk }) t k' t₀ x fun s₂ t₂ k₂ x₂ => ?_
          refine store_name fo hy.1 (.inl hy.2) t₂ x₂.rep fun s₃ t₃ k₃ _ => ?_
          have := soundSs (.cons b₀ bs) (F := F.mark (.ref e)) fo' hfs hf hb t₃.mark h'
          refine wpAny_mono this (fun f s₄ h₄ => ?_) fun _ _ ⟨_, _, _, _, _, _, _, _, f⟩ => f.elim
          have h₅ := (OkS.unmark h₄).older (k₂.trans k₃)
          cases f with
          | next =>
            obtain ⟨m₅, H₅, t₅, k₅, hN⟩ := h₅
            exact unbind_ok fo hy.1 hy.2 t₅ fun s₆ t₆ k₆ _ => ⟨_, _, t₆, k₅.trans k₆, hN⟩
          | ret v =>
            obtain ⟨p, m₅, H₅, r₅, t₅, k₅, hR⟩ := h₅
            exact unbind_ok fo hy.1 hy.2 t₅ fun s₆ t₆ k₆ so => ⟨p, _, _, r₅.mono so, t₆, k₅.trans k₆, hR⟩
          | brk => exact h₅.elim
          | cont => exact h₅.elim
end
end
end Mine
end
section
open PySem PySem.Calls PyProof.Rows
namespace Mine
set_option autoImplicit false

structure FnOk (cx : Cx) (fl : List Str) (fd : FuncData) (nm : List Str) (np k : Nat) (kd : Kd) (body : ASs) : Prop where
  glob : fd.globals = cx.ga
  bltn : fd.builtins = cx.ba
  clo : fd.closure = []
  co : fd.scope.isCoroutine = false
  gen : fd.scope.isGenerator = false
  kind : fd.scope.kind = .function
  kdo : kd = fun x => fd.scope.names.lookup x
  nofree : (fd.scope.names.all fun p => p.2 != .free) = true
  bdy : fd.body = .stmts (body.toSs nm)
  bind : ∀ vals : List Value, vals.length = np → bindArgs fd ⟨vals, []⟩ = pure ((nm.take np).zip vals)
  nodup : (nm.take k).Nodup
  le : np ≤ k ∧ k ≤ nm.length
  pkind : ((nm.take np).all fun x => fd.scope.names.lookup x == some .local || fd.scope.names.lookup x == some .cell) = true
  okb : okSs fl nm (fun i => decide (i < k)) (fun x => fd.scope.names.lookup x) true body = true

section
variable {kindOf : Str → Option NameKind}
theorem bindL_other {y : Str} : ∀ (bs : List (Str × Value)) (m : Str → Option Value), y ∉ bs.map (·.1) → bindL kindOf bs m y = m y
  | [], _, _ => rfl
  | (x, v) :: r, m, h => by
    simp only [List.map_cons, List.mem_cons, not_or] at h
    unfold bindL
    rw [bindL_other r _ h.2]
    split
    · simp [h.1]
    · rfl
theorem bindC_other {y : Str} : ∀ (bs : List (Str × Value)) (m : Str → Option Value), y ∉ bs.map (·.1) → bindC kindOf bs m y = m y
  | [], _, _ => rfl
  | (x, v) :: r, m, h => by
    simp only [List.map_cons, List.mem_cons, not_or] at h
    unfold bindC
    rw [bindC_other r _ h.2]
    split
    · rfl
    · simp [h.1]
theorem bindL_at {y : Str} {v : Value} (hk : kindOf y = some .local) : ∀ (bs : List (Str × Value)) (m : Str → Option Value), (bs.map (·.1)).Nodup → (y, v) ∈ bs → bindL kindOf bs m y = some v
  | [], _, _, h => by simp at h
  | (x, w) :: r, m, hn, h => by
    simp only [List.map_cons, List.nodup_cons] at hn
    unfold bindL
    rcases List.mem_cons.mp h with e | h
    · cases e
      rw [bindL_other r _ hn.1, if_pos hk]; simp
    · exact bindL_at hk r _ hn.2 h
theorem bindC_at {y : Str} {v : Value} (hk : kindOf y ≠ some .local) : ∀ (bs : List (Str × Value)) (m : Str → Option Value), (bs.map (·.1)).Nodup → (y, v) ∈ bs → bindC kindOf bs m y = some v
  | [], _, _, h => by simp at h
  | (x, w) :: r, m, hn, h => by
    simp only [List.map_cons, List.nodup_cons] at hn
    unfold bindC
    rcases List.mem_cons.mp h with e | h
    · cases e
      rw [bindC_other r _ hn.1, if_neg hk]; simp
    · exact bindC_at hk r _ hn.2 h
end

theorem cellsFrom_has {x : Str} : ∀ (names : List (Str × NameKind)) (n : Nat) (acc : List (Str × Addr)), ((x, NameKind.cell) ∈ names ∨ (acc.lookup x).isSome = true) → ((cellsFrom n names acc).lookup x).isSome = true
  | [], _, acc, h => by rcases h with h | h; simp at h; exact h
  | (y, k) :: r, n, acc, h => by
    unfold cellsFrom
    split
    · refine cellsFrom_has r _ _ ?_
      rcases h with h | h
      · rcases List.mem_cons.mp h with e | h
        · cases e; right; simp
        · exact .inl h
      · right; rw [List.lookup_cons]; split <;> simp_all
    · rename_i hk
      refine cellsFrom_has r _ _ ?_
      rcases h with h | h
      · rcases List.mem_cons.mp h with e | h
        · cases e; simp at hk
        · exact .inl h
      · exact .inr h
theorem lookup_mem {α : Type} {l : List (Str × α)} {x : Str} {k : α} (h : l.lookup x = some k) : (x, k) ∈ l := mem_of_lookup h

noncomputable def initL (nm : List Str) (np : Nat) (ps : List PV) : Loc := ps.map some ++ List.replicate (nm.length - np) none

section
variable {cx : Cx} {g : Gl} {fl : List Str} {mg mb : Str → Option Value} {n : Nat}

theorem core_fn (ck : Cok cx g fl mg mb n) {fd : FuncData} {nm : List Str} {np k : Nat} {kd : Kd} {body : ASs} {a : Addr} {o : Obj} (fn : FnOk cx fl fd nm np k kd body) (lim : cx.B.NoLimit) (ho : cx.B.get? a = some o) (hd : o.data = .func fd) (hcd : cx.B.CodeRec fd.code fd.qualname)
    {A : Around} {fs : List Env} {H : AHeap} {s : Shared} {vs : List Value} {ps : List PV} {Q : Post} {X : XPost} {R : Result → Shared → Prop} (hfr : A.frames = some fs) (hqu : A.handled = none) (hdep : A.depth + 2 * (n + 1) ≤ 900) (huni : A.units + 8 * (n + 1) + 200 ≤ cLine)
    (tb : cx.B.StaysIn s.heap) (toff : ∀ b o, cx.B.get? b = some o → H b = none) (th : Holds cx s.heap H) (tfr : ∀ env ∈ fs, FrAt cx H s.heap env) (rs : RepL cx s.heap vs ps) (hlen : ps.length = np)
    (h : awpSs g body (fun _ H => Q .none H) Q (fun c _ H => X c H) (initL nm np ps) H)
    (hR : ∀ v p H' s', Rep cx s'.heap v p → Kp cx [] H s H' s' → Holds cx s'.heap H' → Q p H' → R (.ok (.ret v)) s')
    (hX : ∀ e c H' s', ExcOut cx s.heap s'.heap e c → Kp cx [] H s H' s' → Holds cx s'.heap H' → X c H' → R (.error (.ref e)) s') : codeAny cx.M A (.call (.ref a) ⟨vs, []⟩) R s := by
  have hvl : vs.length = np := by rw [rs.length]; exact hlen
  have fresh : ∀ b, s.heap.objs.size ≤ b → s.heap.get? b = none := fun b hb => get_ge_none hb
  have bnone : ∀ b, s.heap.objs.size ≤ b → cx.B.get? b = none := fun b hb => by
    cases e : cx.B.get? b with
    | none => rfl
    | some o => have := fresh b hb; rw [tb _ _ e] at this; cases this
  have hnd : ((nm.take np).Nodup) := by
    have h1 : nm.take np = (nm.take k).take np := by rw [List.take_take, Nat.min_eq_left fn.le.1]
    rw [h1]; exact fn.nodup.sublist (List.take_sublist _ _)
  have htl : (nm.take np).length = np := by rw [List.length_take]; have := fn.le; first | lia | omega
  have hmapz : ((nm.take np).zip vs).map (·.1) = nm.take np := by rw [List.map_fst_zip]; first | lia | omega
  refine (codeAny_call_cells (binds := (nm.take np).zip vs) (by show _ < 1000; first | lia | omega) (tb _ _ ho) hd (lim.keeps tb) (hcd.keeps tb) fn.bdy (fn.bind vs hvl) fn.clo (fun x hx => ?_) (fun s₁ ic => ?_) fn.co fn.gen fn.kind)
  · have hx1 : x.1 ∈ nm.take np := by rw [← hmapz]; exact List.mem_map_of_mem hx
    have := List.all_eq_true.mp fn.pkind x.1 hx1
    simp only [Bool.or_eq_true, beq_iff_eq] at this
    rcases this with h1 | h1
    · exact .inl h1
    · exact .inr ⟨h1, cellsFrom_has _ _ _ (.inl (lookup_mem h1))⟩
  · generalize hEnv : callEnvC fd s.heap.objs.size a = env at ic ⊢
    have eL : env.locals = s.heap.objs.size := by rw [← hEnv]; rfl
    have eF : env.frame = some s.heap.objs.size := by rw [← hEnv]; rfl
    have eK : env.kindOf = fun x => fd.scope.names.lookup x := by rw [← hEnv]; rfl
    have eC : env.cells = cellsFrom (s.heap.objs.size + 1) fd.scope.names [] := by rw [← hEnv]; rfl
    have eG : env.globals = cx.ga := by rw [← hEnv, ← fn.glob]; rfl
    have eB : env.builtins = cx.ba := by rw [← hEnv, ← fn.bltn]; rfl
    have eS : env.scope.kind = .function := by rw [← hEnv]; exact fn.kind
    have eD : fd.scope.names = env.scope.names := by rw [← hEnv]; rfl
    clear hEnv
    have keep := ic.toInCall.keep
    have so : ∀ b o, s.heap.get? b = some o → Solid o → s₁.heap.get? b = some o := fun b o e _ => keep b o e
    let F' : Fm := { A := A.deeper env, env := env, fs := env :: fs, nm := nm, vis := fun i => decide (i < k) }
    have memz : ∀ i v, i < k → (initL nm np ps).getD i none = some v → ∃ x, (slot nm i, x) ∈ (nm.take np).zip vs ∧ Rep cx s₁.heap x v := fun i v hi hv => by
      have hlt : i < np := by
        apply Classical.byContradiction
        intro hge
        have : (initL nm np ps).getD i none = none := by
          unfold initL
          rw [List.getD_eq_getElem?_getD, List.getElem?_append_right (by simp; first | lia | omega)]
          cases e : (List.replicate (nm.length - np) (none : Option PV))[i - (ps.map some).length]? with
          | none => rfl
          | some o => rw [List.getElem?_replicate] at e; split at e <;> simp_all
        rw [this] at hv; cases hv
      have hp : ps[i]? = some v := by
        unfold initL at hv
        rw [List.getD_eq_getElem?_getD, List.getElem?_append_left (by simp; first | lia | omega)] at hv
        rw [List.getElem?_map] at hv
        cases e : ps[i]? with
        | none => rw [e] at hv; simp at hv
        | some w => rw [e] at hv; simp at hv; rw [hv]
      obtain ⟨x, ex, rx⟩ := rs.get hp
      refine ⟨x, ?_, rx.mono so⟩
      have hin : i < nm.length := by have := fn.le; first | lia | omega
      have e1 : (nm.take np)[i]? = some (slot nm i) := by
        rw [List.getElem?_take, if_pos hlt]
        unfold slot
        rw [List.getD_eq_getElem?_getD, List.getElem?_eq_getElem hin]; rfl
      have : ((nm.take np).zip vs)[i]? = some (slot nm i, x) := by rw [List.getElem?_zip_eq_some]; exact ⟨e1, ex⟩
      exact List.mem_of_getElem? this
    have fo' : Fok cx n true kd F' := by
      refine ⟨?_, eS, by rw [fn.kdo]; exact eK, eG, eB, fun _ => hqu, ?_, ?_, fun x hx => ?_, fun x y c h1 h2 => ?_, fun i j hi hj e => ?_⟩
      · show (A.deeper env).frames = some (env :: fs)
        unfold Around.deeper; rw [hfr]; rfl
      · show A.depth + 1 + 2 * n + 1 ≤ 900; first | lia | omega
      · show A.units + 3 + 8 * n + 204 ≤ cLine; first | lia | omega
      · rw [fn.kdo] at hx
        rcases hx with hx | hx
        · exact Option.isSome_iff_exists.mp (by show (env.cells.lookup x).isSome = true; rw [eC]; exact cellsFrom_has _ _ _ (.inl (lookup_mem hx)))
        · have := List.all_eq_true.mp fn.nofree _ (lookup_mem hx)
          simp at this
      · exact name_of_addr ic.apart (mem_of_lookup h1) (mem_of_lookup h2)
      · have hi' : i < k := of_decide_eq_true hi
        have hj' : j < k := of_decide_eq_true hj
        have hl := fn.le.2
        have ei : (nm.take k)[i]? = some (slot nm i) := by
          rw [List.getElem?_take, if_pos hi']; unfold slot; rw [List.getD_eq_getElem?_getD, List.getElem?_eq_getElem (by first | lia | omega)]; rfl
        have ej : (nm.take k)[j]? = some (slot nm j) := by
          rw [List.getElem?_take, if_pos hj']; unfold slot; rw [List.getD_eq_getElem?_getD, List.getElem?_eq_getElem (by first | lia | omega)]; rfl
        have e' : slot nm i = slot nm j := e
        rw [e'] at ei
        exact (List.getElem?_inj (by rw [List.length_take]; first | lia | omega) fn.nodup).mp (by rw [ei, ej])
    have st' : St cx F' (initL nm np ps) H s₁.heap := by
      obtain ⟨oL, es, ep, gL, dL, rL⟩ := id ic.toInCall.ns
      rw [eL] at gL
      refine ⟨fun b o e => keep b o (tb b o e), toff, th.grow keep, fun env' he => ?_, ⟨?_, ?_⟩, ⟨oL, es, ep, _, by rw [← eL] at gL; exact gL, dL, ic.toInCall.ns, fun i v h1 h2 h3 => ?_⟩, fun nn c hc => ?_⟩
      · rcases List.mem_cons.mp he with rfl | he
        · exact ⟨by rw [eS]; decide, s.heap.objs.size, oL, es, ep, eF, th.fresh (fresh _ (Nat.le_refl _)), bnone _ (Nat.le_refl _), gL, dL⟩
        · obtain ⟨hk, L, o, es, ep, hf, hH, hb, ho, hd'⟩ := tfr env' he
          exact ⟨hk, L, o, es, ep, hf, hH, hb, keep L o ho, hd'⟩
      · show H env.locals = none
        rw [eL]; exact th.fresh (fresh _ (Nat.le_refl _))
      · show cx.B.get? env.locals = none
        rw [eL]; exact bnone _ (Nat.le_refl _)
      · obtain ⟨x, hx, rx⟩ := memz i v (of_decide_eq_true h1) h3
        exact ⟨x, bindL_at h2 _ _ (by rw [hmapz]; exact hnd) hx, rx⟩
      · obtain ⟨oc, gc, dc⟩ := ic.cell nn c hc
        have hlt := ic.above nn c (mem_of_lookup hc)
        rw [eL] at hlt
        refine ⟨th.fresh (fresh _ (Nat.le_of_lt hlt)), bnone _ (Nat.le_of_lt hlt), oc, _, gc, dc, fun i v h1 h2 h3 h4 => ?_⟩
        obtain ⟨x, hx, rx⟩ := memz i v (of_decide_eq_true h1) h4
        subst h2
        exact ⟨x, bindC_at h3 _ _ (by rw [hmapz]; exact hnd) hx, rx⟩
    have kp₁ : Kp cx (plc F') H s H s₁ := by
      obtain ⟨h', tk, e⟩ := ic.toInCall.same
      rw [e]
      exact .grow (fun b o q => by have := keep b o q; rw [e] at this; exact this) fun _ _ _ q => q
    have down : ∀ {H' : AHeap} {s' : Shared}, Kp cx (plc F') H s H' s' → Kp cx [] H s H' s' := fun {H' s'} kp => kp.sub fun b o e hb => by
      exfalso
      rcases List.mem_cons.mp hb with q | hb
      · rw [q] at e; have : s.heap.get? env.locals = none := by rw [eL]; exact fresh _ (Nat.le_refl _)
        rw [show F'.env.locals = env.locals from rfl, this] at e; cases e
      · obtain ⟨p, _, hl⟩ := List.mem_filterMap.mp hb
        have hlt := ic.above p.1 b (mem_of_lookup hl)
        rw [eL] at hlt
        rw [fresh b (Nat.le_of_lt hlt)] at e; cases e
    have body := soundSs ck body (F := F') (outer := fs) (L := s.heap.objs.size) fo' rfl eF (by rw [fn.kdo]; exact fn.okb) st' h
    refine wpAny_mono body (fun f s' h' => ?_) fun e s' h' => ?_
    · cases f with
      | next =>
        obtain ⟨m', H', t', kp', hq⟩ := h'
        exact hR .none .none H' _ .none (down (kp₁.trans kp')) t'.heap hq
      | ret v =>
        obtain ⟨p, m', H', rv, t', kp', hq⟩ := h'
        exact hR v p H' _ rv (down (kp₁.trans kp')) t'.heap hq
      | brk => exact h'.elim
      | cont => exact h'.elim
    · obtain ⟨e, c, m', H', rfl, x', t', kp', hx⟩ := h'
      have kpp := kp₁.trans kp'
      have x₀ := x'.older kp₁.alive
      unfold leaving
      refine wpAny_bind (note_ok (F := F') (outer := fs) fo'.fr rfl eF t' kpp tb x₀ fun s₂ t₂ k₂ x₂ => ?_)
      refine unflight_ok t₂ k₂ tb x₂ fun s₃ t₃ k₃ x₃ => ?_
      exact hX e c H' _ x₃ (down k₃) t₃.heap hx
theorem call_fn (ck : Cok cx g fl mg mb n) {fd : FuncData} {nm : List Str} {np k : Nat} {kd : Kd} {body : ASs} {a : Addr} {o : Obj} (fn : FnOk cx fl fd nm np k kd body) (lim : cx.B.NoLimit) (ho : cx.B.get? a = some o) (hd : o.data = .func fd) (hcd : cx.B.CodeRec fd.code fd.qualname)
    {F : Fm} {m : Loc} {H : AHeap} {s : Shared} {vs : List Value} {ps : List PV} {Q : Post} {X : XPost} (fF : Fcl (n + 1) F) (rs : RepL cx s.heap vs ps) (hlen : ps.length = np) (t : St cx F m H s.heap)
    (h : awpSs g body (fun _ H => Q .none H) Q (fun c _ H => X c H) (initL nm np ps) H) : Ev (Rep cx) cx F (call (.ref a) vs []) m H s Q X :=
  wpAny_call (core_fn ck fn lim ho hd hcd fF.fr fF.quiet fF.depth fF.units t.base t.off t.heap t.frames rs hlen h (fun v p H' s' rv kp hh q => ⟨p, H', rv, t.step kp hh, kp, q⟩) fun e c H' s' x kp hh q => ⟨e, c, H', rfl, x.exc, t.step kp hh, kp, q⟩)
end
end Mine
end
section
open PySem PySem.W PySem.Calls PyProof.Rows
namespace Mine
set_option autoImplicit false
set_option maxRecDepth 100000

/-! the program's globals, told from its laid heap -/
noncomputable def kmg (K : Frag) (x : Str) : Option Value := match K.lookup mainGlobals with
  | some o => (match o.data with | .dict es _ => nsFind es x | _ => none)
  | none => none
theorem kmg_eq {K : Frag} {h : Heap} {mg : Str → Option Value} (X : K.In h) (hs : (K.lookup mainGlobals).isSome = true) (hn : h.Ns mainGlobals mg) : mg = kmg K := by
  obtain ⟨o, e⟩ := Option.isSome_iff_exists.mp hs
  rw [hn.eq_nsMap]
  funext x
  unfold Heap.nsMap kmg
  rw [X _ _ e, e]
  cases o.data <;> rfl

noncomputable def ownChk (K : Frag) (cs : List Addr) : Bool := onms.all fun p => kmg K p.1 == (cs[p.2]?).map Value.ref && (cs[p.2]?).isSome
noncomputable def clsChk (K : Frag) (D : Addr) : Bool := ((findIn K (.ref D) "__getattribute__" == some (some (.builtin "BaseException.__getattribute__"))) && (findIn K (.ref D) "__getattr__" == some none) && (subIn K (.ref D) (.type "BaseException") == some true)) && (clsIn K D).isSome && (findIn K (.ref D) "__class__" == some (some (.builtin "object.__class__")))
  && (specialIn K (.builtin "object.__class__") "__get__" == some (some (.builtin "getset_descriptor.__get__"))) && (takesIn K (.builtin "object.__class__") == some true) && (mroIn K D (.type "object") == some true)
  && (kitOne K (.ref D) (.type "ValueError") == some true)
noncomputable def excChk (K : Frag) (cs : List Addr) : Bool := cs.all (clsChk K) && (List.range cs.length).all fun k => (List.range cs.length).all fun c =>
  match cs[k]?, cs[c]? with
  | some A, some B => (kitOne K (.ref A) (.ref B) == some (isSub k c)) && (exmOne K (.ref A) (.ref B) == some (isSub k c))
  | _, _ => false
noncomputable def bltNames : List Str := ["len", "list", "tuple", "range", "max", "min", "int", "str", "all", "any", "abs", "isinstance", "bool", "ValueError"]
noncomputable def bltChk (K : Frag) : Bool := bltNames.all fun x => kmg K x == none

theorem excChk_at {K : Frag} {cs : List Addr} (h : excChk K cs = true) {k c : Nat} {A B : Addr} (hk : cs[k]? = some A) (hc : cs[c]? = some B) : clsChk K A = true ∧ kitOne K (.ref A) (.ref B) = some (isSub k c) ∧ exmOne K (.ref A) (.ref B) = some (isSub k c) := by
  unfold excChk at h
  simp only [Bool.and_eq_true] at h
  have h1 := List.all_eq_true.mp h.1 A (List.mem_of_getElem? hk)
  have kl : k < cs.length := (List.getElem?_eq_some_iff.mp hk).1
  have cl : c < cs.length := (List.getElem?_eq_some_iff.mp hc).1
  have h2 := List.all_eq_true.mp (List.all_eq_true.mp h.2 k (List.mem_range.mpr kl)) c (List.mem_range.mpr cl)
  rw [hk, hc] at h2
  simp only [Bool.and_eq_true, beq_iff_eq] at h2
  exact ⟨h1, h2.1, h2.2⟩

section
variable {K : Frag} {x D : Addr} {ox : Obj} {prog : Program} {w : World} {A : Around} {E : Value → Shared → Prop} {s : Shared}
end

section
variable {K : Frag} {x D : Addr} {ox : Obj}

end

section
variable {cx : Cx} {K : Frag} {cs : List Addr} {mg mb : Str → Option Value}

theorem Rep.excI {h : Heap} {v : Value} {k : Nat} (r : Rep cx h v (.exc k)) : ∃ e o vs C, v = .ref e ∧ h.get? e = some o ∧ o.cls = .ref C ∧ o.data = .fields vs ∧ cx.cls k = some C ∧ o.dict = Option.none := by
  cases r with | exc e c d x y => exact ⟨_, _, _, _, rfl, e, c, d, x, y⟩
theorem instAt_of {h : Heap} {e C : Addr} {o : Obj} {vs : Array Value} (g : h.get? e = some o) (c : o.cls = .ref C) (d : o.data = .fields vs) (y : o.dict = none) : InstAt h e o C none :=
  ⟨g, c, by unfold notCls; rw [d], by rw [y]; trivial⟩

theorem mats_ok (X : K.In cx.B) (hcs : cx.cls = fun c => cs[c]?) (hk : excChk K cs = true) {A : Around} {s : Shared} {e : Value} {k c : Nat} {C : Addr} {QQ : Bool → Shared → Prop} {E : Value → Shared → Prop} (t : cx.B.StaysIn s.heap) (r : Rep cx s.heap e (.exc k)) (hc : cx.cls c = some C)
    (hQ : ∀ tk, QQ (isSub k c) { s with toks := tk }) : wpAny cx.M A (excMatches e (.ref C)) QQ E s := by
  obtain ⟨a, o, vs, D, rfl, g, hcl, hd, hD, hy⟩ := r.excI
  rw [hcs] at hc hD
  obtain ⟨_, _, h2⟩ := excChk_at hk hD hc
  exact exm_one (M := cx.M) (X.keeps t) (instAt_of g hcl hd hy).type h2 _ _ _ _ (fun _ _ e => e) (hQ s.toks)

theorem rais_ok {n : Nat} (gns : cx.B.Ns cx.ga mg) {F : Fm} {kd : Kd} {m : Loc} {H : AHeap} {s : Shared} {c : Nat} {x msg : Str} {k : Nat} {pc pm pk p : Pos} {QQ : Flow → Shared → Prop} {E : Value → Shared → Prop} {C : Addr} {bm : List Value} {newId initId B : String}
    (O : OwnCls x C bm newId mg cx.B) (FB : ExcBaseFacts B newId initId bm) (hC : cx.cls c = some C)
    (fo : Fok cx n true kd F) (gk : isGlob kd x = true) (t : St cx F m H s.heap) (hE : ∀ e s', Exc cx F.env.frame s.heap s'.heap e c → St cx F m H s'.heap → Kp cx [] H s H s' → E (.ref e) s') :
    wpAny cx.M F.A (exec (.Raise (some (.Call (.Name x pc) [.Constant (.str msg) k pm] [] pk)) none p) F.env) QQ E s := by
  obtain ⟨tl, N, nm, q, bs, hdct, sn, sub, ab, col, dd, k0, k1, k2, k3, k5, mN, gC, hN, hni, T⟩ := O.obj
  refine wpAny_Raise_call_subT (C := C) (nm := nm) (q := q) (N := N) (bs := bs) (bm := tl) (hdct := hdct) (sn := sn) (sub := sub) (ab := ab) (col := col) (dd := dd) (k0 := k0) (k1 := k1) (k2 := k2) (k3 := k3) (k5 := k5)
    FB (mN := mN) (T.hasType FB.hasBase) (fo.quiet rfl) rfl hni (glob_ok fo gk t gns O.bound ⟨rfl, ?_⟩)
  refine evalArgs_plain (spliced_cons (Constant_str (k := k) (pos := pm) (spliced_nil ⟨rfl, by rw [sizeLine_eq]; simp, t.base _ _ gC, hN.keeps t.base, T.keeps t.base, fun h' e hm => ?_⟩)))
  obtain ⟨tt, ge, _, _⟩ := hm.there
  have kp : Kp cx [] H s H { s with heap := h', toks := s.toks + 1 } := .grow hm.keeps fun _ _ _ q => q
  exact hE e _ ⟨hm.new, _, _, C, _, ge, rfl, ⟨hC, rfl⟩, rfl, rfl, .inl rfl⟩ (t.step kp (t.heap.grow hm.keeps)) kp

theorem boot_blt : ∀ b : Blt, bootBuiltins b.name = some b.val := by intro b; cases b <;> decide +kernel
theorem boot_isi : bootBuiltins "isinstance" = some (.builtin "isinstance") := by decide +kernel
theorem boot_bty : ∀ T ∈ ["str", "list", "tuple", "bool", "int", "ValueError"], bootBuiltins (Str.ofString T) = some (.type T) := by decide +kernel
end
end Mine
end
section
open PySem PySem.W PySem.Calls PyProof.Rows
namespace Mine
set_option autoImplicit false

noncomputable def bmVE : List Value := [.type "ValueError", .type "Exception", .type "BaseException", .type "object"]
noncomputable def ownsChk (p : Program) : Bool := onms.all fun q => (ownsOf p).any fun o => o.name == q.1 && o.newId == "ValueError.__new__" && o.bm == bmVE

theorem lookup_in {x : Str} {c : Nat} (h : onm x = some c) : (x, c) ∈ onms := mem_of_lookup h

section
variable {cx : Cx} {K : Frag} {cs : List Addr} {mg mb : Str → Option Value} {g : Gl} {p : Program} {loose : List Str} {mean : ExcName → Option Value}

theorem cok_base (X : K.In cx.B) (hs : (K.lookup mainGlobals).isSome = true) (T : Top p loose mean mg mb cx.B) (hga : cx.ga = mainGlobals) (hba : cx.ba = builtinsNs) (hcs : cx.cls = fun c => cs[c]?) (hk : excChk K cs = true) (how : ownChk K cs = true) (hbl : bltChk K = true) (hoc : ownsChk p = true)
    (mach : ∃ C N, cx.icls = some C ∧ mg "Machine" = some (.ref C) ∧ ClsAt cx.B C N cx.mN ∧ ∀ x ∈ (["__getattribute__", "__getattr__", "__setattr__"] : List Str) ++ atns, cx.mN x = none) (consts : ∀ x q, g.G x = some q → ∃ v, mg x = some v ∧ Rep cx cx.B v q) : Cok cx g [] mg mb 0 := by
  have hmg := kmg_eq X hs T.g
  have free : ∀ x ∈ bltNames, mg x = none := fun x hx => by
    rw [hmg]
    have := List.all_eq_true.mp hbl x hx
    simpa using this
  have nn : ∀ x ∈ bltNames, x ≠ Str.ofString "__name__" := by decide +kernel
  have own : ∀ x c, onm x = some c → ∃ C, cx.cls c = some C ∧ mg x = some (.ref C) := fun x c hx => by
    have := List.all_eq_true.mp how (x, c) (lookup_in hx)
    simp only [Bool.and_eq_true, beq_iff_eq] at this
    obtain ⟨C, hC⟩ := Option.isSome_iff_exists.mp this.2
    refine ⟨C, by rw [hcs]; exact hC, ?_⟩
    rw [hmg, this.1, hC]; rfl
  refine ⟨by rw [hga]; exact T.g, ?_, by rw [hba]; exact T.b, consts, fun b => ?_, ⟨free _ (by decide +kernel), (T.builtins _ (by decide +kernel)).trans boot_isi⟩, fun t ht => ?_, own, ?_, ?_, mach, fun f hf => ?_, fun f hf => ?_⟩
  · obtain ⟨o, e⟩ := Option.isSome_iff_exists.mp hs
    exact ⟨mainGlobals, o, by decide, X _ _ e⟩
  · have hb : Str.ofString b.name ∈ bltNames := by cases b <;> decide +kernel
    exact ⟨free _ hb, (T.builtins _ (nn _ hb)).trans (boot_blt b)⟩
  · have hb : ∀ t ∈ ["str", "list", "tuple", "bool", "int", "ValueError"], Str.ofString t ∈ bltNames := by decide +kernel
    exact ⟨free _ (hb t ht), (T.builtins _ (nn _ (hb t ht))).trans (boot_bty t ht)⟩
  · intro F kd m H s c x msg k pc pm pk pp QQ E fo gk ho t hE
    have := List.all_eq_true.mp hoc (x, c) (lookup_in ho)
    obtain ⟨o, hom, hoo⟩ := List.any_eq_true.mp this
    simp only [Bool.and_eq_true, beq_iff_eq] at hoo
    obtain ⟨⟨h1, h2⟩, h3⟩ := hoo
    obtain ⟨C, O, _⟩ := T.own o hom
    obtain ⟨C', hC', hb'⟩ := own x c ho
    have O' := O.own
    rw [h1, h2, h3] at O'
    have : C = C' := by have := O'.bound; rw [hb'] at this; cases this; rfl
    subst this
    exact rais_ok (by rw [hga]; exact T.g) O' PySem.F.excBase_ValueError hC' fo gk t hE
  · exact fun t r hc hQ => mats_ok X hcs hk t r hc hQ
  · simp at hf
  · simp at hf
end

section
variable {cx : Cx} {mg mb : Str → Option Value} {g : Gl} {fl : List Str} {n : Nat}
theorem Fcl.less {F : Fm} (fo : Fcl (n + 1) F) : Fcl n F := ⟨fo.fr, fo.quiet, by have := fo.depth; (first | lia | omega), by have := fo.units; (first | lia | omega)⟩
theorem Fok.less {q : Bool} {kd : Kd} {F : Fm} (fo : Fok cx (n + 1) q kd F) : Fok cx n q kd F := ⟨fo.fr, fo.kind, fo.kdo, fo.glob, fo.bltn, fo.quiet, by have := fo.depth; (first | lia | omega), by have := fo.units; (first | lia | omega), fo.cells, fo.apart, fo.inj⟩

theorem Cok.add (ck : Cok cx g fl mg mb n) {f : Str} {fd : FuncData} {nm : List Str} {np k : Nat} {kd : Kd} {body : ASs} {a : Addr} {o : Obj} (hf : fad cx mg f = some (.ref a)) (hcl : isMeth f = true → o.cls = .type "function") (fn : FnOk cx fl fd nm np k kd body) (lim : cx.B.NoLimit) (ho : cx.B.get? a = some o) (hd : o.data = .func fd) (hcd : cx.B.CodeRec fd.code fd.qualname)
    (spec : ∀ {ps : List PV} {H : AHeap} {Q : Post} {X : XPost}, g.C f ps H Q X → ps.length = np ∧ awpSs g body (fun _ H => Q .none H) Q (fun c _ H => X c H) (initL nm np ps) H) : Cok cx g (f :: fl) mg mb (n + 1) := by
  refine ⟨ck.gns, ck.mods, ck.bns, ck.consts, ck.blts, ck.isi, ck.bty, ck.own, fun fo gk ho t hE => ck.rais fo.less gk ho t hE, ck.mats, ck.mach, fun f' h' => ?_, fun f' h' {ps H Q X} hc {F m s vs a'} fo hm rs t => ?_⟩
  · rw [List.contains_cons, Bool.or_eq_true] at h'
    rcases h' with h' | h'
    · rw [beq_iff_eq.mp h']; exact ⟨a, o, fd, hf, ho, hd, hcl⟩
    · exact ck.fns f' h'
  · by_cases e : f' = f
    · subst e
      rw [hf] at hm; cases hm
      obtain ⟨h1, h2⟩ := spec hc
      exact call_fn ck fn lim ho hd hcd fo rs h1 t h2
    · rw [List.contains_cons, Bool.or_eq_true] at h'
      exact ck.calls f' (h'.resolve_left fun q => e (beq_iff_eq.mp q)) hc fo.less hm rs t

noncomputable def fnChk (fl : List Str) (nm : List Str) (np k : Nat) (sc : Scope) (body : ASs) : Bool :=
  !sc.isCoroutine && !sc.isGenerator && decide (sc.kind = .function) && (sc.names.all fun p => p.2 != .free) && decide ((nm.take k).Nodup) && decide (np ≤ k) && decide (k ≤ nm.length)
    && ((nm.take np).all fun x => sc.names.lookup x == some .local || sc.names.lookup x == some .cell) && okSs fl nm (fun i => decide (i < k)) (fun x => sc.names.lookup x) true body

theorem Cok.addT {p : Program} {loose : List Str} {mean : ExcName → Option Value} (ck : Cok cx g fl mg mb n) {f : Str} (hnm : isMeth f = false) (T : Top p loose mean mg mb cx.B) (hga : cx.ga = mainGlobals) (hba : cx.ba = builtinsNs) {d : DefRec} {nm : List Str} {np k : Nat} {sc : Scope} {body : ASs}
    (hd : d ∈ recsOf p) (h1 : d.name = f) (h2 : d.body = body.toSs nm) (h3 : d.scope = sc) (hb : ∀ (pm code doc : Value) (vals : List Value), vals.length = np → bindArgs (docDef d.name d.params d.body d.scope pm code doc) ⟨vals, []⟩ = pure ((nm.take np).zip vals))
    (hc : fnChk fl nm np k sc body = true)
    (spec : ∀ {ps : List PV} {H : AHeap} {Q : Post} {X : XPost}, g.C f ps H Q X → ps.length = np ∧ awpSs g body (fun _ H => Q .none H) Q (fun c _ H => X c H) (initL nm np ps) H) : Cok cx g (f :: fl) mg mb (n + 1) := by
  obtain ⟨a, o, pm, code, doc, hm, ho, hdat, hcd⟩ := T.fn d hd
  unfold fnChk at hc
  simp only [Bool.and_eq_true, Bool.not_eq_true', decide_eq_true_eq] at hc
  obtain ⟨⟨⟨⟨⟨⟨⟨⟨c1, c2⟩, c3⟩, c4⟩, c5⟩, c6⟩, c7⟩, c8⟩, c9⟩ := hc
  rw [h1] at hm
  subst h3
  exact ck.add (kd := fun x => d.scope.names.lookup x) ((fad_glob hnm).trans hm) (fun q => by rw [hnm] at q; cases q) ⟨hga.symm, hba.symm, rfl, c1, c2, c3, rfl, c4, by show FuncBody.stmts d.body = _; rw [h2], hb pm code doc, c5, ⟨c6, c7⟩, c8, c9⟩ T.nolimit ho hdat hcd spec
theorem Cok.addM {c : ClsRec} {C N : Addr} (ck : Cok cx g fl mg mb n) (P : PlainAt cx.B c C N cx.mN) (lim : cx.B.NoLimit) (hga : cx.ga = mainGlobals) (hba : cx.ba = builtinsNs) {q f : Str} {r : MethRec} {nm : List Str} {np k : Nat} {sc : Scope} {body : ASs}
    (hq : (q, f) ∈ mtab) (hr : r ∈ c.meths) (h1 : r.name = q) (h2 : r.body = body.toSs nm) (h3 : r.scope = sc) (hb : ∀ (pm code doc : Value) (vals : List Value), vals.length = np → bindArgs (methDef r.name (c.name ++ "." ++ r.name) r.params r.body r.scope pm code doc) ⟨vals, []⟩ = pure ((nm.take np).zip vals))
    (hc : fnChk fl nm np k sc body = true)
    (spec : ∀ {ps : List PV} {H : AHeap} {Q : Post} {X : XPost}, g.C f ps H Q X → ps.length = np ∧ awpSs g body (fun _ H => Q .none H) Q (fun c _ H => X c H) (initL nm np ps) H) : Cok cx g (f :: fl) mg mb (n + 1) := by
  obtain ⟨a, o, pm, code, doc, hm, ho, hcl, hdat, hcd⟩ := P.meths r hr
  unfold fnChk at hc
  simp only [Bool.and_eq_true, Bool.not_eq_true', decide_eq_true_eq] at hc
  obtain ⟨⟨⟨⟨⟨⟨⟨⟨c1, c2⟩, c3⟩, c4⟩, c5⟩, c6⟩, c7⟩, c8⟩, c9⟩ := hc
  rw [h1] at hm
  subst h3
  exact ck.add (kd := fun x => r.scope.names.lookup x) ((fad_meth (q, f) hq).trans hm) (fun _ => hcl) ⟨hga.symm, hba.symm, rfl, c1, c2, c3, rfl, c4, by show FuncBody.stmts r.body = _; rw [h2], hb pm code doc, c5, ⟨c6, c7⟩, c8, c9⟩ lim ho hdat hcd spec
end
end Mine
end
section
open PySem PySem.W PySem.Calls PyProof.Rows
namespace Mine
set_option autoImplicit false

noncomputable def strOf? : Value → Option Str
  | .str x _ => some x
  | _ => none
noncomputable def tupChk (K : Frag) (b : Addr) (ss : List Str) : Bool := match K.lookup b with
  | some ⟨.type "tuple", none, .seq items _, sl⟩ => (sl.size == 0) && (items.toList.map strOf? == ss.map some) && decide (ss.length ≤ 100)
  | _ => false
noncomputable def strChk (K : Frag) (P : Str → Option Value) (x s : Str) : Bool := false

section
variable {cx : Cx} {K : Frag}
theorem strs_repl {h : Heap} : ∀ {vs : List Value} {ss : List Str}, vs.map strOf? = ss.map some → RepL cx h vs (ss.map .str)
  | [], [], _ => .nil
  | [], _ :: _, e => by simp at e
  | _ :: _, [], e => by simp at e
  | v :: vs, s :: ss, e => by
    simp only [List.map_cons, List.cons.injEq] at e
    refine .cons ?_ (strs_repl e.2)
    cases v <;> simp [strOf?] at e
    obtain ⟨rfl, _⟩ := e
    exact .str _ _
theorem tup_of {h : Heap} (X : K.In h) {b : Addr} {ss : List Str} (hk : tupChk K b ss = true) : Rep cx h (.ref b) (.tup (ss.map .str)) := by
  have hL : LIM = 1048576 := rfl
  unfold tupChk at hk
  split at hk
  · rename_i items n sl e
    simp only [Bool.and_eq_true, beq_iff_eq, decide_eq_true_eq] at hk
    have hsl : sl = #[] := Array.eq_empty_of_size_eq_zero hk.1.1
    subst hsl
    exact .tup (X _ _ e) (by simp; first | lia | omega) (strs_repl hk.1.2)
  · cases hk


end
end Mine
end
section
open PySem PySem.W PySem.Calls PyProof.Rows
namespace Mine
set_option autoImplicit false

/-! steps of the abstract walk: what the definitions do not tell by themselves -/
section
variable {g : Gl} {N : NPost} {R : Post} {X : SXPost} {E : XPost} {m : Loc} {H : AHeap} {Q : Post} {QB : BPost}
theorem O_ite {c A B : Prop} [Decidable c] (a : c → A) (b : ¬ c → B) : if c then A else B := by
  split
  · rename_i h; exact a h
  · rename_i h; exact b h
theorem O_glob {x : Str} {v : PV} (e : g.G x = some v) (h : Q v H) : varW (g.G x) Q H := by rw [e]; exact h
theorem O_mulI {a b : Int} (k : a.natAbs < 2 ^ 60 ∨ b.natAbs < 2 ^ 60) (h : Q (.int (a * b)) H) : BinW Q H .Mult (.int a) (.int b) := .mulI a b k h
theorem O_modI {a b : Int} {K : PV → Prop} {R : Prop} (k : 0 < b) (h : K (.int (a % b))) : pureOr (binF .Mod (.int a) (.int b)) K R := by
  show pureOr (match (if 0 < b then some (a % b) else none) with | some i => some (PV.int i) | none => none) _ _
  rw [if_pos k]; exact h
theorem O_divI {a b : Int} {K : PV → Prop} {R : Prop} (k : 0 < b) (k' : b < 1073741824) (h : K (.int (a / b))) : pureOr (binF .FloorDiv (.int a) (.int b)) K R := by
  show pureOr (match (if 0 < b then if b < 1073741824 then some (a / b) else none else none) with | some i => some (PV.int i) | none => none) _ _
  rw [if_pos k, if_pos k']; exact h
theorem O_recvS {s : Str} {P : Prop} (h : P) : RecvW P H .join (.str s) := .str h
theorem O_powI (h : Q (.int 1000000000) H) : BinW Q H .Pow (.int 10) (.int 9) := .powI h
theorem O_addS {a b : Str} (k : a.length + b.length ≤ LIM) (h : Q (.str (a ++ b)) H) : BinW Q H .Add (.str a) (.str b) := .addS a b k h
theorem O_addT {a b : List PV} (k : a.length + b.length ≤ LIM) (h : Q (.tup (a ++ b)) H) : BinW Q H .Add (.tup a) (.tup b) := .addT a b k h
theorem O_addL {a b : Addr} {xs ys : List PV} (ha : H a = some (.list xs)) (hb : H b = some (.list ys)) (k : xs.length + ys.length ≤ LIM) (h : ∀ c H', H c = none → H' c = some (.list (xs ++ ys)) → Ext H H' → Q (.obj c) H') : BinW Q H .Add (.obj a) (.obj b) := .addL a b xs ys ha hb k h
theorem O_mulL {a : Addr} {n : Int} {xs : List PV} (ha : H a = some (.list xs)) (k1 : n ≤ LIM) (k2 : -LIM ≤ n) (k3 : xs.length * n.toNat ≤ LIM) (h : ∀ c H', H c = none → H' c = some (.list (repL n xs)) → Ext H H' → Q (.obj c) H') : BinW Q H .Mult (.obj a) (.int n) := .mulL a n xs ha k1 k2 k3 h
theorem cmpF_eqT {v w : PV} {b c : Bool} (e : EqT H v w b) (h : cmpF .Eq v w = some c) : c = b := by
  unfold cmpF at h
  split at h
  · split at h
    · cases e with | val e => cases e with | atom e => cases e; exact (Option.some.inj h).symm
    · cases h
  · split at h
    · cases e with | val e => cases e with | atom e => cases e; exact (Option.some.inj h).symm
    · cases h
  · split at h <;> cases h
theorem cmpF_not (v w : PV) : cmpF .NotEq v w = (cmpF .Eq v w).map (!·) := by
  unfold cmpF
  split
  · split <;> rfl
  · split <;> rfl
  · split <;> rfl
theorem O_eqT {v w : PV} {b : Bool} {K : Bool → Prop} (e : EqT H v w b) (h : K b) : pureOr (cmpF .Eq v w) K (CmpW K H .Eq v w) := by
  cases q : cmpF .Eq v w with
  | none => exact .eq e h
  | some c => rw [cmpF_eqT e q]; exact h
theorem O_neT {v w : PV} {b : Bool} {K : Bool → Prop} (e : EqT H v w b) (h : K (!b)) : pureOr (cmpF .NotEq v w) K (CmpW K H .NotEq v w) := by
  rw [cmpF_not]
  cases q : cmpF .Eq v w with
  | none => exact .ne e h
  | some c => rw [cmpF_eqT e q]; exact h
theorem O_inD {K : Bool → Prop} {k : Str} {a : Addr} {kvs : List (Str × PV)} (ha : H a = some (.dict kvs)) (h : K (hasKey kvs k)) : CmpW K H .In (.str k) (.obj a) := .inD ha h
theorem O_niD {K : Bool → Prop} {k : Str} {a : Addr} {kvs : List (Str × PV)} (ha : H a = some (.dict kvs)) (h : K (!hasKey kvs k)) : CmpW K H .NotIn (.str k) (.obj a) := .niD ha h
theorem O_subT {xs : List PV} {k : Int} {x : PV} {K : PV → Prop} {R : Prop} (e : itemAt xs k = some x) (h : K x) : pureOr (subF (.tup xs) (.int k)) K R := by
  show pureOr (itemAt xs k) _ _
  rw [e]; exact h
theorem O_subL {a : Addr} {xs : List PV} {k : Int} {x : PV} (ha : H a = some (.list xs)) (e : itemAt xs k = some x) (h : Q x H) : SubW Q H (.obj a) (.int k) := .list ha e h
theorem O_subTape {a : Addr} {n : Nat} (ha : H a = some (.tape n)) (h : Q (.int n) H) : SubW Q H (.obj a) (.int 0) := .tape ha h
theorem O_subD {a : Addr} {kvs : List (Str × PV)} {k : Str} {x : PV} (ha : H a = some (.dict kvs)) (e : dget kvs k = some x) (h : Q x H) : SubW Q H (.obj a) (.str k) := .dict ha e h
theorem O_subF {kvs : List (Str × PV)} {k : Str} {x : PV} (e : dget kvs k = some x) (h : Q x H) : SubW Q H (.fdt kvs) (.str k) := .fdt e h
theorem O_subFls {xs : List Int} {k x : Int} (e : itemAt xs k = some x) (h : Q (.int x) H) : SubW Q H (.fls xs) (.int k) := .fls e h
theorem O_subS {s x : Str} {k : Int} (l : s.length ≤ LIM) (e : signAt s k = some x) (h : Q (.str x) H) : SubW Q H (.str s) (.int k) := .str l e h
theorem O_fromL {a : Addr} {xs : List PV} {k : Int} (ha : H a = some (.list xs)) (h : ∀ c H', H c = none → H' c = some (.list (xs.drop (cutAt xs.length k))) → Ext H H' → Q (.obj c) H') : FromW Q H (.obj a) (.int k) := .list ha h
theorem O_toL {a : Addr} {xs : List PV} {k : Int} (ha : H a = some (.list xs)) (h : ∀ c H', H c = none → H' c = some (.list (xs.take (cutAt xs.length k))) → Ext H H' → Q (.obj c) H') : ToW Q H (.obj a) (.int k) := .list ha h
theorem O_toF {xs : List Int} {k : Int} (h : ∀ c H', H c = none → H' c = some (.list ((xs.take (cutAt xs.length k)).map .int)) → Ext H H' → Q (.obj c) H') : ToW Q H (.fls xs) (.int k) := .fls h
theorem O_toS {s : Str} {k : Int} (l : s.length ≤ LIM) (h : Q (.str ⟨(s.cps.toList.take (cutAt s.length k)).toArray⟩) H) : ToW Q H (.str s) (.int k) := .str l h
theorem O_fromT {xs ys : List PV} {k : Int} (e : xs.drop (cutAt xs.length k) = ys) (h : Q (.tup ys) H) : FromW Q H (.tup xs) (.int k) := .tup (by rw [e]; exact h)
theorem O_toT {xs ys : List PV} {k : Int} (e : xs.take (cutAt xs.length k) = ys) (h : Q (.tup ys) H) : ToW Q H (.tup xs) (.int k) := .tup (by rw [e]; exact h)
theorem O_alloc {o : AObj} (h : ∀ c H', H c = none → H' c = some o → Ext H H' → Q (.obj c) H') : alloc o Q H := h
theorem O_lenS {s : Str} (l : s.length ≤ LIM) (h : Q (.int s.length) H) : BltW Q H .len [.str s] := .lenS s l h
theorem O_lenL {a : Addr} {xs : List PV} (ha : H a = some (.list xs)) (h : Q (.int xs.length) H) : BltW Q H .len [.obj a] := .lenL a xs ha h
theorem O_lenD {a : Addr} {kvs : List (Str × PV)} (ha : H a = some (.dict kvs)) (h : Q (.int kvs.length) H) : BltW Q H .len [.obj a] := .lenD a kvs ha h
theorem O_listL {a : Addr} {xs : List PV} (ha : H a = some (.list xs)) (h : ∀ c H', H c = none → H' c = some (.list xs) → Ext H H' → Q (.obj c) H') : BltW Q H .list [.obj a] := .listL a xs ha h
theorem O_listT {xs : List PV} (h : ∀ c H', H c = none → H' c = some (.list xs) → Ext H H' → Q (.obj c) H') : BltW Q H .list [.tup xs] := .listT xs h
theorem O_tupL {a : Addr} {xs : List PV} (ha : H a = some (.list xs)) (h : Q (.tup xs) H) : BltW Q H .tuple [.obj a] := .tupL a xs ha h
theorem O_range {n : Int} (k : n.natAbs ≤ LIM) (h : Q (.rng n) H) : BltW Q H .range [.int n] := .range n k h
theorem O_maxL {a : Addr} {ns : List Int} (ha : H a = some (.list (ns.map .int))) (k : 0 < ns.length) (h : ∀ M, M ∈ ns → (∀ x ∈ ns, x ≤ M) → Q (.int M) H) : BltW Q H .max [.obj a] := .maxL a ns ha k h
theorem O_allL {a : Addr} {bs : List Bool} (ha : H a = some (.list (bs.map .bool))) (h : Q (.bool (bs.all id)) H) : BltW Q H .all [.obj a] := .allL a bs ha h
theorem O_attr {a d : Addr} {kvs : List (Str × PV)} {nm : Str} {x : PV} (ha : H a = some (.inst d)) (hd : H d = some (.attrs kvs)) (e : dget kvs nm = some x) (h : Q x H) : AttrW Q H nm (.obj a) := .mk ha hd e h
theorem O_umeth {a d : Addr} {kvs : List (Str × PV)} {nm : Str} {P : Prop} (ha : H a = some (.inst d)) (hd : H d = some (.attrs kvs)) (e : dget kvs nm = none) (h : P) : UmW P H nm (.obj a) := .mk ha hd e h
theorem O_sattr {a d : Addr} {kvs : List (Str × PV)} {nm : Str} {x : PV} {K : AHeap → Prop} (ha : H a = some (.inst d)) (hd : H d = some (.attrs kvs)) (l : kvs.length < 100) (h : ∀ H', H' d = some (.attrs (dset kvs nm x)) → ExtB d H H' → K H') : SattrW K H nm x (.obj a) := .mk ha hd l h
theorem O_strI {i : Int} (k : i.natAbs < 10 ^ 18) (h : Q (.str (Str.ofString (toString i))) H) : BltW Q H .str [.int i] := .strI i k h
theorem O_recv {m : Meth} {a : Addr} {xs : List PV} {P : Prop} (ha : H a = some (.list xs)) (k : m.onL = true) (h : P) : RecvW P H m (.obj a) := .list ha k h
theorem O_append {a : Addr} {xs : List PV} {x : PV} (ha : H a = some (.list xs)) (k : xs.length < LIM) (h : ∀ H', H' a = some (.list (xs ++ [x])) → ExtB a H H' → Q .none H') : MethW Q H .append (.obj a) [x] := .append a xs x ha k h
theorem O_join {s : Str} {a : Addr} {ss : List Str} (ha : H a = some (.list (ss.map .str))) (e : s.length = 0) (k : (ss.map (·.length)).sum ≤ LIM) (h : Q (.str (Str.join s ss)) H) : MethW Q H .join (.str s) [.obj a] := .join s a ss ha e k h
theorem O_storeD {a : Addr} {kvs : List (Str × PV)} {k : Str} {x : PV} {K : AHeap → Prop} (ha : H a = some (.dict kvs)) (l : kvs.length < LIM) (h : ∀ H', H' a = some (.dict (dset kvs k x)) → ExtB a H H' → K H') : StoreW K H (.obj a) (.str k) x := .dict ha l h
theorem O_storeT {a : Addr} {n : Nat} {j : Int} {K : AHeap → Prop} (ha : H a = some (.tape n)) (j0 : 0 ≤ j) (h : ∀ H', H' a = some (.tape j.toNat) → ExtB a H H' → K H') : StoreW K H (.obj a) (.int 0) (.int j) := .tape ha j0 h
theorem O_isL {c : ICls} {a : Addr} {xs : List PV} {K : Bool → Prop} (ha : H a = some (.list xs)) (b : c.basic = true) (h : K (c.hits 5)) : IsiW K H c (.obj a) := .list b ha h
theorem O_itL {a : Addr} {xs : List PV} {K : List PV → (AHeap → Prop) → Prop} (ha : H a = some (.list xs)) (h : K xs fun H' => H' a = some (.list xs)) : ItemsW K H (.obj a) := .list ha h
end

theorem forW_ind {src : AHeap → Prop} {st : PV → (Loc → AHeap → Prop) → Loc → AHeap → Prop} {N : Loc → AHeap → Prop} (I : List PV → Loc → AHeap → Prop) (h0 : ∀ m H, I [] m H → src H ∧ N m H)
    (h1 : ∀ x xs m H, I (x :: xs) m H → src H ∧ ∀ K : Loc → AHeap → Prop, (∀ m' H', I xs m' H' → K m' H') → st x K m H) : ∀ xs m H, I xs m H → forW src st N xs m H
  | [], m, H, h => h0 m H h
  | x :: xs, m, H, h => ⟨(h1 x xs m H h).1, (h1 x xs m H h).2 _ fun m' H' h' => forW_ind I h0 h1 xs m' H' h'⟩
theorem compW_ind {src : AHeap → Prop} {el : PV → (List PV → AHeap → Prop) → AHeap → Prop} {Q : List PV → AHeap → Prop} (I : List PV → List PV → AHeap → Prop) (h0 : ∀ acc H, I [] acc H → src H ∧ Q acc H)
    (h1 : ∀ x xs acc H, I (x :: xs) acc H → src H ∧ ∀ K : List PV → AHeap → Prop, (∀ vs H', I xs (acc ++ vs) H' → K vs H') → el x K H) : ∀ xs acc H, I xs acc H → compW src el Q xs acc H
  | [], acc, H, h => h0 acc H h
  | x :: xs, acc, H, h => ⟨(h1 x xs acc H h).1, (h1 x xs acc H h).2 _ fun vs H' h' => compW_ind I h0 h1 xs (acc ++ vs) H' h'⟩

theorem mod_lt {a k : Int} (h : 0 < k) : 0 ≤ a % k ∧ a % k < k := ⟨Int.emod_nonneg _ (by first | lia | omega), Int.emod_lt_of_pos _ h⟩
theorem Ext.at {H H' : AHeap} {a : Addr} {o : AObj} (e : Ext H H') (h : H a = some o) : H' a = some o := e a o h
theorem ExtB.at {H H' : AHeap} {a b : Addr} {o : AObj} (e : ExtB a H H') (n : b ≠ a) (h : H b = some o) : H' b = some o := e b o n h
theorem ne_of {H : AHeap} {a b : Addr} {o : AObj} (h : H a = some o) (h' : H b = none) : a ≠ b := by rintro rfl; rw [h] at h'; cases h'
theorem Ext.refl (H : AHeap) : Ext H H := fun _ _ e => e
theorem Ext.trans {H H₁ H₂ : AHeap} (a : Ext H H₁) (b : Ext H₁ H₂) : Ext H H₂ := fun x o e => b x o (a x o e)
theorem ExtB.trans {H H₁ H₂ : AHeap} {t : Addr} (a : ExtB t H H₁) (b : ExtB t H₁ H₂) : ExtB t H H₂ := fun x o n e => b x o n (a x o n e)
theorem Ext.toB {H H' : AHeap} (e : Ext H H') (t : Addr) : ExtB t H H' := fun x o _ h => e x o h
/-- a new list that was changed is still new -/
theorem ExtB.fresh {H H₁ H₂ : AHeap} {a : Addr} (n : H a = none) (e : Ext H H₁) (b : ExtB a H₁ H₂) : Ext H H₂ := fun x o h => b x o (ne_of h n) (e x o h)
theorem itemAt_nat {α : Type} {xs : List α} {n : Nat} {x : α} {i : Int} (hi : i = n) (h : xs[n]? = some x) : itemAt xs i = some x := by
  subst hi; unfold itemAt; rw [if_pos (by first | lia | omega)]; simpa using h
theorem O_addS' {H : AHeap} {Q : Post} {a b : Str} (k : a.length + b.length ≤ LIM) (h : ∀ S, S = a ++ b → Q (.str S) H) : BinW Q H .Add (.str a) (.str b) := .addS a b k (h _ rfl)
theorem str_len_append (a b : Str) : (a ++ b).length = a.length + b.length := by
  show (a.cps ++ b.cps).size = a.cps.size + b.cps.size
  simp
theorem join_len {e : Str} (he : e.length = 0) : ∀ ss : List Str, (∀ s ∈ ss, s.length = 1) → (Str.join e ss).length = ss.length
  | [], _ => rfl
  | [x], h => by simpa [Str.join] using h x (by simp)
  | x :: y :: r, h => by
    have ih := join_len he (y :: r) fun s hs => h s (List.mem_cons_of_mem _ hs)
    show (x ++ e ++ Str.join e (y :: r)).length = _
    rw [str_len_append, str_len_append, ih, he, h x (by simp)]
    simp; first | lia | omega
theorem sum_ones : ∀ ss : List Str, (∀ s ∈ ss, s.length = 1) → (ss.map (·.length)).sum = ss.length
  | [], _ => rfl
  | x :: r, h => by
    rw [List.map_cons, List.sum_cons, sum_ones r fun s hs => h s (List.mem_cons_of_mem _ hs), h x (by simp), List.length_cons]; first | lia | omega
theorem sign_at {s : Str} {i : Int} (h0 : 0 ≤ i) (h1 : i < s.length) : ∃ x, signAt s i = some x ∧ x.length = 1 := by
  obtain ⟨n, rfl⟩ := Int.eq_ofNat_of_zero_le h0
  have hn : n < s.cps.toList.length := by
    have : n < s.length := by first | lia | omega
    simpa [Str.length] using this
  refine ⟨⟨#[s.cps.toList[n]]⟩, ?_, rfl⟩
  unfold signAt
  rw [itemAt_nat rfl (List.getElem?_eq_getElem hn)]
  rfl
theorem I_pos {c : Prop} [Decidable c] {A B : Prop} (h : c) (a : A) : if c then A else B := by rw [if_pos h]; exact a
theorem I_neg {c : Prop} [Decidable c] {A B : Prop} (h : ¬ c) (b : B) : if c then A else B := by rw [if_neg h]; exact b
theorem EqL.strs {H : AHeap} {n : Nat} : ∀ ss tt : List Str, EqL H n (ss.map .str) (tt.map .str) (decide (ss = tt))
  | [], [] => .nil
  | [], t :: tt => by simpa using EqL.r (H := H) (n := n) (.str t) (tt.map .str)
  | s :: ss, [] => by simpa using EqL.l (H := H) (n := n) (.str s) (ss.map .str)
  | s :: ss, t :: tt => by
    have := EqL.c (EqV.str (H := H) (n := n) s t) (EqL.strs ss tt)
    have e : decide (s :: ss = t :: tt) = ((s == t) && decide (ss = tt)) := by
      by_cases h1 : s = t <;> by_cases h2 : ss = tt <;> simp [h1, h2]
    rw [e]; exact this
theorem eq_strs {H : AHeap} (ss tt : List Str) : EqT H (.tup (ss.map .str)) (.tup (tt.map .str)) (decide (ss = tt)) := .val (.tup (n := 39) (EqL.strs ss tt))
end Mine
end
section
open PySem PySem.W PySem.Calls PyProof.Rows
namespace Mine
set_option autoImplicit false
/-! the call from outside -/
section
variable {cx : Cx} {g : Gl} {fl : List Str} {mg mb : Str → Option Value} {n : Nat}
theorem top_fn (ck : Cok cx g fl mg mb n) {fd : FuncData} {nm : List Str} {np k : Nat} {kd : Kd} {body : ASs} {a : Addr} {o : Obj} (fn : FnOk cx fl fd nm np k kd body) (lim : cx.B.NoLimit) (ho : cx.B.get? a = some o) (hd : o.data = .func fd) (hcd : cx.B.CodeRec fd.code fd.qualname)
    {A : Around} {s : Shared} {vs : List Value} {ps : List PV} {Q : Post} {R : Result → Shared → Prop} (hfr : A.frames = some []) (hqu : A.handled = none) (hdep : A.depth + 2 * (n + 1) ≤ 900) (huni : A.units + 8 * (n + 1) + 200 ≤ cLine)
    (tb : cx.B.StaysIn s.heap) (rs : RepL cx s.heap vs ps) (hlen : ps.length = np)
    (h : awpSs g body (fun _ H => Q .none H) Q (fun _ _ _ => False) (initL nm np ps) (fun _ => none))
    (hR : ∀ v p H' s', Rep cx s'.heap v p → Kp cx [] (fun _ => none) s H' s' → Q p H' → R (.ok (.ret v)) s') : codeAny cx.M A (.call (.ref a) ⟨vs, []⟩) R s :=
  core_fn (X := fun _ _ => False) ck fn lim ho hd hcd hfr hqu hdep huni tb (fun _ _ _ => rfl) (fun _ _ e => nomatch e) (fun _ he => nomatch he) rs hlen h (fun v p H' s' rv kp _ q => hR v p H' s' rv kp q) fun _ _ _ _ _ _ _ f => f.elim

theorem law_top {p : Program} {loose : List Str} {mean : ExcName → Option Value} (ck : Cok cx g fl mg mb n) (T : Top p loose mean mg mb cx.B) (hga : cx.ga = mainGlobals) (hba : cx.ba = builtinsNs) {d : DefRec} {nm : List Str} {k : Nat} {sc : Scope} {body : ASs}
    (hd : d ∈ recsOf p) (h1 : d.name = "law") (h2 : d.body = body.toSs nm) (h3 : d.scope = sc) (hb : ∀ (pm code doc : Value) (vals : List Value), vals.length = 1 → bindArgs (docDef d.name d.params d.body d.scope pm code doc) ⟨vals, []⟩ = pure ((nm.take 1).zip vals))
    (hc : fnChk fl nm 1 k sc body = true) {s : Shared} (hs : cx.B = s.heap) {fa l : Addr} {items : Array Value} {ns : List Int} (hmg : mg "law" = some (.ref fa)) (il : s.heap.IsList l items) (ia : IntsAre items.toList ns) (hl : ns.length ≤ LIM) (hn : n ≤ 200)
    (spec : ∀ {Q : Post}, (∀ H, Q (.bool true) H) → awpSs g body (fun _ H => Q .none H) Q (fun _ _ _ => False) (initL nm 1 [.fls ns]) (fun _ => none))
    {R : Result → Shared → Prop} (hR : ∀ h' tk, (∀ b o, s.heap.get? b = some o → h'.get? b = some o) → R (.ok (.ret (.bool true))) { s with heap := h', toks := tk }) : codeAny cx.M callerA (.call (.ref fa) ⟨[.ref l], []⟩) R s := by
  obtain ⟨a, o, pm, code, doc, hm, ho, hdat, hcd⟩ := T.fn d hd
  unfold fnChk at hc
  simp only [Bool.and_eq_true, Bool.not_eq_true', decide_eq_true_eq] at hc
  obtain ⟨⟨⟨⟨⟨⟨⟨⟨c1, c2⟩, c3⟩, c4⟩, c5⟩, c6⟩, c7⟩, c8⟩, c9⟩ := hc
  rw [h1, hmg] at hm
  cases hm
  subst h3
  have hB : cx.B.StaysIn s.heap := by rw [hs]; exact fun _ _ e => e
  refine top_fn (Q := fun p _ => p = .bool true) (kd := fun x => d.scope.names.lookup x) ck ⟨hga.symm, hba.symm, rfl, c1, c2, c3, rfl, c4, by show FuncBody.stmts d.body = _; rw [h2], hb pm code doc, c5, ⟨c6, c7⟩, c8, c9⟩ T.nolimit ho hdat hcd
    (A := callerA) rfl rfl ?_ ?_ hB (.cons (.fls (by rw [hs]; exact il) ia hl) .nil) rfl (spec (Q := fun p _ => p = .bool true) fun _ => rfl) fun v p H' s' rv kp hq => ?_
  · have : callerA.depth = 301 := by decide +kernel
    first | lia | omega
  · have : callerA.units = 4 := rfl
    have : 4 + 8 * 501 + 200 ≤ cLine := by decide +kernel
    first | lia | omega
  · subst hq
    cases rv
    obtain ⟨h', tk, rfl⟩ := kp.same
    exact hR h' tk fun b o e => kp.base b o (by rw [hs]; exact e) e
end
end Mine
end
section
open PySem PySem.W PySem.Calls PyProof.Rows
namespace Mine
set_option autoImplicit false

/-! the program's constants, told from its laid heap -/
noncomputable def refAt (K : Frag) (x : Str) : Addr := match kmg K x with
  | some (.ref a) => a
  | _ => 0
noncomputable def dictL (K : Frag) (a : Addr) : List (Str × Tok × Value) := match K.lookup a with
  | some o => (match o.data with
    | .dict es _ => es.toList.filterMap fun e => match e.key with | .str s t => some (s, t, e.val) | _ => none
    | _ => [])
  | none => []
noncomputable def dictEp (K : Frag) (a : Addr) : Nat := match K.lookup a with
  | some o => (match o.data with | .dict _ n => n | _ => 0)
  | none => 0
noncomputable def entV (P : Params) (l : List (Str × Tok × Value)) : Array DictEntry := (l.map fun e => ({ hash := PyData.keyHash P e.1, key := .str e.1 e.2.1, val := e.2.2 } : DictEntry)).toArray
noncomputable def valChk (K : Frag) (v : Value) : PV → Bool
  | .str s => strOf? v == some s
  | .tup xs => (match v with
    | .ref b => (match xs.mapM fun x => (match x with | .str s => some s | _ => none) with | some ss => tupChk K b ss | none => false)
    | _ => false)
  | _ => false

section
variable {cx : Cx} {K : Frag}
theorem mapM_strs : ∀ {xs : List PV} {ss : List Str}, (xs.mapM fun x => (match x with | .str s => some s | _ => none : Option Str)) = some ss → xs = ss.map .str
  | [], ss, h => by simp at h; subst h; rfl
  | x :: xs, ss, h => by
    rw [List.mapM_cons] at h
    cases x with
    | str s =>
      cases q : xs.mapM (fun x => (match x with | .str s => some s | _ => none : Option Str)) with
      | none => rw [q] at h; simp at h
      | some tt =>
        rw [q] at h
        simp at h
        subst h
        rw [mapM_strs q]; rfl
    | _ => simp at h
theorem val_of {h : Heap} (X : K.In h) {v : Value} {q : PV} (hk : valChk K v q = true) : Rep cx h v q := by
  cases q with
  | str s =>
    cases v <;> simp [valChk, strOf?] at hk
    subst hk
    exact .str _ _
  | tup xs =>
    cases v with
    | ref b =>
      simp only [valChk] at hk
      split at hk
      · rename_i ss e
        rw [mapM_strs e]
        exact tup_of X hk
      · cases hk
    | _ => simp [valChk] at hk
  | _ => simp [valChk] at hk
theorem fdt_pairsV {h : Heap} (X : K.In h) : ∀ {l : List (Str × Tok × Value)} {kvs : List (Str × PV)}, l.map (·.1) = kvs.map (·.1) → ((l.zip kvs).all fun e => valChk K e.1.2.2 e.2.2) = true → RepK cx h (l.map fun e => (e.1, e.2.2)) kvs
  | [], [], _, _ => .nil
  | [], _ :: _, e, _ => by simp at e
  | _ :: _, [], e, _ => by simp at e
  | (k, t, a) :: l, (k', q) :: kvs, e, hk => by
    simp only [List.map_cons, List.cons.injEq] at e
    simp only [List.zip_cons_cons, List.all_cons, Bool.and_eq_true] at hk
    obtain ⟨rfl, e⟩ := e
    exact .cons (val_of X hk.1) (fdt_pairsV X e hk.2)
theorem fdt_ofV {h : Heap} (X : K.In cx.B) {x : Str} {mg : Str → Option Value} {kvs : List (Str × PV)} (hm : mg = kmg K) (h1 : kmg K x = some (.ref (refAt K x)))
    (hl : K.lookup (refAt K x) = some { cls := .type "dict", data := .dict (entV cx.w.params (dictL K (refAt K x))) (dictEp K (refAt K x)) })
    (hkv : (dictL K (refAt K x)).map (·.1) = kvs.map (·.1)) (hn : (kvs.map (·.1)).Nodup) (hk : (((dictL K (refAt K x)).zip kvs).all fun e => valChk K e.1.2.2 e.2.2) = true) (hh : cx.B.StaysIn h) : ∃ v, mg x = some v ∧ Rep cx h v (.fdt kvs) := by
  refine ⟨_, by rw [hm]; exact h1, ?_⟩
  generalize hla : dictL K (refAt K x) = l at hl hkv hk
  refine .fdt (vs := l.map fun e => (e.1, e.2.2)) ⟨_, _, _, X _ _ hl, ⟨rfl, rfl, rfl⟩, rfl, ?_, ?_, ?_⟩ (fdt_pairsV (X.keeps hh) hkv hk)
  · intro e he
    unfold entV at he
    simp only [List.mem_toArray, List.mem_map] at he
    obtain ⟨x, _, rfl⟩ := he
    exact ⟨x.1, by simp [Cx.sk, PySem.strKind, Value.isStrOf], rfl⟩
  · unfold entV
    simp only [List.toList_toArray]
    clear hl hla hn hkv hk h1
    induction l with
    | nil => exact .nil
    | cons x l ih => exact .cons (by simp [Cx.sk, PySem.strKind, Value.isStrOf]) rfl ih
  · rw [List.map_map]
    show (l.map (·.1)).Nodup
    rw [hkv]; exact hn
end
noncomputable def intChk (K : Frag) (x : Str) (i : Int) : Bool := match kmg K x with
  | some (.int j _) => j == i
  | _ => false
theorem int_of {cx : Cx} {K : Frag} {x : Str} {i : Int} {mg : Str → Option Value} {h : Heap} (hm : mg = kmg K) (hk : intChk K x i = true) : ∃ v, mg x = some v ∧ Rep cx h v (.int i) := by
  unfold intChk at hk
  split at hk
  · rename_i j t e
    rw [beq_iff_eq] at hk
    subst hk
    exact ⟨_, by rw [hm]; exact e, .int _ _⟩
  · cases hk
end Mine
end
section
open PySem PySem.W PySem.Calls PyProof.Rows
namespace Mine
set_option autoImplicit false
/-! the functions of the program, told whole -/
abbrev RecT := Option (Str × List Stmt × Scope)
abbrev BndT := Option (Sem (List (Str × Value)))
noncomputable def recL (V : Program) (i : Nat) : RecT := ((recsOf V)[i]?).map fun d => (d.name, d.body, d.scope)
noncomputable def recR (x : Str) (b : ASs) (nm : List Str) (sc : Scope) : RecT := some (x, b.toSs nm, sc)
noncomputable def bndL (V : Program) (i : Nat) (pm code doc : Value) (vals : List Value) : BndT := ((recsOf V)[i]?).map fun d => bindArgs (docDef d.name d.params d.body d.scope pm code doc) ⟨vals, []⟩
noncomputable def bndR (nm : List Str) (np : Nat) (vals : List Value) : BndT := some (pure ((nm.take np).zip vals))
inductive RecC (V : Program) (x : Str) (b : ASs) (nm : List Str) (sc : Scope) (np : Nat) : Prop
  | mk (d : DefRec) (hd : d ∈ recsOf V) (h1 : d.name = x) (h2 : d.body = b.toSs nm) (h3 : d.scope = sc) (hb : ∀ (pm code doc : Value) (vals : List Value), vals.length = np → bindArgs (docDef d.name d.params d.body d.scope pm code doc) ⟨vals, []⟩ = pure ((nm.take np).zip vals)) : RecC V x b nm sc np
theorem rec_of {V : Program} (i : Nat) {x : Str} {b : ASs} {nm : List Str} {sc : Scope} {np : Nat} (h : recL V i = recR x b nm sc) (k : ∀ pm code doc vals, vals.length = np → bndL V i pm code doc vals = bndR nm np vals) : RecC V x b nm sc np := by
  delta recL recR at h
  delta bndL bndR at k
  cases q : (recsOf V)[i]? with
  | none => rw [q] at h; cases h
  | some d =>
    rw [q] at h k
    injection h with h
    injection h with h1 h
    injection h with h2 h3
    exact ⟨d, List.mem_of_getElem? q, h1, h2, h3, fun pm code doc vals hl => Option.some.inj (k pm code doc vals hl)⟩
noncomputable def metL (c : ClsRec) (i : Nat) : RecT := (c.meths[i]?).map fun d => (d.name, d.body, d.scope)
noncomputable def mndL (c : ClsRec) (i : Nat) (pm code doc : Value) (vals : List Value) : BndT := (c.meths[i]?).map fun d => bindArgs (methDef d.name (c.name ++ "." ++ d.name) d.params d.body d.scope pm code doc) ⟨vals, []⟩
inductive RecM (c : ClsRec) (x : Str) (b : ASs) (nm : List Str) (sc : Scope) (np : Nat) : Prop
  | mk (d : MethRec) (hd : d ∈ c.meths) (h1 : d.name = x) (h2 : d.body = b.toSs nm) (h3 : d.scope = sc) (hb : ∀ (pm code doc : Value) (vals : List Value), vals.length = np → bindArgs (methDef d.name (c.name ++ "." ++ d.name) d.params d.body d.scope pm code doc) ⟨vals, []⟩ = pure ((nm.take np).zip vals)) : RecM c x b nm sc np
theorem met_of {c : ClsRec} (i : Nat) {x : Str} {b : ASs} {nm : List Str} {sc : Scope} {np : Nat} (h : metL c i = recR x b nm sc) (k : ∀ pm code doc vals, vals.length = np → mndL c i pm code doc vals = bndR nm np vals) : RecM c x b nm sc np := by
  delta metL recR at h
  delta mndL bndR at k
  cases q : c.meths[i]? with
  | none => rw [q] at h; cases h
  | some d =>
    rw [q] at h k
    injection h with h
    injection h with h1 h
    injection h with h2 h3
    exact ⟨d, List.mem_of_getElem? q, h1, h2, h3, fun pm code doc vals hl => Option.some.inj (k pm code doc vals hl)⟩
theorem len1 {P : List Value → Prop} (h : ∀ a, P [a]) (l : List Value) (e : l.length = 1) : P l := by
  cases l with
  | nil => cases e
  | cons a l => cases l with | nil => exact h a | cons _ _ => cases e
theorem len2 {P : List Value → Prop} (h : ∀ a b, P [a, b]) (l : List Value) (e : l.length = 2) : P l := by
  cases l with
  | nil => cases e
  | cons a l => exact len1 (P := fun l => P (a :: l)) (h a) l (Nat.succ.inj e)
theorem len3 {P : List Value → Prop} (h : ∀ a b c, P [a, b, c]) (l : List Value) (e : l.length = 3) : P l := by
  cases l with
  | nil => cases e
  | cons a l => exact len2 (P := fun l => P (a :: l)) (h a) l (Nat.succ.inj e)
theorem len4 {P : List Value → Prop} (h : ∀ a b c d, P [a, b, c, d]) (l : List Value) (e : l.length = 4) : P l := by
  cases l with
  | nil => cases e
  | cons a l => exact len3 (P := fun l => P (a :: l)) (h a) l (Nat.succ.inj e)
theorem len5 {P : List Value → Prop} (h : ∀ a b c d f, P [a, b, c, d, f]) (l : List Value) (e : l.length = 5) : P l := by
  cases l with
  | nil => cases e
  | cons a l => exact len4 (P := fun l => P (a :: l)) (h a) l (Nat.succ.inj e)
structure FnE where
  f : Str
  nm : List Str
  np : Nat
  k : Nat
  sc : Scope
  body : ASs
noncomputable def fnsChk : List FnE → Bool
  | [] => true
  | e :: r => fnChk (r.map (·.f)) e.nm e.np e.k e.sc e.body && fnsChk r
end Mine
end
section
open PySem PySem.W PySem.Calls PyProof.Rows
namespace Mine
set_option autoImplicit false
noncomputable def N_kinds_of : List Str := ["stack", "kinds", "value"]
noncomputable def B_kinds_of : ASs :=
    (.cons (.assign 1 ⟨17, 4, 17, 9⟩ (.list .nil ⟨17, 12, 17, 14⟩) ⟨17, 4, 17, 14⟩)
    (.cons (.for 2 ⟨18, 8, 18, 13⟩ (.var 0 ⟨18, 17, 18, 22⟩) (.cons (.ite (.isi (.var 2 ⟨19, 22, 19, 27⟩) .str ⟨19, 11, 19, 21⟩ ⟨19, 29, 19, 32⟩ default default ⟨19, 11, 19, 33⟩) (.cons (.expr (.meth (.var 1 ⟨20, 12, 20, 17⟩) .append (.cons (.lit (.str "text") 0 ⟨20, 25, 20, 31⟩) .nil) ⟨20, 12, 20, 24⟩ ⟨20, 12, 20, 32⟩) ⟨20, 12, 20, 32⟩)
    .nil) (.cons (.expr (.meth (.var 1 ⟨22, 12, 22, 17⟩) .append (.cons (.lit (.str "num") 0 ⟨22, 25, 22, 30⟩) .nil) ⟨22, 12, 22, 24⟩ ⟨22, 12, 22, 31⟩) ⟨22, 12, 22, 31⟩)
    .nil) ⟨19, 8, 22, 31⟩)
    .nil) ⟨18, 4, 22, 31⟩)
    (.cons (.ret (.blt .tuple (.cons (.var 1 ⟨23, 17, 23, 22⟩) .nil) ⟨23, 11, 23, 16⟩ ⟨23, 11, 23, 23⟩) ⟨23, 4, 23, 23⟩)
    .nil)))
noncomputable def S_kinds_of : Scope := {
              kind := PySem.ScopeKind.function,
              names := [
                (PySem.Str.ofString "stack", PySem.NameKind.local),
                (PySem.Str.ofString "kinds", PySem.NameKind.local),
                (PySem.Str.ofString "value", PySem.NameKind.local),
                (PySem.Str.ofString "isinstance", PySem.NameKind.globalImplicit),
                (PySem.Str.ofString "str", PySem.NameKind.globalImplicit),
                (PySem.Str.ofString "tuple", PySem.NameKind.globalImplicit)],
              isGenerator := false,
              isCoroutine := false,
              more := [] : PySem.Scope }

noncomputable def N_need : List Str := ["stack", "count"]
noncomputable def B_need : ASs :=
    (.cons (.ite (.cmp (.blt .len (.cons (.var 0 ⟨25, 11, 25, 16⟩) .nil) ⟨25, 7, 25, 10⟩ ⟨25, 7, 25, 17⟩) .Lt (.var 1 ⟨25, 20, 25, 25⟩) ⟨25, 7, 25, 25⟩) (.cons (.raise 1 "Empty" "too few values" 0 ⟨26, 14, 26, 19⟩ ⟨26, 20, 26, 36⟩ ⟨26, 14, 26, 37⟩ ⟨26, 8, 26, 37⟩)
    .nil) .nil ⟨25, 4, 26, 37⟩)
    .nil)
noncomputable def S_need : Scope := {
              kind := PySem.ScopeKind.function,
              names := [
                (PySem.Str.ofString "stack", PySem.NameKind.local),
                (PySem.Str.ofString "count", PySem.NameKind.local),
                (PySem.Str.ofString "len", PySem.NameKind.globalImplicit),
                (PySem.Str.ofString "Empty", PySem.NameKind.globalImplicit)],
              isGenerator := false,
              isCoroutine := false,
              more := [] : PySem.Scope }

noncomputable def N_reckoned : List Str := ["word", "values"]
noncomputable def B_reckoned : ASs :=
    (.cons (.ite (.cmp (.var 0 ⟨28, 7, 28, 11⟩) .Eq (.lit (.str "add") 0 ⟨28, 15, 28, 20⟩) ⟨28, 7, 28, 20⟩) (.cons (.ret (.bin (.bin (.sub (.var 1 ⟨29, 16, 29, 22⟩) (.lit (.int 0) 0 ⟨29, 23, 29, 24⟩) ⟨29, 16, 29, 25⟩) .Add (.sub (.var 1 ⟨29, 28, 29, 34⟩) (.lit (.int 1) 0 ⟨29, 35, 29, 36⟩) ⟨29, 28, 29, 37⟩) ⟨29, 16, 29, 37⟩) .Mod (.glob "BOUND" ⟨29, 41, 29, 46⟩) ⟨29, 15, 29, 46⟩) ⟨29, 8, 29, 46⟩)
    .nil) .nil ⟨28, 4, 29, 46⟩)
    (.cons (.ite (.cmp (.var 0 ⟨30, 7, 30, 11⟩) .Eq (.lit (.str "mul") 0 ⟨30, 15, 30, 20⟩) ⟨30, 7, 30, 20⟩) (.cons (.ret (.bin (.bin (.sub (.var 1 ⟨31, 15, 31, 21⟩) (.lit (.int 0) 0 ⟨31, 22, 31, 23⟩) ⟨31, 15, 31, 24⟩) .Mult (.sub (.var 1 ⟨31, 27, 31, 33⟩) (.lit (.int 1) 0 ⟨31, 34, 31, 35⟩) ⟨31, 27, 31, 36⟩) ⟨31, 15, 31, 36⟩) .Mod (.glob "BOUND" ⟨31, 39, 31, 44⟩) ⟨31, 15, 31, 44⟩) ⟨31, 8, 31, 44⟩)
    .nil) .nil ⟨30, 4, 31, 44⟩)
    (.cons (.ite (.cmp (.var 0 ⟨32, 7, 32, 11⟩) .Eq (.lit (.str "less") 0 ⟨32, 15, 32, 21⟩) ⟨32, 7, 32, 21⟩) (.cons (.ret (.blt .int (.cons (.cmp (.sub (.var 1 ⟨33, 19, 33, 25⟩) (.lit (.int 0) 0 ⟨33, 26, 33, 27⟩) ⟨33, 19, 33, 28⟩) .Lt (.sub (.var 1 ⟨33, 31, 33, 37⟩) (.lit (.int 1) 0 ⟨33, 38, 33, 39⟩) ⟨33, 31, 33, 40⟩) ⟨33, 19, 33, 40⟩) .nil) ⟨33, 15, 33, 18⟩ ⟨33, 15, 33, 41⟩) ⟨33, 8, 33, 41⟩)
    .nil) .nil ⟨32, 4, 33, 41⟩)
    (.cons (.ite (.cmp (.var 0 ⟨34, 7, 34, 11⟩) .Eq (.lit (.str "join") 0 ⟨34, 15, 34, 21⟩) ⟨34, 7, 34, 21⟩) (.cons (.ret (.sto (.bin (.sub (.var 1 ⟨35, 16, 35, 22⟩) (.lit (.int 0) 0 ⟨35, 23, 35, 24⟩) ⟨35, 16, 35, 25⟩) .Add (.sub (.var 1 ⟨35, 28, 35, 34⟩) (.lit (.int 1) 0 ⟨35, 35, 35, 36⟩) ⟨35, 28, 35, 37⟩) ⟨35, 16, 35, 37⟩) (.glob "LONGEST" ⟨35, 40, 35, 47⟩) ⟨35, 39, 35, 47⟩ ⟨35, 15, 35, 48⟩) ⟨35, 8, 35, 48⟩)
    .nil) .nil ⟨34, 4, 35, 48⟩)
    (.cons (.ite (.cmp (.var 0 ⟨36, 7, 36, 11⟩) .Eq (.lit (.str "long") 0 ⟨36, 15, 36, 21⟩) ⟨36, 7, 36, 21⟩) (.cons (.ret (.blt .len (.cons (.sub (.var 1 ⟨37, 19, 37, 25⟩) (.lit (.int 0) 0 ⟨37, 26, 37, 27⟩) ⟨37, 19, 37, 28⟩) .nil) ⟨37, 15, 37, 18⟩ ⟨37, 15, 37, 29⟩) ⟨37, 8, 37, 29⟩)
    .nil) .nil ⟨36, 4, 37, 29⟩)
    (.cons (.ret (.blt .str (.cons (.sub (.var 1 ⟨38, 15, 38, 21⟩) (.lit (.int 0) 0 ⟨38, 22, 38, 23⟩) ⟨38, 15, 38, 24⟩) .nil) ⟨38, 11, 38, 14⟩ ⟨38, 11, 38, 25⟩) ⟨38, 4, 38, 25⟩)
    .nil))))))
noncomputable def S_reckoned : Scope := {
              kind := PySem.ScopeKind.function,
              names := [
                (PySem.Str.ofString "word", PySem.NameKind.local),
                (PySem.Str.ofString "values", PySem.NameKind.local),
                (PySem.Str.ofString "BOUND", PySem.NameKind.globalImplicit),
                (PySem.Str.ofString "int", PySem.NameKind.globalImplicit),
                (PySem.Str.ofString "LONGEST", PySem.NameKind.globalImplicit),
                (PySem.Str.ofString "len", PySem.NameKind.globalImplicit),
                (PySem.Str.ofString "str", PySem.NameKind.globalImplicit)],
              isGenerator := false,
              isCoroutine := false,
              more := [] : PySem.Scope }

noncomputable def N_done : List Str := ["stack", "row", "word", "size", "takes", "values"]
noncomputable def B_done : ASs :=
    (.cons (.assign 2 ⟨40, 4, 40, 8⟩ (.sub (.var 1 ⟨40, 11, 40, 14⟩) (.lit (.int 0) 0 ⟨40, 15, 40, 16⟩) ⟨40, 11, 40, 17⟩) ⟨40, 4, 40, 17⟩)
    (.cons (.assign 3 ⟨41, 4, 41, 8⟩ (.blt .len (.cons (.var 0 ⟨41, 15, 41, 20⟩) .nil) ⟨41, 11, 41, 14⟩ ⟨41, 11, 41, 21⟩) ⟨41, 4, 41, 21⟩)
    (.cons (.ite (.bop .Or (.cons (.cmp (.var 2 ⟨42, 7, 42, 11⟩) .Eq (.lit (.str "num") 0 ⟨42, 15, 42, 20⟩) ⟨42, 7, 42, 20⟩) (.cons (.cmp (.var 2 ⟨42, 24, 42, 28⟩) .Eq (.lit (.str "text") 0 ⟨42, 32, 42, 38⟩) ⟨42, 24, 42, 38⟩) .nil)) ⟨42, 7, 42, 38⟩) (.cons (.ret (.bin (.blt .list (.cons (.var 0 ⟨43, 20, 43, 25⟩) .nil) ⟨43, 15, 43, 19⟩ ⟨43, 15, 43, 26⟩) .Add (.list (.cons (.sub (.var 1 ⟨43, 30, 43, 33⟩) (.lit (.int 1) 0 ⟨43, 34, 43, 35⟩) ⟨43, 30, 43, 36⟩) .nil) ⟨43, 29, 43, 37⟩) ⟨43, 15, 43, 37⟩) ⟨43, 8, 43, 37⟩)
    .nil) .nil ⟨42, 4, 43, 37⟩)
    (.cons (.ite (.cmp (.var 2 ⟨44, 7, 44, 11⟩) .Eq (.lit (.str "copy") 0 ⟨44, 15, 44, 21⟩) ⟨44, 7, 44, 21⟩) (.cons (.expr (.call "need" (.cons (.var 0 ⟨45, 13, 45, 18⟩) (.cons (.bin (.sub (.var 1 ⟨45, 20, 45, 23⟩) (.lit (.int 1) 0 ⟨45, 24, 45, 25⟩) ⟨45, 20, 45, 26⟩) .Add (.lit (.int 1) 0 ⟨45, 29, 45, 30⟩) ⟨45, 20, 45, 30⟩) .nil)) ⟨45, 8, 45, 12⟩ ⟨45, 8, 45, 31⟩) ⟨45, 8, 45, 31⟩)
    (.cons (.ret (.bin (.blt .list (.cons (.var 0 ⟨46, 20, 46, 25⟩) .nil) ⟨46, 15, 46, 19⟩ ⟨46, 15, 46, 26⟩) .Add (.list (.cons (.sub (.var 0 ⟨46, 30, 46, 35⟩) (.bin (.bin (.var 3 ⟨46, 36, 46, 40⟩) .Sub (.lit (.int 1) 0 ⟨46, 43, 46, 44⟩) ⟨46, 36, 46, 44⟩) .Sub (.sub (.var 1 ⟨46, 47, 46, 50⟩) (.lit (.int 1) 0 ⟨46, 51, 46, 52⟩) ⟨46, 47, 46, 53⟩) ⟨46, 36, 46, 53⟩) ⟨46, 30, 46, 54⟩) .nil) ⟨46, 29, 46, 55⟩) ⟨46, 15, 46, 55⟩) ⟨46, 8, 46, 55⟩)
    .nil)) .nil ⟨44, 4, 46, 55⟩)
    (.cons (.ite (.cmp (.var 2 ⟨47, 7, 47, 11⟩) .Eq (.lit (.str "swap") 0 ⟨47, 15, 47, 21⟩) ⟨47, 7, 47, 21⟩) (.cons (.expr (.call "need" (.cons (.var 0 ⟨48, 13, 48, 18⟩) (.cons (.lit (.int 2) 0 ⟨48, 20, 48, 21⟩) .nil)) ⟨48, 8, 48, 12⟩ ⟨48, 8, 48, 22⟩) ⟨48, 8, 48, 22⟩)
    (.cons (.ret (.bin (.blt .list (.cons (.sto (.var 0 ⟨49, 20, 49, 25⟩) (.bin (.var 3 ⟨49, 27, 49, 31⟩) .Sub (.lit (.int 2) 0 ⟨49, 34, 49, 35⟩) ⟨49, 27, 49, 35⟩) ⟨49, 26, 49, 35⟩ ⟨49, 20, 49, 36⟩) .nil) ⟨49, 15, 49, 19⟩ ⟨49, 15, 49, 37⟩) .Add (.list (.cons (.sub (.var 0 ⟨49, 41, 49, 46⟩) (.bin (.var 3 ⟨49, 47, 49, 51⟩) .Sub (.lit (.int 1) 0 ⟨49, 54, 49, 55⟩) ⟨49, 47, 49, 55⟩) ⟨49, 41, 49, 56⟩) (.cons (.sub (.var 0 ⟨49, 58, 49, 63⟩) (.bin (.var 3 ⟨49, 64, 49, 68⟩) .Sub (.lit (.int 2) 0 ⟨49, 71, 49, 72⟩) ⟨49, 64, 49, 72⟩) ⟨49, 58, 49, 73⟩) .nil)) ⟨49, 40, 49, 74⟩) ⟨49, 15, 49, 74⟩) ⟨49, 8, 49, 74⟩)
    .nil)) .nil ⟨47, 4, 49, 74⟩)
    (.cons (.ite (.cmp (.var 2 ⟨50, 7, 50, 11⟩) .Eq (.lit (.str "drop") 0 ⟨50, 15, 50, 21⟩) ⟨50, 7, 50, 21⟩) (.cons (.expr (.call "need" (.cons (.var 0 ⟨51, 13, 51, 18⟩) (.cons (.lit (.int 1) 0 ⟨51, 20, 51, 21⟩) .nil)) ⟨51, 8, 51, 12⟩ ⟨51, 8, 51, 22⟩) ⟨51, 8, 51, 22⟩)
    (.cons (.ret (.blt .list (.cons (.sto (.var 0 ⟨52, 20, 52, 25⟩) (.bin (.var 3 ⟨52, 27, 52, 31⟩) .Sub (.lit (.int 1) 0 ⟨52, 34, 52, 35⟩) ⟨52, 27, 52, 35⟩) ⟨52, 26, 52, 35⟩ ⟨52, 20, 52, 36⟩) .nil) ⟨52, 15, 52, 19⟩ ⟨52, 15, 52, 37⟩) ⟨52, 8, 52, 37⟩)
    .nil)) .nil ⟨50, 4, 52, 37⟩)
    (.cons (.assign 4 ⟨53, 4, 53, 9⟩ (.sub (.glob "TAKES_rows" ⟨53, 12, 53, 22⟩) (.var 2 ⟨53, 23, 53, 27⟩) ⟨53, 12, 53, 28⟩) ⟨53, 4, 53, 28⟩)
    (.cons (.expr (.call "need" (.cons (.var 0 ⟨54, 9, 54, 14⟩) (.cons (.blt .len (.cons (.var 4 ⟨54, 20, 54, 25⟩) .nil) ⟨54, 16, 54, 19⟩ ⟨54, 16, 54, 26⟩) .nil)) ⟨54, 4, 54, 8⟩ ⟨54, 4, 54, 27⟩) ⟨54, 4, 54, 27⟩)
    (.cons (.assign 5 ⟨55, 4, 55, 10⟩ (.blt .list (.cons (.sfrom (.var 0 ⟨55, 18, 55, 23⟩) (.bin (.var 3 ⟨55, 24, 55, 28⟩) .Sub (.blt .len (.cons (.var 4 ⟨55, 35, 55, 40⟩) .nil) ⟨55, 31, 55, 34⟩ ⟨55, 31, 55, 41⟩) ⟨55, 24, 55, 41⟩) ⟨55, 24, 55, 42⟩ ⟨55, 18, 55, 43⟩) .nil) ⟨55, 13, 55, 17⟩ ⟨55, 13, 55, 44⟩) ⟨55, 4, 55, 44⟩)
    (.cons (.ite (.cmp (.call "kinds_of" (.cons (.var 5 ⟨56, 16, 56, 22⟩) .nil) ⟨56, 7, 56, 15⟩ ⟨56, 7, 56, 23⟩) .NotEq (.var 4 ⟨56, 27, 56, 32⟩) ⟨56, 7, 56, 32⟩) (.cons (.raise 2 "WrongKind" "a value of another kind is wanted" 0 ⟨57, 14, 57, 23⟩ ⟨57, 24, 57, 59⟩ ⟨57, 14, 57, 60⟩ ⟨57, 8, 57, 60⟩)
    .nil) .nil ⟨56, 4, 57, 60⟩)
    (.cons (.ret (.bin (.blt .list (.cons (.sto (.var 0 ⟨58, 16, 58, 21⟩) (.bin (.var 3 ⟨58, 23, 58, 27⟩) .Sub (.blt .len (.cons (.var 4 ⟨58, 34, 58, 39⟩) .nil) ⟨58, 30, 58, 33⟩ ⟨58, 30, 58, 40⟩) ⟨58, 23, 58, 40⟩) ⟨58, 22, 58, 40⟩ ⟨58, 16, 58, 41⟩) .nil) ⟨58, 11, 58, 15⟩ ⟨58, 11, 58, 42⟩) .Add (.list (.cons (.call "reckoned" (.cons (.var 2 ⟨58, 55, 58, 59⟩) (.cons (.var 5 ⟨58, 61, 58, 67⟩) .nil)) ⟨58, 46, 58, 54⟩ ⟨58, 46, 58, 68⟩) .nil) ⟨58, 45, 58, 69⟩) ⟨58, 11, 58, 69⟩) ⟨58, 4, 58, 69⟩)
    .nil)))))))))))
noncomputable def S_done : Scope := {
              kind := PySem.ScopeKind.function,
              names := [
                (PySem.Str.ofString "stack", PySem.NameKind.local),
                (PySem.Str.ofString "row", PySem.NameKind.local),
                (PySem.Str.ofString "word", PySem.NameKind.local),
                (PySem.Str.ofString "size", PySem.NameKind.local),
                (PySem.Str.ofString "takes", PySem.NameKind.local),
                (PySem.Str.ofString "values", PySem.NameKind.local),
                (PySem.Str.ofString "len", PySem.NameKind.globalImplicit),
                (PySem.Str.ofString "list", PySem.NameKind.globalImplicit),
                (PySem.Str.ofString "need", PySem.NameKind.globalImplicit),
                (PySem.Str.ofString "TAKES_rows", PySem.NameKind.globalImplicit),
                (PySem.Str.ofString "kinds_of", PySem.NameKind.globalImplicit),
                (PySem.Str.ofString "WrongKind", PySem.NameKind.globalImplicit),
                (PySem.Str.ofString "reckoned", PySem.NameKind.globalImplicit)],
              isGenerator := false,
              isCoroutine := false,
              more := [] : PySem.Scope }

noncomputable def N_Machine___init__ : List Str := ["self", "program", "name", "stack"]
noncomputable def B_Machine___init__ : ASs :=
    (.cons (.ite (.cmp (.var 2 ⟨63, 11, 63, 15⟩) .NotIn (.var 1 ⟨63, 23, 63, 30⟩) ⟨63, 11, 63, 30⟩) (.cons (.raise 3 "NoBlock" "no such block" 0 ⟨64, 18, 64, 25⟩ ⟨64, 26, 64, 41⟩ ⟨64, 18, 64, 42⟩ ⟨64, 12, 64, 42⟩)
    .nil) .nil ⟨63, 8, 64, 42⟩)
    (.cons (.sattr (.var 0 ⟨65, 8, 65, 12⟩) "program" ⟨65, 8, 65, 20⟩ (.var 1 ⟨65, 23, 65, 30⟩) ⟨65, 8, 65, 30⟩)
    (.cons (.sattr (.var 0 ⟨66, 8, 66, 12⟩) "stack" ⟨66, 8, 66, 18⟩ (.blt .list (.cons (.var 3 ⟨66, 26, 66, 31⟩) .nil) ⟨66, 21, 66, 25⟩ ⟨66, 21, 66, 32⟩) ⟨66, 8, 66, 32⟩)
    (.cons (.sattr (.var 0 ⟨67, 8, 67, 12⟩) "frames" ⟨67, 8, 67, 19⟩ (.list (.cons (.tup (.cons (.var 2 ⟨67, 24, 67, 28⟩) (.cons (.lit (.int 0) 0 ⟨67, 30, 67, 31⟩) .nil)) 0 ⟨67, 23, 67, 32⟩) .nil) ⟨67, 22, 67, 33⟩) ⟨67, 8, 67, 33⟩)
    (.cons (.expr (.umeth (.var 0 ⟨68, 8, 68, 12⟩) "Machine.settle" "settle" .nil ⟨68, 8, 68, 19⟩ ⟨68, 8, 68, 21⟩) ⟨68, 8, 68, 21⟩)
    .nil)))))
noncomputable def S_Machine___init__ : Scope := {
                  kind := PySem.ScopeKind.function,
                  names := [
                    (PySem.Str.ofString "self", PySem.NameKind.local),
                    (PySem.Str.ofString "program", PySem.NameKind.local),
                    (PySem.Str.ofString "name", PySem.NameKind.local),
                    (PySem.Str.ofString "stack", PySem.NameKind.local),
                    (PySem.Str.ofString "NoBlock", PySem.NameKind.globalImplicit),
                    (PySem.Str.ofString "list", PySem.NameKind.globalImplicit)],
                  isGenerator := false,
                  isCoroutine := false,
                  more := [] : PySem.Scope }

noncomputable def N_Machine_settle : List Str := ["self"]
noncomputable def B_Machine_settle : ASs :=
    (.cons (.while (.bop .And (.cons (.cmp (.blt .len (.cons (.attr (.var 0 ⟨71, 18, 71, 22⟩) "frames" ⟨71, 18, 71, 29⟩) .nil) ⟨71, 14, 71, 17⟩ ⟨71, 14, 71, 30⟩) .Gt (.lit (.int 0) 0 ⟨71, 33, 71, 34⟩) ⟨71, 14, 71, 34⟩) (.cons (.cmp (.sub (.sub (.attr (.var 0 ⟨71, 39, 71, 43⟩) "frames" ⟨71, 39, 71, 50⟩) (.neg (.lit (.int 1) 0 ⟨71, 52, 71, 53⟩) ⟨71, 51, 71, 53⟩) ⟨71, 39, 71, 54⟩) (.lit (.int 1) 0 ⟨71, 55, 71, 56⟩) ⟨71, 39, 71, 57⟩) .Eq (.blt .len (.cons (.sub (.sub (.attr (.var 0 ⟨71, 65, 71, 69⟩) "program" ⟨71, 65, 71, 77⟩) (.sub (.sub (.attr (.var 0 ⟨71, 78, 71, 82⟩) "frames" ⟨71, 78, 71, 89⟩) (.neg (.lit (.int 1) 0 ⟨71, 91, 71, 92⟩) ⟨71, 90, 71, 92⟩) ⟨71, 78, 71, 93⟩) (.lit (.int 0) 0 ⟨71, 94, 71, 95⟩) ⟨71, 78, 71, 96⟩) ⟨71, 65, 71, 97⟩) (.lit (.int 2) 0 ⟨71, 98, 71, 99⟩) ⟨71, 65, 71, 100⟩) .nil) ⟨71, 61, 71, 64⟩ ⟨71, 61, 71, 101⟩) ⟨71, 39, 71, 101⟩) .nil)) ⟨71, 14, 71, 101⟩) (.cons (.sattr (.var 0 ⟨72, 12, 72, 16⟩) "frames" ⟨72, 12, 72, 23⟩ (.sto (.attr (.var 0 ⟨72, 26, 72, 30⟩) "frames" ⟨72, 26, 72, 37⟩) (.neg (.lit (.int 1) 0 ⟨72, 40, 72, 41⟩) ⟨72, 39, 72, 41⟩) ⟨72, 38, 72, 41⟩ ⟨72, 26, 72, 42⟩) ⟨72, 12, 72, 42⟩)
    .nil) ⟨71, 8, 72, 42⟩)
    .nil)
noncomputable def S_Machine_settle : Scope := {
                  kind := PySem.ScopeKind.function,
                  names := [(PySem.Str.ofString "self", PySem.NameKind.local), (PySem.Str.ofString "len", PySem.NameKind.globalImplicit)],
                  isGenerator := false,
                  isCoroutine := false,
                  more := [] : PySem.Scope }

noncomputable def N_Machine_over : List Str := ["self"]
noncomputable def B_Machine_over : ASs :=
    (.cons (.ret (.cmp (.blt .len (.cons (.attr (.var 0 ⟨75, 19, 75, 23⟩) "frames" ⟨75, 19, 75, 30⟩) .nil) ⟨75, 15, 75, 18⟩ ⟨75, 15, 75, 31⟩) .Eq (.lit (.int 0) 0 ⟨75, 35, 75, 36⟩) ⟨75, 15, 75, 36⟩) ⟨75, 8, 75, 36⟩)
    .nil)
noncomputable def S_Machine_over : Scope := {
                  kind := PySem.ScopeKind.function,
                  names := [(PySem.Str.ofString "self", PySem.NameKind.local), (PySem.Str.ofString "len", PySem.NameKind.globalImplicit)],
                  isGenerator := false,
                  isCoroutine := false,
                  more := [] : PySem.Scope }

noncomputable def N_Machine_goal_of : List Str := ["self", "row", "goal"]
noncomputable def B_Machine_goal_of : ASs :=
    (.cons (.assign 2 ⟨78, 8, 78, 12⟩ (.sub (.var 1 ⟨78, 15, 78, 18⟩) (.lit (.int 1) 0 ⟨78, 19, 78, 20⟩) ⟨78, 15, 78, 21⟩) ⟨78, 8, 78, 21⟩)
    (.cons (.ite (.cmp (.sub (.var 1 ⟨79, 11, 79, 14⟩) (.lit (.int 0) 0 ⟨79, 15, 79, 16⟩) ⟨79, 11, 79, 17⟩) .Eq (.lit (.str "if") 0 ⟨79, 21, 79, 25⟩) ⟨79, 11, 79, 25⟩) (.cons (.ite (.cmp (.blt .len (.cons (.attr (.var 0 ⟨80, 19, 80, 23⟩) "stack" ⟨80, 19, 80, 29⟩) .nil) ⟨80, 15, 80, 18⟩ ⟨80, 15, 80, 30⟩) .Eq (.lit (.int 0) 0 ⟨80, 34, 80, 35⟩) ⟨80, 15, 80, 35⟩) (.cons (.raise 1 "Empty" "a number is wanted" 0 ⟨81, 22, 81, 27⟩ ⟨81, 28, 81, 48⟩ ⟨81, 22, 81, 49⟩ ⟨81, 16, 81, 49⟩)
    .nil) .nil ⟨80, 12, 81, 49⟩)
    (.cons (.ite (.cmp (.call "kinds_of" (.cons (.sfrom (.attr (.var 0 ⟨82, 24, 82, 28⟩) "stack" ⟨82, 24, 82, 34⟩) (.neg (.lit (.int 1) 0 ⟨82, 36, 82, 37⟩) ⟨82, 35, 82, 37⟩) ⟨82, 35, 82, 38⟩ ⟨82, 24, 82, 39⟩) .nil) ⟨82, 15, 82, 23⟩ ⟨82, 15, 82, 40⟩) .NotEq (.tup (.cons (.lit (.str "num") 0 ⟨82, 45, 82, 50⟩) .nil) 0 ⟨82, 44, 82, 52⟩) ⟨82, 15, 82, 52⟩) (.cons (.raise 2 "WrongKind" "a number is wanted" 0 ⟨83, 22, 83, 31⟩ ⟨83, 32, 83, 52⟩ ⟨83, 22, 83, 53⟩ ⟨83, 16, 83, 53⟩)
    .nil) .nil ⟨82, 12, 83, 53⟩)
    (.cons (.ite (.cmp (.sub (.attr (.var 0 ⟨84, 15, 84, 19⟩) "stack" ⟨84, 15, 84, 25⟩) (.neg (.lit (.int 1) 0 ⟨84, 27, 84, 28⟩) ⟨84, 26, 84, 28⟩) ⟨84, 15, 84, 29⟩) .Eq (.lit (.int 0) 0 ⟨84, 33, 84, 34⟩) ⟨84, 15, 84, 34⟩) (.cons (.assign 2 ⟨85, 16, 85, 20⟩ (.sub (.var 1 ⟨85, 23, 85, 26⟩) (.lit (.int 2) 0 ⟨85, 27, 85, 28⟩) ⟨85, 23, 85, 29⟩) ⟨85, 16, 85, 29⟩)
    .nil) .nil ⟨84, 12, 85, 29⟩)
    .nil))) .nil ⟨79, 8, 85, 29⟩)
    (.cons (.ite (.cmp (.var 2 ⟨86, 11, 86, 15⟩) .NotIn (.attr (.var 0 ⟨86, 23, 86, 27⟩) "program" ⟨86, 23, 86, 35⟩) ⟨86, 11, 86, 35⟩) (.cons (.raise 3 "NoBlock" "no such block" 0 ⟨87, 18, 87, 25⟩ ⟨87, 26, 87, 41⟩ ⟨87, 18, 87, 42⟩ ⟨87, 12, 87, 42⟩)
    .nil) .nil ⟨86, 8, 87, 42⟩)
    (.cons (.ret (.var 2 ⟨88, 15, 88, 19⟩) ⟨88, 8, 88, 19⟩)
    .nil))))
noncomputable def S_Machine_goal_of : Scope := {
                  kind := PySem.ScopeKind.function,
                  names := [
                    (PySem.Str.ofString "self", PySem.NameKind.local),
                    (PySem.Str.ofString "row", PySem.NameKind.local),
                    (PySem.Str.ofString "goal", PySem.NameKind.local),
                    (PySem.Str.ofString "len", PySem.NameKind.globalImplicit),
                    (PySem.Str.ofString "Empty", PySem.NameKind.globalImplicit),
                    (PySem.Str.ofString "kinds_of", PySem.NameKind.globalImplicit),
                    (PySem.Str.ofString "WrongKind", PySem.NameKind.globalImplicit),
                    (PySem.Str.ofString "NoBlock", PySem.NameKind.globalImplicit)],
                  isGenerator := false,
                  isCoroutine := false,
                  more := [] : PySem.Scope }

noncomputable def N_Machine_step : List Str := ["self", "name", "place", "row", "stack", "more"]
noncomputable def B_Machine_step : ASs :=
    (.cons (.ite (.umeth (.var 0 ⟨91, 11, 91, 15⟩) "Machine.over" "over" .nil ⟨91, 11, 91, 20⟩ ⟨91, 11, 91, 22⟩) (.cons (.ret0 ⟨92, 12, 92, 18⟩)
    .nil) .nil ⟨91, 8, 92, 18⟩)
    (.cons (.assign 1 ⟨93, 8, 93, 12⟩ (.sub (.sub (.attr (.var 0 ⟨93, 15, 93, 19⟩) "frames" ⟨93, 15, 93, 26⟩) (.neg (.lit (.int 1) 0 ⟨93, 28, 93, 29⟩) ⟨93, 27, 93, 29⟩) ⟨93, 15, 93, 30⟩) (.lit (.int 0) 0 ⟨93, 31, 93, 32⟩) ⟨93, 15, 93, 33⟩) ⟨93, 8, 93, 33⟩)
    (.cons (.assign 2 ⟨94, 8, 94, 13⟩ (.sub (.sub (.attr (.var 0 ⟨94, 16, 94, 20⟩) "frames" ⟨94, 16, 94, 27⟩) (.neg (.lit (.int 1) 0 ⟨94, 29, 94, 30⟩) ⟨94, 28, 94, 30⟩) ⟨94, 16, 94, 31⟩) (.lit (.int 1) 0 ⟨94, 32, 94, 33⟩) ⟨94, 16, 94, 34⟩) ⟨94, 8, 94, 34⟩)
    (.cons (.assign 3 ⟨95, 8, 95, 11⟩ (.sub (.sub (.sub (.attr (.var 0 ⟨95, 14, 95, 18⟩) "program" ⟨95, 14, 95, 26⟩) (.var 1 ⟨95, 27, 95, 31⟩) ⟨95, 14, 95, 32⟩) (.lit (.int 2) 0 ⟨95, 33, 95, 34⟩) ⟨95, 14, 95, 35⟩) (.var 2 ⟨95, 36, 95, 41⟩) ⟨95, 14, 95, 42⟩) ⟨95, 8, 95, 42⟩)
    (.cons (.assign 4 ⟨96, 8, 96, 13⟩ (.attr (.var 0 ⟨96, 16, 96, 20⟩) "stack" ⟨96, 16, 96, 26⟩) ⟨96, 8, 96, 26⟩)
    (.cons (.assign 5 ⟨97, 8, 97, 12⟩ (.list .nil ⟨97, 15, 97, 17⟩) ⟨97, 8, 97, 17⟩)
    (.cons (.ite (.bop .Or (.cons (.cmp (.sub (.var 3 ⟨98, 11, 98, 14⟩) (.lit (.int 0) 0 ⟨98, 15, 98, 16⟩) ⟨98, 11, 98, 17⟩) .Eq (.lit (.str "call") 0 ⟨98, 21, 98, 27⟩) ⟨98, 11, 98, 27⟩) (.cons (.cmp (.sub (.var 3 ⟨98, 31, 98, 34⟩) (.lit (.int 0) 0 ⟨98, 35, 98, 36⟩) ⟨98, 31, 98, 37⟩) .Eq (.lit (.str "if") 0 ⟨98, 41, 98, 45⟩) ⟨98, 31, 98, 45⟩) .nil)) ⟨98, 11, 98, 45⟩) (.cons (.assign 5 ⟨99, 12, 99, 16⟩ (.list (.cons (.tup (.cons (.umeth (.var 0 ⟨99, 21, 99, 25⟩) "Machine.goal_of" "goal_of" (.cons (.var 3 ⟨99, 34, 99, 37⟩) .nil) ⟨99, 21, 99, 33⟩ ⟨99, 21, 99, 38⟩) (.cons (.lit (.int 0) 0 ⟨99, 40, 99, 41⟩) .nil)) 0 ⟨99, 20, 99, 42⟩) .nil) ⟨99, 19, 99, 43⟩) ⟨99, 12, 99, 43⟩)
    (.cons (.ite (.cmp (.sub (.var 3 ⟨100, 15, 100, 18⟩) (.lit (.int 0) 0 ⟨100, 19, 100, 20⟩) ⟨100, 15, 100, 21⟩) .Eq (.lit (.str "if") 0 ⟨100, 25, 100, 29⟩) ⟨100, 15, 100, 29⟩) (.cons (.assign 4 ⟨101, 16, 101, 21⟩ (.sto (.var 4 ⟨101, 24, 101, 29⟩) (.neg (.lit (.int 1) 0 ⟨101, 32, 101, 33⟩) ⟨101, 31, 101, 33⟩) ⟨101, 30, 101, 33⟩ ⟨101, 24, 101, 34⟩) ⟨101, 16, 101, 34⟩)
    .nil) .nil ⟨100, 12, 101, 34⟩)
    .nil)) (.cons (.assign 4 ⟨103, 12, 103, 17⟩ (.call "done" (.cons (.var 4 ⟨103, 25, 103, 30⟩) (.cons (.var 3 ⟨103, 32, 103, 35⟩) .nil)) ⟨103, 20, 103, 24⟩ ⟨103, 20, 103, 36⟩) ⟨103, 12, 103, 36⟩)
    .nil) ⟨98, 8, 103, 36⟩)
    (.cons (.sattr (.var 0 ⟨104, 8, 104, 12⟩) "stack" ⟨104, 8, 104, 18⟩ (.var 4 ⟨104, 21, 104, 26⟩) ⟨104, 8, 104, 26⟩)
    (.cons (.sattr (.var 0 ⟨105, 8, 105, 12⟩) "frames" ⟨105, 8, 105, 19⟩ (.bin (.bin (.sto (.attr (.var 0 ⟨105, 22, 105, 26⟩) "frames" ⟨105, 22, 105, 33⟩) (.neg (.lit (.int 1) 0 ⟨105, 36, 105, 37⟩) ⟨105, 35, 105, 37⟩) ⟨105, 34, 105, 37⟩ ⟨105, 22, 105, 38⟩) .Add (.list (.cons (.tup (.cons (.var 1 ⟨105, 43, 105, 47⟩) (.cons (.bin (.var 2 ⟨105, 49, 105, 54⟩) .Add (.lit (.int 1) 0 ⟨105, 57, 105, 58⟩) ⟨105, 49, 105, 58⟩) .nil)) 0 ⟨105, 42, 105, 59⟩) .nil) ⟨105, 41, 105, 60⟩) ⟨105, 22, 105, 60⟩) .Add (.var 5 ⟨105, 63, 105, 67⟩) ⟨105, 22, 105, 67⟩) ⟨105, 8, 105, 67⟩)
    (.cons (.expr (.umeth (.var 0 ⟨106, 8, 106, 12⟩) "Machine.settle" "settle" .nil ⟨106, 8, 106, 19⟩ ⟨106, 8, 106, 21⟩) ⟨106, 8, 106, 21⟩)
    .nil))))))))))
noncomputable def S_Machine_step : Scope := {
                  kind := PySem.ScopeKind.function,
                  names := [
                    (PySem.Str.ofString "self", PySem.NameKind.local),
                    (PySem.Str.ofString "name", PySem.NameKind.local),
                    (PySem.Str.ofString "place", PySem.NameKind.local),
                    (PySem.Str.ofString "row", PySem.NameKind.local),
                    (PySem.Str.ofString "stack", PySem.NameKind.local),
                    (PySem.Str.ofString "more", PySem.NameKind.local),
                    (PySem.Str.ofString "done", PySem.NameKind.globalImplicit)],
                  isGenerator := false,
                  isCoroutine := false,
                  more := [] : PySem.Scope }

noncomputable def N_taken : List Str := ["kinds", "takes", "left"]
noncomputable def B_taken : ASs :=
    (.cons (.assign 2 ⟨111, 4, 111, 8⟩ (.bin (.blt .len (.cons (.var 0 ⟨111, 15, 111, 20⟩) .nil) ⟨111, 11, 111, 14⟩ ⟨111, 11, 111, 21⟩) .Sub (.blt .len (.cons (.var 1 ⟨111, 28, 111, 33⟩) .nil) ⟨111, 24, 111, 27⟩ ⟨111, 24, 111, 34⟩) ⟨111, 11, 111, 34⟩) ⟨111, 4, 111, 34⟩)
    (.cons (.ite (.cmp (.var 2 ⟨112, 7, 112, 11⟩) .Lt (.lit (.int 0) 0 ⟨112, 14, 112, 15⟩) ⟨112, 7, 112, 15⟩) (.cons (.raise 1 "Empty" "too few kinds" 0 ⟨113, 14, 113, 19⟩ ⟨113, 20, 113, 35⟩ ⟨113, 14, 113, 36⟩ ⟨113, 8, 113, 36⟩)
    .nil) .nil ⟨112, 4, 113, 36⟩)
    (.cons (.ite (.cmp (.sfrom (.var 0 ⟨114, 7, 114, 12⟩) (.var 2 ⟨114, 13, 114, 17⟩) ⟨114, 13, 114, 18⟩ ⟨114, 7, 114, 19⟩) .NotEq (.var 1 ⟨114, 23, 114, 28⟩) ⟨114, 7, 114, 28⟩) (.cons (.raise 2 "WrongKind" "another kind is wanted" 0 ⟨115, 14, 115, 23⟩ ⟨115, 24, 115, 48⟩ ⟨115, 14, 115, 49⟩ ⟨115, 8, 115, 49⟩)
    .nil) .nil ⟨114, 4, 115, 49⟩)
    (.cons (.ret (.sto (.var 0 ⟨116, 11, 116, 16⟩) (.var 2 ⟨116, 18, 116, 22⟩) ⟨116, 17, 116, 22⟩ ⟨116, 11, 116, 23⟩) ⟨116, 4, 116, 23⟩)
    .nil))))
noncomputable def S_taken : Scope := {
              kind := PySem.ScopeKind.function,
              names := [
                (PySem.Str.ofString "kinds", PySem.NameKind.local),
                (PySem.Str.ofString "takes", PySem.NameKind.local),
                (PySem.Str.ofString "left", PySem.NameKind.local),
                (PySem.Str.ofString "len", PySem.NameKind.globalImplicit),
                (PySem.Str.ofString "Empty", PySem.NameKind.globalImplicit),
                (PySem.Str.ofString "WrongKind", PySem.NameKind.globalImplicit)],
              isGenerator := false,
              isCoroutine := false,
              more := [] : PySem.Scope }

noncomputable def N_block_of : List Str := ["program", "name"]
noncomputable def B_block_of : ASs :=
    (.cons (.ite (.cmp (.var 1 ⟨118, 7, 118, 11⟩) .NotIn (.var 0 ⟨118, 19, 118, 26⟩) ⟨118, 7, 118, 26⟩) (.cons (.raise 3 "NoBlock" "no such block" 0 ⟨119, 14, 119, 21⟩ ⟨119, 22, 119, 37⟩ ⟨119, 14, 119, 38⟩ ⟨119, 8, 119, 38⟩)
    .nil) .nil ⟨118, 4, 119, 38⟩)
    (.cons (.ret (.sub (.var 0 ⟨120, 11, 120, 18⟩) (.var 1 ⟨120, 19, 120, 23⟩) ⟨120, 11, 120, 24⟩) ⟨120, 4, 120, 24⟩)
    .nil))
noncomputable def S_block_of : Scope := {
              kind := PySem.ScopeKind.function,
              names := [
                (PySem.Str.ofString "program", PySem.NameKind.local),
                (PySem.Str.ofString "name", PySem.NameKind.local),
                (PySem.Str.ofString "NoBlock", PySem.NameKind.globalImplicit)],
              isGenerator := false,
              isCoroutine := false,
              more := [] : PySem.Scope }

noncomputable def N_called : List Str := ["program", "kinds", "name", "block"]
noncomputable def B_called : ASs :=
    (.cons (.assign 3 ⟨122, 4, 122, 9⟩ (.call "block_of" (.cons (.var 0 ⟨122, 21, 122, 28⟩) (.cons (.var 2 ⟨122, 30, 122, 34⟩) .nil)) ⟨122, 12, 122, 20⟩ ⟨122, 12, 122, 35⟩) ⟨122, 4, 122, 35⟩)
    (.cons (.ret (.bin (.call "taken" (.cons (.var 1 ⟨123, 17, 123, 22⟩) (.cons (.blt .tuple (.cons (.sub (.var 3 ⟨123, 30, 123, 35⟩) (.lit (.int 0) 0 ⟨123, 36, 123, 37⟩) ⟨123, 30, 123, 38⟩) .nil) ⟨123, 24, 123, 29⟩ ⟨123, 24, 123, 39⟩) .nil)) ⟨123, 11, 123, 16⟩ ⟨123, 11, 123, 40⟩) .Add (.blt .tuple (.cons (.sub (.var 3 ⟨123, 49, 123, 54⟩) (.lit (.int 1) 0 ⟨123, 55, 123, 56⟩) ⟨123, 49, 123, 57⟩) .nil) ⟨123, 43, 123, 48⟩ ⟨123, 43, 123, 58⟩) ⟨123, 11, 123, 58⟩) ⟨123, 4, 123, 58⟩)
    .nil))
noncomputable def S_called : Scope := {
              kind := PySem.ScopeKind.function,
              names := [
                (PySem.Str.ofString "program", PySem.NameKind.local),
                (PySem.Str.ofString "kinds", PySem.NameKind.local),
                (PySem.Str.ofString "name", PySem.NameKind.local),
                (PySem.Str.ofString "block", PySem.NameKind.local),
                (PySem.Str.ofString "block_of", PySem.NameKind.globalImplicit),
                (PySem.Str.ofString "taken", PySem.NameKind.globalImplicit),
                (PySem.Str.ofString "tuple", PySem.NameKind.globalImplicit)],
              isGenerator := false,
              isCoroutine := false,
              more := [] : PySem.Scope }

noncomputable def N_moved : List Str := ["kinds", "row", "size", "wants"]
noncomputable def B_moved : ASs :=
    (.cons (.assign 2 ⟨125, 4, 125, 8⟩ (.blt .len (.cons (.var 0 ⟨125, 15, 125, 20⟩) .nil) ⟨125, 11, 125, 14⟩ ⟨125, 11, 125, 21⟩) ⟨125, 4, 125, 21⟩)
    (.cons (.assign 3 ⟨126, 4, 126, 9⟩ (.dict [("swap", ⟨126, 13, 126, 19⟩), ("drop", ⟨126, 24, 126, 30⟩)] (.cons (.lit (.int 2) 0 ⟨126, 21, 126, 22⟩) (.cons (.lit (.int 1) 0 ⟨126, 32, 126, 33⟩) .nil)) ⟨126, 12, 126, 34⟩) ⟨126, 4, 126, 34⟩)
    (.cons (.ite (.cmp (.sub (.var 1 ⟨127, 7, 127, 10⟩) (.lit (.int 0) 0 ⟨127, 11, 127, 12⟩) ⟨127, 7, 127, 13⟩) .Eq (.lit (.str "copy") 0 ⟨127, 17, 127, 23⟩) ⟨127, 7, 127, 23⟩) (.cons (.ite (.cmp (.var 2 ⟨128, 11, 128, 15⟩) .Lt (.bin (.sub (.var 1 ⟨128, 18, 128, 21⟩) (.lit (.int 1) 0 ⟨128, 22, 128, 23⟩) ⟨128, 18, 128, 24⟩) .Add (.lit (.int 1) 0 ⟨128, 27, 128, 28⟩) ⟨128, 18, 128, 28⟩) ⟨128, 11, 128, 28⟩) (.cons (.raise 1 "Empty" "too few kinds" 0 ⟨129, 18, 129, 23⟩ ⟨129, 24, 129, 39⟩ ⟨129, 18, 129, 40⟩ ⟨129, 12, 129, 40⟩)
    .nil) .nil ⟨128, 8, 129, 40⟩)
    (.cons (.ret (.bin (.var 0 ⟨130, 15, 130, 20⟩) .Add (.tup (.cons (.sub (.var 0 ⟨130, 24, 130, 29⟩) (.bin (.bin (.var 2 ⟨130, 30, 130, 34⟩) .Sub (.lit (.int 1) 0 ⟨130, 37, 130, 38⟩) ⟨130, 30, 130, 38⟩) .Sub (.sub (.var 1 ⟨130, 41, 130, 44⟩) (.lit (.int 1) 0 ⟨130, 45, 130, 46⟩) ⟨130, 41, 130, 47⟩) ⟨130, 30, 130, 47⟩) ⟨130, 24, 130, 48⟩) .nil) 0 ⟨130, 23, 130, 50⟩) ⟨130, 15, 130, 50⟩) ⟨130, 8, 130, 50⟩)
    .nil)) .nil ⟨127, 4, 130, 50⟩)
    (.cons (.ite (.cmp (.var 2 ⟨131, 7, 131, 11⟩) .Lt (.sub (.var 3 ⟨131, 14, 131, 19⟩) (.sub (.var 1 ⟨131, 20, 131, 23⟩) (.lit (.int 0) 0 ⟨131, 24, 131, 25⟩) ⟨131, 20, 131, 26⟩) ⟨131, 14, 131, 27⟩) ⟨131, 7, 131, 27⟩) (.cons (.raise 1 "Empty" "too few kinds" 0 ⟨132, 14, 132, 19⟩ ⟨132, 20, 132, 35⟩ ⟨132, 14, 132, 36⟩ ⟨132, 8, 132, 36⟩)
    .nil) .nil ⟨131, 4, 132, 36⟩)
    (.cons (.ite (.cmp (.sub (.var 1 ⟨133, 7, 133, 10⟩) (.lit (.int 0) 0 ⟨133, 11, 133, 12⟩) ⟨133, 7, 133, 13⟩) .Eq (.lit (.str "swap") 0 ⟨133, 17, 133, 23⟩) ⟨133, 7, 133, 23⟩) (.cons (.ret (.bin (.sto (.var 0 ⟨134, 15, 134, 20⟩) (.bin (.var 2 ⟨134, 22, 134, 26⟩) .Sub (.lit (.int 2) 0 ⟨134, 29, 134, 30⟩) ⟨134, 22, 134, 30⟩) ⟨134, 21, 134, 30⟩ ⟨134, 15, 134, 31⟩) .Add (.tup (.cons (.sub (.var 0 ⟨134, 35, 134, 40⟩) (.bin (.var 2 ⟨134, 41, 134, 45⟩) .Sub (.lit (.int 1) 0 ⟨134, 48, 134, 49⟩) ⟨134, 41, 134, 49⟩) ⟨134, 35, 134, 50⟩) (.cons (.sub (.var 0 ⟨134, 52, 134, 57⟩) (.bin (.var 2 ⟨134, 58, 134, 62⟩) .Sub (.lit (.int 2) 0 ⟨134, 65, 134, 66⟩) ⟨134, 58, 134, 66⟩) ⟨134, 52, 134, 67⟩) .nil)) 0 ⟨134, 34, 134, 68⟩) ⟨134, 15, 134, 68⟩) ⟨134, 8, 134, 68⟩)
    .nil) .nil ⟨133, 4, 134, 68⟩)
    (.cons (.ret (.sto (.var 0 ⟨135, 11, 135, 16⟩) (.bin (.var 2 ⟨135, 18, 135, 22⟩) .Sub (.lit (.int 1) 0 ⟨135, 25, 135, 26⟩) ⟨135, 18, 135, 26⟩) ⟨135, 17, 135, 26⟩ ⟨135, 11, 135, 27⟩) ⟨135, 4, 135, 27⟩)
    .nil))))))
noncomputable def S_moved : Scope := {
              kind := PySem.ScopeKind.function,
              names := [
                (PySem.Str.ofString "kinds", PySem.NameKind.local),
                (PySem.Str.ofString "row", PySem.NameKind.local),
                (PySem.Str.ofString "size", PySem.NameKind.local),
                (PySem.Str.ofString "wants", PySem.NameKind.local),
                (PySem.Str.ofString "len", PySem.NameKind.globalImplicit),
                (PySem.Str.ofString "Empty", PySem.NameKind.globalImplicit)],
              isGenerator := false,
              isCoroutine := false,
              more := [] : PySem.Scope }

noncomputable def N_behind : List Str := ["program", "kinds", "row", "word", "left", "yes", "no"]
noncomputable def B_behind : ASs :=
    (.cons (.assign 3 ⟨137, 4, 137, 8⟩ (.sub (.var 2 ⟨137, 11, 137, 14⟩) (.lit (.int 0) 0 ⟨137, 15, 137, 16⟩) ⟨137, 11, 137, 17⟩) ⟨137, 4, 137, 17⟩)
    (.cons (.ite (.bop .Or (.cons (.cmp (.var 3 ⟨138, 7, 138, 11⟩) .Eq (.lit (.str "num") 0 ⟨138, 15, 138, 20⟩) ⟨138, 7, 138, 20⟩) (.cons (.cmp (.var 3 ⟨138, 24, 138, 28⟩) .Eq (.lit (.str "text") 0 ⟨138, 32, 138, 38⟩) ⟨138, 24, 138, 38⟩) .nil)) ⟨138, 7, 138, 38⟩) (.cons (.ret (.bin (.var 1 ⟨139, 15, 139, 20⟩) .Add (.tup (.cons (.var 3 ⟨139, 24, 139, 28⟩) .nil) 0 ⟨139, 23, 139, 30⟩) ⟨139, 15, 139, 30⟩) ⟨139, 8, 139, 30⟩)
    .nil) .nil ⟨138, 4, 139, 30⟩)
    (.cons (.ite (.bop .Or (.cons (.cmp (.var 3 ⟨140, 7, 140, 11⟩) .Eq (.lit (.str "copy") 0 ⟨140, 15, 140, 21⟩) ⟨140, 7, 140, 21⟩) (.cons (.cmp (.var 3 ⟨140, 25, 140, 29⟩) .Eq (.lit (.str "swap") 0 ⟨140, 33, 140, 39⟩) ⟨140, 25, 140, 39⟩) (.cons (.cmp (.var 3 ⟨140, 43, 140, 47⟩) .Eq (.lit (.str "drop") 0 ⟨140, 51, 140, 57⟩) ⟨140, 43, 140, 57⟩) .nil))) ⟨140, 7, 140, 57⟩) (.cons (.ret (.call "moved" (.cons (.var 1 ⟨141, 21, 141, 26⟩) (.cons (.var 2 ⟨141, 28, 141, 31⟩) .nil)) ⟨141, 15, 141, 20⟩ ⟨141, 15, 141, 32⟩) ⟨141, 8, 141, 32⟩)
    .nil) .nil ⟨140, 4, 141, 32⟩)
    (.cons (.ite (.cmp (.var 3 ⟨142, 7, 142, 11⟩) .Eq (.lit (.str "call") 0 ⟨142, 15, 142, 21⟩) ⟨142, 7, 142, 21⟩) (.cons (.ret (.call "called" (.cons (.var 0 ⟨143, 22, 143, 29⟩) (.cons (.var 1 ⟨143, 31, 143, 36⟩) (.cons (.sub (.var 2 ⟨143, 38, 143, 41⟩) (.lit (.int 1) 0 ⟨143, 42, 143, 43⟩) ⟨143, 38, 143, 44⟩) .nil))) ⟨143, 15, 143, 21⟩ ⟨143, 15, 143, 45⟩) ⟨143, 8, 143, 45⟩)
    .nil) .nil ⟨142, 4, 143, 45⟩)
    (.cons (.ite (.cmp (.var 3 ⟨144, 7, 144, 11⟩) .Eq (.lit (.str "if") 0 ⟨144, 15, 144, 19⟩) ⟨144, 7, 144, 19⟩) (.cons (.assign 4 ⟨145, 8, 145, 12⟩ (.call "taken" (.cons (.var 1 ⟨145, 21, 145, 26⟩) (.cons (.tup (.cons (.lit (.str "num") 0 ⟨145, 29, 145, 34⟩) .nil) 0 ⟨145, 28, 145, 36⟩) .nil)) ⟨145, 15, 145, 20⟩ ⟨145, 15, 145, 37⟩) ⟨145, 8, 145, 37⟩)
    (.cons (.assign 5 ⟨146, 8, 146, 11⟩ (.call "block_of" (.cons (.var 0 ⟨146, 23, 146, 30⟩) (.cons (.sub (.var 2 ⟨146, 32, 146, 35⟩) (.lit (.int 1) 0 ⟨146, 36, 146, 37⟩) ⟨146, 32, 146, 38⟩) .nil)) ⟨146, 14, 146, 22⟩ ⟨146, 14, 146, 39⟩) ⟨146, 8, 146, 39⟩)
    (.cons (.assign 6 ⟨147, 8, 147, 10⟩ (.call "block_of" (.cons (.var 0 ⟨147, 22, 147, 29⟩) (.cons (.sub (.var 2 ⟨147, 31, 147, 34⟩) (.lit (.int 2) 0 ⟨147, 35, 147, 36⟩) ⟨147, 31, 147, 37⟩) .nil)) ⟨147, 13, 147, 21⟩ ⟨147, 13, 147, 38⟩) ⟨147, 8, 147, 38⟩)
    (.cons (.ite (.bop .Or (.cons (.cmp (.blt .tuple (.cons (.sub (.var 5 ⟨148, 17, 148, 20⟩) (.lit (.int 0) 0 ⟨148, 21, 148, 22⟩) ⟨148, 17, 148, 23⟩) .nil) ⟨148, 11, 148, 16⟩ ⟨148, 11, 148, 24⟩) .NotEq (.blt .tuple (.cons (.sub (.var 6 ⟨148, 34, 148, 36⟩) (.lit (.int 0) 0 ⟨148, 37, 148, 38⟩) ⟨148, 34, 148, 39⟩) .nil) ⟨148, 28, 148, 33⟩ ⟨148, 28, 148, 40⟩) ⟨148, 11, 148, 40⟩) (.cons (.cmp (.blt .tuple (.cons (.sub (.var 5 ⟨148, 50, 148, 53⟩) (.lit (.int 1) 0 ⟨148, 54, 148, 55⟩) ⟨148, 50, 148, 56⟩) .nil) ⟨148, 44, 148, 49⟩ ⟨148, 44, 148, 57⟩) .NotEq (.blt .tuple (.cons (.sub (.var 6 ⟨148, 67, 148, 69⟩) (.lit (.int 1) 0 ⟨148, 70, 148, 71⟩) ⟨148, 67, 148, 72⟩) .nil) ⟨148, 61, 148, 66⟩ ⟨148, 61, 148, 73⟩) ⟨148, 44, 148, 73⟩) .nil)) ⟨148, 11, 148, 73⟩) (.cons (.raise 4 "Apart" "both blocks tell unlike kinds" 0 ⟨149, 18, 149, 23⟩ ⟨149, 24, 149, 55⟩ ⟨149, 18, 149, 56⟩ ⟨149, 12, 149, 56⟩)
    .nil) .nil ⟨148, 8, 149, 56⟩)
    (.cons (.ret (.call "called" (.cons (.var 0 ⟨150, 22, 150, 29⟩) (.cons (.var 4 ⟨150, 31, 150, 35⟩) (.cons (.sub (.var 2 ⟨150, 37, 150, 40⟩) (.lit (.int 1) 0 ⟨150, 41, 150, 42⟩) ⟨150, 37, 150, 43⟩) .nil))) ⟨150, 15, 150, 21⟩ ⟨150, 15, 150, 44⟩) ⟨150, 8, 150, 44⟩)
    .nil))))) .nil ⟨144, 4, 150, 44⟩)
    (.cons (.ret (.bin (.call "taken" (.cons (.var 1 ⟨151, 17, 151, 22⟩) (.cons (.sub (.glob "TAKES_kinds" ⟨151, 24, 151, 35⟩) (.var 3 ⟨151, 36, 151, 40⟩) ⟨151, 24, 151, 41⟩) .nil)) ⟨151, 11, 151, 16⟩ ⟨151, 11, 151, 42⟩) .Add (.tup (.cons (.sub (.glob "PUTS" ⟨151, 46, 151, 50⟩) (.var 3 ⟨151, 51, 151, 55⟩) ⟨151, 46, 151, 56⟩) .nil) 0 ⟨151, 45, 151, 58⟩) ⟨151, 11, 151, 58⟩) ⟨151, 4, 151, 58⟩)
    .nil))))))
noncomputable def S_behind : Scope := {
              kind := PySem.ScopeKind.function,
              names := [
                (PySem.Str.ofString "program", PySem.NameKind.local),
                (PySem.Str.ofString "kinds", PySem.NameKind.local),
                (PySem.Str.ofString "row", PySem.NameKind.local),
                (PySem.Str.ofString "word", PySem.NameKind.local),
                (PySem.Str.ofString "left", PySem.NameKind.local),
                (PySem.Str.ofString "yes", PySem.NameKind.local),
                (PySem.Str.ofString "no", PySem.NameKind.local),
                (PySem.Str.ofString "moved", PySem.NameKind.globalImplicit),
                (PySem.Str.ofString "called", PySem.NameKind.globalImplicit),
                (PySem.Str.ofString "taken", PySem.NameKind.globalImplicit),
                (PySem.Str.ofString "block_of", PySem.NameKind.globalImplicit),
                (PySem.Str.ofString "tuple", PySem.NameKind.globalImplicit),
                (PySem.Str.ofString "Apart", PySem.NameKind.globalImplicit),
                (PySem.Str.ofString "TAKES_kinds", PySem.NameKind.globalImplicit),
                (PySem.Str.ofString "PUTS", PySem.NameKind.globalImplicit)],
              isGenerator := false,
              isCoroutine := false,
              more := [] : PySem.Scope }

noncomputable def N_looked : List Str := ["program", "name", "block", "trail", "rows", "place", "word"]
noncomputable def B_looked : ASs :=
    (.cons (.assign 2 ⟨154, 4, 154, 9⟩ (.sub (.var 0 ⟨154, 12, 154, 19⟩) (.var 1 ⟨154, 20, 154, 24⟩) ⟨154, 12, 154, 25⟩) ⟨154, 4, 154, 25⟩)
    (.cons (.assign 3 ⟨155, 4, 155, 9⟩ (.list (.cons (.blt .tuple (.cons (.sub (.var 2 ⟨155, 19, 155, 24⟩) (.lit (.int 0) 0 ⟨155, 25, 155, 26⟩) ⟨155, 19, 155, 27⟩) .nil) ⟨155, 13, 155, 18⟩ ⟨155, 13, 155, 28⟩) .nil) ⟨155, 12, 155, 29⟩) ⟨155, 4, 155, 29⟩)
    (.cons (.assign 4 ⟨156, 4, 156, 8⟩ (.sub (.var 2 ⟨156, 11, 156, 16⟩) (.lit (.int 2) 0 ⟨156, 17, 156, 18⟩) ⟨156, 11, 156, 19⟩) ⟨156, 4, 156, 19⟩)
    (.cons (.for 5 ⟨157, 8, 157, 13⟩ (.blt .range (.cons (.blt .len (.cons (.var 4 ⟨157, 27, 157, 31⟩) .nil) ⟨157, 23, 157, 26⟩ ⟨157, 23, 157, 32⟩) .nil) ⟨157, 17, 157, 22⟩ ⟨157, 17, 157, 33⟩) (.cons (.assign 6 ⟨158, 8, 158, 12⟩ (.lit (.str "") 0 ⟨158, 15, 158, 17⟩) ⟨158, 8, 158, 17⟩)
    (.cons (.try (.cons (.expr (.meth (.var 3 ⟨160, 12, 160, 17⟩) .append (.cons (.call "behind" (.cons (.var 0 ⟨160, 32, 160, 39⟩) (.cons (.sub (.var 3 ⟨160, 41, 160, 46⟩) (.var 5 ⟨160, 47, 160, 52⟩) ⟨160, 41, 160, 53⟩) (.cons (.sub (.var 4 ⟨160, 55, 160, 59⟩) (.var 5 ⟨160, 60, 160, 65⟩) ⟨160, 55, 160, 66⟩) .nil))) ⟨160, 25, 160, 31⟩ ⟨160, 25, 160, 67⟩) .nil) ⟨160, 12, 160, 24⟩ ⟨160, 12, 160, 68⟩) ⟨160, 12, 160, 68⟩)
    .nil) (.cons 1 "Empty" ⟨161, 15, 161, 20⟩ none (.cons (.assign 6 ⟨162, 12, 162, 16⟩ (.lit (.str "empty") 0 ⟨162, 19, 162, 26⟩) ⟨162, 12, 162, 26⟩)
    .nil) ⟨161, 8, 162, 26⟩ (.cons 2 "WrongKind" ⟨163, 15, 163, 24⟩ none (.cons (.assign 6 ⟨164, 12, 164, 16⟩ (.lit (.str "kind") 0 ⟨164, 19, 164, 25⟩) ⟨164, 12, 164, 25⟩)
    .nil) ⟨163, 8, 164, 25⟩ (.cons 3 "NoBlock" ⟨165, 15, 165, 22⟩ none (.cons (.assign 6 ⟨166, 12, 166, 16⟩ (.lit (.str "block") 0 ⟨166, 19, 166, 26⟩) ⟨166, 12, 166, 26⟩)
    .nil) ⟨165, 8, 166, 26⟩ (.cons 4 "Apart" ⟨167, 15, 167, 20⟩ none (.cons (.assign 6 ⟨168, 12, 168, 16⟩ (.lit (.str "apart") 0 ⟨168, 19, 168, 26⟩) ⟨168, 12, 168, 26⟩)
    .nil) ⟨167, 8, 168, 26⟩ .nil)))) ⟨159, 8, 168, 26⟩)
    (.cons (.ite (.cmp (.var 6 ⟨169, 11, 169, 15⟩) .NotEq (.lit (.str "") 0 ⟨169, 19, 169, 21⟩) ⟨169, 11, 169, 21⟩) (.cons (.ret (.tup (.cons (.var 3 ⟨170, 20, 170, 25⟩) (.cons (.tup (.cons (.var 5 ⟨170, 28, 170, 33⟩) (.cons (.var 6 ⟨170, 35, 170, 39⟩) .nil)) 0 ⟨170, 27, 170, 40⟩) .nil)) 0 ⟨170, 19, 170, 41⟩) ⟨170, 12, 170, 41⟩)
    .nil) .nil ⟨169, 8, 170, 41⟩)
    .nil))) ⟨157, 4, 170, 41⟩)
    (.cons (.ite (.cmp (.sub (.var 3 ⟨171, 7, 171, 12⟩) (.neg (.lit (.int 1) 0 ⟨171, 14, 171, 15⟩) ⟨171, 13, 171, 15⟩) ⟨171, 7, 171, 16⟩) .NotEq (.blt .tuple (.cons (.sub (.var 2 ⟨171, 26, 171, 31⟩) (.lit (.int 1) 0 ⟨171, 32, 171, 33⟩) ⟨171, 26, 171, 34⟩) .nil) ⟨171, 20, 171, 25⟩ ⟨171, 20, 171, 35⟩) ⟨171, 7, 171, 35⟩) (.cons (.ret (.tup (.cons (.var 3 ⟨172, 16, 172, 21⟩) (.cons (.tup (.cons (.blt .len (.cons (.var 4 ⟨172, 28, 172, 32⟩) .nil) ⟨172, 24, 172, 27⟩ ⟨172, 24, 172, 33⟩) (.cons (.lit (.str "end") 0 ⟨172, 35, 172, 40⟩) .nil)) 0 ⟨172, 23, 172, 41⟩) .nil)) 0 ⟨172, 15, 172, 42⟩) ⟨172, 8, 172, 42⟩)
    .nil) .nil ⟨171, 4, 172, 42⟩)
    (.cons (.ret (.tup (.cons (.var 3 ⟨173, 12, 173, 17⟩) (.cons (.lit .none 0 ⟨173, 19, 173, 23⟩) .nil)) 0 ⟨173, 11, 173, 24⟩) ⟨173, 4, 173, 24⟩)
    .nil))))))
noncomputable def S_looked : Scope := {
              kind := PySem.ScopeKind.function,
              names := [
                (PySem.Str.ofString "program", PySem.NameKind.local),
                (PySem.Str.ofString "name", PySem.NameKind.local),
                (PySem.Str.ofString "block", PySem.NameKind.local),
                (PySem.Str.ofString "trail", PySem.NameKind.local),
                (PySem.Str.ofString "rows", PySem.NameKind.local),
                (PySem.Str.ofString "place", PySem.NameKind.local),
                (PySem.Str.ofString "word", PySem.NameKind.local),
                (PySem.Str.ofString "tuple", PySem.NameKind.globalImplicit),
                (PySem.Str.ofString "range", PySem.NameKind.globalImplicit),
                (PySem.Str.ofString "len", PySem.NameKind.globalImplicit),
                (PySem.Str.ofString "behind", PySem.NameKind.globalImplicit),
                (PySem.Str.ofString "Empty", PySem.NameKind.globalImplicit),
                (PySem.Str.ofString "WrongKind", PySem.NameKind.globalImplicit),
                (PySem.Str.ofString "NoBlock", PySem.NameKind.globalImplicit),
                (PySem.Str.ofString "Apart", PySem.NameKind.globalImplicit)],
              isGenerator := false,
              isCoroutine := false,
              more := [] : PySem.Scope }

noncomputable def N_trail_of : List Str := ["program", "name", "found"]
noncomputable def B_trail_of : ASs :=
    (.cons (.assign 2 ⟨175, 4, 175, 9⟩ (.call "looked" (.cons (.var 0 ⟨175, 19, 175, 26⟩) (.cons (.var 1 ⟨175, 28, 175, 32⟩) .nil)) ⟨175, 12, 175, 18⟩ ⟨175, 12, 175, 33⟩) ⟨175, 4, 175, 33⟩)
    (.cons (.ite (.cmp (.sub (.var 2 ⟨176, 7, 176, 12⟩) (.lit (.int 1) 0 ⟨176, 13, 176, 14⟩) ⟨176, 7, 176, 15⟩) .Is (.lit .none 0 ⟨176, 19, 176, 23⟩) ⟨176, 7, 176, 23⟩) (.cons (.ret (.sub (.var 2 ⟨177, 15, 177, 20⟩) (.lit (.int 0) 0 ⟨177, 21, 177, 22⟩) ⟨177, 15, 177, 23⟩) ⟨177, 8, 177, 23⟩)
    .nil) .nil ⟨176, 4, 177, 23⟩)
    (.cons (.ret (.lit .none 0 ⟨178, 11, 178, 15⟩) ⟨178, 4, 178, 15⟩)
    .nil)))
noncomputable def S_trail_of : Scope := {
              kind := PySem.ScopeKind.function,
              names := [
                (PySem.Str.ofString "program", PySem.NameKind.local),
                (PySem.Str.ofString "name", PySem.NameKind.local),
                (PySem.Str.ofString "found", PySem.NameKind.local),
                (PySem.Str.ofString "looked", PySem.NameKind.globalImplicit)],
              isGenerator := false,
              isCoroutine := false,
              more := [] : PySem.Scope }

noncomputable def N_named : List Str := ["rows", "names", "row"]
noncomputable def B_named : ASs :=
    (.cons (.assign 1 ⟨180, 4, 180, 9⟩ (.list .nil ⟨180, 12, 180, 14⟩) ⟨180, 4, 180, 14⟩)
    (.cons (.for 2 ⟨181, 8, 181, 11⟩ (.var 0 ⟨181, 15, 181, 19⟩) (.cons (.ite (.cmp (.sub (.var 2 ⟨182, 11, 182, 14⟩) (.lit (.int 0) 0 ⟨182, 15, 182, 16⟩) ⟨182, 11, 182, 17⟩) .Eq (.lit (.str "call") 0 ⟨182, 21, 182, 27⟩) ⟨182, 11, 182, 27⟩) (.cons (.expr (.meth (.var 1 ⟨183, 12, 183, 17⟩) .append (.cons (.sub (.var 2 ⟨183, 25, 183, 28⟩) (.lit (.int 1) 0 ⟨183, 29, 183, 30⟩) ⟨183, 25, 183, 31⟩) .nil) ⟨183, 12, 183, 24⟩ ⟨183, 12, 183, 32⟩) ⟨183, 12, 183, 32⟩)
    .nil) .nil ⟨182, 8, 183, 32⟩)
    (.cons (.ite (.cmp (.sub (.var 2 ⟨184, 11, 184, 14⟩) (.lit (.int 0) 0 ⟨184, 15, 184, 16⟩) ⟨184, 11, 184, 17⟩) .Eq (.lit (.str "if") 0 ⟨184, 21, 184, 25⟩) ⟨184, 11, 184, 25⟩) (.cons (.expr (.meth (.var 1 ⟨185, 12, 185, 17⟩) .append (.cons (.sub (.var 2 ⟨185, 25, 185, 28⟩) (.lit (.int 1) 0 ⟨185, 29, 185, 30⟩) ⟨185, 25, 185, 31⟩) .nil) ⟨185, 12, 185, 24⟩ ⟨185, 12, 185, 32⟩) ⟨185, 12, 185, 32⟩)
    (.cons (.expr (.meth (.var 1 ⟨186, 12, 186, 17⟩) .append (.cons (.sub (.var 2 ⟨186, 25, 186, 28⟩) (.lit (.int 2) 0 ⟨186, 29, 186, 30⟩) ⟨186, 25, 186, 31⟩) .nil) ⟨186, 12, 186, 24⟩ ⟨186, 12, 186, 32⟩) ⟨186, 12, 186, 32⟩)
    .nil)) .nil ⟨184, 8, 186, 32⟩)
    .nil)) ⟨181, 4, 186, 32⟩)
    (.cons (.ret (.var 1 ⟨187, 11, 187, 16⟩) ⟨187, 4, 187, 16⟩)
    .nil)))
noncomputable def S_named : Scope := {
              kind := PySem.ScopeKind.function,
              names := [
                (PySem.Str.ofString "rows", PySem.NameKind.local),
                (PySem.Str.ofString "names", PySem.NameKind.local),
                (PySem.Str.ofString "row", PySem.NameKind.local)],
              isGenerator := false,
              isCoroutine := false,
              more := [] : PySem.Scope }

noncomputable def N_come_to : List Str := ["program", "name", "found", "place", "other"]
noncomputable def B_come_to : ASs :=
    (.cons (.assign 2 ⟨189, 4, 189, 9⟩ (.list (.cons (.var 1 ⟨189, 13, 189, 17⟩) .nil) ⟨189, 12, 189, 18⟩) ⟨189, 4, 189, 18⟩)
    (.cons (.assign 3 ⟨190, 4, 190, 9⟩ (.lit (.int 0) 0 ⟨190, 12, 190, 13⟩) ⟨190, 4, 190, 13⟩)
    (.cons (.while (.cmp (.var 3 ⟨191, 10, 191, 15⟩) .Lt (.blt .len (.cons (.var 2 ⟨191, 22, 191, 27⟩) .nil) ⟨191, 18, 191, 21⟩ ⟨191, 18, 191, 28⟩) ⟨191, 10, 191, 28⟩) (.cons (.ite (.cmp (.sub (.var 2 ⟨192, 11, 192, 16⟩) (.var 3 ⟨192, 17, 192, 22⟩) ⟨192, 11, 192, 23⟩) .In (.var 0 ⟨192, 27, 192, 34⟩) ⟨192, 11, 192, 34⟩) (.cons (.for 4 ⟨193, 16, 193, 21⟩ (.call "named" (.cons (.sub (.sub (.var 0 ⟨193, 31, 193, 38⟩) (.sub (.var 2 ⟨193, 39, 193, 44⟩) (.var 3 ⟨193, 45, 193, 50⟩) ⟨193, 39, 193, 51⟩) ⟨193, 31, 193, 52⟩) (.lit (.int 2) 0 ⟨193, 53, 193, 54⟩) ⟨193, 31, 193, 55⟩) .nil) ⟨193, 25, 193, 30⟩ ⟨193, 25, 193, 56⟩) (.cons (.ite (.cmp (.var 4 ⟨194, 19, 194, 24⟩) .NotIn (.var 2 ⟨194, 32, 194, 37⟩) ⟨194, 19, 194, 37⟩) (.cons (.expr (.meth (.var 2 ⟨195, 20, 195, 25⟩) .append (.cons (.var 4 ⟨195, 33, 195, 38⟩) .nil) ⟨195, 20, 195, 32⟩ ⟨195, 20, 195, 39⟩) ⟨195, 20, 195, 39⟩)
    .nil) .nil ⟨194, 16, 195, 39⟩)
    .nil) ⟨193, 12, 195, 39⟩)
    .nil) .nil ⟨192, 8, 195, 39⟩)
    (.cons (.assign 3 ⟨196, 8, 196, 13⟩ (.bin (.var 3 ⟨196, 16, 196, 21⟩) .Add (.lit (.int 1) 0 ⟨196, 24, 196, 25⟩) ⟨196, 16, 196, 25⟩) ⟨196, 8, 196, 25⟩)
    .nil)) ⟨191, 4, 196, 25⟩)
    (.cons (.ret (.var 2 ⟨197, 11, 197, 16⟩) ⟨197, 4, 197, 16⟩)
    .nil))))
noncomputable def S_come_to : Scope := {
              kind := PySem.ScopeKind.function,
              names := [
                (PySem.Str.ofString "program", PySem.NameKind.local),
                (PySem.Str.ofString "name", PySem.NameKind.local),
                (PySem.Str.ofString "found", PySem.NameKind.local),
                (PySem.Str.ofString "place", PySem.NameKind.local),
                (PySem.Str.ofString "other", PySem.NameKind.local),
                (PySem.Str.ofString "len", PySem.NameKind.globalImplicit),
                (PySem.Str.ofString "named", PySem.NameKind.globalImplicit)],
              isGenerator := false,
              isCoroutine := false,
              more := [] : PySem.Scope }

noncomputable def N_height_by : List Str := ["program", "name", "known", "trail", "rows", "best", "place", "row", "more", "kinds"]
noncomputable def B_height_by : ASs :=
    (.cons (.assign 3 ⟨199, 4, 199, 9⟩ (.call "trail_of" (.cons (.var 0 ⟨199, 21, 199, 28⟩) (.cons (.var 1 ⟨199, 30, 199, 34⟩) .nil)) ⟨199, 12, 199, 20⟩ ⟨199, 12, 199, 35⟩) ⟨199, 4, 199, 35⟩)
    (.cons (.assign 4 ⟨200, 4, 200, 8⟩ (.sub (.sub (.var 0 ⟨200, 11, 200, 18⟩) (.var 1 ⟨200, 19, 200, 23⟩) ⟨200, 11, 200, 24⟩) (.lit (.int 2) 0 ⟨200, 25, 200, 26⟩) ⟨200, 11, 200, 27⟩) ⟨200, 4, 200, 27⟩)
    (.cons (.assign 5 ⟨201, 4, 201, 8⟩ (.blt .max (.cons (.comp (.blt .len (.cons (.var 9 ⟨201, 20, 201, 25⟩) .nil) ⟨201, 16, 201, 19⟩ ⟨201, 16, 201, 26⟩) 9 ⟨201, 31, 201, 36⟩ (.var 3 ⟨201, 40, 201, 45⟩) .nil {                         kind := PySem.ScopeKind.function,                         names := [                           (PySem.Str.ofString ".0", PySem.NameKind.local),                           (PySem.Str.ofString "kinds", PySem.NameKind.local),                           (PySem.Str.ofString "len", PySem.NameKind.globalImplicit)],                         isGenerator := false,                         isCoroutine := false,                         more := [] : PySem.Scope } ⟨201, 15, 201, 46⟩) .nil) ⟨201, 11, 201, 14⟩ ⟨201, 11, 201, 47⟩) ⟨201, 4, 201, 47⟩)
    (.cons (.for 6 ⟨202, 8, 202, 13⟩ (.blt .range (.cons (.blt .len (.cons (.var 4 ⟨202, 27, 202, 31⟩) .nil) ⟨202, 23, 202, 26⟩ ⟨202, 23, 202, 32⟩) .nil) ⟨202, 17, 202, 22⟩ ⟨202, 17, 202, 33⟩) (.cons (.assign 7 ⟨203, 8, 203, 11⟩ (.sub (.var 4 ⟨203, 14, 203, 18⟩) (.var 6 ⟨203, 19, 203, 24⟩) ⟨203, 14, 203, 25⟩) ⟨203, 8, 203, 25⟩)
    (.cons (.ite (.cmp (.sub (.var 7 ⟨204, 11, 204, 14⟩) (.lit (.int 0) 0 ⟨204, 15, 204, 16⟩) ⟨204, 11, 204, 17⟩) .Eq (.lit (.str "call") 0 ⟨204, 21, 204, 27⟩) ⟨204, 11, 204, 27⟩) (.cons (.assign 5 ⟨205, 12, 205, 16⟩ (.blt .max (.cons (.var 5 ⟨205, 23, 205, 27⟩) (.cons (.bin (.bin (.blt .len (.cons (.sub (.var 3 ⟨205, 33, 205, 38⟩) (.var 6 ⟨205, 39, 205, 44⟩) ⟨205, 33, 205, 45⟩) .nil) ⟨205, 29, 205, 32⟩ ⟨205, 29, 205, 46⟩) .Sub (.blt .len (.cons (.sub (.sub (.var 0 ⟨205, 53, 205, 60⟩) (.sub (.var 7 ⟨205, 61, 205, 64⟩) (.lit (.int 1) 0 ⟨205, 65, 205, 66⟩) ⟨205, 61, 205, 67⟩) ⟨205, 53, 205, 68⟩) (.lit (.int 0) 0 ⟨205, 69, 205, 70⟩) ⟨205, 53, 205, 71⟩) .nil) ⟨205, 49, 205, 52⟩ ⟨205, 49, 205, 72⟩) ⟨205, 29, 205, 72⟩) .Add (.sub (.var 2 ⟨205, 75, 205, 80⟩) (.sub (.var 7 ⟨205, 81, 205, 84⟩) (.lit (.int 1) 0 ⟨205, 85, 205, 86⟩) ⟨205, 81, 205, 87⟩) ⟨205, 75, 205, 88⟩) ⟨205, 29, 205, 88⟩) .nil)) ⟨205, 19, 205, 22⟩ ⟨205, 19, 205, 89⟩) ⟨205, 12, 205, 89⟩)
    .nil) .nil ⟨204, 8, 205, 89⟩)
    (.cons (.ite (.cmp (.sub (.var 7 ⟨206, 11, 206, 14⟩) (.lit (.int 0) 0 ⟨206, 15, 206, 16⟩) ⟨206, 11, 206, 17⟩) .Eq (.lit (.str "if") 0 ⟨206, 21, 206, 25⟩) ⟨206, 11, 206, 25⟩) (.cons (.assign 8 ⟨207, 12, 207, 16⟩ (.blt .max (.cons (.sub (.var 2 ⟨207, 23, 207, 28⟩) (.sub (.var 7 ⟨207, 29, 207, 32⟩) (.lit (.int 1) 0 ⟨207, 33, 207, 34⟩) ⟨207, 29, 207, 35⟩) ⟨207, 23, 207, 36⟩) (.cons (.sub (.var 2 ⟨207, 38, 207, 43⟩) (.sub (.var 7 ⟨207, 44, 207, 47⟩) (.lit (.int 2) 0 ⟨207, 48, 207, 49⟩) ⟨207, 44, 207, 50⟩) ⟨207, 38, 207, 51⟩) .nil)) ⟨207, 19, 207, 22⟩ ⟨207, 19, 207, 52⟩) ⟨207, 12, 207, 52⟩)
    (.cons (.assign 5 ⟨208, 12, 208, 16⟩ (.blt .max (.cons (.var 5 ⟨208, 23, 208, 27⟩) (.cons (.bin (.bin (.bin (.blt .len (.cons (.sub (.var 3 ⟨208, 33, 208, 38⟩) (.var 6 ⟨208, 39, 208, 44⟩) ⟨208, 33, 208, 45⟩) .nil) ⟨208, 29, 208, 32⟩ ⟨208, 29, 208, 46⟩) .Sub (.lit (.int 1) 0 ⟨208, 49, 208, 50⟩) ⟨208, 29, 208, 50⟩) .Sub (.blt .len (.cons (.sub (.sub (.var 0 ⟨208, 57, 208, 64⟩) (.sub (.var 7 ⟨208, 65, 208, 68⟩) (.lit (.int 1) 0 ⟨208, 69, 208, 70⟩) ⟨208, 65, 208, 71⟩) ⟨208, 57, 208, 72⟩) (.lit (.int 0) 0 ⟨208, 73, 208, 74⟩) ⟨208, 57, 208, 75⟩) .nil) ⟨208, 53, 208, 56⟩ ⟨208, 53, 208, 76⟩) ⟨208, 29, 208, 76⟩) .Add (.var 8 ⟨208, 79, 208, 83⟩) ⟨208, 29, 208, 83⟩) .nil)) ⟨208, 19, 208, 22⟩ ⟨208, 19, 208, 84⟩) ⟨208, 12, 208, 84⟩)
    .nil)) .nil ⟨206, 8, 208, 84⟩)
    .nil))) ⟨202, 4, 208, 84⟩)
    (.cons (.ret (.var 5 ⟨209, 11, 209, 15⟩) ⟨209, 4, 209, 15⟩)
    .nil)))))
noncomputable def S_height_by : Scope := {
              kind := PySem.ScopeKind.function,
              names := [
                (PySem.Str.ofString "program", PySem.NameKind.local),
                (PySem.Str.ofString "name", PySem.NameKind.local),
                (PySem.Str.ofString "known", PySem.NameKind.local),
                (PySem.Str.ofString "trail", PySem.NameKind.local),
                (PySem.Str.ofString "rows", PySem.NameKind.local),
                (PySem.Str.ofString "best", PySem.NameKind.local),
                (PySem.Str.ofString "place", PySem.NameKind.local),
                (PySem.Str.ofString "row", PySem.NameKind.local),
                (PySem.Str.ofString "more", PySem.NameKind.local),
                (PySem.Str.ofString "trail_of", PySem.NameKind.globalImplicit),
                (PySem.Str.ofString "max", PySem.NameKind.globalImplicit),
                (PySem.Str.ofString "range", PySem.NameKind.globalImplicit),
                (PySem.Str.ofString "len", PySem.NameKind.globalImplicit)],
              isGenerator := false,
              isCoroutine := false,
              more := [
                (PySem.Str.ofString "fast", (PySem.Const.str "program")),
                (PySem.Str.ofString "fast", (PySem.Const.str "name")),
                (PySem.Str.ofString "fast", (PySem.Const.str "known")),
                (PySem.Str.ofString "fast", (PySem.Const.str "trail")),
                (PySem.Str.ofString "fast", (PySem.Const.str "rows")),
                (PySem.Str.ofString "fast", (PySem.Const.str "kinds")),
                (PySem.Str.ofString "fast", (PySem.Const.str "best")),
                (PySem.Str.ofString "fast", (PySem.Const.str "place")),
                (PySem.Str.ofString "fast", (PySem.Const.str "row")),
                (PySem.Str.ofString "fast", (PySem.Const.str "more"))] : PySem.Scope }

noncomputable def N_height : List Str := ["program", "name", "waiting", "known", "left", "one", "other"]
noncomputable def B_height : ASs :=
    (.cons (.assign 2 ⟨211, 4, 211, 11⟩ (.call "come_to" (.cons (.var 0 ⟨211, 22, 211, 29⟩) (.cons (.var 1 ⟨211, 31, 211, 35⟩) .nil)) ⟨211, 14, 211, 21⟩ ⟨211, 14, 211, 36⟩) ⟨211, 4, 211, 36⟩)
    (.cons (.assign 3 ⟨212, 4, 212, 9⟩ (.dict [] .nil ⟨212, 12, 212, 14⟩) ⟨212, 4, 212, 14⟩)
    (.cons (.while (.cmp (.blt .len (.cons (.var 2 ⟨213, 14, 213, 21⟩) .nil) ⟨213, 10, 213, 13⟩ ⟨213, 10, 213, 22⟩) .Gt (.lit (.int 0) 0 ⟨213, 25, 213, 26⟩) ⟨213, 10, 213, 26⟩) (.cons (.assign 4 ⟨214, 8, 214, 12⟩ (.list .nil ⟨214, 15, 214, 17⟩) ⟨214, 8, 214, 17⟩)
    (.cons (.for 5 ⟨215, 12, 215, 15⟩ (.var 2 ⟨215, 19, 215, 26⟩) (.cons (.ite (.blt .all (.cons (.comp (.cmp (.var 6 ⟨216, 20, 216, 25⟩) .In (.var 3 ⟨216, 29, 216, 34⟩) ⟨216, 20, 216, 34⟩) 6 ⟨216, 39, 216, 44⟩ (.call "named" (.cons (.sub (.sub (.var 0 ⟨216, 54, 216, 61⟩) (.var 5 ⟨216, 62, 216, 65⟩) ⟨216, 54, 216, 66⟩) (.lit (.int 2) 0 ⟨216, 67, 216, 68⟩) ⟨216, 54, 216, 69⟩) .nil) ⟨216, 48, 216, 53⟩ ⟨216, 48, 216, 70⟩) .nil {                                 kind := PySem.ScopeKind.function,                                 names := [                                   (PySem.Str.ofString ".0", PySem.NameKind.local),                                   (PySem.Str.ofString "other", PySem.NameKind.local),                                   (PySem.Str.ofString "known", PySem.NameKind.free)],                                 isGenerator := false,                                 isCoroutine := false,                                 more := [] : PySem.Scope } ⟨216, 19, 216, 71⟩) .nil) ⟨216, 15, 216, 18⟩ ⟨216, 15, 216, 72⟩) (.cons (.store (.var 3 ⟨217, 16, 217, 21⟩) (.var 5 ⟨217, 22, 217, 25⟩) ⟨217, 16, 217, 26⟩ (.call "height_by" (.cons (.var 0 ⟨217, 39, 217, 46⟩) (.cons (.var 5 ⟨217, 48, 217, 51⟩) (.cons (.var 3 ⟨217, 53, 217, 58⟩) .nil))) ⟨217, 29, 217, 38⟩ ⟨217, 29, 217, 59⟩) ⟨217, 16, 217, 59⟩)
    .nil) (.cons (.expr (.meth (.var 4 ⟨219, 16, 219, 20⟩) .append (.cons (.var 5 ⟨219, 28, 219, 31⟩) .nil) ⟨219, 16, 219, 27⟩ ⟨219, 16, 219, 32⟩) ⟨219, 16, 219, 32⟩)
    .nil) ⟨216, 12, 219, 32⟩)
    .nil) ⟨215, 8, 219, 32⟩)
    (.cons (.ite (.cmp (.blt .len (.cons (.var 4 ⟨220, 15, 220, 19⟩) .nil) ⟨220, 11, 220, 14⟩ ⟨220, 11, 220, 20⟩) .Eq (.blt .len (.cons (.var 2 ⟨220, 28, 220, 35⟩) .nil) ⟨220, 24, 220, 27⟩ ⟨220, 24, 220, 36⟩) ⟨220, 11, 220, 36⟩) (.cons (.ret (.lit .none 0 ⟨221, 19, 221, 23⟩) ⟨221, 12, 221, 23⟩)
    .nil) .nil ⟨220, 8, 221, 23⟩)
    (.cons (.assign 2 ⟨222, 8, 222, 15⟩ (.var 4 ⟨222, 18, 222, 22⟩) ⟨222, 8, 222, 22⟩)
    .nil)))) ⟨213, 4, 222, 22⟩)
    (.cons (.ret (.sub (.var 3 ⟨223, 11, 223, 16⟩) (.var 1 ⟨223, 17, 223, 21⟩) ⟨223, 11, 223, 22⟩) ⟨223, 4, 223, 22⟩)
    .nil))))
noncomputable def S_height : Scope := {
              kind := PySem.ScopeKind.function,
              names := [
                (PySem.Str.ofString "program", PySem.NameKind.local),
                (PySem.Str.ofString "name", PySem.NameKind.local),
                (PySem.Str.ofString "waiting", PySem.NameKind.local),
                (PySem.Str.ofString "known", PySem.NameKind.cell),
                (PySem.Str.ofString "left", PySem.NameKind.local),
                (PySem.Str.ofString "one", PySem.NameKind.local),
                (PySem.Str.ofString "come_to", PySem.NameKind.globalImplicit),
                (PySem.Str.ofString "len", PySem.NameKind.globalImplicit),
                (PySem.Str.ofString "all", PySem.NameKind.globalImplicit),
                (PySem.Str.ofString "named", PySem.NameKind.globalImplicit),
                (PySem.Str.ofString "height_by", PySem.NameKind.globalImplicit)],
              isGenerator := false,
              isCoroutine := false,
              more := [
                (PySem.Str.ofString "fast", (PySem.Const.str "program")),
                (PySem.Str.ofString "fast", (PySem.Const.str "name")),
                (PySem.Str.ofString "fast", (PySem.Const.str "waiting")),
                (PySem.Str.ofString "fast", (PySem.Const.str "known")),
                (PySem.Str.ofString "fast", (PySem.Const.str "left")),
                (PySem.Str.ofString "fast", (PySem.Const.str "one")),
                (PySem.Str.ofString "fast", (PySem.Const.str "other"))] : PySem.Scope }

noncomputable def N_law_draw : List Str := ["_law_script", "_law_tape", "_law_many", "_law_seed", "_law_cell"]
noncomputable def B_law_draw : ASs :=
    (.cons (.store (.var 1 ⟨226, 4, 226, 13⟩) (.lit (.int 0) 0 ⟨226, 14, 226, 15⟩) ⟨226, 4, 226, 16⟩ (.bin (.sub (.var 1 ⟨226, 19, 226, 28⟩) (.lit (.int 0) 0 ⟨226, 29, 226, 30⟩) ⟨226, 19, 226, 31⟩) .Add (.lit (.int 1) 0 ⟨226, 34, 226, 35⟩) ⟨226, 19, 226, 35⟩) ⟨226, 4, 226, 35⟩)
    (.cons (.ite (.cmp (.sub (.var 1 ⟨227, 7, 227, 16⟩) (.lit (.int 0) 0 ⟨227, 17, 227, 18⟩) ⟨227, 7, 227, 19⟩) .LtE (.blt .len (.cons (.var 0 ⟨227, 27, 227, 38⟩) .nil) ⟨227, 23, 227, 26⟩ ⟨227, 23, 227, 39⟩) ⟨227, 7, 227, 39⟩) (.cons (.ret (.bin (.sub (.var 0 ⟨228, 15, 228, 26⟩) (.bin (.sub (.var 1 ⟨228, 27, 228, 36⟩) (.lit (.int 0) 0 ⟨228, 37, 228, 38⟩) ⟨228, 27, 228, 39⟩) .Sub (.lit (.int 1) 0 ⟨228, 42, 228, 43⟩) ⟨228, 27, 228, 43⟩) ⟨228, 15, 228, 44⟩) .Mod (.var 2 ⟨228, 47, 228, 56⟩) ⟨228, 15, 228, 56⟩) ⟨228, 8, 228, 56⟩)
    .nil) .nil ⟨227, 4, 228, 56⟩)
    (.cons (.assign 3 ⟨229, 4, 229, 13⟩ (.blt .len (.cons (.var 0 ⟨229, 20, 229, 31⟩) .nil) ⟨229, 16, 229, 19⟩ ⟨229, 16, 229, 32⟩) ⟨229, 4, 229, 32⟩)
    (.cons (.for 4 ⟨230, 8, 230, 17⟩ (.sto (.var 0 ⟨230, 21, 230, 32⟩) (.lit (.int 4) 0 ⟨230, 34, 230, 35⟩) ⟨230, 33, 230, 35⟩ ⟨230, 21, 230, 36⟩) (.cons (.assign 3 ⟨231, 8, 231, 17⟩ (.bin (.bin (.bin (.var 3 ⟨231, 21, 231, 30⟩) .Mult (.lit (.int 131) 0 ⟨231, 33, 231, 36⟩) ⟨231, 21, 231, 36⟩) .Add (.var 4 ⟨231, 39, 231, 48⟩) ⟨231, 21, 231, 48⟩) .Mod (.lit (.int 1000003) 0 ⟨231, 52, 231, 59⟩) ⟨231, 20, 231, 59⟩) ⟨231, 8, 231, 59⟩)
    .nil) ⟨230, 4, 231, 59⟩)
    (.cons (.ret (.bin (.bin (.bin (.bin (.var 3 ⟨232, 12, 232, 21⟩) .Add (.lit (.int 7) 0 ⟨232, 24, 232, 25⟩) ⟨232, 12, 232, 25⟩) .Mult (.bin (.bin (.sub (.var 1 ⟨232, 30, 232, 39⟩) (.lit (.int 0) 0 ⟨232, 40, 232, 41⟩) ⟨232, 30, 232, 42⟩) .Mult (.sub (.var 1 ⟨232, 45, 232, 54⟩) (.lit (.int 0) 0 ⟨232, 55, 232, 56⟩) ⟨232, 45, 232, 57⟩) ⟨232, 30, 232, 57⟩) .Add (.lit (.int 48271) 0 ⟨232, 60, 232, 65⟩) ⟨232, 30, 232, 65⟩) ⟨232, 11, 232, 66⟩) .Mod (.lit (.int 1000003) 0 ⟨232, 69, 232, 76⟩) ⟨232, 11, 232, 76⟩) .Mod (.var 2 ⟨232, 79, 232, 88⟩) ⟨232, 11, 232, 88⟩) ⟨232, 4, 232, 88⟩)
    .nil)))))
noncomputable def S_law_draw : Scope := {
              kind := PySem.ScopeKind.function,
              names := [
                (PySem.Str.ofString "_law_script", PySem.NameKind.local),
                (PySem.Str.ofString "_law_tape", PySem.NameKind.local),
                (PySem.Str.ofString "_law_many", PySem.NameKind.local),
                (PySem.Str.ofString "_law_seed", PySem.NameKind.local),
                (PySem.Str.ofString "_law_cell", PySem.NameKind.local),
                (PySem.Str.ofString "len", PySem.NameKind.globalImplicit)],
              isGenerator := false,
              isCoroutine := false,
              more := [] : PySem.Scope }

noncomputable def N_law_words : List Str := ["_law_cell", "_law_size", "_law_signs", "_law_k"]
noncomputable def B_law_words : ASs :=
    (.cons (.assign 2 ⟨234, 4, 234, 14⟩ (.lit (.str "abcdefghijklmnopqrstuvwxyzABCDEFGHIJKLMNOPQRSTUVWXYZ0123456789") 0 ⟨234, 17, 234, 81⟩) ⟨234, 4, 234, 81⟩)
    (.cons (.assign 2 ⟨235, 4, 235, 14⟩ (.bin (.var 2 ⟨235, 17, 235, 27⟩) .Add (.lit (.str " .,;:!?'\"()[]{}<>+-*/=&|^~_#$@\\`") 0 ⟨235, 30, 235, 66⟩) ⟨235, 17, 235, 66⟩) ⟨235, 4, 235, 66⟩)
    (.cons (.ret (.meth (.lit (.str "") 0 ⟨236, 11, 236, 13⟩) .join (.cons (.comp (.sub (.var 2 ⟨236, 20, 236, 30⟩) (.bin (.bin (.bin (.var 0 ⟨236, 32, 236, 41⟩) .FloorDiv (.bin (.var 3 ⟨236, 46, 236, 52⟩) .Add (.lit (.int 1) 0 ⟨236, 55, 236, 56⟩) ⟨236, 46, 236, 56⟩) ⟨236, 32, 236, 57⟩) .Add (.bin (.lit (.int 5) 0 ⟨236, 60, 236, 61⟩) .Mult (.var 3 ⟨236, 64, 236, 70⟩) ⟨236, 60, 236, 70⟩) ⟨236, 32, 236, 70⟩) .Mod (.lit (.int 94) 0 ⟨236, 74, 236, 76⟩) ⟨236, 31, 236, 76⟩) ⟨236, 20, 236, 77⟩) 3 ⟨236, 82, 236, 88⟩ (.blt .range (.cons (.var 1 ⟨236, 98, 236, 107⟩) .nil) ⟨236, 92, 236, 97⟩ ⟨236, 92, 236, 108⟩) .nil {                           kind := PySem.ScopeKind.function,                           names := [                             (PySem.Str.ofString ".0", PySem.NameKind.local),                             (PySem.Str.ofString "_law_k", PySem.NameKind.local),                             (PySem.Str.ofString "_law_cell", PySem.NameKind.free),                             (PySem.Str.ofString "_law_signs", PySem.NameKind.free)],                           isGenerator := false,                           isCoroutine := false,                           more := [] : PySem.Scope } ⟨236, 19, 236, 109⟩) .nil) ⟨236, 11, 236, 18⟩ ⟨236, 11, 236, 110⟩) ⟨236, 4, 236, 110⟩)
    .nil)))
noncomputable def S_law_words : Scope := {
              kind := PySem.ScopeKind.function,
              names := [
                (PySem.Str.ofString "_law_cell", PySem.NameKind.cell),
                (PySem.Str.ofString "_law_size", PySem.NameKind.local),
                (PySem.Str.ofString "_law_signs", PySem.NameKind.cell),
                (PySem.Str.ofString "range", PySem.NameKind.globalImplicit)],
              isGenerator := false,
              isCoroutine := false,
              more := [
                (PySem.Str.ofString "fast", (PySem.Const.str "_law_cell")),
                (PySem.Str.ofString "fast", (PySem.Const.str "_law_size")),
                (PySem.Str.ofString "fast", (PySem.Const.str "_law_signs")),
                (PySem.Str.ofString "fast", (PySem.Const.str "_law_k"))] : PySem.Scope }

noncomputable def N_law_value : List Str := ["_law_script", "_law_tape", "_law_kind", "_law_cell", "_law_way"]
noncomputable def B_law_value : ASs :=
    (.cons (.assign 3 ⟨238, 4, 238, 13⟩ (.call "_law_draw" (.cons (.var 0 ⟨238, 26, 238, 37⟩) (.cons (.var 1 ⟨238, 39, 238, 48⟩) (.cons (.lit (.int 1000000000) 0 ⟨238, 50, 238, 60⟩) .nil))) ⟨238, 16, 238, 25⟩ ⟨238, 16, 238, 61⟩) ⟨238, 4, 238, 61⟩)
    (.cons (.assign 4 ⟨239, 4, 239, 12⟩ (.call "_law_draw" (.cons (.var 0 ⟨239, 25, 239, 36⟩) (.cons (.var 1 ⟨239, 38, 239, 47⟩) (.cons (.lit (.int 6) 0 ⟨239, 49, 239, 50⟩) .nil))) ⟨239, 15, 239, 24⟩ ⟨239, 15, 239, 51⟩) ⟨239, 4, 239, 51⟩)
    (.cons (.ite (.cmp (.var 2 ⟨240, 7, 240, 16⟩) .Eq (.lit (.str "text") 0 ⟨240, 20, 240, 26⟩) ⟨240, 7, 240, 26⟩) (.cons (.ite (.cmp (.var 4 ⟨241, 11, 241, 19⟩) .Eq (.lit (.int 0) 0 ⟨241, 23, 241, 24⟩) ⟨241, 11, 241, 24⟩) (.cons (.ret (.call "_law_words" (.cons (.var 3 ⟨242, 30, 242, 39⟩) (.cons (.bin (.lit (.int 58) 0 ⟨242, 41, 242, 43⟩) .Add (.bin (.var 3 ⟨242, 46, 242, 55⟩) .Mod (.lit (.int 3) 0 ⟨242, 58, 242, 59⟩) ⟨242, 46, 242, 59⟩) ⟨242, 41, 242, 59⟩) .nil)) ⟨242, 19, 242, 29⟩ ⟨242, 19, 242, 60⟩) ⟨242, 12, 242, 60⟩)
    .nil) .nil ⟨241, 8, 242, 60⟩)
    (.cons (.ret (.call "_law_words" (.cons (.var 3 ⟨243, 26, 243, 35⟩) (.cons (.bin (.bin (.var 3 ⟨243, 37, 243, 46⟩) .FloorDiv (.lit (.int 94) 0 ⟨243, 50, 243, 52⟩) ⟨243, 37, 243, 52⟩) .Mod (.lit (.int 8) 0 ⟨243, 55, 243, 56⟩) ⟨243, 37, 243, 56⟩) .nil)) ⟨243, 15, 243, 25⟩ ⟨243, 15, 243, 57⟩) ⟨243, 8, 243, 57⟩)
    .nil)) .nil ⟨240, 4, 243, 57⟩)
    (.cons (.ite (.cmp (.var 4 ⟨244, 7, 244, 15⟩) .Eq (.lit (.int 0) 0 ⟨244, 19, 244, 20⟩) ⟨244, 7, 244, 20⟩) (.cons (.ret (.bin (.lit (.int 999999999) 0 ⟨245, 15, 245, 24⟩) .Sub (.bin (.var 3 ⟨245, 27, 245, 36⟩) .Mod (.lit (.int 3) 0 ⟨245, 39, 245, 40⟩) ⟨245, 27, 245, 40⟩) ⟨245, 15, 245, 40⟩) ⟨245, 8, 245, 40⟩)
    .nil) .nil ⟨244, 4, 245, 40⟩)
    (.cons (.ite (.cmp (.var 4 ⟨246, 7, 246, 15⟩) .Lt (.lit (.int 3) 0 ⟨246, 18, 246, 19⟩) ⟨246, 7, 246, 19⟩) (.cons (.ret (.bin (.var 3 ⟨247, 15, 247, 24⟩) .Mod (.lit (.int 4) 0 ⟨247, 27, 247, 28⟩) ⟨247, 15, 247, 28⟩) ⟨247, 8, 247, 28⟩)
    .nil) .nil ⟨246, 4, 247, 28⟩)
    (.cons (.ret (.var 3 ⟨248, 11, 248, 20⟩) ⟨248, 4, 248, 20⟩)
    .nil))))))
noncomputable def S_law_value : Scope := {
              kind := PySem.ScopeKind.function,
              names := [
                (PySem.Str.ofString "_law_script", PySem.NameKind.local),
                (PySem.Str.ofString "_law_tape", PySem.NameKind.local),
                (PySem.Str.ofString "_law_kind", PySem.NameKind.local),
                (PySem.Str.ofString "_law_cell", PySem.NameKind.local),
                (PySem.Str.ofString "_law_way", PySem.NameKind.local),
                (PySem.Str.ofString "_law_draw", PySem.NameKind.globalImplicit),
                (PySem.Str.ofString "_law_words", PySem.NameKind.globalImplicit)],
              isGenerator := false,
              isCoroutine := false,
              more := [] : PySem.Scope }

noncomputable def N_law_wanted : List Str := ["_law_row", "_law_two", "_law_one"]
noncomputable def B_law_wanted : ASs :=
    (.cons (.ite (.cmp (.sub (.var 0 ⟨250, 7, 250, 15⟩) (.lit (.int 0) 0 ⟨250, 16, 250, 17⟩) ⟨250, 7, 250, 18⟩) .Eq (.lit (.str "copy") 0 ⟨250, 22, 250, 28⟩) ⟨250, 7, 250, 28⟩) (.cons (.ret (.bin (.list (.cons (.lit (.str "") 0 ⟨251, 16, 251, 18⟩) .nil) ⟨251, 15, 251, 19⟩) .Mult (.bin (.sub (.var 0 ⟨251, 23, 251, 31⟩) (.lit (.int 1) 0 ⟨251, 32, 251, 33⟩) ⟨251, 23, 251, 34⟩) .Add (.lit (.int 1) 0 ⟨251, 37, 251, 38⟩) ⟨251, 23, 251, 38⟩) ⟨251, 15, 251, 39⟩) ⟨251, 8, 251, 39⟩)
    .nil) .nil ⟨250, 4, 251, 39⟩)
    (.cons (.assign 1 ⟨252, 4, 252, 12⟩ (.dict [("add", ⟨252, 16, 252, 21⟩), ("mul", ⟨252, 30, 252, 35⟩), ("less", ⟨252, 44, 252, 50⟩), ("join", ⟨252, 59, 252, 65⟩), ("swap", ⟨252, 75, 252, 81⟩)] (.cons (.lit (.str "num") 0 ⟨252, 23, 252, 28⟩) (.cons (.lit (.str "num") 0 ⟨252, 37, 252, 42⟩) (.cons (.lit (.str "num") 0 ⟨252, 52, 252, 57⟩) (.cons (.lit (.str "text") 0 ⟨252, 67, 252, 73⟩) (.cons (.lit (.str "") 0 ⟨252, 83, 252, 85⟩) .nil))))) ⟨252, 15, 252, 86⟩) ⟨252, 4, 252, 86⟩)
    (.cons (.assign 2 ⟨253, 4, 253, 12⟩ (.dict [("long", ⟨253, 16, 253, 22⟩), ("show", ⟨253, 32, 253, 38⟩), ("drop", ⟨253, 47, 253, 53⟩)] (.cons (.lit (.str "text") 0 ⟨253, 24, 253, 30⟩) (.cons (.lit (.str "num") 0 ⟨253, 40, 253, 45⟩) (.cons (.lit (.str "") 0 ⟨253, 55, 253, 57⟩) .nil))) ⟨253, 15, 253, 58⟩) ⟨253, 4, 253, 58⟩)
    (.cons (.ite (.cmp (.sub (.var 0 ⟨254, 7, 254, 15⟩) (.lit (.int 0) 0 ⟨254, 16, 254, 17⟩) ⟨254, 7, 254, 18⟩) .In (.var 1 ⟨254, 22, 254, 30⟩) ⟨254, 7, 254, 30⟩) (.cons (.ret (.list (.cons (.sub (.var 1 ⟨255, 16, 255, 24⟩) (.sub (.var 0 ⟨255, 25, 255, 33⟩) (.lit (.int 0) 0 ⟨255, 34, 255, 35⟩) ⟨255, 25, 255, 36⟩) ⟨255, 16, 255, 37⟩) (.cons (.sub (.var 1 ⟨255, 39, 255, 47⟩) (.sub (.var 0 ⟨255, 48, 255, 56⟩) (.lit (.int 0) 0 ⟨255, 57, 255, 58⟩) ⟨255, 48, 255, 59⟩) ⟨255, 39, 255, 60⟩) .nil)) ⟨255, 15, 255, 61⟩) ⟨255, 8, 255, 61⟩)
    .nil) .nil ⟨254, 4, 255, 61⟩)
    (.cons (.ite (.cmp (.sub (.var 0 ⟨256, 7, 256, 15⟩) (.lit (.int 0) 0 ⟨256, 16, 256, 17⟩) ⟨256, 7, 256, 18⟩) .In (.var 2 ⟨256, 22, 256, 30⟩) ⟨256, 7, 256, 30⟩) (.cons (.ret (.list (.cons (.sub (.var 2 ⟨257, 16, 257, 24⟩) (.sub (.var 0 ⟨257, 25, 257, 33⟩) (.lit (.int 0) 0 ⟨257, 34, 257, 35⟩) ⟨257, 25, 257, 36⟩) ⟨257, 16, 257, 37⟩) .nil) ⟨257, 15, 257, 38⟩) ⟨257, 8, 257, 38⟩)
    .nil) .nil ⟨256, 4, 257, 38⟩)
    (.cons (.ret (.list .nil ⟨258, 11, 258, 13⟩) ⟨258, 4, 258, 13⟩)
    .nil))))))
noncomputable def S_law_wanted : Scope := {
              kind := PySem.ScopeKind.function,
              names := [
                (PySem.Str.ofString "_law_row", PySem.NameKind.local),
                (PySem.Str.ofString "_law_two", PySem.NameKind.local),
                (PySem.Str.ofString "_law_one", PySem.NameKind.local)],
              isGenerator := false,
              isCoroutine := false,
              more := [] : PySem.Scope }

noncomputable def N_law_lack : List Str := ["_law_kinds_here", "_law_wanted_here", "_law_low", "_law_k"]
noncomputable def B_law_lack : ASs :=
    (.cons (.ite (.cmp (.blt .len (.cons (.var 0 ⟨260, 11, 260, 26⟩) .nil) ⟨260, 7, 260, 10⟩ ⟨260, 7, 260, 27⟩) .Lt (.blt .len (.cons (.var 1 ⟨260, 34, 260, 50⟩) .nil) ⟨260, 30, 260, 33⟩ ⟨260, 30, 260, 51⟩) ⟨260, 7, 260, 51⟩) (.cons (.ret (.lit (.str "empty") 0 ⟨261, 15, 261, 22⟩) ⟨261, 8, 261, 22⟩)
    .nil) .nil ⟨260, 4, 261, 22⟩)
    (.cons (.assign 2 ⟨262, 4, 262, 12⟩ (.bin (.blt .len (.cons (.var 0 ⟨262, 19, 262, 34⟩) .nil) ⟨262, 15, 262, 18⟩ ⟨262, 15, 262, 35⟩) .Sub (.blt .len (.cons (.var 1 ⟨262, 42, 262, 58⟩) .nil) ⟨262, 38, 262, 41⟩ ⟨262, 38, 262, 59⟩) ⟨262, 15, 262, 59⟩) ⟨262, 4, 262, 59⟩)
    (.cons (.for 3 ⟨263, 8, 263, 14⟩ (.blt .range (.cons (.blt .len (.cons (.var 1 ⟨263, 28, 263, 44⟩) .nil) ⟨263, 24, 263, 27⟩ ⟨263, 24, 263, 45⟩) .nil) ⟨263, 18, 263, 23⟩ ⟨263, 18, 263, 46⟩) (.cons (.ite (.bop .And (.cons (.cmp (.sub (.var 1 ⟨264, 11, 264, 27⟩) (.var 3 ⟨264, 28, 264, 34⟩) ⟨264, 11, 264, 35⟩) .NotEq (.lit (.str "") 0 ⟨264, 39, 264, 41⟩) ⟨264, 11, 264, 41⟩) (.cons (.cmp (.sub (.var 1 ⟨264, 46, 264, 62⟩) (.var 3 ⟨264, 63, 264, 69⟩) ⟨264, 46, 264, 70⟩) .NotEq (.sub (.var 0 ⟨264, 74, 264, 89⟩) (.bin (.var 2 ⟨264, 90, 264, 98⟩) .Add (.var 3 ⟨264, 101, 264, 107⟩) ⟨264, 90, 264, 107⟩) ⟨264, 74, 264, 108⟩) ⟨264, 46, 264, 108⟩) .nil)) ⟨264, 11, 264, 108⟩) (.cons (.ret (.lit (.str "kind") 0 ⟨265, 19, 265, 25⟩) ⟨265, 12, 265, 25⟩)
    .nil) .nil ⟨264, 8, 265, 25⟩)
    .nil) ⟨263, 4, 265, 25⟩)
    (.cons (.ret (.lit (.str "") 0 ⟨266, 11, 266, 13⟩) ⟨266, 4, 266, 13⟩)
    .nil))))
noncomputable def S_law_lack : Scope := {
              kind := PySem.ScopeKind.function,
              names := [
                (PySem.Str.ofString "_law_kinds_here", PySem.NameKind.local),
                (PySem.Str.ofString "_law_wanted_here", PySem.NameKind.local),
                (PySem.Str.ofString "_law_low", PySem.NameKind.local),
                (PySem.Str.ofString "_law_k", PySem.NameKind.local),
                (PySem.Str.ofString "len", PySem.NameKind.globalImplicit),
                (PySem.Str.ofString "range", PySem.NameKind.globalImplicit)],
              isGenerator := false,
              isCoroutine := false,
              more := [] : PySem.Scope }

noncomputable def N_law_plainly : List Str := ["_law_kinds_here", "_law_row", "_law_left"]
noncomputable def B_law_plainly : ASs :=
    (.cons (.assign 2 ⟨268, 4, 268, 13⟩ (.sto (.var 0 ⟨268, 16, 268, 31⟩) (.bin (.blt .len (.cons (.var 0 ⟨268, 37, 268, 52⟩) .nil) ⟨268, 33, 268, 36⟩ ⟨268, 33, 268, 53⟩) .Sub (.blt .len (.cons (.call "_law_wanted" (.cons (.var 1 ⟨268, 72, 268, 80⟩) .nil) ⟨268, 60, 268, 71⟩ ⟨268, 60, 268, 81⟩) .nil) ⟨268, 56, 268, 59⟩ ⟨268, 56, 268, 82⟩) ⟨268, 33, 268, 82⟩) ⟨268, 32, 268, 82⟩ ⟨268, 16, 268, 83⟩) ⟨268, 4, 268, 83⟩)
    (.cons (.ite (.cmp (.sub (.var 1 ⟨269, 7, 269, 15⟩) (.lit (.int 0) 0 ⟨269, 16, 269, 17⟩) ⟨269, 7, 269, 18⟩) .Eq (.lit (.str "copy") 0 ⟨269, 22, 269, 28⟩) ⟨269, 7, 269, 28⟩) (.cons (.ret (.bin (.var 0 ⟨270, 15, 270, 30⟩) .Add (.list (.cons (.sub (.var 0 ⟨270, 34, 270, 49⟩) (.bin (.bin (.blt .len (.cons (.var 0 ⟨270, 54, 270, 69⟩) .nil) ⟨270, 50, 270, 53⟩ ⟨270, 50, 270, 70⟩) .Sub (.lit (.int 1) 0 ⟨270, 73, 270, 74⟩) ⟨270, 50, 270, 74⟩) .Sub (.sub (.var 1 ⟨270, 77, 270, 85⟩) (.lit (.int 1) 0 ⟨270, 86, 270, 87⟩) ⟨270, 77, 270, 88⟩) ⟨270, 50, 270, 88⟩) ⟨270, 34, 270, 89⟩) .nil) ⟨270, 33, 270, 90⟩) ⟨270, 15, 270, 90⟩) ⟨270, 8, 270, 90⟩)
    .nil) .nil ⟨269, 4, 270, 90⟩)
    (.cons (.ite (.cmp (.sub (.var 1 ⟨271, 7, 271, 15⟩) (.lit (.int 0) 0 ⟨271, 16, 271, 17⟩) ⟨271, 7, 271, 18⟩) .Eq (.lit (.str "swap") 0 ⟨271, 22, 271, 28⟩) ⟨271, 7, 271, 28⟩) (.cons (.ret (.bin (.var 2 ⟨272, 15, 272, 24⟩) .Add (.list (.cons (.sub (.var 0 ⟨272, 28, 272, 43⟩) (.neg (.lit (.int 1) 0 ⟨272, 45, 272, 46⟩) ⟨272, 44, 272, 46⟩) ⟨272, 28, 272, 47⟩) (.cons (.sub (.var 0 ⟨272, 49, 272, 64⟩) (.neg (.lit (.int 2) 0 ⟨272, 66, 272, 67⟩) ⟨272, 65, 272, 67⟩) ⟨272, 49, 272, 68⟩) .nil)) ⟨272, 27, 272, 69⟩) ⟨272, 15, 272, 69⟩) ⟨272, 8, 272, 69⟩)
    .nil) .nil ⟨271, 4, 272, 69⟩)
    (.cons (.ite (.cmp (.sub (.var 1 ⟨273, 7, 273, 15⟩) (.lit (.int 0) 0 ⟨273, 16, 273, 17⟩) ⟨273, 7, 273, 18⟩) .Eq (.lit (.str "drop") 0 ⟨273, 22, 273, 28⟩) ⟨273, 7, 273, 28⟩) (.cons (.ret (.var 2 ⟨274, 15, 274, 24⟩) ⟨274, 8, 274, 24⟩)
    .nil) .nil ⟨273, 4, 274, 24⟩)
    (.cons (.ite (.bop .Or (.cons (.cmp (.sub (.var 1 ⟨275, 7, 275, 15⟩) (.lit (.int 0) 0 ⟨275, 16, 275, 17⟩) ⟨275, 7, 275, 18⟩) .Eq (.lit (.str "text") 0 ⟨275, 22, 275, 28⟩) ⟨275, 7, 275, 28⟩) (.cons (.cmp (.sub (.var 1 ⟨275, 32, 275, 40⟩) (.lit (.int 0) 0 ⟨275, 41, 275, 42⟩) ⟨275, 32, 275, 43⟩) .Eq (.lit (.str "join") 0 ⟨275, 47, 275, 53⟩) ⟨275, 32, 275, 53⟩) (.cons (.cmp (.sub (.var 1 ⟨275, 57, 275, 65⟩) (.lit (.int 0) 0 ⟨275, 66, 275, 67⟩) ⟨275, 57, 275, 68⟩) .Eq (.lit (.str "show") 0 ⟨275, 72, 275, 78⟩) ⟨275, 57, 275, 78⟩) .nil))) ⟨275, 7, 275, 78⟩) (.cons (.ret (.bin (.var 2 ⟨276, 15, 276, 24⟩) .Add (.list (.cons (.lit (.str "text") 0 ⟨276, 28, 276, 34⟩) .nil) ⟨276, 27, 276, 35⟩) ⟨276, 15, 276, 35⟩) ⟨276, 8, 276, 35⟩)
    .nil) .nil ⟨275, 4, 276, 35⟩)
    (.cons (.ret (.bin (.var 2 ⟨277, 11, 277, 20⟩) .Add (.list (.cons (.lit (.str "num") 0 ⟨277, 24, 277, 29⟩) .nil) ⟨277, 23, 277, 30⟩) ⟨277, 11, 277, 30⟩) ⟨277, 4, 277, 30⟩)
    .nil))))))
noncomputable def S_law_plainly : Scope := {
              kind := PySem.ScopeKind.function,
              names := [
                (PySem.Str.ofString "_law_kinds_here", PySem.NameKind.local),
                (PySem.Str.ofString "_law_row", PySem.NameKind.local),
                (PySem.Str.ofString "_law_left", PySem.NameKind.local),
                (PySem.Str.ofString "len", PySem.NameKind.globalImplicit),
                (PySem.Str.ofString "_law_wanted", PySem.NameKind.globalImplicit)],
              isGenerator := false,
              isCoroutine := false,
              more := [] : PySem.Scope }

noncomputable def N_law_called : List Str := ["_law_told_here", "_law_kinds_here", "_law_name", "_law_ins", "_law_word"]
noncomputable def B_law_called : ASs :=
    (.cons (.assign 3 ⟨279, 4, 279, 12⟩ (.blt .list (.cons (.sub (.sub (.var 0 ⟨279, 20, 279, 34⟩) (.var 2 ⟨279, 35, 279, 44⟩) ⟨279, 20, 279, 45⟩) (.lit (.int 0) 0 ⟨279, 46, 279, 47⟩) ⟨279, 20, 279, 48⟩) .nil) ⟨279, 15, 279, 19⟩ ⟨279, 15, 279, 49⟩) ⟨279, 4, 279, 49⟩)
    (.cons (.assign 4 ⟨280, 4, 280, 13⟩ (.call "_law_lack" (.cons (.var 1 ⟨280, 26, 280, 41⟩) (.cons (.var 3 ⟨280, 43, 280, 51⟩) .nil)) ⟨280, 16, 280, 25⟩ ⟨280, 16, 280, 52⟩) ⟨280, 4, 280, 52⟩)
    (.cons (.ite (.cmp (.var 4 ⟨281, 7, 281, 16⟩) .NotEq (.lit (.str "") 0 ⟨281, 20, 281, 22⟩) ⟨281, 7, 281, 22⟩) (.cons (.ret (.tup (.cons (.var 4 ⟨282, 16, 282, 25⟩) (.cons (.var 1 ⟨282, 27, 282, 42⟩) .nil)) 0 ⟨282, 15, 282, 43⟩) ⟨282, 8, 282, 43⟩)
    .nil) .nil ⟨281, 4, 282, 43⟩)
    (.cons (.ret (.tup (.cons (.lit (.str "") 0 ⟨283, 12, 283, 14⟩) (.cons (.bin (.sto (.var 1 ⟨283, 16, 283, 31⟩) (.bin (.blt .len (.cons (.var 1 ⟨283, 37, 283, 52⟩) .nil) ⟨283, 33, 283, 36⟩ ⟨283, 33, 283, 53⟩) .Sub (.blt .len (.cons (.var 3 ⟨283, 60, 283, 68⟩) .nil) ⟨283, 56, 283, 59⟩ ⟨283, 56, 283, 69⟩) ⟨283, 33, 283, 69⟩) ⟨283, 32, 283, 69⟩ ⟨283, 16, 283, 70⟩) .Add (.blt .list (.cons (.sub (.sub (.var 0 ⟨283, 78, 283, 92⟩) (.var 2 ⟨283, 93, 283, 102⟩) ⟨283, 78, 283, 103⟩) (.lit (.int 1) 0 ⟨283, 104, 283, 105⟩) ⟨283, 78, 283, 106⟩) .nil) ⟨283, 73, 283, 77⟩ ⟨283, 73, 283, 107⟩) ⟨283, 16, 283, 107⟩) .nil)) 0 ⟨283, 11, 283, 108⟩) ⟨283, 4, 283, 108⟩)
    .nil))))
noncomputable def S_law_called : Scope := {
              kind := PySem.ScopeKind.function,
              names := [
                (PySem.Str.ofString "_law_told_here", PySem.NameKind.local),
                (PySem.Str.ofString "_law_kinds_here", PySem.NameKind.local),
                (PySem.Str.ofString "_law_name", PySem.NameKind.local),
                (PySem.Str.ofString "_law_ins", PySem.NameKind.local),
                (PySem.Str.ofString "_law_word", PySem.NameKind.local),
                (PySem.Str.ofString "list", PySem.NameKind.globalImplicit),
                (PySem.Str.ofString "_law_lack", PySem.NameKind.globalImplicit),
                (PySem.Str.ofString "len", PySem.NameKind.globalImplicit)],
              isGenerator := false,
              isCoroutine := false,
              more := [] : PySem.Scope }

noncomputable def N_law_next : List Str := ["_law_told_here", "_law_kinds_here", "_law_row", "_law_word"]
noncomputable def B_law_next : ASs :=
    (.cons (.ite (.cmp (.sub (.var 2 ⟨285, 7, 285, 15⟩) (.lit (.int 0) 0 ⟨285, 16, 285, 17⟩) ⟨285, 7, 285, 18⟩) .Eq (.lit (.str "call") 0 ⟨285, 22, 285, 28⟩) ⟨285, 7, 285, 28⟩) (.cons (.ite (.cmp (.sub (.var 2 ⟨286, 11, 286, 19⟩) (.lit (.int 1) 0 ⟨286, 20, 286, 21⟩) ⟨286, 11, 286, 22⟩) .NotIn (.var 0 ⟨286, 30, 286, 44⟩) ⟨286, 11, 286, 44⟩) (.cons (.ret (.tup (.cons (.lit (.str "block") 0 ⟨287, 20, 287, 27⟩) (.cons (.var 1 ⟨287, 29, 287, 44⟩) .nil)) 0 ⟨287, 19, 287, 45⟩) ⟨287, 12, 287, 45⟩)
    .nil) .nil ⟨286, 8, 287, 45⟩)
    (.cons (.ret (.call "_law_called" (.cons (.var 0 ⟨288, 27, 288, 41⟩) (.cons (.var 1 ⟨288, 43, 288, 58⟩) (.cons (.sub (.var 2 ⟨288, 60, 288, 68⟩) (.lit (.int 1) 0 ⟨288, 69, 288, 70⟩) ⟨288, 60, 288, 71⟩) .nil))) ⟨288, 15, 288, 26⟩ ⟨288, 15, 288, 72⟩) ⟨288, 8, 288, 72⟩)
    .nil)) .nil ⟨285, 4, 288, 72⟩)
    (.cons (.ite (.cmp (.sub (.var 2 ⟨289, 7, 289, 15⟩) (.lit (.int 0) 0 ⟨289, 16, 289, 17⟩) ⟨289, 7, 289, 18⟩) .Eq (.lit (.str "if") 0 ⟨289, 22, 289, 26⟩) ⟨289, 7, 289, 26⟩) (.cons (.assign 3 ⟨290, 8, 290, 17⟩ (.call "_law_lack" (.cons (.var 1 ⟨290, 30, 290, 45⟩) (.cons (.list (.cons (.lit (.str "num") 0 ⟨290, 48, 290, 53⟩) .nil) ⟨290, 47, 290, 54⟩) .nil)) ⟨290, 20, 290, 29⟩ ⟨290, 20, 290, 55⟩) ⟨290, 8, 290, 55⟩)
    (.cons (.ite (.cmp (.var 3 ⟨291, 11, 291, 20⟩) .NotEq (.lit (.str "") 0 ⟨291, 24, 291, 26⟩) ⟨291, 11, 291, 26⟩) (.cons (.ret (.tup (.cons (.var 3 ⟨292, 20, 292, 29⟩) (.cons (.var 1 ⟨292, 31, 292, 46⟩) .nil)) 0 ⟨292, 19, 292, 47⟩) ⟨292, 12, 292, 47⟩)
    .nil) .nil ⟨291, 8, 292, 47⟩)
    (.cons (.ite (.bop .Or (.cons (.cmp (.sub (.var 2 ⟨293, 11, 293, 19⟩) (.lit (.int 1) 0 ⟨293, 20, 293, 21⟩) ⟨293, 11, 293, 22⟩) .NotIn (.var 0 ⟨293, 30, 293, 44⟩) ⟨293, 11, 293, 44⟩) (.cons (.cmp (.sub (.var 2 ⟨293, 48, 293, 56⟩) (.lit (.int 2) 0 ⟨293, 57, 293, 58⟩) ⟨293, 48, 293, 59⟩) .NotIn (.var 0 ⟨293, 67, 293, 81⟩) ⟨293, 48, 293, 81⟩) .nil)) ⟨293, 11, 293, 81⟩) (.cons (.ret (.tup (.cons (.lit (.str "block") 0 ⟨294, 20, 294, 27⟩) (.cons (.var 1 ⟨294, 29, 294, 44⟩) .nil)) 0 ⟨294, 19, 294, 45⟩) ⟨294, 12, 294, 45⟩)
    .nil) .nil ⟨293, 8, 294, 45⟩)
    (.cons (.ite (.bop .Or (.cons (.cmp (.sub (.sub (.var 0 ⟨295, 11, 295, 25⟩) (.sub (.var 2 ⟨295, 26, 295, 34⟩) (.lit (.int 1) 0 ⟨295, 35, 295, 36⟩) ⟨295, 26, 295, 37⟩) ⟨295, 11, 295, 38⟩) (.lit (.int 0) 0 ⟨295, 39, 295, 40⟩) ⟨295, 11, 295, 41⟩) .NotEq (.sub (.sub (.var 0 ⟨295, 45, 295, 59⟩) (.sub (.var 2 ⟨295, 60, 295, 68⟩) (.lit (.int 2) 0 ⟨295, 69, 295, 70⟩) ⟨295, 60, 295, 71⟩) ⟨295, 45, 295, 72⟩) (.lit (.int 0) 0 ⟨295, 73, 295, 74⟩) ⟨295, 45, 295, 75⟩) ⟨295, 11, 295, 75⟩) (.cons (.cmp (.sub (.sub (.var 0 ⟨295, 79, 295, 93⟩) (.sub (.var 2 ⟨295, 94, 295, 102⟩) (.lit (.int 1) 0 ⟨295, 103, 295, 104⟩) ⟨295, 94, 295, 105⟩) ⟨295, 79, 295, 106⟩) (.lit (.int 1) 0 ⟨295, 107, 295, 108⟩) ⟨295, 79, 295, 109⟩) .NotEq (.sub (.sub (.var 0 ⟨295, 113, 295, 127⟩) (.sub (.var 2 ⟨295, 128, 295, 136⟩) (.lit (.int 2) 0 ⟨295, 137, 295, 138⟩) ⟨295, 128, 295, 139⟩) ⟨295, 113, 295, 140⟩) (.lit (.int 1) 0 ⟨295, 141, 295, 142⟩) ⟨295, 113, 295, 143⟩) ⟨295, 79, 295, 143⟩) .nil)) ⟨295, 11, 295, 143⟩) (.cons (.ret (.tup (.cons (.lit (.str "apart") 0 ⟨296, 20, 296, 27⟩) (.cons (.var 1 ⟨296, 29, 296, 44⟩) .nil)) 0 ⟨296, 19, 296, 45⟩) ⟨296, 12, 296, 45⟩)
    .nil) .nil ⟨295, 8, 296, 45⟩)
    (.cons (.ret (.call "_law_called" (.cons (.var 0 ⟨297, 27, 297, 41⟩) (.cons (.sto (.var 1 ⟨297, 43, 297, 58⟩) (.neg (.lit (.int 1) 0 ⟨297, 61, 297, 62⟩) ⟨297, 60, 297, 62⟩) ⟨297, 59, 297, 62⟩ ⟨297, 43, 297, 63⟩) (.cons (.sub (.var 2 ⟨297, 65, 297, 73⟩) (.lit (.int 1) 0 ⟨297, 74, 297, 75⟩) ⟨297, 65, 297, 76⟩) .nil))) ⟨297, 15, 297, 26⟩ ⟨297, 15, 297, 77⟩) ⟨297, 8, 297, 77⟩)
    .nil))))) .nil ⟨289, 4, 297, 77⟩)
    (.cons (.assign 3 ⟨298, 4, 298, 13⟩ (.call "_law_lack" (.cons (.var 1 ⟨298, 26, 298, 41⟩) (.cons (.call "_law_wanted" (.cons (.var 2 ⟨298, 55, 298, 63⟩) .nil) ⟨298, 43, 298, 54⟩ ⟨298, 43, 298, 64⟩) .nil)) ⟨298, 16, 298, 25⟩ ⟨298, 16, 298, 65⟩) ⟨298, 4, 298, 65⟩)
    (.cons (.ite (.cmp (.var 3 ⟨299, 7, 299, 16⟩) .NotEq (.lit (.str "") 0 ⟨299, 20, 299, 22⟩) ⟨299, 7, 299, 22⟩) (.cons (.ret (.tup (.cons (.var 3 ⟨300, 16, 300, 25⟩) (.cons (.var 1 ⟨300, 27, 300, 42⟩) .nil)) 0 ⟨300, 15, 300, 43⟩) ⟨300, 8, 300, 43⟩)
    .nil) .nil ⟨299, 4, 300, 43⟩)
    (.cons (.ret (.tup (.cons (.lit (.str "") 0 ⟨301, 12, 301, 14⟩) (.cons (.call "_law_plainly" (.cons (.var 1 ⟨301, 29, 301, 44⟩) (.cons (.var 2 ⟨301, 46, 301, 54⟩) .nil)) ⟨301, 16, 301, 28⟩ ⟨301, 16, 301, 55⟩) .nil)) 0 ⟨301, 11, 301, 56⟩) ⟨301, 4, 301, 56⟩)
    .nil)))))
noncomputable def S_law_next : Scope := {
              kind := PySem.ScopeKind.function,
              names := [
                (PySem.Str.ofString "_law_told_here", PySem.NameKind.local),
                (PySem.Str.ofString "_law_kinds_here", PySem.NameKind.local),
                (PySem.Str.ofString "_law_row", PySem.NameKind.local),
                (PySem.Str.ofString "_law_word", PySem.NameKind.local),
                (PySem.Str.ofString "_law_called", PySem.NameKind.globalImplicit),
                (PySem.Str.ofString "_law_lack", PySem.NameKind.globalImplicit),
                (PySem.Str.ofString "_law_wanted", PySem.NameKind.globalImplicit),
                (PySem.Str.ofString "_law_plainly", PySem.NameKind.globalImplicit)],
              isGenerator := false,
              isCoroutine := false,
              more := [] : PySem.Scope }

noncomputable def N_law_plain_row : List Str := ["_law_script", "_law_tape", "_law_some", "_law_word"]
noncomputable def B_law_plain_row : ASs :=
    (.cons (.assign 2 ⟨303, 4, 303, 13⟩ (.list (.cons (.lit (.str "num") 0 ⟨303, 17, 303, 22⟩) (.cons (.lit (.str "text") 0 ⟨303, 24, 303, 30⟩) (.cons (.lit (.str "add") 0 ⟨303, 32, 303, 37⟩) (.cons (.lit (.str "mul") 0 ⟨303, 39, 303, 44⟩) (.cons (.lit (.str "less") 0 ⟨303, 46, 303, 52⟩) (.cons (.lit (.str "join") 0 ⟨303, 54, 303, 60⟩) (.cons (.lit (.str "long") 0 ⟨303, 62, 303, 68⟩) (.cons (.lit (.str "show") 0 ⟨303, 70, 303, 76⟩) (.cons (.lit (.str "swap") 0 ⟨303, 78, 303, 84⟩) (.cons (.lit (.str "drop") 0 ⟨303, 86, 303, 92⟩) (.cons (.lit (.str "copy") 0 ⟨303, 94, 303, 100⟩) (.cons (.lit (.str "copy") 0 ⟨303, 102, 303, 108⟩) (.cons (.lit (.str "copy") 0 ⟨303, 110, 303, 116⟩) .nil))))))))))))) ⟨303, 16, 303, 117⟩) ⟨303, 4, 303, 117⟩)
    (.cons (.assign 3 ⟨304, 4, 304, 13⟩ (.sub (.var 2 ⟨304, 16, 304, 25⟩) (.call "_law_draw" (.cons (.var 0 ⟨304, 36, 304, 47⟩) (.cons (.var 1 ⟨304, 49, 304, 58⟩) (.cons (.lit (.int 13) 0 ⟨304, 60, 304, 62⟩) .nil))) ⟨304, 26, 304, 35⟩ ⟨304, 26, 304, 63⟩) ⟨304, 16, 304, 64⟩) ⟨304, 4, 304, 64⟩)
    (.cons (.ite (.bop .Or (.cons (.cmp (.var 3 ⟨305, 7, 305, 16⟩) .Eq (.lit (.str "num") 0 ⟨305, 20, 305, 25⟩) ⟨305, 7, 305, 25⟩) (.cons (.cmp (.var 3 ⟨305, 29, 305, 38⟩) .Eq (.lit (.str "text") 0 ⟨305, 42, 305, 48⟩) ⟨305, 29, 305, 48⟩) .nil)) ⟨305, 7, 305, 48⟩) (.cons (.ret (.tup (.cons (.var 3 ⟨306, 16, 306, 25⟩) (.cons (.call "_law_value" (.cons (.var 0 ⟨306, 38, 306, 49⟩) (.cons (.var 1 ⟨306, 51, 306, 60⟩) (.cons (.var 3 ⟨306, 62, 306, 71⟩) .nil))) ⟨306, 27, 306, 37⟩ ⟨306, 27, 306, 72⟩) .nil)) 0 ⟨306, 15, 306, 73⟩) ⟨306, 8, 306, 73⟩)
    .nil) .nil ⟨305, 4, 306, 73⟩)
    (.cons (.ite (.cmp (.var 3 ⟨307, 7, 307, 16⟩) .Eq (.lit (.str "copy") 0 ⟨307, 20, 307, 26⟩) ⟨307, 7, 307, 26⟩) (.cons (.ret (.tup (.cons (.var 3 ⟨308, 16, 308, 25⟩) (.cons (.sub (.list (.cons (.lit (.int 0) 0 ⟨308, 28, 308, 29⟩) (.cons (.lit (.int 0) 0 ⟨308, 31, 308, 32⟩) (.cons (.lit (.int 1) 0 ⟨308, 34, 308, 35⟩) (.cons (.lit (.int 1) 0 ⟨308, 37, 308, 38⟩) (.cons (.lit (.int 2) 0 ⟨308, 40, 308, 41⟩) (.cons (.lit (.int 3) 0 ⟨308, 43, 308, 44⟩) (.cons (.call "_law_draw" (.cons (.var 0 ⟨308, 56, 308, 67⟩) (.cons (.var 1 ⟨308, 69, 308, 78⟩) (.cons (.lit (.int 61) 0 ⟨308, 80, 308, 82⟩) .nil))) ⟨308, 46, 308, 55⟩ ⟨308, 46, 308, 83⟩) (.cons (.lit (.int 60) 0 ⟨308, 85, 308, 87⟩) .nil)))))))) ⟨308, 27, 308, 88⟩) (.call "_law_draw" (.cons (.var 0 ⟨308, 99, 308, 110⟩) (.cons (.var 1 ⟨308, 112, 308, 121⟩) (.cons (.lit (.int 8) 0 ⟨308, 123, 308, 124⟩) .nil))) ⟨308, 89, 308, 98⟩ ⟨308, 89, 308, 125⟩) ⟨308, 27, 308, 126⟩) .nil)) 0 ⟨308, 15, 308, 127⟩) ⟨308, 8, 308, 127⟩)
    .nil) .nil ⟨307, 4, 308, 127⟩)
    (.cons (.ret (.tup (.cons (.var 3 ⟨309, 12, 309, 21⟩) .nil) 0 ⟨309, 11, 309, 23⟩) ⟨309, 4, 309, 23⟩)
    .nil)))))
noncomputable def S_law_plain_row : Scope := {
              kind := PySem.ScopeKind.function,
              names := [
                (PySem.Str.ofString "_law_script", PySem.NameKind.local),
                (PySem.Str.ofString "_law_tape", PySem.NameKind.local),
                (PySem.Str.ofString "_law_some", PySem.NameKind.local),
                (PySem.Str.ofString "_law_word", PySem.NameKind.local),
                (PySem.Str.ofString "_law_draw", PySem.NameKind.globalImplicit),
                (PySem.Str.ofString "_law_value", PySem.NameKind.globalImplicit)],
              isGenerator := false,
              isCoroutine := false,
              more := [] : PySem.Scope }

noncomputable def N_law_kinds : List Str := ["_law_script", "_law_tape", "_law_size", "_law_k"]
noncomputable def B_law_kinds : ASs :=
    (.cons (.assign 2 ⟨311, 4, 311, 13⟩ (.call "_law_draw" (.cons (.var 0 ⟨311, 26, 311, 37⟩) (.cons (.var 1 ⟨311, 39, 311, 48⟩) (.cons (.lit (.int 4) 0 ⟨311, 50, 311, 51⟩) .nil))) ⟨311, 16, 311, 25⟩ ⟨311, 16, 311, 52⟩) ⟨311, 4, 311, 52⟩)
    (.cons (.ite (.cmp (.call "_law_draw" (.cons (.var 0 ⟨312, 17, 312, 28⟩) (.cons (.var 1 ⟨312, 30, 312, 39⟩) (.cons (.lit (.int 20) 0 ⟨312, 41, 312, 43⟩) .nil))) ⟨312, 7, 312, 16⟩ ⟨312, 7, 312, 44⟩) .Eq (.lit (.int 7) 0 ⟨312, 48, 312, 49⟩) ⟨312, 7, 312, 49⟩) (.cons (.assign 2 ⟨313, 8, 313, 17⟩ (.bin (.lit (.int 4) 0 ⟨313, 20, 313, 21⟩) .Add (.bin (.var 2 ⟨313, 24, 313, 33⟩) .Mult (.lit (.int 18) 0 ⟨313, 36, 313, 38⟩) ⟨313, 24, 313, 38⟩) ⟨313, 20, 313, 38⟩) ⟨313, 8, 313, 38⟩)
    .nil) .nil ⟨312, 4, 313, 38⟩)
    (.cons (.ret (.blt .tuple (.cons (.comp (.sub (.list (.cons (.lit (.str "num") 0 ⟨314, 19, 314, 24⟩) (.cons (.lit (.str "text") 0 ⟨314, 26, 314, 32⟩) .nil)) ⟨314, 18, 314, 33⟩) (.call "_law_draw" (.cons (.var 0 ⟨314, 44, 314, 55⟩) (.cons (.var 1 ⟨314, 57, 314, 66⟩) (.cons (.lit (.int 2) 0 ⟨314, 68, 314, 69⟩) .nil))) ⟨314, 34, 314, 43⟩ ⟨314, 34, 314, 70⟩) ⟨314, 18, 314, 71⟩) 3 ⟨314, 76, 314, 82⟩ (.blt .range (.cons (.var 2 ⟨314, 92, 314, 101⟩) .nil) ⟨314, 86, 314, 91⟩ ⟨314, 86, 314, 102⟩) .nil {                           kind := PySem.ScopeKind.function,                           names := [                             (PySem.Str.ofString ".0", PySem.NameKind.local),                             (PySem.Str.ofString "_law_k", PySem.NameKind.local),                             (PySem.Str.ofString "_law_draw", PySem.NameKind.globalImplicit),                             (PySem.Str.ofString "_law_script", PySem.NameKind.free),                             (PySem.Str.ofString "_law_tape", PySem.NameKind.free)],                           isGenerator := false,                           isCoroutine := false,                           more := [] : PySem.Scope } ⟨314, 17, 314, 103⟩) .nil) ⟨314, 11, 314, 16⟩ ⟨314, 11, 314, 104⟩) ⟨314, 4, 314, 104⟩)
    .nil)))
noncomputable def S_law_kinds : Scope := {
              kind := PySem.ScopeKind.function,
              names := [
                (PySem.Str.ofString "_law_script", PySem.NameKind.cell),
                (PySem.Str.ofString "_law_tape", PySem.NameKind.cell),
                (PySem.Str.ofString "_law_size", PySem.NameKind.local),
                (PySem.Str.ofString "_law_draw", PySem.NameKind.globalImplicit),
                (PySem.Str.ofString "tuple", PySem.NameKind.globalImplicit),
                (PySem.Str.ofString "range", PySem.NameKind.globalImplicit)],
              isGenerator := false,
              isCoroutine := false,
              more := [
                (PySem.Str.ofString "fast", (PySem.Const.str "_law_script")),
                (PySem.Str.ofString "fast", (PySem.Const.str "_law_tape")),
                (PySem.Str.ofString "fast", (PySem.Const.str "_law_size")),
                (PySem.Str.ofString "fast", (PySem.Const.str "_law_k"))] : PySem.Scope }

noncomputable def N_law_told : List Str := ["_law_script", "_law_tape", "_law_count", "_law_told_here", "_law_kept", "_law_begin", "_law_midst", "_law_k", "_law_name", "_law_way"]
noncomputable def B_law_told : ASs :=
    (.cons (.assign 2 ⟨316, 4, 316, 14⟩ (.bin (.lit (.int 1) 0 ⟨316, 17, 316, 18⟩) .Add (.call "_law_draw" (.cons (.var 0 ⟨316, 31, 316, 42⟩) (.cons (.var 1 ⟨316, 44, 316, 53⟩) (.cons (.lit (.int 4) 0 ⟨316, 55, 316, 56⟩) .nil))) ⟨316, 21, 316, 30⟩ ⟨316, 21, 316, 57⟩) ⟨316, 17, 316, 57⟩) ⟨316, 4, 316, 57⟩)
    (.cons (.ite (.cmp (.call "_law_draw" (.cons (.var 0 ⟨317, 17, 317, 28⟩) (.cons (.var 1 ⟨317, 30, 317, 39⟩) (.cons (.lit (.int 12) 0 ⟨317, 41, 317, 43⟩) .nil))) ⟨317, 7, 317, 16⟩ ⟨317, 7, 317, 44⟩) .Eq (.lit (.int 5) 0 ⟨317, 48, 317, 49⟩) ⟨317, 7, 317, 49⟩) (.cons (.assign 2 ⟨318, 8, 318, 18⟩ (.bin (.lit (.int 6) 0 ⟨318, 21, 318, 22⟩) .Add (.call "_law_draw" (.cons (.var 0 ⟨318, 35, 318, 46⟩) (.cons (.var 1 ⟨318, 48, 318, 57⟩) (.cons (.lit (.int 6) 0 ⟨318, 59, 318, 60⟩) .nil))) ⟨318, 25, 318, 34⟩ ⟨318, 25, 318, 61⟩) ⟨318, 21, 318, 61⟩) ⟨318, 8, 318, 61⟩)
    .nil) .nil ⟨317, 4, 318, 61⟩)
    (.cons (.assign 3 ⟨319, 4, 319, 18⟩ (.dict [] .nil ⟨319, 21, 319, 23⟩) ⟨319, 4, 319, 23⟩)
    (.cons (.assign 4 ⟨320, 4, 320, 13⟩ (.tup (.cons (.tup (.cons (.lit (.str "num") 0 ⟨320, 18, 320, 23⟩) .nil) 0 ⟨320, 17, 320, 25⟩) (.cons (.tup (.cons (.lit (.str "num") 0 ⟨320, 28, 320, 33⟩) .nil) 0 ⟨320, 27, 320, 35⟩) .nil)) 0 ⟨320, 16, 320, 36⟩) ⟨320, 4, 320, 36⟩)
    (.cons (.assign 5 ⟨321, 4, 321, 14⟩ (.call "_law_words" (.cons (.call "_law_draw" (.cons (.var 0 ⟨321, 38, 321, 49⟩) (.cons (.var 1 ⟨321, 51, 321, 60⟩) (.cons (.lit (.int 1000) 0 ⟨321, 62, 321, 66⟩) .nil))) ⟨321, 28, 321, 37⟩ ⟨321, 28, 321, 67⟩) (.cons (.sub (.list (.cons (.lit (.int 0) 0 ⟨321, 70, 321, 71⟩) (.cons (.lit (.int 2) 0 ⟨321, 73, 321, 74⟩) (.cons (.lit (.int 50) 0 ⟨321, 76, 321, 78⟩) .nil))) ⟨321, 69, 321, 79⟩) (.call "_law_draw" (.cons (.var 0 ⟨321, 90, 321, 101⟩) (.cons (.var 1 ⟨321, 103, 321, 112⟩) (.cons (.lit (.int 3) 0 ⟨321, 114, 321, 115⟩) .nil))) ⟨321, 80, 321, 89⟩ ⟨321, 80, 321, 116⟩) ⟨321, 69, 321, 117⟩) .nil)) ⟨321, 17, 321, 27⟩ ⟨321, 17, 321, 118⟩) ⟨321, 4, 321, 118⟩)
    (.cons (.assign 6 ⟨322, 4, 322, 14⟩ (.call "_law_draw" (.cons (.var 0 ⟨322, 27, 322, 38⟩) (.cons (.var 1 ⟨322, 40, 322, 49⟩) (.cons (.lit (.int 2) 0 ⟨322, 51, 322, 52⟩) .nil))) ⟨322, 17, 322, 26⟩ ⟨322, 17, 322, 53⟩) ⟨322, 4, 322, 53⟩)
    (.cons (.for 7 ⟨323, 8, 323, 14⟩ (.blt .range (.cons (.var 2 ⟨323, 24, 323, 34⟩) .nil) ⟨323, 18, 323, 23⟩ ⟨323, 18, 323, 35⟩) (.cons (.assign 8 ⟨324, 8, 324, 17⟩ (.bin (.bin (.var 5 ⟨324, 20, 324, 30⟩) .Add (.call "_law_words" (.cons (.call "_law_draw" (.cons (.var 0 ⟨324, 54, 324, 65⟩) (.cons (.var 1 ⟨324, 67, 324, 76⟩) (.cons (.lit (.int 1000000) 0 ⟨324, 78, 324, 85⟩) .nil))) ⟨324, 44, 324, 53⟩ ⟨324, 44, 324, 86⟩) (.cons (.call "_law_draw" (.cons (.var 0 ⟨324, 98, 324, 109⟩) (.cons (.var 1 ⟨324, 111, 324, 120⟩) (.cons (.lit (.int 4) 0 ⟨324, 122, 324, 123⟩) .nil))) ⟨324, 88, 324, 97⟩ ⟨324, 88, 324, 124⟩) .nil)) ⟨324, 33, 324, 43⟩ ⟨324, 33, 324, 125⟩) ⟨324, 20, 324, 125⟩) .Add (.sub (.lit (.str "abcdefghijkl") 0 ⟨324, 128, 324, 142⟩) (.var 7 ⟨324, 143, 324, 149⟩) ⟨324, 128, 324, 150⟩) ⟨324, 20, 324, 150⟩) ⟨324, 8, 324, 150⟩)
    (.cons (.ite (.cmp (.var 6 ⟨325, 11, 325, 21⟩) .Eq (.lit (.int 1) 0 ⟨325, 25, 325, 26⟩) ⟨325, 11, 325, 26⟩) (.cons (.assign 8 ⟨326, 12, 326, 21⟩ (.bin (.bin (.var 5 ⟨326, 24, 326, 34⟩) .Add (.sub (.lit (.str "abcdefghijkl") 0 ⟨326, 37, 326, 51⟩) (.var 7 ⟨326, 52, 326, 58⟩) ⟨326, 37, 326, 59⟩) ⟨326, 24, 326, 59⟩) .Add (.var 5 ⟨326, 62, 326, 72⟩) ⟨326, 24, 326, 72⟩) ⟨326, 12, 326, 72⟩)
    .nil) .nil ⟨325, 8, 326, 72⟩)
    (.cons (.assign 9 ⟨327, 8, 327, 16⟩ (.call "_law_draw" (.cons (.var 0 ⟨327, 29, 327, 40⟩) (.cons (.var 1 ⟨327, 42, 327, 51⟩) (.cons (.lit (.int 5) 0 ⟨327, 53, 327, 54⟩) .nil))) ⟨327, 19, 327, 28⟩ ⟨327, 19, 327, 55⟩) ⟨327, 8, 327, 55⟩)
    (.cons (.ite (.bop .Or (.cons (.cmp (.var 7 ⟨328, 11, 328, 17⟩) .Eq (.lit (.int 0) 0 ⟨328, 21, 328, 22⟩) ⟨328, 11, 328, 22⟩) (.cons (.cmp (.var 9 ⟨328, 26, 328, 34⟩) .Eq (.lit (.int 0) 0 ⟨328, 38, 328, 39⟩) ⟨328, 26, 328, 39⟩) .nil)) ⟨328, 11, 328, 39⟩) (.cons (.assign 4 ⟨329, 12, 329, 21⟩ (.tup (.cons (.call "_law_kinds" (.cons (.var 0 ⟨329, 36, 329, 47⟩) (.cons (.var 1 ⟨329, 49, 329, 58⟩) .nil)) ⟨329, 25, 329, 35⟩ ⟨329, 25, 329, 59⟩) (.cons (.call "_law_kinds" (.cons (.var 0 ⟨329, 72, 329, 83⟩) (.cons (.var 1 ⟨329, 85, 329, 94⟩) .nil)) ⟨329, 61, 329, 71⟩ ⟨329, 61, 329, 95⟩) .nil)) 0 ⟨329, 24, 329, 96⟩) ⟨329, 12, 329, 96⟩)
    .nil) .nil ⟨328, 8, 329, 96⟩)
    (.cons (.ite (.bop .Or (.cons (.cmp (.var 9 ⟨330, 11, 330, 19⟩) .Eq (.lit (.int 1) 0 ⟨330, 23, 330, 24⟩) ⟨330, 11, 330, 24⟩) (.cons (.cmp (.var 9 ⟨330, 28, 330, 36⟩) .Eq (.lit (.int 2) 0 ⟨330, 40, 330, 41⟩) ⟨330, 28, 330, 41⟩) .nil)) ⟨330, 11, 330, 41⟩) (.cons (.assign 4 ⟨331, 12, 331, 21⟩ (.tup (.cons (.sub (.var 4 ⟨331, 25, 331, 34⟩) (.lit (.int 0) 0 ⟨331, 35, 331, 36⟩) ⟨331, 25, 331, 37⟩) (.cons (.call "_law_kinds" (.cons (.var 0 ⟨331, 50, 331, 61⟩) (.cons (.var 1 ⟨331, 63, 331, 72⟩) .nil)) ⟨331, 39, 331, 49⟩ ⟨331, 39, 331, 73⟩) .nil)) 0 ⟨331, 24, 331, 74⟩) ⟨331, 12, 331, 74⟩)
    .nil) .nil ⟨330, 8, 331, 74⟩)
    (.cons (.store (.var 3 ⟨332, 8, 332, 22⟩) (.var 8 ⟨332, 23, 332, 32⟩) ⟨332, 8, 332, 33⟩ (.var 4 ⟨332, 36, 332, 45⟩) ⟨332, 8, 332, 45⟩)
    .nil)))))) ⟨323, 4, 332, 45⟩)
    (.cons (.ret (.var 3 ⟨333, 11, 333, 25⟩) ⟨333, 4, 333, 25⟩)
    .nil))))))))
noncomputable def S_law_told : Scope := {
              kind := PySem.ScopeKind.function,
              names := [
                (PySem.Str.ofString "_law_script", PySem.NameKind.local),
                (PySem.Str.ofString "_law_tape", PySem.NameKind.local),
                (PySem.Str.ofString "_law_count", PySem.NameKind.local),
                (PySem.Str.ofString "_law_told_here", PySem.NameKind.local),
                (PySem.Str.ofString "_law_kept", PySem.NameKind.local),
                (PySem.Str.ofString "_law_begin", PySem.NameKind.local),
                (PySem.Str.ofString "_law_midst", PySem.NameKind.local),
                (PySem.Str.ofString "_law_k", PySem.NameKind.local),
                (PySem.Str.ofString "_law_name", PySem.NameKind.local),
                (PySem.Str.ofString "_law_way", PySem.NameKind.local),
                (PySem.Str.ofString "_law_draw", PySem.NameKind.globalImplicit),
                (PySem.Str.ofString "_law_words", PySem.NameKind.globalImplicit),
                (PySem.Str.ofString "range", PySem.NameKind.globalImplicit),
                (PySem.Str.ofString "_law_kinds", PySem.NameKind.globalImplicit)],
              isGenerator := false,
              isCoroutine := false,
              more := [] : PySem.Scope }

noncomputable def N_law_pushes : List Str := ["_law_script", "_law_tape", "_law_kinds_here", "_law_kind"]
noncomputable def B_law_pushes : ASs :=
    (.cons (.ret (.comp (.tup (.cons (.var 3 ⟨335, 13, 335, 22⟩) (.cons (.call "_law_value" (.cons (.var 0 ⟨335, 35, 335, 46⟩) (.cons (.var 1 ⟨335, 48, 335, 57⟩) (.cons (.var 3 ⟨335, 59, 335, 68⟩) .nil))) ⟨335, 24, 335, 34⟩ ⟨335, 24, 335, 69⟩) .nil)) 0 ⟨335, 12, 335, 70⟩) 3 ⟨335, 75, 335, 84⟩ (.var 2 ⟨335, 88, 335, 103⟩) .nil {                       kind := PySem.ScopeKind.function,                       names := [                         (PySem.Str.ofString ".0", PySem.NameKind.local),                         (PySem.Str.ofString "_law_kind", PySem.NameKind.local),                         (PySem.Str.ofString "_law_value", PySem.NameKind.globalImplicit),                         (PySem.Str.ofString "_law_script", PySem.NameKind.free),                         (PySem.Str.ofString "_law_tape", PySem.NameKind.free)],                       isGenerator := false,                       isCoroutine := false,                       more := [] : PySem.Scope } ⟨335, 11, 335, 104⟩) ⟨335, 4, 335, 104⟩)
    .nil)
noncomputable def S_law_pushes : Scope := {
              kind := PySem.ScopeKind.function,
              names := [
                (PySem.Str.ofString "_law_script", PySem.NameKind.cell),
                (PySem.Str.ofString "_law_tape", PySem.NameKind.cell),
                (PySem.Str.ofString "_law_kinds_here", PySem.NameKind.local)],
              isGenerator := false,
              isCoroutine := false,
              more := [
                (PySem.Str.ofString "fast", (PySem.Const.str "_law_script")),
                (PySem.Str.ofString "fast", (PySem.Const.str "_law_tape")),
                (PySem.Str.ofString "fast", (PySem.Const.str "_law_kinds_here")),
                (PySem.Str.ofString "fast", (PySem.Const.str "_law_kind"))] : PySem.Scope }

noncomputable def N_law_choice : List Str := ["_law_script", "_law_tape", "_law_told_here", "_law_names", "_law_kinds_here", "_law_name", "_law_other", "_law_like", "_law_value_here", "_law_other"]
noncomputable def B_law_choice : ASs :=
    (.cons (.assign 5 ⟨337, 4, 337, 13⟩ (.sub (.var 3 ⟨337, 16, 337, 26⟩) (.call "_law_draw" (.cons (.var 0 ⟨337, 37, 337, 48⟩) (.cons (.var 1 ⟨337, 50, 337, 59⟩) (.cons (.blt .len (.cons (.var 3 ⟨337, 65, 337, 75⟩) .nil) ⟨337, 61, 337, 64⟩ ⟨337, 61, 337, 76⟩) .nil))) ⟨337, 27, 337, 36⟩ ⟨337, 27, 337, 77⟩) ⟨337, 16, 337, 78⟩) ⟨337, 4, 337, 78⟩)
    (.cons (.ite (.cmp (.call "_law_draw" (.cons (.var 0 ⟨338, 17, 338, 28⟩) (.cons (.var 1 ⟨338, 30, 338, 39⟩) (.cons (.lit (.int 2) 0 ⟨338, 41, 338, 42⟩) .nil))) ⟨338, 7, 338, 16⟩ ⟨338, 7, 338, 43⟩) .Eq (.lit (.int 0) 0 ⟨338, 47, 338, 48⟩) ⟨338, 7, 338, 48⟩) (.cons (.ite (.bop .And (.cons (.cmp (.call "_law_lack" (.cons (.var 4 ⟨339, 21, 339, 36⟩) (.cons (.blt .list (.cons (.sub (.sub (.var 2 ⟨339, 43, 339, 57⟩) (.var 5 ⟨339, 58, 339, 67⟩) ⟨339, 43, 339, 68⟩) (.lit (.int 0) 0 ⟨339, 69, 339, 70⟩) ⟨339, 43, 339, 71⟩) .nil) ⟨339, 38, 339, 42⟩ ⟨339, 38, 339, 72⟩) .nil)) ⟨339, 11, 339, 20⟩ ⟨339, 11, 339, 73⟩) .Eq (.lit (.str "") 0 ⟨339, 77, 339, 79⟩) ⟨339, 11, 339, 79⟩) (.cons (.cmp (.call "_law_draw" (.cons (.var 0 ⟨339, 94, 339, 105⟩) (.cons (.var 1 ⟨339, 107, 339, 116⟩) (.cons (.lit (.int 2) 0 ⟨339, 118, 339, 119⟩) .nil))) ⟨339, 84, 339, 93⟩ ⟨339, 84, 339, 120⟩) .Eq (.lit (.int 0) 0 ⟨339, 124, 339, 125⟩) ⟨339, 84, 339, 125⟩) .nil)) ⟨339, 11, 339, 125⟩) (.cons (.ret (.list (.cons (.tup (.cons (.lit (.str "call") 0 ⟨340, 21, 340, 27⟩) (.cons (.var 5 ⟨340, 29, 340, 38⟩) .nil)) 0 ⟨340, 20, 340, 39⟩) .nil) ⟨340, 19, 340, 40⟩) ⟨340, 12, 340, 40⟩)
    .nil) .nil ⟨339, 8, 340, 40⟩)
    (.cons (.ret (.bin (.call "_law_pushes" (.cons (.var 0 ⟨341, 27, 341, 38⟩) (.cons (.var 1 ⟨341, 40, 341, 49⟩) (.cons (.sub (.sub (.var 2 ⟨341, 51, 341, 65⟩) (.var 5 ⟨341, 66, 341, 75⟩) ⟨341, 51, 341, 76⟩) (.lit (.int 0) 0 ⟨341, 77, 341, 78⟩) ⟨341, 51, 341, 79⟩) .nil))) ⟨341, 15, 341, 26⟩ ⟨341, 15, 341, 80⟩) .Add (.list (.cons (.tup (.cons (.lit (.str "call") 0 ⟨341, 85, 341, 91⟩) (.cons (.var 5 ⟨341, 93, 341, 102⟩) .nil)) 0 ⟨341, 84, 341, 103⟩) .nil) ⟨341, 83, 341, 104⟩) ⟨341, 15, 341, 104⟩) ⟨341, 8, 341, 104⟩)
    .nil)) .nil ⟨338, 4, 341, 104⟩)
    (.cons (.assign 7 ⟨342, 4, 342, 13⟩ (.bin (.comp (.var 9 ⟨342, 17, 342, 27⟩) 9 ⟨342, 32, 342, 42⟩ (.var 3 ⟨342, 46, 342, 56⟩) (.cons (.bop .And (.cons (.cmp (.sub (.var 2 ⟨342, 60, 342, 74⟩) (.var 9 ⟨342, 75, 342, 85⟩) ⟨342, 60, 342, 86⟩) .Eq (.sub (.var 2 ⟨342, 90, 342, 104⟩) (.var 5 ⟨342, 105, 342, 114⟩) ⟨342, 90, 342, 115⟩) ⟨342, 60, 342, 115⟩) (.cons (.cmp (.var 9 ⟨342, 120, 342, 130⟩) .NotEq (.var 5 ⟨342, 134, 342, 143⟩) ⟨342, 120, 342, 143⟩) .nil)) ⟨342, 60, 342, 143⟩) .nil) {                       kind := PySem.ScopeKind.function,                       names := [                         (PySem.Str.ofString ".0", PySem.NameKind.local),                         (PySem.Str.ofString "_law_other", PySem.NameKind.local),                         (PySem.Str.ofString "_law_name", PySem.NameKind.free),                         (PySem.Str.ofString "_law_told_here", PySem.NameKind.free)],                       isGenerator := false,                       isCoroutine := false,                       more := [] : PySem.Scope } ⟨342, 16, 342, 144⟩) .Add (.list (.cons (.var 5 ⟨342, 148, 342, 157⟩) .nil) ⟨342, 147, 342, 158⟩) ⟨342, 16, 342, 158⟩) ⟨342, 4, 342, 158⟩)
    (.cons (.assign 6 ⟨343, 4, 343, 14⟩ (.sub (.var 7 ⟨343, 17, 343, 26⟩) (.bin (.call "_law_draw" (.cons (.var 0 ⟨343, 37, 343, 48⟩) (.cons (.var 1 ⟨343, 50, 343, 59⟩) (.cons (.lit (.int 1000) 0 ⟨343, 61, 343, 65⟩) .nil))) ⟨343, 27, 343, 36⟩ ⟨343, 27, 343, 66⟩) .Mod (.blt .max (.cons (.lit (.int 1) 0 ⟨343, 73, 343, 74⟩) (.cons (.bin (.blt .len (.cons (.var 7 ⟨343, 80, 343, 89⟩) .nil) ⟨343, 76, 343, 79⟩ ⟨343, 76, 343, 90⟩) .Sub (.lit (.int 1) 0 ⟨343, 93, 343, 94⟩) ⟨343, 76, 343, 94⟩) .nil)) ⟨343, 69, 343, 72⟩ ⟨343, 69, 343, 95⟩) ⟨343, 27, 343, 95⟩) ⟨343, 17, 343, 96⟩) ⟨343, 4, 343, 96⟩)
    (.cons (.assign 8 ⟨344, 4, 344, 19⟩ (.sub (.list (.cons (.lit (.int 0) 0 ⟨344, 23, 344, 24⟩) (.cons (.lit (.int 1) 0 ⟨344, 26, 344, 27⟩) (.cons (.lit (.int 2) 0 ⟨344, 29, 344, 30⟩) (.cons (.call "_law_value" (.cons (.var 0 ⟨344, 43, 344, 54⟩) (.cons (.var 1 ⟨344, 56, 344, 65⟩) (.cons (.lit (.str "num") 0 ⟨344, 67, 344, 72⟩) .nil))) ⟨344, 32, 344, 42⟩ ⟨344, 32, 344, 73⟩) .nil)))) ⟨344, 22, 344, 74⟩) (.call "_law_draw" (.cons (.var 0 ⟨344, 85, 344, 96⟩) (.cons (.var 1 ⟨344, 98, 344, 107⟩) (.cons (.lit (.int 4) 0 ⟨344, 109, 344, 110⟩) .nil))) ⟨344, 75, 344, 84⟩ ⟨344, 75, 344, 111⟩) ⟨344, 22, 344, 112⟩) ⟨344, 4, 344, 112⟩)
    (.cons (.ret (.bin (.call "_law_pushes" (.cons (.var 0 ⟨345, 23, 345, 34⟩) (.cons (.var 1 ⟨345, 36, 345, 45⟩) (.cons (.sub (.sub (.var 2 ⟨345, 47, 345, 61⟩) (.var 5 ⟨345, 62, 345, 71⟩) ⟨345, 47, 345, 72⟩) (.lit (.int 0) 0 ⟨345, 73, 345, 74⟩) ⟨345, 47, 345, 75⟩) .nil))) ⟨345, 11, 345, 22⟩ ⟨345, 11, 345, 76⟩) .Add (.list (.cons (.tup (.cons (.lit (.str "num") 0 ⟨345, 81, 345, 86⟩) (.cons (.var 8 ⟨345, 88, 345, 103⟩) .nil)) 0 ⟨345, 80, 345, 104⟩) (.cons (.tup (.cons (.lit (.str "if") 0 ⟨345, 107, 345, 111⟩) (.cons (.var 5 ⟨345, 113, 345, 122⟩) (.cons (.var 6 ⟨345, 124, 345, 134⟩) .nil))) 0 ⟨345, 106, 345, 135⟩) .nil)) ⟨345, 79, 345, 136⟩) ⟨345, 11, 345, 136⟩) ⟨345, 4, 345, 136⟩)
    .nil))))))
noncomputable def S_law_choice : Scope := {
              kind := PySem.ScopeKind.function,
              names := [
                (PySem.Str.ofString "_law_script", PySem.NameKind.local),
                (PySem.Str.ofString "_law_tape", PySem.NameKind.local),
                (PySem.Str.ofString "_law_told_here", PySem.NameKind.cell),
                (PySem.Str.ofString "_law_names", PySem.NameKind.local),
                (PySem.Str.ofString "_law_kinds_here", PySem.NameKind.local),
                (PySem.Str.ofString "_law_name", PySem.NameKind.cell),
                (PySem.Str.ofString "_law_other", PySem.NameKind.local),
                (PySem.Str.ofString "_law_like", PySem.NameKind.local),
                (PySem.Str.ofString "_law_value_here", PySem.NameKind.local),
                (PySem.Str.ofString "_law_draw", PySem.NameKind.globalImplicit),
                (PySem.Str.ofString "len", PySem.NameKind.globalImplicit),
                (PySem.Str.ofString "_law_lack", PySem.NameKind.globalImplicit),
                (PySem.Str.ofString "list", PySem.NameKind.globalImplicit),
                (PySem.Str.ofString "_law_pushes", PySem.NameKind.globalImplicit),
                (PySem.Str.ofString "max", PySem.NameKind.globalImplicit),
                (PySem.Str.ofString "_law_value", PySem.NameKind.globalImplicit)],
              isGenerator := false,
              isCoroutine := false,
              more := [
                (PySem.Str.ofString "fast", (PySem.Const.str "_law_script")),
                (PySem.Str.ofString "fast", (PySem.Const.str "_law_tape")),
                (PySem.Str.ofString "fast", (PySem.Const.str "_law_told_here")),
                (PySem.Str.ofString "fast", (PySem.Const.str "_law_names")),
                (PySem.Str.ofString "fast", (PySem.Const.str "_law_kinds_here")),
                (PySem.Str.ofString "fast", (PySem.Const.str "_law_name")),
                (PySem.Str.ofString "fast", (PySem.Const.str "_law_other")),
                (PySem.Str.ofString "fast", (PySem.Const.str "_law_like")),
                (PySem.Str.ofString "fast", (PySem.Const.str "_law_value_here"))] : PySem.Scope }

noncomputable def N_law_fitting : List Str := ["_law_script", "_law_tape", "_law_told_here", "_law_names", "_law_kinds_here", "_law_row"]
noncomputable def B_law_fitting : ASs :=
    (.cons (.ite (.bop .And (.cons (.cmp (.blt .len (.cons (.var 3 ⟨347, 11, 347, 21⟩) .nil) ⟨347, 7, 347, 10⟩ ⟨347, 7, 347, 22⟩) .Gt (.lit (.int 0) 0 ⟨347, 25, 347, 26⟩) ⟨347, 7, 347, 26⟩) (.cons (.cmp (.call "_law_draw" (.cons (.var 0 ⟨347, 41, 347, 52⟩) (.cons (.var 1 ⟨347, 54, 347, 63⟩) (.cons (.lit (.int 3) 0 ⟨347, 65, 347, 66⟩) .nil))) ⟨347, 31, 347, 40⟩ ⟨347, 31, 347, 67⟩) .Eq (.lit (.int 0) 0 ⟨347, 71, 347, 72⟩) ⟨347, 31, 347, 72⟩) .nil)) ⟨347, 7, 347, 72⟩) (.cons (.ret (.call "_law_choice" (.cons (.var 0 ⟨348, 27, 348, 38⟩) (.cons (.var 1 ⟨348, 40, 348, 49⟩) (.cons (.var 2 ⟨348, 51, 348, 65⟩) (.cons (.var 3 ⟨348, 67, 348, 77⟩) (.cons (.var 4 ⟨348, 79, 348, 94⟩) .nil))))) ⟨348, 15, 348, 26⟩ ⟨348, 15, 348, 95⟩) ⟨348, 8, 348, 95⟩)
    .nil) .nil ⟨347, 4, 348, 95⟩)
    (.cons (.assign 5 ⟨349, 4, 349, 12⟩ (.call "_law_plain_row" (.cons (.var 0 ⟨349, 30, 349, 41⟩) (.cons (.var 1 ⟨349, 43, 349, 52⟩) .nil)) ⟨349, 15, 349, 29⟩ ⟨349, 15, 349, 53⟩) ⟨349, 4, 349, 53⟩)
    (.cons (.ite (.cmp (.call "_law_lack" (.cons (.var 4 ⟨350, 17, 350, 32⟩) (.cons (.call "_law_wanted" (.cons (.var 5 ⟨350, 46, 350, 54⟩) .nil) ⟨350, 34, 350, 45⟩ ⟨350, 34, 350, 55⟩) .nil)) ⟨350, 7, 350, 16⟩ ⟨350, 7, 350, 56⟩) .Eq (.lit (.str "") 0 ⟨350, 60, 350, 62⟩) ⟨350, 7, 350, 62⟩) (.cons (.ret (.list (.cons (.var 5 ⟨351, 16, 351, 24⟩) .nil) ⟨351, 15, 351, 25⟩) ⟨351, 8, 351, 25⟩)
    .nil) .nil ⟨350, 4, 351, 25⟩)
    (.cons (.ret (.call "_law_pushes" (.cons (.var 0 ⟨352, 23, 352, 34⟩) (.cons (.var 1 ⟨352, 36, 352, 45⟩) (.cons (.list (.cons (.sub (.list (.cons (.lit (.str "num") 0 ⟨352, 49, 352, 54⟩) (.cons (.lit (.str "text") 0 ⟨352, 56, 352, 62⟩) .nil)) ⟨352, 48, 352, 63⟩) (.call "_law_draw" (.cons (.var 0 ⟨352, 74, 352, 85⟩) (.cons (.var 1 ⟨352, 87, 352, 96⟩) (.cons (.lit (.int 2) 0 ⟨352, 98, 352, 99⟩) .nil))) ⟨352, 64, 352, 73⟩ ⟨352, 64, 352, 100⟩) ⟨352, 48, 352, 101⟩) .nil) ⟨352, 47, 352, 102⟩) .nil))) ⟨352, 11, 352, 22⟩ ⟨352, 11, 352, 103⟩) ⟨352, 4, 352, 103⟩)
    .nil))))
noncomputable def S_law_fitting : Scope := {
              kind := PySem.ScopeKind.function,
              names := [
                (PySem.Str.ofString "_law_script", PySem.NameKind.local),
                (PySem.Str.ofString "_law_tape", PySem.NameKind.local),
                (PySem.Str.ofString "_law_told_here", PySem.NameKind.local),
                (PySem.Str.ofString "_law_names", PySem.NameKind.local),
                (PySem.Str.ofString "_law_kinds_here", PySem.NameKind.local),
                (PySem.Str.ofString "_law_row", PySem.NameKind.local),
                (PySem.Str.ofString "len", PySem.NameKind.globalImplicit),
                (PySem.Str.ofString "_law_draw", PySem.NameKind.globalImplicit),
                (PySem.Str.ofString "_law_choice", PySem.NameKind.globalImplicit),
                (PySem.Str.ofString "_law_plain_row", PySem.NameKind.globalImplicit),
                (PySem.Str.ofString "_law_lack", PySem.NameKind.globalImplicit),
                (PySem.Str.ofString "_law_wanted", PySem.NameKind.globalImplicit),
                (PySem.Str.ofString "_law_pushes", PySem.NameKind.globalImplicit)],
              isGenerator := false,
              isCoroutine := false,
              more := [] : PySem.Scope }

noncomputable def N_law_good_rows : List Str := ["_law_script", "_law_tape", "_law_told_here", "_law_name", "_law_names", "_law_ins", "_law_outs", "_law_kinds_here", "_law_rows", "_law_k", "_law_row", "_law_other", "_law_ends", "_law_other"]
noncomputable def B_law_good_rows : ASs :=
    (.cons (.assignT [(5, ⟨354, 4, 354, 12⟩), (6, ⟨354, 14, 354, 23⟩)] 0 ⟨354, 4, 354, 23⟩ (.sub (.var 2 ⟨354, 26, 354, 40⟩) (.var 3 ⟨354, 41, 354, 50⟩) ⟨354, 26, 354, 51⟩) ⟨354, 4, 354, 51⟩)
    (.cons (.assign 7 ⟨355, 4, 355, 19⟩ (.blt .list (.cons (.var 5 ⟨355, 27, 355, 35⟩) .nil) ⟨355, 22, 355, 26⟩ ⟨355, 22, 355, 36⟩) ⟨355, 4, 355, 36⟩)
    (.cons (.assign 8 ⟨356, 4, 356, 13⟩ (.list .nil ⟨356, 16, 356, 18⟩) ⟨356, 4, 356, 18⟩)
    (.cons (.for 9 ⟨357, 8, 357, 14⟩ (.blt .range (.cons (.call "_law_draw" (.cons (.var 0 ⟨357, 34, 357, 45⟩) (.cons (.var 1 ⟨357, 47, 357, 56⟩) (.cons (.lit (.int 6) 0 ⟨357, 58, 357, 59⟩) .nil))) ⟨357, 24, 357, 33⟩ ⟨357, 24, 357, 60⟩) .nil) ⟨357, 18, 357, 23⟩ ⟨357, 18, 357, 61⟩) (.cons (.for 10 ⟨358, 12, 358, 20⟩ (.call "_law_fitting" (.cons (.var 0 ⟨358, 37, 358, 48⟩) (.cons (.var 1 ⟨358, 50, 358, 59⟩) (.cons (.var 2 ⟨358, 61, 358, 75⟩) (.cons (.var 4 ⟨358, 77, 358, 87⟩) (.cons (.var 7 ⟨358, 89, 358, 104⟩) .nil))))) ⟨358, 24, 358, 36⟩ ⟨358, 24, 358, 105⟩) (.cons (.assign 7 ⟨359, 12, 359, 27⟩ (.sub (.call "_law_next" (.cons (.var 2 ⟨359, 40, 359, 54⟩) (.cons (.var 7 ⟨359, 56, 359, 71⟩) (.cons (.var 10 ⟨359, 73, 359, 81⟩) .nil))) ⟨359, 30, 359, 39⟩ ⟨359, 30, 359, 82⟩) (.lit (.int 1) 0 ⟨359, 83, 359, 84⟩) ⟨359, 30, 359, 85⟩) ⟨359, 12, 359, 85⟩)
    (.cons (.expr (.meth (.var 8 ⟨360, 12, 360, 21⟩) .append (.cons (.var 10 ⟨360, 29, 360, 37⟩) .nil) ⟨360, 12, 360, 28⟩ ⟨360, 12, 360, 38⟩) ⟨360, 12, 360, 38⟩)
    .nil)) ⟨358, 8, 360, 38⟩)
    .nil) ⟨357, 4, 360, 38⟩)
    (.cons (.assign 12 ⟨361, 4, 361, 13⟩ (.comp (.var 13 ⟨361, 17, 361, 27⟩) 13 ⟨361, 32, 361, 42⟩ (.var 4 ⟨361, 46, 361, 56⟩) (.cons (.cmp (.sub (.sub (.var 2 ⟨361, 60, 361, 74⟩) (.var 13 ⟨361, 75, 361, 85⟩) ⟨361, 60, 361, 86⟩) (.lit (.int 1) 0 ⟨361, 87, 361, 88⟩) ⟨361, 60, 361, 89⟩) .Eq (.var 6 ⟨361, 93, 361, 102⟩) ⟨361, 60, 361, 102⟩) .nil) {                     kind := PySem.ScopeKind.function,                     names := [                       (PySem.Str.ofString ".0", PySem.NameKind.local),                       (PySem.Str.ofString "_law_other", PySem.NameKind.local),                       (PySem.Str.ofString "_law_outs", PySem.NameKind.free),                       (PySem.Str.ofString "_law_told_here", PySem.NameKind.free)],                     isGenerator := false,                     isCoroutine := false,                     more := [] : PySem.Scope } ⟨361, 16, 361, 103⟩) ⟨361, 4, 361, 103⟩)
    (.cons (.ite (.bop .And (.cons (.cmp (.blt .len (.cons (.var 12 ⟨362, 11, 362, 20⟩) .nil) ⟨362, 7, 362, 10⟩ ⟨362, 7, 362, 21⟩) .Gt (.lit (.int 0) 0 ⟨362, 24, 362, 25⟩) ⟨362, 7, 362, 25⟩) (.cons (.cmp (.call "_law_draw" (.cons (.var 0 ⟨362, 40, 362, 51⟩) (.cons (.var 1 ⟨362, 53, 362, 62⟩) (.cons (.lit (.int 3) 0 ⟨362, 64, 362, 65⟩) .nil))) ⟨362, 30, 362, 39⟩ ⟨362, 30, 362, 66⟩) .Eq (.lit (.int 0) 0 ⟨362, 70, 362, 71⟩) ⟨362, 30, 362, 71⟩) .nil)) ⟨362, 7, 362, 71⟩) (.cons (.assign 11 ⟨363, 8, 363, 18⟩ (.sub (.var 12 ⟨363, 21, 363, 30⟩) (.bin (.call "_law_draw" (.cons (.var 0 ⟨363, 41, 363, 52⟩) (.cons (.var 1 ⟨363, 54, 363, 63⟩) (.cons (.lit (.int 1000) 0 ⟨363, 65, 363, 69⟩) .nil))) ⟨363, 31, 363, 40⟩ ⟨363, 31, 363, 70⟩) .Mod (.blt .len (.cons (.var 12 ⟨363, 77, 363, 86⟩) .nil) ⟨363, 73, 363, 76⟩ ⟨363, 73, 363, 87⟩) ⟨363, 31, 363, 87⟩) ⟨363, 21, 363, 88⟩) ⟨363, 8, 363, 88⟩)
    (.cons (.assign 8 ⟨364, 8, 364, 17⟩ (.bin (.var 8 ⟨364, 20, 364, 29⟩) .Add (.bin (.list (.cons (.tup (.cons (.lit (.str "drop") 0 ⟨364, 34, 364, 40⟩) .nil) 0 ⟨364, 33, 364, 42⟩) .nil) ⟨364, 32, 364, 43⟩) .Mult (.blt .len (.cons (.var 7 ⟨364, 50, 364, 65⟩) .nil) ⟨364, 46, 364, 49⟩ ⟨364, 46, 364, 66⟩) ⟨364, 32, 364, 66⟩) ⟨364, 20, 364, 66⟩) ⟨364, 8, 364, 66⟩)
    (.cons (.ret (.bin (.bin (.var 8 ⟨365, 15, 365, 24⟩) .Add (.call "_law_pushes" (.cons (.var 0 ⟨365, 39, 365, 50⟩) (.cons (.var 1 ⟨365, 52, 365, 61⟩) (.cons (.sub (.sub (.var 2 ⟨365, 63, 365, 77⟩) (.var 11 ⟨365, 78, 365, 88⟩) ⟨365, 63, 365, 89⟩) (.lit (.int 0) 0 ⟨365, 90, 365, 91⟩) ⟨365, 63, 365, 92⟩) .nil))) ⟨365, 27, 365, 38⟩ ⟨365, 27, 365, 93⟩) ⟨365, 15, 365, 93⟩) .Add (.list (.cons (.tup (.cons (.lit (.str "call") 0 ⟨365, 98, 365, 104⟩) (.cons (.var 11 ⟨365, 106, 365, 116⟩) .nil)) 0 ⟨365, 97, 365, 117⟩) .nil) ⟨365, 96, 365, 118⟩) ⟨365, 15, 365, 118⟩) ⟨365, 8, 365, 118⟩)
    .nil))) .nil ⟨362, 4, 365, 118⟩)
    (.cons (.while (.cmp (.blt .tuple (.cons (.var 7 ⟨366, 16, 366, 31⟩) .nil) ⟨366, 10, 366, 15⟩ ⟨366, 10, 366, 32⟩) .NotEq (.sto (.var 6 ⟨366, 36, 366, 45⟩) (.blt .len (.cons (.var 7 ⟨366, 51, 366, 66⟩) .nil) ⟨366, 47, 366, 50⟩ ⟨366, 47, 366, 67⟩) ⟨366, 46, 366, 67⟩ ⟨366, 36, 366, 68⟩) ⟨366, 10, 366, 68⟩) (.cons (.assign 7 ⟨367, 8, 367, 23⟩ (.sto (.var 7 ⟨367, 26, 367, 41⟩) (.neg (.lit (.int 1) 0 ⟨367, 44, 367, 45⟩) ⟨367, 43, 367, 45⟩) ⟨367, 42, 367, 45⟩ ⟨367, 26, 367, 46⟩) ⟨367, 8, 367, 46⟩)
    (.cons (.expr (.meth (.var 8 ⟨368, 8, 368, 17⟩) .append (.cons (.tup (.cons (.lit (.str "drop") 0 ⟨368, 26, 368, 32⟩) .nil) 0 ⟨368, 25, 368, 34⟩) .nil) ⟨368, 8, 368, 24⟩ ⟨368, 8, 368, 35⟩) ⟨368, 8, 368, 35⟩)
    .nil)) ⟨366, 4, 368, 35⟩)
    (.cons (.ret (.bin (.var 8 ⟨369, 11, 369, 20⟩) .Add (.call "_law_pushes" (.cons (.var 0 ⟨369, 35, 369, 46⟩) (.cons (.var 1 ⟨369, 48, 369, 57⟩) (.cons (.sfrom (.var 6 ⟨369, 59, 369, 68⟩) (.blt .len (.cons (.var 7 ⟨369, 73, 369, 88⟩) .nil) ⟨369, 69, 369, 72⟩ ⟨369, 69, 369, 89⟩) ⟨369, 69, 369, 90⟩ ⟨369, 59, 369, 91⟩) .nil))) ⟨369, 23, 369, 34⟩ ⟨369, 23, 369, 92⟩) ⟨369, 11, 369, 92⟩) ⟨369, 4, 369, 92⟩)
    .nil))))))))
noncomputable def S_law_good_rows : Scope := {
              kind := PySem.ScopeKind.function,
              names := [
                (PySem.Str.ofString "_law_script", PySem.NameKind.local),
                (PySem.Str.ofString "_law_tape", PySem.NameKind.local),
                (PySem.Str.ofString "_law_told_here", PySem.NameKind.cell),
                (PySem.Str.ofString "_law_name", PySem.NameKind.local),
                (PySem.Str.ofString "_law_names", PySem.NameKind.local),
                (PySem.Str.ofString "_law_ins", PySem.NameKind.local),
                (PySem.Str.ofString "_law_outs", PySem.NameKind.cell),
                (PySem.Str.ofString "_law_kinds_here", PySem.NameKind.local),
                (PySem.Str.ofString "_law_rows", PySem.NameKind.local),
                (PySem.Str.ofString "_law_k", PySem.NameKind.local),
                (PySem.Str.ofString "_law_row", PySem.NameKind.local),
                (PySem.Str.ofString "_law_other", PySem.NameKind.local),
                (PySem.Str.ofString "_law_ends", PySem.NameKind.local),
                (PySem.Str.ofString "list", PySem.NameKind.globalImplicit),
                (PySem.Str.ofString "range", PySem.NameKind.globalImplicit),
                (PySem.Str.ofString "_law_draw", PySem.NameKind.globalImplicit),
                (PySem.Str.ofString "_law_fitting", PySem.NameKind.globalImplicit),
                (PySem.Str.ofString "_law_next", PySem.NameKind.globalImplicit),
                (PySem.Str.ofString "len", PySem.NameKind.globalImplicit),
                (PySem.Str.ofString "_law_pushes", PySem.NameKind.globalImplicit),
                (PySem.Str.ofString "tuple", PySem.NameKind.globalImplicit)],
              isGenerator := false,
              isCoroutine := false,
              more := [
                (PySem.Str.ofString "fast", (PySem.Const.str "_law_script")),
                (PySem.Str.ofString "fast", (PySem.Const.str "_law_tape")),
                (PySem.Str.ofString "fast", (PySem.Const.str "_law_told_here")),
                (PySem.Str.ofString "fast", (PySem.Const.str "_law_name")),
                (PySem.Str.ofString "fast", (PySem.Const.str "_law_names")),
                (PySem.Str.ofString "fast", (PySem.Const.str "_law_ins")),
                (PySem.Str.ofString "fast", (PySem.Const.str "_law_outs")),
                (PySem.Str.ofString "fast", (PySem.Const.str "_law_kinds_here")),
                (PySem.Str.ofString "fast", (PySem.Const.str "_law_rows")),
                (PySem.Str.ofString "fast", (PySem.Const.str "_law_k")),
                (PySem.Str.ofString "fast", (PySem.Const.str "_law_row")),
                (PySem.Str.ofString "fast", (PySem.Const.str "_law_other")),
                (PySem.Str.ofString "fast", (PySem.Const.str "_law_ends"))] : PySem.Scope }

noncomputable def N_law_good_program : List Str := ["_law_script", "_law_tape", "_law_told_here", "_law_names", "_law_down", "_law_program", "_law_k", "_law_some", "_law_rows"]
noncomputable def B_law_good_program : ASs :=
    (.cons (.assign 2 ⟨371, 4, 371, 18⟩ (.call "_law_told" (.cons (.var 0 ⟨371, 31, 371, 42⟩) (.cons (.var 1 ⟨371, 44, 371, 53⟩) .nil)) ⟨371, 21, 371, 30⟩ ⟨371, 21, 371, 54⟩) ⟨371, 4, 371, 54⟩)
    (.cons (.assign 3 ⟨372, 4, 372, 14⟩ (.blt .list (.cons (.var 2 ⟨372, 22, 372, 36⟩) .nil) ⟨372, 17, 372, 21⟩ ⟨372, 17, 372, 37⟩) ⟨372, 4, 372, 37⟩)
    (.cons (.assign 4 ⟨373, 4, 373, 13⟩ (.call "_law_draw" (.cons (.var 0 ⟨373, 26, 373, 37⟩) (.cons (.var 1 ⟨373, 39, 373, 48⟩) (.cons (.lit (.int 2) 0 ⟨373, 50, 373, 51⟩) .nil))) ⟨373, 16, 373, 25⟩ ⟨373, 16, 373, 52⟩) ⟨373, 4, 373, 52⟩)
    (.cons (.assign 5 ⟨374, 4, 374, 16⟩ (.dict [] .nil ⟨374, 19, 374, 21⟩) ⟨374, 4, 374, 21⟩)
    (.cons (.for 6 ⟨375, 8, 375, 14⟩ (.blt .range (.cons (.blt .len (.cons (.var 3 ⟨375, 28, 375, 38⟩) .nil) ⟨375, 24, 375, 27⟩ ⟨375, 24, 375, 39⟩) .nil) ⟨375, 18, 375, 23⟩ ⟨375, 18, 375, 40⟩) (.cons (.assign 7 ⟨376, 8, 376, 17⟩ (.var 3 ⟨376, 20, 376, 30⟩) ⟨376, 8, 376, 30⟩)
    (.cons (.ite (.cmp (.var 4 ⟨377, 11, 377, 20⟩) .Eq (.lit (.int 1) 0 ⟨377, 24, 377, 25⟩) ⟨377, 11, 377, 25⟩) (.cons (.assign 7 ⟨378, 12, 378, 21⟩ (.sfrom (.var 3 ⟨378, 24, 378, 34⟩) (.bin (.var 6 ⟨378, 35, 378, 41⟩) .Add (.lit (.int 1) 0 ⟨378, 44, 378, 45⟩) ⟨378, 35, 378, 45⟩) ⟨378, 35, 378, 46⟩ ⟨378, 24, 378, 47⟩) ⟨378, 12, 378, 47⟩)
    .nil) .nil ⟨377, 8, 378, 47⟩)
    (.cons (.assign 8 ⟨379, 8, 379, 17⟩ (.call "_law_good_rows" (.cons (.var 0 ⟨379, 35, 379, 46⟩) (.cons (.var 1 ⟨379, 48, 379, 57⟩) (.cons (.var 2 ⟨379, 59, 379, 73⟩) (.cons (.sub (.var 3 ⟨379, 75, 379, 85⟩) (.var 6 ⟨379, 86, 379, 92⟩) ⟨379, 75, 379, 93⟩) (.cons (.var 7 ⟨379, 95, 379, 104⟩) .nil))))) ⟨379, 20, 379, 34⟩ ⟨379, 20, 379, 105⟩) ⟨379, 8, 379, 105⟩)
    (.cons (.store (.var 5 ⟨380, 8, 380, 20⟩) (.sub (.var 3 ⟨380, 21, 380, 31⟩) (.var 6 ⟨380, 32, 380, 38⟩) ⟨380, 21, 380, 39⟩) ⟨380, 8, 380, 40⟩ (.tup (.cons (.sub (.sub (.var 2 ⟨380, 44, 380, 58⟩) (.sub (.var 3 ⟨380, 59, 380, 69⟩) (.var 6 ⟨380, 70, 380, 76⟩) ⟨380, 59, 380, 77⟩) ⟨380, 44, 380, 78⟩) (.lit (.int 0) 0 ⟨380, 79, 380, 80⟩) ⟨380, 44, 380, 81⟩) (.cons (.sub (.sub (.var 2 ⟨380, 83, 380, 97⟩) (.sub (.var 3 ⟨380, 98, 380, 108⟩) (.var 6 ⟨380, 109, 380, 115⟩) ⟨380, 98, 380, 116⟩) ⟨380, 83, 380, 117⟩) (.lit (.int 1) 0 ⟨380, 118, 380, 119⟩) ⟨380, 83, 380, 120⟩) (.cons (.var 8 ⟨380, 122, 380, 131⟩) .nil))) 0 ⟨380, 43, 380, 132⟩) ⟨380, 8, 380, 132⟩)
    .nil)))) ⟨375, 4, 380, 132⟩)
    (.cons (.ret (.var 5 ⟨381, 11, 381, 23⟩) ⟨381, 4, 381, 23⟩)
    .nil))))))
noncomputable def S_law_good_program : Scope := {
              kind := PySem.ScopeKind.function,
              names := [
                (PySem.Str.ofString "_law_script", PySem.NameKind.local),
                (PySem.Str.ofString "_law_tape", PySem.NameKind.local),
                (PySem.Str.ofString "_law_told_here", PySem.NameKind.local),
                (PySem.Str.ofString "_law_names", PySem.NameKind.local),
                (PySem.Str.ofString "_law_down", PySem.NameKind.local),
                (PySem.Str.ofString "_law_program", PySem.NameKind.local),
                (PySem.Str.ofString "_law_k", PySem.NameKind.local),
                (PySem.Str.ofString "_law_some", PySem.NameKind.local),
                (PySem.Str.ofString "_law_rows", PySem.NameKind.local),
                (PySem.Str.ofString "_law_told", PySem.NameKind.globalImplicit),
                (PySem.Str.ofString "list", PySem.NameKind.globalImplicit),
                (PySem.Str.ofString "_law_draw", PySem.NameKind.globalImplicit),
                (PySem.Str.ofString "range", PySem.NameKind.globalImplicit),
                (PySem.Str.ofString "len", PySem.NameKind.globalImplicit),
                (PySem.Str.ofString "_law_good_rows", PySem.NameKind.globalImplicit)],
              isGenerator := false,
              isCoroutine := false,
              more := [] : PySem.Scope }

noncomputable def N_law_alike : List Str := ["_law_found", "_law_due_here", "_law_k"]
noncomputable def B_law_alike : ASs :=
    (.cons (.ite (.bop .Or (.cons (.not (.isi (.var 0 ⟨383, 22, 383, 32⟩) .list ⟨383, 11, 383, 21⟩ ⟨383, 34, 383, 38⟩ default default ⟨383, 11, 383, 39⟩) ⟨383, 7, 383, 39⟩) (.cons (.cmp (.blt .len (.cons (.var 0 ⟨383, 47, 383, 57⟩) .nil) ⟨383, 43, 383, 46⟩ ⟨383, 43, 383, 58⟩) .NotEq (.blt .len (.cons (.var 1 ⟨383, 66, 383, 79⟩) .nil) ⟨383, 62, 383, 65⟩ ⟨383, 62, 383, 80⟩) ⟨383, 43, 383, 80⟩) .nil)) ⟨383, 7, 383, 80⟩) (.cons (.ret (.lit (.bool false) 0 ⟨384, 15, 384, 20⟩) ⟨384, 8, 384, 20⟩)
    .nil) .nil ⟨383, 4, 384, 20⟩)
    (.cons (.for 2 ⟨385, 8, 385, 14⟩ (.blt .range (.cons (.blt .len (.cons (.var 1 ⟨385, 28, 385, 41⟩) .nil) ⟨385, 24, 385, 27⟩ ⟨385, 24, 385, 42⟩) .nil) ⟨385, 18, 385, 23⟩ ⟨385, 18, 385, 43⟩) (.cons (.ite (.cmp (.isi (.sub (.var 1 ⟨386, 22, 386, 35⟩) (.var 2 ⟨386, 36, 386, 42⟩) ⟨386, 22, 386, 43⟩) .str ⟨386, 11, 386, 21⟩ ⟨386, 45, 386, 48⟩ default default ⟨386, 11, 386, 49⟩) .NotEq (.isi (.sub (.var 0 ⟨386, 64, 386, 74⟩) (.var 2 ⟨386, 75, 386, 81⟩) ⟨386, 64, 386, 82⟩) .str ⟨386, 53, 386, 63⟩ ⟨386, 84, 386, 87⟩ default default ⟨386, 53, 386, 88⟩) ⟨386, 11, 386, 88⟩) (.cons (.ret (.lit (.bool false) 0 ⟨387, 19, 387, 24⟩) ⟨387, 12, 387, 24⟩)
    .nil) .nil ⟨386, 8, 387, 24⟩)
    (.cons (.ite (.bop .And (.cons (.not (.isi (.sub (.var 1 ⟨388, 26, 388, 39⟩) (.var 2 ⟨388, 40, 388, 46⟩) ⟨388, 26, 388, 47⟩) .str ⟨388, 15, 388, 25⟩ ⟨388, 49, 388, 52⟩ default default ⟨388, 15, 388, 53⟩) ⟨388, 11, 388, 53⟩) (.cons (.bop .Or (.cons (.isi (.sub (.var 0 ⟨388, 70, 388, 80⟩) (.var 2 ⟨388, 81, 388, 87⟩) ⟨388, 70, 388, 88⟩) .bool ⟨388, 59, 388, 69⟩ ⟨388, 90, 388, 94⟩ default default ⟨388, 59, 388, 95⟩) (.cons (.not (.isi (.sub (.var 0 ⟨388, 114, 388, 124⟩) (.var 2 ⟨388, 125, 388, 131⟩) ⟨388, 114, 388, 132⟩) .int ⟨388, 103, 388, 113⟩ ⟨388, 134, 388, 137⟩ default default ⟨388, 103, 388, 138⟩) ⟨388, 99, 388, 138⟩) .nil)) ⟨388, 59, 388, 138⟩) .nil)) ⟨388, 11, 388, 139⟩) (.cons (.ret (.lit (.bool false) 0 ⟨389, 19, 389, 24⟩) ⟨389, 12, 389, 24⟩)
    .nil) .nil ⟨388, 8, 389, 24⟩)
    .nil)) ⟨385, 4, 389, 24⟩)
    (.cons (.ret (.cmp (.var 0 ⟨390, 11, 390, 21⟩) .Eq (.var 1 ⟨390, 25, 390, 38⟩) ⟨390, 11, 390, 38⟩) ⟨390, 4, 390, 38⟩)
    .nil)))
noncomputable def S_law_alike : Scope := {
              kind := PySem.ScopeKind.function,
              names := [
                (PySem.Str.ofString "_law_found", PySem.NameKind.local),
                (PySem.Str.ofString "_law_due_here", PySem.NameKind.local),
                (PySem.Str.ofString "_law_k", PySem.NameKind.local),
                (PySem.Str.ofString "isinstance", PySem.NameKind.globalImplicit),
                (PySem.Str.ofString "list", PySem.NameKind.globalImplicit),
                (PySem.Str.ofString "len", PySem.NameKind.globalImplicit),
                (PySem.Str.ofString "range", PySem.NameKind.globalImplicit),
                (PySem.Str.ofString "str", PySem.NameKind.globalImplicit),
                (PySem.Str.ofString "bool", PySem.NameKind.globalImplicit),
                (PySem.Str.ofString "int", PySem.NameKind.globalImplicit)],
              isGenerator := false,
              isCoroutine := false,
              more := [] : PySem.Scope }

noncomputable def N_law_on_top : List Str := ["_law_script", "_law_tape", "_law_ins", "_law_size", "_law_beneath", "_law_k", "_law_kind"]
noncomputable def B_law_on_top : ASs :=
    (.cons (.assign 3 ⟨392, 4, 392, 13⟩ (.bin (.call "_law_draw" (.cons (.var 0 ⟨392, 26, 392, 37⟩) (.cons (.var 1 ⟨392, 39, 392, 48⟩) (.cons (.lit (.int 4) 0 ⟨392, 50, 392, 51⟩) .nil))) ⟨392, 16, 392, 25⟩ ⟨392, 16, 392, 52⟩) .Add (.sub (.list (.cons (.lit (.int 0) 0 ⟨392, 56, 392, 57⟩) (.cons (.lit (.int 0) 0 ⟨392, 59, 392, 60⟩) (.cons (.lit (.int 0) 0 ⟨392, 62, 392, 63⟩) (.cons (.lit (.int 0) 0 ⟨392, 65, 392, 66⟩) (.cons (.lit (.int 0) 0 ⟨392, 68, 392, 69⟩) (.cons (.lit (.int 60) 0 ⟨392, 71, 392, 73⟩) .nil)))))) ⟨392, 55, 392, 74⟩) (.call "_law_draw" (.cons (.var 0 ⟨392, 85, 392, 96⟩) (.cons (.var 1 ⟨392, 98, 392, 107⟩) (.cons (.lit (.int 6) 0 ⟨392, 109, 392, 110⟩) .nil))) ⟨392, 75, 392, 84⟩ ⟨392, 75, 392, 111⟩) ⟨392, 55, 392, 112⟩) ⟨392, 16, 392, 112⟩) ⟨392, 4, 392, 112⟩)
    (.cons (.assign 4 ⟨393, 4, 393, 16⟩ (.list .nil ⟨393, 19, 393, 21⟩) ⟨393, 4, 393, 21⟩)
    (.cons (.for 5 ⟨394, 8, 394, 14⟩ (.blt .range (.cons (.var 3 ⟨394, 24, 394, 33⟩) .nil) ⟨394, 18, 394, 23⟩ ⟨394, 18, 394, 34⟩) (.cons (.expr (.meth (.var 4 ⟨395, 8, 395, 20⟩) .append (.cons (.call "_law_value" (.cons (.var 0 ⟨395, 39, 395, 50⟩) (.cons (.var 1 ⟨395, 52, 395, 61⟩) (.cons (.sub (.list (.cons (.lit (.str "num") 0 ⟨395, 64, 395, 69⟩) (.cons (.lit (.str "text") 0 ⟨395, 71, 395, 77⟩) .nil)) ⟨395, 63, 395, 78⟩) (.call "_law_draw" (.cons (.var 0 ⟨395, 89, 395, 100⟩) (.cons (.var 1 ⟨395, 102, 395, 111⟩) (.cons (.lit (.int 2) 0 ⟨395, 113, 395, 114⟩) .nil))) ⟨395, 79, 395, 88⟩ ⟨395, 79, 395, 115⟩) ⟨395, 63, 395, 116⟩) .nil))) ⟨395, 28, 395, 38⟩ ⟨395, 28, 395, 117⟩) .nil) ⟨395, 8, 395, 27⟩ ⟨395, 8, 395, 118⟩) ⟨395, 8, 395, 118⟩)
    .nil) ⟨394, 4, 395, 118⟩)
    (.cons (.ret (.bin (.var 4 ⟨396, 11, 396, 23⟩) .Add (.comp (.call "_law_value" (.cons (.var 0 ⟨396, 38, 396, 49⟩) (.cons (.var 1 ⟨396, 51, 396, 60⟩) (.cons (.var 6 ⟨396, 62, 396, 71⟩) .nil))) ⟨396, 27, 396, 37⟩ ⟨396, 27, 396, 72⟩) 6 ⟨396, 77, 396, 86⟩ (.var 2 ⟨396, 90, 396, 98⟩) .nil {                         kind := PySem.ScopeKind.function,                         names := [                           (PySem.Str.ofString ".0", PySem.NameKind.local),                           (PySem.Str.ofString "_law_kind", PySem.NameKind.local),                           (PySem.Str.ofString "_law_value", PySem.NameKind.globalImplicit),                           (PySem.Str.ofString "_law_script", PySem.NameKind.free),                           (PySem.Str.ofString "_law_tape", PySem.NameKind.free)],                         isGenerator := false,                         isCoroutine := false,                         more := [] : PySem.Scope } ⟨396, 26, 396, 99⟩) ⟨396, 11, 396, 99⟩) ⟨396, 4, 396, 99⟩)
    .nil))))
noncomputable def S_law_on_top : Scope := {
              kind := PySem.ScopeKind.function,
              names := [
                (PySem.Str.ofString "_law_script", PySem.NameKind.cell),
                (PySem.Str.ofString "_law_tape", PySem.NameKind.cell),
                (PySem.Str.ofString "_law_ins", PySem.NameKind.local),
                (PySem.Str.ofString "_law_size", PySem.NameKind.local),
                (PySem.Str.ofString "_law_beneath", PySem.NameKind.local),
                (PySem.Str.ofString "_law_k", PySem.NameKind.local),
                (PySem.Str.ofString "_law_draw", PySem.NameKind.globalImplicit),
                (PySem.Str.ofString "range", PySem.NameKind.globalImplicit),
                (PySem.Str.ofString "_law_value", PySem.NameKind.globalImplicit)],
              isGenerator := false,
              isCoroutine := false,
              more := [
                (PySem.Str.ofString "fast", (PySem.Const.str "_law_script")),
                (PySem.Str.ofString "fast", (PySem.Const.str "_law_tape")),
                (PySem.Str.ofString "fast", (PySem.Const.str "_law_ins")),
                (PySem.Str.ofString "fast", (PySem.Const.str "_law_size")),
                (PySem.Str.ofString "fast", (PySem.Const.str "_law_beneath")),
                (PySem.Str.ofString "fast", (PySem.Const.str "_law_k")),
                (PySem.Str.ofString "fast", (PySem.Const.str "_law_kind"))] : PySem.Scope }

noncomputable def N_law_step : List Str := ["_law_machine"]
noncomputable def B_law_step : ASs :=
    (.cons (.try (.cons (.expr (.umeth (.var 0 ⟨399, 8, 399, 20⟩) "Machine.step" "step" .nil ⟨399, 8, 399, 25⟩ ⟨399, 8, 399, 27⟩) ⟨399, 8, 399, 27⟩)
    .nil) (.cons 0 "StackError" ⟨400, 11, 400, 21⟩ none (.cons (.ret (.lit (.bool false) 0 ⟨401, 15, 401, 20⟩) ⟨401, 8, 401, 20⟩)
    .nil) ⟨400, 4, 401, 20⟩ .nil) ⟨398, 4, 401, 20⟩)
    (.cons (.ret (.lit (.bool true) 0 ⟨402, 11, 402, 15⟩) ⟨402, 4, 402, 15⟩)
    .nil))
noncomputable def S_law_step : Scope := {
              kind := PySem.ScopeKind.function,
              names := [
                (PySem.Str.ofString "_law_machine", PySem.NameKind.local),
                (PySem.Str.ofString "StackError", PySem.NameKind.globalImplicit)],
              isGenerator := false,
              isCoroutine := false,
              more := [] : PySem.Scope }

noncomputable def N_law_frames : List Str := ["_law_machine", "_law_program", "_law_frame"]
noncomputable def B_law_frames : ASs :=
    (.cons (.ite (.not (.isi (.attr (.var 0 ⟨404, 22, 404, 34⟩) "frames" ⟨404, 22, 404, 41⟩) .list ⟨404, 11, 404, 21⟩ ⟨404, 43, 404, 47⟩ default default ⟨404, 11, 404, 48⟩) ⟨404, 7, 404, 48⟩) (.cons (.ret (.lit (.bool false) 0 ⟨405, 15, 405, 20⟩) ⟨405, 8, 405, 20⟩)
    .nil) .nil ⟨404, 4, 405, 20⟩)
    (.cons (.for 2 ⟨406, 8, 406, 18⟩ (.attr (.var 0 ⟨406, 22, 406, 34⟩) "frames" ⟨406, 22, 406, 41⟩) (.cons (.ite (.bop .Or (.cons (.not (.isi (.var 2 ⟨407, 26, 407, 36⟩) .tuple ⟨407, 15, 407, 25⟩ ⟨407, 38, 407, 43⟩ default default ⟨407, 15, 407, 44⟩) ⟨407, 11, 407, 44⟩) (.cons (.cmp (.blt .len (.cons (.var 2 ⟨407, 52, 407, 62⟩) .nil) ⟨407, 48, 407, 51⟩ ⟨407, 48, 407, 63⟩) .NotEq (.lit (.int 2) 0 ⟨407, 67, 407, 68⟩) ⟨407, 48, 407, 68⟩) (.cons (.cmp (.sub (.var 2 ⟨407, 72, 407, 82⟩) (.lit (.int 0) 0 ⟨407, 83, 407, 84⟩) ⟨407, 72, 407, 85⟩) .NotIn (.var 1 ⟨407, 93, 407, 105⟩) ⟨407, 72, 407, 105⟩) .nil))) ⟨407, 11, 407, 105⟩) (.cons (.ret (.lit (.bool false) 0 ⟨408, 19, 408, 24⟩) ⟨408, 12, 408, 24⟩)
    .nil) .nil ⟨407, 8, 408, 24⟩)
    (.cons (.ite (.bop .Or (.cons (.isi (.sub (.var 2 ⟨409, 22, 409, 32⟩) (.lit (.int 1) 0 ⟨409, 33, 409, 34⟩) ⟨409, 22, 409, 35⟩) .bool ⟨409, 11, 409, 21⟩ ⟨409, 37, 409, 41⟩ default default ⟨409, 11, 409, 42⟩) (.cons (.not (.isi (.sub (.var 2 ⟨409, 61, 409, 71⟩) (.lit (.int 1) 0 ⟨409, 72, 409, 73⟩) ⟨409, 61, 409, 74⟩) .int ⟨409, 50, 409, 60⟩ ⟨409, 76, 409, 79⟩ default default ⟨409, 50, 409, 80⟩) ⟨409, 46, 409, 80⟩) .nil)) ⟨409, 11, 409, 80⟩) (.cons (.ret (.lit (.bool false) 0 ⟨410, 19, 410, 24⟩) ⟨410, 12, 410, 24⟩)
    .nil) .nil ⟨409, 8, 410, 24⟩)
    (.cons (.ite (.bop .Or (.cons (.cmp (.sub (.var 2 ⟨411, 11, 411, 21⟩) (.lit (.int 1) 0 ⟨411, 22, 411, 23⟩) ⟨411, 11, 411, 24⟩) .Lt (.lit (.int 0) 0 ⟨411, 27, 411, 28⟩) ⟨411, 11, 411, 28⟩) (.cons (.cmp (.sub (.var 2 ⟨411, 32, 411, 42⟩) (.lit (.int 1) 0 ⟨411, 43, 411, 44⟩) ⟨411, 32, 411, 45⟩) .Gt (.blt .len (.cons (.sub (.sub (.var 1 ⟨411, 52, 411, 64⟩) (.sub (.var 2 ⟨411, 65, 411, 75⟩) (.lit (.int 0) 0 ⟨411, 76, 411, 77⟩) ⟨411, 65, 411, 78⟩) ⟨411, 52, 411, 79⟩) (.lit (.int 2) 0 ⟨411, 80, 411, 81⟩) ⟨411, 52, 411, 82⟩) .nil) ⟨411, 48, 411, 51⟩ ⟨411, 48, 411, 83⟩) ⟨411, 32, 411, 83⟩) .nil)) ⟨411, 11, 411, 83⟩) (.cons (.ret (.lit (.bool false) 0 ⟨412, 19, 412, 24⟩) ⟨412, 12, 412, 24⟩)
    .nil) .nil ⟨411, 8, 412, 24⟩)
    .nil))) ⟨406, 4, 412, 24⟩)
    (.cons (.ret (.lit (.bool true) 0 ⟨413, 11, 413, 15⟩) ⟨413, 4, 413, 15⟩)
    .nil)))
noncomputable def S_law_frames : Scope := {
              kind := PySem.ScopeKind.function,
              names := [
                (PySem.Str.ofString "_law_machine", PySem.NameKind.local),
                (PySem.Str.ofString "_law_program", PySem.NameKind.local),
                (PySem.Str.ofString "_law_frame", PySem.NameKind.local),
                (PySem.Str.ofString "isinstance", PySem.NameKind.globalImplicit),
                (PySem.Str.ofString "list", PySem.NameKind.globalImplicit),
                (PySem.Str.ofString "tuple", PySem.NameKind.globalImplicit),
                (PySem.Str.ofString "len", PySem.NameKind.globalImplicit),
                (PySem.Str.ofString "bool", PySem.NameKind.globalImplicit),
                (PySem.Str.ofString "int", PySem.NameKind.globalImplicit)],
              isGenerator := false,
              isCoroutine := false,
              more := [] : PySem.Scope }

noncomputable def N_law_due : List Str := ["_law_machine", "_law_program", "_law_trails", "_law_outs", "_law_due_here", "_law_frames_here", "_law_k", "_law_kinds_here", "_law_above"]
noncomputable def B_law_due : ASs :=
    (.cons (.assign 4 ⟨415, 4, 415, 17⟩ (.list .nil ⟨415, 20, 415, 22⟩) ⟨415, 4, 415, 22⟩)
    (.cons (.assign 5 ⟨416, 4, 416, 20⟩ (.attr (.var 0 ⟨416, 23, 416, 35⟩) "frames" ⟨416, 23, 416, 42⟩) ⟨416, 4, 416, 42⟩)
    (.cons (.for 6 ⟨417, 8, 417, 14⟩ (.blt .range (.cons (.blt .len (.cons (.var 5 ⟨417, 28, 417, 44⟩) .nil) ⟨417, 24, 417, 27⟩ ⟨417, 24, 417, 45⟩) .nil) ⟨417, 18, 417, 23⟩ ⟨417, 18, 417, 46⟩) (.cons (.assign 7 ⟨418, 8, 418, 23⟩ (.blt .list (.cons (.sub (.sub (.var 2 ⟨418, 31, 418, 42⟩) (.sub (.sub (.var 5 ⟨418, 43, 418, 59⟩) (.var 6 ⟨418, 60, 418, 66⟩) ⟨418, 43, 418, 67⟩) (.lit (.int 0) 0 ⟨418, 68, 418, 69⟩) ⟨418, 43, 418, 70⟩) ⟨418, 31, 418, 71⟩) (.sub (.sub (.var 5 ⟨418, 72, 418, 88⟩) (.var 6 ⟨418, 89, 418, 95⟩) ⟨418, 72, 418, 96⟩) (.lit (.int 1) 0 ⟨418, 97, 418, 98⟩) ⟨418, 72, 418, 99⟩) ⟨418, 31, 418, 100⟩) .nil) ⟨418, 26, 418, 30⟩ ⟨418, 26, 418, 101⟩) ⟨418, 8, 418, 101⟩)
    (.cons (.ite (.cmp (.bin (.var 6 ⟨419, 11, 419, 17⟩) .Add (.lit (.int 1) 0 ⟨419, 20, 419, 21⟩) ⟨419, 11, 419, 21⟩) .Lt (.blt .len (.cons (.var 5 ⟨419, 28, 419, 44⟩) .nil) ⟨419, 24, 419, 27⟩ ⟨419, 24, 419, 45⟩) ⟨419, 11, 419, 45⟩) (.cons (.assign 8 ⟨420, 12, 420, 22⟩ (.sub (.sub (.var 1 ⟨420, 25, 420, 37⟩) (.sub (.sub (.var 5 ⟨420, 38, 420, 54⟩) (.bin (.var 6 ⟨420, 55, 420, 61⟩) .Add (.lit (.int 1) 0 ⟨420, 64, 420, 65⟩) ⟨420, 55, 420, 65⟩) ⟨420, 38, 420, 66⟩) (.lit (.int 0) 0 ⟨420, 67, 420, 68⟩) ⟨420, 38, 420, 69⟩) ⟨420, 25, 420, 70⟩) (.lit (.int 1) 0 ⟨420, 71, 420, 72⟩) ⟨420, 25, 420, 73⟩) ⟨420, 12, 420, 73⟩)
    (.cons (.ite (.cmp (.blt .tuple (.cons (.sfrom (.var 7 ⟨421, 21, 421, 36⟩) (.bin (.blt .len (.cons (.var 7 ⟨421, 41, 421, 56⟩) .nil) ⟨421, 37, 421, 40⟩ ⟨421, 37, 421, 57⟩) .Sub (.blt .len (.cons (.var 8 ⟨421, 64, 421, 74⟩) .nil) ⟨421, 60, 421, 63⟩ ⟨421, 60, 421, 75⟩) ⟨421, 37, 421, 75⟩) ⟨421, 37, 421, 76⟩ ⟨421, 21, 421, 77⟩) .nil) ⟨421, 15, 421, 20⟩ ⟨421, 15, 421, 78⟩) .NotEq (.var 8 ⟨421, 82, 421, 92⟩) ⟨421, 15, 421, 92⟩) (.cons (.ret (.lit .none 0 ⟨422, 23, 422, 27⟩) ⟨422, 16, 422, 27⟩)
    .nil) .nil ⟨421, 12, 422, 27⟩)
    (.cons (.assign 7 ⟨423, 12, 423, 27⟩ (.sto (.var 7 ⟨423, 30, 423, 45⟩) (.bin (.blt .len (.cons (.var 7 ⟨423, 51, 423, 66⟩) .nil) ⟨423, 47, 423, 50⟩ ⟨423, 47, 423, 67⟩) .Sub (.blt .len (.cons (.var 8 ⟨423, 74, 423, 84⟩) .nil) ⟨423, 70, 423, 73⟩ ⟨423, 70, 423, 85⟩) ⟨423, 47, 423, 85⟩) ⟨423, 46, 423, 85⟩ ⟨423, 30, 423, 86⟩) ⟨423, 12, 423, 86⟩)
    .nil))) .nil ⟨419, 8, 423, 86⟩)
    (.cons (.assign 4 ⟨424, 8, 424, 21⟩ (.bin (.var 4 ⟨424, 24, 424, 37⟩) .Add (.var 7 ⟨424, 40, 424, 55⟩) ⟨424, 24, 424, 55⟩) ⟨424, 8, 424, 55⟩)
    .nil))) ⟨417, 4, 424, 55⟩)
    (.cons (.ite (.cmp (.blt .len (.cons (.var 5 ⟨425, 11, 425, 27⟩) .nil) ⟨425, 7, 425, 10⟩ ⟨425, 7, 425, 28⟩) .Eq (.lit (.int 0) 0 ⟨425, 32, 425, 33⟩) ⟨425, 7, 425, 33⟩) (.cons (.ret (.blt .list (.cons (.var 3 ⟨426, 20, 426, 29⟩) .nil) ⟨426, 15, 426, 19⟩ ⟨426, 15, 426, 30⟩) ⟨426, 8, 426, 30⟩)
    .nil) .nil ⟨425, 4, 426, 30⟩)
    (.cons (.ret (.var 4 ⟨427, 11, 427, 24⟩) ⟨427, 4, 427, 24⟩)
    .nil)))))
noncomputable def S_law_due : Scope := {
              kind := PySem.ScopeKind.function,
              names := [
                (PySem.Str.ofString "_law_machine", PySem.NameKind.local),
                (PySem.Str.ofString "_law_program", PySem.NameKind.local),
                (PySem.Str.ofString "_law_trails", PySem.NameKind.local),
                (PySem.Str.ofString "_law_outs", PySem.NameKind.local),
                (PySem.Str.ofString "_law_due_here", PySem.NameKind.local),
                (PySem.Str.ofString "_law_frames_here", PySem.NameKind.local),
                (PySem.Str.ofString "_law_k", PySem.NameKind.local),
                (PySem.Str.ofString "_law_kinds_here", PySem.NameKind.local),
                (PySem.Str.ofString "_law_above", PySem.NameKind.local),
                (PySem.Str.ofString "range", PySem.NameKind.globalImplicit),
                (PySem.Str.ofString "len", PySem.NameKind.globalImplicit),
                (PySem.Str.ofString "list", PySem.NameKind.globalImplicit),
                (PySem.Str.ofString "tuple", PySem.NameKind.globalImplicit)],
              isGenerator := false,
              isCoroutine := false,
              more := [] : PySem.Scope }

noncomputable def N_law_stands : List Str := ["_law_machine", "_law_program", "_law_trails", "_law_beneath", "_law_outs", "_law_due_here", "_law_low", "_law_top", "_law_k"]
noncomputable def B_law_stands : ASs :=
    (.cons (.ite (.bop .Or (.cons (.not (.call "_law_frames" (.cons (.var 0 ⟨429, 23, 429, 35⟩) (.cons (.var 1 ⟨429, 37, 429, 49⟩) .nil)) ⟨429, 11, 429, 22⟩ ⟨429, 11, 429, 50⟩) ⟨429, 7, 429, 50⟩) (.cons (.not (.isi (.attr (.var 0 ⟨429, 69, 429, 81⟩) "stack" ⟨429, 69, 429, 87⟩) .list ⟨429, 58, 429, 68⟩ ⟨429, 89, 429, 93⟩ default default ⟨429, 58, 429, 94⟩) ⟨429, 54, 429, 94⟩) .nil)) ⟨429, 7, 429, 94⟩) (.cons (.ret (.lit (.bool false) 0 ⟨430, 15, 430, 20⟩) ⟨430, 8, 430, 20⟩)
    .nil) .nil ⟨429, 4, 430, 20⟩)
    (.cons (.assign 5 ⟨431, 4, 431, 17⟩ (.call "_law_due" (.cons (.var 0 ⟨431, 29, 431, 41⟩) (.cons (.var 1 ⟨431, 43, 431, 55⟩) (.cons (.var 2 ⟨431, 57, 431, 68⟩) (.cons (.var 4 ⟨431, 70, 431, 79⟩) .nil)))) ⟨431, 20, 431, 28⟩ ⟨431, 20, 431, 80⟩) ⟨431, 4, 431, 80⟩)
    (.cons (.assign 6 ⟨432, 4, 432, 12⟩ (.sto (.attr (.var 0 ⟨432, 15, 432, 27⟩) "stack" ⟨432, 15, 432, 33⟩) (.blt .len (.cons (.var 3 ⟨432, 39, 432, 51⟩) .nil) ⟨432, 35, 432, 38⟩ ⟨432, 35, 432, 52⟩) ⟨432, 34, 432, 52⟩ ⟨432, 15, 432, 53⟩) ⟨432, 4, 432, 53⟩)
    (.cons (.assign 7 ⟨433, 4, 433, 12⟩ (.sfrom (.attr (.var 0 ⟨433, 15, 433, 27⟩) "stack" ⟨433, 15, 433, 33⟩) (.blt .len (.cons (.var 3 ⟨433, 38, 433, 50⟩) .nil) ⟨433, 34, 433, 37⟩ ⟨433, 34, 433, 51⟩) ⟨433, 34, 433, 52⟩ ⟨433, 15, 433, 53⟩) ⟨433, 4, 433, 53⟩)
    (.cons (.ite (.bop .Or (.cons (.cmp (.var 5 ⟨434, 7, 434, 20⟩) .Is (.lit .none 0 ⟨434, 24, 434, 28⟩) ⟨434, 7, 434, 28⟩) (.cons (.not (.call "_law_alike" (.cons (.var 6 ⟨434, 47, 434, 55⟩) (.cons (.var 3 ⟨434, 57, 434, 69⟩) .nil)) ⟨434, 36, 434, 46⟩ ⟨434, 36, 434, 70⟩) ⟨434, 32, 434, 70⟩) (.cons (.cmp (.blt .len (.cons (.var 7 ⟨434, 78, 434, 86⟩) .nil) ⟨434, 74, 434, 77⟩ ⟨434, 74, 434, 87⟩) .NotEq (.blt .len (.cons (.var 5 ⟨434, 95, 434, 108⟩) .nil) ⟨434, 91, 434, 94⟩ ⟨434, 91, 434, 109⟩) ⟨434, 74, 434, 109⟩) .nil))) ⟨434, 7, 434, 109⟩) (.cons (.ret (.lit (.bool false) 0 ⟨435, 15, 435, 20⟩) ⟨435, 8, 435, 20⟩)
    .nil) .nil ⟨434, 4, 435, 20⟩)
    (.cons (.for 8 ⟨436, 8, 436, 14⟩ (.blt .range (.cons (.blt .len (.cons (.var 5 ⟨436, 28, 436, 41⟩) .nil) ⟨436, 24, 436, 27⟩ ⟨436, 24, 436, 42⟩) .nil) ⟨436, 18, 436, 23⟩ ⟨436, 18, 436, 43⟩) (.cons (.ite (.bop .Or (.cons (.isi (.sub (.var 7 ⟨437, 22, 437, 30⟩) (.var 8 ⟨437, 31, 437, 37⟩) ⟨437, 22, 437, 38⟩) .bool ⟨437, 11, 437, 21⟩ ⟨437, 40, 437, 44⟩ default default ⟨437, 11, 437, 45⟩) (.cons (.not (.isi (.sub (.var 7 ⟨437, 64, 437, 72⟩) (.var 8 ⟨437, 73, 437, 79⟩) ⟨437, 64, 437, 80⟩) .intstr ⟨437, 53, 437, 63⟩ ⟨437, 82, 437, 92⟩ ⟨437, 83, 437, 86⟩ ⟨437, 88, 437, 91⟩ ⟨437, 53, 437, 93⟩) ⟨437, 49, 437, 93⟩) .nil)) ⟨437, 11, 437, 93⟩) (.cons (.ret (.lit (.bool false) 0 ⟨438, 19, 438, 24⟩) ⟨438, 12, 438, 24⟩)
    .nil) .nil ⟨437, 8, 438, 24⟩)
    (.cons (.ite (.cmp (.isi (.sub (.var 7 ⟨439, 22, 439, 30⟩) (.var 8 ⟨439, 31, 439, 37⟩) ⟨439, 22, 439, 38⟩) .str ⟨439, 11, 439, 21⟩ ⟨439, 40, 439, 43⟩ default default ⟨439, 11, 439, 44⟩) .NotEq (.cmp (.sub (.var 5 ⟨439, 49, 439, 62⟩) (.var 8 ⟨439, 63, 439, 69⟩) ⟨439, 49, 439, 70⟩) .Eq (.lit (.str "text") 0 ⟨439, 74, 439, 80⟩) ⟨439, 49, 439, 80⟩) ⟨439, 11, 439, 81⟩) (.cons (.ret (.lit (.bool false) 0 ⟨440, 19, 440, 24⟩) ⟨440, 12, 440, 24⟩)
    .nil) .nil ⟨439, 8, 440, 24⟩)
    .nil)) ⟨436, 4, 440, 24⟩)
    (.cons (.ret (.lit (.bool true) 0 ⟨441, 11, 441, 15⟩) ⟨441, 4, 441, 15⟩)
    .nil)))))))
noncomputable def S_law_stands : Scope := {
              kind := PySem.ScopeKind.function,
              names := [
                (PySem.Str.ofString "_law_machine", PySem.NameKind.local),
                (PySem.Str.ofString "_law_program", PySem.NameKind.local),
                (PySem.Str.ofString "_law_trails", PySem.NameKind.local),
                (PySem.Str.ofString "_law_beneath", PySem.NameKind.local),
                (PySem.Str.ofString "_law_outs", PySem.NameKind.local),
                (PySem.Str.ofString "_law_due_here", PySem.NameKind.local),
                (PySem.Str.ofString "_law_low", PySem.NameKind.local),
                (PySem.Str.ofString "_law_top", PySem.NameKind.local),
                (PySem.Str.ofString "_law_k", PySem.NameKind.local),
                (PySem.Str.ofString "_law_frames", PySem.NameKind.globalImplicit),
                (PySem.Str.ofString "isinstance", PySem.NameKind.globalImplicit),
                (PySem.Str.ofString "list", PySem.NameKind.globalImplicit),
                (PySem.Str.ofString "_law_due", PySem.NameKind.globalImplicit),
                (PySem.Str.ofString "len", PySem.NameKind.globalImplicit),
                (PySem.Str.ofString "_law_alike", PySem.NameKind.globalImplicit),
                (PySem.Str.ofString "range", PySem.NameKind.globalImplicit),
                (PySem.Str.ofString "bool", PySem.NameKind.globalImplicit),
                (PySem.Str.ofString "int", PySem.NameKind.globalImplicit),
                (PySem.Str.ofString "str", PySem.NameKind.globalImplicit)],
              isGenerator := false,
              isCoroutine := false,
              more := [] : PySem.Scope }

noncomputable def N_law : List Str := ["_law_script", "_law_tape", "_law_steps", "_law_program", "_law_names", "_law_name", "_law_ins", "_law_outs", "_law_rows", "_law_stack", "_law_beneath", "_law_trails", "_law_other", "_law_most", "_law_machine", "_law_turn"]
noncomputable def B_law : ASs :=
    (.cons (.assign 1 ⟨443, 4, 443, 13⟩ (.tape ⟨443, 17, 443, 18⟩ ⟨443, 16, 443, 19⟩) ⟨443, 4, 443, 19⟩)
    (.cons (.assign 2 ⟨444, 4, 444, 14⟩ (.call "_law_draw" (.cons (.var 0 ⟨444, 27, 444, 38⟩) (.cons (.var 1 ⟨444, 40, 444, 49⟩) (.cons (.lit (.int 61) 0 ⟨444, 51, 444, 53⟩) .nil))) ⟨444, 17, 444, 26⟩ ⟨444, 17, 444, 54⟩) ⟨444, 4, 444, 54⟩)
    (.cons (.assign 3 ⟨445, 4, 445, 16⟩ (.call "_law_good_program" (.cons (.var 0 ⟨445, 37, 445, 48⟩) (.cons (.var 1 ⟨445, 50, 445, 59⟩) .nil)) ⟨445, 19, 445, 36⟩ ⟨445, 19, 445, 60⟩) ⟨445, 4, 445, 60⟩)
    (.cons (.assign 4 ⟨446, 4, 446, 14⟩ (.blt .list (.cons (.var 3 ⟨446, 22, 446, 34⟩) .nil) ⟨446, 17, 446, 21⟩ ⟨446, 17, 446, 35⟩) ⟨446, 4, 446, 35⟩)
    (.cons (.assign 5 ⟨447, 4, 447, 13⟩ (.sub (.var 4 ⟨447, 16, 447, 26⟩) (.bin (.call "_law_draw" (.cons (.var 0 ⟨447, 37, 447, 48⟩) (.cons (.var 1 ⟨447, 50, 447, 59⟩) (.cons (.lit (.int 1000) 0 ⟨447, 61, 447, 65⟩) .nil))) ⟨447, 27, 447, 36⟩ ⟨447, 27, 447, 66⟩) .Mod (.blt .len (.cons (.var 4 ⟨447, 73, 447, 83⟩) .nil) ⟨447, 69, 447, 72⟩ ⟨447, 69, 447, 84⟩) ⟨447, 27, 447, 84⟩) ⟨447, 16, 447, 85⟩) ⟨447, 4, 447, 85⟩)
    (.cons (.assignT [(6, ⟨448, 4, 448, 12⟩), (7, ⟨448, 14, 448, 23⟩), (8, ⟨448, 25, 448, 34⟩)] 0 ⟨448, 4, 448, 34⟩ (.sub (.var 3 ⟨448, 37, 448, 49⟩) (.var 5 ⟨448, 50, 448, 59⟩) ⟨448, 37, 448, 60⟩) ⟨448, 4, 448, 60⟩)
    (.cons (.assign 9 ⟨449, 4, 449, 14⟩ (.call "_law_on_top" (.cons (.var 0 ⟨449, 29, 449, 40⟩) (.cons (.var 1 ⟨449, 42, 449, 51⟩) (.cons (.var 6 ⟨449, 53, 449, 61⟩) .nil))) ⟨449, 17, 449, 28⟩ ⟨449, 17, 449, 62⟩) ⟨449, 4, 449, 62⟩)
    (.cons (.assign 10 ⟨450, 4, 450, 16⟩ (.sto (.var 9 ⟨450, 19, 450, 29⟩) (.bin (.blt .len (.cons (.var 9 ⟨450, 35, 450, 45⟩) .nil) ⟨450, 31, 450, 34⟩ ⟨450, 31, 450, 46⟩) .Sub (.blt .len (.cons (.var 6 ⟨450, 53, 450, 61⟩) .nil) ⟨450, 49, 450, 52⟩ ⟨450, 49, 450, 62⟩) ⟨450, 31, 450, 62⟩) ⟨450, 30, 450, 62⟩ ⟨450, 19, 450, 63⟩) ⟨450, 4, 450, 63⟩)
    (.cons (.assign 11 ⟨451, 4, 451, 15⟩ (.dict [] .nil ⟨451, 18, 451, 20⟩) ⟨451, 4, 451, 20⟩)
    (.cons (.for 12 ⟨452, 8, 452, 18⟩ (.var 4 ⟨452, 22, 452, 32⟩) (.cons (.store (.var 11 ⟨453, 8, 453, 19⟩) (.var 12 ⟨453, 20, 453, 30⟩) ⟨453, 8, 453, 31⟩ (.call "trail_of" (.cons (.var 3 ⟨453, 43, 453, 55⟩) (.cons (.var 12 ⟨453, 57, 453, 67⟩) .nil)) ⟨453, 34, 453, 42⟩ ⟨453, 34, 453, 68⟩) ⟨453, 8, 453, 68⟩)
    (.cons (.ite (.bop .Or (.cons (.not (.isi (.sub (.var 11 ⟨454, 26, 454, 37⟩) (.var 12 ⟨454, 38, 454, 48⟩) ⟨454, 26, 454, 49⟩) .list ⟨454, 15, 454, 25⟩ ⟨454, 51, 454, 55⟩ default default ⟨454, 15, 454, 56⟩) ⟨454, 11, 454, 56⟩) (.cons (.cmp (.blt .len (.cons (.sub (.var 11 ⟨454, 64, 454, 75⟩) (.var 12 ⟨454, 76, 454, 86⟩) ⟨454, 64, 454, 87⟩) .nil) ⟨454, 60, 454, 63⟩ ⟨454, 60, 454, 88⟩) .NotEq (.bin (.blt .len (.cons (.sub (.sub (.var 3 ⟨454, 96, 454, 108⟩) (.var 12 ⟨454, 109, 454, 119⟩) ⟨454, 96, 454, 120⟩) (.lit (.int 2) 0 ⟨454, 121, 454, 122⟩) ⟨454, 96, 454, 123⟩) .nil) ⟨454, 92, 454, 95⟩ ⟨454, 92, 454, 124⟩) .Add (.lit (.int 1) 0 ⟨454, 127, 454, 128⟩) ⟨454, 92, 454, 128⟩) ⟨454, 60, 454, 128⟩) .nil)) ⟨454, 11, 454, 128⟩) (.cons (.ret (.lit (.bool false) 0 ⟨455, 19, 455, 24⟩) ⟨455, 12, 455, 24⟩)
    .nil) .nil ⟨454, 8, 455, 24⟩)
    .nil)) ⟨452, 4, 455, 24⟩)
    (.cons (.assign 13 ⟨456, 4, 456, 13⟩ (.call "height" (.cons (.var 3 ⟨456, 23, 456, 35⟩) (.cons (.var 5 ⟨456, 37, 456, 46⟩) .nil)) ⟨456, 16, 456, 22⟩ ⟨456, 16, 456, 47⟩) ⟨456, 4, 456, 47⟩)
    (.cons (.assign 14 ⟨457, 4, 457, 16⟩ (.new (.cons (.var 3 ⟨457, 27, 457, 39⟩) (.cons (.var 5 ⟨457, 41, 457, 50⟩) (.cons (.blt .list (.cons (.var 9 ⟨457, 57, 457, 67⟩) .nil) ⟨457, 52, 457, 56⟩ ⟨457, 52, 457, 68⟩) .nil))) ⟨457, 19, 457, 26⟩ ⟨457, 19, 457, 69⟩) ⟨457, 4, 457, 69⟩)
    (.cons (.for 15 ⟨458, 8, 458, 17⟩ (.blt .range (.cons (.var 2 ⟨458, 27, 458, 37⟩) .nil) ⟨458, 21, 458, 26⟩ ⟨458, 21, 458, 38⟩) (.cons (.ite (.not (.call "_law_stands" (.cons (.var 14 ⟨459, 27, 459, 39⟩) (.cons (.var 3 ⟨459, 41, 459, 53⟩) (.cons (.var 11 ⟨459, 55, 459, 66⟩) (.cons (.var 10 ⟨459, 68, 459, 80⟩) (.cons (.var 7 ⟨459, 82, 459, 91⟩) .nil))))) ⟨459, 15, 459, 26⟩ ⟨459, 15, 459, 92⟩) ⟨459, 11, 459, 92⟩) (.cons (.ret (.lit (.bool false) 0 ⟨460, 19, 460, 24⟩) ⟨460, 12, 460, 24⟩)
    .nil) .nil ⟨459, 8, 460, 24⟩)
    (.cons (.ite (.bop .And (.cons (.cmp (.var 13 ⟨461, 11, 461, 20⟩) .IsNot (.lit .none 0 ⟨461, 28, 461, 32⟩) ⟨461, 11, 461, 32⟩) (.cons (.cmp (.blt .len (.cons (.attr (.var 14 ⟨461, 41, 461, 53⟩) "stack" ⟨461, 41, 461, 59⟩) .nil) ⟨461, 37, 461, 40⟩ ⟨461, 37, 461, 60⟩) .Gt (.bin (.blt .len (.cons (.var 10 ⟨461, 67, 461, 79⟩) .nil) ⟨461, 63, 461, 66⟩ ⟨461, 63, 461, 80⟩) .Add (.var 13 ⟨461, 83, 461, 92⟩) ⟨461, 63, 461, 92⟩) ⟨461, 37, 461, 92⟩) .nil)) ⟨461, 11, 461, 92⟩) (.cons (.ret (.lit (.bool false) 0 ⟨462, 19, 462, 24⟩) ⟨462, 12, 462, 24⟩)
    .nil) .nil ⟨461, 8, 462, 24⟩)
    (.cons (.ite (.not (.call "_law_step" (.cons (.var 14 ⟨463, 25, 463, 37⟩) .nil) ⟨463, 15, 463, 24⟩ ⟨463, 15, 463, 38⟩) ⟨463, 11, 463, 38⟩) (.cons (.ret (.lit (.bool false) 0 ⟨464, 19, 464, 24⟩) ⟨464, 12, 464, 24⟩)
    .nil) .nil ⟨463, 8, 464, 24⟩)
    .nil))) ⟨458, 4, 464, 24⟩)
    (.cons (.ret (.bop .And (.cons (.call "_law_stands" (.cons (.var 14 ⟨465, 23, 465, 35⟩) (.cons (.var 3 ⟨465, 37, 465, 49⟩) (.cons (.var 11 ⟨465, 51, 465, 62⟩) (.cons (.var 10 ⟨465, 64, 465, 76⟩) (.cons (.var 7 ⟨465, 78, 465, 87⟩) .nil))))) ⟨465, 11, 465, 22⟩ ⟨465, 11, 465, 88⟩) (.cons (.cmp (.umeth (.var 14 ⟨465, 93, 465, 105⟩) "Machine.over" "over" .nil ⟨465, 93, 465, 110⟩ ⟨465, 93, 465, 112⟩) .Eq (.cmp (.blt .len (.cons (.attr (.var 14 ⟨465, 121, 465, 133⟩) "frames" ⟨465, 121, 465, 140⟩) .nil) ⟨465, 117, 465, 120⟩ ⟨465, 117, 465, 141⟩) .Eq (.lit (.int 0) 0 ⟨465, 145, 465, 146⟩) ⟨465, 117, 465, 146⟩) ⟨465, 93, 465, 147⟩) .nil)) ⟨465, 11, 465, 147⟩) ⟨465, 4, 465, 147⟩)
    .nil))))))))))))))
noncomputable def S_law : Scope := {
              kind := PySem.ScopeKind.function,
              names := [
                (PySem.Str.ofString "_law_script", PySem.NameKind.local),
                (PySem.Str.ofString "_law_tape", PySem.NameKind.local),
                (PySem.Str.ofString "_law_steps", PySem.NameKind.local),
                (PySem.Str.ofString "_law_program", PySem.NameKind.local),
                (PySem.Str.ofString "_law_names", PySem.NameKind.local),
                (PySem.Str.ofString "_law_name", PySem.NameKind.local),
                (PySem.Str.ofString "_law_ins", PySem.NameKind.local),
                (PySem.Str.ofString "_law_outs", PySem.NameKind.local),
                (PySem.Str.ofString "_law_rows", PySem.NameKind.local),
                (PySem.Str.ofString "_law_stack", PySem.NameKind.local),
                (PySem.Str.ofString "_law_beneath", PySem.NameKind.local),
                (PySem.Str.ofString "_law_trails", PySem.NameKind.local),
                (PySem.Str.ofString "_law_other", PySem.NameKind.local),
                (PySem.Str.ofString "_law_most", PySem.NameKind.local),
                (PySem.Str.ofString "_law_machine", PySem.NameKind.local),
                (PySem.Str.ofString "_law_turn", PySem.NameKind.local),
                (PySem.Str.ofString "_law_draw", PySem.NameKind.globalImplicit),
                (PySem.Str.ofString "_law_good_program", PySem.NameKind.globalImplicit),
                (PySem.Str.ofString "list", PySem.NameKind.globalImplicit),
                (PySem.Str.ofString "len", PySem.NameKind.globalImplicit),
                (PySem.Str.ofString "_law_on_top", PySem.NameKind.globalImplicit),
                (PySem.Str.ofString "trail_of", PySem.NameKind.globalImplicit),
                (PySem.Str.ofString "isinstance", PySem.NameKind.globalImplicit),
                (PySem.Str.ofString "height", PySem.NameKind.globalImplicit),
                (PySem.Str.ofString "Machine", PySem.NameKind.globalImplicit),
                (PySem.Str.ofString "range", PySem.NameKind.globalImplicit),
                (PySem.Str.ofString "_law_stands", PySem.NameKind.globalImplicit),
                (PySem.Str.ofString "_law_step", PySem.NameKind.globalImplicit)],
              isGenerator := false,
              isCoroutine := false,
              more := [] : PySem.Scope }


end Mine
end
section
open PySem PySem.W PySem.Calls PyProof.Rows
namespace Mine
set_option autoImplicit false
set_option maxRecDepth 100000
noncomputable def clsM0 : ClsRec := (plainsOf _root_.Mine.hd.view_39 _root_.Mine.hd.loos)[0]'(by decide +kernel)
noncomputable def clsM : ClsRec := clsM0.withCmp
theorem clsM_mem : clsM0 ∈ plainsOf _root_.Mine.hd.view_39 (looseW _root_.Mine.hd.view_39 _root_.Mine.hd.loos) := by rw [_root_.Mine.hd.lw]; exact List.getElem_mem _
theorem clsM_name : clsM0.name = "Machine" := by kernel_rfl
theorem clsM_hid : (((["__getattribute__", "__getattr__", "__setattr__"] : List Str) ++ atns).all fun x => clsM.quiet.contains x) = true := by kernel_rfl

theorem R_Machine___init__ : RecM clsM "__init__" B_Machine___init__ N_Machine___init__ S_Machine___init__ 4 := met_of 0 (by kernel_rfl) fun pm code doc => len4 fun v0 v1 v2 v3 => by kernel_rfl
theorem R_Machine_settle : RecM clsM "settle" B_Machine_settle N_Machine_settle S_Machine_settle 1 := met_of 1 (by kernel_rfl) fun pm code doc => len1 fun v0 => by kernel_rfl
theorem R_Machine_over : RecM clsM "over" B_Machine_over N_Machine_over S_Machine_over 1 := met_of 2 (by kernel_rfl) fun pm code doc => len1 fun v0 => by kernel_rfl
theorem R_Machine_goal_of : RecM clsM "goal_of" B_Machine_goal_of N_Machine_goal_of S_Machine_goal_of 2 := met_of 3 (by kernel_rfl) fun pm code doc => len2 fun v0 v1 => by kernel_rfl
theorem R_Machine_step : RecM clsM "step" B_Machine_step N_Machine_step S_Machine_step 1 := met_of 4 (by kernel_rfl) fun pm code doc => len1 fun v0 => by kernel_rfl
theorem R_kinds_of : RecC _root_.Mine.hd.view_39 "kinds_of" B_kinds_of N_kinds_of S_kinds_of 1 := rec_of 0 (by kernel_rfl) fun pm code doc => len1 fun v0 => by kernel_rfl
theorem R_need : RecC _root_.Mine.hd.view_39 "need" B_need N_need S_need 2 := rec_of 1 (by kernel_rfl) fun pm code doc => len2 fun v0 v1 => by kernel_rfl
theorem R_reckoned : RecC _root_.Mine.hd.view_39 "reckoned" B_reckoned N_reckoned S_reckoned 2 := rec_of 2 (by kernel_rfl) fun pm code doc => len2 fun v0 v1 => by kernel_rfl
theorem R_done : RecC _root_.Mine.hd.view_39 "done" B_done N_done S_done 2 := rec_of 3 (by kernel_rfl) fun pm code doc => len2 fun v0 v1 => by kernel_rfl
theorem R_taken : RecC _root_.Mine.hd.view_39 "taken" B_taken N_taken S_taken 2 := rec_of 4 (by kernel_rfl) fun pm code doc => len2 fun v0 v1 => by kernel_rfl
theorem R_block_of : RecC _root_.Mine.hd.view_39 "block_of" B_block_of N_block_of S_block_of 2 := rec_of 5 (by kernel_rfl) fun pm code doc => len2 fun v0 v1 => by kernel_rfl
theorem R_called : RecC _root_.Mine.hd.view_39 "called" B_called N_called S_called 3 := rec_of 6 (by kernel_rfl) fun pm code doc => len3 fun v0 v1 v2 => by kernel_rfl
theorem R_moved : RecC _root_.Mine.hd.view_39 "moved" B_moved N_moved S_moved 2 := rec_of 7 (by kernel_rfl) fun pm code doc => len2 fun v0 v1 => by kernel_rfl
theorem R_behind : RecC _root_.Mine.hd.view_39 "behind" B_behind N_behind S_behind 3 := rec_of 8 (by kernel_rfl) fun pm code doc => len3 fun v0 v1 v2 => by kernel_rfl
theorem R_looked : RecC _root_.Mine.hd.view_39 "looked" B_looked N_looked S_looked 2 := rec_of 9 (by kernel_rfl) fun pm code doc => len2 fun v0 v1 => by kernel_rfl
theorem R_trail_of : RecC _root_.Mine.hd.view_39 "trail_of" B_trail_of N_trail_of S_trail_of 2 := rec_of 10 (by kernel_rfl) fun pm code doc => len2 fun v0 v1 => by kernel_rfl
theorem R_named : RecC _root_.Mine.hd.view_39 "named" B_named N_named S_named 1 := rec_of 11 (by kernel_rfl) fun pm code doc => len1 fun v0 => by kernel_rfl
theorem R_come_to : RecC _root_.Mine.hd.view_39 "come_to" B_come_to N_come_to S_come_to 2 := rec_of 12 (by kernel_rfl) fun pm code doc => len2 fun v0 v1 => by kernel_rfl
theorem R_height_by : RecC _root_.Mine.hd.view_39 "height_by" B_height_by N_height_by S_height_by 3 := rec_of 13 (by kernel_rfl) fun pm code doc => len3 fun v0 v1 v2 => by kernel_rfl
theorem R_height : RecC _root_.Mine.hd.view_39 "height" B_height N_height S_height 2 := rec_of 14 (by kernel_rfl) fun pm code doc => len2 fun v0 v1 => by kernel_rfl
theorem R_law_draw : RecC _root_.Mine.hd.view_39 "_law_draw" B_law_draw N_law_draw S_law_draw 3 := rec_of 15 (by kernel_rfl) fun pm code doc => len3 fun v0 v1 v2 => by kernel_rfl
theorem R_law_words : RecC _root_.Mine.hd.view_39 "_law_words" B_law_words N_law_words S_law_words 2 := rec_of 16 (by kernel_rfl) fun pm code doc => len2 fun v0 v1 => by kernel_rfl
theorem R_law_value : RecC _root_.Mine.hd.view_39 "_law_value" B_law_value N_law_value S_law_value 3 := rec_of 17 (by kernel_rfl) fun pm code doc => len3 fun v0 v1 v2 => by kernel_rfl
theorem R_law_wanted : RecC _root_.Mine.hd.view_39 "_law_wanted" B_law_wanted N_law_wanted S_law_wanted 1 := rec_of 18 (by kernel_rfl) fun pm code doc => len1 fun v0 => by kernel_rfl
theorem R_law_lack : RecC _root_.Mine.hd.view_39 "_law_lack" B_law_lack N_law_lack S_law_lack 2 := rec_of 19 (by kernel_rfl) fun pm code doc => len2 fun v0 v1 => by kernel_rfl
theorem R_law_plainly : RecC _root_.Mine.hd.view_39 "_law_plainly" B_law_plainly N_law_plainly S_law_plainly 2 := rec_of 20 (by kernel_rfl) fun pm code doc => len2 fun v0 v1 => by kernel_rfl
theorem R_law_called : RecC _root_.Mine.hd.view_39 "_law_called" B_law_called N_law_called S_law_called 3 := rec_of 21 (by kernel_rfl) fun pm code doc => len3 fun v0 v1 v2 => by kernel_rfl
theorem R_law_next : RecC _root_.Mine.hd.view_39 "_law_next" B_law_next N_law_next S_law_next 3 := rec_of 22 (by kernel_rfl) fun pm code doc => len3 fun v0 v1 v2 => by kernel_rfl
theorem R_law_plain_row : RecC _root_.Mine.hd.view_39 "_law_plain_row" B_law_plain_row N_law_plain_row S_law_plain_row 2 := rec_of 23 (by kernel_rfl) fun pm code doc => len2 fun v0 v1 => by kernel_rfl
theorem R_law_kinds : RecC _root_.Mine.hd.view_39 "_law_kinds" B_law_kinds N_law_kinds S_law_kinds 2 := rec_of 24 (by kernel_rfl) fun pm code doc => len2 fun v0 v1 => by kernel_rfl
theorem R_law_told : RecC _root_.Mine.hd.view_39 "_law_told" B_law_told N_law_told S_law_told 2 := rec_of 25 (by kernel_rfl) fun pm code doc => len2 fun v0 v1 => by kernel_rfl
theorem R_law_pushes : RecC _root_.Mine.hd.view_39 "_law_pushes" B_law_pushes N_law_pushes S_law_pushes 3 := rec_of 26 (by kernel_rfl) fun pm code doc => len3 fun v0 v1 v2 => by kernel_rfl
theorem R_law_choice : RecC _root_.Mine.hd.view_39 "_law_choice" B_law_choice N_law_choice S_law_choice 5 := rec_of 27 (by kernel_rfl) fun pm code doc => len5 fun v0 v1 v2 v3 v4 => by kernel_rfl
theorem R_law_fitting : RecC _root_.Mine.hd.view_39 "_law_fitting" B_law_fitting N_law_fitting S_law_fitting 5 := rec_of 28 (by kernel_rfl) fun pm code doc => len5 fun v0 v1 v2 v3 v4 => by kernel_rfl
theorem R_law_good_rows : RecC _root_.Mine.hd.view_39 "_law_good_rows" B_law_good_rows N_law_good_rows S_law_good_rows 5 := rec_of 29 (by kernel_rfl) fun pm code doc => len5 fun v0 v1 v2 v3 v4 => by kernel_rfl
theorem R_law_good_program : RecC _root_.Mine.hd.view_39 "_law_good_program" B_law_good_program N_law_good_program S_law_good_program 2 := rec_of 30 (by kernel_rfl) fun pm code doc => len2 fun v0 v1 => by kernel_rfl
theorem R_law_alike : RecC _root_.Mine.hd.view_39 "_law_alike" B_law_alike N_law_alike S_law_alike 2 := rec_of 31 (by kernel_rfl) fun pm code doc => len2 fun v0 v1 => by kernel_rfl
theorem R_law_on_top : RecC _root_.Mine.hd.view_39 "_law_on_top" B_law_on_top N_law_on_top S_law_on_top 3 := rec_of 32 (by kernel_rfl) fun pm code doc => len3 fun v0 v1 v2 => by kernel_rfl
theorem R_law_step : RecC _root_.Mine.hd.view_39 "_law_step" B_law_step N_law_step S_law_step 1 := rec_of 33 (by kernel_rfl) fun pm code doc => len1 fun v0 => by kernel_rfl
theorem R_law_frames : RecC _root_.Mine.hd.view_39 "_law_frames" B_law_frames N_law_frames S_law_frames 2 := rec_of 34 (by kernel_rfl) fun pm code doc => len2 fun v0 v1 => by kernel_rfl
theorem R_law_due : RecC _root_.Mine.hd.view_39 "_law_due" B_law_due N_law_due S_law_due 4 := rec_of 35 (by kernel_rfl) fun pm code doc => len4 fun v0 v1 v2 v3 => by kernel_rfl
theorem R_law_stands : RecC _root_.Mine.hd.view_39 "_law_stands" B_law_stands N_law_stands S_law_stands 5 := rec_of 36 (by kernel_rfl) fun pm code doc => len5 fun v0 v1 v2 v3 v4 => by kernel_rfl
theorem R_law : RecC _root_.Mine.hd.view_39 "law" B_law N_law S_law 1 := rec_of 37 (by kernel_rfl) fun pm code doc => len1 fun v0 => by kernel_rfl
end Mine
end
section
open PySem PySem.W PySem.Calls PyProof.Rows
namespace Mine
set_option autoImplicit false
set_option maxRecDepth 100000
noncomputable def P0 : Params := { strHash := fun _ => 0, shareClass := fun _ => 0, mergeTok := id, idOf := fun _ => 0, idOfShared := fun _ _ => 0, followText := fun _ => false, idOfImm := fun _ => 0 }
noncomputable def csL : List Addr := onms.map fun p => refAt (_root_.Mine.hd.heap_39 P0) p.1
theorem k1 (P : Params) : ((_root_.Mine.hd.heap_39 P).lookup mainGlobals).isSome = true := by kernel_rfl
theorem k3 (P : Params) : excChk (_root_.Mine.hd.heap_39 P) csL = true := by kernel_rfl
theorem k4 (P : Params) : ownChk (_root_.Mine.hd.heap_39 P) csL = true := by kernel_rfl
theorem k5 (P : Params) : bltChk (_root_.Mine.hd.heap_39 P) = true := by kernel_rfl
theorem k6 : ownsChk _root_.Mine.hd.view_39 = true := by kernel_rfl
end Mine
end
section
open PySem PySem.W PySem.Calls PyProof.Rows
namespace Mine
set_option autoImplicit false

abbrev Sp := List PV → AHeap → Post → XPost → Prop
/-! rows, values -/
inductive W where
  | num (i : Int) | text (s : Str) | add | mul | less | join | long | show | swap | drop | copy (n : Nat)
noncomputable def W.row : W → List PV
  | .num i => [.str "num", .int i] | .text s => [.str "text", .str s] | .add => [.str "add"] | .mul => [.str "mul"] | .less => [.str "less"] | .join => [.str "join"] | .long => [.str "long"]
  | .show => [.str "show"] | .swap => [.str "swap"] | .drop => [.str "drop"] | .copy n => [.str "copy", .int n]
noncomputable def W.ok : W → Prop
  | .num i => 0 ≤ i ∧ i < 1000000000 | .text s => s.length ≤ 60 | .copy n => n ≤ 60 | _ => True
noncomputable def Okv (v : PV) : Prop := (∃ i, v = .int i ∧ 0 ≤ i ∧ i < 1000000000) ∨ ∃ s, v = .str s ∧ s.length ≤ 60
noncomputable def kindS : PV → Str
  | .str _ => "text"
  | _ => "num"
noncomputable def wantedS : W → List Str
  | .copy n => List.replicate (n + 1) "" | .add => ["num", "num"] | .mul => ["num", "num"] | .less => ["num", "num"] | .join => ["text", "text"] | .swap => ["", ""] | .long => ["text"] | .show => ["num"] | .drop => [""] | _ => []
noncomputable def lackS (kinds wanted : List Str) : Str :=
  if kinds.length < wanted.length then "empty" else if (wanted.zip (kinds.drop (kinds.length - wanted.length))).any (fun p => !(p.1 == ("" : Str)) && !(p.1 == p.2)) then "kind" else ""
noncomputable def cut60 (s : Str) : Str := ⟨(s.cps.toList.take (cutAt s.length 60)).toArray⟩
noncomputable def wd : W → Str
  | .num _ => "num" | .text _ => "text" | .add => "add" | .mul => "mul" | .less => "less" | .join => "join" | .long => "long" | .show => "show" | .swap => "swap" | .drop => "drop" | .copy _ => "copy"
/-- what a row of two or one makes -/
inductive Cal : W → List PV → PV → Prop
  | add (a b : Int) : Cal .add [.int a, .int b] (.int ((a + b) % 1000000000))
  | mul (a b : Int) : Cal .mul [.int a, .int b] (.int (a * b % 1000000000))
  | less (a b : Int) : Cal .less [.int a, .int b] (.int (if a < b then 1 else 0))
  | join (a b : Str) : Cal .join [.str a, .str b] (.str (cut60 (a ++ b)))
  | long (a : Str) : Cal .long [.str a] (.int a.length)
  | show (a : Int) : Cal .show [.int a] (.str (Str.ofString (toString a)))
noncomputable def takesS : W → Option (List Str)
  | .add => some ["num", "num"] | .mul => some ["num", "num"] | .less => some ["num", "num"] | .join => some ["text", "text"] | .long => some ["text"] | .show => some ["num"] | _ => none
noncomputable def putsS : W → Str
  | .join => "text" | .show => "text" | _ => "num"
/-- what a plain row makes of a stack -/
inductive Res : W → List PV → List PV → Prop
  | num (i : Int) (st : List PV) : Res (.num i) st (st ++ [.int i])
  | text (s : Str) (st : List PV) : Res (.text s) st (st ++ [.str s])
  | copy {n : Nat} (a b : List PV) (v : PV) (h : b.length = n) : Res (.copy n) (a ++ v :: b) (a ++ v :: b ++ [v])
  | swap (st : List PV) (x y : PV) : Res .swap (st ++ [x, y]) (st ++ [y, x])
  | drop (st : List PV) (x : PV) : Res .drop (st ++ [x]) st
  | cal {w : W} {vs : List PV} {v : PV} (st : List PV) (h : Cal w vs v) : Res w (st ++ vs) (st ++ [v])
/-- what it makes of kinds -/
inductive KW : W → List Str → List Str → Prop
  | num (i : Int) (ks : List Str) : KW (.num i) ks (ks ++ [("num" : Str)])
  | text (s : Str) (ks : List Str) : KW (.text s) ks (ks ++ [("text" : Str)])
  | copy {n : Nat} (a b : List Str) (v : Str) (h : b.length = n) : KW (.copy n) (a ++ v :: b) (a ++ v :: b ++ [v])
  | swap (ks : List Str) (x y : Str) : KW .swap (ks ++ [x, y]) (ks ++ [y, x])
  | drop (ks : List Str) (x : Str) : KW .drop (ks ++ [x]) ks
  | tak {w : W} {ts : List Str} (ks : List Str) (h : takesS w = some ts) : KW w (ks ++ ts) (ks ++ [putsS w])
inductive Rw where
  | pl (w : W) | call (n : Str) | iff (n m : Str)
noncomputable def Rw.row : Rw → List PV
  | .pl w => w.row | .call n => [.str "call", .str n] | .iff n m => [.str "if", .str n, .str m]
noncomputable def Rw.ok : Rw → Prop
  | .pl w => w.ok | _ => True
noncomputable def rowsPV (rs : List Rw) : List PV := rs.map fun r => .tup r.row
noncomputable def RsOk (N : Nat) (rs : List Rw) : Prop := (∀ r ∈ rs, r.ok) ∧ rs.length ≤ N
noncomputable def KOk (s : Str) : Prop := s = "num" ∨ s = "text"
abbrev Bl := List Str × List Str × List PV
abbrev Pr := List (Str × Bl)
noncomputable def blk (b : Bl) : PV := .tup (.tup (b.1.map .str) :: .tup (b.2.1.map .str) :: b.2.2)
noncomputable def kvsP (es : Pr) : List (Str × PV) := es.map fun p => (p.1, blk p.2)
noncomputable def BOk (b : Bl) : Prop := (∀ s ∈ b.1, KOk s) ∧ (∀ s ∈ b.2.1, KOk s) ∧ b.1.length ≤ 60 ∧ b.2.1.length ≤ 60
structure POk (es : Pr) : Prop where
  nodup : (es.map (·.1)).Nodup
  name : ∀ p ∈ es, 0 < p.1.length ∧ p.1.length ≤ 200
  blks : ∀ p ∈ es, BOk p.2
  len : es.length ≤ 100
/-- the rows of a program lie in lists -/
noncomputable def RowsP (H : AHeap) (es : Pr) (rw : Str → List Rw) : Prop := ∀ q ∈ es, RsOk 200000 (rw q.1) ∧ ∃ a, q.2.2.2 = [.obj a] ∧ H a = some (.list (rowsPV (rw q.1)))
structure Pg (H : AHeap) (p : Addr) (es : Pr) (rw : Str → List Rw) : Prop where
  ha : H p = some (.dict (kvsP es))
  ok : POk es
  ne : es ≠ []
  rows : RowsP H es rw
noncomputable def prj (x : Str × Bl) : Str × List Str × List Str := (x.1, x.2.1, x.2.2.1)
abbrev nmsP (es : Pr) : List Str := es.map (·.1)
/-- what is told of names -/
abbrev Io := Str → List Str × List Str
noncomputable def ioP (es : Pr) : Io := fun s => match dget es s with | some b => (b.1, b.2.1) | none => ([], [])
inductive KB (ns : List Str) (io : Io) : List Str → Rw → List Str → Prop
  | pl {w : W} {ks ys : List Str} (h : KW w ks ys) : KB ns io ks (.pl w) ys
  | call {n : Str} (l : List Str) (h : n ∈ ns) : KB ns io (l ++ (io n).1) (.call n) (l ++ (io n).2)
  | iff {n m : Str} (l : List Str) (h : n ∈ ns) (h' : m ∈ ns) (e : io m = io n) : KB ns io (l ++ (io n).1 ++ [("num" : Str)]) (.iff n m) (l ++ (io n).2)
inductive Rn (ns : List Str) (io : Io) : List Str → List Rw → List Str → Prop
  | nil {ks : List Str} : Rn ns io ks [] ks
  | cons {ks ys zs : List Str} {r : Rw} {rs : List Rw} (h : ks.length ≤ 100000) (b : KB ns io ks r ys) (t : Rn ns io ys rs zs) : Rn ns io ks (r :: rs) zs
/-- the kinds before each row -/
structure TrOk (ns : List Str) (io : Io) (i : List Str) (rs : List Rw) (o : List Str) (tr : List (List Str)) : Prop where
  len : tr.length = rs.length + 1
  fst : tr[0]? = some i
  lst : tr[rs.length]? = some o
  row : ∀ (k : Nat) r, rs[k]? = some r → ∃ a b, tr[k]? = some a ∧ tr[k + 1]? = some b ∧ a.length ≤ 100000 ∧ KB ns io a r b
noncomputable def Gd (es : Pr) (rw : Str → List Rw) (tr : Str → List (List Str)) : Prop := ∀ s ∈ nmsP es, TrOk (nmsP es) (ioP es) (ioP es s).1 (rw s) (ioP es s).2 (tr s)
noncomputable def trPV (tr : List (List Str)) : List PV := tr.map fun ks => .tup (ks.map .str)
noncomputable def Rw.names : Rw → List Str
  | .pl _ => [] | .call n => [n] | .iff n m => [n, m]
noncomputable def namesOf (rs : List Rw) : List Str := rs.flatMap Rw.names
noncomputable def mx (a b : Int) : Int := if a < b then b else a
/-- what a block may come up to -/
inductive Ctr (tr : List (List Str)) (rs : List Rw) (io : Io) (f : Str → Int) : Int → Prop
  | len {j : Nat} {ks : List Str} (h : tr[j]? = some ks) : Ctr tr rs io f ks.length
  | call {j : Nat} {ks : List Str} {o : Str} (h : tr[j]? = some ks) (r : rs[j]? = some (.call o)) : Ctr tr rs io f (ks.length - (io o).1.length + f o)
  | iff {j : Nat} {ks : List Str} {o o' : Str} (h : tr[j]? = some ks) (r : rs[j]? = some (.iff o o')) : Ctr tr rs io f (ks.length - 1 - (io o).1.length + mx (f o) (f o'))
inductive Hg (io : Io) (rw : Str → List Rw) (tr : Str → List (List Str)) : Str → Int → Prop
  | mk {s : Str} {v : Int} (f : Str → Int) (h : ∀ u ∈ namesOf (rw s), Hg io rw tr u (f u)) (m : ∀ c, Ctr (tr s) (rw s) io f c → c ≤ v) : Hg io rw tr s v
noncomputable def KI (kn : List (Str × Int)) : List (Str × PV) := kn.map fun e => (e.1, .int e.2)
noncomputable def fv (kn : List (Str × Int)) (s : Str) : Int := (dget kn s).getD 0
/-! steps of the machine -/
abbrev Frs := List (Str × Nat)
noncomputable def frPV (fr : Frs) : List PV := fr.map fun f => .tup [.str f.1, .int f.2]
noncomputable def fin (rw : Str → List Rw) (f : Str × Nat) : Bool := f.2 == (rw f.1).length
noncomputable def setl (rw : Str → List Rw) (fr : Frs) : Frs := (fr.reverse.dropWhile (fin rw)).reverse
inductive Eff (ns : List Str) : Rw → List PV → List PV → Frs → Prop
  | pl {w : W} {st ys : List PV} (h : Res w st ys) : Eff ns (.pl w) st ys []
  | call {n : Str} {st : List PV} (h : n ∈ ns) : Eff ns (.call n) st st [(n, 0)]
  | iff {n m : Str} {i : Int} {st : List PV} (h : (if i = 0 then m else n) ∈ ns) : Eff ns (.iff n m) (st ++ [.int i]) st [(if i = 0 then m else n, 0)]
structure FrI (ns : List Str) (rw : Str → List Rw) (m : Nat) (fr : Frs) : Prop where
  names : ∀ f ∈ fr, f.1 ∈ ns ∧ f.2 ≤ (rw f.1).length
  len : fr.length ≤ m
/-- a stack of the machine -/
structure StOk (m : Nat) (st : List PV) : Prop where
  ok : ∀ v ∈ st, Okv v
  len : st.length ≤ m
noncomputable def MA (p sA fA : Addr) : List (Str × PV) := [("program", .obj p), ("stack", .obj sA), ("frames", .obj fA)]
inductive Mch (H : AHeap) (a d p : Addr) (st : List PV) (fr : Frs) : Prop
  | mk (sA fA : Addr) (ha : H a = some (.inst d)) (hd : H d = some (.attrs (MA p sA fA))) (hs : H sA = some (.list st)) (hf : H fA = some (.list (frPV fr))) : Mch H a d p st fr
/-- the kinds beneath the topmost frame -/
inductive Und (io : Io) (rw : Str → List Rw) (tr : Str → List (List Str)) (n0 : Str) : Frs → List Str → Str → Prop
  | nil : Und io rw tr n0 [] [] n0
  | snoc {fr : Frs} {ds pre : List Str} {n n' : Str} {k : Nat} (u : Und io rw tr n0 fr ds n) (h : (tr n)[k]? = some (pre ++ (io n').2)) (hv : ∀ v, Hg io rw tr n v → ∃ v', Hg io rw tr n' v' ∧ (pre.length : Int) + v' ≤ v) : Und io rw tr n0 (fr ++ [(n, k)]) (ds ++ pre) n'
inductive Sd (io : Io) (rw : Str → List Rw) (tr : Str → List (List Str)) (n0 : Str) : Frs → List Str → Prop
  | fin : Sd io rw tr n0 [] (io n0).2
  | top {fr : Frs} {ds l : List Str} {n : Str} {k : Nat} (u : Und io rw tr n0 fr ds n) (h : (tr n)[k]? = some l) : Sd io rw tr n0 (fr ++ [(n, k)]) (ds ++ l)
/-- the trails that the law keeps -/
noncomputable def Trs (H : AHeap) (g : Addr) (ns : List Str) (tr : Str → List (List Str)) : Prop := ∃ kvs, H g = some (.dict kvs) ∧ ∀ s ∈ ns, ∃ a, dget kvs s = some (.obj a) ∧ H a = some (.list (trPV (tr s)))
inductive spDraw (ps : List PV) (H : AHeap) (Q : Post) (_ : XPost) : Prop
  | mk (xs) (t) (k) (n) (a0 : ps = [.fls xs, .obj t, .int k]) (a1 : xs.length ≤ 100) (a2 : H t = some (.tape n)) (a3 : n < 2 ^ 59) (a4 : 0 < k) (a5 : ∀ r H', 0 ≤ r → r < k → H' t = some (.tape (n + 1)) → ExtB t H H' → Q (.int r) H')
inductive spWords (ps : List PV) (H : AHeap) (Q : Post) (_ : XPost) : Prop
  | mk (c) (n) (a0 : ps = [.int c, .int n]) (a1 : 0 ≤ n) (a2 : n ≤ 100) (a3 : ∀ s H', s.length = n.toNat → Ext H H' → Q (.str s) H')
inductive spValue (ps : List PV) (H : AHeap) (Q : Post) (_ : XPost) : Prop
  | mk (xs : List Int) (t : Addr) (kd : Str) (n : Nat) (a0 : ps = [.fls xs, .obj t, .str kd]) (a1 : xs.length ≤ 100) (a2 : H t = some (.tape n)) (a3 : n < 2 ^ 58) (a4 : ∀ v H', Okv v → kindS v = (if kd == "text" then "text" else "num") → H' t = some (.tape (n + 2)) → ExtB t H H' → Q v H')
inductive spWanted (ps : List PV) (H : AHeap) (Q : Post) (_ : XPost) : Prop
  | mk (w : W) (a0 : ps = [.tup w.row]) (a1 : w.ok) (a2 : ∀ c H', H c = none → H' c = some (.list ((wantedS w).map .str)) → Ext H H' → Q (.obj c) H')
inductive spLack (ps : List PV) (H : AHeap) (Q : Post) (_ : XPost) : Prop
  | mk (a b : Addr) (ks ws : List Str) (a0 : ps = [.obj a, .obj b]) (a1 : H a = some (.list (ks.map .str))) (a2 : H b = some (.list (ws.map .str))) (a3 : ks.length ≤ 100000) (a4 : ws.length ≤ 1000) (a5 : Q (.str (lackS ks ws)) H)
inductive spPlainly (ps : List PV) (H : AHeap) (Q : Post) (_ : XPost) : Prop
  | mk (a : Addr) (ks ys : List Str) (w : W) (a0 : ps = [.obj a, .tup w.row]) (a1 : w.ok) (a2 : H a = some (.list (ks.map .str))) (a3 : ks.length ≤ 100000) (a4 : KW w ks ys) (a5 : ∀ c H', H c = none → H' c = some (.list (ys.map .str)) → Ext H H' → Q (.obj c) H')
inductive spLCalled (ps : List PV) (H : AHeap) (Q : Post) (_ : XPost) : Prop
  | mk (p a : Addr) (es : Pr) (l : List Str) (n : Str) (b : Bl) (a0 : ps = [.obj p, .obj a, .str n]) (a1 : H p = some (.dict (kvsP es))) (a2 : POk es) (a3 : H a = some (.list ((l ++ b.1).map .str))) (a4 : (l ++ b.1).length ≤ 100000) (a5 : dget es n = some b) (a6 : ∀ c H', H c = none → H' c = some (.list ((l ++ b.2.1).map .str)) → Ext H H' → Q (.tup [.str "", .obj c]) H')
inductive spNext (ps : List PV) (H : AHeap) (Q : Post) (_ : XPost) : Prop
  | mk (p a : Addr) (es : Pr) (ks ys : List Str) (r : Rw) (a0 : ps = [.obj p, .obj a, .tup r.row]) (a1 : H p = some (.dict (kvsP es))) (a2 : POk es) (a3 : r.ok) (a4 : H a = some (.list (ks.map .str))) (a5 : ks.length ≤ 100000) (b1 : KB (nmsP es) (ioP es) ks r ys) (a6 : ∀ c H', H c = none → H' c = some (.list (ys.map .str)) → Ext H H' → Q (.tup [.str "", .obj c]) H')
inductive spPlain (ps : List PV) (H : AHeap) (Q : Post) (_ : XPost) : Prop
  | mk (xs) (t) (n) (a0 : ps = [.fls xs, .obj t]) (a1 : xs.length ≤ 100) (a2 : H t = some (.tape n)) (a3 : n < 2 ^ 57) (a4 : ∀ (w : W) n' H', w.ok → n' ≤ n + 3 → H' t = some (.tape n') → ExtB t H H' → Q (.tup w.row) H')
inductive spKindsT (ps : List PV) (H : AHeap) (Q : Post) (_ : XPost) : Prop
  | mk (xs) (t) (n) (a0 : ps = [.fls xs, .obj t]) (a1 : xs.length ≤ 100) (a2 : H t = some (.tape n)) (a3 : n < 2 ^ 57) (a4 : ∀ (ks : List Str) n' H', ks.length ≤ 60 → (∀ s ∈ ks, KOk s) → n' ≤ n + 100 → H' t = some (.tape n') → ExtB t H H' → Q (.tup (ks.map .str)) H')
inductive spTold (ps : List PV) (H : AHeap) (Q : Post) (_ : XPost) : Prop
  | mk (xs) (t) (n) (a0 : ps = [.fls xs, .obj t]) (a1 : xs.length ≤ 100) (a2 : H t = some (.tape n)) (a3 : n < 2 ^ 50) (a4 : ∀ (p : Addr) (es : Pr) n' H', POk es → es ≠ [] → (∀ q ∈ es, q.2.2.2 = []) → H p = none → H' p = some (.dict (kvsP es)) → n' ≤ n + 10000 → H' t = some (.tape n') → ExtB t H H' → Q (.obj p) H')
/-- a row of kinds, in a tuple or a list -/
noncomputable def SrcK (H : AHeap) (v : PV) (ss : List Str) : Prop := v = .tup (ss.map .str) ∨ ∃ a, v = .obj a ∧ H a = some (.list (ss.map .str))
/-- names of blocks -/
structure NamesAt (H : AHeap) (a : Addr) (es : Pr) (ns : List Str) : Prop where
  ha : H a = some (.list (ns.map .str))
  nm : ∀ s ∈ ns, s ∈ nmsP es
  len : ns.length ≤ 100
inductive spPushes (ps : List PV) (H : AHeap) (Q : Post) (_ : XPost) : Prop
  | mk (xs) (t) (n) (v) (ss) (a0 : ps = [.fls xs, .obj t, v]) (a1 : xs.length ≤ 100) (a2 : H t = some (.tape n)) (a3 : n < 2 ^ 56) (a4 : SrcK H v ss) (a5 : ∀ s ∈ ss, KOk s) (a6 : ss.length ≤ 100) (a7 : ∀ (c : Addr) (rs : List Rw) (n' : Nat) (H' : AHeap), RsOk 100 rs → (∀ ns io ks, ks.length ≤ 99000 → Rn ns io ks rs (ks ++ ss)) → n' ≤ n + 200 → H c = none → H' c = some (.list (rowsPV rs)) → H' t = some (.tape n') → ExtB t H H' → Q (.obj c) H')
inductive spRows (lo : List Str → Prop) (B D : Nat) (ps : List PV) (H : AHeap) (Q : Post) (_ : XPost) : Prop
  | mk (xs : List Int) (t p a k : Addr) (n : Nat) (es : Pr) (ns ks : List Str) (a0 : ps = [.fls xs, .obj t, .obj p, .obj a, .obj k]) (a1 : xs.length ≤ 100) (a2 : H t = some (.tape n)) (a3 : n < B) (a4 : H p = some (.dict (kvsP es))) (a5 : POk es) (a6 : ∀ q ∈ es, q.2.2.2 = []) (a7 : NamesAt H a es ns) (a8 : lo ns) (a9 : H k = some (.list (ks.map .str))) (a10 : ks.length ≤ 90000) (a11 : ∀ (c : Addr) (rs : List Rw) (zs : List Str) (n' : Nat) (H' : AHeap), RsOk 110 rs → Rn (nmsP es) (ioP es) ks rs zs → zs.length ≤ ks.length + 200 → n' ≤ n + D → H c = none → H' c = some (.list (rowsPV rs)) → H' t = some (.tape n') → ExtB t H H' → Q (.obj c) H')
noncomputable def spChoice : Sp := spRows (fun ns => ns ≠ []) (2 ^ 54) 390
noncomputable def spFitting : Sp := spRows (fun _ => True) (2 ^ 53) 400
inductive spGoodRows (ps : List PV) (H : AHeap) (Q : Post) (_ : XPost) : Prop
  | mk (xs : List Int) (t p a : Addr) (n : Nat) (es : Pr) (ns : List Str) (nm : Str) (i o : List Str) (a0 : ps = [.fls xs, .obj t, .obj p, .str nm, .obj a]) (a1 : xs.length ≤ 100) (a2 : H t = some (.tape n)) (a3 : n < 2 ^ 52) (a4 : H p = some (.dict (kvsP es))) (a5 : POk es) (a6 : ∀ q ∈ es, q.2.2.2 = []) (a7 : NamesAt H a es ns) (a8 : dget es nm = some (i, o, [])) (a9 : ∀ (c : Addr) (rs : List Rw) (n' : Nat) (H' : AHeap), RsOk 200000 rs → Rn (nmsP es) (ioP es) i rs o → n' ≤ n + 5000 → H c = none → H' c = some (.list (rowsPV rs)) → H' t = some (.tape n') → ExtB t H H' → Q (.obj c) H')
inductive spGoodProgram (ps : List PV) (H : AHeap) (Q : Post) (_ : XPost) : Prop
  | mk (xs) (t) (n) (a0 : ps = [.fls xs, .obj t]) (a1 : xs.length ≤ 100) (a2 : H t = some (.tape n)) (a3 : n < 2 ^ 49) (a4 : ∀ (p : Addr) (es : Pr) (rw : Str → List Rw) n' H', Pg H' p es rw → (∀ s ∈ nmsP es, Rn (nmsP es) (ioP es) (ioP es s).1 (rw s) (ioP es s).2) → n' ≤ n + 1000000 → H' t = some (.tape n') → Q (.obj p) H')
inductive spNeed (ps : List PV) (H : AHeap) (Q : Post) (_ : XPost) : Prop
  | mk (a) (st) (k) (a0 : ps = [.obj a, .int k]) (a1 : H a = some (.list st)) (a2 : k ≤ st.length) (a3 : Q .none H)
inductive spKinds (ps : List PV) (H : AHeap) (Q : Post) (_ : XPost) : Prop
  | mk (a) (st) (a0 : ps = [.obj a]) (a1 : H a = some (.list st)) (a2 : ∀ v ∈ st, Okv v) (a3 : st.length ≤ 1000) (a4 : ∀ H', Ext H H' → Q (.tup ((st.map kindS).map .str)) H')
inductive spReck (ps : List PV) (H : AHeap) (Q : Post) (_ : XPost) : Prop
  | mk (w : W) (a : Addr) (vs : List PV) (v : PV) (a0 : ps = [.str (wd w), .obj a]) (a1 : H a = some (.list vs)) (a2 : ∀ x ∈ vs, Okv x) (a3 : Cal w vs v) (a4 : Q v H)
inductive spDone (ps : List PV) (H : AHeap) (Q : Post) (_ : XPost) : Prop
  | mk (a) (st ys) (w) (a0 : ps = [.obj a, .tup (W.row w)]) (a1 : w.ok) (a2 : H a = some (.list st)) (a3 : StOk 900 st) (a4 : Res w st ys) (a5 : ∀ c H', H c = none → H' c = some (.list ys) → Ext H H' → Q (.obj c) H')
inductive spSettle (ps : List PV) (H : AHeap) (Q : Post) (_ : XPost) : Prop
  | mk (a d p : Addr) (st : List PV) (fr : Frs) (es : Pr) (rw : Str → List Rw) (a0 : ps = [.obj a]) (a1 : Mch H a d p st fr) (a2 : Pg H p es rw) (a3 : ∀ f ∈ fr, f.1 ∈ nmsP es) (a5 : ∀ H', Mch H' a d p st (setl rw fr) → ExtB d H H' → Q .none H')
inductive spInit (ps : List PV) (H : AHeap) (Q : Post) (_ : XPost) : Prop
  | mk (a d p s : Addr) (n : Str) (st : List PV) (es : Pr) (rw : Str → List Rw) (a0 : ps = [.obj a, .obj p, .str n, .obj s]) (a1 : H a = some (.inst d)) (a2 : H d = some (.attrs [])) (a3 : Pg H p es rw) (a6 : H s = some (.list st)) (b1 : n ∈ nmsP es) (a7 : ∀ H', Mch H' a d p st (setl rw [(n, 0)]) → ExtB d H H' → Q .none H')
inductive spOver (ps : List PV) (H : AHeap) (Q : Post) (_ : XPost) : Prop
  | mk (a d p : Addr) (st : List PV) (fr : Frs) (a0 : ps = [.obj a]) (a1 : Mch H a d p st fr) (a2 : Q (.bool fr.isEmpty) H)
inductive spGoalOf (ps : List PV) (H : AHeap) (Q : Post) (_ : XPost) : Prop
  | mk (a d p : Addr) (st : List PV) (fr : Frs) (es : Pr) (rw : Str → List Rw) (r : Rw) (st' : List PV) (g : Str) (a0 : ps = [.obj a, .tup r.row]) (a1 : Mch H a d p st fr) (a2 : Pg H p es rw) (a3 : Eff (nmsP es) r st st' [(g, 0)]) (b1 : StOk 900 st) (a4 : ∀ H', Ext H H' → Q (.str g) H')
inductive spStep (ps : List PV) (H : AHeap) (Q : Post) (X : XPost) : Prop
  | over (a d p : Addr) (st : List PV) (a0 : ps = [.obj a]) (a1 : Mch H a d p st []) (a4 : Q .none H) : spStep ps H Q X
  | mk (a d p : Addr) (st st' : List PV) (pre more : Frs) (n : Str) (k : Nat) (r : Rw) (es : Pr) (rw : Str → List Rw) (a0 : ps = [.obj a]) (a1 : Mch H a d p st (pre ++ [(n, k)])) (a2 : Pg H p es rw) (a3 : FrI (nmsP es) rw 900 (pre ++ [(n, k)])) (b1 : StOk 900 st) (b2 : (rw n)[k]? = some r) (b3 : Eff (nmsP es) r st st' more) (a4 : ∀ H', Mch H' a d p st' (setl rw (pre ++ [(n, k + 1)] ++ more)) → ExtB d H H' → Q .none H') : spStep ps H Q X
inductive spTaken (ps : List PV) (H : AHeap) (Q : Post) (_ : XPost) : Prop
  | mk (l ts : List Str) (a0 : ps = [.tup (l.map .str ++ ts.map .str), .tup (ts.map .str)]) (a1 : (l ++ ts).length ≤ 200000) (a2 : Q (.tup (l.map .str)) H)
inductive spBlockOf (ps : List PV) (H : AHeap) (Q : Post) (_ : XPost) : Prop
  | mk (p : Addr) (es : Pr) (n : Str) (b : Bl) (a0 : ps = [.obj p, .str n]) (a1 : H p = some (.dict (kvsP es))) (a2 : dget es n = some b) (a3 : Q (blk b) H)
inductive spCalled (ps : List PV) (H : AHeap) (Q : Post) (_ : XPost) : Prop
  | mk (p : Addr) (es : Pr) (l : List Str) (n : Str) (b : Bl) (a0 : ps = [.obj p, .tup ((l ++ b.1).map .str), .str n]) (a1 : H p = some (.dict (kvsP es))) (a2 : POk es) (a3 : (l ++ b.1).length ≤ 200000) (a4 : dget es n = some b) (a5 : Q (.tup ((l ++ b.2.1).map .str)) H)
inductive spMoved (ps : List PV) (H : AHeap) (Q : Post) (_ : XPost) : Prop
  | mk (ks ys : List Str) (w : W) (a0 : ps = [.tup (ks.map .str), .tup w.row]) (a1 : w.ok) (a2 : ks.length ≤ 200000) (a3 : takesS w = none ∧ KW w ks ys ∧ (w = .swap ∨ w = .drop ∨ ∃ n, w = .copy n)) (a4 : ∀ H', Ext H H' → Q (.tup (ys.map .str)) H')
inductive spBehind (ps : List PV) (H : AHeap) (Q : Post) (_ : XPost) : Prop
  | mk (p : Addr) (es : Pr) (ks ys : List Str) (r : Rw) (a0 : ps = [.obj p, .tup (ks.map .str), .tup r.row]) (a1 : H p = some (.dict (kvsP es))) (a2 : POk es) (a3 : r.ok) (a4 : ks.length ≤ 100000) (b1 : KB (nmsP es) (ioP es) ks r ys) (a5 : ∀ H', Ext H H' → Q (.tup (ys.map .str)) H')
inductive spLooked (ps : List PV) (H : AHeap) (Q : Post) (_ : XPost) : Prop
  | mk (p : Addr) (es : Pr) (rw : Str → List Rw) (tr : Str → List (List Str)) (nm : Str) (a0 : ps = [.obj p, .str nm]) (a1 : Pg H p es rw) (a2 : Gd es rw tr) (a3 : nm ∈ nmsP es) (a5 : ∀ c H', H c = none → H' c = some (.list (trPV (tr nm))) → Ext H H' → Q (.tup [.obj c, .none]) H')
inductive spTrailOf (ps : List PV) (H : AHeap) (Q : Post) (_ : XPost) : Prop
  | mk (p : Addr) (es : Pr) (rw : Str → List Rw) (tr : Str → List (List Str)) (nm : Str) (a0 : ps = [.obj p, .str nm]) (a1 : Pg H p es rw) (a2 : Gd es rw tr) (a3 : nm ∈ nmsP es) (a5 : ∀ c H', H c = none → H' c = some (.list (trPV (tr nm))) → Ext H H' → Q (.obj c) H')
inductive spNamed (ps : List PV) (H : AHeap) (Q : Post) (_ : XPost) : Prop
  | mk (a : Addr) (rs : List Rw) (a0 : ps = [.obj a]) (a1 : H a = some (.list (rowsPV rs))) (a2 : rs.length ≤ 200000) (a4 : ∀ c H', H c = none → H' c = some (.list ((namesOf rs).map .str)) → Ext H H' → Q (.obj c) H')
inductive spComeTo (ps : List PV) (H : AHeap) (Q : Post) (_ : XPost) : Prop
  | mk (p : Addr) (es : Pr) (rw : Str → List Rw) (tr : Str → List (List Str)) (nm : Str) (a0 : ps = [.obj p, .str nm]) (a1 : Pg H p es rw) (a2 : Gd es rw tr) (a3 : nm ∈ nmsP es) (a6 : ∀ c (ms : List Str) H', H c = none → H' c = some (.list (ms.map .str)) → ms.length ≤ 100 → nm ∈ ms → (∀ s ∈ ms, s ∈ nmsP es) → Ext H H' → Q (.obj c) H')
inductive spHeightBy (ps : List PV) (H : AHeap) (Q : Post) (_ : XPost) : Prop
  | mk (p : Addr) (es : Pr) (rw : Str → List Rw) (tr : Str → List (List Str)) (nm : Str) (k : Addr) (kn : List (Str × Int)) (a0 : ps = [.obj p, .str nm, .obj k]) (a1 : Pg H p es rw) (a2 : Gd es rw tr) (a3 : nm ∈ nmsP es) (a4 : H k = some (.dict (KI kn))) (a5 : ∀ u ∈ namesOf (rw nm), (dget kn u).isSome = true) (a6 : ∀ v H', (∀ c, Ctr (tr nm) (rw nm) (ioP es) (fv kn) c → c ≤ v) → Ext H H' → Q (.int v) H')
inductive spHeight (ps : List PV) (H : AHeap) (Q : Post) (_ : XPost) : Prop
  | mk (p : Addr) (es : Pr) (rw : Str → List Rw) (tr : Str → List (List Str)) (nm : Str) (a0 : ps = [.obj p, .str nm]) (a1 : Pg H p es rw) (a2 : Gd es rw tr) (a3 : nm ∈ nmsP es) (a6 : ∀ v H', Hg (ioP es) rw tr nm v → Ext H H' → Q (.int v) H') (a7 : ∀ H', Ext H H' → Q .none H')
inductive spAlike (ps : List PV) (H : AHeap) (Q : Post) (_ : XPost) : Prop
  | mk (a b : Addr) (st : List PV) (a0 : ps = [.obj a, .obj b]) (a1 : H a = some (.list st)) (a2 : H b = some (.list st)) (a3 : StOk 1000 st) (a4 : Q (.bool true) H)
inductive spOnTop (ps : List PV) (H : AHeap) (Q : Post) (_ : XPost) : Prop
  | mk (xs) (t) (n) (ks : List Str) (a0 : ps = [.fls xs, .obj t, .tup (ks.map .str)]) (a1 : xs.length ≤ 100) (a2 : H t = some (.tape n)) (a3 : n < 2 ^ 51) (a4 : ks.length ≤ 60) (b1 : ∀ s ∈ ks, KOk s) (a5 : ∀ (c : Addr) (lo hi : List PV) (n' : Nat) (H' : AHeap), StOk 200 (lo ++ hi) → hi.map kindS = ks → n' ≤ n + 1000 → H c = none → H' c = some (.list (lo ++ hi)) → H' t = some (.tape n') → ExtB t H H' → Q (.obj c) H')
inductive spLStep (ps : List PV) (H : AHeap) (Q : Post) (X : XPost) : Prop
  | over (a d p : Addr) (st : List PV) (a0 : ps = [.obj a]) (a1 : Mch H a d p st []) (a4 : Q (.bool true) H) : spLStep ps H Q X
  | mk (a d p : Addr) (st st' : List PV) (pre more : Frs) (n : Str) (k : Nat) (r : Rw) (es : Pr) (rw : Str → List Rw) (a0 : ps = [.obj a]) (a1 : Mch H a d p st (pre ++ [(n, k)])) (a2 : Pg H p es rw) (a3 : FrI (nmsP es) rw 900 (pre ++ [(n, k)])) (b1 : StOk 900 st) (b2 : (rw n)[k]? = some r) (b3 : Eff (nmsP es) r st st' more) (a4 : ∀ H', Mch H' a d p st' (setl rw (pre ++ [(n, k + 1)] ++ more)) → ExtB d H H' → Q (.bool true) H') : spLStep ps H Q X
inductive spFrames (ps : List PV) (H : AHeap) (Q : Post) (_ : XPost) : Prop
  | mk (a d p : Addr) (st : List PV) (fr : Frs) (es : Pr) (rw : Str → List Rw) (a0 : ps = [.obj a, .obj p]) (a1 : Mch H a d p st fr) (a2 : Pg H p es rw) (a3 : FrI (nmsP es) rw 900 fr) (a4 : Q (.bool true) H)
inductive spDue (ps : List PV) (H : AHeap) (Q : Post) (_ : XPost) : Prop
  | mk (a d p : Addr) (st : List PV) (fr : Frs) (es : Pr) (rw : Str → List Rw) (tr : Str → List (List Str)) (n0 : Str) (ks : List Str) (g : Addr) (a0 : ps = [.obj a, .obj p, .obj g, .tup ((ioP es n0).2.map .str)]) (a1 : Mch H a d p st fr) (a2 : Pg H p es rw) (a3 : FrI (nmsP es) rw 900 fr) (b1 : Gd es rw tr) (b2 : Sd (ioP es) rw tr n0 fr ks) (b3 : Trs H g (nmsP es) tr) (b4 : ks.length ≤ 900) (a4 : ∀ c H', H c = none → H' c = some (.list (ks.map .str)) → Ext H H' → Q (.obj c) H')
inductive spStands (ps : List PV) (H : AHeap) (Q : Post) (_ : XPost) : Prop
  | mk (a d p : Addr) (st : List PV) (fr : Frs) (es : Pr) (rw : Str → List Rw) (tr : Str → List (List Str)) (n0 : Str) (ks : List Str) (g : Addr) (b : Addr) (lo hi : List PV) (a0 : ps = [.obj a, .obj p, .obj g, .obj b, .tup ((ioP es n0).2.map .str)]) (a1 : Mch H a d p st fr) (a2 : Pg H p es rw) (a3 : FrI (nmsP es) rw 900 fr) (b1 : Gd es rw tr) (b2 : Sd (ioP es) rw tr n0 fr ks) (b3 : Trs H g (nmsP es) tr) (b4 : StOk 900 st) (b5 : st = lo ++ hi) (b6 : hi.map kindS = ks) (b7 : H b = some (.list lo)) (a4 : ∀ H', Ext H H' → Q (.bool true) H')
inductive spLaw (ps : List PV) (_ : AHeap) (Q : Post) (_ : XPost) : Prop
  | mk (xs) (a0 : ps = [.fls xs]) (a1 : xs.length ≤ 100) (a2 : ∀ H', Q (.bool true) H')
noncomputable def sps : List (Str × Sp) := ([("_law_draw", spDraw), ("_law_words", spWords), ("_law_value", spValue), ("_law_wanted", spWanted), ("_law_lack", spLack), ("_law_plainly", spPlainly), ("_law_called", spLCalled), ("_law_next", spNext), ("_law_plain_row", spPlain), ("_law_kinds", spKindsT), ("_law_told", spTold), ("_law_pushes", spPushes), ("_law_choice", spChoice), ("_law_fitting", spFitting), ("_law_good_rows", spGoodRows), ("_law_good_program", spGoodProgram), ("need", spNeed), ("kinds_of", spKinds), ("reckoned", spReck), ("done", spDone), ("Machine.settle", spSettle)] : List (Str × Sp)) ++ ([("Machine.__init__", spInit), ("Machine.over", spOver), ("Machine.goal_of", spGoalOf), ("Machine.step", spStep), ("taken", spTaken), ("block_of", spBlockOf), ("called", spCalled), ("moved", spMoved), ("behind", spBehind), ("looked", spLooked), ("trail_of", spTrailOf), ("named", spNamed), ("come_to", spComeTo), ("height_by", spHeightBy), ("height", spHeight), ("_law_alike", spAlike), ("_law_on_top", spOnTop), ("_law_step", spLStep), ("_law_frames", spFrames), ("_law_due", spDue), ("_law_stands", spStands), ("law", spLaw)] : List (Str × Sp))
noncomputable def takes01 : List (Str × List Str) := [("add", ["num", "num"]), ("mul", ["num", "num"]), ("less", ["num", "num"]), ("join", ["text", "text"]), ("long", ["text"]), ("show", ["num"])]
noncomputable def puts01 : List (Str × Str) := [("add", "num"), ("mul", "num"), ("less", "num"), ("join", "text"), ("long", "num"), ("show", "text")]
noncomputable abbrev takesV : PV := .fdt (takes01.map fun e => (e.1, .tup (e.2.map .str)))
noncomputable def cons01 : List (Str × PV) := [("TAKES_rows", takesV), ("TAKES_kinds", takesV), ("PUTS", .fdt (puts01.map fun e => (e.1, .str e.2))), ("BOUND", .int 1000000000), ("LONGEST", .int 60)]
@[irreducible] noncomputable def c01 : CallSpec := fun f => (sps.lookup f).getD fun _ _ _ _ => False
@[irreducible] noncomputable def k01 (x : Str) : Option PV := cons01.lookup x
noncomputable def g01 : Gl := ⟨c01, k01⟩
theorem U_draw {ps : List PV} {H : AHeap} {Q : Post} {X : XPost} (h : spDraw ps H Q X) : g01.C "_law_draw" ps H Q X := by
  delta g01 c01; exact h
theorem U_words {ps : List PV} {H : AHeap} {Q : Post} {X : XPost} (h : spWords ps H Q X) : g01.C "_law_words" ps H Q X := by
  delta g01 c01; exact h
theorem U_value {ps : List PV} {H : AHeap} {Q : Post} {X : XPost} (h : spValue ps H Q X) : g01.C "_law_value" ps H Q X := by
  delta g01 c01; exact h
theorem U_wanted {ps : List PV} {H : AHeap} {Q : Post} {X : XPost} (h : spWanted ps H Q X) : g01.C "_law_wanted" ps H Q X := by
  delta g01 c01; exact h
theorem U_lack {ps : List PV} {H : AHeap} {Q : Post} {X : XPost} (h : spLack ps H Q X) : g01.C "_law_lack" ps H Q X := by
  delta g01 c01; exact h
theorem U_plainly {ps : List PV} {H : AHeap} {Q : Post} {X : XPost} (h : spPlainly ps H Q X) : g01.C "_law_plainly" ps H Q X := by
  delta g01 c01; exact h
theorem U_lcalled {ps : List PV} {H : AHeap} {Q : Post} {X : XPost} (h : spLCalled ps H Q X) : g01.C "_law_called" ps H Q X := by
  delta g01 c01; exact h
theorem U_next {ps : List PV} {H : AHeap} {Q : Post} {X : XPost} (h : spNext ps H Q X) : g01.C "_law_next" ps H Q X := by
  delta g01 c01; exact h
theorem U_plain {ps : List PV} {H : AHeap} {Q : Post} {X : XPost} (h : spPlain ps H Q X) : g01.C "_law_plain_row" ps H Q X := by
  delta g01 c01; exact h
theorem U_kindst {ps : List PV} {H : AHeap} {Q : Post} {X : XPost} (h : spKindsT ps H Q X) : g01.C "_law_kinds" ps H Q X := by
  delta g01 c01; exact h
theorem U_told {ps : List PV} {H : AHeap} {Q : Post} {X : XPost} (h : spTold ps H Q X) : g01.C "_law_told" ps H Q X := by
  delta g01 c01; exact h
theorem U_pushes {ps : List PV} {H : AHeap} {Q : Post} {X : XPost} (h : spPushes ps H Q X) : g01.C "_law_pushes" ps H Q X := by
  delta g01 c01; exact h
theorem U_choice {ps : List PV} {H : AHeap} {Q : Post} {X : XPost} (h : spChoice ps H Q X) : g01.C "_law_choice" ps H Q X := by
  delta g01 c01; exact h
theorem U_fitting {ps : List PV} {H : AHeap} {Q : Post} {X : XPost} (h : spFitting ps H Q X) : g01.C "_law_fitting" ps H Q X := by
  delta g01 c01; exact h
theorem U_goodrows {ps : List PV} {H : AHeap} {Q : Post} {X : XPost} (h : spGoodRows ps H Q X) : g01.C "_law_good_rows" ps H Q X := by
  delta g01 c01; exact h
theorem U_goodprogram {ps : List PV} {H : AHeap} {Q : Post} {X : XPost} (h : spGoodProgram ps H Q X) : g01.C "_law_good_program" ps H Q X := by
  delta g01 c01; exact h
theorem U_need {ps : List PV} {H : AHeap} {Q : Post} {X : XPost} (h : spNeed ps H Q X) : g01.C "need" ps H Q X := by
  delta g01 c01; exact h
theorem U_kinds {ps : List PV} {H : AHeap} {Q : Post} {X : XPost} (h : spKinds ps H Q X) : g01.C "kinds_of" ps H Q X := by
  delta g01 c01; exact h
theorem U_reck {ps : List PV} {H : AHeap} {Q : Post} {X : XPost} (h : spReck ps H Q X) : g01.C "reckoned" ps H Q X := by
  delta g01 c01; exact h
theorem U_done {ps : List PV} {H : AHeap} {Q : Post} {X : XPost} (h : spDone ps H Q X) : g01.C "done" ps H Q X := by
  delta g01 c01; exact h
theorem U_settle {ps : List PV} {H : AHeap} {Q : Post} {X : XPost} (h : spSettle ps H Q X) : g01.C "Machine.settle" ps H Q X := by
  delta g01 c01; exact h
theorem U_init {ps : List PV} {H : AHeap} {Q : Post} {X : XPost} (h : spInit ps H Q X) : g01.C "Machine.__init__" ps H Q X := by
  delta g01 c01; exact h
theorem U_over {ps : List PV} {H : AHeap} {Q : Post} {X : XPost} (h : spOver ps H Q X) : g01.C "Machine.over" ps H Q X := by
  delta g01 c01; exact h
theorem U_goalof {ps : List PV} {H : AHeap} {Q : Post} {X : XPost} (h : spGoalOf ps H Q X) : g01.C "Machine.goal_of" ps H Q X := by
  delta g01 c01; exact h
theorem U_step {ps : List PV} {H : AHeap} {Q : Post} {X : XPost} (h : spStep ps H Q X) : g01.C "Machine.step" ps H Q X := by
  delta g01 c01; exact h
theorem U_taken {ps : List PV} {H : AHeap} {Q : Post} {X : XPost} (h : spTaken ps H Q X) : g01.C "taken" ps H Q X := by
  delta g01 c01; exact h
theorem U_blockof {ps : List PV} {H : AHeap} {Q : Post} {X : XPost} (h : spBlockOf ps H Q X) : g01.C "block_of" ps H Q X := by
  delta g01 c01; exact h
theorem U_called {ps : List PV} {H : AHeap} {Q : Post} {X : XPost} (h : spCalled ps H Q X) : g01.C "called" ps H Q X := by
  delta g01 c01; exact h
theorem U_moved {ps : List PV} {H : AHeap} {Q : Post} {X : XPost} (h : spMoved ps H Q X) : g01.C "moved" ps H Q X := by
  delta g01 c01; exact h
theorem U_behind {ps : List PV} {H : AHeap} {Q : Post} {X : XPost} (h : spBehind ps H Q X) : g01.C "behind" ps H Q X := by
  delta g01 c01; exact h
theorem U_looked {ps : List PV} {H : AHeap} {Q : Post} {X : XPost} (h : spLooked ps H Q X) : g01.C "looked" ps H Q X := by
  delta g01 c01; exact h
theorem U_trailof {ps : List PV} {H : AHeap} {Q : Post} {X : XPost} (h : spTrailOf ps H Q X) : g01.C "trail_of" ps H Q X := by
  delta g01 c01; exact h
theorem U_named {ps : List PV} {H : AHeap} {Q : Post} {X : XPost} (h : spNamed ps H Q X) : g01.C "named" ps H Q X := by
  delta g01 c01; exact h
theorem U_cometo {ps : List PV} {H : AHeap} {Q : Post} {X : XPost} (h : spComeTo ps H Q X) : g01.C "come_to" ps H Q X := by
  delta g01 c01; exact h
theorem U_heightby {ps : List PV} {H : AHeap} {Q : Post} {X : XPost} (h : spHeightBy ps H Q X) : g01.C "height_by" ps H Q X := by
  delta g01 c01; exact h
theorem U_height {ps : List PV} {H : AHeap} {Q : Post} {X : XPost} (h : spHeight ps H Q X) : g01.C "height" ps H Q X := by
  delta g01 c01; exact h
theorem U_alike {ps : List PV} {H : AHeap} {Q : Post} {X : XPost} (h : spAlike ps H Q X) : g01.C "_law_alike" ps H Q X := by
  delta g01 c01; exact h
theorem U_ontop {ps : List PV} {H : AHeap} {Q : Post} {X : XPost} (h : spOnTop ps H Q X) : g01.C "_law_on_top" ps H Q X := by
  delta g01 c01; exact h
theorem U_lstep {ps : List PV} {H : AHeap} {Q : Post} {X : XPost} (h : spLStep ps H Q X) : g01.C "_law_step" ps H Q X := by
  delta g01 c01; exact h
theorem U_frames {ps : List PV} {H : AHeap} {Q : Post} {X : XPost} (h : spFrames ps H Q X) : g01.C "_law_frames" ps H Q X := by
  delta g01 c01; exact h
theorem U_due {ps : List PV} {H : AHeap} {Q : Post} {X : XPost} (h : spDue ps H Q X) : g01.C "_law_due" ps H Q X := by
  delta g01 c01; exact h
theorem U_stands {ps : List PV} {H : AHeap} {Q : Post} {X : XPost} (h : spStands ps H Q X) : g01.C "_law_stands" ps H Q X := by
  delta g01 c01; exact h
theorem U_law {ps : List PV} {H : AHeap} {Q : Post} {X : XPost} (h : spLaw ps H Q X) : g01.C "law" ps H Q X := by
  delta g01 c01; exact h
theorem G_takes : g01.G "TAKES_rows" = some takesV := by delta g01 k01; rfl
theorem G_takesk : g01.G "TAKES_kinds" = some takesV := by delta g01 k01; rfl
theorem G_puts : g01.G "PUTS" = some (.fdt (puts01.map fun e => (e.1, .str e.2))) := by delta g01 k01; rfl
theorem G_bound : g01.G "BOUND" = some (.int 1000000000) := by delta g01 k01; rfl
theorem G_longest : g01.G "LONGEST" = some (.int 60) := by delta g01 k01; rfl
noncomputable def Ver (sp : Sp) (B : ASs) (nm : List Str) (np : Nat) : Prop := ∀ {ps : List PV} {H : AHeap} {Q : Post} {X : XPost}, sp ps H Q X → ps.length = np ∧ awpSs g01 B (fun _ H => Q .none H) Q (fun c _ H => X c H) (initL nm np ps) H
theorem draw_ok : Ver spDraw B_law_draw N_law_draw 3 := by
  intro ps H Q X h
  obtain ⟨xs, t, k, n, rfl, hl, ht, hn, hk, hQ⟩ := h
  have hB : (2 : Nat) ^ 59 = 576460752303423488 := by decide
  have hB' : (2 : Nat) ^ 60 = 1152921504606846976 := by decide
  refine ⟨rfl, ?_⟩
  refine O_subTape ht ?_
  refine O_storeT ht (by first | decide | lia | omega) fun H₁ h₁ e₁ => ?_
  have e : ((n : Int) + 1).toNat = n + 1 := by first | decide | lia | omega
  rw [e] at h₁
  refine O_subTape h₁ ?_
  refine O_ite (fun _ => ?_) (fun _ => ?_)
  · rename_i hle
    simp only [decide_eq_true_eq] at hle
    have hlt : n < xs.length := by first | decide | lia | omega
    refine O_subTape h₁ ?_
    refine O_subFls (itemAt_nat (n := n) (by first | decide | lia | omega) (List.getElem?_eq_getElem hlt)) ?_
    refine O_modI hk ?_
    exact hQ _ _ (mod_lt hk).1 (mod_lt hk).2 h₁ e₁
  · refine O_toF fun c H₂ hc h₂ e₂ => ?_
    refine O_itL h₂ ?_
    refine forW_ind (fun ys m H => H = H₂ ∧ (∃ zs : List Int, ys = zs.map .int) ∧ ∃ seed x4, 0 ≤ seed ∧ seed < 1000003 ∧ m = [some (.fls xs), some (.obj t), some (.int k), some (.int seed), x4]) ?_ ?_ _ _ _ ⟨rfl, ⟨_, rfl⟩, xs.length, none, by first | decide | lia | omega, by first | decide | lia | omega, rfl⟩
    · rintro m H ⟨rfl, _, seed, x4, s0, s1, rfl⟩
      refine ⟨h₂, ?_⟩
      refine O_subTape (e₂.at h₁) ?_
      refine O_subTape (e₂.at h₁) ?_
      refine O_mulI (by first | decide | lia | omega) ?_
      refine O_mulI (by first | decide | lia | omega) ?_
      refine O_modI hk ?_
      exact hQ _ _ (mod_lt hk).1 (mod_lt hk).2 (e₂.at h₁) (e₁.trans (e₂.toB t))
    · rintro y ys m H ⟨rfl, ⟨zs, hz⟩, seed, x4, s0, s1, rfl⟩
      refine ⟨h₂, fun K hK => ?_⟩
      cases zs with
      | nil => cases hz
      | cons z zs =>
        cases hz
        refine O_mulI (by first | decide | lia | omega) ?_
        exact hK _ _ ⟨rfl, ⟨zs, rfl⟩, _, some (.int z), (mod_lt (by first | decide | lia | omega)).1, (mod_lt (by first | decide | lia | omega)).2, rfl⟩
theorem forR {st : PV → (Loc → AHeap → Prop) → Loc → AHeap → Prop} {N : Loc → AHeap → Prop} {n : Nat} (I : Nat → Loc → AHeap → Prop) (h0 : ∀ m H, I n m H → N m H)
    (h1 : ∀ j m H, j < n → I j m H → ∀ K : Loc → AHeap → Prop, (∀ m' H', I (j + 1) m' H' → K m' H') → st (.int j) K m H) (m : Loc) (H : AHeap) (hi : I 0 m H) :
    forW (fun _ => True) st N ((List.range n).map fun (i : Nat) => PV.int i) m H := by
  refine forW_ind (fun rest m H => ∃ j, j ≤ n ∧ rest = ((List.range n).drop j).map (fun (i : Nat) => PV.int i) ∧ I j m H) ?_ ?_ _ _ _ ⟨0, by first | decide | lia | omega, rfl, hi⟩
  · rintro m H ⟨j, hj, hr, h⟩
    have hl := congrArg List.length hr
    simp at hl
    have : j = n := by first | decide | lia | omega
    subst this
    exact ⟨trivial, h0 _ _ h⟩
  · rintro x xs m H ⟨j, hj, hr, h⟩
    refine ⟨trivial, fun K hK => ?_⟩
    have hjl : j < n := by
      apply Classical.byContradiction
      intro q
      rw [List.drop_eq_nil_of_le (by simp; first | lia | omega)] at hr
      cases hr
    have hd : (List.range n).drop j = j :: (List.range n).drop (j + 1) := by
      rw [List.drop_eq_getElem_cons (by simpa using hjl)]; simp
    rw [hd] at hr
    cases hr
    exact h1 j m H hjl h K fun m' H' h' => hK _ _ ⟨j + 1, by first | decide | lia | omega, rfl, h'⟩
theorem W_cut {g : Gl} {N : NPost} {R : Post} {X : SXPost} {m : Loc} {H : AHeap} {s : AS} {ss : ASs} (P : NPost) (h1 : ∀ K : NPost, (∀ m H, P m H → K m H) → awpS g s K R X m H) (h2 : ∀ m H, P m H → awpSs g ss N R X m H) :
    awpSs g (.cons s ss) N R X m H := h1 _ h2
theorem ExtB.over {H H₁ H₂ : AHeap} {t c : Addr} (hc : H c = none) (e : ExtB t H H₁) (b : ExtB c H₁ H₂) : ExtB t H H₂ := fun x o n h => b x o (ne_of h hc) (e x o n h)
theorem cut_nat {L n : Nat} {z : Int} (hz : z = n) (h : n ≤ L) : cutAt L z = n := by subst hz; unfold cutAt; rw [if_pos (by first | decide | lia | omega)]; first | lia | omega
theorem okv_num {v : PV} (h : Okv v) (k : kindS v = "num") : ∃ i, v = .int i ∧ 0 ≤ i ∧ i < 1000000000 := by
  rcases h with h | ⟨s, rfl, _⟩
  · exact h
  · exact absurd (show ("text" : Str) = "num" from k) (by decide +kernel)
theorem Ext.none_of {H H' : AHeap} {c : Addr} (e : Ext H H') (h : H' c = none) : H c = none := by
  cases q : H c with
  | none => rfl
  | some v => rw [e.at q] at h; cases h
end Mine
end
section
open PySem PySem.W PySem.Calls PyProof.Rows
namespace Mine
set_option autoImplicit false

theorem words_ok : Ver spWords B_law_words N_law_words 2 := by
  intro ps H Q X h
  have hL : LIM = 1048576 := rfl
  obtain ⟨c, n, rfl, n0, n1, hQ⟩ := h
  refine ⟨rfl, ?_⟩
  refine O_addS' (by decide +kernel) fun S hS => ?_
  have hl : S.length = 94 := by rw [hS]; decide +kernel
  clear hS
  refine O_recvS ?_
  refine O_range (by first | decide | lia | omega) ?_
  refine compW_ind (fun rest acc H' => H' = H ∧ (∃ ks : List Nat, rest = ks.map (fun (i : Nat) => PV.int i) ∧ ∀ k ∈ ks, k < 1000) ∧ ∃ ss : List Str, acc = ss.map .str ∧ (∀ s ∈ ss, s.length = 1) ∧ ss.length + rest.length = n.toNat) ?_ ?_ _ _ _
    ⟨rfl, ⟨List.range n.toNat, rfl, fun k hk => by rw [List.mem_range] at hk; first | lia | omega⟩, [], rfl, by simp, by simp⟩
  · rintro acc H' ⟨rfl, _, ss, rfl, h1, h2⟩
    refine ⟨trivial, fun a H₁ ha h₁ e₁ => ?_⟩
    have h3 : ss.length = n.toNat := by simpa using h2
    refine O_join h₁ (by decide +kernel) (by rw [sum_ones ss h1]; first | lia | omega) ?_
    exact hQ _ _ (by rw [join_len (by decide +kernel) ss h1, h3]) e₁
  · rintro x xs acc H' ⟨rfl, ⟨ks, hk, hks⟩, ss, rfl, h1, h2⟩
    refine ⟨trivial, fun K hK => ?_⟩
    cases ks with
    | nil => cases hk
    | cons k ks =>
      cases hk
      have hk1 := hks k (by simp)
      refine O_divI (by first | decide | lia | omega) (by first | decide | lia | omega) ?_
      refine O_mulI (by first | decide | lia | omega) ?_
      obtain ⟨y, hy, ly⟩ := sign_at (s := S) (i := (c / ((k : Int) + 1) + 5 * (k : Int)) % 94) (mod_lt (by first | decide | lia | omega)).1 (by rw [hl]; exact (mod_lt (by first | decide | lia | omega)).2)
      refine O_subS (by first | decide | lia | omega) hy ?_
      refine hK _ _ ⟨rfl, ⟨ks, rfl, fun k hk => hks k (by simp [hk])⟩, ss ++ [y], by simp, fun s hs => ?_, by simp at h2 ⊢; first | lia | omega⟩
      rcases List.mem_append.mp hs with hs | hs
      · exact h1 s hs
      · rw [List.mem_singleton.mp hs]; exact ly
theorem value_ok : Ver spValue B_law_value N_law_value 3 := by
  intro ps H Q X h
  obtain ⟨xs, t, kd, n, rfl, hx, ht, hn, hQ⟩ := h
  have hB : (2 : Nat) ^ 58 = 288230376151711744 := by decide
  have hB' : (2 : Nat) ^ 59 = 576460752303423488 := by decide
  refine ⟨rfl, ?_⟩
  refine U_draw ?_
  refine ⟨xs, t, _, n, rfl, hx, ht, by first | exact bd0 hn (by decide) | exact bd1 hn (by decide) | exact bd2 hn (by assumption) (by decide) | exact bd3 hn (by assumption) (by decide) | decide | lia | omega, by first | exact bd0 hn (by decide) | exact bd1 hn (by decide) | exact bd2 hn (by assumption) (by decide) | exact bd3 hn (by assumption) (by decide) | decide | lia | omega, fun cell H₁ c0 c1 h₁ e₁ => ?_⟩
  refine U_draw ?_
  refine ⟨xs, t, _, n + 1, rfl, hx, h₁, by first | exact bd0 hn (by decide) | exact bd1 hn (by decide) | exact bd2 hn (by assumption) (by decide) | exact bd3 hn (by assumption) (by decide) | decide | lia | omega, by first | exact bd0 hn (by decide) | exact bd1 hn (by decide) | exact bd2 hn (by assumption) (by decide) | exact bd3 hn (by assumption) (by decide) | decide | lia | omega, fun way H₂ w0 w1 h₂ e₂ => ?_⟩
  have e₁₂ := e₁.trans e₂
  have word : ∀ (k : Int), 0 ≤ k → k ≤ 60 → (kd == "text") = true → g01.C "_law_words" [.int cell, .int k] H₂ Q (fun c H => X c H) := fun k k0 k1 hk => by
    refine U_words ?_
    refine ⟨cell, k, rfl, k0, by first | decide | lia | omega, fun s H₃ hs e₃ => ?_⟩
    exact hQ _ _ (.inr ⟨s, rfl, by first | decide | lia | omega⟩) (by rw [hk]; rfl) (e₃.at h₂) (e₁₂.trans (e₃.toB t))
  have num : ∀ (k : Int), 0 ≤ k → k < 1000000000 → ¬ (kd == "text") = true → Q (.int k) H₂ := fun k k0 k1 hk => by
    exact hQ _ _ (.inl ⟨k, rfl, k0, k1⟩) (by rw [if_neg hk]; rfl) h₂ e₁₂
  refine O_ite (fun _ => ?_) (fun _ => ?_)
  · rename_i hk
    refine O_ite (fun _ => ?_) (fun _ => ?_)
    · have := mod_lt (a := cell) (k := 3) (by first | decide | lia | omega)
      exact word _ (by first | decide | lia | omega) (by first | decide | lia | omega) hk
    · have := mod_lt (a := cell / 94) (k := 8) (by first | decide | lia | omega)
      exact word _ (by first | decide | lia | omega) (by first | decide | lia | omega) hk
  · rename_i hk
    refine O_ite (fun _ => ?_) (fun _ => ?_)
    · have := mod_lt (a := cell) (k := 3) (by first | decide | lia | omega)
      exact num _ (by first | decide | lia | omega) (by first | decide | lia | omega) hk
    · refine O_ite (fun _ => ?_) (fun _ => ?_)
      · have := mod_lt (a := cell) (k := 4) (by first | decide | lia | omega)
        exact num _ (by first | decide | lia | omega) (by first | decide | lia | omega) hk
      · exact num _ c0 c1 hk
end Mine
end
section
open PySem PySem.W PySem.Calls PyProof.Rows
namespace Mine
set_option autoImplicit false

theorem lack_kind {ks ws : List Str} {i : Nat} {x y : Str} (hl : ws.length ≤ ks.length) (hi : ws[i]? = some x) (hj : ks[ks.length - ws.length + i]? = some y) (hx : x ≠ "") (hy : x ≠ y) : lackS ks ws = "kind" := by
  unfold lackS
  rw [if_neg (by first | decide | lia | omega), if_pos]
  rw [List.any_eq_true]
  refine ⟨(x, y), ?_, by simp [hx, hy]⟩
  refine List.mem_of_getElem? (i := i) ?_
  rw [List.getElem?_zip_eq_some]
  exact ⟨hi, by rw [List.getElem?_drop]; exact hj⟩
theorem lack_none {ks ws : List Str} (hl : ws.length ≤ ks.length) (h : ∀ (i : Nat) (x y : Str), ws[i]? = some x → ks[ks.length - ws.length + i]? = some y → x = "" ∨ x = y) : lackS ks ws = "" := by
  unfold lackS
  rw [if_neg (by first | decide | lia | omega), if_neg]
  rw [List.any_eq_true]
  rintro ⟨⟨x, y⟩, hm, hp⟩
  obtain ⟨i, hi⟩ := List.mem_iff_getElem?.mp hm
  rw [List.getElem?_zip_eq_some, List.getElem?_drop] at hi
  rcases h i x y hi.1 hi.2 with e | e <;> simp [e] at hp
theorem lack_ok : Ver spLack B_law_lack N_law_lack 2 := by
  intro ps H Q X h
  have hL : LIM = 1048576 := rfl
  obtain ⟨a, b, ks, ws, rfl, ha, hb, lk, lw, hQ⟩ := h
  refine ⟨rfl, ?_⟩
  refine O_lenL ha ?_
  refine O_lenL hb ?_
  refine O_ite (fun _ => ?_) (fun _ => ?_)
  · rename_i hlt
    have : lackS ks ws = "empty" := by unfold lackS; rw [if_pos (by simp at hlt; first | lia | omega)]
    rw [this] at hQ; exact hQ
  · rename_i hge
    have hle : ws.length ≤ ks.length := by simp at hge; first | lia | omega
    refine O_lenL ha ?_
    refine O_lenL hb ?_
    refine O_lenL hb ?_
    refine O_range (by first | omega | (rw [List.length_map]; first | lia | omega)) ?_
    simp only [List.length_map, Int.toNat_natCast]
    refine forW_ind (fun rest m H' => H' = H ∧ ∃ j x3, rest = ((List.range ws.length).drop j).map (fun (i : Nat) => PV.int i) ∧ (∀ (i : Nat) (x y : Str), i < j → ws[i]? = some x → ks[ks.length - ws.length + i]? = some y → x = "" ∨ x = y) ∧ m = [some (.obj a), some (.obj b), some (.int ((ks.length : Int) - (ws.length : Int))), x3]) ?_ ?_ _ _ _ ⟨rfl, 0, none, rfl, fun _ _ _ h => by first | decide | lia | omega, rfl⟩
    · rintro m H' ⟨rfl, j, x3, hr, hj, rfl⟩
      refine ⟨trivial, ?_⟩
      have hjl : ws.length ≤ j := by
        have := congrArg List.length hr
        simp at this; first | lia | omega
      rw [lack_none hle fun i x y hi hy => hj i x y (by have := (List.getElem?_eq_some_iff.mp hi).1; first | lia | omega) hi hy] at hQ
      exact hQ
    · rintro v rest m H' ⟨rfl, j, x3, hr, hj, rfl⟩
      refine ⟨trivial, fun K hK => ?_⟩
      have hjl : j < ws.length := by
        apply Classical.byContradiction
        intro q
        rw [List.drop_eq_nil_of_le (by simp; first | lia | omega)] at hr
        cases hr
      have hd : (List.range ws.length).drop j = j :: (List.range ws.length).drop (j + 1) := by
        rw [List.drop_eq_getElem_cons (by simpa using hjl)]; simp
      rw [hd] at hr
      cases hr
      have hws : (ws.map PV.str)[j]? = some (.str ws[j]) := by simp [hjl]
      have hlow : ks.length - ws.length + j < ks.length := by first | decide | lia | omega
      have hks : (ks.map PV.str)[ks.length - ws.length + j]? = some (.str ks[ks.length - ws.length + j]) := by simp [hlow]
      have cont : ws[j] = "" ∨ ws[j] = ks[ks.length - ws.length + j] → K [some (.obj a), some (.obj b), some (.int ((ks.length : Int) - (ws.length : Int))), some (.int j)] H' := fun hc => by
        refine hK _ _ ⟨rfl, j + 1, _, rfl, fun i x y hi hx hy => ?_, rfl⟩
        by_cases q : i = j
        · subst q
          rw [List.getElem?_eq_getElem hjl] at hx
          rw [List.getElem?_eq_getElem hlow] at hy
          cases hx; cases hy; exact hc
        · exact hj i x y (by first | decide | lia | omega) hx hy
      refine O_subL hb (itemAt_nat rfl hws) ?_
      refine O_ite (fun _ => ?_) (fun _ => ?_)
      · rename_i h1
        refine O_subL hb (itemAt_nat rfl hws) ?_
        refine O_subL ha (itemAt_nat (n := ks.length - ws.length + j) (by first | decide | lia | omega) hks) ?_
        refine O_ite (fun _ => ?_) (fun _ => ?_)
        · rename_i h2
          rw [lack_kind hle (List.getElem?_eq_getElem hjl) (List.getElem?_eq_getElem hlow) (by simpa using h1) (by simpa using h2)] at hQ
          exact hQ
        · rename_i h2
          exact cont (.inr (by simpa using h2))
      · rename_i h1
        exact cont (.inl (by simpa using h1))
theorem wanted_ok : Ver spWanted B_law_wanted N_law_wanted 1 := by
  intro ps H Q X h
  have hL : LIM = 1048576 := rfl
  obtain ⟨w, rfl, hw, hQ⟩ := h
  refine ⟨rfl, ?_⟩
  cases w with
  | copy n =>
    have hn : n ≤ 60 := hw
    refine fun c H₁ hc h₁ e₁ => ?_
    refine O_mulL h₁ (by first | decide | lia | omega) (by first | decide | lia | omega) (by simp; first | lia | omega) fun d H₂ hd h₂ e₂ => ?_
    have hd0 : H d = none := by
      cases q : H d with
      | none => rfl
      | some o => rw [e₁.at q] at hd; cases hd
    refine hQ _ _ hd0 ?_ (e₁.trans e₂)
    rw [h₂]
    have : ((n : Int) + 1).toNat = n + 1 := by first | decide | lia | omega
    unfold repL
    rw [this]
    have e : ∀ k : Nat, (List.replicate k [PV.str ""]).flatten = (List.replicate k ("" : Str)).map PV.str := fun k => by
      induction k with
      | zero => rfl
      | succ k ih => rw [List.replicate_succ, List.flatten_cons, ih]; rfl
    rw [e]; rfl
  | _ =>
    refine fun c H₁ hc h₁ e₁ => ?_
    refine fun d H₂ hd h₂ e₂ => ?_
    have hc₂ := e₂.at h₁
    have fr : ∀ x, H₂ x = none → H x = none := fun x hx => by
      cases q : H x with
      | none => rfl
      | some o => rw [e₂.at (e₁.at q)] at hx; cases hx
    refine O_inD hc₂ ?_
    try first
      | (refine O_subD hc₂ rfl ?_
         refine O_subD hc₂ rfl ?_)
      | (refine O_inD h₂ ?_
         try refine O_subD h₂ rfl ?_)
    refine fun b H₃ hb h₃ e₃ => ?_
    exact hQ _ _ (fr b hb) h₃ ((e₁.trans e₂).trans e₃)
theorem wanted_copy (n : Nat) : (wantedS (.copy n)).length = n + 1 := List.length_replicate
theorem wanted_len {w : W} (h : w.ok) : (wantedS w).length ≤ 61 := by
  cases w with
  | copy n => rw [wanted_copy]; exact Nat.succ_le_succ h
  | _ => exact Nat.le_of_ble_eq_true rfl
theorem okv_text {v : PV} (h : Okv v) (k : kindS v = "text") : ∃ s, v = .str s ∧ s.length ≤ 60 := by
  rcases h with ⟨i, rfl, _⟩ | h
  · exact absurd (show ("num" : Str) = "text" from k) (by decide +kernel)
  · exact h
theorem copy_at {d z : Int} (d0 : 0 ≤ d) (d1 : d < 61) (z0 : 0 ≤ z) (z1 : z < 8) : ∃ k : Int, itemAt [PV.int 0, PV.int 0, PV.int 1, PV.int 1, PV.int 2, PV.int 3, PV.int d, PV.int 60] z = some (.int k) ∧ 0 ≤ k ∧ k ≤ 60 := by
  have : z = 0 ∨ z = 1 ∨ z = 2 ∨ z = 3 ∨ z = 4 ∨ z = 5 ∨ z = 6 ∨ z = 7 := by first | decide | lia | omega
  rcases this with rfl | rfl | rfl | rfl | rfl | rfl | rfl | rfl
  · exact ⟨0, rfl, by first | decide | lia | omega, by first | decide | lia | omega⟩
  · exact ⟨0, rfl, by first | decide | lia | omega, by first | decide | lia | omega⟩
  · exact ⟨1, rfl, by first | decide | lia | omega, by first | decide | lia | omega⟩
  · exact ⟨1, rfl, by first | decide | lia | omega, by first | decide | lia | omega⟩
  · exact ⟨2, rfl, by first | decide | lia | omega, by first | decide | lia | omega⟩
  · exact ⟨3, rfl, by first | decide | lia | omega, by first | decide | lia | omega⟩
  · exact ⟨d, rfl, d0, by first | decide | lia | omega⟩
  · exact ⟨60, rfl, by first | decide | lia | omega, by first | decide | lia | omega⟩
theorem some_copy {r : Int} (h0 : 10 ≤ r) (h1 : r < 13) : itemAt [PV.str "num", PV.str "text", PV.str "add", PV.str "mul", PV.str "less", PV.str "join", PV.str "long", PV.str "show", PV.str "swap", PV.str "drop", PV.str "copy", PV.str "copy", PV.str "copy"] r = some (.str "copy") := by
  have : r = 10 ∨ r = 11 ∨ r = 12 := by first | decide | lia | omega
  rcases this with rfl | rfl | rfl <;> rfl
theorem some_plain {r : Int} (h0 : 2 ≤ r) (h1 : r < 10) : ∃ w : W, w.ok ∧ itemAt [PV.str "num", PV.str "text", PV.str "add", PV.str "mul", PV.str "less", PV.str "join", PV.str "long", PV.str "show", PV.str "swap", PV.str "drop", PV.str "copy", PV.str "copy", PV.str "copy"] r = some (.str (wd w)) ∧ w.row = [.str (wd w)] ∧ (wd w == ("num" : Str)) = false ∧ (wd w == ("text" : Str)) = false ∧ (wd w == ("copy" : Str)) = false := by
  have : r = 2 ∨ r = 3 ∨ r = 4 ∨ r = 5 ∨ r = 6 ∨ r = 7 ∨ r = 8 ∨ r = 9 := by first | decide | lia | omega
  rcases this with rfl | rfl | rfl | rfl | rfl | rfl | rfl | rfl
  · exact ⟨.add, trivial, rfl, rfl, by decide +kernel, by decide +kernel, by decide +kernel⟩
  · exact ⟨.mul, trivial, rfl, rfl, by decide +kernel, by decide +kernel, by decide +kernel⟩
  · exact ⟨.less, trivial, rfl, rfl, by decide +kernel, by decide +kernel, by decide +kernel⟩
  · exact ⟨.join, trivial, rfl, rfl, by decide +kernel, by decide +kernel, by decide +kernel⟩
  · exact ⟨.long, trivial, rfl, rfl, by decide +kernel, by decide +kernel, by decide +kernel⟩
  · exact ⟨.show, trivial, rfl, rfl, by decide +kernel, by decide +kernel, by decide +kernel⟩
  · exact ⟨.swap, trivial, rfl, rfl, by decide +kernel, by decide +kernel, by decide +kernel⟩
  · exact ⟨.drop, trivial, rfl, rfl, by decide +kernel, by decide +kernel, by decide +kernel⟩
theorem plain_ok : Ver spPlain B_law_plain_row N_law_plain_row 2 := by
  intro ps H Q X h
  obtain ⟨xs, t, n, rfl, hx, ht, hn, hQ⟩ := h
  have hB : (2 : Nat) ^ 57 = 144115188075855872 := by decide
  have hB1 : (2 : Nat) ^ 58 = 288230376151711744 := by decide
  have hB' : (2 : Nat) ^ 59 = 576460752303423488 := by decide
  refine ⟨rfl, ?_⟩
  refine fun c H₁ hc h₁ e₁ => ?_
  refine U_draw ?_
  refine ⟨xs, t, _, n, rfl, hx, e₁.at ht, by first | exact bd0 hn (by decide) | exact bd1 hn (by decide) | exact bd2 hn (by assumption) (by decide) | exact bd3 hn (by assumption) (by decide) | decide | lia | omega, by first | exact bd0 hn (by decide) | exact bd1 hn (by decide) | exact bd2 hn (by assumption) (by decide) | exact bd3 hn (by assumption) (by decide) | decide | lia | omega, fun r H₂ r0 r1 h₂ e₂ => ?_⟩
  have htc : t ≠ c := ne_of ht hc
  have hc₂ := e₂.at (Ne.symm htc) h₁
  have e₁₂ : ExtB t H H₂ := (e₁.toB t).trans e₂
  have plain : ∀ w : W, w.ok → Q (.tup w.row) H₂ := fun w hw => hQ w _ _ hw (by first | decide | lia | omega) h₂ e₁₂
  have hr : r = 0 ∨ r = 1 ∨ 10 ≤ r ∨ (2 ≤ r ∧ r < 10) := by first | decide | lia | omega
  rcases hr with rfl | rfl | hr | hr
  · refine O_subL hc₂ (itemAt_nat (n := 0) rfl rfl) ?_
    refine U_value ?_
    refine ⟨xs, t, _, n + 1, rfl, hx, h₂, by first | exact bd0 hn (by decide) | exact bd1 hn (by decide) | exact bd2 hn (by assumption) (by decide) | exact bd3 hn (by assumption) (by decide) | decide | lia | omega, fun v H₃ hv hk h₃ e₃ => ?_⟩
    obtain ⟨i, rfl, i0, i1⟩ := okv_num hv (by rw [hk]; decide +kernel)
    exact hQ (.num i) _ _ ⟨i0, i1⟩ (by first | decide | lia | omega) h₃ (e₁₂.trans e₃)
  · refine O_subL hc₂ (itemAt_nat (n := 1) rfl rfl) ?_
    refine U_value ?_
    refine ⟨xs, t, _, n + 1, rfl, hx, h₂, by first | exact bd0 hn (by decide) | exact bd1 hn (by decide) | exact bd2 hn (by assumption) (by decide) | exact bd3 hn (by assumption) (by decide) | decide | lia | omega, fun v H₃ hv hk h₃ e₃ => ?_⟩
    obtain ⟨s, rfl, hs⟩ := okv_text hv (by rw [hk]; decide +kernel)
    exact hQ (.text s) _ _ hs (by first | decide | lia | omega) h₃ (e₁₂.trans e₃)
  · refine O_subL hc₂ (some_copy hr r1) ?_
    refine U_draw ?_
    refine ⟨xs, t, _, n + 1, rfl, hx, h₂, by first | exact bd0 hn (by decide) | exact bd1 hn (by decide) | exact bd2 hn (by assumption) (by decide) | exact bd3 hn (by assumption) (by decide) | decide | lia | omega, by first | exact bd0 hn (by decide) | exact bd1 hn (by decide) | exact bd2 hn (by assumption) (by decide) | exact bd3 hn (by assumption) (by decide) | decide | lia | omega, fun d H₃ d0 d1 h₃ e₃ => ?_⟩
    refine fun b H₄ hb h₄ e₄ => ?_
    refine U_draw ?_
    refine ⟨xs, t, _, n + 2, rfl, hx, e₄.at h₃, by first | exact bd0 hn (by decide) | exact bd1 hn (by decide) | exact bd2 hn (by assumption) (by decide) | exact bd3 hn (by assumption) (by decide) | decide | lia | omega, by first | exact bd0 hn (by decide) | exact bd1 hn (by decide) | exact bd2 hn (by assumption) (by decide) | exact bd3 hn (by assumption) (by decide) | decide | lia | omega, fun z H₅ z0 z1 h₅ e₅ => ?_⟩
    have hb₅ := e₅.at (Ne.symm (ne_of h₃ hb)) h₄
    have e₁₅ : ExtB t H H₅ := ((e₁₂.trans e₃).trans (e₄.toB t)).trans e₅
    have fin : ∀ k : Int, 0 ≤ k → k ≤ 60 → Q (.tup [.str "copy", .int k]) H₅ := fun k k0 k1 => by
      obtain ⟨j, rfl⟩ := Int.eq_ofNat_of_zero_le k0
      exact hQ (.copy j) _ _ (by show j ≤ 60; first | lia | omega) (by first | decide | lia | omega) h₅ e₁₅
    have hi : ∃ k : Int, itemAt [PV.int 0, PV.int 0, PV.int 1, PV.int 1, PV.int 2, PV.int 3, PV.int d, PV.int 60] z = some (.int k) ∧ 0 ≤ k ∧ k ≤ 60 := copy_at d0 d1 z0 z1
    obtain ⟨k, hk, k0, k1⟩ := hi
    refine O_subL hb₅ hk ?_
    exact fin k k0 k1
  · obtain ⟨w, hwo, gw, hrow, n1, n2, n3⟩ := some_plain hr.1 hr.2
    refine O_subL hc₂ gw ?_
    refine I_neg (by rw [n1]; decide) ?_
    refine I_neg (by rw [n2]; decide) ?_
    refine I_neg (by rw [n3]; decide) ?_
    have := plain w hwo
    rw [hrow] at this
    exact this

theorem rev_one {α : Type} {l : List α} (h : l.length = 1) : ∃ a, l = [a] := by
  match l, h with | [a], _ => exact ⟨a, rfl⟩
theorem rev_two {α : Type} {l : List α} (h : l.length = 2) : ∃ a b, l = [a, b] := by
  match l, h with | [a, b], _ => exact ⟨a, b, rfl⟩
theorem split_atG {α : Type} {st : List α} {k : Nat} (h : k ≤ st.length) : ∃ pre vs, st = pre ++ vs ∧ vs.length = k :=
  ⟨st.take (st.length - k), st.drop (st.length - k), (List.take_append_drop _ _).symm, by simp; first | lia | omega⟩
theorem Ext.back {H H' : AHeap} (e : Ext H H') {x : Addr} (h : H' x = none) : H x = none := e.none_of h
theorem last_two {α : Type} (pre : List α) (x y : α) : itemAt (pre ++ [x, y]) (-1) = some y ∧ itemAt (pre ++ [x, y]) (-2) = some x := by
  have hl : (pre ++ [x, y]).length = pre.length + 2 := by rw [List.length_append]; rfl
  unfold itemAt
  rw [hl]
  constructor
  · rw [if_neg (by decide), if_pos (by first | lia | omega), show ((-1 : Int) + ((pre.length + 2 : Nat) : Int)).toNat = pre.length + 1 by first | lia | omega]
    simp
  · rw [if_neg (by decide), if_pos (by first | lia | omega), show ((-2 : Int) + ((pre.length + 2 : Nat) : Int)).toNat = pre.length by first | lia | omega]
    simp
theorem zip_any : ∀ {ts us : List Str}, us.length = ts.length → (∀ s ∈ ts, s ≠ ("" : Str)) → (ts.zip us).any (fun p => !(p.1 == ("" : Str)) && !(p.1 == p.2)) = !decide (us = ts)
  | [], [], _, _ => rfl
  | [], _ :: _, h, _ => by simp at h
  | _ :: _, [], h, _ => by simp at h
  | t :: ts, u :: us, h, hn => by
    have ih := zip_any (ts := ts) (us := us) (by simpa using h) fun s hs => hn s (List.mem_cons_of_mem _ hs)
    have ht := hn t (List.mem_cons_self ..)
    rw [List.zip_cons_cons, List.any_cons, ih]
    by_cases q : t = u
    · subst q
      simp
    · have q' : ¬ (u = t) := fun e => q e.symm
      simp [ht, q, q']
theorem lack_take {pre us ws : List Str} (h : us.length = ws.length) : lackS (pre ++ us) ws = if (ws.zip us).any (fun p => !(p.1 == ("" : Str)) && !(p.1 == p.2)) then ("kind" : Str) else ("" : Str) := by
  unfold lackS
  rw [if_neg (by simp; first | lia | omega)]
  rw [show (pre ++ us).length - ws.length = pre.length by simp; first | lia | omega, List.drop_left]
theorem lack_le {ks ws : List Str} (h : lackS ks ws = "") : ws.length ≤ ks.length := by
  unfold lackS at h
  split at h
  · exact absurd h (by decide +kernel)
  · first | lia | omega
theorem take_le {α : Type} (l : List α) (k : Nat) : (l.take k).length ≤ l.length := by rw [List.length_take]; exact Nat.min_le_right _ _
theorem at_len {α : Type} {xs ys : List α} {x : α} {i : Int} (hi : i = xs.length) : itemAt (xs ++ x :: ys) i = some x := itemAt_nat hi (by rw [List.getElem?_append_right (Nat.le_refl _), Nat.sub_self]; rfl)
theorem lack_end (l t : List Str) : lackS (l ++ t) t = "" := lack_none (by rw [List.length_append]; exact Nat.le_add_left _ _) fun i x y hi hy => .inr (by
  rw [show (l ++ t).length - t.length = l.length by rw [List.length_append, Nat.add_sub_cancel], List.getElem?_append_right (Nat.le_add_right _ _), Nat.add_sub_cancel_left, hi] at hy
  exact Option.some.inj hy)
theorem lack_all {ks ws : List Str} (hl : ws.length ≤ ks.length) (h : ∀ x ∈ ws, x = ("" : Str)) : lackS ks ws = "" := lack_none hl fun _ x _ hi _ => .inl (h x (List.mem_of_getElem? hi))
theorem wants_eq {w : W} {ts : List Str} (h : takesS w = some ts) : wantedS w = ts := by cases w <;> cases h <;> rfl
theorem KW.lack {w : W} {ks ys : List Str} (h : KW w ks ys) : lackS ks (wantedS w) = "" := by
  cases h with
  | num => exact lack_all (Nat.zero_le _) fun _ h => nomatch h
  | text => exact lack_all (Nat.zero_le _) fun _ h => nomatch h
  | copy a b v h => exact lack_all (by rw [wanted_copy, List.length_append, List.length_cons]; first | lia | omega) fun x hx => (List.mem_replicate.mp hx).2
  | swap ks x y => exact lack_all (by rw [List.length_append]; exact Nat.le_add_left _ _) fun x hx => by rcases List.mem_cons.mp hx with h | h; exact h; exact List.mem_singleton.mp h
  | drop ks x => exact lack_all (by rw [List.length_append]; exact Nat.le_add_left _ _) fun x hx => List.mem_singleton.mp hx
  | tak ks h => rw [wants_eq h]; exact lack_end _ _
theorem KW.len {w : W} {ks ys : List Str} (h : KW w ks ys) : ys.length ≤ ks.length + 1 := by
  cases h <;> simp only [List.length_append, List.length_cons, List.length_nil] <;> first | lia | omega
theorem takes_ne {w : W} {ts : List Str} (ht : takesS w = some ts) : ∀ s ∈ ts, s ≠ ("" : Str) := by
  have n1 : ("num" : Str) ≠ "" := by decide +kernel
  have n2 : ("text" : Str) ≠ "" := by decide +kernel
  intro s hs
  have : s = "num" ∨ s = "text" := by
    cases w <;> cases ht <;> simp only [List.mem_cons, List.not_mem_nil, or_false, or_self] at hs <;> first | exact .inl hs | exact .inr hs
  rcases this with rfl | rfl
  · exact n1
  · exact n2
theorem kw_of {w : W} {ks : List Str} (h : lackS ks (wantedS w) = "") : ∃ ys, KW w ks ys := by
  have hl := lack_le h
  cases ht : takesS w with
  | some ts =>
    rw [wants_eq ht] at h hl
    obtain ⟨pre, vs, rfl, hv⟩ := split_atG hl
    rw [lack_take hv, zip_any hv (takes_ne ht)] at h
    have : vs = ts := Classical.byContradiction fun q => by rw [decide_eq_false q] at h; exact absurd h (by decide +kernel)
    rw [this]
    exact ⟨_, .tak pre ht⟩
  | none =>
    cases w with
    | num i => exact ⟨_, .num i ks⟩
    | text s => exact ⟨_, .text s ks⟩
    | copy n =>
      rw [wanted_copy] at hl
      obtain ⟨pre, vs, rfl, hv⟩ := split_atG hl
      cases vs with
      | nil => cases hv
      | cons v vs => exact ⟨_, .copy pre vs v (Nat.succ.inj hv)⟩
    | swap =>
      obtain ⟨pre, vs, rfl, hv⟩ := split_atG hl
      obtain ⟨x, y, rfl⟩ := rev_two hv
      exact ⟨_, .swap pre x y⟩
    | drop =>
      obtain ⟨pre, vs, rfl, hv⟩ := split_atG hl
      obtain ⟨x, rfl⟩ := rev_one hv
      exact ⟨_, .drop pre x⟩
    | _ => cases ht
theorem cut_str {l ts us : List Str} (h : us.length = ts.length) : ((l ++ ts).map PV.str).take (cutAt ((l ++ ts).map PV.str).length ((((l ++ ts).map PV.str).length : Int) - ((us.map PV.str).length : Int))) = l.map PV.str := by
  rw [show cutAt ((l ++ ts).map PV.str).length ((((l ++ ts).map PV.str).length : Int) - ((us.map PV.str).length : Int)) = (l.map PV.str).length by
    unfold cutAt
    rw [List.length_map, List.length_map, List.length_map, List.length_append, h, if_pos (by first | lia | omega)]; first | lia | omega]
  rw [List.map_append, List.take_left]
theorem plainly_ok : Ver spPlainly B_law_plainly N_law_plainly 2 := by
  intro ps H Q X h
  have hL : LIM = 1048576 := rfl
  obtain ⟨a, ks, ys, w, rfl, hw, ha, hlen, hk, hQ⟩ := h
  refine ⟨rfl, ?_⟩
  refine O_lenL ha ?_
  refine U_wanted ⟨w, rfl, hw, fun d H₁ hd h₁ e₁ => ?_⟩
  refine O_lenL h₁ ?_
  refine O_toL (e₁.at ha) fun c H₂ hc h₂ e₂ => ?_
  have e₁₂ := e₁.trans e₂
  have a₂ := e₁₂.at ha
  have key : ∀ (l ts xs : List Str), ks = l ++ ts → (wantedS w).length = ts.length → xs.length ≤ 2 → ys = l ++ xs → alloc (.list (xs.map .str)) (fun v H => BinW Q H .Add (.obj c) v) H₂ := fun l ts xs hl hw hx hy b H₃ hb h₃ e₃ => by
    subst hl hy
    rw [cut_str hw] at h₂
    rw [List.length_append] at hlen
    exact O_addL (e₃.at h₂) h₃ (by rw [List.length_map, List.length_map]; first | lia | omega) fun z H₄ hz h₄ e₄ => hQ z H₄ (e₁₂.back (e₃.back hz)) (by rw [h₄, List.map_append]) ((e₁₂.trans e₃).trans e₄)
  cases hk with
  | num i => exact key ks [] ["num"] (List.append_nil _).symm rfl (by decide) rfl
  | text s => exact key ks [] ["text"] (List.append_nil _).symm rfl (by decide) rfl
  | copy l r v hr =>
    have hm : (l ++ v :: r).map PV.str = l.map PV.str ++ .str v :: r.map PV.str := by rw [List.map_append]; rfl
    rw [hm] at a₂
    refine O_lenL a₂ ?_
    refine O_subL a₂ (at_len (by rw [List.length_append, List.length_cons, List.length_map, List.length_map, hr]; first | lia | omega)) ?_
    refine fun b H₃ hb h₃ e₃ => ?_
    refine O_addL (e₃.at a₂) h₃ (by rw [← hm, List.length_map, List.length_singleton]; first | lia | omega) fun z H₄ hz h₄ e₄ => ?_
    exact hQ z H₄ (e₁₂.back (e₃.back hz)) (by rw [h₄, ← hm, List.map_append (l₁ := l ++ v :: r)]; rfl) ((e₁₂.trans e₃).trans e₄)
  | swap l x y =>
    have hm : (l ++ [x, y]).map PV.str = l.map PV.str ++ [.str x, .str y] := by rw [List.map_append]; rfl
    rw [hm] at a₂
    refine O_subL a₂ (last_two _ _ _).1 ?_
    refine O_subL a₂ (last_two _ _ _).2 ?_
    exact key l [x, y] [y, x] rfl rfl (Nat.le_refl 2) rfl
  | drop l x =>
    rw [cut_str (l := ys) (ts := [x]) (us := wantedS .drop) rfl] at h₂
    exact hQ c H₂ (e₁.back hc) h₂ e₁₂
  | tak l ht =>
    cases w <;> cases ht
    · exact key l _ ["num"] rfl rfl (by decide) rfl
    · exact key l _ ["num"] rfl rfl (by decide) rfl
    · exact key l _ ["num"] rfl rfl (by decide) rfl
    · exact key l _ ["text"] rfl rfl (by decide) rfl
    · exact key l _ ["num"] rfl rfl (by decide) rfl
    · exact key l _ ["text"] rfl rfl (by decide) rfl
end Mine
end
section
open PySem PySem.W PySem.Calls PyProof.Rows
namespace Mine
set_option autoImplicit false

theorem dget_map {α β : Type} (f : α → β) (k : Str) : ∀ es : List (Str × α), dget (es.map fun p => (p.1, f p.2)) k = (dget es k).map f
  | [] => rfl
  | (n, b) :: es => by
    have ih := dget_map f k es
    unfold dget at ih ⊢
    by_cases h : n = k
    · simp [h]
    · simp only [List.map_cons, List.find?_cons, h, decide_false]; exact ih
theorem dget_blk (es : Pr) (k : Str) : dget (kvsP es) k = (dget es k).map blk := dget_map blk k es
theorem hasKey_blk (es : Pr) (k : Str) : hasKey (kvsP es) k = (dget es k).isSome := by unfold hasKey; rw [dget_blk]; cases dget es k <;> rfl
theorem dget_mem {α : Type} {es : List (Str × α)} {k : Str} {b : α} (h : dget es k = some b) : (k, b) ∈ es := by
  unfold dget at h
  cases q : es.find? (fun p => decide (p.1 = k)) with
  | none => rw [q] at h; cases h
  | some p =>
    rw [q] at h
    have h1 := List.mem_of_find?_eq_some q
    have h2 := List.find?_some q
    have h3 : p.1 = k := by simpa using h2
    cases h
    rw [← h3]; exact h1
theorem W.head (w : W) : itemAt w.row 0 = some (.str (wd w)) := by cases w <;> rfl
theorem W.plain (w : W) : (wd w == ("call" : Str)) = false ∧ (wd w == ("if" : Str)) = false := by cases w <;> exact ⟨by kernel_rfl, by kernel_rfl⟩
theorem last_at {α : Type} (xs : List α) (x : α) : itemAt (xs ++ [x]) (-1) = some x := by
  unfold itemAt
  rw [if_neg (by decide), if_pos (by rw [List.length_append, List.length_singleton]; first | lia | omega), List.length_append, List.length_singleton, show ((-1 : Int) + ((xs.length + 1 : Nat) : Int)).toNat = xs.length by first | lia | omega]
  simp
theorem cut_last {α : Type} (xs : List α) (x : α) : (xs ++ [x]).take (cutAt (xs ++ [x]).length (-1)) = xs := by
  unfold cutAt
  rw [if_neg (by decide), List.length_append, List.length_singleton, show ((-1 : Int) + ((xs.length + 1 : Nat) : Int)).toNat = xs.length by first | lia | omega]
  simp
theorem dget_of_mem {α : Type} {es : List (Str × α)} (hn : (es.map (·.1)).Nodup) {p : Str × α} (h : p ∈ es) : dget es p.1 = some p.2 := by
  induction es with
  | nil => cases h
  | cons q es ih =>
    rw [List.map_cons, List.nodup_cons] at hn
    unfold dget
    rcases List.mem_cons.mp h with rfl | h
    · simp
    · have : q.1 ≠ p.1 := fun e => hn.1 (by rw [e]; exact List.mem_map_of_mem h)
      rw [List.find?_cons]
      simp only [this, decide_false]
      exact ih hn.2 h
theorem nm_get {es : Pr} {n : Str} (ho : POk es) (h : n ∈ nmsP es) : ∃ b, dget es n = some b ∧ ioP es n = (b.1, b.2.1) ∧ BOk b := by
  obtain ⟨q, hq, rfl⟩ := List.mem_map.mp h
  have hd := dget_of_mem ho.nodup hq
  exact ⟨q.2, hd, by unfold ioP; rw [hd], ho.blks q hq⟩
theorem nm_has {es : Pr} {n : Str} {b : Bl} (h : dget es n = some b) : hasKey (kvsP es) n = true := by rw [hasKey_blk, h]; rfl
theorem nm_blk {es : Pr} {n : Str} {b : Bl} (h : dget es n = some b) : dget (kvsP es) n = some (blk b) := by rw [dget_blk, h]; rfl
theorem ioP_some {es : Pr} {n : Str} {b : Bl} (h : dget es n = some b) : ioP es n = (b.1, b.2.1) := by unfold ioP; rw [h]
theorem lcalled_ok : Ver spLCalled B_law_called N_law_called 3 := by
  intro ps H Q X h
  have hL : LIM = 1048576 := rfl
  obtain ⟨p, a, es, l, n, b, rfl, hp, hpo, ha, hlen, hd, hQ⟩ := h
  refine ⟨rfl, ?_⟩
  obtain ⟨_, _, hb3, hb4⟩ : BOk b := hpo.blks _ (dget_mem hd)
  have hg := nm_blk hd
  refine O_subD hp hg ?_
  refine O_listT fun c H₁ hc h₁ e₁ => ?_
  refine U_lack ⟨a, c, l ++ b.1, b.1, rfl, e₁.at ha, h₁, hlen, by first | lia | omega, ?_⟩
  rw [lack_end]
  refine O_lenL (e₁.at ha) ?_
  refine O_lenL h₁ ?_
  refine O_toL (e₁.at ha) fun d H₂ hd₂ h₂ e₂ => ?_
  rw [cut_str rfl] at h₂
  have e12 := e₁.trans e₂
  refine O_subD (e12.at hp) hg ?_
  refine O_listT fun f H₃ hf h₃ e₃ => ?_
  rw [List.length_append] at hlen
  refine O_addL (e₃.at h₂) h₃ (by rw [List.length_map, List.length_map]; first | lia | omega) fun z H₄ hz h₄ e₄ => ?_
  exact hQ z H₄ (e12.back (e₃.back hz)) (by rw [h₄, List.map_append]) ((e12.trans e₃).trans e₄)
set_option maxHeartbeats 1000000 in
theorem lnext_ok : Ver spNext B_law_next N_law_next 3 := by
  intro ps H Q X h
  have hL : LIM = 1048576 := rfl
  obtain ⟨p, a, es, ks, ys, r, rfl, hp, hpo, hr, ha, hlen, hk, hQ⟩ := h
  refine ⟨rfl, ?_⟩
  cases hk with
  | @call n l h =>
    obtain ⟨b, hb, hio, _⟩ := nm_get hpo h
    rw [hio] at ha hlen hQ
    refine O_niD hp ?_
    rw [nm_has hb]
    exact U_lcalled ⟨p, a, es, l, n, b, rfl, hp, hpo, ha, hlen, hb, hQ⟩
  | @iff n m l h h' e =>
    obtain ⟨b, hb, hio, _⟩ := nm_get hpo h
    obtain ⟨b', hb', hio', _⟩ := nm_get hpo h'
    rw [hio, hio'] at e
    injection e with e1 e2
    rw [hio] at ha hlen hQ
    refine fun c H₁ hc h₁ e₁ => ?_
    have hp₁ := e₁.at hp
    refine U_lack ⟨a, c, _, ["num"], rfl, e₁.at ha, h₁, hlen, by decide, ?_⟩
    rw [lack_end]
    refine O_niD hp₁ ?_
    rw [nm_has hb]
    refine O_niD hp₁ ?_
    rw [nm_has hb']
    refine O_subD hp₁ (nm_blk hb) ?_
    refine O_subD hp₁ (nm_blk hb') ?_
    refine O_neT (eq_strs b.1 b'.1) ?_
    rw [decide_eq_true e1.symm]
    refine O_subD hp₁ (nm_blk hb) ?_
    refine O_subD hp₁ (nm_blk hb') ?_
    refine O_neT (eq_strs b.2.1 b'.2.1) ?_
    rw [decide_eq_true e2.symm]
    refine O_toL (e₁.at ha) fun d H₂ hd₂ h₂ e₂ => ?_
    rw [show (l ++ b.1 ++ [("num" : Str)]).map PV.str = (l ++ b.1).map PV.str ++ [PV.str "num"] by rw [List.map_append (l₁ := l ++ b.1)]; rfl, cut_last] at h₂
    have e12 := e₁.trans e₂
    rw [List.length_append, List.length_singleton] at hlen
    exact U_lcalled ⟨p, d, es, l, n, b, rfl, e12.at hp, hpo, h₂, Nat.le_trans (Nat.le_succ _) hlen, hb, fun c H' hc h e => hQ c H' (e12.back hc) h (e12.trans e)⟩
  | @pl w ks ys h =>
    refine O_subT w.head ?_
    refine I_neg (by rw [w.plain.1]; decide) ?_
    refine O_subT w.head ?_
    refine I_neg (by rw [w.plain.2]; decide) ?_
    refine U_wanted ⟨w, rfl, hr, fun d H₁ hd h₁ e₁ => ?_⟩
    refine U_lack ⟨a, d, ks, wantedS w, rfl, e₁.at ha, h₁, hlen, by have := wanted_len hr; first | lia | omega, ?_⟩
    rw [h.lack]
    exact U_plainly ⟨a, ks, ys, w, rfl, hr, e₁.at ha, hlen, h, fun c H' hc h e => hQ c H' (e₁.back hc) h (e₁.trans e)⟩
end Mine
end
section
open PySem PySem.W PySem.Calls PyProof.Rows
namespace Mine
set_option autoImplicit false

theorem compR {el : PV → (List PV → AHeap → Prop) → AHeap → Prop} {Q : List PV → AHeap → Prop} {n : Nat} (I : Nat → List PV → AHeap → Prop) (h0 : ∀ acc H, I n acc H → Q acc H)
    (h1 : ∀ j acc H, j < n → I j acc H → ∀ K : List PV → AHeap → Prop, (∀ vs H', I (j + 1) (acc ++ vs) H' → K vs H') → el (.int j) K H) (H : AHeap) (hi : I 0 [] H) :
    compW (fun _ => True) el Q ((List.range n).map fun (i : Nat) => PV.int i) [] H := by
  refine compW_ind (fun rest acc H => Ex1 fun j => An3 (j ≤ n) (rest = ((List.range n).drop j).map (fun (i : Nat) => PV.int i)) (I j acc H)) ?_ ?_ _ _ _ ⟨0, by first | decide | lia | omega, rfl, hi⟩
  · rintro acc H ⟨j, hj, hr, h⟩
    have hl := congrArg List.length hr
    simp at hl
    have : j = n := by first | decide | lia | omega
    subst this
    exact ⟨trivial, h0 _ _ h⟩
  · rintro x xs acc H ⟨j, hj, hr, h⟩
    refine ⟨trivial, fun K hK => ?_⟩
    have hjl : j < n := by
      apply Classical.byContradiction
      intro q
      rw [List.drop_eq_nil_of_le (by simp; first | lia | omega)] at hr
      cases hr
    have hd : (List.range n).drop j = j :: (List.range n).drop (j + 1) := by
      rw [List.drop_eq_getElem_cons (by simpa using hjl)]; simp
    rw [hd] at hr
    cases hr
    exact h1 j acc H hjl h K fun m' H' h' => hK _ _ ⟨j + 1, by first | decide | lia | omega, rfl, h'⟩
theorem kind_ne {r : Int} (r0 : 0 ≤ r) (r1 : r < 2) : ∃ s : Str, itemAt [PV.str "num", PV.str "text"] r = some (.str s) ∧ KOk s := by
  have : r = 0 ∨ r = 1 := by first | decide | lia | omega
  rcases this with rfl | rfl
  · exact ⟨"num", rfl, .inl rfl⟩
  · exact ⟨"text", rfl, .inr rfl⟩
theorem kok_app {ks : List Str} {s : Str} (h : ∀ x ∈ ks, KOk x) (hs : KOk s) : ∀ x ∈ ks ++ [s], KOk x := fun y hy => by
  rcases List.mem_append.mp hy with hy | hy
  · exact h y hy
  · rw [List.mem_singleton.mp hy]; exact hs
theorem kindst_ok : Ver spKindsT B_law_kinds N_law_kinds 2 := by
  intro ps H Q X h
  have hL : LIM = 1048576 := rfl
  obtain ⟨xs, t, n, rfl, hx, ht, hn, hQ⟩ := h
  refine ⟨rfl, ?_⟩
  refine U_draw ⟨xs, t, _, n, rfl, hx, ht, (by first | exact bd0 hn (by decide) | exact bd1 hn (by decide) | exact bd2 hn (by assumption) (by decide) | exact bd3 hn (by assumption) (by decide) | lia | omega), by decide, fun r H₁ r0 r1 h₁ e₁ => ?_⟩
  refine W_cut (fun m H₂ => Ex1 fun (size : Nat) => An4 (size ≤ 58) (m = [some (.fls xs), some (.obj t), some (.int size), none]) (H₂ t = some (.tape (n + 2))) (ExtB t H H₂)) ?_ ?_
  · intro K hK
    obtain ⟨r, rfl⟩ := Int.eq_ofNat_of_zero_le r0
    refine U_draw ⟨xs, t, _, n + 1, rfl, hx, h₁, (by first | exact bd0 hn (by decide) | exact bd1 hn (by decide) | exact bd2 hn (by assumption) (by decide) | exact bd3 hn (by assumption) (by decide) | lia | omega), by decide, fun r' H₂ r0' r1' h₂ e₂ => ?_⟩
    refine O_ite (fun _ => ?_) (fun _ => ?_)
    · refine O_mulI (.inr (by decide)) ?_
      exact hK _ _ ⟨4 + r * 18, by first | lia | omega, rfl, h₂, e₁.trans e₂⟩
    · exact hK _ _ ⟨r, by first | lia | omega, rfl, h₂, e₁.trans e₂⟩
  clear h₁ e₁ r0 r1
  rintro m H₂ ⟨size, z1, rfl, h₂, e₂⟩
  refine O_range (by first | lia | omega) ?_
  refine compR (n := size) (fun j acc H' => Ex1 fun (ks : List Str) => An5 (acc = ks.map .str) (ks.length = j) (∀ s ∈ ks, KOk s) (H' t = some (.tape (n + 2 + j))) (ExtB t H H')) ?_ ?_ _ ⟨[], rfl, rfl, fun _ h => (nomatch h), h₂, e₂⟩
  · rintro acc H₃ ⟨ks, rfl, hl, hne, h₃, e₃⟩
    refine fun c H₄ hc h₄ e₄ => ?_
    refine O_tupL h₄ ?_
    exact hQ _ _ _ (by first | lia | omega) hne (by first | lia | omega) (e₄.at h₃) (e₃.trans (e₄.toB t))
  · rintro j acc H₃ hj ⟨ks, rfl, hl, hne, h₃, e₃⟩ K hK
    refine fun c H₄ hc h₄ e₄ => ?_
    refine U_draw ⟨xs, t, _, n + 2 + j, rfl, hx, e₄.at h₃, Nat.lt_of_lt_of_le (Nat.add_lt_add_of_lt_of_le (Nat.add_lt_add_right hn 2) (Nat.le_trans (Nat.le_of_lt hj) z1)) (by decide), by decide, fun r' H₅ r0' r1' h₅ e₅ => ?_⟩
    obtain ⟨s, hs, hs'⟩ := kind_ne r0' r1'
    refine O_subL (e₅.at (Ne.symm (ne_of h₃ hc)) h₄) hs ?_
    exact hK _ _ ⟨ks ++ [s], by rw [List.map_append]; rfl, by rw [List.length_append, hl]; rfl, kok_app hne hs', h₅, (e₃.trans (e₄.toB t)).trans e₅⟩
theorem any_map {α β : Type} (f : α → β) (k : Str) : ∀ es : List (Str × α), (es.map fun p => (p.1, f p.2)).any (fun p => decide (p.1 = k)) = es.any fun p => decide (p.1 = k)
  | [] => rfl
  | p :: es => by simp only [List.map_cons, List.any_cons, any_map f k es]
theorem dset_map {α β : Type} (f : α → β) (k : Str) (v : α) (es : List (Str × α)) : dset (es.map fun p => (p.1, f p.2)) k (f v) = (dset es k v).map fun p => (p.1, f p.2) := by
  unfold dset
  rw [any_map]
  split
  · rw [List.map_map, List.map_map]
    refine List.map_congr_left fun p _ => ?_
    simp only [Function.comp]
    split <;> rfl
  · simp
theorem dset_blk (es : Pr) (k : Str) (b : Bl) : dset (kvsP es) k (blk b) = kvsP (dset es k b) := dset_map blk k b es
theorem dset_mem {α : Type} {es : List (Str × α)} {k : Str} {v : α} {p : Str × α} (h : p ∈ dset es k v) : p ∈ es ∨ p = (k, v) := by
  unfold dset at h
  split at h
  · obtain ⟨q, hq, rfl⟩ := List.mem_map.mp h
    split
    · rename_i e; right; rw [← e]
    · exact .inl hq
  · rcases List.mem_append.mp h with h | h
    · exact .inl h
    · exact .inr (List.mem_singleton.mp h)
theorem dset_nodup {α : Type} {es : List (Str × α)} {k : Str} {v : α} (h : (es.map (·.1)).Nodup) : ((dset es k v).map (·.1)).Nodup := by
  unfold dset
  split
  · rw [List.map_map]
    rw [show ((fun x : Str × α => x.1) ∘ fun p => if p.1 = k then (p.1, v) else p) = fun p => p.1 by funext p; simp only [Function.comp]; split <;> rfl]
    exact h
  · rename_i hn
    rw [List.map_append]
    refine List.nodup_append.mpr ⟨h, by simp, ?_⟩
    intro a ha b hb
    simp at hb
    subst hb
    rintro rfl
    obtain ⟨p, hp, rfl⟩ := List.mem_map.mp ha
    exact hn (List.any_eq_true.mpr ⟨p, hp, by simp⟩)
theorem dset_len {α : Type} {es : List (Str × α)} {k : Str} {v : α} : (dset es k v).length ≤ es.length + 1 := by
  unfold dset; split <;> simp
theorem dset_ne {α : Type} {es : List (Str × α)} {k : Str} {v : α} : dset es k v ≠ [] := by
  unfold dset
  split
  · rename_i h
    intro q
    have : es = [] := by simpa using q
    subst this
    simp at h
  · simp
theorem POk.dset {es : Pr} (h : POk es) {k : Str} {b : Bl} (hk : 0 < k.length ∧ k.length ≤ 200) (hb : BOk b) (hl : es.length < 100) : POk (dset es k b) := by
  refine ⟨dset_nodup h.nodup, fun p hp => ?_, fun p hp => ?_, Nat.le_trans dset_len hl⟩
  · rcases dset_mem hp with hp | rfl
    · exact h.name p hp
    · exact hk
  · rcases dset_mem hp with hp | rfl
    · exact h.blks p hp
    · exact hb
theorem fresh_of {H H' : AHeap} {t c : Addr} {n : Nat} (e : ExtB t H H') (ht : H' t = some (.tape n)) (hc : H' c = none) : H c = none := by
  cases q : H c with
  | none => rfl
  | some o => rw [e.at (by rintro rfl; rw [ht] at hc; cases hc) q] at hc; cases hc
theorem pick3 {r : Int} (r0 : 0 ≤ r) (r1 : r < 3) : ∃ i : Int, itemAt [PV.int 0, PV.int 2, PV.int 50] r = some (.int i) ∧ 0 ≤ i ∧ i ≤ 50 := by
  have : r = 0 ∨ r = 1 ∨ r = 2 := by first | lia | omega
  rcases this with rfl | rfl | rfl
  · exact ⟨0, rfl, by decide, by decide⟩
  · exact ⟨2, rfl, by decide, by decide⟩
  · exact ⟨50, rfl, by decide, by decide⟩
theorem tl {n n' c d : Nat} (h : n' ≤ n + c) (hn : n < 2 ^ 50) (hc : 2 ^ 50 + (c + d) ≤ 2 ^ 57) (k : Nat) (hk : 2 ^ 57 ≤ 2 ^ k) : n' + d < 2 ^ k :=
  Nat.lt_of_lt_of_le (Nat.lt_of_le_of_lt (Nat.add_le_add_right h d) (by rw [Nat.add_assoc]; exact Nat.add_lt_add_right hn _)) (Nat.le_trans hc hk)
theorem up {n' k c d : Nat} (h : k ≤ n' + c) (hc : c ≤ d) : k ≤ n' + d := Nat.le_trans h (Nat.add_le_add_left hc _)
theorem turn {n n' k c d j : Nat} (hk : k ≤ n' + d) (hn' : n' ≤ n + c + d * j) : k ≤ n + c + d * (j + 1) := by
  rw [Nat.mul_succ, ← Nat.add_assoc]; exact Nat.le_trans hk (Nat.add_le_add_right hn' d)
theorem turns {n n' c d j J : Nat} (hn' : n' ≤ n + c + d * j) (hj : j ≤ J) : n' ≤ n + (c + d * J) := by
  rw [← Nat.add_assoc]; exact Nat.le_trans hn' (Nat.add_le_add_left (Nat.mul_le_mul_left d hj) _)
set_option maxRecDepth 10000 in
set_option maxHeartbeats 1000000 in
theorem ltold_ok : Ver spTold B_law_told N_law_told 2 := by
  intro ps H Q X h
  have hL : LIM = 1048576 := rfl
  obtain ⟨xs, t, n, rfl, hx, ht, hn, hQ⟩ := h
  have hlit : Str.length "abcdefghijkl" = 12 := by decide +kernel
  have tk : ∀ {n' : Nat} (d : Nat), n' ≤ n + 5000 → d ≤ 5000 → n' + d < 2 ^ 57 := fun d h hd => Nat.lt_of_lt_of_le (Nat.lt_of_le_of_lt (Nat.add_le_add h hd) (Nat.add_lt_add_right (Nat.add_lt_add_right hn _) _)) (by decide)
  have td : ∀ {n' : Nat} (d : Nat), n' ≤ n + 5000 → d ≤ 5000 → n' + d < 2 ^ 59 := fun d h hd => Nat.lt_trans (tk d h hd) (by decide)
  refine ⟨rfl, ?_⟩
  refine U_draw ⟨xs, t, _, n, rfl, hx, ht, td 0 (Nat.le_add_right _ _) (by decide), by decide, fun r H₁ r0 r1 h₁ e₁ => ?_⟩
  obtain ⟨r, rfl⟩ := Int.eq_ofNat_of_zero_le r0
  refine W_cut (fun m H₁ => Ex2 fun (count n' : Nat) => An6 (1 ≤ count) (count ≤ 11) (n' ≤ n + 3) (m = [some (.fls xs), some (.obj t), some (.int count), none, none, none, none, none, none, none]) (H₁ t = some (.tape n')) (ExtB t H H₁)) ?_ ?_
  · intro K hK
    refine U_draw ⟨xs, t, _, n + 1, rfl, hx, h₁, td 1 (Nat.le_add_right _ _) (by decide), by decide, fun r₁ H₂ _ _ h₂ e₂ => ?_⟩
    refine O_ite (fun _ => ?_) (fun _ => ?_)
    · refine U_draw ⟨xs, t, _, n + 2, rfl, hx, h₂, td 2 (Nat.le_add_right _ _) (by decide), by decide, fun r' H₃ r0' r1' h₃ e₃ => ?_⟩
      obtain ⟨r', rfl⟩ := Int.eq_ofNat_of_zero_le r0'
      exact hK _ _ ⟨6 + r', n + 3, by first | lia | omega, by first | lia | omega, Nat.le_refl _, rfl, h₃, (e₁.trans e₂).trans e₃⟩
    · exact hK _ _ ⟨1 + r, n + 2, Nat.le_add_right _ _, by first | lia | omega, Nat.le_succ _, rfl, h₂, e₁.trans e₂⟩
  clear r0 r1 h₁ e₁ H₁ r
  rintro m H₁ ⟨count, n₁, c0, c1, hn₁, rfl, h₁, x₁⟩
  refine fun p H₂ hp h₂ e₂ => ?_
  have hpH : H p = none := fresh_of x₁ h₁ hp
  have htp : p ≠ t := Ne.symm (ne_of h₁ hp)
  have hn₁' := up hn₁ (show 3 ≤ 5000 by decide)
  refine U_draw ⟨xs, t, _, n₁, rfl, hx, e₂.at h₁, td 0 hn₁' (by decide), by decide, fun r H₄ r0 r1 t₄ e₄ => ?_⟩
  refine fun y H₅ hy h₅ e₅ => ?_
  refine U_draw ⟨xs, t, _, n₁ + 1, rfl, hx, e₅.at t₄, td 1 hn₁' (by decide), by decide, fun r' H₆ r0' r1' t₆ e₆ => ?_⟩
  obtain ⟨i, hi, i0, i1⟩ := pick3 r0' r1'
  refine O_subL (e₆.at (Ne.symm (ne_of t₄ hy)) h₅) hi ?_
  refine U_words ⟨_, i, rfl, i0, Int.le_trans i1 (by decide), fun beg H₇ hbl e₇ => ?_⟩
  have hbeg : beg.length ≤ 50 := by first | lia | omega
  refine U_draw ⟨xs, t, _, n₁ + 2, rfl, hx, e₇.at t₆, td 2 hn₁' (by decide), by decide, fun mid H₈ _ _ t₈ e₈ => ?_⟩
  have p₈ := e₈.at htp (e₇.at (e₆.at htp (e₅.at (e₄.at htp h₂))))
  have x₈ : ExtB t H H₈ := ((((((x₁.trans (e₂.toB t)).trans e₄).trans (e₅.toB t)).trans e₆).trans (e₇.toB t)).trans e₈)
  clear e₈ e₇ t₆ e₆ h₅ hy t₄ e₅ e₄ e₂ h₂ hi hbl r0 r1 r0' r1' i0 i1 hp h₁ x₁
  refine O_range (by first | lia | omega) ?_
  refine forR (n := count) (fun j m H' => Ex4 fun (es : Pr) (b : Bl) (n' : Nat) (x : Option PV × Option PV × Option PV) => An11 (m = [some (.fls xs), some (.obj t), some (.int count), some (.obj p), some (blk b), some (.str beg), some (.int mid), x.1, x.2.1, x.2.2]) (BOk b) (b.2.2 = []) (POk es) (∀ q ∈ es, q.2.2.2 = []) (es.length ≤ j) (0 < j → es ≠ []) (n' ≤ n + 10 + 400 * j) (H' t = some (.tape n')) (H' p = some (.dict (kvsP es))) (ExtB t H H')) ?_ ?_ _ _ ⟨[], (["num"], ["num"], []), n₁ + 3, (none, none, none), rfl, ?_, rfl, ⟨.nil, fun _ h => (nomatch h), fun _ h => (nomatch h), Nat.zero_le _⟩, fun _ h => (nomatch h), Nat.le_refl _, fun h => absurd h (Nat.lt_irrefl _), Nat.le_trans (Nat.add_le_add_right hn₁ 3) (Nat.add_le_add_left (show 3 + 3 ≤ 10 by decide) n), t₈, p₈, x₈⟩
  · rintro m H' ⟨es, b, n', x, rfl, hb, hbn, hes, hen, hl, hne, hn', ht', hp', ex'⟩
    exact hQ p es n' _ hes (hne c0) hen hpH hp' (up (turns hn' c1) (by decide)) ht' ex'
  · rintro j m H' hj ⟨es, b, n', ⟨x7, x8, x9⟩, rfl, hb, hbn, hes, hen, hl, hne, hn', ht', hp', ex'⟩ K hK
    have hj11 : j < 11 := Nat.lt_of_lt_of_le hj c1
    have hnb := up (turns hn' (Nat.le_of_lt hj11)) (show 10 + 400 * 11 ≤ 5000 by decide)
    clear hne
    obtain ⟨sj, hsj, hsl⟩ := sign_at (s := "abcdefghijkl") (i := (j : Int)) (Int.natCast_nonneg _) (by rw [hlit]; first | lia | omega)
    refine W_cut (fun m H'' => Ex1 fun (nm : Str) => An4 (nm.length ≤ 200 ∧ 0 < nm.length) (m = [some (.fls xs), some (.obj t), some (.int count), some (.obj p), some (blk b), some (.str beg), some (.int mid), some (.int j), some (.str nm), x9]) (H'' t = some (.tape (n' + 2))) (ExtB t H' H'')) ?_ ?_
    · intro K hK
      refine U_draw ⟨xs, t, _, n', rfl, hx, ht', td 0 hnb (by decide), by decide, fun r H₁ r0 r1 t₁ e₁ => ?_⟩
      refine U_draw ⟨xs, t, _, n' + 1, rfl, hx, t₁, td 1 hnb (by decide), by decide, fun r' H₂ r0' r1' t₂ e₂ => ?_⟩
      refine U_words ⟨_, r', rfl, r0', by first | lia | omega, fun s H₃ hs e₃ => ?_⟩
      refine O_addS (by first | lia | omega) ?_
      refine O_subS (by rw [hlit]; decide) hsj ?_
      refine O_addS (by rw [str_len_append]; first | lia | omega) ?_
      exact hK _ _ ⟨_, by rw [str_len_append, str_len_append]; first | lia | omega, rfl, e₃.at t₂, (e₁.trans e₂).trans (e₃.toB t)⟩
    rintro m H₁ ⟨nm, hnl, rfl, t₁, e₁⟩
    refine W_cut (fun m H'' => Ex1 fun (nm : Str) => An3 (nm.length ≤ 200 ∧ 0 < nm.length) (m = [some (.fls xs), some (.obj t), some (.int count), some (.obj p), some (blk b), some (.str beg), some (.int mid), some (.int j), some (.str nm), x9]) (H'' = H₁)) ?_ ?_
    · intro K hK
      refine O_ite (fun _ => ?_) (fun _ => ?_)
      · refine O_subS (by rw [hlit]; decide) hsj ?_
        refine O_addS (by first | lia | omega) ?_
        refine O_addS (by rw [str_len_append]; first | lia | omega) ?_
        exact hK _ _ ⟨_, by rw [str_len_append, str_len_append]; first | lia | omega, rfl, rfl⟩
      · exact hK _ _ ⟨nm, hnl, rfl, rfl⟩
    clear hnl nm
    rintro m _ ⟨nm, hnl, rfl, rfl⟩
    refine U_draw ⟨xs, t, _, n' + 2, rfl, hx, t₁, td 2 hnb (by decide), by decide, fun way H₂ _ _ t₂ e₂ => ?_⟩
    replace e₂ := e₁.trans e₂
    clear t₁ e₁
    refine W_cut (fun m H'' => Ex2 fun (b : Bl) (k : Nat) => An6 (BOk b) (b.2.2 = []) (m = [some (.fls xs), some (.obj t), some (.int count), some (.obj p), some (blk b), some (.str beg), some (.int mid), some (.int j), some (.str nm), some (.int way)]) (k ≤ n' + 203) (H'' t = some (.tape k)) (ExtB t H' H'')) ?_ ?_
    · intro K hK
      have two : g01.C "_law_kinds" [.fls xs, .obj t] H₂ (fun v H => g01.C "_law_kinds" [.fls xs, .obj t] H (fun w H => K [some (.fls xs), some (.obj t), some (.int count), some (.obj p), some (.tup [v, w]), some (.str beg), some (.int mid), some (.int j), some (.str nm), some (.int way)] H) fun c H => X c H) fun c H => X c H := by
        refine U_kindst ⟨xs, t, _, rfl, hx, t₂, tk 3 hnb (by decide), fun ks k₁ H₃ l₁ ne₁ hk₁ t₃ e₃ => ?_⟩
        refine U_kindst ⟨xs, t, _, rfl, hx, t₃, Nat.lt_of_le_of_lt hk₁ (tk 103 hnb (by decide)), fun ks' k₂ H₄ l₂ ne₂ hk₂ t₄ e₄ => ?_⟩
        exact hK _ _ ⟨(ks, ks', []), k₂, ⟨ne₁, ne₂, l₁, l₂⟩, rfl, rfl, Nat.le_trans hk₂ (Nat.add_le_add_right hk₁ 100), t₄, (e₂.trans e₃).trans e₄⟩
      refine O_ite (fun _ => two) (fun _ => ?_)
      refine O_ite (fun _ => two) (fun _ => ?_)
      exact hK _ _ ⟨b, _, hb, hbn, rfl, Nat.add_le_add_left (show 3 ≤ 203 by decide) n', t₂, e₂⟩
    clear t₂ e₂ hb hbn b
    rintro m H₂ ⟨b, k, hb, hbn, rfl, hk, t₂, e₂⟩
    refine W_cut (fun m H'' => Ex2 fun (b : Bl) (k : Nat) => An6 (BOk b) (b.2.2 = []) (m = [some (.fls xs), some (.obj t), some (.int count), some (.obj p), some (blk b), some (.str beg), some (.int mid), some (.int j), some (.str nm), some (.int way)]) (k ≤ n' + 400) (H'' t = some (.tape k)) (ExtB t H' H'')) ?_ ?_
    · intro K hK
      have one : g01.C "_law_kinds" [.fls xs, .obj t] H₂ (fun w H => K [some (.fls xs), some (.obj t), some (.int count), some (.obj p), some (.tup [.tup (b.1.map .str), w]), some (.str beg), some (.int mid), some (.int j), some (.str nm), some (.int way)] H) fun c H => X c H := by
        refine U_kindst ⟨xs, t, _, rfl, hx, t₂, Nat.lt_of_le_of_lt hk (tk 203 hnb (by decide)), fun ks k₁ H₃ l₁ ne₁ hk₁ t₃ e₃ => ?_⟩
        exact hK _ _ ⟨(b.1, ks, []), k₁, ⟨hb.1, ne₁, hb.2.2.1, l₁⟩, rfl, rfl, Nat.le_trans hk₁ (Nat.le_trans (Nat.add_le_add_right hk 100) (Nat.add_le_add_left (show 203 + 100 ≤ 400 by decide) n')), t₃, e₂.trans e₃⟩
      refine O_ite (fun _ => one) (fun _ => ?_)
      refine O_ite (fun _ => one) (fun _ => ?_)
      exact hK _ _ ⟨b, k, hb, hbn, rfl, up hk (by decide), t₂, e₂⟩
    clear t₂ e₂ hb hbn b hk k H₂
    rintro m H₂ ⟨b, k, hb, hbn, rfl, hk, t₂, e₂⟩
    refine O_storeD (e₂.at htp hp') (by unfold kvsP; rw [List.length_map]; first | lia | omega) fun H₄ h₄ e₄ => ?_
    rw [dset_blk] at h₄
    refine hK _ _ ⟨_, b, k, (_, _, _), rfl, hb, hbn, hes.dset hnl.symm hb (by first | lia | omega), fun q hq => ?_, Nat.le_trans dset_len (Nat.succ_le_succ hl), fun _ => dset_ne, turn hk hn', e₄.at (Ne.symm htp) t₂, h₄, ExtB.over hpH (ex'.trans e₂) e₄⟩
    rcases dset_mem hq with hq | rfl
    · exact hen q hq
    · exact hbn
  · exact ⟨fun s hs => .inl (List.mem_singleton.mp hs), fun s hs => .inl (List.mem_singleton.mp hs), by decide, by decide⟩
end Mine
end
section
open PySem PySem.W PySem.Calls PyProof.Rows
namespace Mine
set_option autoImplicit false

theorem rowsPV_append (a b : List Rw) : rowsPV (a ++ b) = rowsPV a ++ rowsPV b := by unfold rowsPV; rw [List.map_append]
theorem rowsPV_len (rs : List Rw) : (rowsPV rs).length = rs.length := by unfold rowsPV; rw [List.length_map]
theorem names_at {ns : List Str} {r : Int} (h0 : 0 ≤ r) (h1 : r < ns.length) : ∃ s, s ∈ ns ∧ itemAt (ns.map PV.str) r = some (.str s) := by
  obtain ⟨k, rfl⟩ := Int.eq_ofNat_of_zero_le h0
  have hk : k < ns.length := by first | decide | lia | omega
  exact ⟨ns[k], List.getElem_mem hk, itemAt_nat rfl (by simp [hk])⟩
theorem Rn.app {ns : List Str} {io : Io} {ks ys zs : List Str} {a b : List Rw} (h : Rn ns io ks a ys) (k : Rn ns io ys b zs) : Rn ns io ks (a ++ b) zs := by
  induction h with
  | nil => exact k
  | cons h b _ ih => exact .cons h b (ih k)
theorem Rn.one {ns : List Str} {io : Io} {ks ys : List Str} {r : Rw} (h : ks.length ≤ 100000) (b : KB ns io ks r ys) : Rn ns io ks [r] ys := .cons h b .nil
noncomputable def PR (rs : List Rw) (ss : List Str) : Prop := ∀ (ns : List Str) (io : Io) (ks : List Str), ks.length ≤ 99000 → Rn ns io ks rs (ks ++ ss)
theorem push_row {s : Str} {v : PV} (hs : KOk s) (hv : Okv v) (hk : kindS v = (if s == "text" then "text" else "num")) : ∃ w : W, w.ok ∧ w.row = [.str s, v] ∧ ∀ ks, KW w ks (ks ++ [s]) := by
  rcases hs with rfl | rfl
  · obtain ⟨i, rfl, i0, i1⟩ := okv_num hv (by rw [hk]; decide +kernel)
    exact ⟨.num i, ⟨i0, i1⟩, rfl, .num i⟩
  · obtain ⟨u, rfl, hu⟩ := okv_text hv (by rw [hk]; decide +kernel)
    exact ⟨.text u, hu, rfl, .text u⟩
theorem PR.snoc {rs : List Rw} {us : List Str} {w : W} {s : Str} (h : PR rs us) (hl : us.length ≤ 100) (hw : ∀ ks, KW w ks (ks ++ [s])) : PR (rs ++ [.pl w]) (us ++ [s]) := fun ns io ks hk => by
  rw [← List.append_assoc]
  exact (h ns io ks hk).app (.one (by rw [List.length_append]; first | lia | omega) (.pl (hw _)))
theorem ok_app {a b : List Rw} (ha : ∀ r ∈ a, r.ok) (hb : ∀ r ∈ b, r.ok) : ∀ r ∈ a ++ b, r.ok := fun r hr => (List.mem_append.mp hr).elim (ha r) (hb r)
theorem ok_one {r : Rw} (h : r.ok) : ∀ q ∈ [r], q.ok := fun q hq => by rw [List.mem_singleton.mp hq]; exact h
theorem RsOk.app {N M : Nat} {a b : List Rw} (h : RsOk N a) (hb : ∀ r ∈ b, r.ok) (hl : N + b.length ≤ M) : RsOk M (a ++ b) := ⟨ok_app h.1 hb, by rw [List.length_append]; exact Nat.le_trans (Nat.add_le_add_right h.2 _) hl⟩
theorem comp_push {src : AHeap → Prop} {el : PV → (List PV → AHeap → Prop) → AHeap → Prop} {Q : List PV → AHeap → Prop} {H : AHeap} {t : Addr} {n : Nat} {ts : List Str} : ∀ {ss us : List Str} {rs : List Rw} {H₁ : AHeap} {k : Nat}, (∀ H', ExtB t H H' → src H') →
    (∀ s ∈ ss, ∀ k H', k ≤ n + 200 → H' t = some (.tape k) → ∀ K : List PV → AHeap → Prop, (∀ (w : W) H'', w.ok → (∀ ks, KW w ks (ks ++ [s])) → H'' t = some (.tape (k + 2)) → ExtB t H' H'' → K [.tup w.row] H'') → el (.str s) K H') →
    (∀ rs H' k, RsOk 100 rs → PR rs ts → k ≤ n + 200 → H' t = some (.tape k) → ExtB t H H' → Q (rowsPV rs) H') → ts = us ++ ss → PR rs us → us.length = rs.length → (∀ r ∈ rs, r.ok) → rs.length + ss.length ≤ 100 → k ≤ n + 2 * rs.length → H₁ t = some (.tape k) → ExtB t H H₁ → compW src el Q (ss.map .str) (rowsPV rs) H₁
  | [], us, rs, H₁, k, hs, hel, hQ, hts, hpr, hul, h1, h2, h3, h4, h5 => ⟨hs _ h5, hQ rs H₁ k ⟨h1, h2⟩ (by rw [hts, List.append_nil]; exact hpr) (by rw [List.length_nil] at h2; first | lia | omega) h4 h5⟩
  | s :: ss, us, rs, H₁, k, hs, hel, hQ, hts, hpr, hul, h1, h2, h3, h4, h5 => by
    rw [List.length_cons] at h2
    refine ⟨hs _ h5, hel s (List.mem_cons_self ..) k H₁ (by first | lia | omega) h4 _ fun w H₂ hw hk t₂ e₂ => ?_⟩
    have hl : (rs ++ [Rw.pl w]).length = rs.length + 1 := List.length_append
    have := comp_push (ss := ss) (rs := rs ++ [.pl w]) hs (fun s hs => hel s (List.mem_cons_of_mem _ hs)) hQ (by rw [hts, List.append_assoc]; rfl) (hpr.snoc (by first | lia | omega) hk) (by rw [List.length_append, hl, hul]; rfl) (ok_app h1 (ok_one (r := .pl w) hw)) (by rw [hl]; first | lia | omega) (by rw [hl]; first | lia | omega) t₂ (h5.trans e₂)
    rw [rowsPV_append] at this
    exact this
theorem PR.nil : PR [] [] := fun ns io ks _ => by rw [List.append_nil]; exact .nil
theorem pushes_ok : Ver spPushes B_law_pushes N_law_pushes 3 := by
  intro ps H Q X h
  have hL : LIM = 1048576 := rfl
  obtain ⟨xs, t, n, v, ss, rfl, hx, ht, hn, hsrc, hss, hsl, hQ⟩ := h
  refine ⟨rfl, ?_⟩
  have fin : ∀ (rs : List Rw) (H' : AHeap) (k : Nat), RsOk 100 rs → PR rs ss → k ≤ n + 200 → H' t = some (.tape k) → ExtB t H H' → alloc (.list (rowsPV rs)) Q H' := fun rs H' k h1 hp h2 h4 h5 c H'' hc hc' e =>
    hQ c rs k H'' h1 hp h2 (fresh_of h5 h4 hc) hc' (e.at h4) (h5.trans (e.toB t))
  have one : ∀ s ∈ ss, ∀ (k : Nat) H', k ≤ n + 200 → H' t = some (.tape k) → ∀ K : List PV → AHeap → Prop, (∀ (w : W) H'', w.ok → (∀ ks, KW w ks (ks ++ [s])) → H'' t = some (.tape (k + 2)) → ExtB t H' H'' → K [.tup w.row] H'') → g01.C "_law_value" [.fls xs, .obj t, .str s] H' (fun v H => K [.tup [.str s, v]] H) fun c H => False := fun s hs k H' hk t' K hK => by
    refine U_value ⟨xs, t, s, k, rfl, hx, t', bd3 hn hk (by decide), fun v H'' hv hkv t'' e' => ?_⟩
    obtain ⟨w, hw, hrow, hkw⟩ := push_row (hss s hs) hv hkv
    rw [← hrow]
    exact hK w H'' hw hkw t'' e'
  have h0 : ([] : List Rw).length + ss.length ≤ 100 := by rw [List.length_nil, Nat.zero_add]; exact hsl
  rcases hsrc with rfl | ⟨a, rfl, ha⟩
  · exact comp_push (n := n) (rs := []) (fun _ _ => trivial) one fin rfl PR.nil rfl (fun _ h => (nomatch h)) h0 (Nat.le_add_right _ _) ht (fun _ _ _ h => h)
  · exact O_itL ha (comp_push (n := n) (rs := []) (fun _ e => e.at (fun e => by rw [e, ht] at ha; cases ha) ha) one fin rfl PR.nil rfl (fun _ h => (nomatch h)) h0 (Nat.le_add_right _ _) ht (fun _ _ _ h => h))
end Mine
end
section
open PySem PySem.W PySem.Calls PyProof.Rows
namespace Mine
set_option autoImplicit false

theorem lenNE {ns : List Str} (h : ns ≠ []) : 0 < ns.length := List.length_pos_iff.mpr h
theorem eq_told' {H : AHeap} {b c : Bl} (hb : b.2.2 = []) (hc : c.2.2 = []) : EqT H (blk b) (blk c) (decide (b.1 = c.1) && (decide (b.2.1 = c.2.1) && true)) := by
  obtain ⟨b1, b2, b3⟩ := b
  obtain ⟨c1, c2, c3⟩ := c
  replace hb : b3 = [] := hb
  replace hc : c3 = [] := hc
  subst hb hc
  exact .val (.tup (n := 39) (EqL.c (EqV.tup (n := 38) (EqL.strs b1 c1)) (EqL.c (EqV.tup (n := 38) (EqL.strs b2 c2)) EqL.nil)))
/-- some of the names of a list -/
theorem comp_some {src : AHeap → Prop} {el : PV → (List PV → AHeap → Prop) → AHeap → Prop} {Q : List PV → AHeap → Prop} {H : AHeap} {P : Str → Prop} (hs : src H) : ∀ {ns ls : List Str}, (∀ s ∈ ns, ∀ K : List PV → AHeap → Prop, K [] H → (P s → K [.str s] H) → el (.str s) K H) → (∀ u ∈ ls, P u) → (∀ us : List Str, (∀ u ∈ us, P u) → us.length ≤ ls.length + ns.length → Q (us.map .str) H) → compW src el Q (ns.map .str) (ls.map .str) H
  | [], ls, _, hl, hQ => ⟨hs, hQ ls hl (Nat.le_add_right _ _)⟩
  | s :: ns, ls, hel, hl, hQ => by
    have sub : ∀ s' ∈ ns, ∀ K : List PV → AHeap → Prop, K [] H → (P s' → K [.str s'] H) → el (.str s') K H := fun s' h' => hel s' (List.mem_cons_of_mem _ h')
    refine ⟨hs, hel s (List.mem_cons_self ..) _ ?_ fun hp => ?_⟩
    · rw [List.append_nil]
      exact comp_some hs sub hl fun us hu hq => hQ us hu (Nat.le_trans hq (Nat.add_le_add_left (Nat.le_succ _) _))
    · have := comp_some (ls := ls ++ [s]) (Q := Q) hs sub (fun u h => by rcases List.mem_append.mp h with h | h; exact hl u h; rw [List.mem_singleton.mp h]; exact hp) fun us hu hq => hQ us hu (by rw [List.length_append, List.length_singleton] at hq; rw [List.length_cons]; first | lia | omega)
      rw [List.map_append] at this
      exact this
theorem mx_one (l : Nat) : 0 < (if (1 : Int) < (l : Int) + 1 - 1 then (l : Int) + 1 - 1 else 1) ∧ (if (1 : Int) < (l : Int) + 1 - 1 then (l : Int) + 1 - 1 else 1) ≤ ((l + 1 : Nat) : Int) := by
  split <;> exact ⟨by first | lia | omega, by first | lia | omega⟩
theorem pick4 {z i : Int} (z0 : 0 ≤ z) (z1 : z < 4) (i0 : 0 ≤ i) (i1 : i < 1000000000) : ∃ j : Int, itemAt [PV.int 0, PV.int 1, PV.int 2, PV.int i] z = some (.int j) ∧ 0 ≤ j ∧ j < 1000000000 := by
  have : z = 0 ∨ z = 1 ∨ z = 2 ∨ z = 3 := by first | lia | omega
  rcases this with rfl | rfl | rfl | rfl
  · exact ⟨0, rfl, by decide, by decide⟩
  · exact ⟨1, rfl, by decide, by decide⟩
  · exact ⟨2, rfl, by decide, by decide⟩
  · exact ⟨i, rfl, i0, i1⟩
theorem kok_ne {s : Str} (h : KOk s) : s ≠ ("" : Str) := by
  rcases h with rfl | rfl <;> decide +kernel
theorem lack_pre {ks ts : List Str} (h : lackS ks ts = "") (hn : ∀ s ∈ ts, KOk s) : ∃ l, ks = l ++ ts := by
  obtain ⟨pre, vs, rfl, hv⟩ := split_atG (lack_le h)
  rw [lack_take hv, zip_any hv fun s hs => kok_ne (hn s hs)] at h
  have : vs = ts := Classical.byContradiction fun q => by rw [decide_eq_false q] at h; exact absurd h (by decide +kernel)
  rw [this]; exact ⟨pre, rfl⟩
theorem call_rn {es : Pr} {n : Str} {b : Bl} (l : List Str) (hn : n ∈ nmsP es) (hio : ioP es n = (b.1, b.2.1)) (hl : (l ++ b.1).length ≤ 100000) : Rn (nmsP es) (ioP es) (l ++ b.1) [.call n] (l ++ b.2.1) := by
  have h := KB.call (io := ioP es) l hn
  rw [hio] at h
  exact .one hl h
theorem iff_rn {es : Pr} {n m : Str} {b : Bl} {j : Int} (l : List Str) (hn : n ∈ nmsP es) (hm : m ∈ nmsP es ∧ ioP es m = ioP es n) (hio : ioP es n = (b.1, b.2.1)) (hl : (l ++ b.1).length ≤ 99000) : Rn (nmsP es) (ioP es) (l ++ b.1) [.pl (.num j), .iff n m] (l ++ b.2.1) := by
  have h := KB.iff (io := ioP es) l hn hm.1 hm.2
  rw [hio] at h
  exact .cons (Nat.le_trans hl (by decide)) (.pl (.num j _)) (.one (by rw [List.length_append, List.length_singleton]; exact Nat.le_trans (Nat.succ_le_succ hl) (by decide)) h)
set_option maxRecDepth 10000 in
theorem choice_ok : Ver spChoice B_law_choice N_law_choice 5 := by
  intro ps H Q X h
  have hL : LIM = 1048576 := rfl
  obtain ⟨xs, t, p, a, k, n, es, ns, ks, rfl, hx, ht, hn, hp, hpo, hen, ⟨ha, hin, hnl⟩, hlo, hk, hkl, hQ⟩ := h
  have hB : (2 : Nat) ^ 54 + 1000 ≤ 2 ^ 56 := by decide
  have hB1 : (2 : Nat) ^ 54 + 1000 ≤ 2 ^ 59 := by decide
  have hB2 : (2 : Nat) ^ 54 + 1000 ≤ 2 ^ 58 := by decide
  have hne := lenNE hlo
  have hpt : p ≠ t := fun e => by rw [e, ht] at hp; cases hp
  have hat : a ≠ t := fun e => by rw [e, ht] at ha; cases ha
  have hkt : k ≠ t := fun e => by rw [e, ht] at hk; cases hk
  refine ⟨rfl, ?_⟩
  refine O_lenL ha ?_
  rw [List.length_map]
  refine U_draw ⟨xs, t, _, n, rfl, hx, ht, by first | lia | omega, by first | lia | omega, fun r H₁ r0 r1 t₁ e₁ => ?_⟩
  obtain ⟨nm, hnm, gnm⟩ := names_at (ns := ns) r0 r1
  refine O_subL (e₁.at hat ha) gnm ?_
  obtain ⟨b, hb, hio, hbo⟩ := nm_get hpo (hin nm hnm)
  have hnp := hin nm hnm
  have hbn : b.2.2 = [] := hen _ (dget_mem hb)
  have hbl := hbo.2.2.1
  have gb := nm_blk hb
  have hbo2 := hbo.2.2.2
  have hkb : (ks ++ b.1).length ≤ 99000 := by rw [List.length_append]; first | lia | omega
  refine U_draw ⟨xs, t, _, n + 1, rfl, hx, t₁, by first | lia | omega, by decide, fun r' H₂ _ _ t₂ e₂ => ?_⟩
  have x₂ := e₁.trans e₂
  have a₂ := x₂.at hat ha
  have p₂ := x₂.at hpt hp
  clear e₁ e₂ t₁ r0 r1 gnm
  have push : ∀ (n' : Nat) (H' : AHeap) (more : List Rw), n' ≤ n + 20 → H' t = some (.tape n') → ExtB t H H' → (∀ r ∈ more, r.ok) → more.length ≤ 2 → Rn (nmsP es) (ioP es) (ks ++ b.1) more (ks ++ b.2.1) → g01.C "_law_pushes" [.fls xs, .obj t, .tup (b.1.map .str)] H' (fun v H => alloc (.list (rowsPV more)) (fun w H => binW .Add v w Q H) H) fun c H => X c H := fun n' H' more hn' t' x' hm hml hrn => by
    refine U_pushes ⟨xs, t, n', _, b.1, rfl, hx, t', by first | lia | omega, .inl rfl, hbo.1, by first | lia | omega, fun c rs n'' H₄ h1 hpr h4 h5 h6 h7 h8 => ?_⟩
    refine fun d H₅ hd h₅ e₅ => ?_
    have x₅ := (x'.trans h8).trans (e₅.toB t)
    have hrl := h1.2
    refine O_addL (e₅.at h6) h₅ (by rw [rowsPV_len, rowsPV_len]; first | lia | omega) fun z H₆ hz h₆ e₆ => ?_
    exact hQ z (rs ++ more) (ks ++ b.2.1) n'' H₆ (h1.app hm (by first | lia | omega)) ((hpr _ _ ks (Nat.le_trans hkl (by decide))).app hrn) (by rw [List.length_append]; first | lia | omega) (by first | lia | omega) (fresh_of x₅ (e₅.at h7) hz) (by rw [h₆, rowsPV_append]) (e₆.at (e₅.at h7)) (x₅.trans (e₆.toB t))
  refine O_ite (fun _ => ?_) (fun _ => ?_)
  · refine W_cut (fun m H' => Ex1 fun n' => An5 (m = [some (.fls xs), some (.obj t), some (.obj p), some (.obj a), some (.obj k), some (.str nm), none, none, none, none]) (n' ≤ n + 3) (H' t = some (.tape n')) (H' p = some (.dict (kvsP es))) (ExtB t H H')) ?_ ?_
    · intro K hK
      refine O_subD p₂ gb ?_
      refine O_listT fun c H₃ hc h₃ e₃ => ?_
      have x₃ : ExtB t H H₃ := x₂.trans (e₃.toB t)
      refine U_lack ⟨k, c, ks, b.1, rfl, x₃.at hkt hk, h₃, by first | lia | omega, by first | lia | omega, ?_⟩
      refine O_ite (fun hlk => ?_) (fun _ => ?_)
      · refine U_draw ⟨xs, t, _, n + 2, rfl, hx, e₃.at t₂, by first | lia | omega, by decide, fun r' H₄ _ _ t₄ e₄ => ?_⟩
        have x₄ := x₃.trans e₄
        refine O_ite (fun _ => ?_) (fun _ => ?_)
        · refine fun c H₅ hc h₅ e₅ => ?_
          obtain ⟨l, hl⟩ := lack_pre (beq_iff_eq.mp hlk) hbo.1
          rw [hl, List.length_append] at hkl
          rw [hl] at hQ
          exact hQ c [.call nm] (l ++ b.2.1) (n + 3) H₅ ⟨ok_one (r := .call nm) trivial, Nat.le_of_ble_eq_true rfl⟩ (call_rn l hnp hio (by rw [List.length_append]; first | lia | omega)) (by rw [List.length_append, List.length_append]; first | lia | omega) (by first | lia | omega) (fresh_of x₄ t₄ hc) h₅ (e₅.at t₄) (x₄.trans (e₅.toB t))
        · exact hK _ _ ⟨n + 3, rfl, by first | lia | omega, t₄, x₄.at hpt hp, x₄⟩
      · exact hK _ _ ⟨n + 2, rfl, by first | lia | omega, e₃.at t₂, e₃.at p₂, x₃⟩
    · rintro m H₃ ⟨n', rfl, hn', t₃, p₃, x₃⟩
      refine O_subD p₃ gb ?_
      exact push n' H₃ [.call nm] (by first | lia | omega) t₃ x₃ (ok_one (r := .call nm) trivial) (Nat.le_of_ble_eq_true rfl) (call_rn ks hnp hio (Nat.le_trans hkb (by decide)))
  · refine O_itL a₂ ?_
    refine comp_some (P := fun m => m ∈ nmsP es ∧ ioP es m = ioP es nm) (ls := []) a₂ (fun o ho K no yes => ?_) (fun _ h => (nomatch h)) fun ls hls hll => ?_
    · obtain ⟨c, hc, hio', _⟩ := nm_get hpo (hin o ho)
      refine O_subD p₂ (nm_blk hc) ?_
      refine O_subD p₂ gb ?_
      refine O_eqT (eq_told' (hen _ (dget_mem hc)) hbn) ?_
      refine O_ite (fun hq => ?_) (fun _ => ?_)
      · refine O_ite (fun _ => ?_) (fun _ => ?_)
        · rw [Bool.and_eq_true, Bool.and_eq_true, decide_eq_true_eq, decide_eq_true_eq] at hq
          exact yes ⟨hin o ho, by rw [hio', hio, hq.1, hq.2.1]⟩
        · exact no
      · exact no
    rw [List.length_nil, Nat.zero_add] at hll
    refine fun c H₄ hc h₄ e₄ => ?_
    refine fun d H₅ hd h₅ e₅ => ?_
    refine O_addL (e₅.at h₄) h₅ (by rw [List.length_map, List.length_singleton]; first | lia | omega) fun z H₆ hz h₆ e₆ => ?_
    rw [show List.map PV.str ls ++ [PV.str nm] = (ls ++ [nm]).map PV.str by rw [List.map_append]; rfl] at h₆
    have e₂₆ := (e₄.trans e₅).trans e₆
    have t₆ := e₂₆.at t₂
    have x₆ := x₂.trans (e₂₆.toB t)
    have hzt : z ≠ t := fun e => by rw [e, t₆] at h₆; cases h₆
    clear e₂₆ e₄ e₅ e₆ h₄ h₅ hc hd hz x₂ p₂ a₂ t₂
    refine U_draw ⟨xs, t, _, n + 2, rfl, hx, t₆, by first | lia | omega, by decide, fun r' H₄ _ _ t₄ e₄ => ?_⟩
    have c₄ := e₄.at hzt h₆
    refine O_lenL c₄ ?_
    rw [show ((List.map PV.str (ls ++ [nm])).length : Int) = (ls.length : Int) + 1 by rw [List.length_map, List.length_append]; rfl]
    have hm0 := mx_one ls.length
    refine O_modI hm0.1 ?_
    have hm := mod_lt (a := r') hm0.1
    obtain ⟨ot, hot, got⟩ := names_at (ns := ls ++ [nm]) hm.1 (by rw [List.length_append, List.length_singleton]; exact Int.lt_of_lt_of_le hm.2 hm0.2)
    refine O_subL c₄ got ?_
    refine U_value ⟨xs, t, _, n + 2 + 1, rfl, hx, t₄, by first | lia | omega, fun v H₅ hv hkv t₅ e₅ => ?_⟩
    obtain ⟨i, rfl, i0, i1⟩ := okv_num hv (by rw [hkv]; decide +kernel)
    refine fun d H₆ hd h₆ e₆ => ?_
    refine U_draw ⟨xs, t, _, n + 2 + 1 + 2, rfl, hx, e₆.at t₅, by first | lia | omega, by decide, fun z H₇ z0 z1 t₇ e₇ => ?_⟩
    obtain ⟨j, hj, j0, j1⟩ := pick4 z0 z1 i0 i1
    refine O_subL (e₇.at (Ne.symm (ne_of t₅ hd)) h₆) hj ?_
    have x₇ : ExtB t H H₇ := (((x₆.trans e₄).trans e₅).trans (e₆.toB t)).trans e₇
    refine O_subD (x₇.at hpt hp) gb ?_
    refine push (n + 2 + 1 + 2 + 1) H₇ [.pl (.num j), .iff nm ot] (by first | lia | omega) t₇ x₇ (fun r hr => ?_) (Nat.le_refl 2) (iff_rn ks hnp ?_ hio hkb)
    rotate_left
    · rcases List.mem_append.mp hot with h | h
      · exact hls ot h
      · rw [List.mem_singleton.mp h]; exact ⟨hnp, rfl⟩
    rcases List.mem_cons.mp hr with rfl | hr
    · exact ⟨j0, j1⟩
    · rw [List.mem_singleton.mp hr]; exact trivial
theorem fitting_ok : Ver spFitting B_law_fitting N_law_fitting 5 := by
  intro ps H Q X h
  have hL : LIM = 1048576 := rfl
  obtain ⟨xs, t, p, a, k, n, es, ns, ks, rfl, hx, ht, hn, hp, hpo, hen, ⟨ha, hin, hnl⟩, _, hk, hkl, hQ⟩ := h
  have hB : (2 : Nat) ^ 53 + 1000 ≤ 2 ^ 54 := by decide
  have hB1 : (2 : Nat) ^ 54 ≤ 2 ^ 59 := by decide
  have hB2 : (2 : Nat) ^ 54 ≤ 2 ^ 57 := by decide
  have hB3 : (2 : Nat) ^ 54 ≤ 2 ^ 56 := by decide
  have hpt : p ≠ t := fun e => by rw [e, ht] at hp; cases hp
  have hat : a ≠ t := fun e => by rw [e, ht] at ha; cases ha
  have hkt : k ≠ t := fun e => by rw [e, ht] at hk; cases hk
  refine ⟨rfl, ?_⟩
  refine W_cut (fun m H' => Ex1 fun n' => An4 (m = [some (.fls xs), some (.obj t), some (.obj p), some (.obj a), some (.obj k), none]) (n' ≤ n + 1) (H' t = some (.tape n')) (ExtB t H H')) ?_ ?_
  · intro K hK
    refine O_lenL ha ?_
    refine O_ite (fun hgt => ?_) (fun _ => ?_)
    · have hne : ns ≠ [] := by rintro rfl; exact absurd hgt (by decide)
      refine U_draw ⟨xs, t, _, n, rfl, hx, ht, by first | lia | omega, by decide, fun r H₁ r0 r1 t₁ e₁ => ?_⟩
      refine O_ite (fun _ => ?_) (fun _ => ?_)
      · refine U_choice ⟨xs, t, p, a, k, n + 1, es, ns, ks, rfl, hx, t₁, by first | lia | omega, e₁.at hpt hp, hpo, hen, ⟨e₁.at hat ha, hin, hnl⟩, hne, e₁.at hkt hk, hkl, fun c rs zs n' H' h1 hrn hzl h4 h5 h6 h7 h8 => ?_⟩
        exact hQ c rs zs n' H' h1 hrn hzl (by first | lia | omega) (fresh_of e₁ t₁ h5) h6 h7 (e₁.trans h8)
      · exact hK _ _ ⟨n + 1, rfl, by first | lia | omega, t₁, e₁⟩
    · exact hK _ _ ⟨n, rfl, by first | lia | omega, ht, fun _ _ _ h => h⟩
  rintro m H₁ ⟨n₁, rfl, hn₁, t₁, x₁⟩
  refine U_plain ⟨xs, t, n₁, rfl, hx, t₁, by first | lia | omega, fun w n₂ H₂ hw hn₂ t₂ e₂ => ?_⟩
  refine U_wanted ⟨w, rfl, hw, fun d H₃ hd h₃ e₃ => ?_⟩
  have x₃ : ExtB t H H₃ := (x₁.trans e₂).trans (e₃.toB t)
  have t₃ := e₃.at t₂
  refine U_lack ⟨k, d, ks, wantedS w, rfl, x₃.at hkt hk, h₃, by first | lia | omega, by have := wanted_len hw; first | lia | omega, ?_⟩
  refine O_ite (fun hlk => ?_) (fun _ => ?_)
  · refine fun c H₄ hc h₄ e₄ => ?_
    obtain ⟨ys, hy⟩ := kw_of (beq_iff_eq.mp hlk)
    have hyl := hy.len
    exact hQ c [.pl w] ys n₂ H₄ ⟨ok_one (r := .pl w) hw, Nat.le_of_ble_eq_true rfl⟩ (.one (Nat.le_trans hkl (by decide)) (.pl hy)) (by first | lia | omega) (by first | lia | omega) (fresh_of x₃ t₃ hc) h₄ (e₄.at t₃) (x₃.trans (e₄.toB t))
  · refine fun c H₄ hc h₄ e₄ => ?_
    refine U_draw ⟨xs, t, _, n₂, rfl, hx, e₄.at t₃, by first | lia | omega, by decide, fun r H₅ r0 r1 t₅ e₅ => ?_⟩
    obtain ⟨s, gs, hs⟩ := kind_ne r0 r1
    refine O_subL (e₅.at (Ne.symm (ne_of t₃ hc)) h₄) gs ?_
    refine fun f H₆ hf h₆ e₆ => ?_
    have x₆ : ExtB t H H₆ := ((x₃.trans (e₄.toB t)).trans e₅).trans (e₆.toB t)
    refine U_pushes ⟨xs, t, n₂ + 1, _, [s], rfl, hx, e₆.at t₅, by first | lia | omega, .inr ⟨f, rfl, h₆⟩, fun q hq => by rw [List.mem_singleton.mp hq]; exact hs, Nat.le_of_ble_eq_true rfl, fun c rs n' H' h1 hpr h4 h5 h6 h7 h8 => ?_⟩
    exact hQ c rs (ks ++ [s]) n' H' ⟨h1.1, Nat.le_trans h1.2 (by decide)⟩ (hpr _ _ ks (Nat.le_trans hkl (by decide))) (by rw [List.length_append, List.length_singleton]; first | lia | omega) (by first | lia | omega) (fresh_of x₆ (e₆.at t₅) h5) h6 h7 (x₆.trans h8)
end Mine
end
section
open PySem PySem.W PySem.Calls PyProof.Rows
namespace Mine
set_option autoImplicit false

theorem rows_drops (k : Nat) : repL (k : Int) [PV.tup [PV.str "drop"]] = rowsPV (List.replicate k (.pl .drop)) := by
  unfold repL
  rw [Int.toNat_natCast]
  induction k with
  | zero => rfl
  | succ k ih => rw [List.replicate_succ, List.flatten_cons, ih, List.replicate_succ]; rfl
theorem drop_min (l : List Str) (k : Nat) : (l.map PV.str).drop (min k l.length) = (l.map PV.str).drop k := by
  rcases Nat.le_total k l.length with h | h
  · rw [Nat.min_eq_left h]
  · rw [Nat.min_eq_right h, List.drop_eq_nil_of_le (by simp), List.drop_eq_nil_of_le (by simpa using h)]
theorem ok_drops (k : Nat) : ∀ r ∈ List.replicate k (Rw.pl .drop), r.ok := fun r hr => by rw [(List.mem_replicate.mp hr).2]; exact trivial

theorem drops_rn (ns : List Str) (io : Io) : ∀ (k : Nat) (ks : List Str), ks.length = k → k ≤ 100000 → Rn ns io ks (List.replicate k (.pl .drop)) []
  | 0, ks, h, _ => by rw [List.length_eq_zero_iff.mp h]; exact .nil
  | k + 1, ks, h, hk => by
    obtain ⟨pre, vs, rfl, hv⟩ := split_atG (st := ks) (k := 1) (by rw [h]; exact Nat.le_add_left _ _)
    obtain ⟨x, rfl⟩ := rev_one hv
    rw [List.length_append, List.length_singleton] at h
    exact .cons (by rw [List.length_append, List.length_singleton, h]; exact hk) (.pl (.drop pre x)) (drops_rn ns io k pre (Nat.succ.inj h) (Nat.le_of_succ_le hk))
theorem drop_last {ks : List Str} (h : 0 < ks.length) : ∃ pre x, ks = pre ++ [x] ∧ ks.take (ks.length - 1) = pre := by
  obtain ⟨pre, vs, rfl, hv⟩ := split_atG (st := ks) (k := 1) h
  obtain ⟨x, rfl⟩ := rev_one hv
  exact ⟨pre, x, rfl, by rw [List.length_append, List.length_singleton, Nat.add_sub_cancel, List.take_left]⟩
set_option maxRecDepth 10000 in
set_option maxHeartbeats 1000000 in
theorem goodrows_ok : Ver spGoodRows B_law_good_rows N_law_good_rows 5 := by
  intro ps H Q X h
  have hL : LIM = 1048576 := rfl
  obtain ⟨xs, t, p, a, n, es, ns, nm, ins, outs, rfl, hx, ht, hn, hp, hpo, hen, ⟨ha, hin, hnl⟩, hb, hQ⟩ := h
  have hB : (2 : Nat) ^ 52 + 5000 ≤ 2 ^ 53 := by decide
  have hB0 : (2 : Nat) ^ 53 ≤ 2 ^ 56 := by decide
  have hB2 : (2 : Nat) ^ 53 ≤ 2 ^ 59 := by decide
  have hbo : BOk (ins, outs, []) := hpo.blks _ (dget_mem hb)
  have gb := nm_blk hb
  obtain ⟨hi, ho, hil, hol⟩ := hbo
  replace hil : ins.length ≤ 60 := hil
  replace hol : outs.length ≤ 60 := hol
  have hpt : p ≠ t := fun e => by rw [e, ht] at hp; cases hp
  have hat : a ≠ t := fun e => by rw [e, ht] at ha; cases ha
  refine ⟨rfl, ?_⟩
  refine O_subD hp gb ?_
  refine ⟨rfl, ?_⟩
  refine O_listT fun k H₁ hk h₁ e₁ => ?_
  refine fun r H₂ hr h₂ e₂ => ?_
  have hrH : H r = none := e₁.back hr
  have hrt : r ≠ t := Ne.symm (ne_of ht hrH)
  refine U_draw ⟨xs, t, _, n, rfl, hx, e₂.at (e₁.at ht), by first | lia | omega, by decide, fun z H₃ z0 z1 t₃ e₃ => ?_⟩
  obtain ⟨z, rfl⟩ := Int.eq_ofNat_of_zero_le z0
  refine O_range (by first | lia | omega) ?_
  refine forR (n := z) (fun j m H' => Ex6 fun (k : Addr) (ks : List Str) (rs : List Rw) (n' : Nat) (x9 x10 : Option PV) => An10 (m = [some (.fls xs), some (.obj t), some (.obj p), some (.str nm), some (.obj a), some (.tup (ins.map .str)), some (.tup (outs.map .str)), some (.obj k), some (.obj r), x9, x10, none, none, none]) (Rn (nmsP es) (ioP es) ins rs ks) (k ≠ r) (RsOk (110 * j) rs) (ks.length ≤ 60 + 200 * j) (n' ≤ n + 1 + 400 * j) (H' t = some (.tape n')) (H' k = some (.list (ks.map .str))) (H' r = some (.list (rowsPV rs))) (ExtB t H H')) ?_ ?_ _ _
    ⟨k, ins, [], n + 1, none, none, rfl, .nil, ne_of h₁ hr, ⟨fun _ h => (nomatch h), Nat.zero_le _⟩, by first | lia | omega, by first | lia | omega, t₃, e₃.at (Ne.symm (ne_of ht hk)) (e₂.at h₁), e₃.at hrt h₂, ((e₁.trans e₂).toB t).trans e₃⟩
  · clear t₃ e₃ h₂ e₂ h₁ e₁ hk hr
    rintro m H₄ ⟨k, ks, rs, n₄, x9, x10, rfl, hrn, hkr, ⟨hro, hrl⟩, hkl, hn₄, t₄, k₄, r₄, x₄⟩
    have hz5 : z ≤ 5 := by first | lia | omega
    replace hkl : ks.length ≤ 1100 := by first | lia | omega
    replace hrl : rs.length ≤ 550 := by first | lia | omega
    replace hn₄ : n₄ ≤ n + 2001 := by first | lia | omega
    have a₄ := x₄.at hat ha
    have p₄ := x₄.at hpt hp
    have hkt : k ≠ t := fun e => by rw [e, t₄] at k₄; cases k₄
    refine O_itL a₄ ?_
    refine comp_some (P := fun s => s ∈ nmsP es ∧ (ioP es s).2 = outs) (ls := []) a₄ (fun s hs K no yes => ?_) (fun _ h => (nomatch h)) fun zs hzs hzl => ?_
    · obtain ⟨c, hc, hio, _⟩ := nm_get hpo (hin s hs)
      refine O_subD p₄ (nm_blk hc) ?_
      refine O_eqT (eq_strs c.2.1 outs) ?_
      refine O_ite (fun hq => ?_) (fun _ => ?_)
      · exact yes ⟨hin s hs, by rw [hio]; exact decide_eq_true_eq.mp hq⟩
      · exact no
    rw [List.length_nil, Nat.zero_add] at hzl
    refine fun d H₅ hd h₅ e₅ => ?_
    refine W_cut (fun m H' => Ex1 fun n' => An4 (n' ≤ n₄ + 1) (m = [some (.fls xs), some (.obj t), some (.obj p), some (.str nm), some (.obj a), some (.tup (ins.map .str)), some (.tup (outs.map .str)), some (.obj k), some (.obj r), x9, x10, none, some (.obj d), none]) (H' t = some (.tape n')) (ExtB t H₅ H')) ?_ ?_
    · intro K hK
      refine O_lenL h₅ ?_
      rw [List.length_map]
      refine O_ite (fun hpos => ?_) (fun _ => ?_)
      · have hzp : 0 < (zs.length : Int) := by simpa using hpos
        refine U_draw ⟨xs, t, _, n₄, rfl, hx, e₅.at t₄, by first | lia | omega, by decide, fun y H₆ y0 y1 t₆ e₆ => ?_⟩
        refine O_ite (fun _ => ?_) (fun _ => ?_)
        · have hdt : d ≠ t := Ne.symm (ne_of t₄ hd)
          refine U_draw ⟨xs, t, _, n₄ + 1, rfl, hx, t₆, by first | lia | omega, by decide, fun y' H₇ y0' y1' t₇ e₇ => ?_⟩
          have d₇ := e₇.at hdt (e₆.at hdt h₅)
          refine O_lenL d₇ ?_
          rw [List.length_map]
          refine O_modI hzp ?_
          have hm := mod_lt (a := y') hzp
          obtain ⟨o, hom, go⟩ := names_at (ns := zs) hm.1 hm.2
          refine O_subL d₇ go ?_
          have x₇ : ExtB t H₄ H₇ := ((e₅.toB t).trans e₆).trans e₇
          clear d₇ go hm e₇ e₆ y0 y1 y0' y1'
          refine fun f H₈ hf h₈ e₈ => ?_
          refine O_lenL (e₈.at (x₇.at hkt k₄)) ?_
          rw [List.length_map]
          refine O_mulL h₈ (by first | lia | omega) (by first | lia | omega) (by rw [Int.toNat_natCast, List.length_singleton]; first | lia | omega) fun f' H₉ hf' h₉ e₉ => ?_
          rw [rows_drops] at h₉
          refine O_addL (e₉.at (e₈.at (x₇.at hrt r₄))) h₉ (by rw [rowsPV_len, rowsPV_len, List.length_replicate]; first | lia | omega) fun v H₁₀ hv h₁₀ e₁₀ => ?_
          rw [← rowsPV_append] at h₁₀
          have e7a := (e₈.trans e₉).trans e₁₀
          have x₁₀ : ExtB t H₄ H₁₀ := x₇.trans (e7a.toB t)
          have hvt : v ≠ t := Ne.symm (ne_of ((e₈.trans e₉).at t₇) hv)
          obtain ⟨c, hc, hio, hco⟩ := nm_get hpo (hzs o hom).1
          have hzo := (hzs o hom).2
          rw [hio] at hzo
          replace hzo : c.2.1 = outs := hzo
          have hcl := hco.2.2.1
          refine O_subD (x₁₀.at hpt p₄) (nm_blk hc) ?_
          refine U_pushes ⟨xs, t, n₄ + 2, _, c.1, rfl, hx, e7a.at t₇, by first | lia | omega, .inl rfl, hco.1, by first | lia | omega, fun c' us' n' H₁₁ c1 cpr c4 c5 c6 c7 c8 => ?_⟩
          have hul := c1.2
          refine O_addL (c8.at hvt h₁₀) c6 (by rw [rowsPV_len, rowsPV_len, List.length_append, List.length_replicate]; first | lia | omega) fun g H₁₂ hgg h₁₂ e₁₂ => ?_
          rw [← rowsPV_append] at h₁₂
          refine fun g' H₁₃ hgg' h₁₃ e₁₃ => ?_
          refine O_addL (e₁₃.at h₁₂) h₁₃ (by rw [rowsPV_len, List.length_append, List.length_append, List.length_replicate, List.length_singleton]; first | lia | omega) fun w H₁₄ hw h₁₄ e₁₄ => ?_
          have x₁₃ : ExtB t H H₁₃ := (x₄.trans (x₁₀.trans c8)).trans ((e₁₂.trans e₁₃).toB t)
          have t₁₃ := (e₁₂.trans e₁₃).at c7
          refine hQ w (rs ++ List.replicate ks.length (.pl .drop) ++ us' ++ [.call o]) n' H₁₄ ⟨ok_app (ok_app (ok_app hro (ok_drops _)) c1.1) (ok_one (r := .call o) trivial), ?_⟩ ?_ (by first | lia | omega) (fresh_of x₁₃ t₁₃ hw) ?_ (e₁₄.at t₁₃) (x₁₃.trans (e₁₄.toB t))
          · rw [List.length_append, List.length_append, List.length_append, List.length_replicate, List.length_singleton]; first | lia | omega
          · rw [← hzo]
            exact ((hrn.app (drops_rn _ _ _ ks rfl (by first | lia | omega))).app (cpr _ _ [] (by decide))).app (call_rn [] (hzs o hom).1 hio (by rw [List.nil_append]; first | lia | omega))
          · rw [h₁₄, rowsPV_append (b := [.call o])]; rfl
        · exact hK _ _ ⟨n₄ + 1, by first | lia | omega, rfl, t₆, e₆⟩
      · exact hK _ _ ⟨n₄, by first | lia | omega, rfl, e₅.at t₄, fun _ _ _ h => h⟩
    · rintro m H₆ ⟨n₆, hn₆, rfl, t₆, e₆⟩
      refine ⟨fun z m H' => Ex3 fun (k : Addr) (ks : List Str) (rs : List Rw) => An11 (z = ks.length) (Rn (nmsP es) (ioP es) ins rs ks) (m = [some (.fls xs), some (.obj t), some (.obj p), some (.str nm), some (.obj a), some (.tup (ins.map .str)), some (.tup (outs.map .str)), some (.obj k), some (.obj r), x9, x10, none, some (.obj d), none]) (k ≠ r) (k ≠ t) (∀ q ∈ rs, q.ok) (rs.length + ks.length ≤ 2000) (H' t = some (.tape n₆)) (H' k = some (.list (ks.map .str))) (H' r = some (.list (rowsPV rs))) (ExtB t H H'), ⟨_, k, ks, rs, rfl, hrn, rfl, hkr, hkt, hro, by first | lia | omega, t₆, e₆.at hkt (e₅.at k₄), e₆.at hrt (e₅.at r₄), (x₄.trans (e₅.toB t)).trans e₆⟩, ?_⟩
      clear hkt hkr hro hrl hkl hrn k₄ r₄ t₄ x₄ a₄ p₄ ks rs k
      rintro z m H' ⟨k, ks, rs, rfl, hrn, rfl, hkr, hkt, hro, hrl, t', k', r', x'⟩
      refine O_tupL k' ?_
      refine O_lenL k' ?_
      refine O_toT (ys := (outs.take ks.length).map .str) (by rw [List.map_take, List.length_map, List.length_map]; unfold cutAt; rw [if_pos (by first | lia | omega), Int.toNat_natCast]; rw [List.take_eq_take_iff, List.length_map, Nat.min_assoc, Nat.min_self]) ?_
      refine O_neT (eq_strs _ _) ?_
      refine O_ite (fun hne => ?_) (fun heq => ?_)
      · have hpos : 0 < ks.length := by
          rcases Nat.eq_zero_or_pos ks.length with h | h
          · rw [List.length_eq_zero_iff.mp h] at hne; exact absurd hne (by simp)
          · exact h
        refine O_toL k' fun c H₇ hc h₇ e₇ => ?_
        rw [List.length_map, show cutAt ks.length (-1) = ks.length - 1 by unfold cutAt; rw [if_neg (by decide)]; first | lia | omega, ← List.map_take] at h₇
        have r₇ := e₇.at r'
        refine O_recv r₇ rfl ?_
        refine O_append r₇ (by rw [rowsPV_len]; first | lia | omega) fun H₈ h₈ e₈ => ?_
        have hcr : c ≠ r := Ne.symm (ne_of r' hc)
        obtain ⟨pre, x, hks, hpre⟩ := drop_last hpos
        rw [hpre] at h₇
        have hkl : ks.length = pre.length + 1 := by rw [hks, List.length_append]; rfl
        exact ⟨pre.length, by rw [hkl]; exact Nat.lt_succ_self _, c, pre, rs ++ [.pl .drop], rfl, hrn.app (by rw [hks]; exact .one (by rw [← hks]; first | lia | omega) (.pl (.drop pre x))), rfl, hcr, Ne.symm (ne_of t' hc), ok_app hro (ok_one (r := .pl .drop) trivial), by rw [List.length_append, List.length_singleton]; first | lia | omega, e₈.at (Ne.symm hrt) (e₇.at t'), e₈.at hcr h₇, by rw [h₈, rowsPV_append]; rfl, ExtB.over hrH (x'.trans (e₇.toB t)) e₈⟩
      · refine O_lenL k' ?_
        refine O_fromT (ys := (outs.drop ks.length).map .str) (by rw [List.map_drop, List.length_map, List.length_map]; unfold cutAt; rw [if_pos (by first | lia | omega), Int.toNat_natCast]; exact drop_min _ _) ?_
        refine U_pushes ⟨xs, t, n₆, _, outs.drop ks.length, rfl, hx, t', by first | lia | omega, .inl rfl, fun s hs => ho s (List.mem_of_mem_drop hs), by rw [List.length_drop]; first | lia | omega, fun c us' n' H₇ c1 cpr c4 c5 c6 c7 c8 => ?_⟩
        have hul := c1.2
        refine O_addL (c8.at hrt r') c6 (by rw [rowsPV_len, rowsPV_len]; first | lia | omega) fun w H₈ hw h₈ e₈ => ?_
        have x₇ := x'.trans c8
        have heq' : ks = outs.take ks.length := Classical.byContradiction fun q => heq (by rw [decide_eq_false q]; rfl)
        have hto := List.take_append_drop ks.length outs
        rw [← heq'] at hto
        exact hQ w (rs ++ us') n' H₈ ⟨ok_app hro c1.1, by rw [List.length_append]; first | lia | omega⟩ (hrn.app (by have := cpr (nmsP es) (ioP es) ks (by first | lia | omega); rwa [hto] at this)) (by first | lia | omega) (fresh_of x₇ c7 hw) (by rw [h₈, rowsPV_append]) (e₈.at c7) (x₇.trans (e₈.toB t))
  · clear t₃ e₃ h₂ e₂ h₁ e₁ hk hr
    rintro j m H' hj ⟨k, ks, rs, n', x9, x10, rfl, hrn, hkr, ⟨hro, hrl⟩, hkl, hn', t', k', r', x'⟩ K hK
    have hj5 : j < 5 := by first | lia | omega
    refine U_fitting ⟨xs, t, p, a, k, n', es, ns, ks, rfl, hx, t', by first | lia | omega, x'.at hpt hp, hpo, hen, ⟨x'.at hat ha, hin, hnl⟩, trivial, k', by first | lia | omega, fun f fs zs n'' H'' ⟨f1, f2⟩ frn fzl f4 f5 f6 f7 f8 => ?_⟩
    have hkt : k ≠ t := fun e => by rw [e, t'] at k'; cases k'
    have hfr : f ≠ r := Ne.symm (ne_of r' f5)
    refine O_itL f6 ?_
    refine forW_ind (fun rest m Hx => Ex5 fun (k : Addr) (ks : List Str) (dn us : List Rw) (x10 : Option PV) => An10 (fs = dn ++ us) (Rn (nmsP es) (ioP es) ins (rs ++ dn) ks ∧ Rn (nmsP es) (ioP es) ks us zs) (rest = rowsPV us) (m = [some (.fls xs), some (.obj t), some (.obj p), some (.str nm), some (.obj a), some (.tup (ins.map .str)), some (.tup (outs.map .str)), some (.obj k), some (.obj r), some (.int j), x10, none, none, none]) (k ≠ r) (Hx t = some (.tape n'')) (Hx k = some (.list (ks.map .str))) (Hx r = some (.list (rowsPV (rs ++ dn)))) (Hx f = some (.list (rowsPV fs))) (ExtB t H Hx)) ?_ ?_ _ _ _
      ⟨k, ks, [], fs, x10, rfl, ⟨by rw [List.append_nil]; exact hrn, frn⟩, rfl, rfl, hkr, f7, f8.at hkt k', by rw [List.append_nil]; exact f8.at hrt r', f6, x'.trans f8⟩
    · rintro m Hx ⟨k, ks, dn, us, x10, hs, hru, hr', rfl, hkr, t₁, k₁, r₁, f₁, x₁⟩
      have : us = [] := by cases us with | nil => rfl | cons _ _ => cases hr'
      subst this
      rw [List.append_nil] at hs
      subst hs
      obtain ⟨hr1, hr2⟩ := hru
      cases hr2
      exact ⟨f₁, hK _ _ ⟨k, _, rs ++ fs, n'', _, x10, rfl, hr1, hkr, ⟨ok_app hro f1, by rw [List.length_append]; first | lia | omega⟩, by first | lia | omega, by first | lia | omega, t₁, k₁, r₁, x₁⟩⟩
    · rintro y ys m Hx ⟨k, ks, dn, us, x10, hs, hru, hr', rfl, hkr, t₁, k₁, r₁, f₁, x₁⟩
      cases us with
      | nil => cases hr'
      | cons q us =>
      cases hr'
      refine ⟨f₁, fun K hK => ?_⟩
      have hdl : dn.length + (us.length + 1) = fs.length := by rw [hs, List.length_append]; rfl
      obtain ⟨hr1, hr2⟩ := hru
      cases hr2 with
      | @cons _ ys _ _ _ hl hb ht =>
      refine U_next ⟨p, k, es, ks, ys, q, rfl, x₁.at hpt hp, hpo, f1 q (by rw [hs]; exact List.mem_append.mpr (.inr (List.mem_cons_self ..))), k₁, hl, hb, fun c H₂ hc h₂ e₂ => ?_⟩
      have r₂ := e₂.at r₁
      refine O_recv r₂ rfl ?_
      refine O_append r₂ (by rw [rowsPV_len, List.length_append]; first | lia | omega) fun H₃ h₃ e₃ => ?_
      have hcr : c ≠ r := Ne.symm (ne_of r₁ hc)
      refine hK _ _ ⟨c, ys, dn ++ [q], us, _, by rw [hs, List.append_assoc]; rfl, ⟨by rw [← List.append_assoc]; exact hr1.app (.one hl hb), ht⟩, rfl, rfl, hcr, e₃.at (Ne.symm hrt) (e₂.at t₁), e₃.at hcr h₂, ?_, e₃.at hfr (e₂.at f₁), ExtB.over hrH (x₁.trans (e₂.toB t)) e₃⟩
      rw [h₃, ← List.append_assoc, rowsPV_append (b := [q])]; rfl
end Mine
end
section
open PySem PySem.W PySem.Calls PyProof.Rows
namespace Mine
set_option autoImplicit false

theorem O_listD {H : AHeap} {Q : Post} {a : Addr} {kvs : List (Str × PV)} (ha : H a = some (.dict kvs)) (h : ∀ c H', H c = none → H' c = some (.list (kvs.map fun x => .str x.1)) → Ext H H' → Q (.obj c) H') : BltW Q H .list [.obj a] := .listD a kvs ha h
theorem kvs_names (es : Pr) : (kvsP es).map (fun x => PV.str x.1) = (es.map (·.1)).map .str := by unfold kvsP; rw [List.map_map, List.map_map]; rfl
theorem get_str {ns : List Str} {j : Nat} (hj : j < ns.length) : itemAt (ns.map PV.str) (j : Int) = some (.str ns[j]) := itemAt_nat rfl (by simp [hj])
theorem kvsP_len (es : Pr) : (kvsP es).length = es.length := by unfold kvsP; rw [List.length_map]
theorem prj_mem {es fs : Pr} (h : fs.map prj = es.map prj) {q : Str × Bl} (hq : q ∈ fs) : ∃ q' ∈ es, q'.1 = q.1 ∧ q'.2.1 = q.2.1 ∧ q'.2.2.1 = q.2.2.1 := by
  have : prj q ∈ es.map prj := by rw [← h]; exact List.mem_map_of_mem hq
  obtain ⟨q', h1, h2⟩ := List.mem_map.mp this
  unfold prj at h2
  simp only [Prod.mk.injEq] at h2
  exact ⟨q', h1, h2.1, h2.2.1, h2.2.2⟩
theorem prj_fst {es fs : Pr} (h : fs.map prj = es.map prj) : fs.map (·.1) = es.map (·.1) := by
  have := congrArg (List.map (fun x => x.1)) h
  rw [List.map_map, List.map_map] at this; exact this
theorem POk.of_prj {es fs : Pr} (h : fs.map prj = es.map prj) (k : POk es) : POk fs := by
  refine ⟨by rw [prj_fst h]; exact k.nodup, fun q hq => ?_, fun q hq => ?_, by have := congrArg List.length h; simp at this; rw [this]; exact k.len⟩
  · obtain ⟨q', h1, h2, _⟩ := prj_mem h hq
    rw [← h2]; exact k.name q' h1
  · obtain ⟨q', h1, _, h3, h4⟩ := prj_mem h hq
    have := k.blks q' h1
    unfold BOk at this ⊢
    rw [h3, h4] at this; exact this
theorem dset_new {α : Type} {es : List (Str × α)} {k : Str} {v : α} (h : k ∉ es.map (·.1)) : dset es k v = es ++ [(k, v)] := by
  unfold dset
  rw [if_neg]
  intro q
  obtain ⟨p, hp, e⟩ := List.any_eq_true.mp q
  exact h (List.mem_map.mpr ⟨p, hp, by simpa using e⟩)
theorem nodup_take {l : List Str} (h : l.Nodup) {j : Nat} (hj : j < l.length) : l[j] ∉ l.take j := fun hm => by
  rw [← List.take_append_drop j l, List.drop_eq_getElem_cons hj] at h
  exact (List.nodup_append.mp h).2.2 _ hm _ (List.mem_cons_self ..) rfl
theorem RowsP.ext {H H' : AHeap} {es : Pr} {rw : Str → List Rw} (h : RowsP H es rw) (e : Ext H H') : RowsP H' es rw := fun q hq => by
  obtain ⟨ok, a, h1, h2⟩ := h q hq
  exact ⟨ok, a, h1, e.at h2⟩
theorem Pg.ext {H H' : AHeap} {p : Addr} {es : Pr} {rw' : Str → List Rw} (h : Pg H p es rw') (e : Ext H H') : Pg H' p es rw' := ⟨e.at h.ha, h.ok, h.ne, h.rows.ext e⟩
theorem RowsP.off {H H' : AHeap} {d : Addr} {es : Pr} {rw : Str → List Rw} (h : RowsP H es rw) (e : ExtB d H H') (hd : ∀ xs, H d ≠ some (.list xs)) : RowsP H' es rw := fun q hq => by
  obtain ⟨ok, a, h1, h2⟩ := h q hq
  exact ⟨ok, a, h1, e.at (fun q => hd _ (q ▸ h2)) h2⟩
theorem all_snoc {P : Str × Bl → List Rw → Prop} {fs : Pr} {rw : Str → List Rw} {x : Str × Bl} {rs : List Rw} (h : ∀ q ∈ fs, P q (rw q.1)) (hn : x.1 ∉ fs.map (·.1)) (hx : P x rs) : ∀ q ∈ fs ++ [x], P q (if q.1 = x.1 then rs else rw q.1) := fun q hq => by
  rcases List.mem_append.mp hq with hq | hq
  · rw [if_neg (fun (e : q.1 = x.1) => hn (by rw [← e]; exact List.mem_map_of_mem hq))]; exact h q hq
  · rw [List.mem_singleton.mp hq, if_pos rfl]; exact hx
theorem io_eq (es : Pr) (s : Str) : ioP es s = (dget (es.map prj) s).getD ([], []) := by
  rw [show dget (es.map prj) s = (dget es s).map (fun b : Bl => (b.1, b.2.1)) from dget_map (fun b : Bl => (b.1, b.2.1)) s es]
  unfold ioP
  cases dget es s <;> rfl
theorem io_prj {es fs : Pr} (h : fs.map prj = es.map prj) : ioP fs = ioP es := funext fun s => by rw [io_eq, io_eq, h]
theorem kvsP_snoc (fs : Pr) (nm : Str) (b : Bl) (hn : nm ∉ fs.map (·.1)) : dset (kvsP fs) nm (blk b) = kvsP (fs ++ [(nm, b)]) := by rw [dset_blk, dset_new hn]
set_option maxRecDepth 10000 in
set_option maxHeartbeats 1000000 in
theorem goodprogram_ok : Ver spGoodProgram B_law_good_program N_law_good_program 2 := by
  intro ps H Q X h
  have hL : LIM = 1048576 := rfl
  obtain ⟨xs, t, n, rfl, hx, ht, hn, hQ⟩ := h
  refine ⟨rfl, ?_⟩
  refine U_told ⟨xs, t, n, rfl, hx, ht, bd0 hn (by decide), fun p es n₁ H₁ hpo hne hen hpH p₁ hn₁ t₁ e₁ => ?_⟩
  have hle := hpo.len
  refine O_listD p₁ fun c H₂ hc h₂ e₂ => ?_
  rw [kvs_names] at h₂
  have hct : c ≠ t := Ne.symm (ne_of t₁ hc)
  have hpt : p ≠ t := fun e => by rw [e, t₁] at p₁; cases p₁
  refine U_draw ⟨xs, t, _, n₁, rfl, hx, e₂.at t₁, bd3 hn hn₁ (by decide), by decide, fun dn H₃ _ _ t₃ e₃ => ?_⟩
  have c₃ := e₃.at hct h₂
  have p₃ := e₃.at hpt (e₂.at p₁)
  clear e₃ h₂ e₂ p₁ t₁ e₁ hpH
  refine fun q H₄ hq h₄ e₄ => ?_
  have hqt : q ≠ t := Ne.symm (ne_of t₃ hq)
  refine O_lenL (e₄.at c₃) ?_
  rw [List.length_map, List.length_map]
  refine O_range (by first | lia | omega) ?_
  refine forR (n := es.length) (fun j m H' => Ex4 fun (fs : Pr) (rw : Str → List Rw) (n' : Nat) (x : Option PV × Option PV × Option PV) => An8 (m = [some (.fls xs), some (.obj t), some (.obj p), some (.obj c), some (.int dn), some (.obj q), x.1, x.2.1, x.2.2]) (fs.map prj = (es.take j).map prj) (RowsP H' fs rw) (∀ q ∈ fs, Rn (nmsP es) (ioP es) q.2.1 (rw q.1) q.2.2.1) (n' ≤ n + 10001 + 5000 * j) (H' t = some (.tape n')) (H' q = some (.dict (kvsP fs))) (ExtB t H₃ H')) ?_ ?_ _ _ ⟨[], fun _ => [], n₁ + 1, (none, none, none), rfl, rfl, fun _ h => (nomatch h), fun _ h => (nomatch h), Nat.add_le_add_right hn₁ 1, e₄.at t₃, h₄, e₄.toB t⟩
  · rintro m H' ⟨fs, rw', n', x, rfl, hfp, hra, hrn, hn', t', q', x'⟩
    rw [List.take_length] at hfp
    refine hQ q fs rw' n' H' ⟨q', hpo.of_prj hfp, fun h => hne (List.map_eq_nil_iff.mp (by rw [← hfp, h]; rfl)), hra⟩ (fun s hs => ?_) (up (turns hn' hle) (by decide)) t'
    obtain ⟨x, hx, rfl⟩ := List.mem_map.mp hs
    have := hrn x hx
    rw [ioP_some (dget_of_mem (hpo.of_prj hfp).nodup hx), io_prj hfp, show nmsP fs = nmsP es from prj_fst hfp]
    exact this
  · rintro j m H' hj ⟨fs, rw', n', ⟨x6, x7, x8⟩, rfl, hfp, hra, hrn, hn', t', q', x'⟩ K hK
    have c' := x'.at hct c₃
    have p' := x'.at hpt p₃
    refine W_cut (fun m H'' => m = [some (.fls xs), some (.obj t), some (.obj p), some (.obj c), some (.int dn), some (.obj q), some (.int j), some (.obj c), x8] ∧ H'' = H') (fun K hK => hK _ _ ⟨rfl, rfl⟩) ?_
    rintro m H' ⟨rfl, rfl⟩
    refine W_cut (fun m H'' => Ex2 fun (sa : Addr) (ss : List Str) => An3 (m = [some (.fls xs), some (.obj t), some (.obj p), some (.obj c), some (.int dn), some (.obj q), some (.int j), some (.obj sa), x8]) (NamesAt H'' sa es ss) (Ext H' H'')) ?_ ?_
    · intro K hK
      refine O_ite (fun _ => ?_) (fun _ => ?_)
      · refine O_fromL c' fun d H₆ hd h₆ e₆ => ?_
        rw [← List.map_drop] at h₆
        exact hK _ _ ⟨d, _, rfl, ⟨h₆, fun s hs => List.mem_of_mem_drop hs, by rw [List.length_drop, List.length_map]; exact Nat.le_trans (Nat.sub_le _ _) hle⟩, e₆⟩
      · exact hK _ _ ⟨c, _, rfl, ⟨c', fun s hs => hs, by rw [List.length_map]; exact hle⟩, Ext.refl _⟩
    rintro m H₅ ⟨sa, ss, rfl, na, e₅⟩
    have c₅ := e₅.at c'
    have gj := get_str (ns := es.map (·.1)) (j := j) (by rw [List.length_map]; exact hj)
    have hnt := nodup_take hpo.nodup (j := j) (by rw [List.length_map]; exact hj)
    rw [List.getElem_map, ← List.map_take] at hnt
    rw [List.getElem_map] at gj
    have htk : es.take (j + 1) = es.take j ++ [es[j]] := List.take_succ_eq_append_getElem hj
    have hem := List.getElem_mem hj
    have hez := hen _ hem
    generalize es[j] = e at gj hnt htk hem hez
    obtain ⟨nm, i, o, zz⟩ := e
    replace hez : zz = [] := hez
    subst hez
    replace gj : itemAt (List.map PV.str (nmsP es)) (j : Int) = some (.str nm) := gj
    rw [← prj_fst hfp] at hnt
    have hb : dget es nm = some (i, o, []) := dget_of_mem hpo.nodup hem
    have gb := nm_blk hb
    have hfl : fs.length ≤ 100 := by have := congrArg List.length hfp; rw [List.length_map, List.length_map, List.length_take] at this; first | lia | omega
    refine O_subL c₅ gj ?_
    refine U_goodrows ⟨xs, t, p, sa, n', es, ss, nm, i, o, rfl, hx, e₅.at t', Nat.lt_of_le_of_lt (turns hn' (Nat.le_trans (Nat.le_of_lt hj) hle)) (Nat.lt_of_lt_of_le (Nat.add_lt_add_right hn _) (by decide)), e₅.at p', hpo, hen, na, hb, fun ra rs n₆ H₆ hrs hrr hn₆ hra₆ ra₆ t₆ e₆ => ?_⟩
    have c₆ := e₆.at hct c₅
    have p₆ := e₆.at hpt (e₅.at p')
    have q₆ := e₆.at hqt (e₅.at q')
    refine O_subL c₆ gj ?_
    refine O_subD p₆ gb ?_
    refine O_subL c₆ gj ?_
    refine O_subD p₆ gb ?_
    refine O_subL c₆ gj ?_
    refine O_storeD q₆ (by rw [kvsP_len]; first | lia | omega) fun H₇ h₇ e₇ => ?_
    rw [show (PV.tup [.tup (List.map PV.str i), .tup (List.map PV.str o), .obj ra]) = blk (i, o, [.obj ra]) from rfl, kvsP_snoc fs nm _ hnt] at h₇
    have hraq : ra ≠ q := Ne.symm (ne_of (e₅.at q') hra₆)
    have hra₇ : RowsP H₇ fs rw' := ((hra.ext e₅).off e₆ fun xs q => by rw [e₅.at t'] at q; cases q).off e₇ fun xs q => by rw [q₆] at q; cases q
    exact hK _ _ ⟨fs ++ [(nm, i, o, [.obj ra])], fun s => if s = nm then rs else rw' s, n₆, (_, _, _), rfl, by rw [htk, List.map_append, List.map_append, hfp]; rfl, all_snoc (P := fun q rs => RsOk 200000 rs ∧ ∃ a, q.2.2.2 = [.obj a] ∧ H₇ a = some (.list (rowsPV rs))) hra₇ hnt ⟨hrs, ra, rfl, e₇.at hraq ra₆⟩, all_snoc (P := fun q rs => Rn (nmsP es) (ioP es) q.2.1 rs q.2.2.1) hrn hnt hrr, turn hn₆ hn', e₇.at (Ne.symm hqt) t₆, h₇, ExtB.over hq ((x'.trans (e₅.toB t)).trans e₆) e₇⟩
end Mine
end
section
open PySem PySem.W PySem.Calls PyProof.Rows
namespace Mine
set_option autoImplicit false

theorem cut_at {α : Type} {xs ys : List α} {i : Int} (hi : i = xs.length) : (xs ++ ys).take (cutAt (xs ++ ys).length i) = xs ∧ (xs ++ ys).drop (cutAt (xs ++ ys).length i) = ys := by
  rw [cut_nat hi (by rw [List.length_append]; exact Nat.le_add_right _ _), List.take_left, List.drop_left]; exact ⟨rfl, rfl⟩
theorem tk_get {w : W} {ts : List Str} (ht : takesS w = some ts) : dget (takes01.map fun e => (e.1, PV.tup (e.2.map .str))) (wd w) = some (.tup (ts.map .str)) := by
  cases w <;> cases ht <;> kernel_rfl
theorem puts_get {w : W} {ts : List Str} (ht : takesS w = some ts) : dget (puts01.map fun e => (e.1, PV.str e.2)) (wd w) = some (.str (putsS w)) := by
  cases w <;> cases ht <;> kernel_rfl
theorem W.others {w : W} {ts : List Str} (ht : takesS w = some ts) : ∀ x ∈ (["num", "text", "copy", "swap", "drop", "call", "if"] : List Str), (wd w == x) = false := by
  cases w <;> cases ht <;> decide +kernel
theorem len_sub {l ts : List PV} : ((l ++ ts).length : Int) - (ts.length : Int) = l.length := by rw [List.length_append]; first | lia | omega
theorem taken_ok : Ver spTaken B_taken N_taken 2 := by
  intro ps H Q X h
  obtain ⟨l, ts, rfl, hlen, hQ⟩ := h
  refine ⟨rfl, ?_⟩
  refine I_neg (by rw [len_sub, decide_eq_false (Int.not_lt.mpr (Int.natCast_nonneg _))]; decide) ?_
  refine O_fromT (cut_at len_sub).2 ?_
  refine O_neT (eq_strs ts ts) ?_
  rw [decide_eq_true rfl]
  refine O_toT (cut_at len_sub).1 ?_
  exact hQ
theorem blockof_ok : Ver spBlockOf B_block_of N_block_of 2 := by
  intro ps H Q X h
  obtain ⟨p, es, n, b, rfl, hp, hb, hQ⟩ := h
  refine ⟨rfl, ?_⟩
  refine O_niD hp ?_
  rw [nm_has hb]
  exact O_subD hp (nm_blk hb) hQ
theorem called_ok : Ver spCalled B_called N_called 3 := by
  intro ps H Q X h
  have hL : LIM = 1048576 := rfl
  obtain ⟨p, es, l, n, b, rfl, hp, hpo, hlen, hb, hQ⟩ := h
  refine ⟨rfl, ?_⟩
  have hbo := (hpo.blks _ (dget_mem hb)).2.2.2
  replace hbo : b.2.1.length ≤ 60 := hbo
  rw [List.length_append] at hlen
  rw [List.map_append] at hQ
  refine U_blockof ⟨p, es, n, b, rfl, hp, hb, ?_⟩
  refine U_taken ⟨l, b.1, by rw [List.map_append], by rw [List.length_append]; exact hlen, ?_⟩
  refine O_addT (by rw [List.length_map, List.length_map]; first | lia | omega) ?_
  exact hQ
theorem moved_ok : Ver spMoved B_moved N_moved 2 := by
  intro ps H Q X h
  have hL : LIM = 1048576 := rfl
  obtain ⟨ks, ys, w, rfl, hw, hlen, ⟨ht, hk, hc⟩, hQ⟩ := h
  refine ⟨rfl, ?_⟩
  refine fun c H₁ hc h₁ e₁ => ?_
  replace hQ := hQ _ e₁
  cases hk with
  | num i => rcases hc with h | h | ⟨n, h⟩ <;> cases h
  | text s => rcases hc with h | h | ⟨n, h⟩ <;> cases h
  | tak l h => rw [ht] at h; cases h
  | copy l r v hr =>
    rw [List.map_append, List.map_append] at hQ
    have hm : (l ++ v :: r).map PV.str = l.map PV.str ++ .str v :: r.map PV.str := by rw [List.map_append]; rfl
    have hl : (l ++ v :: r).length = l.length + (r.length + 1) := by rw [List.length_append]; rfl
    refine I_neg (by rw [List.length_map, hl, decide_eq_false (by first | lia | omega)]; decide) ?_
    refine O_subT (x := .str v) (by rw [hm]; exact at_len (by rw [List.length_append, List.length_cons, List.length_map, List.length_map, hr]; first | lia | omega)) ?_
    refine O_addT (by rw [List.length_map, List.length_singleton]; first | lia | omega) ?_
    rw [List.map_append]
    exact hQ
  | swap l x y =>
    rw [List.map_append] at hQ
    have hm : (l ++ [x, y]).map PV.str = l.map PV.str ++ [.str x, .str y] := by rw [List.map_append]; rfl
    have hl : ((l ++ [x, y]).map PV.str).length = (l.map PV.str).length + 2 := by rw [hm, List.length_append]; rfl
    refine O_subD h₁ (x := .int 2) (by kernel_rfl) ?_
    refine I_neg (by rw [hl, decide_eq_false (by first | lia | omega)]; decide) ?_
    refine O_toT (ys := l.map .str) (by rw [hm]; exact (cut_at (by rw [← hm, hl]; first | lia | omega)).1) ?_
    refine O_subT (x := .str y) (by rw [hm, show l.map PV.str ++ [PV.str x, PV.str y] = (l.map PV.str ++ [.str x]) ++ PV.str y :: [] by rw [List.append_assoc]; rfl]; exact at_len (by rw [List.length_append, List.length_append, List.length_singleton, List.length_singleton]; first | lia | omega)) ?_
    refine O_subT (x := .str x) (by rw [hm]; exact at_len (by rw [← hm, hl]; first | lia | omega)) ?_
    refine O_addT (by rw [List.length_append] at hlen; rw [List.length_map]; show l.length + 2 ≤ LIM; first | lia | omega) ?_
    exact hQ
  | drop l x =>
    have hm : (ys ++ [x]).map PV.str = ys.map PV.str ++ [.str x] := by rw [List.map_append]; rfl
    have hl : ((ys ++ [x]).map PV.str).length = (ys.map PV.str).length + 1 := by rw [hm, List.length_append]; rfl
    refine O_subD h₁ (x := .int 1) (by kernel_rfl) ?_
    refine I_neg (by rw [hl, decide_eq_false (by first | lia | omega)]; decide) ?_
    refine O_toT (ys := ys.map .str) (by rw [hm]; exact (cut_at (by rw [← hm, hl]; first | lia | omega)).1) ?_
    exact hQ
theorem behind_takes {w : W} {ts : List Str} (ht : takesS w = some ts) {d : PV} {l : List Str} {H : AHeap} {Q : Post} {X : XPost} (hlen : (l ++ ts).length ≤ 100000) (hQ : Q (.tup ((l ++ [putsS w]).map .str)) H) :
    awpSs g01 B_behind (fun _ H => Q .none H) Q (fun c _ H => X c H) (initL N_behind 3 [d, .tup ((l ++ ts).map .str), .tup w.row]) H := by
  have hL : LIM = 1048576 := rfl
  have nn : ∀ {x : Str}, x ∈ (["num", "text", "copy", "swap", "drop", "call", "if"] : List Str) → ¬ (wd w == x) = true := fun hx => by rw [W.others ht _ hx]; decide
  refine O_subT w.head ?_
  refine I_neg (nn (by decide +kernel)) ?_
  refine I_neg (nn (by decide +kernel)) ?_
  refine I_neg (nn (by decide +kernel)) ?_
  refine I_neg (nn (by decide +kernel)) ?_
  refine I_neg (nn (by decide +kernel)) ?_
  refine I_neg (nn (by decide +kernel)) ?_
  refine I_neg (nn (by decide +kernel)) ?_
  refine O_glob G_takesk ?_
  refine O_subF (tk_get ht) ?_
  refine U_taken ⟨l, ts, by rw [List.map_append], Nat.le_trans hlen (by decide), ?_⟩
  refine O_glob G_puts ?_
  refine O_subF (puts_get ht) ?_
  rw [List.length_append] at hlen
  refine O_addT (by rw [List.length_map, List.length_singleton]; first | lia | omega) ?_
  rw [List.map_append] at hQ
  exact hQ
set_option maxHeartbeats 2000000 in
theorem behind_ok : Ver spBehind B_behind N_behind 3 := by
  intro ps H Q X h
  have hL : LIM = 1048576 := rfl
  obtain ⟨p, es, ks, ys, r, rfl, hp, hpo, hr, hlen, hk, hQ⟩ := h
  refine ⟨rfl, ?_⟩
  have hlen' : ks.length ≤ 200000 := Nat.le_trans hlen (by decide)
  cases hk with
  | @call n l h =>
    obtain ⟨b, hb, hio, _⟩ := nm_get hpo h
    rw [hio] at hlen' hQ ⊢
    exact U_called ⟨p, es, l, n, b, rfl, hp, hpo, hlen', hb, hQ _ (Ext.refl H)⟩
  | @iff n m l h h' e =>
    obtain ⟨b, hb, hio, _⟩ := nm_get hpo h
    obtain ⟨b', hb', hio', _⟩ := nm_get hpo h'
    rw [hio, hio'] at e
    injection e with e1 e2
    rw [hio] at hlen' hQ ⊢
    refine U_taken ⟨l ++ b.1, ["num"], by rw [List.map_append (l₁ := l ++ b.1)]; rfl, hlen', ?_⟩
    refine U_blockof ⟨p, es, n, b, rfl, hp, hb, ?_⟩
    refine U_blockof ⟨p, es, m, b', rfl, hp, hb', ?_⟩
    refine O_neT (eq_strs b.1 b'.1) ?_
    rw [decide_eq_true e1.symm]
    refine O_neT (eq_strs b.2.1 b'.2.1) ?_
    rw [decide_eq_true e2.symm]
    rw [List.length_append, List.length_singleton] at hlen'
    exact U_called ⟨p, es, l, n, b, rfl, hp, hpo, Nat.le_trans (Nat.le_succ _) hlen', hb, hQ _ (Ext.refl H)⟩
  | @pl w ks ys h =>
    cases ht : takesS w with
    | some ts =>
      cases h with
      | tak l h => rw [ht] at h; cases h; exact behind_takes ht hlen (hQ _ (Ext.refl H))
      | _ => cases ht
    | none =>
      have hk := h
      cases h with
      | num i =>
        have q := hQ _ (Ext.refl H)
        rw [List.map_append] at q
        refine O_addT (by rw [List.length_map, List.length_singleton]; first | lia | omega) ?_
        exact q
      | text s =>
        have q := hQ _ (Ext.refl H)
        rw [List.map_append] at q
        refine O_addT (by rw [List.length_map, List.length_singleton]; first | lia | omega) ?_
        exact q
      | copy l r v h => exact U_moved ⟨_, _, .copy _, rfl, hr, hlen', ⟨ht, hk, .inr (.inr ⟨_, rfl⟩)⟩, hQ⟩
      | swap l x y => exact U_moved ⟨_, _, .swap, rfl, hr, hlen', ⟨ht, hk, .inl rfl⟩, hQ⟩
      | drop l x => exact U_moved ⟨_, _, .drop, rfl, hr, hlen', ⟨ht, hk, .inr (.inl rfl)⟩, hQ⟩
      | tak l h => rw [ht] at h; cases h
end Mine
end
section
open PySem PySem.W PySem.Calls PyProof.Rows
namespace Mine
set_option autoImplicit false

theorem Rn.trail {ns : List Str} {io : Io} {ks zs : List Str} {rs : List Rw} (h : Rn ns io ks rs zs) : ∃ tr, TrOk ns io ks rs zs tr := by
  induction h with
  | nil => exact ⟨[_], rfl, rfl, rfl, fun k r h => by rw [List.getElem?_nil] at h; cases h⟩
  | cons h b _ ih =>
    obtain ⟨tr, t⟩ := ih
    refine ⟨_ :: tr, by rw [List.length_cons, t.len]; rfl, rfl, t.lst, fun k r' hk => ?_⟩
    cases k with
    | zero => cases hk; exact ⟨_, _, rfl, t.fst, h, b⟩
    | succ k => exact t.row k r' hk
theorem Gd.ex {es : Pr} {rw' : Str → List Rw} (h : ∀ s ∈ nmsP es, Rn (nmsP es) (ioP es) (ioP es s).1 (rw' s) (ioP es s).2) : ∃ tr, Gd es rw' tr :=
  Classical.axiomOfChoice (r := fun s tr => s ∈ nmsP es → TrOk (nmsP es) (ioP es) (ioP es s).1 (rw' s) (ioP es s).2 tr) fun s => by
    by_cases hs : s ∈ nmsP es
    · obtain ⟨tr, t⟩ := (h s hs).trail
      exact ⟨tr, fun _ => t⟩
    · exact ⟨[], fun q => absurd q hs⟩
theorem Pg.find {H : AHeap} {p : Addr} {es : Pr} {rw' : Str → List Rw} (h : Pg H p es rw') {n : Str} (hn : n ∈ nmsP es) : ∃ i o a, dget (kvsP es) n = some (blk (i, o, [.obj a])) ∧ ioP es n = (i, o) ∧ H a = some (.list (rowsPV (rw' n))) ∧ RsOk 200000 (rw' n) := by
  obtain ⟨⟨nm, i, o, zz⟩, hq, rfl⟩ := List.mem_map.mp hn
  obtain ⟨hr, a, hz, ha⟩ := h.rows _ hq
  replace hz : zz = [.obj a] := hz
  subst hz
  have hd := dget_of_mem h.ok.nodup hq
  exact ⟨i, o, a, nm_blk hd, ioP_some hd, ha, hr⟩
theorem tr_get {tr : List (List Str)} {j : Nat} {ks : List Str} (h : tr[j]? = some ks) : itemAt (trPV tr) (j : Int) = some (.tup (ks.map .str)) := itemAt_nat rfl (by unfold trPV; rw [List.getElem?_map, h]; rfl)
theorem rows_get {rs : List Rw} {j : Nat} {r : Rw} (h : rs[j]? = some r) : itemAt (rowsPV rs) (j : Int) = some (.tup r.row) := itemAt_nat rfl (by unfold rowsPV; rw [List.getElem?_map, h]; rfl)
theorem trPV_len (tr : List (List Str)) : (trPV tr).length = tr.length := by unfold trPV; rw [List.length_map]
theorem last_get {α : Type} {xs : List α} {n : Nat} {x : α} (hl : xs.length = n + 1) (h : xs[n]? = some x) : itemAt xs (-1) = some x := by
  unfold itemAt
  rw [hl, if_neg (by decide), if_pos (by first | lia | omega), show ((-1 : Int) + ((n + 1 : Nat) : Int)).toNat = n by first | lia | omega]
  exact h
theorem take_more {tr : List (List Str)} {j : Nat} {b : List Str} (h : tr[j]? = some b) : trPV (tr.take j) ++ [.tup (b.map .str)] = trPV (tr.take (j + 1)) := by
  rw [List.take_succ, h]; unfold trPV; rw [List.map_append]; rfl
set_option maxHeartbeats 1000000 in
theorem looked_ok : Ver spLooked B_looked N_looked 2 := by
  intro ps H Q X h
  have hL : LIM = 1048576 := rfl
  obtain ⟨p, es, rw', tr, nm, rfl, hp, hg, hnm, hQ⟩ := h
  obtain ⟨i, o, ra, gb, hio, ra₀, hro, hrl⟩ := hp.find hnm
  have T := hg nm hnm
  rw [hio] at T
  generalize tr nm = tr at T hQ
  generalize rw' nm = rs at T hro hrl ra₀
  refine ⟨rfl, ?_⟩
  refine O_subD hp.ha gb ?_
  refine fun c H₁ hc h₁ e₁ => ?_
  have hcr : ra ≠ c := ne_of ra₀ hc
  have hcp : p ≠ c := ne_of hp.ha hc
  have hpo := hp.ok
  replace ra₀ := e₁.at ra₀
  replace hp := e₁.at hp.ha
  refine O_lenL ra₀ ?_
  rw [rowsPV_len]
  refine O_range (by first | lia | omega) ?_
  have h0 : trPV (tr.take 1) = [.tup (i.map .str)] := (take_more (j := 0) T.fst).symm
  rw [← h0] at h₁
  refine forR (n := rs.length) (fun j m H' => Ex1 fun (x : Option PV × Option PV) => An4 (m = [some (.obj p), some (.str nm), some (blk (i, o, [.obj ra])), some (.obj c), some (.obj ra), x.1, x.2]) (H' c = some (.list (trPV (tr.take (j + 1))))) (ExtB c H₁ H') (Ext H H')) ?_ ?_ _ _ ⟨(none, none), rfl, h₁, fun _ _ _ h => h, e₁⟩
  · rintro m H' ⟨x, rfl, c', x', e'⟩
    rw [← T.len, List.take_length] at c'
    refine O_subL c' (last_get (by rw [trPV_len]; exact T.len) (x := .tup (o.map .str)) (by unfold trPV; rw [List.getElem?_map, T.lst]; rfl)) ?_
    refine O_neT (eq_strs o o) ?_
    rw [decide_eq_true rfl]
    exact hQ c H' hc c' e'
  · rintro j m H' hj ⟨x, rfl, c', x', e'⟩ K hK
    have hr : rs[j]? = some rs[j] := List.getElem?_eq_getElem hj
    have hok := hro _ (List.getElem_mem hj)
    generalize rs[j] = r at hr hok
    obtain ⟨a, b, ha, hb, hl, hk⟩ := T.row j r hr
    refine O_recv c' rfl ?_
    refine O_subL c' (tr_get (by rw [List.getElem?_take, if_pos (Nat.lt_succ_self j)]; exact ha)) ?_
    refine O_subL (x'.at hcr ra₀) (rows_get hr) ?_
    refine U_behind ⟨p, es, a, b, r, rfl, x'.at hcp hp, hpo, hok, hl, hk, fun H₂ e₂ => ?_⟩
    refine O_append (e₂.at c') (by rw [trPV_len, List.length_take]; first | lia | omega) fun H₃ h₃ e₃ => ?_
    rw [take_more hb] at h₃
    exact hK _ _ ⟨(_, _), rfl, h₃, fun x v hx h => e₃.at hx (e₂.at (x'.at hx h)), ExtB.fresh hc (e'.trans e₂) e₃⟩
theorem trailof_ok : Ver spTrailOf B_trail_of N_trail_of 2 := by
  intro ps H Q X h
  obtain ⟨p, es, rw', tr, nm, rfl, hp, hg, hnm, hQ⟩ := h
  refine ⟨rfl, ?_⟩
  exact U_looked ⟨p, es, rw', tr, nm, rfl, hp, hg, hnm, hQ⟩
theorem names_app (a b : List Rw) : namesOf (a ++ b) = namesOf a ++ namesOf b := List.flatMap_append
theorem nmsOf_len (rs : List Rw) : (namesOf rs).length ≤ 2 * rs.length := by
  induction rs with
  | nil => exact Nat.le_refl _
  | cons r rs ih =>
    have h1 : r.names.length ≤ 2 := by cases r <;> exact Nat.le_of_ble_eq_true rfl
    rw [show namesOf (r :: rs) = r.names ++ namesOf rs from List.flatMap_cons, List.length_append, List.length_cons]
    first | lia | omega
theorem mem_names {rs : List Rw} {s : Str} {r : Rw} (h : r ∈ rs) (hs : s ∈ r.names) : s ∈ namesOf rs := List.mem_flatMap.mpr ⟨r, h, hs⟩
set_option maxHeartbeats 1000000 in
theorem named_ok : Ver spNamed B_named N_named 1 := by
  intro ps H Q X h
  have hL : LIM = 1048576 := rfl
  obtain ⟨a, rs, rfl, ha, hrl, hQ⟩ := h
  refine ⟨rfl, ?_⟩
  refine fun c H₁ hc h₁ e₁ => ?_
  have hac : a ≠ c := ne_of ha hc
  refine O_itL (e₁.at ha) ?_
  refine forW_ind (fun rest m H' => Ex3 fun (us vs : List Rw) (x2 : Option PV) => An6 (rs = us ++ vs) (rest = rowsPV vs) (m = [some (.obj a), some (.obj c), x2]) (H' c = some (.list ((namesOf us).map .str))) (ExtB c H₁ H') (Ext H H')) ?_ ?_ _ _ _ ⟨[], rs, none, rfl, rfl, rfl, h₁, fun _ _ _ h => h, e₁⟩
  · rintro m H' ⟨us, vs, x2, hs, hr', rfl, c', x', e'⟩
    have : vs = [] := by cases vs with | nil => rfl | cons _ _ => cases hr'
    subst this
    rw [List.append_nil] at hs
    subst hs
    exact ⟨x'.at hac (e₁.at ha), hQ c H' hc c' e'⟩
  · rintro y ys m H' ⟨us, vs, x2, hs, hr', rfl, c', x', e'⟩
    cases vs with
    | nil => cases hr'
    | cons r vs =>
    cases hr'
    refine ⟨x'.at hac (e₁.at ha), fun K hK => ?_⟩
    have hul : us.length ≤ 200000 := by have := congrArg List.length hs; rw [List.length_append] at this; first | lia | omega
    have hnl := nmsOf_len us
    have fin : ∀ H'', H'' c = some (.list ((namesOf (us ++ [r])).map .str)) → ExtB c H' H'' → K [some (.obj a), some (.obj c), some (.tup r.row)] H'' := fun H'' h'' e'' =>
      hK _ _ ⟨us ++ [r], vs, _, by rw [hs, List.append_assoc]; rfl, rfl, rfl, h'', fun x v hx h => e''.at hx (x'.at hx h), ExtB.fresh hc e' e''⟩
    have hlt : ((namesOf us).map PV.str).length < LIM := by rw [List.length_map]; first | lia | omega
    cases r with
    | call n =>
      refine O_recv c' rfl ?_
      refine O_append c' hlt fun H₂ h₂ e₂ => ?_
      exact fin H₂ (by rw [h₂, names_app, List.map_append]; rfl) e₂
    | iff n m =>
      refine O_recv c' rfl ?_
      refine O_append c' hlt fun H₂ h₂ e₂ => ?_
      refine O_recv h₂ rfl ?_
      refine O_append h₂ (by rw [List.length_append, List.length_map, List.length_singleton]; first | lia | omega) fun H₃ h₃ e₃ => ?_
      exact fin H₃ (by rw [h₃, names_app, List.map_append, List.append_assoc]; rfl) (fun x v hx h => e₃.at hx (e₂.at hx h))
    | pl w =>
      refine O_subT w.head ?_
      refine I_neg (by rw [w.plain.1]; decide) ?_
      refine O_subT w.head ?_
      refine I_neg (by rw [w.plain.2]; decide) ?_
      exact fin H' (by rw [c', names_app, show namesOf [Rw.pl w] = [] from rfl, List.append_nil]) fun _ _ _ h => h
theorem nodup_sub_len : ∀ {l m : List Str}, l.Nodup → (∀ x ∈ l, x ∈ m) → l.length ≤ m.length
  | [], m, _, _ => Nat.zero_le _
  | a :: l, m, hn, hs => by
    rw [List.nodup_cons] at hn
    have ha := hs a (List.mem_cons_self ..)
    have ih := nodup_sub_len (l := l) (m := m.erase a) hn.2 fun x hx => by
      refine (List.mem_erase_of_ne ?_).mpr (hs x (List.mem_cons_of_mem _ hx))
      rintro rfl; exact hn.1 hx
    have := List.length_erase_of_mem ha
    have : 0 < m.length := List.length_pos_of_mem ha
    simp only [List.length_cons]
    (first | lia | omega)

theorem KB.names {ns : List Str} {io : Io} {ks ys : List Str} {r : Rw} (h : KB ns io ks r ys) : ∀ u ∈ r.names, u ∈ ns := by
  cases h with
  | pl h => exact fun _ h => nomatch h
  | call l h => exact fun u hu => by rw [List.mem_singleton.mp hu]; exact h
  | iff l h h' e => exact fun u hu => by rcases List.mem_cons.mp hu with rfl | hu; exact h; rw [List.mem_singleton.mp hu]; exact h'
theorem Gd.cl {es : Pr} {rw' : Str → List Rw} {tr : Str → List (List Str)} (h : Gd es rw' tr) {s : Str} (hs : s ∈ nmsP es) : ∀ u ∈ namesOf (rw' s), u ∈ nmsP es := fun u hu => by
  obtain ⟨r, hr, hu⟩ := List.mem_flatMap.mp hu
  obtain ⟨k, hk⟩ := List.mem_iff_getElem?.mp hr
  obtain ⟨_, _, _, _, _, b⟩ := (h s hs).row k r hk
  exact b.names u hu
structure Fd (nm : Str) (ns ms : List Str) : Prop where
  nodup : ms.Nodup
  sub : ∀ s ∈ ms, s ∈ ns
  nm : nm ∈ ms
theorem Fd.more {nm : Str} {ns ms : List Str} {s : Str} (h : Fd nm ns ms) (hs : s ∈ ns) (hn : s ∉ ms) : Fd nm ns (ms ++ [s]) :=
  ⟨List.nodup_append.mpr ⟨h.nodup, List.nodup_cons.mpr ⟨List.not_mem_nil, .nil⟩, fun a ha b hb => by rw [List.mem_singleton.mp hb]; rintro rfl; exact hn ha⟩, fun x hx => by
    rcases List.mem_append.mp hx with hx | hx
    · exact h.sub x hx
    · rw [List.mem_singleton.mp hx]; exact hs, List.mem_append.mpr (.inl h.nm)⟩
set_option maxHeartbeats 1000000 in
theorem cometo_ok : Ver spComeTo B_come_to N_come_to 2 := by
  intro ps H Q X h
  have hL : LIM = 1048576 := rfl
  obtain ⟨p, es, rw', tr, nm, rfl, hp, hg, hnm, hQ⟩ := h
  have hle : ∀ {ms : List Str}, Fd nm (nmsP es) ms → ms.length ≤ 100 := fun h => by
    have := nodup_sub_len h.nodup h.sub
    rw [List.length_map] at this
    exact Nat.le_trans this hp.ok.len
  refine ⟨rfl, ?_⟩
  refine fun c H₁ hc h₁ e₁ => ?_
  refine ⟨fun z m H' => Ex3 fun (j : Nat) (ms : List Str) (x4 : Option PV) => An6 (z = 200 - j) (m = [some (.obj p), some (.str nm), some (.obj c), some (.int j), x4]) (j ≤ ms.length) (Fd nm (nmsP es) ms) (H' c = some (.list (ms.map .str))) (Ext H H'), ⟨_, 0, [nm], none, rfl, rfl, Nat.zero_le _, ⟨List.nodup_cons.mpr ⟨List.not_mem_nil, .nil⟩, fun s hs => by rw [List.mem_singleton.mp hs]; exact hnm, List.mem_singleton.mpr rfl⟩, h₁, e₁⟩, ?_⟩
  rintro z m H' ⟨j, ms, x4, rfl, rfl, hj, hf, c', e'⟩
  have hnl := hle hf
  refine O_lenL c' ?_
  rw [List.length_map]
  refine O_ite (fun hlt => ?_) (fun hge => ?_)
  · have hlt' : j < ms.length := Int.ofNat_lt.mp (decide_eq_true_eq.mp hlt)
    have gj := get_str hlt'
    have hjm := List.getElem_mem hlt'
    generalize ms[j] = s at gj hjm
    refine O_subL c' gj ?_
    replace hp := hp.ext e'
    refine O_inD hp.ha ?_
    have hsn := hf.sub _ hjm
    obtain ⟨i, o, ra, gb, _, ra₀, hro, hrl⟩ := hp.find hsn
    rw [show hasKey (kvsP es) s = true by unfold hasKey; rw [gb]; rfl]
    refine O_subL c' gj ?_
    refine O_subD hp.ha gb ?_
    refine U_named ⟨ra, rw' s, rfl, ra₀, hrl, fun d H₂ hd h₂ e₂ => ?_⟩
    have hdc : d ≠ c := Ne.symm (ne_of c' hd)
    have hcl := hg.cl hsn
    refine O_itL h₂ ?_
    generalize namesOf (rw' s) = us at hcl h₂
    refine forW_ind (fun rest m Hx => Ex3 fun (vs ms' : List Str) (x4 : Option PV) => An8 (∀ u ∈ vs, u ∈ nmsP es) (rest = vs.map .str) (m = [some (.obj p), some (.str nm), some (.obj c), some (.int j), x4]) (ms.length ≤ ms'.length) (Fd nm (nmsP es) ms') (Hx c = some (.list (ms'.map .str))) (ExtB c H₂ Hx) (Ext H Hx)) ?_ ?_ _ _ _
      ⟨us, ms, x4, hcl, rfl, rfl, Nat.le_refl _, hf, e₂.at c', fun _ _ _ h => h, e'.trans e₂⟩
    · rintro m Hx ⟨vs, ms', x4, _, hr', rfl, hml, hmf, c₃, x₃, e₃⟩
      exact ⟨x₃.at hdc h₂, 200 - (j + 1), by first | lia | omega, j + 1, ms', _, rfl, rfl, Nat.le_trans hlt' hml, hmf, c₃, e₃⟩
    · rintro y ys m Hx ⟨vs, ms', x4, hvs, hr', rfl, hml, hmf, c₃, x₃, e₃⟩
      cases vs with
      | nil => cases hr'
      | cons u vs =>
      cases hr'
      refine ⟨x₃.at hdc h₂, fun K hK => ?_⟩
      have hml' := hle hmf
      have hvs' : ∀ u ∈ vs, u ∈ nmsP es := fun u hu => hvs u (List.mem_cons_of_mem _ hu)
      refine CmpW.niL c₃ ?_
      refine O_ite (fun hnot => ?_) (fun _ => ?_)
      · have hnot' : u ∉ ms' := fun q => by rw [decide_eq_true q] at hnot; cases hnot
        refine O_recv c₃ rfl ?_
        refine O_append c₃ (by rw [List.length_map]; first | lia | omega) fun H₄ h₄ e₄ => ?_
        exact hK _ _ ⟨vs, ms' ++ [u], _, hvs', rfl, rfl, by rw [List.length_append]; exact Nat.le_trans hml (Nat.le_add_right _ _), hmf.more (hvs u (List.mem_cons_self ..)) hnot', by rw [h₄, List.map_append]; rfl, fun x v hx h => e₄.at hx (x₃.at hx h), ExtB.fresh hc e₃ e₄⟩
      · exact hK _ _ ⟨vs, ms', _, hvs', rfl, rfl, hml, hmf, c₃, x₃, e₃⟩
  · exact hQ c ms H' hc c' hnl hf.nm hf.sub e'
end Mine
end
section
open PySem PySem.W PySem.Calls PyProof.Rows
namespace Mine
set_option autoImplicit false

theorem KI_get {kn : List (Str × Int)} {s : Str} (h : (dget kn s).isSome = true) : dget (KI kn) s = some (.int (fv kn s)) := by
  obtain ⟨v, hv⟩ := Option.isSome_iff_exists.mp h
  unfold fv
  rw [hv, show KI kn = kn.map fun e => (e.1, PV.int e.2) from rfl, dget_map, hv]; rfl
theorem KI_key {kn : List (Str × Int)} {s : Str} : hasKey (KI kn) s = (dget kn s).isSome := by
  unfold hasKey
  rw [show KI kn = kn.map fun e => (e.1, PV.int e.2) from rfl, dget_map]
  cases dget kn s <;> rfl
theorem KI_set (kn : List (Str × Int)) (s : Str) (v : Int) : dset (KI kn) s (.int v) = KI (dset kn s v) := dset_map PV.int s v kn
theorem mx_le (a b : Int) : a ≤ mx a b ∧ b ≤ mx a b := by
  unfold mx
  split
  · exact ⟨by first | lia | omega, Int.le_refl _⟩
  · exact ⟨Int.le_refl _, by first | lia | omega⟩
noncomputable def Iv (tr : List (List Str)) (rs : List Rw) (io : Io) (f : Str → Int) (j : Nat) (v : Int) : Prop := ∀ (k : Nat) ks, k < j → tr[k]? = some ks → (∀ o, rs[k]? = some (.call o) → ks.length - (io o).1.length + f o ≤ v) ∧ ∀ o o', rs[k]? = some (.iff o o') → ks.length - 1 - (io o).1.length + mx (f o) (f o') ≤ v
section
variable {tr : List (List Str)} {rs : List Rw} {io : Io} {f : Str → Int} {j : Nat} {v v' : Int} {ks : List Str}
theorem Iv.step (h : Iv tr rs io f j v) (hv : v ≤ v') (hk : tr[j]? = some ks) (h1 : ∀ o, rs[j]? = some (.call o) → ks.length - (io o).1.length + f o ≤ v') (h2 : ∀ o o', rs[j]? = some (.iff o o') → ks.length - 1 - (io o).1.length + mx (f o) (f o') ≤ v') : Iv tr rs io f (j + 1) v' := fun k ks' hlt hk' => by
  by_cases e : k = j
  · subst e
    rw [hk] at hk'
    cases hk'
    exact ⟨h1, h2⟩
  · obtain ⟨a, b⟩ := h k ks' (Nat.lt_of_le_of_ne (Nat.le_of_lt_succ hlt) e) hk'
    exact ⟨fun o q => Int.le_trans (a o q) hv, fun o o' q => Int.le_trans (b o o' q) hv⟩
theorem Iv.done (h : Iv tr rs io f rs.length v) (hl : ∀ ks ∈ tr, (ks.length : Int) ≤ v) : ∀ c, Ctr tr rs io f c → c ≤ v := fun c hc => by
  cases hc with
  | len a => exact hl _ (List.mem_of_getElem? a)
  | call a r => exact (h _ _ (List.getElem?_eq_some_iff.mp r).1 a).1 _ r
  | iff a r => exact (h _ _ (List.getElem?_eq_some_iff.mp r).1 a).2 _ _ r
end
theorem comp_map {α : Type} {src : AHeap → Prop} {el : PV → (List PV → AHeap → Prop) → AHeap → Prop} {Q : List PV → AHeap → Prop} {H : AHeap} (hs : src H) (f g : α → PV) (hel : ∀ a (K : List PV → AHeap → Prop), K [g a] H → el (f a) K H) :
    ∀ (l : List α) (acc : List PV), Q (acc ++ l.map g) H → compW src el Q (l.map f) acc H
  | [], acc, h => ⟨hs, by rw [List.map_nil, List.append_nil] at h; exact h⟩
  | a :: l, acc, h => ⟨hs, hel a _ (comp_map hs f g hel l _ (by rw [List.append_assoc]; exact h))⟩
set_option maxHeartbeats 1000000 in
theorem heightby_ok : Ver spHeightBy B_height_by N_height_by 3 := by
  intro ps H Q X h
  have hL : LIM = 1048576 := rfl
  obtain ⟨p, es, rw', tr, nm, k, kn, rfl, hp, hg, hnm, hk, hkn, hQ⟩ := h
  obtain ⟨i, o, ra, gb, _, ra₀, hro, hrl⟩ := hp.find hnm
  have hlen := (hg nm hnm).len
  have hcl := hg.cl hnm
  refine ⟨rfl, ?_⟩
  refine U_trailof ⟨p, es, rw', tr, nm, rfl, hp, hg, hnm, fun c H₁ hc h₁ e₁ => ?_⟩
  replace hp := hp.ext e₁
  replace ra₀ := e₁.at ra₀
  replace hk := e₁.at hk
  refine O_subD hp.ha gb ?_
  generalize tr nm = tr at h₁ hQ hlen
  generalize rw' nm = rs at hro hrl ra₀ hQ hlen hkn hcl
  refine O_itL h₁ ?_
  refine comp_map h₁ (fun ks : List Str => PV.tup (ks.map .str)) (fun ks => .int ks.length) (fun ks K h => by rw [← List.length_map (as := ks) (f := PV.str)] at h; exact h) tr [] ?_
  refine fun d H₂ hd h₂ e₂ => ?_
  rw [List.nil_append, show (tr.map fun ks => PV.int ks.length) = (tr.map fun ks => (ks.length : Int)).map .int by rw [List.map_map]; rfl] at h₂
  refine O_maxL h₂ (by rw [List.length_map, hlen]; exact Nat.succ_pos _) fun M _ hle => ?_
  replace hp := hp.ext e₂
  replace ra₀ := e₂.at ra₀
  replace hk := e₂.at hk
  replace h₁ := e₂.at h₁
  replace hQ := fun v m => hQ v H₂ m (e₁.trans e₂)
  clear e₁ e₂ hd h₂ hc
  have hM : ∀ ks ∈ tr, (ks.length : Int) ≤ M := fun ks h => hle _ (List.mem_map.mpr ⟨ks, h, rfl⟩)
  refine O_lenL ra₀ ?_
  rw [rowsPV_len]
  refine O_range (by first | lia | omega) ?_
  refine forR (n := rs.length) (fun j m H' => Ex2 fun (v : Int) (x : Option PV × Option PV × Option PV × Option PV) => An4 (m = [some (.obj p), some (.str nm), some (.obj k), some (.obj c), some (.obj ra), some (.int v), x.1, x.2.1, x.2.2.1, x.2.2.2]) (H' = H₂) (Iv tr rs (ioP es) (fv kn) j v) (M ≤ v)) ?_ ?_ _ _ ⟨M, (none, none, none, _), rfl, rfl, fun _ _ h => absurd h (Nat.not_lt_zero _), Int.le_refl _⟩
  · rintro m H' ⟨v, x, rfl, rfl, hv, hMv⟩
    exact hQ v (hv.done fun ks h => Int.le_trans (hM ks h) hMv)
  · rintro j m H' hj ⟨v, ⟨x6, x7, x8, x9⟩, rfl, rfl, hv, hMv⟩ K hK
    have hkj : tr[j]? = some tr[j] := List.getElem?_eq_getElem (by rw [hlen]; exact Nat.lt_succ_of_lt hj)
    generalize tr[j] = ks at hkj
    have hrj : rs[j]? = some rs[j] := List.getElem?_eq_getElem hj
    generalize rs[j] = r at hrj
    refine O_subL ra₀ (rows_get hrj) ?_
    have hin : ∀ s ∈ r.names, s ∈ namesOf rs := fun s hs => mem_names (List.mem_of_getElem? hrj) hs
    cases r with
    | call n =>
      have hn := hin n (List.mem_singleton.mpr rfl)
      obtain ⟨b, hb, hio, _⟩ := nm_get hp.ok (hcl n hn)
      refine O_subL h₁ (tr_get hkj) ?_
      refine O_subD hp.ha (nm_blk hb) ?_
      refine O_subD hk (KI_get (hkn n hn)) ?_
      obtain ⟨q1, q2⟩ := mx_le v (((ks.map PV.str).length : Int) - (b.1.map PV.str).length + fv kn n)
      refine hK _ _ ⟨_, (_, _, _, _), rfl, rfl, hv.step q1 hkj (fun o h => ?_) (fun o o' h => by rw [hrj] at h; cases h), Int.le_trans hMv q1⟩
      rw [hrj] at h
      cases h
      rw [hio, ← List.length_map (as := ks) (f := PV.str), ← List.length_map (as := (b.1, b.2.1).1) (f := PV.str)]
      exact q2
    | iff n n' =>
      have hn := hin n (List.mem_cons_self ..)
      have hn' := hin n' (List.mem_cons_of_mem _ (List.mem_singleton.mpr rfl))
      obtain ⟨b, hb, hio, _⟩ := nm_get hp.ok (hcl n hn)
      refine O_subD hk (KI_get (hkn n hn)) ?_
      refine O_subD hk (KI_get (hkn n' hn')) ?_
      refine O_subL h₁ (tr_get hkj) ?_
      refine O_subD hp.ha (nm_blk hb) ?_
      obtain ⟨q1, q2⟩ := mx_le v (((ks.map PV.str).length : Int) - 1 - (b.1.map PV.str).length + mx (fv kn n) (fv kn n'))
      refine hK _ _ ⟨_, (_, _, _, _), rfl, rfl, hv.step q1 hkj (fun o h => by rw [hrj] at h; cases h) (fun o o' h => ?_), Int.le_trans hMv q1⟩
      rw [hrj] at h
      cases h
      rw [hio, ← List.length_map (as := ks) (f := PV.str), ← List.length_map (as := (b.1, b.2.1).1) (f := PV.str)]
      exact q2
    | pl w =>
      refine O_subT w.head ?_
      refine I_neg (by rw [w.plain.1]; decide) ?_
      refine O_subT w.head ?_
      refine I_neg (by rw [w.plain.2]; decide) ?_
      exact hK _ _ ⟨v, (_, _, _, _), rfl, rfl, hv.step (Int.le_refl _) hkj (fun o h => by rw [hrj] at h; cases h) (fun o o' h => by rw [hrj] at h; cases h), hMv⟩
/-- a turn of height's loop -/
structure Tn (es : Pr) (rw : Str → List Rw) (tr : Str → List (List Str)) (ms wt us vs lf : List Str) (kn : List (Str × Int)) : Prop where
  split : wt = us ++ vs
  le : lf.length ≤ us.length
  sub : ∀ s ∈ lf, s ∈ ms
  cov : ∀ s ∈ ms, s ∈ lf ∨ s ∈ vs ∨ (dget kn s).isSome = true
  hg : ∀ s v, dget kn s = some v → Hg (ioP es) rw tr s v
  len : kn.length + lf.length + vs.length ≤ 100
section
variable {es : Pr} {rw' : Str → List Rw} {tr : Str → List (List Str)} {ms wt us vs lf : List Str} {kn : List (Str × Int)} {s : Str}
theorem Tn.know {v : Int} (h : Tn es rw' tr ms wt us (s :: vs) lf kn) (hv : Hg (ioP es) rw' tr s v) : Tn es rw' tr ms wt (us ++ [s]) vs lf (dset kn s v) := by
  have hl := h.len
  have hd := dset_len (es := kn) (k := s) (v := v)
  rw [List.length_cons] at hl
  refine ⟨by rw [h.split, List.append_assoc]; rfl, by rw [List.length_append]; exact Nat.le_trans h.le (Nat.le_add_right _ _), h.sub, fun x hx => ?_, fun x w hx => ?_, by first | lia | omega⟩
  · rw [dget_dset]
    by_cases hxs : x = s
    · rw [if_pos hxs]; exact .inr (.inr rfl)
    · rw [if_neg hxs]
      exact (h.cov x hx).imp_right fun q => q.imp_left fun q => (List.mem_cons.mp q).resolve_left hxs
  · rw [dget_dset] at hx
    by_cases hxs : x = s
    · rw [if_pos hxs] at hx; cases hx; rw [hxs]; exact hv
    · rw [if_neg hxs] at hx; exact h.hg x w hx
theorem Tn.leave (h : Tn es rw' tr ms wt us (s :: vs) lf kn) (hs : s ∈ ms) : Tn es rw' tr ms wt (us ++ [s]) vs (lf ++ [s]) kn := by
  have hl := h.len
  rw [List.length_cons] at hl
  refine ⟨by rw [h.split, List.append_assoc]; rfl, by rw [List.length_append, List.length_append]; exact Nat.add_le_add_right h.le _, fun x hx => ?_, fun x hx => ?_, h.hg, by rw [List.length_append, List.length_singleton]; first | lia | omega⟩
  · rcases List.mem_append.mp hx with hx | hx
    · exact h.sub x hx
    · rw [List.mem_singleton.mp hx]; exact hs
  · rcases h.cov x hx with q | q | q
    · exact .inl (List.mem_append.mpr (.inl q))
    · rcases List.mem_cons.mp q with q | q
      · exact .inl (List.mem_append.mpr (.inr (List.mem_singleton.mpr q)))
      · exact .inr (.inl q)
    · exact .inr (.inr q)
end
set_option maxHeartbeats 1000000 in
theorem height_ok : Ver spHeight B_height N_height 2 := by
  intro ps H Q X h
  have hL : LIM = 1048576 := rfl
  obtain ⟨p, es, rw', tr, nm, rfl, hp, hg, hnm, hQ, hQ'⟩ := h
  refine ⟨rfl, ?_⟩
  refine U_cometo ⟨p, es, rw', tr, nm, rfl, hp, hg, hnm, fun c ms H₁ hc h₁ hml hin hsub e₁ => ?_⟩
  refine fun k H₂ hk h₂ e₂ => ?_
  replace hk := e₁.none_of hk
  refine ⟨fun z m H' => Ex4 fun (w : Addr) (wt : List Str) (kn : List (Str × Int)) (x : Option PV × Option PV × Option PV) => An9 (z = wt.length) (m = [some (.obj p), some (.str nm), some (.obj w), some (.obj k), x.1, x.2.1, x.2.2]) (∀ s ∈ wt, s ∈ ms) (∀ s ∈ ms, s ∈ wt ∨ (dget kn s).isSome = true) (∀ s v, dget kn s = some v → Hg (ioP es) rw' tr s v) (kn.length + wt.length ≤ 100) (H' w = some (.list (wt.map .str))) (H' k = some (.dict (KI kn))) (Ext H H'),
    ⟨_, c, ms, [], (none, none, none), rfl, rfl, fun _ h => h, fun _ h => .inl h, fun _ _ h => (nomatch h), by rw [List.length_nil, Nat.zero_add]; exact hml, e₂.at h₁, h₂, e₁.trans e₂⟩, ?_⟩
  clear h₁ h₂ e₁ e₂ hc
  rintro z m H' ⟨w, wt, kn, ⟨x4, x5, x6⟩, rfl, rfl, hws, hcv, hkn, hkl, w', k', e'⟩
  refine O_lenL w' ?_
  rw [List.length_map]
  refine O_ite (fun hlt => ?_) (fun hge => ?_)
  · refine fun l H₃ hl h₃ e₃ => ?_
    have hwl := ne_of w' hl
    have hkl' := ne_of k' hl
    have hwk : w ≠ k := fun e => by rw [e, k'] at w'; cases w'
    replace hl := e'.none_of hl
    refine O_itL (e₃.at w') ?_
    refine forW_ind (fun rest m Hx => Ex5 fun (us vs lf : List Str) (kn' : List (Str × Int)) (x : Option PV × Option PV) => An7 (rest = vs.map .str) (m = [some (.obj p), some (.str nm), some (.obj w), some (.obj k), some (.obj l), x.1, x.2]) (Tn es rw' tr ms wt us vs lf kn') (Hx l = some (.list (lf.map .str))) (Hx k = some (.dict (KI kn'))) (Hx w = some (.list (wt.map .str))) (Ext H Hx)) ?_ ?_ _ _ _
      ⟨[], wt, [], kn, (x5, x6), rfl, rfl, ⟨rfl, Nat.le_refl _, fun _ h => (nomatch h), fun s hs => .inr (hcv s hs), hkn, hkl⟩, h₃, e₃.at k', e₃.at w', e'.trans e₃⟩
    · rintro m Hx ⟨us, vs, lf, kn', x, hr', rfl, ht, l₄, k₄, w₄, e₄⟩
      have : vs = [] := by cases vs with | nil => rfl | cons _ _ => cases hr'
      subst this
      obtain rfl : wt = us := by rw [ht.split, List.append_nil]
      refine ⟨w₄, ?_⟩
      refine O_lenL l₄ ?_
      refine O_lenL w₄ ?_
      rw [List.length_map, List.length_map]
      refine O_ite (fun _ => hQ' _ e₄) (fun hne => ?_)
      have hne' : lf.length ≠ wt.length := fun h => hne (by rw [h]; exact beq_self_eq_true _)
      exact ⟨lf.length, Nat.lt_of_le_of_ne ht.le hne', l, lf, kn', (_, _, _), rfl, rfl, ht.sub, fun s hs => (ht.cov s hs).imp_right fun h => h.resolve_left (fun h => nomatch h), ht.hg, ht.len, l₄, k₄, e₄⟩
    · rintro y ys m Hx ⟨us, vs, lf, kn', ⟨x5, x6⟩, hr', rfl, ht, l₄, k₄, w₄, e₄⟩
      cases vs with
      | nil => cases hr'
      | cons s vs =>
      cases hr'
      refine ⟨w₄, fun K hK => ?_⟩
      have hsm : s ∈ ms := hws s (by rw [ht.split]; exact List.mem_append.mpr (.inr (List.mem_cons_self ..)))
      have hsn := hsub s hsm
      have hp₄ := hp.ext e₄
      obtain ⟨i, o, ra, gb, _, ra₀, hro, hrl⟩ := hp₄.find hsn
      have hlen := ht.len
      rw [List.length_cons] at hlen
      refine O_subD hp₄.ha gb ?_
      refine U_named ⟨ra, rw' s, rfl, ra₀, hrl, fun d H₅ hd h₅ e₅ => ?_⟩
      refine O_itL h₅ ?_
      refine comp_map h₅ PV.str (fun u => .bool (dget kn' u).isSome) (fun u K h => ?_) _ _ ?_
      · refine O_inD (e₅.at k₄) ?_
        rw [KI_key]
        exact h
      refine fun f H₆ hf h₆ e₆ => ?_
      rw [List.nil_append, show ((namesOf (rw' s)).map fun u => PV.bool (dget kn' u).isSome) = ((namesOf (rw' s)).map fun u => (dget kn' u).isSome).map .bool by rw [List.map_map]; rfl] at h₆
      refine O_allL h₆ ?_
      have e56 := e₅.trans e₆
      have e46 := e₄.trans e56
      refine O_ite (fun hall => ?_) (fun _ => ?_)
      · have hall' : ∀ u ∈ namesOf (rw' s), (dget kn' u).isSome = true := fun u hu => List.all_eq_true.mp hall _ (List.mem_map.mpr ⟨u, hu, rfl⟩)
        refine U_heightby ⟨p, es, rw', tr, s, k, kn', rfl, hp₄.ext e56, hg, hsn, e56.at k₄, hall', fun v H₇ hm e₇ => ?_⟩
        refine O_storeD (e₇.at (e56.at k₄)) (by unfold KI; rw [List.length_map]; first | lia | omega) fun H₈ h₈ e₈ => ?_
        rw [KI_set] at h₈
        have hv : Hg (ioP es) rw' tr s v := .mk _ (fun u hu => ?_) hm
        · exact hK _ _ ⟨us ++ [s], vs, lf, _, (_, _), rfl, rfl, ht.know hv, e₈.at (Ne.symm hkl') (e₇.at (e56.at l₄)), h₈, e₈.at hwk (e₇.at (e56.at w₄)), ExtB.fresh hk (e46.trans e₇) e₈⟩
        obtain ⟨x, hx⟩ := Option.isSome_iff_exists.mp (hall' u hu)
        show Hg (ioP es) rw' tr u ((dget kn' u).getD 0)
        rw [hx]; exact ht.hg u x hx
      · refine O_recv (e56.at l₄) rfl ?_
        refine O_append (e56.at l₄) (by rw [List.length_map]; first | lia | omega) fun H₇ h₇ e₇ => ?_
        exact hK _ _ ⟨us ++ [s], vs, lf ++ [s], kn', (_, _), rfl, rfl, ht.leave hsm, by rw [h₇, List.map_append]; rfl, e₇.at hkl' (e56.at k₄), e₇.at hwl (e56.at w₄), ExtB.fresh hl e46 e₇⟩
  · have hw0 : wt = [] := by cases wt with | nil => rfl | cons a l => exact absurd (decide_eq_true (Int.ofNat_lt.mpr (Nat.succ_pos l.length))) hge
    subst hw0
    have hs := (hcv nm hin).resolve_left (fun h => nomatch h)
    refine O_subD k' (KI_get hs) ?_
    obtain ⟨v, hv⟩ := Option.isSome_iff_exists.mp hs
    unfold fv
    rw [hv]
    exact hQ v _ (hkn nm v hv) e'
end Mine
end
section
open PySem PySem.W PySem.Calls PyProof.Rows
namespace Mine
set_option autoImplicit false

theorem need_ok : Ver spNeed B_need N_need 2 := by
  intro ps H Q X h
  obtain ⟨a, st, k, rfl, ha, hk, hQ⟩ := h
  refine ⟨rfl, ?_⟩
  refine O_lenL ha ?_
  refine I_neg (by rw [decide_eq_false (Int.not_lt.mpr hk)]; decide) ?_
  exact hQ
theorem kinds_ok : Ver spKinds B_kinds_of N_kinds_of 1 := by
  intro ps H Q X h
  have hL : LIM = 1048576 := rfl
  obtain ⟨a, st, rfl, ha, hst, hl, hQ⟩ := h
  refine ⟨rfl, ?_⟩
  refine fun c H₁ hc h₁ e₁ => ?_
  refine O_itL (e₁.at ha) ?_
  refine forW_ind (fun rest m H' => Ex2 fun (done : List PV) (x : Option PV) => An4 (st = done ++ rest) (Ext H H') (H' c = some (.list ((done.map kindS).map .str))) (m = [some (.obj a), some (.obj c), x])) ?_ ?_ _ _ _ ⟨[], none, rfl, e₁, h₁, rfl⟩
  · rintro m H' ⟨done, x2, hd, e, h', rfl⟩
    rw [List.append_nil] at hd
    subst hd
    refine ⟨e.at ha, ?_⟩
    refine O_tupL h' ?_
    exact hQ _ e
  · rintro v rest m H' ⟨done, x2, hd, e, h', rfl⟩
    refine ⟨e.at ha, fun K hK => ?_⟩
    have hlen : ((done.map kindS).map PV.str).length < LIM := by have := congrArg List.length hd; rw [List.length_append, List.length_cons] at this; rw [List.length_map, List.length_map]; first | lia | omega
    have fin : MethW (fun _ H => K [some (.obj a), some (.obj c), some v] H) H' .append (.obj c) [.str (kindS v)] := O_append h' hlen fun H₂ h₂ e₂ => hK _ _ ⟨done ++ [v], some v, by rw [hd, List.append_assoc]; rfl, ExtB.fresh hc e e₂, by rw [h₂, List.map_append, List.map_append]; rfl, rfl⟩
    rcases hst v (by rw [hd]; exact List.mem_append.mpr (.inr (List.mem_cons_self ..))) with ⟨i, rfl, _⟩ | ⟨s, rfl, _⟩
    · exact O_recv h' rfl fin
    · exact O_recv h' rfl fin
theorem okv_int {i : Int} (h : Okv (.int i)) : 0 ≤ i ∧ i < 1000000000 := by
  rcases h with ⟨j, h, h'⟩ | ⟨s, h, _⟩
  · cases h; exact h'
  · cases h
theorem okv_str {s : Str} (h : Okv (.str s)) : s.length ≤ 60 := by
  rcases h with ⟨j, h, _⟩ | ⟨u, h, h'⟩
  · cases h
  · cases h; exact h'
theorem reck_ok : Ver spReck B_reckoned N_reckoned 2 := by
  intro ps H Q X h
  have hL : LIM = 1048576 := rfl
  have hB' : 1000000000 ≤ (2 : Nat) ^ 60 := by decide
  obtain ⟨w, a, vs, v, rfl, ha, hok, hc, hQ⟩ := h
  refine ⟨rfl, ?_⟩
  have o0 : ∀ x l, vs = x :: l → Okv x := fun x l e => hok x (by rw [e]; exact List.mem_cons_self ..)
  cases hc with
  | add i j =>
    refine O_subL ha rfl ?_
    refine O_subL ha rfl ?_
    refine O_glob G_bound ?_
    exact hQ
  | mul i j =>
    have := okv_int (o0 _ _ rfl)
    refine O_subL ha rfl ?_
    refine O_subL ha rfl ?_
    refine O_mulI (.inl (by first | lia | omega)) ?_
    refine O_glob G_bound ?_
    exact hQ
  | less i j =>
    refine O_subL ha rfl ?_
    refine O_subL ha rfl ?_
    rw [show (if i < j then (1 : Int) else 0) = if decide (i < j) = true then 1 else 0 by by_cases q : i < j <;> simp [q]] at hQ
    exact hQ
  | join s u =>
    have h1 := okv_str (o0 _ _ rfl)
    have h2 := okv_str (hok (.str u) (List.mem_cons_of_mem _ (List.mem_cons_self ..)))
    refine O_subL ha rfl ?_
    refine O_subL ha rfl ?_
    refine O_addS (by first | lia | omega) ?_
    refine O_glob G_longest ?_
    refine O_toS (by rw [str_len_append]; first | lia | omega) ?_
    exact hQ
  | long s =>
    have h1 := okv_str (o0 _ _ rfl)
    refine O_subL ha rfl ?_
    refine O_lenS (by first | lia | omega) ?_
    exact hQ
  | «show» i =>
    have h1 := okv_int (o0 _ _ rfl)
    have h2 : 1000000000 ≤ (10 : Nat) ^ 18 := by decide
    refine O_subL ha rfl ?_
    refine O_strI (by first | lia | omega) ?_
    exact hQ
theorem Cal.takes {w : W} {vs : List PV} {v : PV} (h : Cal w vs v) : takesS w = some (vs.map kindS) := by cases h <;> rfl
theorem done_cal {a : Addr} {pre vs : List PV} {v : PV} {w : W} {H : AHeap} {Q : Post} {X : XPost} (hc : Cal w vs v) (ha : H a = some (.list (pre ++ vs))) (hst : StOk 900 (pre ++ vs))
    (hQ : ∀ c H', H c = none → H' c = some (.list (pre ++ [v])) → Ext H H' → Q (.obj c) H') :
    awpSs g01 B_done (fun _ H => Q .none H) Q (fun c _ H => X c H) (initL N_done 2 [.obj a, .tup w.row]) H := by
  have hL : LIM = 1048576 := rfl
  have ht := hc.takes
  have nn : ∀ {x : Str}, x ∈ (["num", "text", "copy", "swap", "drop", "call", "if"] : List Str) → ¬ (wd w == x) = true := fun hx => by rw [W.others ht _ hx]; decide
  refine O_subT w.head ?_
  refine O_lenL ha ?_
  refine I_neg (nn (by decide +kernel)) ?_
  refine I_neg (nn (by decide +kernel)) ?_
  refine I_neg (nn (by decide +kernel)) ?_
  refine I_neg (nn (by decide +kernel)) ?_
  refine I_neg (nn (by decide +kernel)) ?_
  refine O_glob G_takes ?_
  refine O_subF (tk_get ht) ?_
  obtain ⟨hok, hlen⟩ := hst
  have hvl : ((vs.map kindS).map PV.str).length = vs.length := by rw [List.length_map, List.length_map]
  refine U_need ⟨a, _, _, rfl, ha, by rw [hvl, List.length_append]; exact Int.ofNat_le.mpr (Nat.le_add_left _ _), ?_⟩
  rw [List.length_append] at hlen
  have ok : ∀ v ∈ vs, Okv v := fun v hvm => hok v (List.mem_append.mpr (.inr hvm))
  have hcut : (((pre ++ vs).length : Int) - (((vs.map kindS).map PV.str).length : Int)) = pre.length := by rw [hvl]; exact len_sub
  refine O_fromL ha fun c H₁ hc h₁ e₁ => ?_
  rw [(cut_at hcut).2] at h₁
  refine O_listL h₁ fun d H₂ hd h₂ e₂ => ?_
  refine U_kinds ⟨d, vs, rfl, h₂, ok, by first | lia | omega, fun H₃ e₃ => ?_⟩
  have e13 := (e₁.trans e₂).trans e₃
  refine O_neT (eq_strs (vs.map kindS) (vs.map kindS)) ?_
  rw [decide_eq_true rfl]
  refine O_toL (e13.at ha) fun f H₄ hf h₄ e₄ => ?_
  rw [(cut_at hcut).1] at h₄
  refine O_listL h₄ fun g5 H₅ hg h₅ e₅ => ?_
  have e35 := e₄.trans e₅
  refine U_reck ⟨w, d, vs, v, rfl, (e₃.trans e35).at h₂, ok, ‹Cal w vs v›, ?_⟩
  refine fun b H₆ hb h₆ e₆ => ?_
  refine O_addL (e₆.at h₅) h₆ (by rw [List.length_singleton]; first | lia | omega) fun z H₇ hz h₇ e₇ => ?_
  exact hQ _ _ (e13.back (e35.back (e₆.back hz))) h₇ (((e13.trans e35).trans e₆).trans e₇)
set_option maxHeartbeats 1000000 in
theorem done_ok : Ver spDone B_done N_done 2 := by
  intro ps H Q X h
  have hL : LIM = 1048576 := rfl
  obtain ⟨a, st, ys, w, rfl, hw, ha, hst, hr, hres⟩ := h
  refine ⟨rfl, ?_⟩
  have hlen := hst.len
  have push : ∀ (x : PV), (∀ c H', H c = none → H' c = some (.list (st ++ [x])) → Ext H H' → Q (.obj c) H') → BltW (fun v H => alloc (.list [x]) (fun w H => binW .Add v w Q H) H) H .list [.obj a] := fun x hx => by
    refine O_listL ha fun c H₁ hc h₁ e₁ => ?_
    refine fun d H₂ hd h₂ e₂ => ?_
    refine O_addL (e₂.at h₁) h₂ (by rw [List.length_singleton]; first | lia | omega) fun b H₃ hb h₃ e₃ => ?_
    exact hx _ _ ((e₁.trans e₂).back hb) h₃ ((e₁.trans e₂).trans e₃)
  cases hr with
  | num i st =>
    refine O_lenL ha ?_
    exact push _ hres
  | text i st =>
    refine O_lenL ha ?_
    exact push _ hres
  | @copy n pre b v hb =>
    refine O_lenL ha ?_
    have hl : (pre ++ v :: b).length = pre.length + (n + 1) := by rw [List.length_append, List.length_cons, hb]
    refine U_need ⟨a, _, _, rfl, ha, by rw [hl]; first | lia | omega, ?_⟩
    refine O_listL ha fun c H₁ hc h₁ e₁ => ?_
    refine O_subL (e₁.at ha) (at_len (by rw [hl]; first | lia | omega)) ?_
    refine fun d H₂ hd h₂ e₂ => ?_
    refine O_addL (e₂.at h₁) h₂ (by rw [List.length_singleton]; first | lia | omega) fun b H₃ hb h₃ e₃ => ?_
    exact hres _ _ ((e₁.trans e₂).back hb) h₃ ((e₁.trans e₂).trans e₃)
  | swap pre x y =>
    refine O_lenL ha ?_
    have hl : (pre ++ [x, y]).length = pre.length + 2 := List.length_append ..
    refine U_need ⟨a, _, _, rfl, ha, by rw [hl]; first | lia | omega, ?_⟩
    refine O_toL ha fun c H₁ hc h₁ e₁ => ?_
    rw [(cut_at (by rw [hl]; first | lia | omega)).1] at h₁
    refine O_listL h₁ fun d H₂ hd h₂ e₂ => ?_
    have e12 := e₁.trans e₂
    refine O_subL (e12.at ha) (x := y) (by rw [show pre ++ [x, y] = pre ++ [x] ++ [y] by rw [List.append_assoc]; rfl]; exact at_len (by rw [List.length_append, List.length_append]; show ((pre.length + 1 + 1 : Nat) : Int) - 1 = ((pre.length + 1 : Nat) : Int); first | lia | omega)) ?_
    refine O_subL (e12.at ha) (at_len (by rw [hl]; first | lia | omega)) ?_
    refine fun f H₃ hf h₃ e₃ => ?_
    refine O_addL (e₃.at h₂) h₃ (by show _ + 2 ≤ _; first | lia | omega) fun b H₄ hb h₄ e₄ => ?_
    exact hres _ _ ((e12.trans e₃).back hb) h₄ ((e12.trans e₃).trans e₄)
  | drop _ x =>
    refine O_lenL ha ?_
    have hl : (ys ++ [x]).length = ys.length + 1 := List.length_append ..
    refine U_need ⟨a, _, _, rfl, ha, by rw [hl]; first | lia | omega, ?_⟩
    refine O_toL ha fun c H₁ hc h₁ e₁ => ?_
    rw [(cut_at (by rw [hl]; first | lia | omega)).1] at h₁
    refine O_listL h₁ fun d H₂ hd h₂ e₂ => ?_
    exact hres _ _ (e₁.back hd) h₂ (e₁.trans e₂)
  | cal pre h => exact done_cal h ha hst hres
end Mine
end
section
open PySem PySem.W PySem.Calls PyProof.Rows
namespace Mine
set_option autoImplicit false

section
variable {rw' : Str → List Rw} {fs : Frs} {f : Str × Nat}
theorem setl_fin (h : fin rw' f = true) : setl rw' (fs ++ [f]) = setl rw' fs := by
  unfold setl
  rw [List.reverse_append]
  show ((f :: fs.reverse).dropWhile (fin rw')).reverse = _
  rw [List.dropWhile_cons_of_pos h]
theorem setl_stop (h : fin rw' f = false) : setl rw' (fs ++ [f]) = fs ++ [f] := by
  unfold setl
  rw [List.reverse_append]
  show ((f :: fs.reverse).dropWhile (fin rw')).reverse = _
  rw [List.dropWhile_cons_of_neg (by rw [h]; decide), List.reverse_cons, List.reverse_reverse]
theorem FrI.setl {ns : List Str} {m : Nat} (h : FrI ns rw' m fs) : FrI ns rw' m (Mine.setl rw' fs) ∧ ∀ pre f, Mine.setl rw' fs = pre ++ [f] → fin rw' f = false := by
  induction hl : fs.length generalizing fs with
  | zero => rw [List.length_eq_zero_iff.mp hl]; exact ⟨⟨fun _ h => (nomatch h), Nat.zero_le _⟩, fun pre f q => by cases pre <;> cases q⟩
  | succ k ih =>
    rcases List.eq_nil_or_concat fs with rfl | ⟨gs, g, rfl⟩
    · cases hl
    rw [List.concat_eq_append] at *
    cases hf : fin rw' g with
    | true =>
      rw [setl_fin hf]
      have hl' : gs.length = k := by rw [List.length_append] at hl; exact Nat.succ.inj hl
      exact ih ⟨fun f hf => h.names f (List.mem_append.mpr (.inl hf)), Nat.le_trans (by rw [List.length_append]; exact Nat.le_add_right _ _) h.len⟩ hl'
    | false =>
      rw [setl_stop hf]
      refine ⟨h, fun pre f q => ?_⟩
      have := (List.append_inj' q rfl).2
      cases this
      exact hf
end
theorem MA_p (p s f : Addr) : dget (MA p s f) "program" = some (.obj p) := by kernel_rfl
theorem MA_s (p s f : Addr) : dget (MA p s f) "stack" = some (.obj s) := by kernel_rfl
theorem MA_f (p s f : Addr) : dget (MA p s f) "frames" = some (.obj f) := by kernel_rfl
theorem MA_over (p s f : Addr) : dget (MA p s f) "over" = none := by kernel_rfl
theorem MA_step (p s f : Addr) : dget (MA p s f) "step" = none := by kernel_rfl
theorem MA_settle (p s f : Addr) : dget (MA p s f) "settle" = none := by kernel_rfl
theorem MA_goal (p s f : Addr) : dget (MA p s f) "goal_of" = none := by kernel_rfl
theorem MA_fs (p s f f' : Addr) : dset (MA p s f) "frames" (.obj f') = MA p s f' := by kernel_rfl
theorem MA_ss (p s f s' : Addr) : dset (MA p s f) "stack" (.obj s') = MA p s' f := by kernel_rfl
theorem fr_app (a b : Frs) : frPV (a ++ b) = frPV a ++ frPV b := by unfold frPV; rw [List.map_append]
theorem fr_one (f : Str × Nat) : frPV [f] = [.tup [.str f.1, .int f.2]] := rfl
theorem fr_len (fr : Frs) : (frPV fr).length = fr.length := by unfold frPV; rw [List.length_map]
theorem last_one {α : Type} (xs : List α) (x : α) : (xs ++ [x]).drop (cutAt (xs ++ [x]).length (-1)) = [x] := by
  unfold cutAt
  rw [if_neg (by decide), List.length_append, List.length_singleton, show ((-1 : Int) + ((xs.length + 1 : Nat) : Int)).toNat = xs.length by first | lia | omega]
  exact List.drop_left
theorem over_ok : Ver spOver B_Machine_over N_Machine_over 1 := by
  intro ps H Q X h
  obtain ⟨a, d, p, st, fr, rfl, ⟨sA, fA, ha, hd, hs, hf⟩, hQ⟩ := h
  refine ⟨rfl, ?_⟩
  refine O_attr ha hd (MA_f ..) ?_
  refine O_lenL hf ?_
  have : (((frPV fr).length : Int) == 0) = fr.isEmpty := by
    cases fr with
    | nil => rfl
    | cons f fr => rfl
  rw [← this] at hQ
  exact hQ
theorem Pg.stepA {H H' : AHeap} {p d : Addr} {kvs' : List (Str × PV)} {es : Pr} {rw' : Str → List Rw} (h : Pg H p es rw') (hd : H d = some (.attrs kvs')) (e : ExtB d H H') : Pg H' p es rw' :=
  ⟨e.at (fun q => by have := h.ha; rw [q, hd] at this; cases this) h.ha, h.ok, h.ne, h.rows.off e fun xs q => by rw [hd] at q; cases q⟩
section
variable {H : AHeap} {p : Addr} {es : Pr} {rw' : Str → List Rw} {fs : Frs} {f : Str × Nat}
theorem top_at (hp : Pg H p es rw') (hn : f.1 ∈ nmsP es) : ∃ i o b, dget (kvsP es) f.1 = some (blk (i, o, [.obj b])) ∧ H b = some (.list (rowsPV (rw' f.1))) ∧ itemAt (frPV (fs ++ [f])) (-1) = some (.tup [.str f.1, .int f.2]) ∧ decide ((0 : Int) < ((frPV (fs ++ [f])).length : Int)) = true ∧ RsOk 200000 (rw' f.1) := by
  obtain ⟨i, o, b, h1, _, h2, h3⟩ := hp.find hn
  exact ⟨i, o, b, h1, h2, by rw [fr_app, fr_one]; exact last_at _ _, decide_eq_true (by rw [fr_len, List.length_append]; exact Int.ofNat_lt.mpr (Nat.succ_pos _)), h3⟩
theorem fin_eq (f : Str × Nat) : ((f.2 : Int) == ((rowsPV (rw' f.1)).length : Int)) = fin rw' f := by
  unfold fin
  rw [rowsPV_len, Bool.eq_iff_iff, beq_iff_eq, beq_iff_eq]
  exact Int.ofNat_inj
end
theorem settle_ok : Ver spSettle B_Machine_settle N_Machine_settle 1 := by
  intro ps H Q X h
  obtain ⟨a, d, p, st, fr, es, rw', rfl, hm, hp, hn, hQ⟩ := h
  refine ⟨rfl, ?_⟩
  obtain ⟨o₀, hd₀⟩ : ∃ o, H d = some (.attrs o) := by obtain ⟨_, _, _, hd, _⟩ := hm; exact ⟨_, hd⟩
  refine ⟨fun z m H' => Ex1 fun (gs : Frs) => An6 (z = gs.length) (m = [some (.obj a)]) (Mch H' a d p st gs) (∀ g ∈ gs, g.1 ∈ nmsP es) (setl rw' gs = setl rw' fr) (ExtB d H H'), ⟨_, fr, rfl, rfl, hm, hn, rfl, fun _ _ _ h => h⟩, ?_⟩
  clear hn hm
  rintro z m H' ⟨gs, rfl, rfl, ⟨sA, fA, ha, hd, hs, hf⟩, hn, hse, e'⟩
  have hp' := hp.stepA hd₀ e'
  refine O_attr ha hd (MA_f ..) ?_
  refine O_lenL hf ?_
  rcases List.eq_nil_or_concat gs with rfl | ⟨fs, f, rfl⟩
  · exact hQ H' (by rw [← hse]; exact ⟨sA, fA, ha, hd, hs, hf⟩) e'
  rw [List.concat_eq_append] at *
  obtain ⟨i, o, b, h1, h2, h3, h4, _⟩ := top_at (fs := fs) hp' (hn f (List.mem_append.mpr (.inr (List.mem_singleton.mpr rfl))))
  refine I_pos h4 ?_
  refine O_attr ha hd (MA_f ..) ?_
  refine O_subL hf h3 ?_
  refine O_attr ha hd (MA_p ..) ?_
  refine O_attr ha hd (MA_f ..) ?_
  refine O_subL hf h3 ?_
  refine O_subD hp'.ha h1 ?_
  refine O_lenL h2 ?_
  cases hfi : fin rw' f with
  | false =>
    refine I_neg (by rw [fin_eq, hfi]; decide) ?_
    refine hQ H' ?_ e'
    rw [← hse, setl_stop hfi]
    exact ⟨sA, fA, ha, hd, hs, hf⟩
  | true =>
    refine I_pos (by rw [fin_eq, hfi]) ?_
    refine O_attr ha hd (MA_f ..) ?_
    refine O_toL hf fun c H₁ hc h₁ e₁ => ?_
    rw [fr_app, fr_one, cut_last] at h₁
    refine O_sattr (e₁.at ha) (e₁.at hd) (Nat.le_of_ble_eq_true rfl) fun H₂ h₂ e₂ => ?_
    rw [MA_fs] at h₂
    have hne : ∀ {x : Addr} {o : AObj}, H' x = some o → (∀ k, o ≠ .attrs k) → x ≠ d := fun h n q => by rw [q, hd] at h; exact n _ (Option.some.inj h).symm
    exact ⟨fs.length, by rw [List.length_append]; exact Nat.lt_succ_self _, fs, rfl, rfl, ⟨sA, c, e₂.at (hne ha (fun _ q => nomatch q)) (e₁.at ha), h₂, e₂.at (hne hs (fun _ q => nomatch q)) (e₁.at hs), e₂.at (Ne.symm (ne_of hd hc)) h₁⟩, fun g hg => hn g (List.mem_append.mpr (.inl hg)), by rw [← hse, setl_fin hfi], fun x v hx h => e₂.at hx (e₁.at (e'.at hx h))⟩
theorem init_ok : Ver spInit B_Machine___init__ N_Machine___init__ 4 := by
  intro ps H Q X h
  obtain ⟨a, d, p, s, n, st, es, rw', rfl, ha, hd, hp, hs, hn, hQ⟩ := h
  refine ⟨rfl, ?_⟩
  have had : a ≠ d := fun q => by rw [q, hd] at ha; cases ha
  have hsd : s ≠ d := fun q => by rw [q, hd] at hs; cases hs
  refine O_niD hp.ha ?_
  obtain ⟨_, _, _, hgb, _⟩ := hp.find hn
  rw [show hasKey (kvsP es) n = true by unfold hasKey; rw [hgb]; rfl]
  refine O_sattr ha hd (Nat.le_of_ble_eq_true rfl) fun H₁ h₁ e₁ => ?_
  refine O_listL (e₁.at hsd hs) fun c H₂ hc h₂ e₂ => ?_
  have hcd : c ≠ d := Ne.symm (ne_of h₁ hc)
  refine O_sattr (e₂.at (e₁.at had ha)) (e₂.at h₁) (Nat.le_of_ble_eq_true rfl) fun H₃ h₃ e₃ => ?_
  refine fun f H₄ hf h₄ e₄ => ?_
  have hfd : f ≠ d := Ne.symm (ne_of h₃ hf)
  have a₄ := e₄.at (e₃.at had (e₂.at (e₁.at had ha)))
  refine O_sattr a₄ (e₄.at h₃) (Nat.le_of_ble_eq_true rfl) fun H₅ h₅ e₅ => ?_
  have hma : H₅ d = some (.attrs (MA p c f)) := by rw [h₅]; exact congrArg (fun x => some (AObj.attrs x)) (by kernel_rfl)
  have x₅ : ExtB d H H₅ := fun x v hx h => e₅.at hx (e₄.at (e₃.at hx (e₂.at (e₁.at hx h))))
  have a₅ := x₅.at had ha
  refine O_umeth a₅ hma (MA_settle ..) ?_
  refine U_settle ⟨a, d, p, st, [(n, 0)], es, rw', rfl, ⟨c, f, a₅, hma, e₅.at hcd (e₄.at (e₃.at hcd h₂)), e₅.at hfd h₄⟩, hp.stepA hd x₅, fun x hx => by rw [List.mem_singleton.mp hx]; exact hn, fun H₆ hm e₆ => ?_⟩
  exact hQ H₆ hm (fun x v hx h => e₆.at hx (x₅.at hx h))
end Mine
end
section
open PySem PySem.W PySem.Calls PyProof.Rows
namespace Mine
set_option autoImplicit false

theorem Pg.has {H : AHeap} {p : Addr} {es : Pr} {rw' : Str → List Rw} (hp : Pg H p es rw') {n : Str} (hn : n ∈ nmsP es) : hasKey (kvsP es) n = true := by
  obtain ⟨_, _, _, h, _⟩ := hp.find hn
  unfold hasKey; rw [h]; rfl
set_option maxHeartbeats 1000000 in
theorem goalof_ok : Ver spGoalOf B_Machine_goal_of N_Machine_goal_of 2 := by
  intro ps H Q X h
  obtain ⟨a, d, p, st, fr, es, rw', r, st', g, rfl, ⟨sA, fA, ha, hd, hs, hf⟩, hp, he, hst, hQ⟩ := h
  refine ⟨rfl, ?_⟩
  generalize hmo : [(g, 0)] = more at he
  cases he with
  | pl => cases hmo
  | call hn =>
    cases hmo
    refine O_attr ha hd (MA_p ..) ?_
    refine O_niD hp.ha ?_
    rw [hp.has hn]
    exact hQ H (Ext.refl _)
  | @iff n m i pre hg =>
    have hgg : g = if i = 0 then m else n := congrArg Prod.fst (List.cons.inj hmo).1
    refine O_attr ha hd (MA_s ..) ?_
    refine O_lenL hs ?_
    refine I_neg (by rw [List.length_append]; show ¬ (((st'.length + 1 : Nat) : Int) == 0) = true; rw [beq_iff_eq]; first | lia | omega) ?_
    refine O_attr ha hd (MA_s ..) ?_
    refine O_fromL hs fun c H₁ hc h₁ e₁ => ?_
    rw [last_one] at h₁
    refine U_kinds ⟨c, _, rfl, h₁, fun v hv => hst.ok v (List.mem_append.mpr (.inr hv)), Nat.le_of_ble_eq_true rfl, fun H₂ e₂ => ?_⟩
    refine O_neT (eq_strs ["num"] ["num"]) ?_
    refine I_neg (by decide +kernel) ?_
    have e12 := e₁.trans e₂
    refine O_attr (e12.at ha) (e12.at hd) (MA_s ..) ?_
    refine O_subL (e12.at hs) (last_at _ _) ?_
    refine O_ite (fun h => ?_) (fun h => ?_)
    · rw [if_pos (beq_iff_eq.mp h)] at hg hgg
      subst hgg
      refine O_attr (e12.at ha) (e12.at hd) (MA_p ..) ?_
      refine O_niD (e12.at hp.ha) ?_
      rw [hp.has hg]
      exact hQ H₂ e12
    · rw [if_neg fun q => h (beq_iff_eq.mpr q)] at hg hgg
      subst hgg
      refine O_attr (e12.at ha) (e12.at hd) (MA_p ..) ?_
      refine O_niD (e12.at hp.ha) ?_
      rw [hp.has hg]
      exact hQ H₂ e12
set_option maxHeartbeats 1000000 in
theorem step_ok : Ver spStep B_Machine_step N_Machine_step 1 := by
  intro ps H Q X h
  have hL : LIM = 1048576 := rfl
  refine ⟨by cases h with | over a d p st a0 => rw [a0]; rfl | mk a d p st st' pre more n k r es rw' a0 => rw [a0]; rfl, ?_⟩
  cases h with
  | over a d p st a0 hm hQ =>
    subst a0
    have hm₀ := hm
    obtain ⟨sA, fA, ha, hd, hs, hf⟩ := hm
    refine O_umeth ha hd (MA_over ..) ?_
    refine U_over ⟨a, d, p, st, [], rfl, hm₀, ?_⟩
    exact hQ
  | mk a d p st st' pre more n k r es rw' a0 hm hp hfr hst hr he hQ =>
  subst a0
  have hm₀ := hm
  obtain ⟨sA, fA, ha, hd, hs, hf⟩ := hm
  refine O_umeth ha hd (MA_over ..) ?_
  refine U_over ⟨a, d, p, st, _, rfl, hm₀, ?_⟩
  rw [show (pre ++ [(n, k)]).isEmpty = false by cases pre <;> rfl]
  have hnn := hfr.names (n, k) (List.mem_append.mpr (.inr (List.mem_singleton.mpr rfl)))
  obtain ⟨i, o', b, h1, h2, hla, _, hro⟩ := top_at (fs := pre) (f := (n, k)) hp hnn.1
  have hrok := hro.1 r (List.mem_of_getElem? hr)
  clear hro
  refine O_attr ha hd (MA_f ..) ?_
  refine O_subL hf hla ?_
  refine O_attr ha hd (MA_f ..) ?_
  refine O_subL hf hla ?_
  refine O_attr ha hd (MA_p ..) ?_
  refine O_subD hp.ha h1 ?_
  refine O_subL h2 (rows_get hr) ?_
  refine O_attr ha hd (MA_s ..) ?_
  refine fun mo H₁ hmo h₁ e₁ => ?_
  have hm₁ : Mch H₁ a d p st (pre ++ [(n, k)]) := ⟨sA, fA, e₁.at ha, e₁.at hd, e₁.at hs, e₁.at hf⟩
  refine W_cut (fun m H' => Ex2 fun (s₁ m₁ : Addr) => An6 (m = [some (.obj a), some (.str n), some (.int k), some (.tup r.row), some (.obj s₁), some (.obj m₁)]) (H' s₁ = some (.list st')) (H' m₁ = some (.list (frPV more))) (more.length ≤ 1) (∀ f ∈ more, f.1 ∈ nmsP es) (Ext H H')) ?_ ?_
  · intro K hK
    cases he with
    | @pl w st ys hres =>
      refine O_subT w.head ?_
      refine I_neg (by rw [w.plain.1]; decide) ?_
      refine O_subT w.head ?_
      refine I_neg (by rw [w.plain.2]; decide) ?_
      exact U_done ⟨sA, _, _, w, rfl, hrok, e₁.at hs, hst, hres, fun c H' hc h' e' => hK _ _ ⟨c, mo, rfl, h', e'.at h₁, Nat.zero_le _, fun _ h => (nomatch h), e₁.trans e'⟩⟩
    | @call n' st₀ hg =>
      refine O_umeth (e₁.at ha) (e₁.at hd) (MA_goal ..) ?_
      refine U_goalof ⟨a, d, p, _, _, es, rw', _, _, _, rfl, hm₁, hp.ext e₁, .call hg, hst, fun H₂ e₂ => ?_⟩
      refine fun m₁ H₃ hm' h₃ e₃ => ?_
      exact hK _ _ ⟨sA, m₁, rfl, e₃.at (e₂.at (e₁.at hs)), h₃, Nat.le_refl _, fun f hf => by rw [List.mem_singleton.mp hf]; exact hg, (e₁.trans e₂).trans e₃⟩
    | @iff n' m' i' pre' hg =>
      refine O_umeth (e₁.at ha) (e₁.at hd) (MA_goal ..) ?_
      refine U_goalof ⟨a, d, p, _, _, es, rw', _, _, _, rfl, hm₁, hp.ext e₁, .iff hg, hst, fun H₂ e₂ => ?_⟩
      refine fun m₁ H₃ hm' h₃ e₃ => ?_
      have e13 := (e₁.trans e₂).trans e₃
      refine O_toL (e13.at hs) fun s₁ H₄ hs₁ h₄ e₄ => ?_
      rw [cut_last] at h₄
      exact hK _ _ ⟨s₁, m₁, rfl, h₄, e₄.at h₃, Nat.le_refl 1, fun f hf => by rw [List.mem_singleton.mp hf]; exact hg, e13.trans e₄⟩
  clear he hm₁ h₁ e₁ hmo
  rintro m H₂ ⟨s₁, m₁, rfl, hs₁, hm₁, hml, hmn, e₂⟩
  have hd₂ := e₂.at hd
  have ne_d : ∀ {x : Addr} {xs : List PV}, H₂ x = some (.list xs) → x ≠ d := fun h q => by rw [q, hd₂] at h; cases h
  have had : a ≠ d := fun q => by rw [q, hd] at ha; cases ha
  refine O_sattr (e₂.at ha) hd₂ (Nat.le_of_ble_eq_true rfl) fun H₃ h₃ e₃ => ?_
  rw [MA_ss] at h₃
  have a₃ := e₃.at had (e₂.at ha)
  have f₃ := e₃.at (ne_d (e₂.at hf)) (e₂.at hf)
  refine O_attr a₃ h₃ (MA_f ..) ?_
  refine O_toL f₃ fun c H₄ hc h₄ e₄ => ?_
  rw [fr_app, fr_one, cut_last] at h₄
  refine fun c₂ H₅ hc₂ h₅ e₅ => ?_
  have hfl : (frPV pre).length ≤ 1000 := by have := hfr.len; rw [List.length_append] at this; rw [fr_len]; first | lia | omega
  have hml' : (frPV more).length ≤ 1 := by rw [fr_len]; exact hml
  refine O_addL (e₅.at h₄) h₅ (by rw [List.length_singleton]; first | lia | omega) fun c₃ H₆ hc₃ h₆ e₆ => ?_
  have m₃ := e₃.at (ne_d hm₁) hm₁
  refine O_addL h₆ (e₆.at (e₅.at (e₄.at m₃))) (by rw [List.length_append, List.length_singleton]; first | lia | omega) fun c₄ H₇ hc₄ h₇ e₇ => ?_
  have e37 : Ext H₃ H₇ := (((e₄.trans e₅).trans e₆).trans e₇)
  refine O_sattr (e37.at a₃) (e37.at h₃) (Nat.le_of_ble_eq_true rfl) fun H₈ h₈ e₈ => ?_
  rw [MA_fs] at h₈
  have x₈ : ExtB d H H₈ := fun x v hx h => e₈.at hx (e37.at (e₃.at hx (e₂.at h)))
  have a₈ := x₈.at had ha
  have s₈ := e₈.at (ne_d hs₁) (e37.at (e₃.at (ne_d hs₁) hs₁))
  have c₈ : H₈ c₄ = some (.list (frPV (pre ++ [(n, k + 1)] ++ more))) := by
    rw [fr_app, fr_app, fr_one]
    exact e₈.at (fun q => by rw [q, e37.at h₃] at h₇; cases h₇) h₇
  refine O_umeth a₈ h₈ (MA_settle ..) ?_
  refine U_settle ⟨a, d, p, st', _, es, rw', rfl, ⟨s₁, c₄, a₈, h₈, s₈, c₈⟩, hp.stepA hd x₈, fun x hx => ?_, fun H₉ hm₉ e₉ => hQ H₉ hm₉ fun x v hx h => e₉.at hx (x₈.at hx h)⟩
  rcases List.mem_append.mp hx with hx | hx
  · rcases List.mem_append.mp hx with hx | hx
    · exact (hfr.names x (List.mem_append.mpr (.inl hx))).1
    · rw [List.mem_singleton.mp hx]; exact hnn.1
  · exact hmn x hx
end Mine
end
section
open PySem PySem.W PySem.Calls PyProof.Rows
namespace Mine
set_option autoImplicit false

theorem show_len {i : Int} (h0 : 0 ≤ i) (h1 : i < 1000000000) : (Str.ofString (toString i)).length ≤ 60 := by
  obtain ⟨n, rfl⟩ := Int.eq_ofNat_of_zero_le h0
  rw [Str.ofString_eq_toList]
  show (((toString (n : Int)).toList.map Char.toNat).toArray).size ≤ 60
  have e : toString (n : Int) = n.repr := rfl
  rw [e]
  simp only [List.size_toArray, List.length_map]
  have h2 : n.repr.length ≤ 60 := by
    rw [Nat.length_repr_le_iff (by first | lia | omega)]
    have : (10 : Nat) ^ 60 = 1000000000000000000000000000000000000000000000000000000000000 := by decide
    omega
  rw [String.length_toList]; exact h2
theorem cut60_len (s : Str) : (cut60 s).length ≤ 60 := by
  show (((s.cps.toList.take (cutAt s.length 60))).toArray).size ≤ 60
  have : cutAt s.length 60 ≤ 60 := by unfold cutAt; rw [if_pos (by first | lia | omega)]; omega
  simp; omega
theorem Cal.ex {w : W} {ts : List Str} {vs : List PV} (ht : takesS w = some ts) (hk : vs.map kindS = ts) (ok : ∀ v ∈ vs, Okv v) : ∃ v, Cal w vs v := by
  have one : ∀ s : Str, vs.map kindS = [s] → ∃ x, vs = [x] ∧ kindS x = s ∧ Okv x := fun s h => by
    obtain ⟨x, rfl⟩ := rev_one (l := vs) (by have := congrArg List.length h; rwa [List.length_map] at this)
    exact ⟨x, rfl, (List.cons.inj h).1, ok x (List.mem_cons_self ..)⟩
  have two : ∀ s : Str, vs.map kindS = [s, s] → ∃ x y, vs = [x, y] ∧ kindS x = s ∧ kindS y = s ∧ Okv x ∧ Okv y := fun s h => by
    obtain ⟨x, y, rfl⟩ := rev_two (l := vs) (by have := congrArg List.length h; rwa [List.length_map] at this)
    exact ⟨x, y, rfl, (List.cons.inj h).1, (List.cons.inj (List.cons.inj h).2).1, ok x (List.mem_cons_self ..), ok y (List.mem_cons_of_mem _ (List.mem_cons_self ..))⟩
  cases w <;> cases ht
  · obtain ⟨x, y, rfl, h1, h2, o1, o2⟩ := two _ hk
    obtain ⟨i, rfl, _⟩ := okv_num o1 h1
    obtain ⟨j, rfl, _⟩ := okv_num o2 h2
    exact ⟨_, .add i j⟩
  · obtain ⟨x, y, rfl, h1, h2, o1, o2⟩ := two _ hk
    obtain ⟨i, rfl, _⟩ := okv_num o1 h1
    obtain ⟨j, rfl, _⟩ := okv_num o2 h2
    exact ⟨_, .mul i j⟩
  · obtain ⟨x, y, rfl, h1, h2, o1, o2⟩ := two _ hk
    obtain ⟨i, rfl, _⟩ := okv_num o1 h1
    obtain ⟨j, rfl, _⟩ := okv_num o2 h2
    exact ⟨_, .less i j⟩
  · obtain ⟨x, y, rfl, h1, h2, o1, o2⟩ := two _ hk
    obtain ⟨i, rfl, _⟩ := okv_text o1 h1
    obtain ⟨j, rfl, _⟩ := okv_text o2 h2
    exact ⟨_, .join i j⟩
  · obtain ⟨x, rfl, h1, o1⟩ := one _ hk
    obtain ⟨i, rfl, _⟩ := okv_text o1 h1
    exact ⟨_, .long i⟩
  · obtain ⟨x, rfl, h1, o1⟩ := one _ hk
    obtain ⟨i, rfl, _⟩ := okv_num o1 h1
    exact ⟨_, .show i⟩
theorem Cal.okv {w : W} {vs : List PV} {v : PV} (h : Cal w vs v) (ok : ∀ x ∈ vs, Okv x) : Okv v := by
  have md : ∀ a : Int, Okv (.int (a % 1000000000)) := fun a => .inl ⟨_, rfl, mod_lt (by decide)⟩
  cases h with
  | add a b => exact md _
  | mul a b => exact md _
  | less a b => exact .inl ⟨_, rfl, by split <;> decide⟩
  | join a b => exact .inr ⟨_, rfl, cut60_len _⟩
  | long s =>
    have := okv_str (ok _ (List.mem_cons_self ..))
    exact .inl ⟨_, rfl, by first | lia | omega, by first | lia | omega⟩
  | «show» i =>
    have := okv_int (ok _ (List.mem_cons_self ..))
    exact .inr ⟨_, rfl, show_len this.1 this.2⟩
theorem Cal.puts {w : W} {vs : List PV} {v : PV} (h : Cal w vs v) : kindS v = putsS w := by cases h <;> rfl
theorem okv_app {a b : List PV} (ha : ∀ v ∈ a, Okv v) (hb : ∀ v ∈ b, Okv v) : ∀ v ∈ a ++ b, Okv v := fun v hv => (List.mem_append.mp hv).elim (ha v) (hb v)
theorem okv_one {v : PV} (h : Okv v) : ∀ x ∈ [v], Okv x := fun x hx => by rw [List.mem_singleton.mp hx]; exact h
theorem ks_app {a b : List PV} {k l : List Str} (ha : a.map kindS = k) (hb : b.map kindS = l) : (a ++ b).map kindS = k ++ l := by rw [List.map_append, ha, hb]
/-- a plain row that fits goes -/
theorem KW.run {w : W} {l l' : List Str} (h : KW w l l') {pre vs : List PV} (hv : vs.map kindS = l) (ok : ∀ v ∈ vs, Okv v) (hw : w.ok) : ∃ vs', Res w (pre ++ vs) (pre ++ vs') ∧ vs'.map kindS = l' ∧ (∀ v ∈ vs', Okv v) ∧ vs'.length ≤ vs.length + 1 := by
  cases h with
  | num i ks => exact ⟨vs ++ [.int i], by rw [← List.append_assoc]; exact .num i _, ks_app hv rfl, okv_app ok (okv_one (.inl ⟨i, rfl, hw⟩)), Nat.le_of_eq List.length_append⟩
  | text s ks => exact ⟨vs ++ [.str s], by rw [← List.append_assoc]; exact .text s _, ks_app hv rfl, okv_app ok (okv_one (.inr ⟨s, rfl, hw⟩)), Nat.le_of_eq List.length_append⟩
  | copy a b v hb =>
    obtain ⟨A, B', rfl, hA, hB'⟩ := List.map_eq_append_iff.mp hv
    obtain ⟨V, B, rfl, hV, hB⟩ := List.map_eq_cons_iff.mp hB'
    refine ⟨A ++ V :: B ++ [V], by rw [← List.append_assoc, ← List.append_assoc, ← List.append_assoc]; exact .copy (pre ++ A) B V (by rw [← hb, ← hB, List.length_map]), ks_app hv (by rw [← hV]; rfl), okv_app ok (okv_one (ok V (List.mem_append.mpr (.inr (List.mem_cons_self ..))))), Nat.le_of_eq List.length_append⟩
  | swap ks x y =>
    obtain ⟨A, B', rfl, hA, hB'⟩ := List.map_eq_append_iff.mp hv
    obtain ⟨V, B, rfl, hV, hB⟩ := List.map_eq_cons_iff.mp hB'
    obtain ⟨V', B, rfl, hV', hB⟩ := List.map_eq_cons_iff.mp hB
    rw [List.map_eq_nil_iff.mp hB] at ok ⊢
    refine ⟨A ++ [V', V], by rw [← List.append_assoc, ← List.append_assoc]; exact .swap (pre ++ A) V V', ks_app hA (by rw [← hV, ← hV']; rfl), okv_app (fun v hv => ok v (List.mem_append.mpr (.inl hv))) (fun v hv => ok v (List.mem_append.mpr (.inr ?_))), by rw [List.length_append, List.length_append]; exact Nat.le_succ _⟩
    rcases List.mem_cons.mp hv with rfl | hv
    · exact List.mem_cons_of_mem _ (List.mem_cons_self ..)
    · rw [List.mem_singleton.mp hv]; exact List.mem_cons_self ..
  | drop ks x =>
    obtain ⟨A, B', rfl, hA, hB'⟩ := List.map_eq_append_iff.mp hv
    obtain ⟨V, B, rfl, hV, hB⟩ := List.map_eq_cons_iff.mp hB'
    rw [List.map_eq_nil_iff.mp hB] at ok ⊢
    exact ⟨A, by rw [← List.append_assoc]; exact .drop (pre ++ A) V, hA, fun v hv => ok v (List.mem_append.mpr (.inl hv)), by rw [List.length_append]; exact Nat.le_trans (Nat.le_add_right _ _) (Nat.le_succ _)⟩
  | tak ks ht =>
    obtain ⟨A, B, rfl, hA, hB⟩ := List.map_eq_append_iff.mp hv
    have okB : ∀ v ∈ B, Okv v := fun v hv => ok v (List.mem_append.mpr (.inr hv))
    obtain ⟨v, hc⟩ := Cal.ex ht hB okB
    exact ⟨A ++ [v], by rw [← List.append_assoc, ← List.append_assoc]; exact .cal (pre ++ A) hc, ks_app hA (by rw [← hc.puts]; rfl), okv_app (fun v hv => ok v (List.mem_append.mpr (.inl hv))) (okv_one (hc.okv okB)), by rw [List.length_append, List.length_append]; exact Nat.le_trans (Nat.add_le_add_right (Nat.le_add_right _ _) 1) (Nat.le_refl _)⟩
section
variable {es : Pr} {rw' : Str → List Rw} {tr : Str → List (List Str)} {n0 n : Str} {fr : Frs} {ks ds : List Str} {k : Nat}
abbrev SdP (es : Pr) (rw' : Str → List Rw) (tr : Str → List (List Str)) (n0 : Str) := Sd (ioP es) rw' tr n0
theorem Sd.inv (h : SdP es rw' tr n0 (fr ++ [(n, k)]) ks) : ∃ ds l, Und (ioP es) rw' tr n0 fr ds n ∧ (tr n)[k]? = some l ∧ ks = ds ++ l := by
  generalize hg : fr ++ [(n, k)] = gs at h
  cases h with
  | fin => exact absurd hg (by cases fr <;> exact nofun)
  | top u h =>
    obtain ⟨rfl, e⟩ := List.append_inj' hg rfl
    cases e
    exact ⟨_, _, u, h, rfl⟩
theorem Und.pop (h : Und (ioP es) rw' tr n0 fr ds n) : SdP es rw' tr n0 fr (ds ++ (ioP es n).2) := by
  cases h with
  | nil => exact .fin
  | snoc u h => rw [List.append_assoc]; exact .top u h
theorem Sd.settle (G : Gd es rw' tr) (hn : ∀ f ∈ fr, f.1 ∈ nmsP es) (h : SdP es rw' tr n0 fr ks) : SdP es rw' tr n0 (setl rw' fr) ks := by
  induction hl : fr.length generalizing fr with
  | zero => rw [List.length_eq_zero_iff.mp hl] at h ⊢; exact h
  | succ j ih =>
    rcases List.eq_nil_or_concat fr with rfl | ⟨gs, ⟨n, k⟩, rfl⟩
    · cases hl
    rw [List.concat_eq_append] at *
    cases hf : Mine.fin rw' (n, k) with
    | false => rw [setl_stop hf]; exact h
    | true =>
      rw [setl_fin hf]
      have hl' : gs.length = j := by rw [List.length_append] at hl; exact Nat.succ.inj hl
      refine ih (fun f hf => hn f (List.mem_append.mpr (.inl hf))) ?_ hl'
      obtain ⟨ds, l, u, ht, rfl⟩ := h.inv
      have hk : k = (rw' n).length := beq_iff_eq.mp hf
      rw [hk, (G n (hn (n, k) (List.mem_append.mpr (.inr (List.mem_singleton.mpr rfl))))).lst] at ht
      cases ht
      exact u.pop
theorem Und.high (h : Und (ioP es) rw' tr n0 fr ds n) {V : Int} (hV : Hg (ioP es) rw' tr n0 V) : ∃ v, Hg (ioP es) rw' tr n v ∧ (ds.length : Int) + v ≤ V := by
  induction h with
  | nil => exact ⟨V, hV, by rw [List.length_nil]; first | lia | omega⟩
  | snoc _ _ hv ih =>
    obtain ⟨v, h1, h2⟩ := ih
    obtain ⟨v', h3, h4⟩ := hv v h1
    exact ⟨v', h3, by rw [List.length_append]; first | lia | omega⟩
theorem Sd.high (G : Gd es rw' tr) (hn : n0 ∈ nmsP es) (h : SdP es rw' tr n0 fr ks) {V : Int} (hV : Hg (ioP es) rw' tr n0 V) : (ks.length : Int) ≤ V := by
  cases h with
  | fin =>
    obtain ⟨_, _, m⟩ := hV
    exact m _ (.len (G n0 hn).lst)
  | top u h =>
    obtain ⟨v, ⟨_, _, m⟩, hv⟩ := u.high hV
    have := m _ (.len h)
    rw [List.length_append]; first | lia | omega
/-- a step of the machine keeps what stands -/
theorem Sd.step (G : Gd es rw' tr) {pre : Frs} {r : Rw} {lo hi : List PV} {m : Nat} (h : SdP es rw' tr n0 (pre ++ [(n, k)]) ks) (hf : FrI (nmsP es) rw' m (pre ++ [(n, k)])) (hr : (rw' n)[k]? = some r) (hok : r.ok) (hk : hi.map kindS = ks) (ok : ∀ v ∈ hi, Okv v) :
    ∃ hi' more ks', Eff (nmsP es) r (lo ++ hi) (lo ++ hi') more ∧ hi'.map kindS = ks' ∧ (∀ v ∈ hi', Okv v) ∧ hi'.length ≤ hi.length + 1 ∧ SdP es rw' tr n0 (setl rw' (pre ++ [(n, k + 1)] ++ more)) ks' ∧ FrI (nmsP es) rw' (m + 1) (pre ++ [(n, k + 1)] ++ more) := by
  have hnn := hf.names (n, k) (List.mem_append.mpr (.inr (List.mem_singleton.mpr rfl)))
  have hfl := hf.len
  have T := G n hnn.1
  have hlt : k < (rw' n).length := (List.getElem?_eq_some_iff.mp hr).1
  obtain ⟨ds, l, u, hl, rfl⟩ := h.inv
  obtain ⟨a, b, ha, hb, _, kb⟩ := T.row k r hr
  rw [hl] at ha
  cases ha
  obtain ⟨D, V, rfl, hD, hV⟩ := List.map_eq_append_iff.mp hk
  have okD : ∀ v ∈ D, Okv v := fun v hv => ok v (List.mem_append.mpr (.inl hv))
  have okV : ∀ v ∈ V, Okv v := fun v hv => ok v (List.mem_append.mpr (.inr hv))
  have fr1 : ∀ f ∈ pre ++ [(n, k + 1)], f.1 ∈ nmsP es ∧ f.2 ≤ (rw' f.1).length := fun f hf' => by
    rcases List.mem_append.mp hf' with h | h
    · exact hf.names f (List.mem_append.mpr (.inl h))
    · rw [List.mem_singleton.mp h]; exact ⟨hnn.1, hlt⟩
  have fl : (pre ++ [(n, k + 1)]).length ≤ m := by rw [List.length_append] at hfl ⊢; exact hfl
  have put : ∀ {g : Str}, g ∈ nmsP es → FrI (nmsP es) rw' (m + 1) (pre ++ [(n, k + 1)] ++ [(g, 0)]) := fun hg => ⟨fun f hf' => by
    rcases List.mem_append.mp hf' with h | h
    · exact fr1 f h
    · rw [List.mem_singleton.mp h]; exact ⟨hg, Nat.zero_le _⟩, by rw [List.length_append]; exact Nat.succ_le_succ fl⟩
  have top : ∀ {g : Str} {q : List Str}, g ∈ nmsP es → b = q ++ (ioP es g).2 → (∀ v, Hg (ioP es) rw' tr n v → ∃ v', Hg (ioP es) rw' tr g v' ∧ (q.length : Int) + v' ≤ v) → SdP es rw' tr n0 (setl rw' (pre ++ [(n, k + 1)] ++ [(g, 0)])) (ds ++ (q ++ (ioP es g).1)) := fun {g q} hg hbq hv => by
    rw [hbq] at hb
    rw [← List.append_assoc]
    exact Sd.settle G (fun f hf => ((put hg).names f hf).1) (.top (.snoc u hb hv) (G g hg).fst)
  cases kb with
  | @pl w _ _ hw =>
    obtain ⟨V', h1, h2, h3, h4⟩ := hw.run (pre := lo ++ D) hV okV hok
    refine ⟨D ++ V', [], ds ++ b, .pl (by rw [← List.append_assoc, ← List.append_assoc]; exact h1), ks_app hD h2, okv_app okD h3, by rw [List.length_append, List.length_append]; first | lia | omega, ?_, by rw [List.append_nil]; exact ⟨fr1, Nat.le_trans fl (Nat.le_succ _)⟩⟩
    rw [List.append_nil]
    exact Sd.settle G (fun f hf => (fr1 f hf).1) (.top u hb)
  | @call g q hg =>
    refine ⟨D ++ V, [(g, 0)], _, .call hg, ks_app hD hV, ok, Nat.le_succ _, top hg rfl fun v hv => ?_, put hg⟩
    obtain ⟨f, hf, hm⟩ := hv
    refine ⟨f g, hf g (mem_names (List.mem_of_getElem? hr) (List.mem_singleton.mpr rfl)), ?_⟩
    have := hm _ (.call hl hr)
    rw [List.length_append] at this
    first | lia | omega
  | @iff g g' q hg hg' he =>
    obtain ⟨V₀, X, rfl, hV₀, hX⟩ := List.map_eq_append_iff.mp hV
    obtain ⟨x, X, rfl, hx, hX⟩ := List.map_eq_cons_iff.mp hX
    rw [List.map_eq_nil_iff.mp hX] at ok okV ⊢
    obtain ⟨i, rfl, _⟩ := okv_num (okV x (List.mem_append.mpr (.inr (List.mem_cons_self ..)))) hx
    have hgo : (if i = 0 then g' else g) ∈ nmsP es ∧ ioP es (if i = 0 then g' else g) = ioP es g ∧ ∀ f : Str → Int, f (if i = 0 then g' else g) ≤ mx (f g) (f g') := by
      split
      · exact ⟨hg', he, fun f => (mx_le _ _).2⟩
      · exact ⟨hg, rfl, fun f => (mx_le _ _).1⟩
    have hmem : (if i = 0 then g' else g) ∈ namesOf (rw' n) := mem_names (List.mem_of_getElem? hr) (by split; exact List.mem_cons_of_mem _ (List.mem_cons_self ..); exact List.mem_cons_self ..)
    refine ⟨D ++ V₀, [(if i = 0 then g' else g, 0)], ds ++ (q ++ (ioP es (if i = 0 then g' else g)).1), by rw [show lo ++ (D ++ (V₀ ++ [PV.int i])) = lo ++ (D ++ V₀) ++ [PV.int i] by rw [List.append_assoc, List.append_assoc]]; exact .iff hgo.1, by rw [hgo.2.1]; exact ks_app hD hV₀, okv_app okD fun v hv => okV v (List.mem_append.mpr (.inl hv)), by rw [List.length_append, List.length_append, List.length_append]; first | lia | omega, top hgo.1 (by rw [hgo.2.1]) fun v hv => ?_, put hgo.1⟩
    obtain ⟨f, hf, hm⟩ := hv
    refine ⟨_, hf _ hmem, ?_⟩
    have h1 := hm _ (.iff hl hr)
    have h2 := hgo.2.2 f
    rw [List.length_append, List.length_append, List.length_singleton] at h1
    first | lia | omega
end
end Mine
end
section
open PySem PySem.W PySem.Calls PyProof.Rows
namespace Mine
set_option autoImplicit false

theorem atoms_same {H : AHeap} {n : Nat} : ∀ {l : List PV}, (∀ v ∈ l, (∃ s, v = .str s) ∨ ∃ i, v = .int i) → EqL H n l l true
  | [], _ => .nil
  | v :: l, h => by
    have r := atoms_same (H := H) (n := n) (l := l) fun x hx => h x (List.mem_cons_of_mem _ hx)
    rcases h v (List.mem_cons_self ..) with ⟨s, rfl⟩ | ⟨i, rfl⟩
    · have := EqL.c (EqV.str (n := n) s s) r; simpa using this
    · have := EqL.c (EqV.int (n := n) i i) r; simpa using this
set_option maxHeartbeats 1000000 in
theorem alike_ok : Ver spAlike B_law_alike N_law_alike 2 := by
  intro ps H Q X h
  have hL : LIM = 1048576 := rfl
  obtain ⟨a, b, vs, rfl, ha, hb, ⟨hv, hl⟩, hQ⟩ := h
  refine ⟨rfl, ?_⟩
  refine O_isL ha rfl ?_
  refine O_lenL ha ?_
  refine O_lenL hb ?_
  refine I_neg (by rw [beq_self_eq_true]; decide) ?_
  refine O_lenL hb ?_
  refine O_range (by first | lia | omega) ?_
  refine forR (fun j m H' => Ex1 fun (x : Option PV) => An2 (m = [some (.obj a), some (.obj b), x]) (H' = H)) ?_ ?_ _ _ ⟨none, rfl, rfl⟩
  · rintro m H' ⟨x, rfl, rfl⟩
    have : EqT H' (.obj a) (.obj b) true := .val (.list (n := 39) ha hb (atoms_same fun v h => by
      rcases hv v h with ⟨i, rfl, _⟩ | ⟨s, rfl, _⟩
      · exact .inr ⟨_, rfl⟩
      · exact .inl ⟨_, rfl⟩))
    exact CmpW.eq this hQ
  · rintro j m H' hj ⟨x, rfl, rfl⟩ K hK
    rw [Int.toNat_natCast] at hj
    have g : vs[j]? = some vs[j] := List.getElem?_eq_getElem hj
    have hok := hv _ (List.getElem_mem hj)
    generalize vs[j] = v at g hok
    have g1 : itemAt vs (j : Int) = some v := itemAt_nat rfl g
    refine O_subL hb g1 ?_
    rcases hok with ⟨i, rfl, _⟩ | ⟨s, rfl, _⟩
    · refine O_subL ha g1 ?_
      refine CmpW.ne (.val (EqV.bool false false)) ?_
      refine O_subL hb g1 ?_
      refine O_subL ha g1 ?_
      refine O_subL ha g1 ?_
      exact hK _ _ ⟨_, rfl, rfl⟩
    · refine O_subL ha g1 ?_
      refine CmpW.ne (.val (EqV.bool true true)) ?_
      refine O_subL hb g1 ?_
      exact hK _ _ ⟨_, rfl, rfl⟩
theorem pick6 {r : Int} (r0 : 0 ≤ r) (r1 : r < 6) : ∃ i : Int, itemAt [PV.int 0, PV.int 0, PV.int 0, PV.int 0, PV.int 0, PV.int 60] r = some (.int i) ∧ 0 ≤ i ∧ i ≤ 60 := by
  have : r = 0 ∨ r = 1 ∨ r = 2 ∨ r = 3 ∨ r = 4 ∨ r = 5 := by first | lia | omega
  rcases this with rfl | rfl | rfl | rfl | rfl | rfl
  · exact ⟨0, rfl, by decide, by decide⟩
  · exact ⟨0, rfl, by decide, by decide⟩
  · exact ⟨0, rfl, by decide, by decide⟩
  · exact ⟨0, rfl, by decide, by decide⟩
  · exact ⟨0, rfl, by decide, by decide⟩
  · exact ⟨60, rfl, by decide, by decide⟩
theorem comp_vals {src : AHeap → Prop} {el : PV → (List PV → AHeap → Prop) → AHeap → Prop} {Q : List PV → AHeap → Prop} {H : AHeap} {t : Addr} {ts : List Str} (hs : ∀ H', ExtB t H H' → src H') : ∀ {ss us : List Str} {vs : List PV} {H₁ : AHeap} {k n : Nat},
    (∀ s ∈ ss, ∀ k H', k ≤ n → H' t = some (.tape k) → ∀ K : List PV → AHeap → Prop, (∀ v H'', Okv v → kindS v = s → H'' t = some (.tape (k + 2)) → ExtB t H' H'' → K [v] H'') → el (.str s) K H') →
    (∀ vs' H' k, (∀ v ∈ vs', Okv v) → vs'.map kindS = ts → k ≤ n → H' t = some (.tape k) → ExtB t H H' → Q vs' H') → (∀ v ∈ vs, Okv v) → ts = us ++ ss → vs.map kindS = us → k + 2 * ss.length ≤ n → H₁ t = some (.tape k) → ExtB t H H₁ → compW src el Q (ss.map .str) vs H₁
  | [], us, vs, H₁, k, n, hel, hQ, h1, hts, hus, h3, h4, h5 => ⟨hs _ h5, hQ vs H₁ k h1 (by rw [hts, List.append_nil, hus]) h3 h4 h5⟩
  | s :: ss, us, vs, H₁, k, n, hel, hQ, h1, hts, hus, h3, h4, h5 => by
    rw [List.length_cons] at h3
    refine ⟨hs _ h5, hel s (List.mem_cons_self ..) k H₁ (by first | lia | omega) h4 _ fun v H₂ hv hk t₂ e₂ => ?_⟩
    exact comp_vals (us := us ++ [s]) hs (n := n) (fun s hs => hel s (List.mem_cons_of_mem _ hs)) hQ (okv_app h1 (okv_one hv)) (by rw [hts, List.append_assoc]; rfl) (ks_app hus (by rw [← hk]; rfl)) (by first | lia | omega) t₂ (h5.trans e₂)
theorem kind_if {s : Str} (h : KOk s) : (if s == "text" then "text" else "num") = s := by
  rcases h with rfl | rfl <;> decide +kernel
set_option maxHeartbeats 1000000 in
theorem ontop_ok : Ver spOnTop B_law_on_top N_law_on_top 3 := by
  intro ps H Q X h
  have hL : LIM = 1048576 := rfl
  obtain ⟨xs, t, n, ks, rfl, hx, ht, hn, hkl, hko, hQ⟩ := h
  have hB : (2 : Nat) ^ 51 + 1000 ≤ 2 ^ 58 := by decide
  have hB1 : (2 : Nat) ^ 58 ≤ 2 ^ 59 := by decide
  refine ⟨rfl, ?_⟩
  refine U_draw ⟨xs, t, _, n, rfl, hx, ht, by first | lia | omega, by decide, fun a H₁ a0 a1 t₁ e₁ => ?_⟩
  refine fun z H₂ hz h₂ e₂ => ?_
  refine U_draw ⟨xs, t, _, n + 1, rfl, hx, e₂.at t₁, by first | lia | omega, by decide, fun c H₃ c0 c1 t₃ e₃ => ?_⟩
  obtain ⟨i, hi, i0, i1⟩ := pick6 c0 c1
  refine O_subL (e₃.at (Ne.symm (ne_of t₁ hz)) h₂) hi ?_
  have x₃ : ExtB t H H₃ := (e₁.trans (e₂.toB t)).trans e₃
  clear h₂ e₂ e₃ hz e₁ t₁ hi c0 c1
  refine fun b H₄ hb h₄ e₄ => ?_
  have hbt : b ≠ t := Ne.symm (ne_of t₃ hb)
  have hbH : H b = none := fresh_of x₃ t₃ hb
  refine O_range (by first | lia | omega) ?_
  refine forR (fun j m H' => Ex3 fun (vs : List PV) (n' : Nat) (x : Option PV) => An7 (m = [some (.fls xs), some (.obj t), some (.tup (ks.map .str)), some (.int (a + i)), some (.obj b), x, none]) (vs.length = j) (∀ v ∈ vs, Okv v) (H' b = some (.list vs)) (n' ≤ n + 2 + 3 * j) (H' t = some (.tape n')) (ExtB t H H')) ?_ ?_ _ _
    ⟨[], n + 2, none, rfl, rfl, fun _ h => (nomatch h), h₄, by first | lia | omega, e₄.at t₃, x₃.trans (e₄.toB t)⟩
  · rintro m H₅ ⟨vs, n', x, rfl, hvl, hv, b₅, hn', t₅, x₅⟩
    have hj : vs.length ≤ 63 := by rw [hvl]; first | lia | omega
    replace hn' : n' ≤ n + 200 := by first | lia | omega
    refine comp_vals (t := t) (H := H₅) (n := n + 400) (fun _ _ => trivial) (fun s hs k H' hk t' K hK => ?_) (fun vs' H' k hv' hks hk t' e' => ?_) (fun _ h => (nomatch h)) rfl rfl (by first | lia | omega) t₅ (fun _ _ _ h => h)
    · exact U_value ⟨xs, t, s, k, rfl, hx, t', by first | lia | omega, fun v H'' hv hkv t'' e'' => hK v H'' hv (hkv.trans (kind_if (hko s hs))) t'' e''⟩
    · have hl : vs'.length ≤ 60 := by rw [← List.length_map (f := kindS), hks]; exact hkl
      refine fun c H₆ hc h₆ e₆ => ?_
      refine O_addL (e₆.at (e'.at hbt b₅)) h₆ (by first | lia | omega) fun d H₇ hd h₇ e₇ => ?_
      have x₆ := (x₅.trans e').trans (e₆.toB t)
      refine hQ d vs vs' k H₇ ⟨okv_app hv hv', by rw [List.length_append]; first | lia | omega⟩ hks (by first | lia | omega) (fresh_of x₆ (e₆.at t') hd) h₇ (e₇.at (e₆.at t')) (x₆.trans (e₇.toB t))
  · rintro j m H₅ hj ⟨vs, n', x, rfl, hvl, hv, b₅, hn', t₅, x₅⟩ K hK
    have hj2 : j ≤ 63 := by first | lia | omega
    refine O_recv b₅ rfl ?_
    refine fun z H₆ hz h₆ e₆ => ?_
    refine U_draw ⟨xs, t, _, n', rfl, hx, e₆.at t₅, by first | lia | omega, by decide, fun y H₇ y0 y1 t₇ e₇ => ?_⟩
    obtain ⟨s, hs, _⟩ := kind_ne y0 y1
    refine O_subL (e₇.at (Ne.symm (ne_of t₅ hz)) h₆) hs ?_
    refine U_value ⟨xs, t, s, n' + 1, rfl, hx, t₇, by first | lia | omega, fun v H₈ hv' _ t₈ e₈ => ?_⟩
    refine O_append (e₈.at hbt (e₇.at hbt (e₆.at b₅))) (by rw [hvl]; first | lia | omega) fun H₉ h₉ e₉ => ?_
    exact hK _ _ ⟨vs ++ [v], n' + 3, _, rfl, by rw [List.length_append, hvl]; rfl, okv_app hv (okv_one hv'), h₉, by first | lia | omega, e₉.at (Ne.symm hbt) t₈, ExtB.over hbH (((x₅.trans (e₆.toB t)).trans e₇).trans e₈) e₉⟩
theorem lstep_ok : Ver spLStep B_law_step N_law_step 1 := by
  intro ps H Q X h
  refine ⟨by cases h with | over a d p st a0 => rw [a0]; rfl | mk a d p st st' pre more n k r es rw' a0 => rw [a0]; rfl, ?_⟩
  cases h with
  | over a d p st a0 hm hQ =>
    subst a0
    have hm₀ := hm
    obtain ⟨sA, fA, ha, hd, hs, hf⟩ := hm
    refine O_umeth ha hd (MA_step ..) ?_
    refine U_step (.over a d p st rfl hm₀ ?_)
    exact hQ
  | mk a d p st st' pre more n k r es rw' a0 hm hp hfr hst hr he hQ =>
    subst a0
    have hm₀ := hm
    obtain ⟨sA, fA, ha, hd, hs, hf⟩ := hm
    refine O_umeth ha hd (MA_step ..) ?_
    exact U_step (.mk a d p st st' pre more n k r es rw' rfl hm₀ hp hfr hst hr he hQ)
set_option maxHeartbeats 1000000 in
theorem frames_ok : Ver spFrames B_law_frames N_law_frames 2 := by
  intro ps H Q X h
  obtain ⟨a, d, p, st, fr, es, rw', rfl, ⟨sA, fA, ha, hd, hs, hf⟩, hp, hfr, hQ⟩ := h
  refine ⟨rfl, ?_⟩
  refine O_attr ha hd (MA_f ..) ?_
  refine O_isL hf rfl ?_
  refine O_attr ha hd (MA_f ..) ?_
  refine O_itL hf ?_
  refine forW_ind (fun rest m H' => Ex2 fun (gs : Frs) (x : Option PV) => An4 (rest = frPV gs) (∀ f ∈ gs, f.1 ∈ nmsP es ∧ f.2 ≤ (rw' f.1).length) (m = [some (.obj a), some (.obj p), x]) (H' = H)) ?_ ?_ _ _ _ ⟨fr, none, rfl, hfr.names, rfl, rfl⟩
  · rintro m H' ⟨gs, x, _, _, rfl, rfl⟩
    exact ⟨hf, hQ⟩
  · rintro y ys m H' ⟨gs, x, hr, hg, rfl, rfl⟩
    refine ⟨hf, fun K hK => ?_⟩
    cases gs with
    | nil => cases hr
    | cons g gs =>
    obtain ⟨n, k⟩ := g
    cases hr
    obtain ⟨hn, hk⟩ := hg _ (List.mem_cons_self ..)
    obtain ⟨i, o, ra, gb, _, ra₀, _⟩ := hp.find hn
    refine O_niD hp.ha ?_
    rw [hp.has hn]
    refine O_subD hp.ha gb ?_
    refine O_lenL ra₀ ?_
    refine I_neg (by rw [rowsPV_len, decide_eq_false (Int.not_lt.mpr (Int.ofNat_le.mpr hk))]; decide) ?_
    exact hK _ _ ⟨gs, _, rfl, fun f h => hg f (List.mem_cons_of_mem _ h), rfl, rfl⟩
end Mine
end
section
open PySem PySem.W PySem.Calls PyProof.Rows
namespace Mine
set_option autoImplicit false

section
variable {es : Pr} {rw' : Str → List Rw} {tr : Str → List (List Str)} {n0 n : Str} {fr : Frs} {ks ds : List Str}
noncomputable def abv (es : Pr) (fr : Frs) (j : Nat) : List Str := match fr[j + 1]? with | some g => (ioP es g.1).2 | none => []
/-- what each frame keeps -/
structure Slc (es : Pr) (tr : Str → List (List Str)) (fr : Frs) (ab : List Str) (ks : List Str) (ss : List (List Str)) : Prop where
  len : ss.length = fr.length
  flat : ss.flatten = ks
  at' : ∀ (j : Nat) f s, fr[j]? = some f → ss[j]? = some s → (tr f.1)[f.2]? = some (s ++ if j + 1 = fr.length then ab else abv es fr j)
theorem Slc.snoc {ss : List (List Str)} {s ab : List Str} {f : Str × Nat} (h : Slc es tr fr (ioP es f.1).2 ds ss) (hs : (tr f.1)[f.2]? = some (s ++ ab)) : Slc es tr (fr ++ [f]) ab (ds ++ s) (ss ++ [s]) := by
  refine ⟨by rw [List.length_append, List.length_append, h.len]; rfl, by rw [List.flatten_append, h.flat, List.flatten_singleton], fun j g u hg hu => ?_⟩
  rw [List.length_append, List.length_singleton]
  rcases Nat.lt_trichotomy j fr.length with hj | hj | hj
  · rw [List.getElem?_append_left hj] at hg
    rw [List.getElem?_append_left (by rw [h.len]; exact hj)] at hu
    rw [if_neg (by first | lia | omega), h.at' j g u hg hu]
    unfold abv
    by_cases e : j + 1 = fr.length
    · rw [if_pos e, List.getElem?_append_right (Nat.le_of_eq e.symm), e, Nat.sub_self]; rfl
    · rw [if_neg e, List.getElem?_append_left (by first | lia | omega)]
  · subst hj
    rw [List.getElem?_append_right (Nat.le_refl _), Nat.sub_self] at hg
    rw [List.getElem?_append_right (Nat.le_of_eq h.len), h.len, Nat.sub_self] at hu
    cases hg
    cases hu
    rw [if_pos rfl]; exact hs
  · rw [List.getElem?_eq_none (by rw [List.length_append, List.length_singleton]; exact hj)] at hg; cases hg
theorem Und.slc (h : Und (ioP es) rw' tr n0 fr ds n) : ∃ ss, Slc es tr fr (ioP es n).2 ds ss := by
  induction h with
  | nil => exact ⟨[], rfl, rfl, fun j f s h => by rw [List.getElem?_nil] at h; cases h⟩
  | snoc _ h _ ih =>
    obtain ⟨ss, hs⟩ := ih
    exact ⟨_, hs.snoc (f := (_, _)) h⟩
theorem Sd.slc (h : SdP es rw' tr n0 fr ks) : (fr = [] ∧ ks = (ioP es n0).2) ∨ fr.length ≠ 0 ∧ ∃ ss, Slc es tr fr [] ks ss := by
  cases h with
  | fin => exact .inl ⟨rfl, rfl⟩
  | top u h =>
    obtain ⟨ss, hs⟩ := u.slc
    exact .inr ⟨by rw [List.length_append]; exact Nat.succ_ne_zero _, _, hs.snoc (f := (_, _)) (by rw [List.append_nil]; exact h)⟩
end

theorem flat_le (ss : List (List Str)) (j : Nat) : (ss.take j).flatten.length ≤ ss.flatten.length := by
  conv => rhs; rw [← List.take_append_drop j ss, List.flatten_append, List.length_append]
  exact Nat.le_add_right _ _
theorem fr_get {fr : Frs} {j : Nat} {i : Int} {f : Str × Nat} (hi : i = j) (h : fr[j]? = some f) : itemAt (frPV fr) i = some (.tup [.str f.1, .int f.2]) := itemAt_nat hi (by unfold frPV; rw [List.getElem?_map, h]; rfl)
set_option maxHeartbeats 1000000 in
theorem due_ok : Ver spDue B_law_due N_law_due 4 := by
  intro ps H Q X h
  have hL : LIM = 1048576 := rfl
  obtain ⟨a, d, p, st, fr, es, rw', tr, n0, ks, g, rfl, ⟨sA, fA, ha, hd, hs, hf⟩, hp, hfr, hg, hsd, ⟨kvs, g₀, htr⟩, hkl, hQ⟩ := h
  have hfl := hfr.len
  refine ⟨rfl, ?_⟩
  refine fun c H₁ hc h₁ e₁ => ?_
  refine O_attr (e₁.at ha) (e₁.at hd) (MA_f ..) ?_
  refine O_lenL (e₁.at hf) ?_
  rw [fr_len]
  refine O_range (by first | lia | omega) ?_
  rcases hsd.slc with ⟨rfl, rfl⟩ | ⟨hne, ss, S⟩
  · refine ⟨trivial, ?_⟩
    refine O_lenL (e₁.at hf) ?_
    exact O_listT fun c' H₂ hc' h₂ e₂ => hQ c' H₂ (e₁.back hc') h₂ (e₁.trans e₂)
  · refine forR (n := fr.length) (fun j m H' => Ex2 fun (c : Addr) (x : Option PV × Option PV × Option PV) => An4 (m = [some (.obj a), some (.obj p), some (.obj g), some (.tup ((ioP es n0).2.map .str)), some (.obj c), some (.obj fA), x.1, x.2.1, x.2.2]) (H c = none) (H' c = some (.list ((ss.take j).flatten.map .str))) (Ext H H')) ?_ ?_ _ _ ⟨c, (none, none, none), rfl, hc, h₁, e₁⟩
    · clear hc h₁ e₁ H₁
      rintro m H₁ ⟨c, x, rfl, hc, h₁, e₁⟩
      rw [← S.len, List.take_length, S.flat] at h₁
      refine O_lenL (e₁.at hf) ?_
      refine I_neg (fun h => hne (by rw [fr_len] at h; exact Int.ofNat_inj.mp (beq_iff_eq.mp h))) ?_
      exact hQ c H₁ hc h₁ e₁
    · clear hc h₁ e₁ H₁
      rintro j m H₁ hj ⟨c, ⟨x6, x7, x8⟩, rfl, hc, h₁, e₁⟩ K hK
      have hf₁ := e₁.at hf
      have hfj : fr[j]? = some fr[j] := List.getElem?_eq_getElem hj
      generalize fr[j] = f at hfj
      have hjs : j < ss.length := by rw [S.len]; exact hj
      have hsj : ss[j]? = some ss[j] := List.getElem?_eq_getElem hjs
      generalize ss[j] = s at hsj
      have hat := S.at' j f s hfj hsj
      have hfn := (hfr.names f (List.mem_of_getElem? hfj)).1
      obtain ⟨b, hb1, hb2⟩ := htr f.1 hfn
      have hfl2 := flat_le ss (j + 1)
      have htk : (ss.take (j + 1)).flatten = (ss.take j).flatten ++ s := by rw [List.take_succ, hsj, List.flatten_append]; exact congrArg _ (List.flatten_singleton ..)
      rw [S.flat, htk, List.length_append] at hfl2
      refine O_subL hf₁ (fr_get rfl hfj) ?_
      refine O_subD (e₁.at g₀) hb1 ?_
      refine O_subL hf₁ (fr_get rfl hfj) ?_
      refine O_subL (e₁.at hb2) (tr_get hat) ?_
      refine O_listT fun k' H₂ hk' h₂ e₂ => ?_
      have hf₂ := e₂.at hf₁
      refine O_lenL hf₂ ?_
      rw [fr_len]
      have fin : ∀ (k' : Addr) (x : Option PV) (H₃ : AHeap), H₃ k' = some (.list (s.map .str)) → Ext H₂ H₃ → BinW (fun v H => K [some (.obj a), some (.obj p), some (.obj g), some (.tup ((ioP es n0).2.map .str)), some v, some (.obj fA), some (.int j), some (.obj k'), x] H) H₃ .Add (.obj c) (.obj k') := fun k' x H₃ h₃ e₃ =>
        O_addL (e₃.at (e₂.at h₁)) h₃ (by rw [List.length_map, List.length_map]; first | lia | omega) fun z H₄ hz h₄ e₄ => hK _ _ ⟨z, (_, _, _), rfl, e₁.back (e₂.back (e₃.back hz)), by rw [h₄, htk, List.map_append], ((e₁.trans e₂).trans e₃).trans e₄⟩
      by_cases hlast : j + 1 = fr.length
      · rw [if_pos hlast, List.append_nil] at h₂
        refine I_neg (by rw [decide_eq_false (by first | lia | omega)]; decide) ?_
        exact fin k' x8 H₂ h₂ (Ext.refl _)
      · have hjl : j + 1 < fr.length := Nat.lt_of_le_of_ne hj hlast
        have hfg : fr[j + 1]? = some fr[j + 1] := List.getElem?_eq_getElem hjl
        rw [if_neg hlast] at h₂
        unfold abv at h₂
        rw [hfg] at h₂
        generalize fr[j + 1] = f' at hfg h₂
        obtain ⟨i, o, ra, gb, hio, _⟩ := hp.find (hfr.names f' (List.mem_of_getElem? hfg)).1
        replace h₂ : H₂ k' = some (.list ((s ++ (ioP es f'.1).2).map .str)) := h₂
        rw [hio, List.map_append] at h₂
        replace h₂ : H₂ k' = some (.list (s.map .str ++ o.map .str)) := h₂
        refine I_pos (by rw [decide_eq_true (by first | lia | omega)]) ?_
        refine O_subL hf₂ (fr_get (by first | lia | omega) hfg) ?_
        refine O_subD (e₂.at (e₁.at hp.ha)) gb ?_
        refine O_lenL h₂ ?_
        refine O_fromL h₂ fun q H₃ hq h₃ e₃ => ?_
        rw [(cut_at len_sub).2] at h₃
        refine O_tupL h₃ ?_
        refine O_neT (eq_strs o o) ?_
        rw [decide_eq_true rfl]
        refine O_lenL (e₃.at h₂) ?_
        refine O_toL (e₃.at h₂) fun q' H₄ hq' h₄ e₄ => ?_
        rw [(cut_at len_sub).1] at h₄
        exact fin q' _ H₄ h₄ (e₃.trans e₄)
set_option maxHeartbeats 1000000 in
theorem stands_ok : Ver spStands B_law_stands N_law_stands 5 := by
  intro ps H Q X h
  have hL : LIM = 1048576 := rfl
  obtain ⟨a, d, p, st, fr, es, rw', tr, n0, ks, g, b, lo, hi, rfl, hm, hp, hfr, hg, hsd, htr, hst, rfl, hk, hb, hQ⟩ := h
  refine ⟨rfl, ?_⟩
  refine U_frames ⟨a, d, p, _, fr, es, rw', rfl, hm, hp, hfr, ?_⟩
  have hm₀ := hm
  obtain ⟨sA, fA, ha, hd, hs, hf⟩ := hm
  refine O_attr ha hd (MA_s ..) ?_
  refine O_isL hs rfl ?_
  have hkl : hi.length = ks.length := by rw [← hk, List.length_map]
  have hsl := hst.len
  rw [List.length_append] at hsl
  refine U_due ⟨a, d, p, _, fr, es, rw', tr, n0, ks, g, rfl, hm₀, hp, hfr, hg, hsd, htr, by first | lia | omega, fun c H₁ hc h₁ e₁ => ?_⟩
  refine O_attr (e₁.at ha) (e₁.at hd) (MA_s ..) ?_
  refine O_lenL (e₁.at hb) ?_
  refine O_toL (e₁.at hs) fun l H₂ hl h₂ e₂ => ?_
  rw [(cut_at rfl).1] at h₂
  have e12 := e₁.trans e₂
  refine O_attr (e12.at ha) (e12.at hd) (MA_s ..) ?_
  refine O_lenL (e12.at hb) ?_
  refine O_fromL (e12.at hs) fun u H₃ hu h₃ e₃ => ?_
  rw [(cut_at rfl).2] at h₃
  have e13 := e12.trans e₃
  have c₃ := e₃.at (e₂.at h₁)
  refine U_alike ⟨l, b, lo, rfl, e₃.at h₂, e13.at hb, ⟨fun v hv => hst.ok v (List.mem_append.mpr (.inl hv)), by first | lia | omega⟩, ?_⟩
  refine O_lenL h₃ ?_
  refine O_lenL c₃ ?_
  rw [List.length_map, hkl]
  refine I_neg (by rw [beq_self_eq_true]; decide) ?_
  refine O_lenL c₃ ?_
  rw [List.length_map]
  refine O_range (by first | lia | omega) ?_
  refine forR (n := ks.length) (fun j m H' => Ex1 fun (x : Option PV) => An2 (m = [some (.obj a), some (.obj p), some (.obj g), some (.obj b), some (.tup ((ioP es n0).2.map .str)), some (.obj c), some (.obj l), some (.obj u), x]) (H' = H₃)) ?_ ?_ _ _ ⟨none, rfl, rfl⟩
  · rintro m H' ⟨x, rfl, rfl⟩
    exact hQ H' e13
  · rintro j m H' hj ⟨x, rfl, rfl⟩ K hK
    have hjh : j < hi.length := by rw [hkl]; exact hj
    have hv : hi[j]? = some hi[j] := List.getElem?_eq_getElem hjh
    have hok := hst.ok hi[j] (List.mem_append.mpr (.inr (List.getElem_mem hjh)))
    generalize hi[j] = v at hv hok
    have g1 : itemAt hi (j : Int) = some v := itemAt_nat rfl hv
    have g2 : itemAt (ks.map PV.str) (j : Int) = some (.str (kindS v)) := itemAt_nat rfl (by rw [← hk, List.getElem?_map, List.getElem?_map, hv]; rfl)
    refine O_subL h₃ g1 ?_
    rcases hok with ⟨i, rfl, _⟩ | ⟨s, rfl, _⟩
    · refine O_subL h₃ g1 ?_
      refine IsiW.isI ?_
      refine O_subL h₃ g1 ?_
      refine O_subL c₃ g2 ?_
      refine CmpW.ne (.val (EqV.bool false false)) ?_
      exact hK _ _ ⟨_, rfl, rfl⟩
    · refine O_subL h₃ g1 ?_
      refine IsiW.isS ?_
      refine O_subL h₃ g1 ?_
      refine O_subL c₃ g2 ?_
      refine CmpW.ne (.val (EqV.bool true true)) ?_
      exact hK _ _ ⟨_, rfl, rfl⟩
end Mine
end
section
open PySem PySem.W PySem.Calls PyProof.Rows
namespace Mine
set_option autoImplicit false

theorem Pg.tape {n : Nat} {H H' : AHeap} {p t : Addr} {es : Pr} {rw' : Str → List Rw} (h : Pg H p es rw') (ht : H t = some (.tape n)) (e : ExtB t H H') : Pg H' p es rw' :=
  ⟨e.at (fun q => by have := h.ha; rw [q, ht] at this; cases this) h.ha, h.ok, h.ne, h.rows.off e fun xs q => by rw [ht] at q; cases q⟩
theorem Mch.ext {H H' : AHeap} {a d p : Addr} {st : List PV} {fr : Frs} (h : Mch H a d p st fr) (e : Ext H H') : Mch H' a d p st fr := by
  obtain ⟨sA, fA, h1, h2, h3, h4⟩ := h
  exact ⟨sA, fA, e.at h1, e.at h2, e.at h3, e.at h4⟩
theorem Trs.stepA {H H' : AHeap} {g d : Addr} {ns : List Str} {tr : Str → List (List Str)} {kvs' : List (Str × PV)} (h : Trs H g ns tr) (hd : H d = some (.attrs kvs')) (e : ExtB d H H') : Trs H' g ns tr := by
  obtain ⟨kvs, h1, h2⟩ := h
  refine ⟨kvs, e.at (fun q => by rw [q, hd] at h1; cases h1) h1, fun s hs => ?_⟩
  obtain ⟨a, h3, h4⟩ := h2 s hs
  exact ⟨a, h3, e.at (fun q => by rw [q, hd] at h4; cases h4) h4⟩
theorem Trs.ext {H H' : AHeap} {g : Addr} {ns : List Str} {tr : Str → List (List Str)} (h : Trs H g ns tr) (e : Ext H H') : Trs H' g ns tr := by
  obtain ⟨kvs, h1, h2⟩ := h
  refine ⟨kvs, e.at h1, fun s hs => ?_⟩
  obtain ⟨a, h3, h4⟩ := h2 s hs
  exact ⟨a, h3, e.at h4⟩
theorem StOk.up {m j : Nat} {st : List PV} (h : StOk m st) (hm : m ≤ j) : StOk j st := ⟨h.ok, Nat.le_trans h.len hm⟩
/-- the law's names -/
abbrev Lw (xs : List Int) (t : Addr) (z : Nat) (p c : Addr) (nm : Str) (i o : List Str) (ra s b g : Addr) (x y v w : Option PV) : Loc :=
  [some (.fls xs), some (.obj t), some (.int z), some (.obj p), some (.obj c), some (.str nm), some (.tup (i.map .str)), some (.tup (o.map .str)), some (.obj ra), some (.obj s), some (.obj b), some (.obj g), x, y, v, w]
set_option maxRecDepth 10000 in
set_option maxHeartbeats 4000000 in
theorem law_ok : Ver spLaw B_law N_law 1 := by
  intro ps H Q X h
  have hL : LIM = 1048576 := rfl
  obtain ⟨xs, rfl, hx, hQ⟩ := h
  refine ⟨rfl, ?_⟩
  refine fun t H₁ ht h₁ e₁ => ?_
  refine U_draw ⟨xs, t, _, 0, rfl, hx, h₁, by decide, by decide, fun z H₂ z0 z1 t₂ e₂ => ?_⟩
  obtain ⟨z, rfl⟩ := Int.eq_ofNat_of_zero_le z0
  replace z1 : z ≤ 60 := by first | lia | omega
  refine U_goodprogram ⟨xs, t, 1, rfl, hx, t₂, by decide, fun p es rw' n H₃ hp hrn hn t₃ => ?_⟩
  clear t₂ e₂ h₁ e₁ ht z0 H₁ H₂
  obtain ⟨tr, G⟩ := Gd.ex hrn
  refine O_listD hp.ha fun c H₄ hc h₄ e₄ => ?_
  rw [kvs_names] at h₄
  replace hp := hp.ext e₄
  replace t₃ := e₄.at t₃
  clear e₄ hrn
  refine U_draw ⟨xs, t, _, n, rfl, hx, t₃, Nat.lt_of_le_of_lt hn (by decide), by decide, fun r H₅ r0 r1 t₅ e₅ => ?_⟩
  replace h₄ := e₅.at (fun q => by rw [q, t₃] at h₄; cases h₄) h₄
  replace hp := hp.tape t₃ e₅
  clear e₅ hc t₃ r0 r1 H₃ H₄
  refine O_lenL h₄ ?_
  rw [List.length_map, List.length_map]
  have hlp : 0 < (es.length : Int) := Int.ofNat_lt.mpr (List.length_pos_iff.mpr hp.ne)
  refine O_modI hlp ?_
  have hm := mod_lt (a := r) hlp
  obtain ⟨nm, hnm, gnm⟩ := names_at (ns := nmsP es) hm.1 (by rw [List.length_map]; exact hm.2)
  refine O_subL h₄ gnm ?_
  clear hm hlp gnm
  obtain ⟨i, o, ra, gb, hio, hra, hrs⟩ := hp.find hnm
  clear hra hrs
  refine O_subD hp.ha gb ?_
  refine ⟨rfl, ?_⟩
  obtain ⟨b', hb', hio', hbo⟩ := nm_get hp.ok hnm
  rw [hio] at hio'
  injection hio' with hi1 hi2
  refine U_ontop ⟨xs, t, n + 1, i, rfl, hx, t₅, Nat.lt_of_le_of_lt (Nat.succ_le_succ hn) (by decide), by rw [hi1]; exact hbo.2.2.1, by rw [hi1]; exact hbo.1, fun s lo hi n₆ H₆ hst hks hn₆ hsa h₆ t₆ e₆ => ?_⟩
  replace hp := hp.tape t₅ e₆
  replace h₄ := e₆.at (fun q => by rw [q, t₅] at h₄; cases h₄) h₄
  clear e₆ hsa t₆ t₅ hn hn₆ hi1 hi2 hbo hb' gb H₅
  refine O_lenL h₆ ?_
  refine O_toL h₆ fun b H₇ hb h₇ e₇ => ?_
  rw [show (((lo ++ hi).length : Int) - ((i.map PV.str).length : Int)) = ((lo ++ hi).length : Int) - (hi.length : Int) by rw [← hks, List.length_map, List.length_map], (cut_at len_sub).1] at h₇
  refine fun g H₈ hg h₈ e₈ => ?_
  have hpg : p ≠ g := ne_of (e₇.at hp.ha) hg
  have hcg : c ≠ g := ne_of (e₇.at h₄) hg
  have hsg : s ≠ g := ne_of (e₇.at h₆) hg
  have hbg : b ≠ g := ne_of h₇ hg
  replace hp := (hp.ext e₇).ext e₈
  replace h₄ := e₈.at (e₇.at h₄)
  replace h₆ := e₈.at (e₇.at h₆)
  replace h₇ := e₈.at h₇
  clear e₇ e₈ hg hb
  have gd : ∀ xs, H₈ g ≠ some (.list xs) := fun xs q => by rw [h₈] at q; cases q
  refine O_itL h₄ ?_
  refine forW_ind (fun rest m H' => Ex4 fun (us vs : List Str) (kvs : List (Str × PV)) (x : Option PV) => An7 (nmsP es = us ++ vs) (rest = vs.map .str) (m = Lw xs t z p c nm i o ra s b g x none none none) (H' g = some (.dict kvs)) (kvs.length ≤ us.length) (∀ s ∈ us, ∃ a, dget kvs s = some (.obj a) ∧ H' a = some (.list (trPV (tr s)))) (ExtB g H₈ H')) ?_ ?_ _ _ _
    ⟨[], nmsP es, [], none, rfl, rfl, rfl, h₈, Nat.le_refl _, fun _ h => (nomatch h), fun _ _ _ h => h⟩
  rotate_left
  · rintro y ys m H' ⟨us, vs, kvs, x, hs, hr', rfl, g', hkl, hall, x'⟩
    cases vs with
    | nil => cases hr'
    | cons u vs =>
    cases hr'
    refine ⟨x'.at hcg h₄, fun K hK => ?_⟩
    have hu : u ∈ nmsP es := by rw [hs]; exact List.mem_append.mpr (.inr (List.mem_cons_self ..))
    have hp' : Pg H' p es rw' := ⟨x'.at hpg hp.ha, hp.ok, hp.ne, hp.rows.off x' gd⟩
    have hul : us.length ≤ 100 := by have := congrArg List.length hs; rw [List.length_map, List.length_append] at this; have := hp.ok.len; first | lia | omega
    refine U_trailof ⟨p, es, rw', tr, u, rfl, hp', G, hu, fun a H₉ ha h₉ e₉ => ?_⟩
    have hag : a ≠ g := Ne.symm (ne_of g' ha)
    replace hp' := hp'.ext e₉
    obtain ⟨i', o', ra', gb, _, hra, hrs⟩ := hp'.find hu
    have hrg : ra' ≠ g := fun q => by rw [q, e₉.at g'] at hra; cases hra
    refine O_storeD (e₉.at g') (by first | lia | omega) fun H₁₀ h₁₀ e₁₀ => ?_
    have get : dget (dset kvs u (PV.obj a)) u = some (.obj a) := (dget_dset u).trans (if_pos rfl)
    refine O_subD h₁₀ get ?_
    refine O_isL (e₁₀.at hag h₉) rfl ?_
    refine O_subD h₁₀ get ?_
    refine O_lenL (e₁₀.at hag h₉) ?_
    refine O_subD (e₁₀.at hpg hp'.ha) gb ?_
    refine O_lenL (e₁₀.at hrg hra) ?_
    refine I_neg (by rw [trPV_len, (G u hu).len, rowsPV_len, show (((rw' u).length + 1 : Nat) : Int) = ((rw' u).length : Int) + 1 from rfl, beq_self_eq_true]; decide) ?_
    refine hK _ _ ⟨us ++ [u], vs, _, _, by rw [hs, List.append_assoc]; rfl, rfl, rfl, h₁₀, by rw [List.length_append]; exact Nat.le_trans dset_len (Nat.succ_le_succ hkl), fun w hw => ?_, fun x v hx h => e₁₀.at hx (e₉.at (x'.at hx h))⟩
    rw [dget_dset]
    by_cases e : w = u
    · rw [if_pos e, e]; exact ⟨a, rfl, e₁₀.at hag h₉⟩
    · rw [if_neg e]
      obtain ⟨q, h1, h2⟩ := hall w ((List.mem_append.mp hw).resolve_right fun q => e (List.mem_singleton.mp q))
      exact ⟨q, h1, e₁₀.at (fun e => by rw [e, g'] at h2; cases h2) (e₉.at h2)⟩
  rintro m H₉ ⟨us, vs, kvs, x, hs, hr', rfl, g', hkl, hall, x'⟩
  have : vs = [] := by cases vs with | nil => rfl | cons _ _ => cases hr'
  subst this
  rw [List.append_nil] at hs
  rw [← hs] at hall
  refine ⟨x'.at hcg h₄, ?_⟩
  have htr : Trs H₉ g (nmsP es) tr := ⟨kvs, g', hall⟩
  replace hp : Pg H₉ p es rw' := ⟨x'.at hpg hp.ha, hp.ok, hp.ne, hp.rows.off x' gd⟩
  replace h₆ := x'.at hsg h₆
  replace h₇ := x'.at hbg h₇
  clear x' h₄ h₈ gd hall hkl g' hs hcg hsg hbg hpg H₈
  refine W_cut (fun m H' => Ex1 fun (y : PV) => An3 (m = Lw xs t z p c nm i o ra s b g x (some y) none none) (y = .none ∨ ∃ v, y = .int v ∧ Hg (ioP es) rw' tr nm v) (Ext H₉ H')) ?_ ?_
  · intro K hK
    exact U_height ⟨p, es, rw', tr, nm, rfl, hp, G, hnm, fun v H' hv e => hK _ _ ⟨_, rfl, .inr ⟨v, rfl, hv⟩, e⟩, fun H' e => hK _ _ ⟨_, rfl, .inl rfl, e⟩⟩
  rintro m H₁ ⟨y, rfl, hy, e₁⟩
  refine O_listL (e₁.at h₆) fun hand H₂ hh h₂ e₂ => ?_
  refine fun a d H₃ ha hd h₃ h₃' e₃ => ?_
  have e13 := (e₁.trans e₂).trans e₃
  replace hp := hp.ext e13
  replace htr := htr.ext e13
  replace h₇ := e13.at h₇
  replace h₂ := e₃.at h₂
  clear e13 e₁ e₂ e₃ hh ha hd h₆
  refine U_init ⟨a, d, p, hand, nm, lo ++ hi, es, rw', rfl, h₃, h₃', hp, h₂, hnm, fun H₄ hm e₄ => ⟨rfl, ?_⟩⟩
  replace hp := hp.stepA h₃' e₄
  replace htr := htr.stepA h₃' e₄
  replace h₇ := e₄.at (fun q => by rw [q, h₃'] at h₇; cases h₇) h₇
  clear h₂ h₃ h₃' e₄ H₃
  have hfi : FrI (nmsP es) rw' 1 [(nm, 0)] := ⟨fun f hf => by rw [List.mem_singleton.mp hf]; exact ⟨hnm, Nat.zero_le _⟩, Nat.le_refl _⟩
  have hsd : SdP es rw' tr nm (setl rw' [(nm, 0)]) (hi.map kindS) := Sd.settle G (fun f hf => (hfi.names f hf).1) (by
    have := Sd.top (rw := rw') (Und.nil (io := ioP es) (rw := rw') (n0 := nm)) (G nm hnm).fst
    rw [hio] at this
    rw [hks]; exact this)
  have hdd : ∃ o, H₄ d = some (.attrs o) := by obtain ⟨_, _, _, h, _⟩ := hm; exact ⟨_, h⟩
  obtain ⟨o₀, hdd⟩ := hdd
  have hbd : b ≠ d := fun q => by rw [q, hdd] at h₇; cases h₇
  refine O_range (by first | lia | omega) ?_
  clear hks
  refine forR (n := z) (fun j m H' => Ex3 fun (fr : Frs) (hi : List PV) (w : Option PV) => An7 (m = Lw xs t z p c nm i o ra s b g x (some y) (some (.obj a)) w) (Mch H' a d p (lo ++ hi) fr) (SdP es rw' tr nm fr (hi.map kindS)) (FrI (nmsP es) rw' (1 + j) fr) (∀ pre f, fr = pre ++ [f] → fin rw' f = false) (StOk (200 + j) (lo ++ hi)) (ExtB d H₄ H')) ?_ ?_ _ _ ⟨_, hi, none, rfl, hm, hsd, hfi.setl.1, hfi.setl.2, hst, fun _ _ _ h => h⟩
  · clear hm hsd hst hfi hi
    rintro m H' ⟨fr, hi, w, rfl, hm, hsd, hfr, hto, hst, x'⟩
    refine U_stands ⟨a, d, p, _, fr, es, rw', tr, nm, _, g, b, lo, hi, by rw [hio], hm, hp.stepA hdd x', ⟨hfr.names, Nat.le_trans hfr.len (by first | lia | omega)⟩, G, hsd, htr.stepA hdd x', hst.up (by first | lia | omega), rfl, rfl, x'.at hbd h₇, fun H'' e => ?_⟩
    have hm' := hm.ext e
    have hm₀ := hm'
    obtain ⟨sA, fA, ha, hd, hs, hf⟩ := hm'
    refine O_umeth ha hd (MA_over ..) ?_
    refine U_over ⟨a, d, p, _, fr, rfl, hm₀, ?_⟩
    refine O_attr ha hd (MA_f ..) ?_
    refine O_lenL hf ?_
    refine O_eqT (.val (.bool fr.isEmpty (((frPV fr).length : Int) == 0))) ?_
    rw [show (((frPV fr).length : Int) == 0) = fr.isEmpty by cases fr <;> rfl, beq_self_eq_true]
    exact hQ _
  · clear hm hsd hst hfi hi
    rintro j m H' hj ⟨fr, hi, w, rfl, hm, hsd, hfr, hto, hst, x'⟩ K hK
    have hfr9 : FrI (nmsP es) rw' 900 fr := ⟨hfr.names, Nat.le_trans hfr.len (by first | lia | omega)⟩
    have hst9 := hst.up (show 200 + j ≤ 900 by first | lia | omega)
    refine U_stands ⟨a, d, p, _, fr, es, rw', tr, nm, _, g, b, lo, hi, by rw [hio], hm, hp.stepA hdd x', hfr9, G, hsd, htr.stepA hdd x', hst9, rfl, rfl, x'.at hbd h₇, fun H₅ e₅ => ?_⟩
    replace hm := hm.ext e₅
    replace x' : ExtB d H₄ H₅ := x'.trans (e₅.toB d)
    clear e₅
    refine W_cut (fun m H'' => m = Lw xs t z p c nm i o ra s b g x (some y) (some (.obj a)) (some (.int j)) ∧ H'' = H₅) ?_ ?_
    · intro K hK
      rcases hy with rfl | ⟨v, rfl, hv⟩
      · exact hK _ _ ⟨rfl, rfl⟩
      · obtain ⟨sA, fA, ha, hd, hs, hf⟩ := hm
        refine CmpW.niN ?_
        refine O_attr ha hd (MA_s ..) ?_
        refine O_lenL hs ?_
        refine O_lenL (x'.at hbd h₇) ?_
        have hh := hsd.high G hnm hv
        rw [List.length_map] at hh
        refine I_neg (by rw [List.length_append, decide_eq_false (by first | lia | omega)]; decide) ?_
        exact hK _ _ ⟨rfl, rfl⟩
    rintro m H'' ⟨rfl, rfl⟩
    rcases List.eq_nil_or_concat fr with rfl | ⟨pre, ⟨n, k⟩, rfl⟩
    · exact U_lstep (.over a d p _ rfl hm (hK _ _ ⟨[], hi, _, rfl, hm, hsd, ⟨hfr.names, Nat.zero_le _⟩, hto, hst.up (Nat.le_succ _), x'⟩))
    rw [List.concat_eq_append] at *
    have hnn := hfr.names (n, k) (List.mem_append.mpr (.inr (List.mem_singleton.mpr rfl)))
    have hkl : k < (rw' n).length := Nat.lt_of_le_of_ne hnn.2 fun q => by have := hto pre (n, k) rfl; unfold fin at this; rw [show (n, k).2 = (rw' (n, k).1).length from q, beq_self_eq_true] at this; cases this
    have hr : (rw' n)[k]? = some (rw' n)[k] := List.getElem?_eq_getElem hkl
    generalize (rw' n)[k] = r at hr
    obtain ⟨_, _, _, _, _, _, hrs⟩ := hp.find hnn.1
    obtain ⟨hi', more, ks', he, hk', ok', hl', hsd', hfr'⟩ := hsd.step G (lo := lo) hfr hr (hrs.1 r (List.mem_of_getElem? hr)) rfl fun v hv => hst.ok v (List.mem_append.mpr (.inr hv))
    have hsl := hst.len
    rw [List.length_append] at hsl
    refine U_lstep (.mk a d p _ _ pre more n k r es rw' rfl hm (hp.stepA hdd x') hfr9 hst9 hr he fun H₆ hm₆ e₆ => ?_)
    exact hK _ _ ⟨_, hi', _, rfl, hm₆, by rw [hk']; exact hsd', hfr'.setl.1, hfr'.setl.2, ⟨okv_app (fun v hv => hst.ok v (List.mem_append.mpr (.inl hv))) ok', by rw [List.length_append]; first | lia | omega⟩, x'.trans e₆⟩
end Mine
end
section
open PySem PySem.W PySem.Calls PyProof.Rows
namespace Mine
set_option autoImplicit false
set_option maxRecDepth 100000
section
variable {prog : Program} {w : World} {B : Heap} {mg mb : Str → Option Value} {loose : List Str} {mean : ExcName → Option Value}
noncomputable def cxL (prog : Program) (w : World) (B : Heap) (C : Addr) (mN : Str → Option Value) : Cx := { prog := prog, w := w, B := B, cls := fun c => csL[c]?, icls := some C, mN := mN, ga := mainGlobals, ba := builtinsNs }
theorem ci_BOUND (P : Params) : intChk (_root_.Mine.hd.heap_39 P) "BOUND" 1000000000 = true := by kernel_rfl
theorem ci_LONGEST (P : Params) : intChk (_root_.Mine.hd.heap_39 P) "LONGEST" 60 = true := by kernel_rfl
theorem cr_TAKES_rows (P : Params) : kmg (_root_.Mine.hd.heap_39 P) "TAKES_rows" = some (.ref (refAt (_root_.Mine.hd.heap_39 P) "TAKES_rows")) := by kernel_rfl
theorem cl_TAKES_rows (P : Params) : (_root_.Mine.hd.heap_39 P).lookup (refAt (_root_.Mine.hd.heap_39 P) "TAKES_rows") = some { cls := .type "dict", data := .dict (entV P (dictL (_root_.Mine.hd.heap_39 P) (refAt (_root_.Mine.hd.heap_39 P) "TAKES_rows"))) (dictEp (_root_.Mine.hd.heap_39 P) (refAt (_root_.Mine.hd.heap_39 P) "TAKES_rows")) } := by kernel_rfl
theorem ck_TAKES_rows (P : Params) : (dictL (_root_.Mine.hd.heap_39 P) (refAt (_root_.Mine.hd.heap_39 P) "TAKES_rows")).map (·.1) = (takes01.map fun e => (e.1, PV.tup (e.2.map .str))).map (·.1) := by kernel_rfl
theorem cn_TAKES_rows : ((takes01.map fun e => (e.1, PV.tup (e.2.map .str))).map (·.1)).Nodup := by decide +kernel
theorem cv_TAKES_rows (P : Params) : (((dictL (_root_.Mine.hd.heap_39 P) (refAt (_root_.Mine.hd.heap_39 P) "TAKES_rows")).zip (takes01.map fun e => (e.1, PV.tup (e.2.map .str)))).all fun e => valChk (_root_.Mine.hd.heap_39 P) e.1.2.2 e.2.2) = true := by kernel_rfl
theorem cr_TAKES_kinds (P : Params) : kmg (_root_.Mine.hd.heap_39 P) "TAKES_kinds" = some (.ref (refAt (_root_.Mine.hd.heap_39 P) "TAKES_kinds")) := by kernel_rfl
theorem cl_TAKES_kinds (P : Params) : (_root_.Mine.hd.heap_39 P).lookup (refAt (_root_.Mine.hd.heap_39 P) "TAKES_kinds") = some { cls := .type "dict", data := .dict (entV P (dictL (_root_.Mine.hd.heap_39 P) (refAt (_root_.Mine.hd.heap_39 P) "TAKES_kinds"))) (dictEp (_root_.Mine.hd.heap_39 P) (refAt (_root_.Mine.hd.heap_39 P) "TAKES_kinds")) } := by kernel_rfl
theorem ck_TAKES_kinds (P : Params) : (dictL (_root_.Mine.hd.heap_39 P) (refAt (_root_.Mine.hd.heap_39 P) "TAKES_kinds")).map (·.1) = (takes01.map fun e => (e.1, PV.tup (e.2.map .str))).map (·.1) := by kernel_rfl
theorem cn_TAKES_kinds : ((takes01.map fun e => (e.1, PV.tup (e.2.map .str))).map (·.1)).Nodup := by decide +kernel
theorem cv_TAKES_kinds (P : Params) : (((dictL (_root_.Mine.hd.heap_39 P) (refAt (_root_.Mine.hd.heap_39 P) "TAKES_kinds")).zip (takes01.map fun e => (e.1, PV.tup (e.2.map .str)))).all fun e => valChk (_root_.Mine.hd.heap_39 P) e.1.2.2 e.2.2) = true := by kernel_rfl
theorem cr_PUTS (P : Params) : kmg (_root_.Mine.hd.heap_39 P) "PUTS" = some (.ref (refAt (_root_.Mine.hd.heap_39 P) "PUTS")) := by kernel_rfl
theorem cl_PUTS (P : Params) : (_root_.Mine.hd.heap_39 P).lookup (refAt (_root_.Mine.hd.heap_39 P) "PUTS") = some { cls := .type "dict", data := .dict (entV P (dictL (_root_.Mine.hd.heap_39 P) (refAt (_root_.Mine.hd.heap_39 P) "PUTS"))) (dictEp (_root_.Mine.hd.heap_39 P) (refAt (_root_.Mine.hd.heap_39 P) "PUTS")) } := by kernel_rfl
theorem ck_PUTS (P : Params) : (dictL (_root_.Mine.hd.heap_39 P) (refAt (_root_.Mine.hd.heap_39 P) "PUTS")).map (·.1) = (puts01.map fun e => (e.1, PV.str e.2)).map (·.1) := by kernel_rfl
theorem cn_PUTS : ((puts01.map fun e => (e.1, PV.str e.2)).map (·.1)).Nodup := by decide +kernel
theorem cv_PUTS (P : Params) : (((dictL (_root_.Mine.hd.heap_39 P) (refAt (_root_.Mine.hd.heap_39 P) "PUTS")).zip (puts01.map fun e => (e.1, PV.str e.2))).all fun e => valChk (_root_.Mine.hd.heap_39 P) e.1.2.2 e.2.2) = true := by kernel_rfl
theorem cokL {C N : Addr} {mN : Str → Option Value} (X : (_root_.Mine.hd.heap_39 w.params).In B) (T : Top _root_.Mine.hd.view_39 loose mean mg mb B) (hC : mg "Machine" = some (.ref C)) (P : PlainAt B clsM C N mN) : Cok (cxL prog w B C mN) g01 [] mg mb 0 := by
  have hmg := kmg_eq X (k1 _) T.g
  refine cok_base (K := _root_.Mine.hd.heap_39 w.params) (cs := csL) X (k1 _) T rfl rfl rfl (k3 _) (k4 _) (k5 _) k6 ⟨C, N, rfl, hC, P.cls, fun x hx => P.quiet x (List.contains_iff_mem.mp (List.all_eq_true.mp clsM_hid x hx))⟩ fun x q h => ?_
  have hx := lookup_mem (l := cons01) (by delta g01 k01 at h; exact h)
  simp only [cons01, List.mem_cons, List.not_mem_nil, or_false, Prod.mk.injEq] at hx
  rcases hx with ⟨rfl, rfl⟩ | ⟨rfl, rfl⟩ | ⟨rfl, rfl⟩ | ⟨rfl, rfl⟩ | ⟨rfl, rfl⟩
  · exact fdt_ofV (cx := cxL prog w B C mN) X hmg (cr_TAKES_rows _) (cl_TAKES_rows _) (ck_TAKES_rows _) cn_TAKES_rows (cv_TAKES_rows _) fun _ _ e => e
  · exact fdt_ofV (cx := cxL prog w B C mN) X hmg (cr_TAKES_kinds _) (cl_TAKES_kinds _) (ck_TAKES_kinds _) cn_TAKES_kinds (cv_TAKES_kinds _) fun _ _ e => e
  · exact fdt_ofV (cx := cxL prog w B C mN) X hmg (cr_PUTS _) (cl_PUTS _) (ck_PUTS _) cn_PUTS (cv_PUTS _) fun _ _ e => e
  · exact int_of hmg (ci_BOUND _)
  · exact int_of hmg (ci_LONGEST _)
theorem c_of {f : Str} {sp : Sp} (hl : sps.lookup f = some sp) {ps : List PV} {H : AHeap} {Q : Post} {X : XPost} (h : g01.C f ps H Q X) : sp ps H Q X := by
  delta g01 c01 at h
  replace h : ((sps.lookup f).getD fun _ _ _ _ => False) ps H Q X := h
  rw [hl] at h; exact h
inductive Fns : List FnE → Prop
  | nil : Fns []
  | fn {e : FnE} {r : List FnE} (t : Fns r) (hm : isMeth e.f = false) (hr : RecC _root_.Mine.hd.view_39 e.f e.body e.nm e.sc e.np) (sp : Sp) (hl : sps.lookup e.f = some sp) (v : Ver sp e.body e.nm e.np) : Fns (e :: r)
  | me {e : FnE} {r : List FnE} (t : Fns r) (q : Str) (hq : (q, e.f) ∈ mtab) (hr : RecM clsM q e.body e.nm e.sc e.np) (sp : Sp) (hl : sps.lookup e.f = some sp) (v : Ver sp e.body e.nm e.np) : Fns (e :: r)
theorem Fns.cok {C N : Addr} {mN : Str → Option Value} (T : Top _root_.Mine.hd.view_39 loose mean mg mb B) (P : PlainAt B clsM C N mN) (c0 : Cok (cxL prog w B C mN) g01 [] mg mb 0) {es : List FnE} (h : Fns es) (hc : fnsChk es = true) : Cok (cxL prog w B C mN) g01 (es.map (·.f)) mg mb es.length := by
  induction h with
  | nil => exact c0
  | fn t hm hr sp hl v ih =>
    obtain ⟨h1, h2⟩ := Bool.and_eq_true_iff.mp hc
    obtain ⟨d, hd, n1, b1, s1, a1⟩ := hr
    exact (ih h2).addT hm T rfl rfl hd n1 b1 s1 a1 h1 (fun h => v (c_of hl h))
  | me t q hq hr sp hl v ih =>
    obtain ⟨h1, h2⟩ := Bool.and_eq_true_iff.mp hc
    obtain ⟨d, hd, n1, b1, s1, a1⟩ := hr
    exact (ih h2).addM P T.nolimit rfl rfl hq hd n1 b1 s1 a1 h1 (fun h => v (c_of hl h))
noncomputable def fns0 : List FnE := ⟨"done", N_done, 2, 6, S_done, B_done⟩ :: ⟨"reckoned", N_reckoned, 2, 2, S_reckoned, B_reckoned⟩ :: ⟨"kinds_of", N_kinds_of, 1, 3, S_kinds_of, B_kinds_of⟩ :: ⟨"need", N_need, 2, 2, S_need, B_need⟩ :: ⟨"_law_good_program", N_law_good_program, 2, 9, S_law_good_program, B_law_good_program⟩ :: ⟨"_law_good_rows", N_law_good_rows, 5, 13, S_law_good_rows, B_law_good_rows⟩ :: ⟨"_law_fitting", N_law_fitting, 5, 6, S_law_fitting, B_law_fitting⟩ :: ⟨"_law_choice", N_law_choice, 5, 9, S_law_choice, B_law_choice⟩ :: ⟨"_law_pushes", N_law_pushes, 3, 3, S_law_pushes, B_law_pushes⟩ :: ⟨"_law_told", N_law_told, 2, 10, S_law_told, B_law_told⟩ :: ⟨"_law_kinds", N_law_kinds, 2, 3, S_law_kinds, B_law_kinds⟩ :: ⟨"_law_plain_row", N_law_plain_row, 2, 4, S_law_plain_row, B_law_plain_row⟩ :: ⟨"_law_next", N_law_next, 3, 4, S_law_next, B_law_next⟩ :: ⟨"_law_called", N_law_called, 3, 5, S_law_called, B_law_called⟩ :: ⟨"_law_plainly", N_law_plainly, 2, 3, S_law_plainly, B_law_plainly⟩ :: ⟨"_law_lack", N_law_lack, 2, 4, S_law_lack, B_law_lack⟩ :: ⟨"_law_wanted", N_law_wanted, 1, 3, S_law_wanted, B_law_wanted⟩ :: ⟨"_law_value", N_law_value, 3, 5, S_law_value, B_law_value⟩ :: ⟨"_law_words", N_law_words, 2, 3, S_law_words, B_law_words⟩ :: ⟨"_law_draw", N_law_draw, 3, 5, S_law_draw, B_law_draw⟩ :: []
theorem fnsOk0 : Fns fns0 := .fn (.fn (.fn (.fn (.fn (.fn (.fn (.fn (.fn (.fn (.fn (.fn (.fn (.fn (.fn (.fn (.fn (.fn (.fn (.fn (Fns.nil) (by kernel_rfl) R_law_draw spDraw (by kernel_rfl) draw_ok) (by kernel_rfl) R_law_words spWords (by kernel_rfl) words_ok) (by kernel_rfl) R_law_value spValue (by kernel_rfl) value_ok) (by kernel_rfl) R_law_wanted spWanted (by kernel_rfl) wanted_ok) (by kernel_rfl) R_law_lack spLack (by kernel_rfl) lack_ok) (by kernel_rfl) R_law_plainly spPlainly (by kernel_rfl) plainly_ok) (by kernel_rfl) R_law_called spLCalled (by kernel_rfl) lcalled_ok) (by kernel_rfl) R_law_next spNext (by kernel_rfl) lnext_ok) (by kernel_rfl) R_law_plain_row spPlain (by kernel_rfl) plain_ok) (by kernel_rfl) R_law_kinds spKindsT (by kernel_rfl) kindst_ok) (by kernel_rfl) R_law_told spTold (by kernel_rfl) ltold_ok) (by kernel_rfl) R_law_pushes spPushes (by kernel_rfl) pushes_ok) (by kernel_rfl) R_law_choice spChoice (by kernel_rfl) choice_ok) (by kernel_rfl) R_law_fitting spFitting (by kernel_rfl) fitting_ok) (by kernel_rfl) R_law_good_rows spGoodRows (by kernel_rfl) goodrows_ok) (by kernel_rfl) R_law_good_program spGoodProgram (by kernel_rfl) goodprogram_ok) (by kernel_rfl) R_need spNeed (by kernel_rfl) need_ok) (by kernel_rfl) R_kinds_of spKinds (by kernel_rfl) kinds_ok) (by kernel_rfl) R_reckoned spReck (by kernel_rfl) reck_ok) (by kernel_rfl) R_done spDone (by kernel_rfl) done_ok
noncomputable def fns1 : List FnE := ⟨"_law_frames", N_law_frames, 2, 3, S_law_frames, B_law_frames⟩ :: ⟨"_law_step", N_law_step, 1, 1, S_law_step, B_law_step⟩ :: ⟨"_law_on_top", N_law_on_top, 3, 6, S_law_on_top, B_law_on_top⟩ :: ⟨"_law_alike", N_law_alike, 2, 3, S_law_alike, B_law_alike⟩ :: ⟨"height", N_height, 2, 6, S_height, B_height⟩ :: ⟨"height_by", N_height_by, 3, 9, S_height_by, B_height_by⟩ :: ⟨"come_to", N_come_to, 2, 5, S_come_to, B_come_to⟩ :: ⟨"named", N_named, 1, 3, S_named, B_named⟩ :: ⟨"trail_of", N_trail_of, 2, 3, S_trail_of, B_trail_of⟩ :: ⟨"looked", N_looked, 2, 7, S_looked, B_looked⟩ :: ⟨"behind", N_behind, 3, 7, S_behind, B_behind⟩ :: ⟨"moved", N_moved, 2, 4, S_moved, B_moved⟩ :: ⟨"called", N_called, 3, 4, S_called, B_called⟩ :: ⟨"block_of", N_block_of, 2, 2, S_block_of, B_block_of⟩ :: ⟨"taken", N_taken, 2, 3, S_taken, B_taken⟩ :: ⟨"Machine.step", N_Machine_step, 1, 6, S_Machine_step, B_Machine_step⟩ :: ⟨"Machine.goal_of", N_Machine_goal_of, 2, 3, S_Machine_goal_of, B_Machine_goal_of⟩ :: ⟨"Machine.over", N_Machine_over, 1, 1, S_Machine_over, B_Machine_over⟩ :: ⟨"Machine.__init__", N_Machine___init__, 4, 4, S_Machine___init__, B_Machine___init__⟩ :: ⟨"Machine.settle", N_Machine_settle, 1, 1, S_Machine_settle, B_Machine_settle⟩ :: fns0
theorem fnsOk1 : Fns fns1 := .fn (.fn (.fn (.fn (.fn (.fn (.fn (.fn (.fn (.fn (.fn (.fn (.fn (.fn (.fn (.me (.me (.me (.me (.me (fnsOk0) "settle" (by decide +kernel) R_Machine_settle spSettle (by kernel_rfl) settle_ok) "__init__" (by decide +kernel) R_Machine___init__ spInit (by kernel_rfl) init_ok) "over" (by decide +kernel) R_Machine_over spOver (by kernel_rfl) over_ok) "goal_of" (by decide +kernel) R_Machine_goal_of spGoalOf (by kernel_rfl) goalof_ok) "step" (by decide +kernel) R_Machine_step spStep (by kernel_rfl) step_ok) (by kernel_rfl) R_taken spTaken (by kernel_rfl) taken_ok) (by kernel_rfl) R_block_of spBlockOf (by kernel_rfl) blockof_ok) (by kernel_rfl) R_called spCalled (by kernel_rfl) called_ok) (by kernel_rfl) R_moved spMoved (by kernel_rfl) moved_ok) (by kernel_rfl) R_behind spBehind (by kernel_rfl) behind_ok) (by kernel_rfl) R_looked spLooked (by kernel_rfl) looked_ok) (by kernel_rfl) R_trail_of spTrailOf (by kernel_rfl) trailof_ok) (by kernel_rfl) R_named spNamed (by kernel_rfl) named_ok) (by kernel_rfl) R_come_to spComeTo (by kernel_rfl) cometo_ok) (by kernel_rfl) R_height_by spHeightBy (by kernel_rfl) heightby_ok) (by kernel_rfl) R_height spHeight (by kernel_rfl) height_ok) (by kernel_rfl) R_law_alike spAlike (by kernel_rfl) alike_ok) (by kernel_rfl) R_law_on_top spOnTop (by kernel_rfl) ontop_ok) (by kernel_rfl) R_law_step spLStep (by kernel_rfl) lstep_ok) (by kernel_rfl) R_law_frames spFrames (by kernel_rfl) frames_ok
noncomputable def fns2 : List FnE := ⟨"_law_stands", N_law_stands, 5, 9, S_law_stands, B_law_stands⟩ :: ⟨"_law_due", N_law_due, 4, 9, S_law_due, B_law_due⟩ :: fns1
theorem fnsOk2 : Fns fns2 := .fn (.fn (fnsOk1) (by kernel_rfl) R_law_due spDue (by kernel_rfl) due_ok) (by kernel_rfl) R_law_stands spStands (by kernel_rfl) stands_ok
theorem fnsC : fnsChk fns2 = true := by kernel_rfl
theorem fc_law : fnChk (fns2.map (·.f)) N_law 1 16 S_law B_law = true := by kernel_rfl
theorem finL {s : Shared} (X : (_root_.Mine.hd.heap_39 w.params).In s.heap) (T : Top _root_.Mine.hd.view_39 loose mean mg mb s.heap) (TE : TopE _root_.Mine.hd.view_39 (looseW _root_.Mine.hd.view_39 _root_.Mine.hd.loos) mg s.heap) {fa l : Addr} {items : Array Value} {ns : List Int} (hmg : mg "law" = some (.ref fa)) (il : s.heap.IsList l items) (ia : IntsAre items.toList ns) (hl : ns.length ≤ 100)
    {R : Result → Shared → Prop} (hR : ∀ h' tk, (∀ b o, s.heap.get? b = some o → h'.get? b = some o) → R (.ok (.ret (.bool true))) { s with heap := h', toks := tk }) : codeAny (model prog w) callerA (.call (.ref fa) ⟨[.ref l], []⟩) R s := by
  obtain ⟨d, hd, n1, b1, s1, a1⟩ := R_law
  have hL : LIM = 1048576 := rfl
  obtain ⟨C, N, mN, hC, P⟩ := TE clsM0 clsM_mem
  rw [clsM_name] at hC
  exact law_top (cx := cxL prog w s.heap C mN) (fnsOk2.cok T P (cokL X T hC P) fnsC) T rfl rfl hd n1 b1 s1 a1 fc_law rfl hmg il ia (Nat.le_trans hl (by decide)) (by decide) (fun {Q} hQ => (law_ok (ps := [.fls ns]) (H := fun _ => none) (Q := Q) (X := fun _ _ => False) ⟨ns, rfl, hl, hQ⟩).2) hR
end
end Mine
end
open PySem PySem.W PyProof.Rows
set_option maxRecDepth 100000
set_option maxHeartbeats 8000000
theorem PySem.Challenge.cw_uf030026_11_holds : PySem.Challenge.rw_uf030026_11.Holds := by
  w_on
  refine holds_law (by kernel_rfl) fun said => ?_
  refine holds_open (q := Mine.hd.view_39) (loose := Mine.hd.loos) (Xt := Mine.hd.xt) (XP := XL Mine.hd.view_39 []) (Yf := Mine.hd.hook.obs) (Ya := Mine.hd.hook.val) (YP := Mine.hd.hook.says) Mine.hd.left (Hook.of Mine.hd.hook) (Hook.keeps Mine.hd.hook) (fun s e => xl_of s (Bool.and_eq_true_iff.mp e).1) XL.keeps (by rfl) (by rfl) (by rfl) (fun s e => recFacts_of (Bool.and_eq_true_iff.mp e).2) (by rfl) (by assumption) (by decide +kernel) ⟨rfl, rfl, rfl, rfl, rfl, by decide +kernel⟩ ?hw ?hc
  case hw => w_witness2
  case hc =>
    intro w s₀ s₁ mg mb G Y fa o pm cd doc dV kV ho hd hcd hD hmg hg args vals as hpre hlay hrd hwl hlo
    have KX := kIn_of Y
    refine Ground.open G ?_
    intro T B D TE TW
    wrow_args hpre hlay hrd hwl hlo
    all_goals (
      first | refine callC_kw (enter_call ?_) | refine enter_call ?_ | refine callC_kw (enter_callW ?_) | refine enter_callW ?_ | w_how
      )
    refine Mine.finL KX T TE hmg (by assumption) (by assumption) (by omega) fun h' tk hk => GoodW.toG ⟨.inl ⟨_, _, _, rfl, ?_, .bool true, ?_, ?_⟩, hk, rfl, hg⟩
    · intro cls; rfl
    · kernel_rfl
    · intro h; exact ⟨List.nodup_nil, fun a ha => nomatch ha⟩
