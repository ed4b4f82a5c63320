import PyProof.Rows.All
import Wide.All
import Open.Line
import OpenK.Peek
import OpenK.KDescr
import OpenK.KMake
import OpenK.KWalk
import KE.LcSums
import KE.KDictList
import KE.KTryMore
import KE.KIsAll
import KE.KEqDict
import Wide.FinOn
import Open.Boot
import PySem.Challenge.RW_uf030026_08
set_option Elab.async false
set_option maxHeartbeats 4000000
section
open PySem PySem.W PyProof.Rows
namespace Mine.hd
noncomputable def view_39 : Program := { PySem.Challenge.rw_uf030026_08.row.toRowW.1 with main := { PySem.Challenge.rw_uf030026_08.row.toRowW.1.main with body := PySem.Challenge.rw_uf030026_08.row.toRowW.1.main.body.filter fun s => match s with | .Assign [.Name x _] _ _ => !(x == Str.ofString "__name__") | _ => true } }
noncomputable def heap_39 : Params → Frag := fun P => [(2, { cls := Value.none, data := Data.dict #[] }), (3, { cls := Value.type "dict", data := Data.dict #[{ hash := PyData.keyHash P (Str.ofString "__name__"), key := Value.str (Str.ofString "__name__") 165, val := Value.str (Str.ofString "law_uf030026_08") 435 }, { hash := PyData.keyHash P (Str.ofString "__doc__"), key := Value.str (Str.ofString "__doc__") 166, val := Value.none }, { hash := PyData.keyHash P (Str.ofString "__package__"), key := Value.str (Str.ofString "__package__") 167, val := Value.none }, { hash := PyData.keyHash P (Str.ofString "__loader__"), key := Value.str (Str.ofString "__loader__") 168, val := Value.builtin "__main__.__loader__#opaque" }, { hash := PyData.keyHash P (Str.ofString "__spec__"), key := Value.str (Str.ofString "__spec__") 169, val := Value.none }, { hash := PyData.keyHash P (Str.ofString "__annotations__"), key := Value.str (Str.ofString "__annotations__") 170, val := Value.ref 6 }, { hash := PyData.keyHash P (Str.ofString "__builtins__"), key := Value.str (Str.ofString "__builtins__") 171, val := Value.ref 4 }, { hash := PyData.keyHash P (Str.ofString "__file__"), key := Value.str (Str.ofString "__file__") 173, val := Value.str (Str.ofString "/claim/cut.py") 172 }, { hash := PyData.keyHash P (Str.ofString "__cached__"), key := Value.str (Str.ofString "__cached__") 174, val := Value.none }, { hash := PyData.keyHash P (Str.ofString "StackError"), key := Value.str (Str.ofString "StackError") 206, val := Value.ref 24 }, { hash := PyData.keyHash P (Str.ofString "Empty"), key := Value.str (Str.ofString "Empty") 222, val := Value.ref 37 }, { hash := PyData.keyHash P (Str.ofString "WrongKind"), key := Value.str (Str.ofString "WrongKind") 238, val := Value.ref 49 }, { hash := PyData.keyHash P (Str.ofString "NoBlock"), key := Value.str (Str.ofString "NoBlock") 254, val := Value.ref 61 }, { hash := PyData.keyHash P (Str.ofString "Apart"), key := Value.str (Str.ofString "Apart") 270, val := Value.ref 73 }, { hash := PyData.keyHash P (Str.ofString "Dry"), key := Value.str (Str.ofString "Dry") 286, val := Value.ref 85 }, { hash := PyData.keyHash P (Str.ofString "BOUND"), key := Value.str (Str.ofString "BOUND") 290, val := Value.int 1000000000 289 }, { hash := PyData.keyHash P (Str.ofString "LONGEST"), key := Value.str (Str.ofString "LONGEST") 292, val := Value.int 60 291 }, { hash := PyData.keyHash P (Str.ofString "TAKES"), key := Value.str (Str.ofString "TAKES") 315, val := Value.ref 88 }, { hash := PyData.keyHash P (Str.ofString "kinds_of"), key := Value.str (Str.ofString "kinds_of") 324, val := Value.ref 101 }, { hash := PyData.keyHash P (Str.ofString "need"), key := Value.str (Str.ofString "need") 332, val := Value.ref 108 }, { hash := PyData.keyHash P (Str.ofString "reckoned"), key := Value.str (Str.ofString "reckoned") 340, val := Value.ref 115 }, { hash := PyData.keyHash P (Str.ofString "done"), key := Value.str (Str.ofString "done") 352, val := Value.ref 122 }, { hash := PyData.keyHash P (Str.ofString "Machine"), key := Value.str (Str.ofString "Machine") 422, val := Value.ref 167 }, { hash := PyData.keyHash P (Str.ofString "run"), key := Value.str (Str.ofString "run") 434, val := Value.ref 178 }, { hash := PyData.keyHash P (Str.ofString "_law_draw"), key := Value.str (Str.ofString "_law_draw") 447, val := Value.ref 185 }, { hash := PyData.keyHash P (Str.ofString "_law_words"), key := Value.str (Str.ofString "_law_words") 453, val := Value.ref 190 }, { hash := PyData.keyHash P (Str.ofString "_law_value"), key := Value.str (Str.ofString "_law_value") 464, val := Value.ref 197 }, { hash := PyData.keyHash P (Str.ofString "_law_wanted"), key := Value.str (Str.ofString "_law_wanted") 473, val := Value.ref 204 }, { hash := PyData.keyHash P (Str.ofString "_law_lack"), key := Value.str (Str.ofString "_law_lack") 483, val := Value.ref 211 }, { hash := PyData.keyHash P (Str.ofString "_law_plainly"), key := Value.str (Str.ofString "_law_plainly") 492, val := Value.ref 218 }, { hash := PyData.keyHash P (Str.ofString "_law_called"), key := Value.str (Str.ofString "_law_called") 503, val := Value.ref 225 }, { hash := PyData.keyHash P (Str.ofString "_law_next"), key := Value.str (Str.ofString "_law_next") 513, val := Value.ref 232 }, { hash := PyData.keyHash P (Str.ofString "_law_plain_row"), key := Value.str (Str.ofString "_law_plain_row") 523, val := Value.ref 239 }, { hash := PyData.keyHash P (Str.ofString "_law_kinds"), key := Value.str (Str.ofString "_law_kinds") 529, val := Value.ref 244 }, { hash := PyData.keyHash P (Str.ofString "_law_told"), key := Value.str (Str.ofString "_law_told") 541, val := Value.ref 251 }, { hash := PyData.keyHash P (Str.ofString "_law_pushes"), key := Value.str (Str.ofString "_law_pushes") 547, val := Value.ref 256 }, { hash := PyData.keyHash P (Str.ofString "_law_choice"), key := Value.str (Str.ofString "_law_choice") 553, val := Value.ref 261 }, { hash := PyData.keyHash P (Str.ofString "_law_fitting"), key := Value.str (Str.ofString "_law_fitting") 565, val := Value.ref 268 }, { hash := PyData.keyHash P (Str.ofString "_law_good_rows"), key := Value.str (Str.ofString "_law_good_rows") 571, val := Value.ref 273 }, { hash := PyData.keyHash P (Str.ofString "_law_good_program"), key := Value.str (Str.ofString "_law_good_program") 586, val := Value.ref 280 }, { hash := PyData.keyHash P (Str.ofString "_law_raw_row"), key := Value.str (Str.ofString "_law_raw_row") 599, val := Value.ref 287 }, { hash := PyData.keyHash P (Str.ofString "_law_spoilt"), key := Value.str (Str.ofString "_law_spoilt") 615, val := Value.ref 294 }, { hash := PyData.keyHash P (Str.ofString "_law_copy"), key := Value.str (Str.ofString "_law_copy") 624, val := Value.ref 301 }, { hash := PyData.keyHash P (Str.ofString "_law_walked"), key := Value.str (Str.ofString "_law_walked") 639, val := Value.ref 308 }, { hash := PyData.keyHash P (Str.ofString "_law_reckoned"), key := Value.str (Str.ofString "_law_reckoned") 648, val := Value.ref 315 }, { hash := PyData.keyHash P (Str.ofString "_law_behind"), key := Value.str (Str.ofString "_law_behind") 658, val := Value.ref 322 }, { hash := PyData.keyHash P (Str.ofString "_law_kinds_of"), key := Value.str (Str.ofString "_law_kinds_of") 664, val := Value.ref 327 }, { hash := PyData.keyHash P (Str.ofString "_law_left"), key := Value.str (Str.ofString "_law_left") 673, val := Value.ref 334 }, { hash := PyData.keyHash P (Str.ofString "_law_stepped"), key := Value.str (Str.ofString "_law_stepped") 689, val := Value.ref 341 }, { hash := PyData.keyHash P (Str.ofString "_law_alike"), key := Value.str (Str.ofString "_law_alike") 698, val := Value.ref 348 }, { hash := PyData.keyHash P (Str.ofString "_law_on_top"), key := Value.str (Str.ofString "_law_on_top") 704, val := Value.ref 353 }, { hash := PyData.keyHash P (Str.ofString "_law_way"), key := Value.str (Str.ofString "_law_way") 717, val := Value.ref 360 }, { hash := PyData.keyHash P (Str.ofString "_law_run"), key := Value.str (Str.ofString "_law_run") 727, val := Value.ref 367 }, { hash := PyData.keyHash P (Str.ofString "_law_any"), key := Value.str (Str.ofString "_law_any") 739, val := Value.ref 374 }, { hash := PyData.keyHash P (Str.ofString "law"), key := Value.str (Str.ofString "law") 758, val := Value.ref 381 }] 55 }), (15, { cls := Value.type "tuple", data := Data.seq #[Value.type "ValueError"] }), (23, { cls := Value.type "dict", data := Data.dict #[{ hash := PyData.keyHash P (Str.ofString "__module__"), key := Value.str (Str.ofString "__module__") 196, val := Value.str (Str.ofString "stackproof.errors") 187 }, { hash := PyData.keyHash P (Str.ofString "__firstlineno__"), key := Value.str (Str.ofString "__firstlineno__") 200, val := Value.int 2 199 }, { hash := PyData.keyHash P (Str.ofString "__static_attributes__"), key := Value.str (Str.ofString "__static_attributes__") 201, val := Value.ref 22 }, { hash := PyData.keyHash P (Str.ofString "__weakref__"), key := Value.str (Str.ofString "__weakref__") 203, val := Value.ref 25 }, { hash := PyData.keyHash P (Str.ofString "__doc__"), key := Value.str (Str.ofString "__doc__") 204, val := Value.none }] 3 }), (24, { cls := Value.type "type", data := Data.cls { name := Str.ofString "StackError", bases := [Value.type "ValueError"], mro := [Value.ref 24, Value.type "ValueError", Value.type "Exception", Value.type "BaseException", Value.type "object"], ns := 23, qualname := Str.ofString "StackError", subclasses := [Value.ref 37, Value.ref 49, Value.ref 61, Value.ref 73, Value.ref 85] }, slots := #[some (Value.ref 15), none, some (Value.str (Str.ofString "StackError") 189), some (Value.str (Str.ofString "StackError") 197), some (Value.builtin "ValueError.__new__"), some (Value.bool true)] }), (25, { cls := Value.type "getset_descriptor", data := Data.fields #[Value.str (Str.ofString "__weakref__") 202, Value.ref 24, Value.builtin "ExceptionGroup.__weakref__", Value.none] }), (28, { cls := Value.type "tuple", data := Data.seq #[Value.ref 24] }), (36, { cls := Value.type "dict", data := Data.dict #[{ hash := PyData.keyHash P (Str.ofString "__module__"), key := Value.str (Str.ofString "__module__") 214, val := Value.str (Str.ofString "stackproof.errors") 187 }, { hash := PyData.keyHash P (Str.ofString "__firstlineno__"), key := Value.str (Str.ofString "__firstlineno__") 218, val := Value.int 4 217 }, { hash := PyData.keyHash P (Str.ofString "__static_attributes__"), key := Value.str (Str.ofString "__static_attributes__") 219, val := Value.ref 35 }, { hash := PyData.keyHash P (Str.ofString "__doc__"), key := Value.str (Str.ofString "__doc__") 220, val := Value.none }] 2 }), (37, { cls := Value.type "type", data := Data.cls { name := Str.ofString "Empty", bases := [Value.ref 24], mro := [Value.ref 37, Value.ref 24, Value.type "ValueError", Value.type "Exception", Value.type "BaseException", Value.type "object"], ns := 36, qualname := Str.ofString "Empty" }, slots := #[some (Value.ref 28), none, some (Value.str (Str.ofString "Empty") 207), some (Value.str (Str.ofString "Empty") 215), some (Value.builtin "ValueError.__new__"), some (Value.bool true)] }), (40, { cls := Value.type "tuple", data := Data.seq #[Value.ref 24] }), (48, { cls := Value.type "dict", data := Data.dict #[{ hash := PyData.keyHash P (Str.ofString "__module__"), key := Value.str (Str.ofString "__module__") 230, val := Value.str (Str.ofString "stackproof.errors") 187 }, { hash := PyData.keyHash P (Str.ofString "__firstlineno__"), key := Value.str (Str.ofString "__firstlineno__") 234, val := Value.int 6 233 }, { hash := PyData.keyHash P (Str.ofString "__static_attributes__"), key := Value.str (Str.ofString "__static_attributes__") 235, val := Value.ref 47 }, { hash := PyData.keyHash P (Str.ofString "__doc__"), key := Value.str (Str.ofString "__doc__") 236, val := Value.none }] 2 }), (49, { cls := Value.type "type", data := Data.cls { name := Str.ofString "WrongKind", bases := [Value.ref 24], mro := [Value.ref 49, Value.ref 24, Value.type "ValueError", Value.type "Exception", Value.type "BaseException", Value.type "object"], ns := 48, qualname := Str.ofString "WrongKind" }, slots := #[some (Value.ref 40), none, some (Value.str (Str.ofString "WrongKind") 223), some (Value.str (Str.ofString "WrongKind") 231), some (Value.builtin "ValueError.__new__"), some (Value.bool true)] }), (52, { cls := Value.type "tuple", data := Data.seq #[Value.ref 24] }), (60, { cls := Value.type "dict", data := Data.dict #[{ hash := PyData.keyHash P (Str.ofString "__module__"), key := Value.str (Str.ofString "__module__") 246, val := Value.str (Str.ofString "stackproof.errors") 187 }, { hash := PyData.keyHash P (Str.ofString "__firstlineno__"), key := Value.str (Str.ofString "__firstlineno__") 250, val := Value.int 8 249 }, { hash := PyData.keyHash P (Str.ofString "__static_attributes__"), key := Value.str (Str.ofString "__static_attributes__") 251, val := Value.ref 59 }, { hash := PyData.keyHash P (Str.ofString "__doc__"), key := Value.str (Str.ofString "__doc__") 252, val := Value.none }] 2 }), (61, { cls := Value.type "type", data := Data.cls { name := Str.ofString "NoBlock", bases := [Value.ref 24], mro := [Value.ref 61, Value.ref 24, Value.type "ValueError", Value.type "Exception", Value.type "BaseException", Value.type "object"], ns := 60, qualname := Str.ofString "NoBlock" }, slots := #[some (Value.ref 52), none, some (Value.str (Str.ofString "NoBlock") 239), some (Value.str (Str.ofString "NoBlock") 247), some (Value.builtin "ValueError.__new__"), some (Value.bool true)] }), (64, { cls := Value.type "tuple", data := Data.seq #[Value.ref 24] }), (72, { cls := Value.type "dict", data := Data.dict #[{ hash := PyData.keyHash P (Str.ofString "__module__"), key := Value.str (Str.ofString "__module__") 262, val := Value.str (Str.ofString "stackproof.errors") 187 }, { hash := PyData.keyHash P (Str.ofString "__firstlineno__"), key := Value.str (Str.ofString "__firstlineno__") 266, val := Value.int 10 265 }, { hash := PyData.keyHash P (Str.ofString "__static_attributes__"), key := Value.str (Str.ofString "__static_attributes__") 267, val := Value.ref 71 }, { hash := PyData.keyHash P (Str.ofString "__doc__"), key := Value.str (Str.ofString "__doc__") 268, val := Value.none }] 2 }), (73, { cls := Value.type "type", data := Data.cls { name := Str.ofString "Apart", bases := [Value.ref 24], mro := [Value.ref 73, Value.ref 24, Value.type "ValueError", Value.type "Exception", Value.type "BaseException", Value.type "object"], ns := 72, qualname := Str.ofString "Apart" }, slots := #[some (Value.ref 64), none, some (Value.str (Str.ofString "Apart") 255), some (Value.str (Str.ofString "Apart") 263), some (Value.builtin "ValueError.__new__"), some (Value.bool true)] }), (76, { cls := Value.type "tuple", data := Data.seq #[Value.ref 24] }), (84, { cls := Value.type "dict", data := Data.dict #[{ hash := PyData.keyHash P (Str.ofString "__module__"), key := Value.str (Str.ofString "__module__") 278, val := Value.str (Str.ofString "stackproof.errors") 187 }, { hash := PyData.keyHash P (Str.ofString "__firstlineno__"), key := Value.str (Str.ofString "__firstlineno__") 282, val := Value.int 12 281 }, { hash := PyData.keyHash P (Str.ofString "__static_attributes__"), key := Value.str (Str.ofString "__static_attributes__") 283, val := Value.ref 83 }, { hash := PyData.keyHash P (Str.ofString "__doc__"), key := Value.str (Str.ofString "__doc__") 284, val := Value.none }] 2 }), (85, { cls := Value.type "type", data := Data.cls { name := Str.ofString "Dry", bases := [Value.ref 24], mro := [Value.ref 85, Value.ref 24, Value.type "ValueError", Value.type "Exception", Value.type "BaseException", Value.type "object"], ns := 84, qualname := Str.ofString "Dry" }, slots := #[some (Value.ref 76), none, some (Value.str (Str.ofString "Dry") 271), some (Value.str (Str.ofString "Dry") 279), some (Value.builtin "ValueError.__new__"), some (Value.bool true)] }), (88, { cls := Value.type "dict", data := Data.dict #[{ hash := PyData.keyHash P (Str.ofString "add"), key := Value.str (Str.ofString "add") 293, val := Value.ref 89 }, { hash := PyData.keyHash P (Str.ofString "mul"), key := Value.str (Str.ofString "mul") 296, val := Value.ref 90 }, { hash := PyData.keyHash P (Str.ofString "less"), key := Value.str (Str.ofString "less") 299, val := Value.ref 91 }, { hash := PyData.keyHash P (Str.ofString "join"), key := Value.str (Str.ofString "join") 302, val := Value.ref 92 }, { hash := PyData.keyHash P (Str.ofString "long"), key := Value.str (Str.ofString "long") 305, val := Value.ref 93 }, { hash := PyData.keyHash P (Str.ofString "show"), key := Value.str (Str.ofString "show") 307, val := Value.ref 94 }] 6 }), (89, { cls := Value.type "tuple", data := Data.seq #[Value.str (Str.ofString "num") 294, Value.str (Str.ofString "num") 295] }), (90, { cls := Value.type "tuple", data := Data.seq #[Value.str (Str.ofString "num") 297, Value.str (Str.ofString "num") 298] }), (91, { cls := Value.type "tuple", data := Data.seq #[Value.str (Str.ofString "num") 300, Value.str (Str.ofString "num") 301] }), (92, { cls := Value.type "tuple", data := Data.seq #[Value.str (Str.ofString "text") 303, Value.str (Str.ofString "text") 304] }), (93, { cls := Value.type "tuple", data := Data.seq #[Value.str (Str.ofString "text") 306] }), (94, { cls := Value.type "tuple", data := Data.seq #[Value.str (Str.ofString "num") 308] }), (166, { cls := Value.type "dict", data := Data.dict #[{ hash := PyData.keyHash P (Str.ofString "__module__"), key := Value.str (Str.ofString "__module__") 362, val := Value.str (Str.ofString "stackproof.machine") 353 }, { hash := PyData.keyHash P (Str.ofString "__firstlineno__"), key := Value.str (Str.ofString "__firstlineno__") 366, val := Value.int 62 365 }, { hash := PyData.keyHash P (Str.ofString "__init__"), key := Value.str (Str.ofString "__init__") 376, val := Value.ref 136 }, { hash := PyData.keyHash P (Str.ofString "settle"), key := Value.str (Str.ofString "settle") 383, val := Value.ref 143 }, { hash := PyData.keyHash P (Str.ofString "over"), key := Value.str (Str.ofString "over") 390, val := Value.ref 150 }, { hash := PyData.keyHash P (Str.ofString "goal_of"), key := Value.str (Str.ofString "goal_of") 399, val := Value.ref 157 }, { hash := PyData.keyHash P (Str.ofString "step"), key := Value.str (Str.ofString "step") 411, val := Value.ref 164 }, { hash := PyData.keyHash P (Str.ofString "__static_attributes__"), key := Value.str (Str.ofString "__static_attributes__") 415, val := Value.ref 165 }, { hash := PyData.keyHash P (Str.ofString "__dict__"), key := Value.str (Str.ofString "__dict__") 417, val := Value.ref 168 }, { hash := PyData.keyHash P (Str.ofString "__weakref__"), key := Value.str (Str.ofString "__weakref__") 419, val := Value.ref 169 }, { hash := PyData.keyHash P (Str.ofString "__doc__"), key := Value.str (Str.ofString "__doc__") 420, val := Value.none }] 4 }), (167, { cls := Value.type "type", data := Data.cls { name := Str.ofString "Machine", bases := [Value.type "object"], mro := [Value.ref 167, Value.type "object"], ns := 166, qualname := Str.ofString "Machine" }, slots := #[none, none, some (Value.str (Str.ofString "Machine") 355), some (Value.str (Str.ofString "Machine") 363), some (Value.builtin "object.__new__"), some (Value.bool true)] }), (168, { cls := Value.type "getset_descriptor", data := Data.fields #[Value.str (Str.ofString "__dict__") 416, Value.ref 167, Value.builtin "function.__dict__", Value.builtin "function.__dict__#set"] }), (169, { cls := Value.type "getset_descriptor", data := Data.fields #[Value.str (Str.ofString "__weakref__") 418, Value.ref 167, Value.builtin "ExceptionGroup.__weakref__", Value.none] })]
noncomputable def adrs : List Addr := [2, 3, 15, 23, 24, 25, 28, 36, 37, 40, 48, 49, 52, 60, 61, 64, 72, 73, 76, 84, 85, 88, 89, 90, 91, 92, 93, 94, 166, 167, 168, 169]
abbrev loos : List Str := ["TAKES"]
noncomputable abbrev hook : Hook := kHook heap_39 adrs (fun _ => by kernel_rfl)
noncomputable abbrev xt : Shared → Bool := fun s => xlAt view_39 [] s && recOk PySem.Challenge.rw_uf030026_08.row.records s
set_option maxRecDepth 1000000
set_option maxHeartbeats 0
theorem bo : ∀ w : World, (fencedOpening treeTable PySem.Challenge.rw_uf030026_08.row.toRowW.1 w 3100).map (fun s => (s.heap, s.gens, s.drawn, s.toks)) = some (boot_heap w.params, Array.mk [], boot_drawn, boot_toks) := boot_open (by kernel_rfl) (by decide) (fun s => by kernel_rfl)
theorem use_boot {o : Option Shared} {h : Heap} {g : Array GenState} {d : Drawn} {t : Nat} (b : o.map (fun s => (s.heap, s.gens, s.drawn, s.toks)) = some (h, g, d, t)) {X : Type} {F : Shared → X} {x : X} (k : ∀ os, F ⟨h, g, d, t, os⟩ = x) : o.map F = some x := by
  obtain ⟨⟨h', g', d', t', os⟩, e, c⟩ := Option.map_eq_some_iff.mp b
  cases c
  rw [e]; exact congrArg some (k os)
noncomputable abbrev topr (w : World) (os : OsState) (x : Bool) : Option Shared := topFrom treeTable PySem.Challenge.rw_uf030026_08.row.toRowW.1 (w.withFollow "special-get-raises" x) 3100 ⟨boot_heap w.params, Array.mk [], boot_drawn, boot_toks, os⟩
theorem lw : looseW view_39 loos = loos := by kernel_rfl
noncomputable abbrev fC (L : List Str) (s : Shared) := ((seen ((recsOf view_39).map (·.name)) (ownsOf view_39) [] { s with gens := #[] }, s.heap.bltView, s.heap.keysOk L ((recsOf view_39).map (·.name)) ((litsOf view_39).map (·.1)) ((clssOf view_39 L).map (·.name)) && s.heap.accountedOkI (importedModules PySem.Challenge.rw_uf030026_08.row.toRowW.1.main.body) && s.heap.isNs mainGlobals && s.heap.isNs builtinsNs && tablesOk view_39 s.heap && xt s && (if true then s.gens.size == 0 else !leftWithCleanup s.gens), tabsOk view_39 s, pinSeenD view_39 (drecsOf view_39) s, plainSeenE view_39 L s, plainSeenD view_39 loos s, wideSeen view_39 s, clsSeenW view_39 loos s), hook.obs s)
noncomputable abbrev gC (L : List Str) (w : World) := ((expectedOf view_39, bltViewBooted, true, true, pinGoodD (drecsOf view_39), plainGoodE view_39 L, plainGoodD view_39 loos, wideGood view_39, clsGoodW view_39 loos), hook.val w)
theorem half (w : World) (os : OsState) : (topr w os false).map (fC loos) = some (gC loos (w.withFollow "special-get-raises" false)) := by kernel_rfl
theorem half' (w : World) (os : OsState) : (topr w os true).map (fC loos) = some (gC loos (w.withFollow "special-get-raises" true)) := by kernel_rfl
theorem whol (w : World) (os : OsState) (x : Bool) (h : (topr w os x).map (fC loos) = some (gC loos (w.withFollow "special-get-raises" x))) : (topr w os x).map (fun s => (openSeen view_39 loos (importedModules PySem.Challenge.rw_uf030026_08.row.toRowW.1.main.body) xt true s, hook.obs s)) = some (openGood view_39 loos, hook.val (w.withFollow "special-get-raises" x)) := by
  replace h : (topr w os x).map (fC (looseW view_39 loos)) = some (gC (looseW view_39 loos) (w.withFollow "special-get-raises" x)) := by rw [lw]; exact h
  exact h
theorem left : LeftO PySem.Challenge.rw_uf030026_08.row.toRowW.1 view_39 loos xt hook.obs hook.val 3100 := LeftO.of_split "special-get-raises" fun w => use_boot (bo w) fun os => congr (congrArg Prod.mk (whol w os false (half w os))) (whol w os true (half' w os))
end Mine.hd
end
section
open PySem
namespace Mine
set_option genSizeOf false
set_option genInjectivity false
set_option autoImplicit false

/-- abstract values -/
inductive PV where
  | none
  | bool (b : Bool)
  | int (i : Int)
  | str (s : Str)
  | tup (xs : List PV)
  | obj (a : Addr)
  | exc (c : Nat)
  | fls (xs : List Int)
  | fdt (kvs : List (Str × PV))
  | rng (n : Int)

/-- abstract objects -/
inductive AObj where
  | list (xs : List PV)
  | dict (kvs : List (Str × PV))
  | tape (n : Nat)
  | inst (d : Addr)
  | attrs (kvs : List (Str × PV))

abbrev AHeap := Addr → Option AObj
abbrev Loc := List (Option PV)
abbrev Post := PV → AHeap → Prop
abbrev BPost := Bool → AHeap → Prop
abbrev XPost := Nat → AHeap → Prop
abbrev CallSpec := Str → List PV → AHeap → Post → XPost → Prop

noncomputable def Ext (H H' : AHeap) : Prop := ∀ b o, H b = some o → H' b = some o
noncomputable def ExtB (a : Addr) (H H' : AHeap) : Prop := ∀ b o, b ≠ a → H b = some o → H' b = some o

inductive Blt where
  | len | list | tuple | range | max | min | int | str | all | any | abs
noncomputable def Blt.name : Blt → String
  | .len => "len" | .list => "list" | .tuple => "tuple" | .range => "range" | .max => "max" | .min => "min" | .int => "int" | .str => "str" | .all => "all" | .any => "any" | .abs => "abs"

inductive Meth where
  | append | pop | dpop | insert | count | join
noncomputable def Meth.name : Meth → String
  | .append => "append" | .pop => "pop" | .dpop => "pop" | .insert => "insert" | .count => "count" | .join => "join"

inductive ICls where
  | str | list | tuple | bool | int | intstr | value | own (c : Nat) (x : Str)

set_option genSizeOf false
set_option genInjectivity false
mutual
inductive AE where
  | lit (c : Const) (k : Nat) (p : Pos)
  | var (i : Nat) (p : Pos)
  | glob (x : Str) (p : Pos)
  | bin (l : AE) (o : Operator) (r : AE) (p : Pos)
  | neg (e : AE) (p : Pos)
  | not (e : AE) (p : Pos)
  | bop (o : BoolOp) (es : AEs) (p : Pos)
  | cmp (l : AE) (o : CmpOp) (r : AE) (p : Pos)
  | sub (e i : AE) (p : Pos)
  | sfrom (e i : AE) (ps p : Pos)
  | sto (e i : AE) (ps p : Pos)
  | srev (e : AE) (c ps p : Pos) (cu : Pos)
  | tup (es : AEs) (k : Nat) (p : Pos)
  | list (es : AEs) (p : Pos)
  | tape (pc p : Pos)
  | dict (ks : List (Str × Pos)) (vs : AEs) (p : Pos)
  | call (f : Str) (es : AEs) (pf p : Pos)
  | blt (b : Blt) (es : AEs) (pf p : Pos)
  | isi (e : AE) (c : ICls) (pf p1 p2 p3 p : Pos)
  | meth (o : AE) (nm : Meth) (es : AEs) (pa p : Pos)
  | umeth (o : AE) (c : Str) (nm : Str) (es : AEs) (pa p : Pos)
  | attr (o : AE) (nm : Str) (p : Pos)
  | new (es : AEs) (pf p : Pos)
  | comp (elt : AE) (x : Nat) (px : Pos) (it : AE) (cs : AEs) (sc : Scope) (p : Pos)
inductive AEs where
  | nil
  | cons (e : AE) (es : AEs)
end

mutual
inductive AS where
  | expr (e : AE) (p : Pos)
  | assign (x : Nat) (px : Pos) (e : AE) (p : Pos)
  | assignT (xs : List (Nat × Pos)) (k : Nat) (pt : Pos) (e : AE) (p : Pos)
  | store (o i : AE) (ps : Pos) (e : AE) (p : Pos)
  | sattr (o : AE) (nm : Str) (pa : Pos) (e : AE) (p : Pos)
  | ite (c : AE) (a b : ASs) (p : Pos)
  | for (x : Nat) (px : Pos) (it : AE) (b : ASs) (p : Pos)
  | while (c : AE) (b : ASs) (p : Pos)
  | ret (e : AE) (p : Pos)
  | ret0 (p : Pos)
  | raise (c : Nat) (x : Str) (msg : Str) (k : Nat) (pc pm pk p : Pos)
  | try (b : ASs) (hs : AHs) (p : Pos)
inductive ASs where
  | nil
  | cons (s : AS) (ss : ASs)
inductive AHs where
  | nil
  | cons (c : Nat) (x : Str) (px : Pos) (y : Option Nat) (b : ASs) (p : Pos) (hs : AHs)
end

set_option genSizeOf true
set_option genInjectivity true
section toSyntax
variable (nm : List Str)
noncomputable def slot (i : Nat) : Str := nm.getD i Str.empty
noncomputable def ICls.expr (p1 p2 p3 : Pos) : ICls → Expr
  | .str => .Name "str" p1
  | .list => .Name "list" p1
  | .tuple => .Name "tuple" p1
  | .bool => .Name "bool" p1
  | .int => .Name "int" p1
  | .intstr => .Tuple [.Name "int" p2, .Name "str" p3] 0 p1
  | .value => .Name "ValueError" p1
  | .own _ x => .Name x p1
mutual
noncomputable def AE.toE : AE → Expr
  | .lit c k p => .Constant c k p
  | .var i p => .Name (slot nm i) p
  | .glob x p => .Name x p
  | .bin l o r p => .BinOp l.toE o r.toE p
  | .neg e p => .UnaryOp .USub e.toE p
  | .not e p => .UnaryOp .Not e.toE p
  | .bop o es p => .BoolOp o es.toEs p
  | .cmp l o r p => .Compare l.toE [o] [r.toE] p
  | .sub e i p => .Subscript e.toE i.toE p
  | .sfrom e i ps p => .Subscript e.toE (.Slice (some i.toE) none none ps) p
  | .sto e i ps p => .Subscript e.toE (.Slice none (some i.toE) none ps) p
  | .srev e c ps p cu => .Subscript e.toE (.Slice none none (some (.UnaryOp .USub (.Constant (.int 1) 0 c) cu)) ps) p
  | .tup es k p => .Tuple es.toEs k p
  | .list es p => .List es.toEs p
  | .tape pc p => .List [.Constant (.int 0) 0 pc] p
  | .dict ks vs p => .Dict (ks.map fun x => some (.Constant (.str x.1) 0 x.2)) vs.toEs p
  | .call f es pf p => .Call (.Name f pf) es.toEs [] p
  | .blt b es pf p => .Call (.Name b.name pf) es.toEs [] p
  | .isi e c pf p1 p2 p3 p => .Call (.Name "isinstance" pf) [e.toE, c.expr p1 p2 p3] [] p
  | .meth o m es pa p => .Call (.Attribute o.toE m.name pa) es.toEs [] p
  | .umeth o _ m es pa p => .Call (.Attribute o.toE m pa) es.toEs [] p
  | .attr o m p => .Attribute o.toE m p
  | .new es pf p => .Call (.Name "Machine" pf) es.toEs [] p
  | .comp elt x px it cs sc p => .ListComp elt.toE [{ target := .Name (slot nm x) px, iter := it.toE, ifs := cs.toEs, is_async := 0 }] sc p
noncomputable def AEs.toEs : AEs → List Expr
  | .nil => []
  | .cons e es => e.toE :: es.toEs
end
mutual
noncomputable def AS.toS : AS → Stmt
  | .expr e p => .Expr (e.toE nm) p
  | .assign x px e p => .Assign [.Name (slot nm x) px] (e.toE nm) p
  | .assignT xs k pt e p => .Assign [.Tuple (xs.map fun x => .Name (slot nm x.1) x.2) k pt] (e.toE nm) p
  | .store o i ps e p => .Assign [.Subscript (o.toE nm) (i.toE nm) ps] (e.toE nm) p
  | .sattr o n pa e p => .Assign [.Attribute (o.toE nm) n pa] (e.toE nm) p
  | .ite c a b p => .If (c.toE nm) a.toSs b.toSs p
  | .for x px it b p => .For (.Name (slot nm x) px) (it.toE nm) b.toSs [] p
  | .while c b p => .While (c.toE nm) b.toSs [] p
  | .ret e p => .Return (some (e.toE nm)) p
  | .ret0 p => .Return none p
  | .raise _ x msg k pc pm pk p => .Raise (some (.Call (.Name x pc) [.Constant (.str msg) k pm] [] pk)) none p
  | .try b hs p => .Try b.toSs hs.toHs [] [] p
noncomputable def ASs.toSs : ASs → List Stmt
  | .nil => []
  | .cons s ss => s.toS :: ss.toSs
noncomputable def AHs.toHs : AHs → List ExceptHandler
  | .nil => []
  | .cons _ x px y b p hs => .ExceptHandler (some (.Name x px)) (y.map (slot nm)) b.toSs p :: hs.toHs
end
end toSyntax

/-! the abstract semantics -/
noncomputable def LIM : Nat := 1048576
noncomputable def getO (H : AHeap) (a : Addr) (K : AObj → Prop) : Prop := ∃ o, H a = some o ∧ K o
noncomputable def alloc (o : AObj) (Q : Post) (H : AHeap) : Prop := ∀ a H', H a = none → H' a = some o → Ext H H' → Q (.obj a) H'
noncomputable def mutate (a : Addr) (o : AObj) (K : AHeap → Prop) (H : AHeap) : Prop := ∀ H', H' a = some o → ExtB a H H' → K H'

noncomputable def dget {α : Type} (kvs : List (Str × α)) (k : Str) : Option α := (kvs.find? fun p => decide (p.1 = k)).map (·.2)
noncomputable def dset {α : Type} (kvs : List (Str × α)) (k : Str) (v : α) : List (Str × α) :=
  if kvs.any (fun p => decide (p.1 = k)) then kvs.map (fun p => if p.1 = k then (p.1, v) else p) else kvs ++ [(k, v)]

inductive EqA : PV → PV → Bool → Prop
  | bool (a b : Bool) : EqA (.bool a) (.bool b) (a == b)
  | int (a b : Int) : EqA (.int a) (.int b) (a == b)
  | str (a b : Str) : EqA (.str a) (.str b) (a == b)
  | intstr (a : Int) (b : Str) : EqA (.int a) (.str b) false
  | strint (a : Str) (b : Int) : EqA (.str a) (.int b) false
mutual
inductive EqV (H : AHeap) : Nat → PV → PV → Bool → Prop
  | atom {n : Nat} {p q : PV} {b : Bool} : EqA p q b → EqV H n p q b
  | tup {n : Nat} {xs ys : List PV} {b : Bool} : EqL H n xs ys b → EqV H (n + 1) (.tup xs) (.tup ys) b
  | list {n : Nat} {a b : Addr} {xs ys : List PV} {r : Bool} : H a = some (.list xs) → H b = some (.list ys) → EqL H n xs ys r → EqV H (n + 1) (.obj a) (.obj b) r
inductive EqL (H : AHeap) : Nat → List PV → List PV → Bool → Prop
  | nil {n : Nat} : EqL H n [] [] true
  | l {n : Nat} (x : PV) (xs : List PV) : EqL H n (x :: xs) [] false
  | r {n : Nat} (y : PV) (ys : List PV) : EqL H n [] (y :: ys) false
  | c {n : Nat} {x y : PV} {xs ys : List PV} {a b : Bool} : EqV H n x y a → EqL H n xs ys b → EqL H n (x :: xs) (y :: ys) (a && b)
end
theorem EqV.bool {H : AHeap} {n : Nat} (a b : Bool) : EqV H n (.bool a) (.bool b) (a == b) := .atom (.bool a b)
theorem EqV.int {H : AHeap} {n : Nat} (a b : Int) : EqV H n (.int a) (.int b) (a == b) := .atom (.int a b)
theorem EqV.str {H : AHeap} {n : Nat} (a b : Str) : EqV H n (.str a) (.str b) (a == b) := .atom (.str a b)
inductive EqD (H : AHeap) : List (Str × PV) → List (Str × PV) → Bool → Prop
  | nil {ys : List (Str × PV)} : EqD H ys [] true
  | miss {ys xs : List (Str × PV)} {k : Str} {v : PV} : dget ys k = none → EqD H ys ((k, v) :: xs) false
  | c {ys xs : List (Str × PV)} {k : Str} {v w : PV} {a b : Bool} : dget ys k = some w → EqV H 40 v w a → EqD H ys xs b → EqD H ys ((k, v) :: xs) (a && b)
inductive EqT (H : AHeap) : PV → PV → Bool → Prop
  | val {v w : PV} {b : Bool} : EqV H 40 v w b → EqT H v w b
  | dict {a b : Addr} {xs ys : List (Str × PV)} {r : Bool} : H a = some (.dict xs) → H b = some (.dict ys) → xs.length = ys.length → EqD H ys xs r → EqT H (.obj a) (.obj b) r
  | dictlen {a b : Addr} {xs ys : List (Str × PV)} : H a = some (.dict xs) → H b = some (.dict ys) → xs.length ≠ ys.length → EqT H (.obj a) (.obj b) false

noncomputable def litW (c : Const) (Q : Post) (H : AHeap) : Prop :=
  match c with
  | .none => Q .none H
  | .bool b => Q (.bool b) H
  | .int i => Q (.int i) H
  | .str s => Q (.str s) H
  | _ => False
noncomputable def varW (v : Option PV) (Q : Post) (H : AHeap) : Prop :=
  match v with
  | some v => Q v H
  | none => False
noncomputable def truthW (v : PV) (K : Bool → Prop) : Prop :=
  match v with
  | .bool b => K b
  | _ => False
noncomputable def repL (n : Int) (xs : List PV) : List PV := (List.replicate n.toNat xs).flatten
inductive BinW (Q : Post) (H : AHeap) : Operator → PV → PV → Prop
  | addI (a b : Int) (h : Q (.int (a + b)) H) : BinW Q H .Add (.int a) (.int b)
  | subI (a b : Int) (h : Q (.int (a - b)) H) : BinW Q H .Sub (.int a) (.int b)
  | mulI (a b : Int) (k : a.natAbs < 2 ^ 60 ∨ b.natAbs < 2 ^ 60) (h : Q (.int (a * b)) H) : BinW Q H .Mult (.int a) (.int b)
  | modI (a b : Int) (k : 0 < b) (h : Q (.int (a % b)) H) : BinW Q H .Mod (.int a) (.int b)
  | divI (a b : Int) (k : 0 < b) (k' : b < 1073741824) (h : Q (.int (a / b)) H) : BinW Q H .FloorDiv (.int a) (.int b)
  | powI (h : Q (.int 1000000000) H) : BinW Q H .Pow (.int 10) (.int 9)
  | addS (a b : Str) (k : a.length + b.length ≤ LIM) (h : Q (.str (a ++ b)) H) : BinW Q H .Add (.str a) (.str b)
  | addT (a b : List PV) (k : a.length + b.length ≤ LIM) (h : Q (.tup (a ++ b)) H) : BinW Q H .Add (.tup a) (.tup b)
  | addL (a b : Addr) (xs ys : List PV) (ha : H a = some (.list xs)) (hb : H b = some (.list ys)) (k : xs.length + ys.length ≤ LIM) (h : alloc (.list (xs ++ ys)) Q H) : BinW Q H .Add (.obj a) (.obj b)
  | mulL (a : Addr) (n : Int) (xs : List PV) (ha : H a = some (.list xs)) (k1 : n ≤ LIM) (k2 : -LIM ≤ n) (k3 : xs.length * n.toNat ≤ LIM) (h : alloc (.list (repL n xs)) Q H) : BinW Q H .Mult (.obj a) (.int n)
/-- a told value, or a rule -/
noncomputable def pureOr {α : Type} (f : Option α) (K : α → Prop) (R : Prop) : Prop := match f with
  | some a => K a
  | none => R
theorem pureOr.to {α : Type} {f : Option α} {K : α → Prop} {R : Prop} (h : pureOr f K R) (k : ∀ a, f = some a → K a → R) : R := by
  cases f with
  | none => exact h
  | some a => exact k a rfl h
noncomputable def intF (op : Operator) (a b : Int) : Option Int := match op with
  | .Add => some (a + b)
  | .Sub => some (a - b)
  | .Mod => if 0 < b then some (a % b) else none
  | .FloorDiv => if 0 < b then if b < 1073741824 then some (a / b) else none else none
  | _ => none
noncomputable def binF (op : Operator) (v w : PV) : Option PV := match v with
  | .int a => (match w with
    | .int b => (match intF op a b with | some i => some (.int i) | none => none)
    | _ => none)
  | _ => none
noncomputable def binW (op : Operator) (v w : PV) (Q : Post) (H : AHeap) : Prop := pureOr (binF op v w) (fun u => Q u H) (BinW Q H op v w)
noncomputable def hasKey (kvs : List (Str × PV)) (k : Str) : Bool := (dget kvs k).isSome
noncomputable def isN : PV → Bool
  | .none => true
  | _ => false
inductive CmpW (K : Bool → Prop) (H : AHeap) : CmpOp → PV → PV → Prop
  | eq {v w : PV} {b : Bool} (e : EqT H v w b) (h : K b) : CmpW K H .Eq v w
  | ne {v w : PV} {b : Bool} (e : EqT H v w b) (h : K (!b)) : CmpW K H .NotEq v w
  | lt (a b : Int) (h : K (decide (a < b))) : CmpW K H .Lt (.int a) (.int b)
  | le (a b : Int) (h : K (decide (a ≤ b))) : CmpW K H .LtE (.int a) (.int b)
  | gt (a b : Int) (h : K (decide (b < a))) : CmpW K H .Gt (.int a) (.int b)
  | isN {v : PV} (h : K (Mine.isN v)) : CmpW K H .Is v .none
  | niN {v : PV} (h : K (!Mine.isN v)) : CmpW K H .IsNot v .none
  | isB {a b : Bool} (h : K (a == b)) : CmpW K H .Is (.bool a) (.bool b)
  | niB {a b : Bool} (h : K (a != b)) : CmpW K H .IsNot (.bool a) (.bool b)
  | inD {k : Str} {a : Addr} {kvs : List (Str × PV)} (ha : H a = some (.dict kvs)) (h : K (hasKey kvs k)) : CmpW K H .In (.str k) (.obj a)
  | niD {k : Str} {a : Addr} {kvs : List (Str × PV)} (ha : H a = some (.dict kvs)) (h : K (!hasKey kvs k)) : CmpW K H .NotIn (.str k) (.obj a)
  | inL {k : Str} {a : Addr} {ks : List Str} (ha : H a = some (.list (ks.map .str))) (h : K (decide (k ∈ ks))) : CmpW K H .In (.str k) (.obj a)
  | niL {k : Str} {a : Addr} {ks : List Str} (ha : H a = some (.list (ks.map .str))) (h : K (!decide (k ∈ ks))) : CmpW K H .NotIn (.str k) (.obj a)
noncomputable def cmpI (op : CmpOp) (a b : Int) : Option Bool := match op with
  | .Eq => some (a == b)
  | .NotEq => some (!(a == b))
  | .Lt => some (decide (a < b))
  | .LtE => some (decide (a ≤ b))
  | .Gt => some (decide (b < a))
  | _ => none
noncomputable def cmpS (op : CmpOp) (a b : Str) : Option Bool := match op with
  | .Eq => some (a == b)
  | .NotEq => some (!(a == b))
  | _ => none
noncomputable def noneF (op : CmpOp) (v : PV) : Option Bool := match op with
  | .Is => some (isN v)
  | .IsNot => some (!isN v)
  | _ => none
noncomputable def cmpF (op : CmpOp) (v w : PV) : Option Bool := match v with
  | .int a => (match w with | .int b => cmpI op a b | _ => none)
  | .str a => (match w with | .str b => cmpS op a b | _ => none)
  | v => (match w with | .none => noneF op v | _ => none)
noncomputable def cmpW (op : CmpOp) (v w : PV) (Q : BPost) (H : AHeap) : Prop := pureOr (cmpF op v w) (fun b => Q b H) (CmpW (fun b => Q b H) H op v w)
noncomputable def itemAt {α : Type} (xs : List α) (k : Int) : Option α :=
  if 0 ≤ k then xs[k.toNat]? else if 0 ≤ k + xs.length then xs[(k + xs.length).toNat]? else none
noncomputable def signAt (s : Str) (k : Int) : Option Str := (itemAt s.cps.toList k).map fun c => ⟨#[c]⟩
inductive SubW (Q : Post) (H : AHeap) : PV → PV → Prop
  | tup {xs : List PV} {k : Int} {x : PV} (e : itemAt xs k = some x) (h : Q x H) : SubW Q H (.tup xs) (.int k)
  | str {s x : Str} {k : Int} (l : s.length ≤ LIM) (e : signAt s k = some x) (h : Q (.str x) H) : SubW Q H (.str s) (.int k)
  | fls {xs : List Int} {k x : Int} (e : itemAt xs k = some x) (h : Q (.int x) H) : SubW Q H (.fls xs) (.int k)
  | fdt {kvs : List (Str × PV)} {k : Str} {x : PV} (e : dget kvs k = some x) (h : Q x H) : SubW Q H (.fdt kvs) (.str k)
  | list {a : Addr} {xs : List PV} {k : Int} {x : PV} (ha : H a = some (.list xs)) (e : itemAt xs k = some x) (h : Q x H) : SubW Q H (.obj a) (.int k)
  | dict {a : Addr} {kvs : List (Str × PV)} {k : Str} {x : PV} (ha : H a = some (.dict kvs)) (e : dget kvs k = some x) (h : Q x H) : SubW Q H (.obj a) (.str k)
  | tape {a : Addr} {n : Nat} (ha : H a = some (.tape n)) (h : Q (.int n) H) : SubW Q H (.obj a) (.int 0)
noncomputable def subF (v i : PV) : Option PV := match v with
  | .tup xs => (match i with | .int k => itemAt xs k | _ => none)
  | _ => none
noncomputable def subW (v i : PV) (Q : Post) (H : AHeap) : Prop := pureOr (subF v i) (fun u => Q u H) (SubW Q H v i)
/-- where a cut falls in a row of n -/
noncomputable def cutAt (n : Nat) (k : Int) : Nat := if 0 ≤ k then min k.toNat n else (k + n).toNat
inductive FromW (Q : Post) (H : AHeap) : PV → PV → Prop
  | tup {xs : List PV} {k : Int} (h : Q (.tup (xs.drop (cutAt xs.length k))) H) : FromW Q H (.tup xs) (.int k)
  | str {s : Str} {k : Int} (l : s.length ≤ LIM) (h : Q (.str ⟨(s.cps.toList.drop (cutAt s.length k)).toArray⟩) H) : FromW Q H (.str s) (.int k)
  | list {a : Addr} {xs : List PV} {k : Int} (ha : H a = some (.list xs)) (h : alloc (.list (xs.drop (cutAt xs.length k))) Q H) : FromW Q H (.obj a) (.int k)
inductive ToW (Q : Post) (H : AHeap) : PV → PV → Prop
  | tup {xs : List PV} {k : Int} (h : Q (.tup (xs.take (cutAt xs.length k))) H) : ToW Q H (.tup xs) (.int k)
  | str {s : Str} {k : Int} (l : s.length ≤ LIM) (h : Q (.str ⟨(s.cps.toList.take (cutAt s.length k)).toArray⟩) H) : ToW Q H (.str s) (.int k)
  | fls {xs : List Int} {k : Int} (h : alloc (.list ((xs.take (cutAt xs.length k)).map .int)) Q H) : ToW Q H (.fls xs) (.int k)
  | list {a : Addr} {xs : List PV} {k : Int} (ha : H a = some (.list xs)) (h : alloc (.list (xs.take (cutAt xs.length k))) Q H) : ToW Q H (.obj a) (.int k)
inductive RevW (Q : Post) (H : AHeap) : PV → Prop
  | list {a : Addr} {xs : List PV} (ha : H a = some (.list xs)) (h : alloc (.list xs.reverse) Q H) : RevW Q H (.obj a)
noncomputable def dictOf (ks : List Str) (vs : List PV) : List (Str × PV) := (ks.zip vs).foldl (fun d p => dset d p.1 p.2) []
inductive BltW (Q : Post) (H : AHeap) : Blt → List PV → Prop
  | lenT (xs : List PV) (h : Q (.int xs.length) H) : BltW Q H .len [.tup xs]
  | lenS (s : Str) (l : s.length ≤ LIM) (h : Q (.int s.length) H) : BltW Q H .len [.str s]
  | lenF (xs : List Int) (h : Q (.int xs.length) H) : BltW Q H .len [.fls xs]
  | lenL (a : Addr) (xs : List PV) (ha : H a = some (.list xs)) (h : Q (.int xs.length) H) : BltW Q H .len [.obj a]
  | lenD (a : Addr) (kvs : List (Str × PV)) (ha : H a = some (.dict kvs)) (h : Q (.int kvs.length) H) : BltW Q H .len [.obj a]
  | listT (xs : List PV) (h : alloc (.list xs) Q H) : BltW Q H .list [.tup xs]
  | listL (a : Addr) (xs : List PV) (ha : H a = some (.list xs)) (h : alloc (.list xs) Q H) : BltW Q H .list [.obj a]
  | listD (a : Addr) (kvs : List (Str × PV)) (ha : H a = some (.dict kvs)) (h : alloc (.list (kvs.map fun x => .str x.1)) Q H) : BltW Q H .list [.obj a]
  | tupT (xs : List PV) (h : Q (.tup xs) H) : BltW Q H .tuple [.tup xs]
  | tupL (a : Addr) (xs : List PV) (ha : H a = some (.list xs)) (h : Q (.tup xs) H) : BltW Q H .tuple [.obj a]
  | range (n : Int) (k : n.natAbs ≤ LIM) (h : Q (.rng n) H) : BltW Q H .range [.int n]
  | max (a b : Int) (h : Q (.int (if a < b then b else a)) H) : BltW Q H .max [.int a, .int b]
  | min (a b : Int) (h : Q (.int (if b < a then b else a)) H) : BltW Q H .min [.int a, .int b]
  | intB (b : Bool) (h : Q (.int (if b then 1 else 0)) H) : BltW Q H .int [.bool b]
  | intI (i : Int) (h : Q (.int i) H) : BltW Q H .int [.int i]
  | strI (i : Int) (k : i.natAbs < 10 ^ 18) (h : Q (.str (Str.ofString (toString i))) H) : BltW Q H .str [.int i]
  | abs (i : Int) (h : Q (.int i.natAbs) H) : BltW Q H .abs [.int i]
noncomputable def blt1 (b : Blt) (v : PV) : Option PV := match v with
  | .tup xs => (match b with | .len => some (.int xs.length) | .tuple => some (.tup xs) | _ => none)
  | .fls xs => (match b with | .len => some (.int xs.length) | _ => none)
  | .bool c => (match b with | .int => some (.int (if c then 1 else 0)) | _ => none)
  | _ => none
noncomputable def blt2 (b : Blt) (v w : PV) : Option PV := match v with
  | .int x => (match w with
    | .int y => (match b with | .max => some (.int (if x < y then y else x)) | .min => some (.int (if y < x then y else x)) | _ => none)
    | _ => none)
  | _ => none
noncomputable def bltF (b : Blt) (vs : List PV) : Option PV := match vs with
  | [v] => blt1 b v
  | [v, w] => blt2 b v w
  | _ => none
noncomputable def bltW (b : Blt) (vs : List PV) (Q : Post) (H : AHeap) : Prop := pureOr (bltF b vs) (fun u => Q u H) (BltW Q H b vs)
noncomputable def isSub (k c : Nat) : Bool := k == c || c == 0
noncomputable def ICls.basic : ICls → Bool
  | .str | .list | .tuple | .bool | .int => true
  | _ => false
noncomputable def ICls.hits (c : ICls) (t : Nat) : Bool := match c with
  | .bool => t == 1
  | .int => t == 1 || t == 2
  | .str => t == 3
  | .tuple => t == 4
  | .list => t == 5
  | _ => false
noncomputable def tagOf : PV → Option Nat
  | .none => some 0
  | .bool _ => some 1
  | .int _ => some 2
  | .str _ => some 3
  | .tup _ => some 4
  | _ => none
inductive IsiW (K : Bool → Prop) (H : AHeap) : ICls → PV → Prop
  | val {c : ICls} {v : PV} {t : Nat} (b : c.basic = true) (e : tagOf v = some t) (h : K (c.hits t)) : IsiW K H c v
  | list {c : ICls} {a : Addr} {xs : List PV} (b : c.basic = true) (ha : H a = some (.list xs)) (h : K (c.hits 5)) : IsiW K H c (.obj a)
  | own {j k : Nat} {x : Str} (h : K (isSub k j)) : IsiW K H (.own j x) (.exc k)
  | value {k : Nat} (h : K true) : IsiW K H .value (.exc k)
noncomputable def isiF (c : ICls) (v : PV) : Option Bool := match v with
  | .exc k => (match c with | .own j _ => some (isSub k j) | .value => some true | _ => none)
  | v => (match c.basic with | true => (match tagOf v with | some t => some (c.hits t) | none => none) | false => none)
noncomputable def isiW (c : ICls) (v : PV) (K : Bool → Prop) (H : AHeap) : Prop := pureOr (isiF c v) K (IsiW K H c v)
inductive MethW (Q : Post) (H : AHeap) : Meth → PV → List PV → Prop
  | append (a : Addr) (xs : List PV) (x : PV) (ha : H a = some (.list xs)) (k : xs.length < LIM) (h : mutate a (.list (xs ++ [x])) (fun H' => Q .none H') H) : MethW Q H .append (.obj a) [x]
  | pop (a : Addr) (ys : List PV) (x : PV) (ha : H a = some (.list (ys ++ [x]))) (h : mutate a (.list ys) (fun H' => Q x H') H) : MethW Q H .pop (.obj a) []
  | insert (a : Addr) (xs : List PV) (k : Int) (x : PV) (ha : H a = some (.list xs)) (k0 : 0 ≤ k) (k1 : k ≤ xs.length) (k2 : xs.length < LIM) (h : mutate a (.list (xs.take k.toNat ++ x :: xs.drop k.toNat)) (fun H' => Q .none H') H) : MethW Q H .insert (.obj a) [.int k, x]
  | count (a : Addr) (bs : List Bool) (b : Bool) (ha : H a = some (.list (bs.map .bool))) (h : Q (.int (bs.count b)) H) : MethW Q H .count (.obj a) [.bool b]
  | join (s : Str) (a : Addr) (ss : List Str) (ha : H a = some (.list (ss.map .str))) (e : s.length = 0) (k : (ss.map (·.length)).sum ≤ LIM) (h : Q (.str (Str.join s ss)) H) : MethW Q H .join (.str s) [.obj a]
noncomputable def methW (m : Meth) (v : PV) (vs : List PV) (Q : Post) (H : AHeap) : Prop := MethW Q H m v vs
noncomputable def Meth.onL : Meth → Bool
  | .append | .pop | .insert | .count => true
  | _ => false
inductive RecvW (P : Prop) (H : AHeap) : Meth → PV → Prop
  | list {m : Meth} {a : Addr} {xs : List PV} (ha : H a = some (.list xs)) (k : m.onL = true) (h : P) : RecvW P H m (.obj a)
  | str {s : Str} (h : P) : RecvW P H .join (.str s)
/-- what a loop goes over, and what must stay so -/
inductive ItemsW (K : List PV → (AHeap → Prop) → Prop) (H : AHeap) : PV → Prop
  | tup {xs : List PV} (h : K xs fun _ => True) : ItemsW K H (.tup xs)
  | rng {n : Int} (h : K ((List.range n.toNat).map fun (i : Nat) => .int i) fun _ => True) : ItemsW K H (.rng n)
  | list {a : Addr} {xs : List PV} (ha : H a = some (.list xs)) (h : K xs fun H' => H' a = some (.list xs)) : ItemsW K H (.obj a)
noncomputable def itemsF (v : PV) : Option (List PV) := match v with
  | .tup xs => some xs
  | .rng n => some ((List.range n.toNat).map fun (i : Nat) => .int i)
  | _ => none
noncomputable def itemsW (v : PV) (K : List PV → (AHeap → Prop) → Prop) (H : AHeap) : Prop := pureOr (itemsF v) (fun xs => K xs fun _ => True) (ItemsW K H v)
noncomputable def compW (src : AHeap → Prop) (el : PV → (List PV → AHeap → Prop) → AHeap → Prop) (Q : List PV → AHeap → Prop) : List PV → List PV → AHeap → Prop
  | [], acc, H => src H ∧ Q acc H
  | x :: xs, acc, H => src H ∧ el x (fun vs H' => compW src el Q xs (acc ++ vs) H') H
noncomputable def forW (src : AHeap → Prop) (st : PV → (Loc → AHeap → Prop) → Loc → AHeap → Prop) (N : Loc → AHeap → Prop) : List PV → Loc → AHeap → Prop
  | [], m, H => src H ∧ N m H
  | x :: xs, m, H => src H ∧ st x (fun m' H' => forW src st N xs m' H') m H

noncomputable def boolW (o : BoolOp) (b : Bool) (stop go : Prop) : Prop := match o with
  | .And => if b then go else stop
  | .Or => if b then stop else go
/-! objects of the program's own class -/
inductive AttrW (Q : Post) (H : AHeap) (nm : Str) : PV → Prop
  | mk {a d : Addr} {kvs : List (Str × PV)} {x : PV} (ha : H a = some (.inst d)) (hd : H d = some (.attrs kvs)) (e : dget kvs nm = some x) (h : Q x H) : AttrW Q H nm (.obj a)
inductive UmW (P : Prop) (H : AHeap) (nm : Str) : PV → Prop
  | mk {a d : Addr} {kvs : List (Str × PV)} (ha : H a = some (.inst d)) (hd : H d = some (.attrs kvs)) (e : dget kvs nm = none) (h : P) : UmW P H nm (.obj a)
inductive SattrW (K : AHeap → Prop) (H : AHeap) (nm : Str) (x : PV) : PV → Prop
  | mk {a d : Addr} {kvs : List (Str × PV)} (ha : H a = some (.inst d)) (hd : H d = some (.attrs kvs)) (l : kvs.length < 100) (h : mutate d (.attrs (dset kvs nm x)) K H) : SattrW K H nm x (.obj a)
structure Gl where
  C : CallSpec
  G : Str → Option PV

noncomputable def newW (g : Gl) (vs : List PV) (Q : Post) (X : XPost) (H : AHeap) : Prop := ∀ a d H', H a = none → H d = none → H' a = some (.inst d) → H' d = some (.attrs []) → Ext H H' → g.C "Machine.__init__" (.obj a :: vs) H' (fun r H => r = .none ∧ Q (.obj a) H) X
section
variable (g : Gl)
mutual
noncomputable def awpE : AE → Post → XPost → Loc → AHeap → Prop
  | .lit c _ _, Q, _, _, H => litW c Q H
  | .var i _, Q, _, m, H => varW (m.getD i none) Q H
  | .glob x _, Q, _, _, H => varW (g.G x) Q H
  | .bin l o r _, Q, X, m, H => awpE l (fun v H => awpE r (fun w H => binW o v w Q H) X m H) X m H
  | .neg e _, Q, X, m, H => awpE e (fun v H => match v with | .int i => Q (.int (-i)) H | _ => False) X m H
  | .not e _, Q, X, m, H => awpE e (fun v H => truthW v fun b => Q (.bool !b) H) X m H
  | .bop o es _, Q, X, m, H => awpV o es Q X m H
  | .cmp l o r _, Q, X, m, H => awpE l (fun v H => awpE r (fun w H => cmpW o v w (fun b H => Q (.bool b) H) H) X m H) X m H
  | .sub e i _, Q, X, m, H => awpE e (fun v H => awpE i (fun w H => subW v w Q H) X m H) X m H
  | .sfrom e i _ _, Q, X, m, H => awpE e (fun v H => awpE i (fun w H => FromW Q H v w) X m H) X m H
  | .sto e i _ _, Q, X, m, H => awpE e (fun v H => awpE i (fun w H => ToW Q H v w) X m H) X m H
  | .srev e _ _ _ _, Q, X, m, H => awpE e (fun v H => RevW Q H v) X m H
  | .tup es _ _, Q, X, m, H => awpL es (fun vs H => Q (.tup vs) H) X m H
  | .list es _, Q, X, m, H => awpL es (fun vs H => alloc (.list vs) Q H) X m H
  | .tape _ _, Q, _, _, H => alloc (.tape 0) Q H
  | .dict ks es _, Q, X, m, H => awpL es (fun vs H => alloc (.dict (dictOf (ks.map (·.1)) vs)) Q H) X m H
  | .call f es _ _, Q, X, m, H => awpL es (fun vs H => g.C f vs H Q X) X m H
  | .blt b es _ _, Q, X, m, H => awpL es (fun vs H => bltW b vs Q H) X m H
  | .isi e c _ _ _ _ _, Q, X, m, H => awpE e (fun v H => isiW c v (fun b => Q (.bool b) H) H) X m H
  | .meth e n es _ _, Q, X, m, H => awpE e (fun v H => RecvW (awpL es (fun vs H => methW n v vs Q H) X m H) H n v) X m H
  | .umeth o c nm es _ _, Q, X, m, H => awpE o (fun v H => UmW (awpL es (fun vs H => g.C c (v :: vs) H Q X) X m H) H nm v) X m H
  | .attr o nm _, Q, X, m, H => awpE o (fun v H => AttrW Q H nm v) X m H
  | .new es _ _, Q, X, m, H => awpL es (fun vs H => newW g vs Q X H) X m H
  | .comp e x _ it cs _ _, Q, X, m, H => awpE it (fun v H => itemsW v (fun xs src =>
      compW src (fun y K H => awpC cs (fun b H => if b then awpE e (fun v H => K [v] H) (fun _ _ => False) (m.set x (some y)) H else K [] H) (fun _ _ => False) (m.set x (some y)) H)
        (fun vs H => alloc (.list vs) Q H) xs [] H) H) X m H
noncomputable def awpL : AEs → (List PV → AHeap → Prop) → XPost → Loc → AHeap → Prop
  | .nil, Q, _, _, H => Q [] H
  | .cons e es, Q, X, m, H => awpE e (fun v H => awpL es (fun vs H => Q (v :: vs) H) X m H) X m H
noncomputable def awpV : BoolOp → AEs → Post → XPost → Loc → AHeap → Prop
  | _, .nil, _, _, _, _ => False
  | _, .cons e .nil, Q, X, m, H => awpE e Q X m H
  | o, .cons e es, Q, X, m, H => awpE e (fun v H => truthW v fun b => boolW o b (Q v H) (awpV o es Q X m H)) X m H
noncomputable def awpB : AE → (Post → XPost → Loc → AHeap → Prop) → BPost → XPost → Loc → AHeap → Prop
  | .not e _, _, Q, X, m, H => awpB e (awpE e) (fun b H => Q (!b) H) X m H
  | .bop o es _, _, Q, X, m, H => awpBs o es Q X m H
  | .cmp l o r _, _, Q, X, m, H => awpE l (fun v H => awpE r (fun w H => cmpW o v w Q H) X m H) X m H
  | _, W, Q, X, m, H => W (fun v H => truthW v fun b => Q b H) X m H
noncomputable def awpBs : BoolOp → AEs → BPost → XPost → Loc → AHeap → Prop
  | o, .nil, Q, _, _, H => Q (o == .And) H
  | o, .cons e es, Q, X, m, H => awpB e (awpE e) (fun b H => boolW o b (Q (match o with | .And => false | .Or => true) H) (awpBs o es Q X m H)) X m H
noncomputable def awpC : AEs → BPost → XPost → Loc → AHeap → Prop
  | .nil, Q, _, _, H => Q true H
  | .cons e _, Q, X, m, H => awpB e (awpE e) Q X m H
end

abbrev NPost := Loc → AHeap → Prop
abbrev SXPost := Nat → Loc → AHeap → Prop
noncomputable def unpackW (v : PV) (n : Nat) (K : List PV → Prop) : Prop :=
  match v with
  | .tup xs => xs.length = n ∧ K xs
  | _ => False
noncomputable def setAll : List (Nat × Pos) → List PV → Loc → Loc
  | x :: xs, v :: vs, m => setAll xs vs (m.set x.1 (some v))
  | _, _, m => m
inductive StoreW (K : AHeap → Prop) (H : AHeap) : PV → PV → PV → Prop
  | list {a : Addr} {xs : List PV} {k : Int} {x : PV} (ha : H a = some (.list xs)) (k0 : 0 ≤ k) (k1 : k < xs.length) (h : mutate a (.list (xs.set k.toNat x)) K H) : StoreW K H (.obj a) (.int k) x
  | dict {a : Addr} {kvs : List (Str × PV)} {k : Str} {x : PV} (ha : H a = some (.dict kvs)) (l : kvs.length < LIM) (h : mutate a (.dict (dset kvs k x)) K H) : StoreW K H (.obj a) (.str k) x
  | tape {a : Addr} {n : Nat} {j : Int} (ha : H a = some (.tape n)) (j0 : 0 ≤ j) (h : mutate a (.tape j.toNat) K H) : StoreW K H (.obj a) (.int 0) (.int j)
mutual
noncomputable def awpS : AS → NPost → Post → SXPost → Loc → AHeap → Prop
  | .expr e _, N, _, X, m, H => awpE g e (fun _ H => N m H) (fun c H => X c m H) m H
  | .assign x _ e _, N, _, X, m, H => awpE g e (fun v H => N (m.set x (some v)) H) (fun c H => X c m H) m H
  | .assignT xs _ _ e _, N, _, X, m, H => awpE g e (fun v H => unpackW v xs.length fun vs => N (setAll xs vs m) H) (fun c H => X c m H) m H
  | .store o i _ e _, N, _, X, m, H => awpE g e (fun x H => awpE g o (fun v H => awpE g i (fun w H => StoreW (fun H => N m H) H v w x) (fun c H => X c m H) m H) (fun c H => X c m H) m H) (fun c H => X c m H) m H
  | .sattr o nm _ e _, N, _, X, m, H => awpE g e (fun x H => awpE g o (fun v H => SattrW (fun H => N m H) H nm x v) (fun c H => X c m H) m H) (fun c H => X c m H) m H
  | .ite c a b _, N, R, X, m, H => awpB g c (awpE g c) (fun t H => if t then awpSs a N R X m H else awpSs b N R X m H) (fun c H => X c m H) m H
  | .for x _ it b _, N, R, X, m, H => awpE g it (fun v H => itemsW v (fun xs src => forW src (fun y K m H => awpSs b K R X (m.set x (some y)) H) N xs m H) H) (fun c H => X c m H) m H
  | .while c b _, N, R, X, m, H => ∃ I : Nat → Loc → AHeap → Prop, (∃ k, I k m H) ∧ ∀ k m H, I k m H →
      awpB g c (awpE g c) (fun t H => if t then awpSs b (fun m H => ∃ j, j < k ∧ I j m H) R X m H else N m H) (fun c H => X c m H) m H
  | .ret e _, _, R, X, m, H => awpE g e R (fun c H => X c m H) m H
  | .ret0 _, _, R, _, _, H => R .none H
  | .raise c _ _ _ _ _ _ _, _, _, X, m, H => X c m H
  | .try b hs _, N, R, _, m, H => awpSs b N R (fun c m H => awpHs hs c N R m H) m H
noncomputable def awpSs : ASs → NPost → Post → SXPost → Loc → AHeap → Prop
  | .nil, N, _, _, m, H => N m H
  | .cons s ss, N, R, X, m, H => awpS s (fun m H => awpSs ss N R X m H) R X m H
noncomputable def awpHs : AHs → Nat → NPost → Post → Loc → AHeap → Prop
  | .nil, _, _, _, _, _ => False
  | .cons k _ _ y b _ hs, c, N, R, m, H =>
    if isSub c k then (match y with
      | none => awpSs b N R (fun _ _ _ => False) m H
      | some y => awpSs b (fun m H => N (m.set y none) H) R (fun _ _ _ => False) (m.set y (some (.exc c))) H)
    else awpHs hs c N R m H
end
end
end Mine
end
section
namespace Mine
inductive An3 (p0 p1 p2 : Prop) : Prop
  | mk (h0 : p0) (h1 : p1) (h2 : p2) : An3 p0 p1 p2
inductive An4 (p0 p1 p2 p3 : Prop) : Prop
  | mk (h0 : p0) (h1 : p1) (h2 : p2) (h3 : p3) : An4 p0 p1 p2 p3
inductive An5 (p0 p1 p2 p3 p4 : Prop) : Prop
  | mk (h0 : p0) (h1 : p1) (h2 : p2) (h3 : p3) (h4 : p4) : An5 p0 p1 p2 p3 p4
inductive An6 (p0 p1 p2 p3 p4 p5 : Prop) : Prop
  | mk (h0 : p0) (h1 : p1) (h2 : p2) (h3 : p3) (h4 : p4) (h5 : p5) : An6 p0 p1 p2 p3 p4 p5
inductive An8 (p0 p1 p2 p3 p4 p5 p6 p7 : Prop) : Prop
  | mk (h0 : p0) (h1 : p1) (h2 : p2) (h3 : p3) (h4 : p4) (h5 : p5) (h6 : p6) (h7 : p7) : An8 p0 p1 p2 p3 p4 p5 p6 p7
inductive An9 (p0 p1 p2 p3 p4 p5 p6 p7 p8 : Prop) : Prop
  | mk (h0 : p0) (h1 : p1) (h2 : p2) (h3 : p3) (h4 : p4) (h5 : p5) (h6 : p6) (h7 : p7) (h8 : p8) : An9 p0 p1 p2 p3 p4 p5 p6 p7 p8
inductive An10 (p0 p1 p2 p3 p4 p5 p6 p7 p8 p9 : Prop) : Prop
  | mk (h0 : p0) (h1 : p1) (h2 : p2) (h3 : p3) (h4 : p4) (h5 : p5) (h6 : p6) (h7 : p7) (h8 : p8) (h9 : p9) : An10 p0 p1 p2 p3 p4 p5 p6 p7 p8 p9
inductive An11 (p0 p1 p2 p3 p4 p5 p6 p7 p8 p9 p10 : Prop) : Prop
  | mk (h0 : p0) (h1 : p1) (h2 : p2) (h3 : p3) (h4 : p4) (h5 : p5) (h6 : p6) (h7 : p7) (h8 : p8) (h9 : p9) (h10 : p10) : An11 p0 p1 p2 p3 p4 p5 p6 p7 p8 p9 p10
inductive Ex1 {α0 : Type} (P : α0 → Prop) : Prop
  | mk (x0 : α0) (h : P x0) : Ex1 P
inductive Ex2 {α0 : Type} {α1 : Type} (P : α0 → α1 → Prop) : Prop
  | mk (x0 : α0) (x1 : α1) (h : P x0 x1) : Ex2 P
inductive Ex3 {α0 : Type} {α1 : Type} {α2 : Type} (P : α0 → α1 → α2 → Prop) : Prop
  | mk (x0 : α0) (x1 : α1) (x2 : α2) (h : P x0 x1 x2) : Ex3 P
inductive Ex5 {α0 : Type} {α1 : Type} {α2 : Type} {α3 : Type} {α4 : Type} (P : α0 → α1 → α2 → α3 → α4 → Prop) : Prop
  | mk (x0 : α0) (x1 : α1) (x2 : α2) (x3 : α3) (x4 : α4) (h : P x0 x1 x2 x3 x4) : Ex5 P
inductive Ex6 {α0 : Type} {α1 : Type} {α2 : Type} {α3 : Type} {α4 : Type} {α5 : Type} (P : α0 → α1 → α2 → α3 → α4 → α5 → Prop) : Prop
  | mk (x0 : α0) (x1 : α1) (x2 : α2) (x3 : α3) (x4 : α4) (x5 : α5) (h : P x0 x1 x2 x3 x4 x5) : Ex6 P
inductive Ex4 {α0 : Type} {α1 : Type} {α2 : Type} {α3 : Type} (P : α0 → α1 → α2 → α3 → Prop) : Prop
  | mk (x0 : α0) (x1 : α1) (x2 : α2) (x3 : α3) (h : P x0 x1 x2 x3) : Ex4 P
inductive An7 (p0 p1 p2 p3 p4 p5 p6 : Prop) : Prop
  | mk (h0 : p0) (h1 : p1) (h2 : p2) (h3 : p3) (h4 : p4) (h5 : p5) (h6 : p6) : An7 p0 p1 p2 p3 p4 p5 p6
inductive An12 (p0 p1 p2 p3 p4 p5 p6 p7 p8 p9 p10 p11 : Prop) : Prop
  | mk (h0 : p0) (h1 : p1) (h2 : p2) (h3 : p3) (h4 : p4) (h5 : p5) (h6 : p6) (h7 : p7) (h8 : p8) (h9 : p9) (h10 : p10) (h11 : p11) : An12 p0 p1 p2 p3 p4 p5 p6 p7 p8 p9 p10 p11
inductive An2 (p0 p1 : Prop) : Prop
  | mk (h0 : p0) (h1 : p1) : An2 p0 p1
theorem bd0 {n j k : Nat} (h : n < 2 ^ j) (e : 2 ^ j ≤ 2 ^ k) : n < 2 ^ k := Nat.lt_of_lt_of_le h e
theorem bd1 {n c j k : Nat} (h : n < 2 ^ j) (e : 2 ^ j + c ≤ 2 ^ k) : n + c < 2 ^ k := Nat.lt_of_lt_of_le (Nat.add_lt_add_right h c) e
theorem bd2 {n n' c d j k : Nat} (h : n < 2 ^ j) (q : n' ≤ n + c) (e : 2 ^ j + c + d ≤ 2 ^ k) : n' + d < 2 ^ k := Nat.lt_of_lt_of_le (Nat.add_lt_add_right (Nat.lt_of_le_of_lt q (Nat.add_lt_add_right h c)) d) e
theorem bd3 {n n' c j k : Nat} (h : n < 2 ^ j) (q : n' ≤ n + c) (e : 2 ^ j + c ≤ 2 ^ k) : n' < 2 ^ k := Nat.lt_of_lt_of_le (Nat.lt_of_le_of_lt q (Nat.add_lt_add_right h c)) e
end Mine
end
section
open PySem PySem.Calls PyProof.Rows
namespace Mine
set_option autoImplicit false

structure Cx where
  prog : Program
  w : World
  B : Heap
  cls : Nat → Option Addr
  icls : Option Addr
  mN : Str → Option Value
  ga : Addr
  ba : Addr
abbrev Cx.M (cx : Cx) : Model := model cx.prog cx.w
abbrev Cx.sk (cx : Cx) : KeyKind cx.prog cx.w Str := PySem.strKind cx.prog cx.w

noncomputable def tupObj (items : Array Value) (n : Nat) : Obj := { cls := .type "tuple", data := .seq items n }
noncomputable def lstObj (items : Array Value) (n : Nat) : Obj := { cls := .type "list", data := .seq items n }
noncomputable def rngObj (n : Int) (t u v : Tok) : Obj := { cls := .type "range", dict := none, data := .fields #[.int 0 t, .int n u, .int 1 v], slots := #[] }
noncomputable def insObj (C d : Addr) : Obj := { cls := .ref C, dict := some d }

mutual
inductive Rep (cx : Cx) (h : Heap) : Value → PV → Prop
  | none : Rep cx h .none .none
  | bool (b : Bool) : Rep cx h (.bool b) (.bool b)
  | int (i : Int) (t : Tok) : Rep cx h (.int i t) (.int i)
  | str (x : Str) (t : Tok) : Rep cx h (.str x t) (.str x)
  | tup {a : Addr} {items : Array Value} {n : Nat} {xs : List PV} : h.get? a = some (tupObj items n) → xs.length ≤ LIM → RepL cx h items.toList xs → Rep cx h (.ref a) (.tup xs)
  | obj (a : Addr) : Rep cx h (.ref a) (.obj a)
  | exc {e : Addr} {o : Obj} {vs : Array Value} {c : Nat} {C : Addr} : h.get? e = some o → o.cls = .ref C → o.data = .fields vs → cx.cls c = some C → o.dict = none → Rep cx h (.ref e) (.exc c)
  | fls {a : Addr} {items : Array Value} {ns : List Int} : cx.B.IsList a items → IntsAre items.toList ns → ns.length ≤ LIM → Rep cx h (.ref a) (.fls ns)
  | fdt {a : Addr} {vs : List (Str × Value)} {kvs : List (Str × PV)} : cx.B.DictOf cx.sk a vs → RepK cx h vs kvs → Rep cx h (.ref a) (.fdt kvs)
  | rng {a : Addr} {n : Int} {t u v : Tok} : h.get? a = some (rngObj n t u v) → n.natAbs ≤ LIM → Rep cx h (.ref a) (.rng n)
inductive RepL (cx : Cx) (h : Heap) : List Value → List PV → Prop
  | nil : RepL cx h [] []
  | cons {v : Value} {p : PV} {vs : List Value} {ps : List PV} : Rep cx h v p → RepL cx h vs ps → RepL cx h (v :: vs) (p :: ps)
inductive RepK (cx : Cx) (h : Heap) : List (Str × Value) → List (Str × PV) → Prop
  | nil : RepK cx h [] []
  | cons {k : Str} {v : Value} {p : PV} {vs : List (Str × Value)} {ps : List (Str × PV)} : Rep cx h v p → RepK cx h vs ps → RepK cx h ((k, v) :: vs) ((k, p) :: ps)
end

noncomputable def RepO (cx : Cx) (h : Heap) (a : Addr) : AObj → Prop
  | .list xs => ∃ items n, h.get? a = some (lstObj items n) ∧ RepL cx h items.toList xs ∧ xs.length ≤ LIM
  | .tape k => ∃ t n, h.get? a = some (lstObj #[.int k t] n)
  | .dict kvs => ∃ vs, h.DictOf cx.sk a vs ∧ RepK cx h vs kvs ∧ kvs.length ≤ LIM ∧ (a == sysModules) = false
  | .inst d => ∃ C o, cx.icls = some C ∧ h.get? a = some o ∧ o.cls = .ref C ∧ o.dict = some d ∧ ∀ c, o.data ≠ .cls c
  | .attrs kvs => ∃ m, h.Ns1 a m ∧ h.ExactDictFk a ∧ (∀ x p, dget kvs x = some p → ∃ v, m x = some v ∧ Rep cx h v p) ∧ (∀ x, dget kvs x = none → m x = none) ∧ kvs.length ≤ 100

/-- the objects that values hang on -/
noncomputable def Solid (o : Obj) : Prop := (∃ items n, o = tupObj items n) ∨ (∃ n t u v, o = rngObj n t u v) ∨ ((∃ C, o.cls = .ref C) ∧ o.dict = none ∧ ∃ vs, o.data = .fields vs)
noncomputable def Holds (cx : Cx) (h : Heap) (H : AHeap) : Prop := ∀ a o, H a = some o → RepO cx h a o

theorem RepO.get {cx : Cx} {h : Heap} {a : Addr} {o : AObj} (r : RepO cx h a o) : ∃ ob, h.get? a = some ob ∧ ¬ Solid ob ∧ ∀ vs, ob.data = .fields vs → ob.dict ≠ none ∧ ∃ C, ob.cls = .ref C := by
  cases o with
  | list xs =>
    obtain ⟨items, n, e, _⟩ := r
    exact ⟨_, e, by rintro (⟨i, n, q⟩ | ⟨n, t, u, v, q⟩ | ⟨⟨C, q⟩, _⟩) <;> simp [lstObj, tupObj, rngObj] at q, by simp [lstObj]⟩
  | tape k =>
    obtain ⟨t, n, e⟩ := r
    exact ⟨_, e, by rintro (⟨i, n, q⟩ | ⟨n, t, u, v, q⟩ | ⟨⟨C, q⟩, _⟩) <;> simp [lstObj, tupObj, rngObj] at q, by simp [lstObj]⟩
  | dict kvs =>
    obtain ⟨vs, ⟨o, es, ep, e, ⟨hc, _⟩, hd, _⟩, _⟩ := r
    refine ⟨_, e, ?_, fun vs q => by rw [hd] at q; cases q⟩
    rintro (⟨i, n, q⟩ | ⟨n, t, u, v, q⟩ | ⟨⟨C, q⟩, _⟩)
    · rw [q] at hc; simp [tupObj] at hc
    · rw [q] at hc; simp [rngObj] at hc
    · rw [q] at hc; simp at hc
  | attrs kvs =>
    obtain ⟨m, ⟨o, es, ep, e, hd, _⟩, ⟨od, e', hc, _⟩, _⟩ := r
    rw [e] at e'
    cases e'
    refine ⟨_, e, ?_, fun vs q => by rw [hd] at q; cases q⟩
    rintro (⟨i, n, q⟩ | ⟨n, t, u, v, q⟩ | ⟨⟨C, q⟩, _⟩)
    · rw [q] at hc; simp [tupObj] at hc
    · rw [q] at hc; simp [rngObj] at hc
    · rw [q] at hc; simp at hc
  | inst d =>
    obtain ⟨C, o, _, e, hc, hd, _⟩ := r
    refine ⟨_, e, ?_, fun _ _ => ⟨by rw [hd]; exact fun q => (nomatch q), C, hc⟩⟩
    rintro (⟨i, n, rfl⟩ | ⟨n, t, u, v, rfl⟩ | ⟨_, q, _⟩)
    · cases hd
    · cases hd
    · rw [hd] at q; cases q

mutual
theorem Rep.mono' {cx : Cx} {h h' : Heap} (k : ∀ b o, h.get? b = some o → Solid o → h'.get? b = some o ∨ ((∃ C, o.cls = .ref C) ∧ ∃ o' vs', h'.get? b = some o' ∧ (o'.cls = o.cls ∧ o'.dict = o.dict) ∧ o'.data = .fields vs')) {v : Value} {p : PV} (r : Rep cx h v p) : Rep cx h' v p := by
  refine Rep.rec (motive_1 := fun v p _ => Rep cx h' v p) (motive_2 := fun vs ps _ => RepL cx h' vs ps) (motive_3 := fun vs ps _ => RepK cx h' vs ps) .none .bool .int .str ?_ .obj ?_ ?_ ?_ ?_ .nil (fun _ _ a b => .cons a b) .nil (fun _ _ a b => .cons a b) r
  · intro _ _ _ _ e l r ih
    rcases k _ _ e (.inl ⟨_, _, rfl⟩) with e' | ⟨⟨C, q⟩, _⟩
    · exact .tup e' l ih
    · cases q
  · intro _ _ _ _ _ e c d x y
    rcases k _ _ e (.inr (.inr ⟨⟨_, c⟩, y, _, d⟩)) with e' | ⟨_, o', vs', e', c', d'⟩
    · exact .exc e' c d x y
    · exact .exc e' (c'.1.trans c) d' x (c'.2.trans y)
  · intro _ _ _ e i l
    exact .fls e i l
  · intro _ _ _ d r ih
    exact .fdt d ih
  · intro _ _ _ _ _ e l
    rcases k _ _ e (.inr (.inl ⟨_, _, _, _, rfl⟩)) with e' | ⟨⟨C, q⟩, _⟩
    · exact .rng e' l
    · cases q
theorem RepL.mono' {cx : Cx} {h h' : Heap} (k : ∀ b o, h.get? b = some o → Solid o → h'.get? b = some o ∨ ((∃ C, o.cls = .ref C) ∧ ∃ o' vs', h'.get? b = some o' ∧ (o'.cls = o.cls ∧ o'.dict = o.dict) ∧ o'.data = .fields vs')) {vs : List Value} {ps : List PV} (r : RepL cx h vs ps) : RepL cx h' vs ps := by
  induction vs generalizing ps with
  | nil => cases r; exact .nil
  | cons v vs ih => cases r with | cons r rs => exact .cons (Rep.mono' k r) (ih rs)
theorem RepK.mono' {cx : Cx} {h h' : Heap} (k : ∀ b o, h.get? b = some o → Solid o → h'.get? b = some o ∨ ((∃ C, o.cls = .ref C) ∧ ∃ o' vs', h'.get? b = some o' ∧ (o'.cls = o.cls ∧ o'.dict = o.dict) ∧ o'.data = .fields vs')) {vs : List (Str × Value)} {ps : List (Str × PV)} (r : RepK cx h vs ps) : RepK cx h' vs ps := by
  induction vs generalizing ps with
  | nil => cases r; exact .nil
  | cons v vs ih => cases r with | cons r rs => exact .cons (Rep.mono' k r) (ih rs)
end
theorem Rep.mono {cx : Cx} {h h' : Heap} (k : ∀ b o, h.get? b = some o → Solid o → h'.get? b = some o) {v : Value} {p : PV} (r : Rep cx h v p) : Rep cx h' v p := Rep.mono' (fun b o e s => .inl (k b o e s)) r
theorem RepL.mono {cx : Cx} {h h' : Heap} (k : ∀ b o, h.get? b = some o → Solid o → h'.get? b = some o) {vs : List Value} {ps : List PV} (r : RepL cx h vs ps) : RepL cx h' vs ps := RepL.mono' (fun b o e s => .inl (k b o e s)) r
theorem RepK.mono {cx : Cx} {h h' : Heap} (k : ∀ b o, h.get? b = some o → Solid o → h'.get? b = some o) {vs : List (Str × Value)} {ps : List (Str × PV)} (r : RepK cx h vs ps) : RepK cx h' vs ps := RepK.mono' (fun b o e s => .inl (k b o e s)) r

theorem RepL.length {cx : Cx} {h : Heap} : ∀ {vs : List Value} {ps : List PV}, RepL cx h vs ps → vs.length = ps.length
  | _, _, .nil => rfl
  | _, _, .cons _ rs => by simp [RepL.length rs]
theorem RepK.length {cx : Cx} {h : Heap} : ∀ {vs : List (Str × Value)} {ps : List (Str × PV)}, RepK cx h vs ps → vs.length = ps.length
  | _, _, .nil => rfl
  | _, _, .cons _ rs => by simp [RepK.length rs]

noncomputable def SameO (o o' : Obj) : Prop := o' = o ∨ ((∃ es ep, o.data = .dict es ep) ∧ ∃ sl, o' = { o with slots := sl })
theorem SameO.refl (o : Obj) : SameO o o := .inl rfl
theorem SameO.data {o o' : Obj} (h : SameO o o') : o'.data = o.data := by rcases h with rfl | ⟨_, sl, rfl⟩ <;> rfl
theorem SameO.trans {a b c : Obj} (h : SameO a b) (k : SameO b c) : SameO a c := by
  rcases k with rfl | ⟨hc, sl, rfl⟩
  · exact h
  · rcases h with rfl | ⟨hb, sl', rfl⟩
    · exact .inr ⟨hc, sl, rfl⟩
    · exact .inr ⟨hb, sl, rfl⟩
theorem SameO.eq {o o' : Obj} (h : SameO o o') (n : ∀ es ep, o.data ≠ .dict es ep) : o' = o := h.resolve_right fun ⟨⟨es, ep, q⟩, _⟩ => n es ep q

/-- what a piece of a run leaves as it was -/
structure Kp (cx : Cx) (S : List Addr) (H : AHeap) (s : Shared) (H' : AHeap) (s' : Shared) : Prop where
  same : ∃ h' tk, s' = { s with heap := h', toks := tk }
  keep : ∀ b o, s.heap.get? b = some o → b ∉ S → H b = none → H' b = none ∧ ∃ o', s'.heap.get? b = some o' ∧ SameO o o'
  alive : ∀ b o, s.heap.get? b = some o → ∃ o', s'.heap.get? b = some o'
  base : ∀ b o, cx.B.get? b = some o → s.heap.get? b = some o → s'.heap.get? b = some o

theorem Kp.refl (cx : Cx) (S : List Addr) (H : AHeap) (s : Shared) : Kp cx S H s H s :=
  ⟨⟨s.heap, s.toks, rfl⟩, fun _ o e _ h => ⟨h, o, e, .refl o⟩, fun _ o e => ⟨o, e⟩, fun _ _ _ e => e⟩
theorem Kp.trans {cx : Cx} {S : List Addr} {H H₁ H₂ : AHeap} {s s₁ s₂ : Shared} (a : Kp cx S H s H₁ s₁) (b : Kp cx S H₁ s₁ H₂ s₂) : Kp cx S H s H₂ s₂ where
  same := by obtain ⟨h, t, rfl⟩ := a.same; obtain ⟨h', t', rfl⟩ := b.same; exact ⟨h', t', rfl⟩
  keep := fun x o e n hn => by
    obtain ⟨h1, o1, e1, s1⟩ := a.keep x o e n hn
    obtain ⟨h2, o2, e2, s2⟩ := b.keep x o1 e1 n h1
    exact ⟨h2, o2, e2, s1.trans s2⟩
  alive := fun x o e => let ⟨o1, e1⟩ := a.alive x o e; b.alive x o1 e1
  base := fun x o e e' => b.base x o e (a.base x o e e')
theorem Kp.sub {cx : Cx} {S S' : List Addr} {H H' : AHeap} {s s' : Shared} (a : Kp cx S H s H' s') (k : ∀ b o, s.heap.get? b = some o → b ∈ S → b ∈ S') : Kp cx S' H s H' s' :=
  ⟨a.same, fun b o e n hn => a.keep b o e (fun q => n (k b o e q)) hn, a.alive, a.base⟩
theorem Kp.nil {cx : Cx} {S : List Addr} {H H' : AHeap} {s s' : Shared} (a : Kp cx [] H s H' s') : Kp cx S H s H' s' := a.sub fun _ _ _ q => nomatch q
/-- every object stays, the abstract heap is the same or larger by new ones -/
theorem Kp.grow {cx : Cx} {S : List Addr} {H H' : AHeap} {s : Shared} {h' : Heap} {tk : Nat} (k : ∀ b o, s.heap.get? b = some o → h'.get? b = some o)
    (hH : ∀ b o, s.heap.get? b = some o → H b = none → H' b = none) : Kp cx S H s H' { s with heap := h', toks := tk } :=
  ⟨⟨h', tk, rfl⟩, fun b o e _ hn => ⟨hH b o e hn, o, k b o e, .refl o⟩, fun b o e => ⟨o, k b o e⟩, fun b o _ e => k b o e⟩

structure Fm where
  A : Around
  env : Env
  fs : List Env
  nm : List Str
  vis : Nat → Bool

inductive FrAt (cx : Cx) (H : AHeap) (h : Heap) (env : Env) : Prop
  | mk (hk : env.scope.kind ≠ .module) (L : Addr) (o : Obj) (es : Array DictEntry) (ep : Nat) (hf : env.frame = some L) (hH : H L = none) (hb : cx.B.get? L = none) (ho : h.get? L = some o) (hd : o.data = .dict es ep) : FrAt cx H h env
inductive VarsAt (cx : Cx) (F : Fm) (m : Loc) (h : Heap) : Prop
  | mk (o : Obj) (es : Array DictEntry) (ep : Nat) (mc : Str → Option Value) (ho : h.get? F.env.locals = some o) (hd : o.data = .dict es ep) (ns : h.Ns F.env.locals mc)
    (hv : ∀ i v, F.vis i = true → F.env.kindOf (slot F.nm i) = some .local → m.getD i none = some v → ∃ x, mc (slot F.nm i) = some x ∧ Rep cx h x v) : VarsAt cx F m h
inductive CellAt (cx : Cx) (F : Fm) (m : Loc) (H : AHeap) (h : Heap) (n : Str) (c : Addr) : Prop
  | mk (h1 : H c = none) (h2 : cx.B.get? c = none) (o : Obj) (x : Option Value) (ho : h.get? c = some o) (hd : o.data = .cell x)
    (hv : ∀ i v, F.vis i = true → slot F.nm i = n → F.env.kindOf n ≠ some .local → m.getD i none = some v → ∃ y, x = some y ∧ Rep cx h y v) : CellAt cx F m H h n c

structure St (cx : Cx) (F : Fm) (m : Loc) (H : AHeap) (h : Heap) : Prop where
  base : cx.B.StaysIn h
  off : ∀ b o, cx.B.get? b = some o → H b = none
  heap : Holds cx h H
  frames : ∀ env ∈ F.fs, FrAt cx H h env
  own : H F.env.locals = none ∧ cx.B.get? F.env.locals = none
  vars : VarsAt cx F m h
  cells : ∀ n c, F.env.cells.lookup n = some c → CellAt cx F m H h n c

theorem Solid.notLoc {o : Obj} (h : Solid o) : (∀ es ep, o.data ≠ .dict es ep) ∧ ∀ x, o.data ≠ .cell x := by
  rcases h with ⟨i, n, rfl⟩ | ⟨n, t, u, v, rfl⟩ | ⟨_, _, vs, q⟩
  · exact ⟨fun _ _ q => (nomatch q), fun _ q => (nomatch q)⟩
  · exact ⟨fun _ _ q => (nomatch q), fun _ q => (nomatch q)⟩
  · exact ⟨fun _ _ q' => by rw [q] at q'; exact (nomatch q'), fun _ q' => by rw [q] at q'; exact (nomatch q')⟩
theorem Holds.none_of_solid {cx : Cx} {h : Heap} {H : AHeap} (k : Holds cx h H) {b : Addr} {o : Obj} (e : h.get? b = some o) (s : Solid o) : H b = none := by
  cases q : H b with
  | none => rfl
  | some x => obtain ⟨ob, e', n, _⟩ := (k b x q).get; rw [e] at e'; cases e'; exact absurd s n
theorem Holds.fresh {cx : Cx} {h : Heap} {H : AHeap} (k : Holds cx h H) {b : Addr} (e : h.get? b = none) : H b = none := by
  cases q : H b with
  | none => rfl
  | some x => obtain ⟨ob, e', _⟩ := (k b x q).get; rw [e] at e'; cases e'

/-- values stay, S holding names' places alone -/
theorem Kp.solid {cx : Cx} {S : List Addr} {H H' : AHeap} {s s' : Shared} (k : Kp cx S H s H' s') (hh : Holds cx s.heap H)
    (hS : ∀ b ∈ S, ∀ o, s.heap.get? b = some o → (∃ es ep, o.data = .dict es ep) ∨ ∃ x, o.data = .cell x) : ∀ b o, s.heap.get? b = some o → Solid o → s'.heap.get? b = some o := fun b o e so => by
  obtain ⟨_, o', e', sm⟩ := k.keep b o e (fun q => by
    rcases hS b q o e with ⟨es, ep, d⟩ | ⟨x, d⟩
    · exact so.notLoc.1 _ _ d
    · exact so.notLoc.2 _ d) (hh.none_of_solid e so)
  rw [sm.eq so.notLoc.1] at e'; exact e'
theorem Kp.solid0 {cx : Cx} {H H' : AHeap} {s s' : Shared} (k : Kp cx [] H s H' s') (hh : Holds cx s.heap H) : ∀ b o, s.heap.get? b = some o → Solid o → s'.heap.get? b = some o :=
  k.solid hh fun _ q => nomatch q

theorem FrAt.step {cx : Cx} {H H' : AHeap} {S : List Addr} {s s' : Shared} (k : Kp cx S H s H' s') {env : Env} (f : FrAt cx H s.heap env) (n : ∀ L, env.frame = some L → L ∉ S) : FrAt cx H' s'.heap env := by
  obtain ⟨hk, L, o, es, ep, hf, hH, hb, ho, hd⟩ := f
  obtain ⟨hH', o', e', sm⟩ := k.keep L o ho (n L hf) hH
  exact ⟨hk, L, o', es, ep, hf, hH', hb, e', sm.data.trans hd⟩

/-- an expression's step leaves the frame's state -/
theorem St.step {cx : Cx} {F : Fm} {m : Loc} {H H' : AHeap} {s s' : Shared} (t : St cx F m H s.heap) (k : Kp cx [] H s H' s') (hh : Holds cx s'.heap H') : St cx F m H' s'.heap := by
  have so := k.solid0 t.heap
  refine ⟨fun b o e => k.base b o e (t.base b o e), fun b o e => ?_, hh, (fun env he => (t.frames env he).step k (fun L _ q => nomatch q)), ?_, ?_, fun n c hc => ?_⟩
  · exact (k.keep b o (t.base b o e) (fun q => nomatch q) (t.off b o e)).1
  · obtain ⟨o, es, ep, mc, ho, _⟩ := t.vars
    exact ⟨(k.keep _ o ho (fun q => nomatch q) t.own.1).1, t.own.2⟩
  · obtain ⟨o, es, ep, mc, ho, hd, ⟨o1, es1, ep1, ho1, hd1, hk1, hm1⟩, hv⟩ := t.vars
    obtain ⟨_, o', e', sm⟩ := k.keep _ o ho (fun q => nomatch q) t.own.1
    rw [ho] at ho1; cases ho1
    exact ⟨o', es, ep, mc, e', sm.data.trans hd, ⟨o', es1, ep1, e', sm.data.trans hd1, hk1, hm1⟩, fun i v h1 h2 h3 => let ⟨x, q, r⟩ := hv i v h1 h2 h3; ⟨x, q, r.mono so⟩⟩
  · obtain ⟨h1, h2, o, x, ho, hd, hv⟩ := t.cells n c hc
    obtain ⟨h3, o', e', sm⟩ := k.keep c o ho (fun q => nomatch q) h1
    exact ⟨h3, h2, o', x, e', sm.data.trans hd, fun i v a b c d => let ⟨y, q, r⟩ := hv i v a b c d; ⟨y, q, r.mono so⟩⟩

noncomputable def upd (H : AHeap) (a : Addr) (o : AObj) : AHeap := fun b => if b = a then some o else H b
theorem upd_self (H : AHeap) (a : Addr) (o : AObj) : upd H a o a = some o := by simp [upd]
theorem upd_ne {H : AHeap} {a b : Addr} {o : AObj} (n : b ≠ a) : upd H a o b = H b := by simp [upd, n]
theorem upd_ext {H : AHeap} {a : Addr} {o : AObj} (e : H a = none) : Ext H (upd H a o) := fun b x hb => by
  rw [upd_ne]; exact hb
  rintro rfl; rw [e] at hb; cases hb
theorem upd_extB (H : AHeap) (a : Addr) (o : AObj) : ExtB a H (upd H a o) := fun _ _ n hb => by rw [upd_ne n]; exact hb

theorem Holds.grow {cx : Cx} {h h' : Heap} {H : AHeap} (k : Holds cx h H) (g : ∀ b o, h.get? b = some o → h'.get? b = some o) : Holds cx h' H := fun a o e => by
  have r := k a o e
  have so : ∀ b o, h.get? b = some o → Solid o → h'.get? b = some o := fun b o e _ => g b o e
  cases o with
  | list xs => obtain ⟨items, n, e, r, l⟩ := r; exact ⟨items, n, g _ _ e, r.mono so, l⟩
  | tape k => obtain ⟨t, n, e⟩ := r; exact ⟨t, n, g _ _ e⟩
  | dict kvs => obtain ⟨vs, d, r, l⟩ := r; exact ⟨vs, d.keep g, r.mono so, l⟩
  | inst d => obtain ⟨C, o, x, e, y⟩ := r; exact ⟨C, o, x, g _ _ e, y⟩
  | attrs kvs => obtain ⟨m, n1, ed, f, n, l⟩ := r; exact ⟨m, n1.keeps g, ed.keeps g, fun x p e => let ⟨v, a, b⟩ := f x p e; ⟨v, a, b.mono so⟩, n, l⟩
/-- one object put anew -/
theorem Holds.put {cx : Cx} {h h' : Heap} {H : AHeap} {a : Addr} {o : AObj} (k : Holds cx h H) (g : ∀ b o, b ≠ a → h.get? b = some o → h'.get? b = some o)
    (ha : ∀ o, h.get? a = some o → ¬ Solid o) (r : RepO cx h' a o) : Holds cx h' (upd H a o) := fun b x e => by
  by_cases q : b = a
  · subst q; rw [upd_self] at e; cases e; exact r
  · rw [upd_ne q] at e
    have r := k b x e
    have so : ∀ b o, h.get? b = some o → Solid o → h'.get? b = some o := fun b o e s => g b o (by rintro rfl; exact ha o e s) e
    cases x with
    | list xs => obtain ⟨items, n, e, r, l⟩ := r; exact ⟨items, n, g _ _ q e, r.mono so, l⟩
    | tape k => obtain ⟨t, n, e⟩ := r; exact ⟨t, n, g _ _ q e⟩
    | dict kvs => obtain ⟨vs, d, r, l⟩ := r; exact ⟨vs, (let ⟨o, es, ep, ho, y⟩ := d; ⟨o, es, ep, g _ _ q ho, y⟩), r.mono so, l⟩
    | inst d => obtain ⟨C, o, x, e, y⟩ := r; exact ⟨C, o, x, g _ _ q e, y⟩
    | attrs kvs => obtain ⟨m, n1, ed, f, n, l⟩ := r; exact ⟨m, (let ⟨o, es, ep, e, y⟩ := n1; ⟨o, es, ep, g _ _ q e, y⟩), (let ⟨od, e, y⟩ := ed; ⟨od, g _ _ q e, y⟩), fun x p e => let ⟨v, a, b⟩ := f x p e; ⟨v, a, b.mono so⟩, n, l⟩

/-! what an evaluation gives -/
inductive ExcTb (fr : Option Addr) (h₀ h : Heap) (e : Addr) (vs : Array Value) : Prop
  | mk (T : Addr) (oT : Obj) (ts : Array Value) (b1 : vs[1]? = some (.ref T)) (b2 : h₀.get? T = none) (b3 : T ≠ e) (b4 : h.get? T = some oT) (b5 : oT.cls = .type "traceback") (b6 : oT.data = .fields ts) (b7 : ts[3]? = some .none ∨ ∃ L, fr = some L ∧ ts[3]? = some (rawInt L)) : ExcTb fr h₀ h e vs
inductive Exc (cx : Cx) (fr : Option Addr) (h₀ h : Heap) (e : Addr) (c : Nat) : Prop
  | mk (n : h₀.get? e = none) (oe : Obj) (vs : Array Value) (C : Addr) (a0 : Value) (g : h.get? e = some oe) (k : oe.cls = .ref C) (x : cx.cls c = some C ∧ oe.dict = none) (d : oe.data = .fields vs) (z : vs[0]? = some a0) (y : vs[1]? = some .none ∨ ExcTb fr h₀ h e vs) : Exc cx fr h₀ h e c
inductive OkG {α β : Type} (R : Heap → α → β → Prop) (cx : Cx) (F : Fm) (m : Loc) (H : AHeap) (s : Shared) (Q : β → AHeap → Prop) (a : α) (s' : Shared) : Prop
  | mk (b : β) (H' : AHeap) (r : R s'.heap a b) (t : St cx F m H' s'.heap) (k : Kp cx [] H s H' s') (q : Q b H') : OkG R cx F m H s Q a s'
inductive ErP (cx : Cx) (F : Fm) (m : Loc) (H : AHeap) (s : Shared) (X : XPost) (v : Value) (s' : Shared) : Prop
  | mk (e : Addr) (c : Nat) (H' : AHeap) (hv : v = .ref e) (x : Exc cx F.env.frame s.heap s'.heap e c) (t : St cx F m H' s'.heap) (k : Kp cx [] H s H' s') (q : X c H') : ErP cx F m H s X v s'
noncomputable def Ev {α β : Type} (R : Heap → α → β → Prop) (cx : Cx) (F : Fm) (t : Sem α) (m : Loc) (H : AHeap) (s : Shared) (Q : β → AHeap → Prop) (X : XPost) : Prop :=
  wpAny cx.M F.A t (OkG R cx F m H s Q) (ErP cx F m H s X) s

theorem Exc.older {cx : Cx} {fr : Option Addr} {h₀ h₁ h : Heap} {e : Addr} {c : Nat} (x : Exc cx fr h₁ h e c) (al : ∀ b o, h₀.get? b = some o → ∃ o', h₁.get? b = some o') : Exc cx fr h₀ h e c := by
  have f : ∀ b, h₁.get? b = none → h₀.get? b = none := fun b q => by
    cases e : h₀.get? b with
    | none => rfl
    | some o => obtain ⟨o', e'⟩ := al b o e; rw [q] at e'; cases e'
  obtain ⟨n, oe, vs, C, a0, a1, a2, a3, a4, a5, a6⟩ := x
  refine ⟨f _ n, oe, vs, C, a0, a1, a2, a3, a4, a5, a6.imp id ?_⟩
  rintro ⟨T, oT, ts, b1, b2, b3, b4, b5, b6, b7⟩
  exact ⟨T, oT, ts, b1, f _ b2, b3, b4, b5, b6, b7⟩
theorem OkG.older {α β : Type} {R : Heap → α → β → Prop} {cx : Cx} {F : Fm} {m : Loc} {H H₁ : AHeap} {s s₁ : Shared} {Q : β → AHeap → Prop} (k : Kp cx [] H s H₁ s₁) {a : α} {s' : Shared}
    (x : OkG R cx F m H₁ s₁ Q a s') : OkG R cx F m H s Q a s' := let ⟨b, H', r, t, k', q⟩ := x; ⟨b, H', r, t, k.trans k', q⟩
theorem ErP.older {cx : Cx} {F : Fm} {m : Loc} {H H₁ : AHeap} {s s₁ : Shared} {X : XPost} (k : Kp cx [] H s H₁ s₁) {v : Value} {s' : Shared}
    (x : ErP cx F m H₁ s₁ X v s') : ErP cx F m H s X v s' := let ⟨e, c, H', r, y, t, k', q⟩ := x; ⟨e, c, H', r, y.older k.alive, t, k.trans k', q⟩
theorem Ev.older {α β : Type} {R : Heap → α → β → Prop} {cx : Cx} {F : Fm} {m : Loc} {H H₁ : AHeap} {s s₁ : Shared} {Q : β → AHeap → Prop} {X : XPost} {t : Sem α} (k : Kp cx [] H s H₁ s₁)
    (x : Ev R cx F t m H₁ s₁ Q X) : wpAny cx.M F.A t (OkG R cx F m H s Q) (ErP cx F m H s X) s₁ := wpAny_mono x (fun _ _ y => y.older k) fun _ _ y => y.older k
theorem Ev.bind {α β γ δ : Type} {R : Heap → α → β → Prop} {R' : Heap → γ → δ → Prop} {cx : Cx} {F : Fm} {m : Loc} {H : AHeap} {s : Shared} {Q₁ : β → AHeap → Prop} {Q : δ → AHeap → Prop} {X : XPost} {t : Sem α} {f : α → Sem γ}
    (h : Ev R cx F t m H s Q₁ X) (k : ∀ a b s₁ H₁, R s₁.heap a b → St cx F m H₁ s₁.heap → Kp cx [] H s H₁ s₁ → Q₁ b H₁ → Ev R' cx F (f a) m H₁ s₁ Q X) : Ev R' cx F (t >>= f) m H s Q X :=
  wpAny_bind (wpAny_mono h (fun a s₁ ⟨b, H₁, r, st, kp, q⟩ => (k a b s₁ H₁ r st kp q).older kp) fun _ _ y => y)
theorem Ev.pure {α β : Type} {R : Heap → α → β → Prop} {cx : Cx} {F : Fm} {m : Loc} {H : AHeap} {s : Shared} {Q : β → AHeap → Prop} {X : XPost} {a : α} {b : β} (r : R s.heap a b) (t : St cx F m H s.heap) (q : Q b H) :
    Ev R cx F (pure a) m H s Q X := wpAny_pure ⟨b, H, r, t, .refl _ _ _ _, q⟩
theorem Ev.holding {α β : Type} {R : Heap → α → β → Prop} {cx : Cx} {F : Fm} {m : Loc} {H : AHeap} {s : Shared} {Q : β → AHeap → Prop} {X : XPost} {t : Sem α} {vs : List Value} (h : Ev R cx F t m H s Q X) : Ev R cx F (holding vs t) m H s Q X := wpAny_holding h
theorem Ev.stand {α β : Type} {R : Heap → α → β → Prop} {cx : Cx} {F : Fm} {m : Loc} {H : AHeap} {s : Shared} {Q : β → AHeap → Prop} {X : XPost} {p : Pos} {f : Unit → Sem α} (h : Ev R cx F (f ()) m H s Q X) : Ev R cx F (standAt p >>= f) m H s Q X :=
  wpAny_bind (wpAny_standAt h)
/-- the same state, tokens spent -/
theorem OkG.toks {α β : Type} {R : Heap → α → β → Prop} {cx : Cx} {F : Fm} {m : Loc} {H : AHeap} {s : Shared} {Q : β → AHeap → Prop} {a : α} {b : β} (tk : Nat) (r : R s.heap a b) (t : St cx F m H s.heap) (q : Q b H) :
    OkG R cx F m H s Q a { s with toks := tk } := ⟨b, H, r, t, .grow (fun _ _ e => e) (fun _ _ _ e => e), q⟩
/-- new objects, no abstract one -/
theorem OkG.grow {α β : Type} {R : Heap → α → β → Prop} {cx : Cx} {F : Fm} {m : Loc} {H : AHeap} {s : Shared} {Q : β → AHeap → Prop} {a : α} {b : β} {h' : Heap} {tk : Nat} (g : ∀ b o, s.heap.get? b = some o → h'.get? b = some o)
    (r : R h' a b) (t : St cx F m H s.heap) (q : Q b H) : OkG R cx F m H s Q a { s with heap := h', toks := tk } :=
  have k : Kp cx [] H s H { s with heap := h', toks := tk } := .grow g fun _ _ _ e => e
  ⟨b, H, r, t.step k (t.heap.grow g), k, q⟩
/-- a new abstract object at an address that was free -/
theorem OkG.alloc {α β : Type} {R : Heap → α → β → Prop} {cx : Cx} {F : Fm} {m : Loc} {H : AHeap} {s : Shared} {Q : β → AHeap → Prop} {v : α} {b : β} {h' : Heap} {tk : Nat} {a : Addr} {o : AObj} (g : ∀ b o, s.heap.get? b = some o → h'.get? b = some o)
    (fr : s.heap.get? a = none) (r : R h' v b) (ro : RepO cx h' a o) (t : St cx F m H s.heap) (q : Q b (upd H a o)) : OkG R cx F m H s Q v { s with heap := h', toks := tk } :=
  have k : Kp cx [] H s (upd H a o) { s with heap := h', toks := tk } := .grow g fun b ob e hn => by rw [upd_ne (by rintro rfl; rw [fr] at e; cases e)]; exact hn
  ⟨b, _, r, t.step k (t.heap.put (fun b o _ e => g b o e) (fun o e => by rw [fr] at e; cases e) ro), k, q⟩
theorem alloc_use {o : AObj} {Q : Post} {H : AHeap} {a : Addr} (h : alloc o Q H) (e : H a = none) : Q (.obj a) (upd H a o) := h a _ e (upd_self ..) (upd_ext e)
/-- an abstract object put anew -/
theorem OkG.put {α β : Type} {R : Heap → α → β → Prop} {cx : Cx} {F : Fm} {m : Loc} {H : AHeap} {s : Shared} {Q : β → AHeap → Prop} {v : α} {b : β} {h' : Heap} {tk : Nat} {a : Addr} {o o' : AObj} (ha : H a = some o)
    (g : ∀ b o, b ≠ a → s.heap.get? b = some o → h'.get? b = some o) (r : R h' v b) (ro : RepO cx h' a o') (t : St cx F m H s.heap) (q : Q b (upd H a o')) : OkG R cx F m H s Q v { s with heap := h', toks := tk } := by
  have na : ∀ x, s.heap.get? a = some x → ¬ Solid x := fun x e => by
    obtain ⟨ob, e', n, _⟩ := (t.heap a o ha).get; rw [e] at e'; cases e'; exact n
  have k : Kp cx [] H s (upd H a o') { s with heap := h', toks := tk } := by
    refine ⟨⟨h', tk, rfl⟩, fun b ob e _ hn => ?_, fun b ob e => ?_, fun b ob eb e => ?_⟩
    · have n : b ≠ a := by rintro rfl; rw [ha] at hn; cases hn
      exact ⟨by rw [upd_ne n]; exact hn, ob, g b ob n e, .refl _⟩
    · by_cases n : b = a
      · subst n; obtain ⟨ob', e', _⟩ := ro.get; exact ⟨ob', e'⟩
      · exact ⟨ob, g b ob n e⟩
    · exact g b ob (by rintro rfl; rw [t.off _ _ eb] at ha; cases ha) e
  exact ⟨b, _, r, t.step k (t.heap.put g na ro), k, q⟩
theorem mutate_use {o : AObj} {K : AHeap → Prop} {H : AHeap} {a : Addr} (h : mutate a o K H) : K (upd H a o) := h _ (upd_self ..) (upd_extB H a o)
end Mine
end
section
open PySem PySem.Calls PyProof.Rows
namespace Mine
set_option autoImplicit false

theorem RepL.append {cx : Cx} {h : Heap} : ∀ {vs ws : List Value} {ps qs : List PV}, RepL cx h vs ps → RepL cx h ws qs → RepL cx h (vs ++ ws) (ps ++ qs)
  | _, _, _, _, .nil, r => r
  | _, _, _, _, .cons a r, r' => .cons a (RepL.append r r')
theorem RepL.rep {cx : Cx} {h : Heap} {vs : List Value} {ps : List PV} (r : RepL cx h vs ps) : ∀ n : Nat, RepL cx h (List.replicate n vs).flatten (List.replicate n ps).flatten
  | 0 => .nil
  | n + 1 => by rw [List.replicate_succ, List.replicate_succ, List.flatten_cons, List.flatten_cons]; exact r.append (r.rep n)
theorem RepL.get {cx : Cx} {h : Heap} : ∀ {vs : List Value} {ps : List PV}, RepL cx h vs ps → ∀ {i : Nat} {p : PV}, ps[i]? = some p → ∃ v, vs[i]? = some v ∧ Rep cx h v p
  | _, _, .cons a _, 0, _, e => by simp at e; subst e; exact ⟨_, rfl, a⟩
  | _, _, .cons _ r, i + 1, _, e => by simp at e; simpa using r.get e
theorem RepL.drop {cx : Cx} {h : Heap} : ∀ {vs : List Value} {ps : List PV}, RepL cx h vs ps → ∀ n : Nat, RepL cx h (vs.drop n) (ps.drop n)
  | _, _, r, 0 => r
  | _, _, .nil, _ + 1 => .nil
  | _, _, .cons _ r, n + 1 => r.drop n
theorem RepL.take {cx : Cx} {h : Heap} : ∀ {vs : List Value} {ps : List PV}, RepL cx h vs ps → ∀ n : Nat, RepL cx h (vs.take n) (ps.take n)
  | _, _, _, 0 => .nil
  | _, _, .nil, _ + 1 => .nil
  | _, _, .cons a r, n + 1 => .cons a (r.take n)
theorem RepL.reverse {cx : Cx} {h : Heap} : ∀ {vs : List Value} {ps : List PV}, RepL cx h vs ps → RepL cx h vs.reverse ps.reverse
  | _, _, .nil => .nil
  | _, _, .cons a r => by rw [List.reverse_cons, List.reverse_cons]; exact r.reverse.append (.cons a .nil)
theorem RepL.set {cx : Cx} {h : Heap} : ∀ {vs : List Value} {ps : List PV}, RepL cx h vs ps → ∀ (n : Nat) {v : Value} {p : PV}, Rep cx h v p → RepL cx h (vs.set n v) (ps.set n p)
  | _, _, .nil, _, _, _, _ => .nil
  | _, _, .cons _ r, 0, _, _, a => .cons a r
  | _, _, .cons b r, n + 1, _, _, a => .cons b (r.set n a)

theorem Rep.tupI {cx : Cx} {h : Heap} {v : Value} {xs : List PV} (r : Rep cx h v (.tup xs)) : ∃ a items n, v = .ref a ∧ h.get? a = some (tupObj items n) ∧ xs.length ≤ LIM ∧ RepL cx h items.toList xs := by
  cases r with | tup e l r => exact ⟨_, _, _, rfl, e, l, r⟩
theorem RepL.one {cx : Cx} {h : Heap} {vs : List Value} {p : PV} (r : RepL cx h vs [p]) : ∃ v, vs = [v] ∧ Rep cx h v p := by
  obtain _ | ⟨rv, _ | _⟩ := r
  exact ⟨_, rfl, rv⟩
theorem RepL.two {cx : Cx} {h : Heap} {vs : List Value} {p q : PV} (r : RepL cx h vs [p, q]) : ∃ v w, vs = [v, w] ∧ Rep cx h v p ∧ Rep cx h w q := by
  obtain _ | ⟨rv, _ | ⟨rw', _ | _⟩⟩ := r
  exact ⟨_, _, rfl, rv, rw'⟩
theorem RepL.zero {cx : Cx} {h : Heap} {vs : List Value} (r : RepL cx h vs []) : vs = [] := by cases r; rfl
theorem Rep.objI {cx : Cx} {h : Heap} {v : Value} {a : Addr} (r : Rep cx h v (.obj a)) : v = .ref a := by cases r; rfl
theorem Rep.intI {cx : Cx} {h : Heap} {v : Value} {i : Int} (r : Rep cx h v (.int i)) : ∃ t, v = .int i t := by cases r; exact ⟨_, rfl⟩
theorem Rep.strI {cx : Cx} {h : Heap} {v : Value} {i : Str} (r : Rep cx h v (.str i)) : ∃ t, v = .str i t := by cases r; exact ⟨_, rfl⟩
theorem Rep.boolI {cx : Cx} {h : Heap} {v : Value} {b : Bool} (r : Rep cx h v (.bool b)) : v = .bool b := by cases r; rfl
theorem Rep.noneI {cx : Cx} {h : Heap} {v : Value} (r : Rep cx h v .none) : v = .none := by cases r; rfl
theorem Rep.flsI {cx : Cx} {h : Heap} {v : Value} {ns : List Int} (r : Rep cx h v (.fls ns)) : ∃ a items, v = .ref a ∧ cx.B.IsList a items ∧ IntsAre items.toList ns ∧ ns.length ≤ LIM := by
  cases r with | fls e i l => exact ⟨_, _, rfl, e, i, l⟩
theorem Rep.fdtI {cx : Cx} {h : Heap} {v : Value} {kvs : List (Str × PV)} (r : Rep cx h v (.fdt kvs)) : ∃ a vs, v = .ref a ∧ cx.B.DictOf cx.sk a vs ∧ RepK cx h vs kvs := by
  cases r with | fdt e r => exact ⟨_, _, rfl, e, r⟩
theorem Rep.rngI {cx : Cx} {h : Heap} {v : Value} {n : Int} (r : Rep cx h v (.rng n)) : ∃ a t u x, v = .ref a ∧ h.get? a = some (rngObj n t u x) ∧ n.natAbs ≤ LIM := by
  cases r with | rng e l => exact ⟨_, _, _, _, rfl, e, l⟩

section
variable {cx : Cx} {F : Fm} {m : Loc} {H : AHeap} {s : Shared} {Q : Post} {X : XPost}

theorem St.list {a : Addr} {xs : List PV} (t : St cx F m H s.heap) (e : H a = some (.list xs)) : ∃ items n, s.heap.get? a = some (lstObj items n) ∧ RepL cx s.heap items.toList xs ∧ xs.length ≤ LIM := t.heap a _ e
theorem isList_of {h : Heap} {a : Addr} {items : Array Value} {n : Nat} (e : h.get? a = some (lstObj items n)) : h.IsList a items := ⟨_, e, rfl, n, rfl⟩
theorem isList_up {h h' : Heap} {a : Addr} {items : Array Value} (x : h.IsList a items) (k : h.StaysIn h') : h'.IsList a items := let ⟨o, e, r⟩ := x; ⟨o, k _ _ e, r⟩
theorem isTup_of {h : Heap} {a : Addr} {items : Array Value} {n : Nat} (e : h.get? a = some (tupObj items n)) : IsTup h a items := ⟨_, e, rfl, n, rfl⟩
theorem get_size_none (h : Heap) : h.get? h.objs.size = none := by
  cases e : h.get? h.objs.size with
  | none => rfl
  | some o => exact absurd (Heap.lt_size e) (Nat.lt_irrefl _)
theorem get_ge_none {h : Heap} {a : Addr} (l : h.objs.size ≤ a) : h.get? a = none := by
  cases e : h.get? a with
  | none => rfl
  | some o => exact absurd (Heap.lt_size e) (Nat.not_lt.mpr l)

theorem arr_len {cx : Cx} {h : Heap} {items : Array Value} {xs : List PV} (r : RepL cx h items.toList xs) : items.size = xs.length := by rw [← r.length]; simp

/-- a new list -/
theorem new_list {vs : Array Value} {xs : List PV} {c tk : Nat} {h' : Heap} {a : Addr} (t : St cx F m H s.heap) (g : ∀ b o, s.heap.get? b = some o → h'.get? b = some o) (fr : s.heap.get? a = none)
    (e : h'.get? a = some (lstObj vs c)) (r : RepL cx s.heap vs.toList xs) (l : xs.length ≤ LIM) (q : alloc (.list xs) Q H) : OkG (Rep cx) cx F m H s Q (.ref a) { s with heap := h', toks := tk } :=
  .alloc (o := .list xs) g fr (.obj a) ⟨vs, c, e, r.mono (fun b o e _ => g b o e), l⟩ t (alloc_use q (t.heap.fresh fr))
/-- a new tuple -/
theorem new_tup {vs : Array Value} {xs : List PV} {c tk : Nat} {h' : Heap} {a : Addr} (t : St cx F m H s.heap) (g : ∀ b o, s.heap.get? b = some o → h'.get? b = some o)
    (e : h'.get? a = some (tupObj vs c)) (r : RepL cx s.heap vs.toList xs) (l : xs.length ≤ LIM) (q : Q (.tup xs) H) : OkG (Rep cx) cx F m H s Q (.ref a) { s with heap := h', toks := tk } :=
  .grow g (.tup e l (r.mono (fun b o e _ => g b o e))) t q
theorem push_keeps {h : Heap} {o : Obj} : ∀ b x, h.get? b = some x → (h.push o).get? b = some x := fun _ _ e => Heap.get?_push_of_some o e

theorem LIM_le : LIM ≤ sizeLine := by decide
theorem bits_le {a : Int} (h : a.natAbs < 2 ^ 60) : Builtin.Int.intBits a ≤ 64 := by
  unfold Builtin.Int.intBits
  split
  · first | lia | omega
  · rename_i q
    have : a.natAbs.log2 < 60 := (Nat.log2_lt (by simpa using q)).mpr h
    first | lia | omega
theorem mulOk {a b : Int} (h : a.natAbs < 2 ^ 60 ∨ b.natAbs < 2 ^ 60) : IntMulOk a b := h.elim (fun h => .of_left (bits_le h)) fun h => .of_right (bits_le h)

theorem add_tup0 {t b : Addr} {items items2 : Array Value} {n n2 : Nat} {A : Around} {E : Value → Shared → Prop} {s : Shared} {Q : Value → Shared → Prop} {prog : Program} {w : World} (ht : s.heap.get? t = some (tupObj items n)) (hb : s.heap.get? b = some (tupObj items2 n2)) (hsz : items.size + items2.size ≤ sizeLine)
    (h0 : items.isEmpty = true → Q (.ref b) s) (h1 : ¬ items.isEmpty = true → items2.isEmpty = true → Q (.ref t) s)
    (h2 : Q (.ref s.heap.objs.size) { s with heap := s.heap.push (tupObj (items ++ items2) 0) }) :
    wpAny (model prog w) A (binaryOp .Add (.ref t) (.ref b)) Q E s := by
  by_cases a : items.isEmpty = true
  · exact concat_meets ⟨_, ht, rfl⟩ ⟨_, hb, rfl⟩ noFill_tuple_add seq_tuple_add F.slot_tuple_add F.entry_tuple_add (F.args_tuple_add_2 _ _) (AutoSeq1.tuple___add___tuple_tuple_0 t items n b items2 n2 a) ⟨ht, hb, h0 a⟩
  · by_cases c : items2.isEmpty = true
    · exact concat_meets ⟨_, ht, rfl⟩ ⟨_, hb, rfl⟩ noFill_tuple_add seq_tuple_add F.slot_tuple_add F.entry_tuple_add (F.args_tuple_add_2 _ _) (AutoSeq1.tuple___add___tuple_tuple_1 t items n b items2 n2 a c) ⟨ht, hb, h1 a c⟩
    · exact P.add_tuple ht hb a c h2 hsz

theorem mul_lst0 {l : Addr} {items : Array Value} {k : Nat} {x : Int} {u : Tok} {A : Around} {E : Value → Shared → Prop} {s : Shared} {Q : Value → Shared → Prop} {prog : Program} {w : World}
    (hl : s.heap.get? l = some (lstObj items k)) (hlo : -(2 ^ 63 : Int) ≤ x) (hhi : x < 2 ^ 63) (hsz : items.size * x.toNat ≤ 2 ^ 24)
    (h : Q (.ref s.heap.objs.size) { s with heap := s.heap.push (lstObj (List.foldl (fun x1 x2 => x1 ++ x2) #[] (List.replicate (if items.isEmpty = true then 0 else x.toNat) items)) 0) }) :
    wpAny (model prog w) A (binaryOp .Mult (.ref l) (.int x u)) Q E s :=
  wpAny_binaryOp_repeat_ref (T := "list") (U := "int") (by decide) ⟨_, hl, rfl⟩ (fun s' => typeIs_int s' x u) noFill_list_mul PySem.F.fills_int_mul PySem.F.slot_int_rmul repeat_list PySem.F.slot_int_index.lookup
    (call_meets PySem.F.slot_int_rmul (typeIs_int s x u) PySem.F.entry_int_rmul (PySem.F.args_int_rmul_2 _ _) (int___rmul___int_list x u l items k)
      ⟨hl, rfl, ⟨_, hl, rfl⟩, call_meets PySem.F.slot_list_mul ⟨_, hl, rfl⟩ PySem.F.entry_list_mul (PySem.F.args_list_mul_2 _ _)
        (AutoListH.list___mul___list_int_3 l items k x u (by simp [Builtin.List.listFitsIndex]; first | lia | omega) (by first | lia | omega) (by simp [Builtin.List.listTooLong, sizeLine]; first | lia | omega))
        ⟨hl, h⟩⟩)

theorem foldl_arrays (items : Array Value) : ∀ (n : Nat) (acc : Array Value), (List.foldl (fun x1 x2 => x1 ++ x2) acc (List.replicate n items)).toList = acc.toList ++ (List.replicate n items.toList).flatten
  | 0, acc => by simp
  | n + 1, acc => by
    rw [List.replicate_succ, List.foldl_cons, foldl_arrays items n, List.replicate_succ, List.flatten_cons]
    simp

theorem binW_to {op : Operator} {pv pw : PV} (h : binW op pv pw Q H) : BinW Q H op pv pw := h.to fun u e q => by
  unfold binF at e
  split at e
  · split at e
    · split at e
      · rename_i a b i hi
        cases e
        unfold intF at hi
        split at hi
        · cases hi; exact .addI _ _ q
        · cases hi; exact .subI _ _ q
        · split at hi
          · cases hi; exact .modI _ _ (by assumption) q
          · cases hi
        · split at hi
          · split at hi
            · cases hi; exact .divI _ _ (by assumption) (by assumption) q
            · cases hi
          · cases hi
        · cases hi
      · cases e
    · cases e
  · cases e
theorem bin_ok {op : Operator} {v w : Value} {pv pw : PV} (rv : Rep cx s.heap v pv) (rw' : Rep cx s.heap w pw) (t : St cx F m H s.heap) (h : binW op pv pw Q H) :
    Ev (Rep cx) cx F (binaryOp op v w) m H s Q X := by
  replace h := binW_to h
  cases h with
  | addI a b h =>
    (first | (obtain ⟨_, rfl⟩ := Rep.intI rv) | (obtain ⟨_, rfl⟩ := Rep.strI rv) | (obtain rfl := Rep.objI rv) | (obtain rfl := Rep.boolI rv) | (obtain rfl := Rep.noneI rv)); (first | (obtain ⟨_, rfl⟩ := Rep.intI rw') | (obtain ⟨_, rfl⟩ := Rep.strI rw') | (obtain rfl := Rep.objI rw') | (obtain rfl := Rep.boolI rw') | (obtain rfl := Rep.noneI rw')); exact add_int (.toks _ (.int _ _) t h)
  | subI a b h =>
    (first | (obtain ⟨_, rfl⟩ := Rep.intI rv) | (obtain ⟨_, rfl⟩ := Rep.strI rv) | (obtain rfl := Rep.objI rv) | (obtain rfl := Rep.boolI rv) | (obtain rfl := Rep.noneI rv)); (first | (obtain ⟨_, rfl⟩ := Rep.intI rw') | (obtain ⟨_, rfl⟩ := Rep.strI rw') | (obtain rfl := Rep.objI rw') | (obtain rfl := Rep.boolI rw') | (obtain rfl := Rep.noneI rw')); exact sub_int (.toks _ (.int _ _) t h)
  | mulI a b hk h =>
    (first | (obtain ⟨_, rfl⟩ := Rep.intI rv) | (obtain ⟨_, rfl⟩ := Rep.strI rv) | (obtain rfl := Rep.objI rv) | (obtain rfl := Rep.boolI rv) | (obtain rfl := Rep.noneI rv)); (first | (obtain ⟨_, rfl⟩ := Rep.intI rw') | (obtain ⟨_, rfl⟩ := Rep.strI rw') | (obtain rfl := Rep.objI rw') | (obtain rfl := Rep.boolI rw') | (obtain rfl := Rep.noneI rw')); exact mul_int (.toks _ (.int _ _) t h) (mulOk hk)
  | modI a b hk h =>
    (first | (obtain ⟨_, rfl⟩ := Rep.intI rv) | (obtain ⟨_, rfl⟩ := Rep.strI rv) | (obtain rfl := Rep.objI rv) | (obtain rfl := Rep.boolI rv) | (obtain rfl := Rep.noneI rv)); (first | (obtain ⟨_, rfl⟩ := Rep.intI rw') | (obtain ⟨_, rfl⟩ := Rep.strI rw') | (obtain rfl := Rep.objI rw') | (obtain rfl := Rep.boolI rw') | (obtain rfl := Rep.noneI rw'))
    refine mod_int' (by first | lia | omega) (.toks _ (.int _ _) t ?_)
    rw [Int.fmod_eq_emod_of_nonneg _ (by first | lia | omega)]; exact h
  | divI a b hk hk2 h =>
    (first | (obtain ⟨_, rfl⟩ := Rep.intI rv) | (obtain ⟨_, rfl⟩ := Rep.strI rv) | (obtain rfl := Rep.objI rv) | (obtain rfl := Rep.boolI rv) | (obtain rfl := Rep.noneI rv)); (first | (obtain ⟨_, rfl⟩ := Rep.intI rw') | (obtain ⟨_, rfl⟩ := Rep.strI rw') | (obtain rfl := Rep.objI rw') | (obtain rfl := Rep.boolI rw') | (obtain rfl := Rep.noneI rw'))
    refine floordiv_int (by first | lia | omega) (.toks _ (.int _ _) t ?_) (.inl (PyProof.noPylong_small (by first | lia | omega)))
    rw [Int.fdiv_eq_ediv_of_nonneg _ (by first | lia | omega)]; exact h
  | powI h =>
    (first | (obtain ⟨_, rfl⟩ := Rep.intI rv) | (obtain ⟨_, rfl⟩ := Rep.strI rv) | (obtain rfl := Rep.objI rv) | (obtain rfl := Rep.boolI rv) | (obtain rfl := Rep.noneI rv)); (first | (obtain ⟨_, rfl⟩ := Rep.intI rw') | (obtain ⟨_, rfl⟩ := Rep.strI rw') | (obtain rfl := Rep.objI rw') | (obtain rfl := Rep.boolI rw') | (obtain rfl := Rep.noneI rw'))
    exact pow_int (by decide) (by decide) (.toks _ (.int _ _) t h)
  | addS a b hk h =>
    (first | (obtain ⟨_, rfl⟩ := Rep.intI rv) | (obtain ⟨_, rfl⟩ := Rep.strI rv) | (obtain rfl := Rep.objI rv) | (obtain rfl := Rep.boolI rv) | (obtain rfl := Rep.noneI rv)); (first | (obtain ⟨_, rfl⟩ := Rep.intI rw') | (obtain ⟨_, rfl⟩ := Rep.strI rw') | (obtain rfl := Rep.objI rw') | (obtain rfl := Rep.boolI rw') | (obtain rfl := Rep.noneI rw')); exact add_str (fun t' tk => .toks tk (.str _ _) t h) (Nat.le_trans hk LIM_le)
  | addT xs ys hk h =>
    obtain ⟨a, i1, n1, rfl, e1, l1, r1⟩ := rv.tupI
    obtain ⟨b, i2, n2, rfl, e2, l2, r2⟩ := rw'.tupI
    have k1 := arr_len r1
    have k2 := arr_len r2
    have hl := LIM_le
    refine add_tup0 e1 e2 (by first | lia | omega) (fun c => ?_) (fun _ c => ?_) ?_
    · have z : xs = [] := by
        have : i1.size = 0 := by simpa using c
        rw [k1] at this; exact List.length_eq_zero_iff.mp this
      subst z
      exact .toks s.toks (.tup e2 l2 r2) t h
    · have z : ys = [] := by
        have : i2.size = 0 := by simpa using c
        rw [k2] at this; exact List.length_eq_zero_iff.mp this
      subst z
      refine .toks s.toks (.tup e1 l1 r1) t ?_
      simpa using h
    · refine new_tup (tk := s.toks) (c := 0) t push_keeps (Heap.get?_push_size _ rfl) ?_ ?_ h
      · rw [Array.toList_append]; exact r1.append r2
      · simpa using hk
  | addL a b xs ys ha hb hk h =>
    obtain rfl := Rep.objI rv
    obtain rfl := Rep.objI rw'
    obtain ⟨i1, n1, e1, r1, l1⟩ := t.list ha
    obtain ⟨i2, n2, e2, r2, l2⟩ := t.list hb
    have k1 := arr_len r1
    have k2 := arr_len r2
    have hl := LIM_le
    refine P.add_list e1 e2 ?_ (by first | lia | omega)
    refine new_list (tk := s.toks) (c := 0) t push_keeps (get_size_none _) (Heap.get?_push_size _ rfl) ?_ ?_ h
    · rw [Array.toList_append]; exact r1.append r2
    · simpa using hk
  | mulL a x xs ha u1 u2 u3 h =>
    obtain rfl := Rep.objI rv
    obtain ⟨_, rfl⟩ := Rep.intI rw'
    obtain ⟨items, n1, e1, r1, l1⟩ := t.list ha
    have k1 := arr_len r1
    have hl : LIM = 1048576 := rfl
    refine mul_lst0 e1 (by first | lia | omega) (by first | lia | omega) (by rw [k1]; first | lia | omega) ?_
    refine new_list (tk := s.toks) (c := 0) t push_keeps (get_size_none _) (Heap.get?_push_size _ rfl) ?_ ?_ h
    · rw [foldl_arrays]
      cases z : items.isEmpty with
      | false => simpa [repL] using r1.rep x.toNat
      | true =>
        have z' : xs = [] := by
          have : items.size = 0 := by simpa using z
          rw [k1] at this; exact List.length_eq_zero_iff.mp this
        subst z'
        have : repL x [] = [] := by simp [repL]
        rw [this]; exact .nil
    · rw [repL, List.length_flatten]; simp; rw [Nat.mul_comm]; exact u3
end
end Mine
end
section
open PySem PySem.Calls PyProof.Rows
namespace Mine
set_option autoImplicit false
open SeqAt (EqAt RcAt RcNeAt)

section
variable {cx : Cx} {s : Shared} {H : AHeap}
theorem EqA.same {h : Heap} {p q : PV} {b : Bool} (e : EqA p q b) {v : Value} (r : Rep cx h v p) (r' : Rep cx h v q) : b = true := by
  cases e with
  | bool a b => obtain rfl := Rep.boolI r; cases Rep.boolI r'; simp
  | int a b => obtain ⟨_, rfl⟩ := Rep.intI r; obtain ⟨_, q⟩ := Rep.intI r'; cases q; simp
  | str a b => obtain ⟨_, rfl⟩ := Rep.strI r; obtain ⟨_, q⟩ := Rep.strI r'; cases q; simp
  | intstr a b => obtain ⟨_, rfl⟩ := Rep.intI r; obtain ⟨_, q⟩ := Rep.strI r'; cases q
  | strint a b => obtain ⟨_, rfl⟩ := Rep.strI r; obtain ⟨_, q⟩ := Rep.intI r'; cases q
theorem EqL.all {n : Nat} : ∀ {ps qs : List PV} {b : Bool}, EqL H n ps qs b → ∃ f : Nat → Bool, (∀ j x y, ps[j]? = some x → qs[j]? = some y → EqV H n x y (f j)) ∧ b = ((List.range (min ps.length qs.length)).all f && ps.length == qs.length)
  | _, _, _, .nil => ⟨fun _ => true, fun j x y e => (by simp at e), rfl⟩
  | _, _, _, .l x xs => ⟨fun _ => true, fun j x y _ e => (by simp at e), by simp⟩
  | _, _, _, .r x xs => ⟨fun _ => true, fun j x y e => (by simp at e), by simp⟩
  | _, _, _, .c (a := a) e es => by
    obtain ⟨f, h1, h2⟩ := es.all
    refine ⟨fun j => match j with | 0 => a | j + 1 => f j, fun j x y ex ey => ?_, ?_⟩
    · cases j with
      | zero => simp at ex ey; subst ex ey; exact e
      | succ j => simp at ex ey; exact h1 j x y ex ey
    · rw [h2]
      simp only [List.length_cons, Nat.add_min_add_right, List.range_succ_eq_map, List.all_cons, List.all_map, Bool.and_assoc]
      simp [Function.comp_def]

/-- one and the same value -/
theorem EqV.same (t : Holds cx s.heap H) (n : Nat) : ∀ {p q : PV} {b : Bool}, EqV H n p q b → ∀ {v : Value}, Rep cx s.heap v p → Rep cx s.heap v q → b = true := by
  induction n with
  | zero =>
    intro p q b e v r r'
    cases e with
    | atom e => exact e.same r r'
  | succ n ih =>
    intro p q b e v r r'
    have key : ∀ {ps qs : List PV} {b : Bool} {vs : List Value}, EqL H n ps qs b → RepL cx s.heap vs ps → RepL cx s.heap vs qs → b = true := fun {ps qs b vs} el r1 r2 => by
      obtain ⟨f, hf, hb⟩ := el.all
      have hl : ps.length = qs.length := r1.length.symm.trans r2.length
      rw [hb, ← hl, Nat.min_self, beq_self_eq_true, Bool.and_true, List.all_eq_true]
      intro j hj
      have hj1 : j < ps.length := List.mem_range.mp hj
      have e1 : ps[j]? = some ps[j] := List.getElem?_eq_getElem hj1
      have e2 : qs[j]? = some (qs[j]'(hl ▸ hj1)) := List.getElem?_eq_getElem _
      obtain ⟨v1, ev1, rv1⟩ := r1.get e1
      obtain ⟨v2, ev2, rv2⟩ := r2.get e2
      rw [ev1] at ev2
      cases ev2
      exact ih (hf j _ _ e1 e2) rv1 rv2
    cases e with
    | atom e => exact e.same r r'
    | tup el =>
      obtain ⟨a, i, n, rfl, e1, _, r1⟩ := r.tupI
      obtain ⟨a', i', n', q, e2, _, r2⟩ := r'.tupI
      cases q
      rw [e1] at e2
      have : i = i' := by simp [tupObj] at e2; exact e2.1
      subst this
      exact key el r1 r2
    | list ha hb el =>
      obtain rfl := r.objI
      cases r'.objI
      rw [ha] at hb; cases hb
      obtain ⟨i, n, _, r1, _⟩ := t _ _ ha
      exact key el r1 r1

theorem isTuple_of {h : Heap} {a : Addr} {items : Array Value} {n : Nat} (e : h.get? a = some (tupObj items n)) : h.IsTuple a items := ⟨_, e, rfl, n, rfl⟩

theorem RepL.at {h : Heap} {items : Array Value} {xs : List PV} (r : RepL cx h items.toList xs) {j : Nat} (hj : j < items.size) : ∃ p, xs[j]? = some p ∧ Rep cx h items[j] p := by
  have hl := arr_len r
  have e : xs[j]? = some (xs[j]'(by first | lia | omega)) := by simp
  obtain ⟨v, ev, rv⟩ := r.get e
  refine ⟨_, e, ?_⟩
  have : items[j] = v := by
    rw [Array.getElem?_toList] at ev
    rw [Array.getElem?_eq_getElem hj] at ev
    exact Option.some.inj ev
  rw [this]; exact rv

theorem atom_at {p q : PV} {b : Bool} (e : EqA p q b) {v w : Value} (rv : Rep cx s.heap v p) (rw' : Rep cx s.heap w q) (A : Around) : EqAt A s v w b ∧ RcAt A s v w b ∧ RcNeAt A s v w (!b) := by
  cases e with
  | bool a b => obtain rfl := Rep.boolI rv; obtain rfl := Rep.boolI rw'; exact ⟨.bool_bool _ _, .bool_bool _ _, .bool_bool _ _⟩
  | int a b => obtain ⟨_, rfl⟩ := Rep.intI rv; obtain ⟨_, rfl⟩ := Rep.intI rw'; exact ⟨.int_int _ _ _ _, .int_int _ _ _ _, .int_int _ _ _ _⟩
  | str a b => obtain ⟨_, rfl⟩ := Rep.strI rv; obtain ⟨_, rfl⟩ := Rep.strI rw'; exact ⟨.str_str _ _ _ _, .str_str _ _ _ _, .str_str _ _ _ _⟩
  | intstr a b => obtain ⟨_, rfl⟩ := Rep.intI rv; obtain ⟨_, rfl⟩ := Rep.strI rw'; exact ⟨.int_str _ _ _ _, .int_str _ _ _ _, .int_str _ _ _ _⟩
  | strint a b => obtain ⟨_, rfl⟩ := Rep.strI rv; obtain ⟨_, rfl⟩ := Rep.intI rw'; exact ⟨.str_int _ _ _ _, .str_int _ _ _ _, .str_int _ _ _ _⟩
/-- == told by item, of two made rows -/
theorem eqv_at (t : Holds cx s.heap H) : ∀ (n : Nat) {p q : PV} {b : Bool}, EqV H n p q b → ∀ {v w : Value}, Rep cx s.heap v p → Rep cx s.heap w q → ∀ (A : Around), A.units + n < cLine →
    EqAt A s v w b ∧ RcAt A s v w b ∧ RcNeAt A s v w (!b) := by
  intro n
  induction n with
  | zero =>
    intro p q b e v w rv rw' A hu
    cases e with
    | atom e => exact atom_at e rv rw' A
  | succ n ih =>
    intro p q b e v w rv rw' A hu
    have e0 := e
    cases e with
    | atom e => exact atom_at e rv rw' A
    | tup el =>
      obtain ⟨a1, i1, n1, rfl, e1, _, r1⟩ := rv.tupI
      obtain ⟨a2, i2, n2, rfl, e2, _, r2⟩ := rw'.tupI
      obtain ⟨f, hf, hb⟩ := el.all
      have hi : ∀ j (h1 : j < i1.size) (h2 : j < i2.size), EqAt A.in1 s i1[j] i2[j] (f j) := fun j h1 h2 => by
        obtain ⟨p1, q1, s1⟩ := r1.at h1
        obtain ⟨p2, q2, s2⟩ := r2.at h2
        exact (ih (hf j p1 p2 q1 q2) s1 s2 A.in1 (by show A.units + 1 + n < cLine; first | lia | omega)).1
      rw [← arr_len r1, ← arr_len r2] at hb
      have rc : RcAt A s (.ref a1) (.ref a2) b := by rw [hb]; exact RcAt.tuples (isTuple_of e1) (isTuple_of e2) (by first | lia | omega) hi
      have rn : RcNeAt A s (.ref a1) (.ref a2) (!b) := by rw [hb]; exact RcNeAt.tuples (isTuple_of e1) (isTuple_of e2) (by first | lia | omega) hi
      refine ⟨?_, rc, rn⟩
      by_cases q : a1 = a2
      · subst q; rw [EqV.same t _ e0 rv rw']; exact .same _
      · exact .of_refs q rc
    | list ha hb' el =>
      rename_i a1 a2 _ _
      obtain rfl := rv.objI
      obtain rfl := rw'.objI
      obtain ⟨i1, n1, e1, r1, _⟩ := t _ _ ha
      obtain ⟨i2, n2, e2, r2, _⟩ := t _ _ hb'
      obtain ⟨f, hf, hb⟩ := el.all
      have hi : ∀ j (h1 : j < i1.size) (h2 : j < i2.size), EqAt A.in1 s i1[j] i2[j] (f j) := fun j h1 h2 => by
        obtain ⟨p1, q1, s1⟩ := r1.at h1
        obtain ⟨p2, q2, s2⟩ := r2.at h2
        exact (ih (hf j p1 p2 q1 q2) s1 s2 A.in1 (by show A.units + 1 + n < cLine; first | lia | omega)).1
      rw [← arr_len r1, ← arr_len r2] at hb
      have both : RcAt A s (.ref a1) (.ref a2) b ∧ RcNeAt A s (.ref a1) (.ref a2) (!b) := by
        by_cases hs : i1.size = i2.size
        · rw [hb, ← hs, Nat.min_self, beq_self_eq_true, Bool.and_true]
          exact ⟨RcAt.lists (isList_of e1) (isList_of e2) hs (by first | lia | omega) hi, RcNeAt.lists (isList_of e1) (isList_of e2) hs (by first | lia | omega) hi⟩
        · have hz : (i1.size == i2.size) = false := by simpa using hs
          rw [hb, hz, Bool.and_false]
          exact ⟨RcAt.lists_lengths (isList_of e1) (isList_of e2) (by simpa using hs) (by first | lia | omega), RcNeAt.lists_lengths (isList_of e1) (isList_of e2) (by simpa using hs) (by first | lia | omega)⟩
      refine ⟨?_, both.1, both.2⟩
      by_cases q : a1 = a2
      · subst q; rw [EqV.same t _ e0 (.obj _) (.obj _)]; exact .same _
      · exact .of_refs q both.1
end
end Mine
end
section
open PySem PySem.Calls PyProof.Rows
namespace Mine
set_option autoImplicit false
open SeqAt (EqAt RcAt RcNeAt)

section
variable {cx : Cx}
theorem RepK.get {h : Heap} : ∀ {vs : List (Str × Value)} {ps : List (Str × PV)}, RepK cx h vs ps → ∀ {k : Str} {p : PV}, dget ps k = some p → ∃ v, valueAt vs k = some v ∧ Rep cx h v p
  | _, _, .nil, k, p, e => by simp [dget] at e
  | _, _, .cons (k := k') (ps := qs) a r, k, p, e => by
    by_cases q : k' = k
    · subst q; simp [dget] at e; subst e; exact ⟨_, by simp [valueAt], a⟩
    · have e' : dget qs k = some p := by simpa [dget, q] using e
      obtain ⟨v, e1, r1⟩ := r.get e'
      exact ⟨v, by simpa [valueAt, q] using e1, r1⟩
theorem RepK.miss {h : Heap} : ∀ {vs : List (Str × Value)} {ps : List (Str × PV)}, RepK cx h vs ps → ∀ {k : Str}, dget ps k = none → valueAt vs k = none
  | _, _, .nil, k, e => by simp [valueAt]
  | _, _, .cons (k := k') (ps := qs) a r, k, e => by
    by_cases q : k' = k
    · subst q; simp [dget] at e
    · have e' : dget qs k = none := by simpa [dget, q] using e
      have := r.miss e'
      simpa [valueAt, q] using this
theorem RepK.isSome {h : Heap} {vs : List (Str × Value)} {ps : List (Str × PV)} (r : RepK cx h vs ps) (k : Str) : (valueAt vs k).isSome = hasKey ps k := by
  unfold hasKey
  cases e : dget ps k with
  | none => rw [r.miss e]; rfl
  | some p => obtain ⟨v, q, _⟩ := r.get e; rw [q]; rfl

noncomputable def eqStr (k : Str) : Value → Bool
  | .str z _ => z == k
  | _ => false
theorem RepL.strs {h : Heap} : ∀ {vs : List Value} {ks : List Str}, RepL cx h vs (ks.map .str) → (∀ y ∈ vs, ∃ z t, y = .str z t) ∧ ∀ k, vs.any (eqStr k) = decide (k ∈ ks)
  | [], [], _ => ⟨fun _ q => (nomatch q), fun k => by simp⟩
  | v :: vs, z :: ks, .cons a r => by
    obtain ⟨t, rfl⟩ := a.strI
    obtain ⟨h1, h2⟩ := r.strs
    refine ⟨fun y hy => ?_, fun k => ?_⟩
    · rcases List.mem_cons.mp hy with rfl | hy
      · exact ⟨z, t, rfl⟩
      · exact h1 y hy
    · rw [List.any_cons, h2 k]
      by_cases q : z = k
      · subst q; simp [eqStr]
      · have q' : ¬ k = z := fun e => q e.symm
        simp [eqStr, q, q', List.mem_cons]
end

section
variable {cx : Cx} {F : Fm} {m : Loc} {H : AHeap} {s : Shared} {Q : BPost} {X : XPost}
abbrev IsB : Heap → Value → Bool → Prop := fun _ v b => v = .bool b

theorem St.dict {a : Addr} {xs : List (Str × PV)} (t : St cx F m H s.heap) (e : H a = some (.dict xs)) : ∃ vs, s.heap.DictOf cx.sk a vs ∧ RepK cx s.heap vs xs ∧ xs.length ≤ LIM ∧ (a == sysModules) = false := t.heap a _ e

theorem eqd_hits (t : Holds cx s.heap H) {vb : List (Str × Value)} {ys : List (Str × PV)} (rb : RepK cx s.heap vb ys) {xs : List (Str × PV)} {r : Bool} (hd : EqD H ys xs r) : ∀ {va : List (Str × Value)}, RepK cx s.heap va xs → ∀ A : Around, A.units + 40 < cLine →
    PySem.W.KeqHits A s vb va r := by
  induction hd with
  | nil => intro va ra A hu; cases ra; exact .nil
  | miss e => intro va ra A hu; cases ra; exact .miss (rb.miss e)
  | c e ev es ih =>
    intro va ra A hu
    cases ra with
    | cons a r =>
      obtain ⟨v, q, rv⟩ := rb.get e
      exact .hit q (eqv_at t 40 ev a rv A hu).1 (ih r A hu)

theorem eq_ok {v w : Value} {p q : PV} {b : Bool} (hu : F.A.units + 100 < cLine) (rv : Rep cx s.heap v p) (rw' : Rep cx s.heap w q) (t : St cx F m H s.heap) (e : EqT H p q b) (Q' : Value → Shared → Prop) (E : Value → Shared → Prop) :
    (Q' (.bool b) s → wpAny cx.M F.A (compareOp .Eq v w) Q' E s) ∧ (Q' (.bool (!b)) s → wpAny cx.M F.A (compareOp .NotEq v w) Q' E s) := by
  cases e with
  | val e =>
    obtain ⟨_, h2, h3⟩ := eqv_at t.heap 40 e rv rw' F.A (by first | lia | omega)
    exact ⟨fun h => h2 _ _ E Q' h, fun h => h3 _ _ E Q' h⟩
  | dict ha hb hl hd =>
    obtain rfl := Rep.objI rv; obtain rfl := Rep.objI rw'
    obtain ⟨va, da, ra, _, na⟩ := t.dict ha
    obtain ⟨vb, db, rb, _, nb⟩ := t.dict hb
    have hh := eqd_hits t.heap rb hd ra F.A.in1 (by show F.A.units + 1 + 40 < cLine; first | lia | omega)
    have hlen : (va.length == vb.length) = true := by rw [ra.length, rb.length, hl]; simp
    exact ⟨fun h => PySem.W.keq_eq na nb da db (by first | lia | omega) (fun _ => hh) (by rw [hlen, Bool.true_and]; exact h), fun h => PySem.W.keq_ne na nb da db (by first | lia | omega) (fun _ => hh) (by rw [hlen, Bool.true_and]; exact h)⟩
  | dictlen ha hb hl =>
    obtain rfl := Rep.objI rv; obtain rfl := Rep.objI rw'
    obtain ⟨va, da, ra, _, na⟩ := t.dict ha
    obtain ⟨vb, db, rb, _, nb⟩ := t.dict hb
    have hne : ¬ va.length = vb.length := by rw [ra.length, rb.length]; exact hl
    have hlen : (va.length == vb.length) = false := by simpa using hne
    exact ⟨fun h => PySem.W.keq_eq (r := true) na nb da db (by first | lia | omega) (fun e => absurd e hne) (by rw [hlen, Bool.false_and]; exact h), fun h => PySem.W.keq_ne (r := true) na nb da db (by first | lia | omega) (fun e => absurd e hne) (by rw [hlen, Bool.false_and]; exact h)⟩

theorem cmpW_to {op : CmpOp} {p q : PV} (h : cmpW op p q Q H) : CmpW (fun b => Q b H) H op p q := h.to fun b e k => by
  unfold cmpF at e
  split at e
  · split at e
    · unfold cmpI at e
      split at e <;> cases e
      · exact .eq (.val (.int _ _)) k
      · exact .ne (.val (.int _ _)) k
      · exact .lt _ _ k
      · exact .le _ _ k
      · exact .gt _ _ k
    · cases e
  · split at e
    · unfold cmpS at e
      split at e <;> cases e
      · exact .eq (.val (.str _ _)) k
      · exact .ne (.val (.str _ _)) k
    · cases e
  · split at e
    · unfold noneF at e
      split at e <;> cases e
      · exact .isN k
      · exact .niN k
    · cases e
theorem none_rep {h : Heap} {v : Value} {p : PV} (r : Rep cx h v p) : (v == .none) = isN p := by cases r <;> rfl
theorem cmp_ok {op : CmpOp} {v w : Value} {p q : PV} (hu : F.A.units + 100 < cLine) (rv : Rep cx s.heap v p) (rw' : Rep cx s.heap w q) (t : St cx F m H s.heap) (h : cmpW op p q Q H) :
    Ev IsB cx F (compareOp op v w) m H s Q X := by
  replace h := cmpW_to h
  cases h with
  | eq e k => exact (eq_ok hu rv rw' t e _ _).1 (.toks s.toks rfl t k)
  | ne e k => exact (eq_ok hu rv rw' t e _ _).2 (.toks s.toks rfl t k)
  | lt a b k => obtain ⟨_, rfl⟩ := Rep.intI rv; obtain ⟨_, rfl⟩ := Rep.intI rw'; exact lt_int (.toks s.toks rfl t k)
  | le a b k => obtain ⟨_, rfl⟩ := Rep.intI rv; obtain ⟨_, rfl⟩ := Rep.intI rw'; exact le_int (.toks s.toks rfl t k)
  | gt a b k => obtain ⟨_, rfl⟩ := Rep.intI rv; obtain ⟨_, rfl⟩ := Rep.intI rw'; exact gt_int (.toks s.toks rfl t k)
  | isN k => obtain rfl := Rep.noneI rw'; exact is_none_gen (by rw [none_rep rv]; exact .toks s.toks rfl t k)
  | niN k => obtain rfl := Rep.noneI rw'; exact isnot_none_gen (by rw [none_rep rv]; exact .toks s.toks rfl t k)
  | isB k => obtain rfl := Rep.boolI rv; obtain rfl := Rep.boolI rw'; exact is_bool (.toks s.toks rfl t k)
  | niB k => obtain rfl := Rep.boolI rv; obtain rfl := Rep.boolI rw'; exact isnot_bool (.toks s.toks rfl t k)
  | inD ha h =>
    obtain ⟨tk, rfl⟩ := rv.strI
    obtain rfl := Rep.objI rw'
    obtain ⟨vs, d, r, _, hn⟩ := t.dict ha
    refine wpAny_in_of (knd := cx.sk) (strKind_is _ _ _ _) hn d.mapOf ?_
    rw [r.isSome]; exact .toks _ rfl t h
  | niD ha h =>
    obtain ⟨tk, rfl⟩ := rv.strI
    obtain rfl := Rep.objI rw'
    obtain ⟨vs, d, r, _, hn⟩ := t.dict ha
    refine wpAny_notIn_of (knd := cx.sk) (strKind_is _ _ _ _) hn d.mapOf ?_
    rw [r.isSome]; exact .toks _ rfl t h
  | inL ha h =>
    rename_i k a ks
    obtain ⟨tk, rfl⟩ := rv.strI
    obtain rfl := Rep.objI rw'
    obtain ⟨items, n, e, r, _⟩ := t.list ha
    obtain ⟨h1, h2⟩ := r.strs
    refine SeqAt.in_listAt (eqStr k) (isList_of e) (fun y hy => ?_) ?_
    · obtain ⟨z, u, rfl⟩ := h1 y (by simpa using hy)
      exact EqAt.str_str _ _ _ _
    · rw [← Array.any_toList, h2]; exact .toks s.toks rfl t h
  | niL ha h =>
    rename_i k a ks
    obtain ⟨tk, rfl⟩ := rv.strI
    obtain rfl := Rep.objI rw'
    obtain ⟨items, n, e, r, _⟩ := t.list ha
    obtain ⟨h1, h2⟩ := r.strs
    refine SeqAt.notIn_listAt (eqStr k) (isList_of e) (fun y hy => ?_) ?_
    · obtain ⟨z, u, rfl⟩ := h1 y (by simpa using hy)
      exact EqAt.str_str _ _ _ _
    · rw [← Array.any_toList, h2]; exact .toks s.toks rfl t h
end
end Mine
end
section
open PySem PySem.Calls PyProof.Rows
namespace Mine
set_option autoImplicit false

section
variable {prog : Program} {w : World} {A : Around} {E : Value → Shared → Prop} {s : Shared}
theorem tail_at {value slice : Expr} {o i : Value} {T id : String} {ops : List Value} {Q : Value → Shared → Prop} (hT : s.TypeIs o T)
    (hl : typeLookup (.type T) "__getitem__" = pure (some (.builtin id))) (h : wpAny (model prog w) A (getItem o i) Q E s)
    (hs : subscripted slice false o i = operate ops (getItem o i)) :
    wpAny (model prog w) A (subscriptTail value slice o i) Q E s := by
  unfold subscriptTail
  refine wpAny_bind ?_
  rw [getitemInPython_of_ne hT.not_modules]
  refine wpAny_bind (wpAny_specialOf hT hl ?_)
  have fin : wpAny (model prog w) A (subscripted slice false o i) (fun r s₃ => wpAny (model prog w) A (letTemporaryGo value o r >>= fun _ => pure r) Q E s₃) E s := by
    rw [hs]
    exact wpAny_operating (wpAny_mono h (fun r s₃ h₃ => wpAny_bind (wpAny_letTemporaryGo (wpAny_pure h₃))) fun _ _ x => x)
  first
    | exact wpAny_pure (wpAny_bind fin)
    | exact wpAny_bind (wpAny_pure (wpAny_bind fin))
    | exact wpAny_bind fin

theorem getItem_lst {l : Addr} {items : Array Value} {k : Int} {t : Tok} {x : Value} {Q : Value → Shared → Prop} (hl : s.heap.IsList l items) (hsz : items.size ≤ LIM) (hx : itemAt items.toList k = some x) (h : Q x s) :
    wpAny (model prog w) A (getItem (.ref l) (.int k t)) Q E s := by
  unfold itemAt at hx
  have hL : LIM = 1048576 := rfl
  simp only [Array.length_toList, Array.getElem?_toList] at hx
  split at hx
  · rename_i h0
    have : k.toNat < items.size := (Array.getElem?_eq_some_iff.mp hx).1
    exact wpAny_getItem_list hl h0 (by first | lia | omega) hx h
  · split at hx
    · exact wpAny_getItem_list_neg hl (by first | lia | omega) (by first | lia | omega) (by first | lia | omega) hx h
    · cases hx
theorem seqIdx {k : Int} {n : Nat} {α : Type} {xs : List α} {x : α} (hn : xs.length = n) (hx : itemAt xs k = some x) : ∃ j, seqIndex? k n = some j ∧ xs[j]? = some x := by
  unfold itemAt at hx
  split at hx
  · rename_i h0
    have : k.toNat < xs.length := (List.getElem?_eq_some_iff.mp hx).1
    exact ⟨_, seqIndex_of h0 (by first | lia | omega), hx⟩
  · split at hx
    · rename_i h0 h1
      refine ⟨_, seqIndex_neg (by first | lia | omega) (by first | lia | omega), ?_⟩
      rw [← hn]; exact hx
    · cases hx
theorem itemAt_range {k : Int} {α : Type} {xs : List α} {x : α} (hx : itemAt xs k = some x) : -(xs.length : Int) ≤ k ∧ k < xs.length := by
  unfold itemAt at hx
  split at hx
  · have : k.toNat < xs.length := (List.getElem?_eq_some_iff.mp hx).1
    first | lia | omega
  · split at hx
    · have : (k + xs.length).toNat < xs.length := (List.getElem?_eq_some_iff.mp hx).1
      first | lia | omega
    · cases hx
end

theorem RepL.item {cx : Cx} {h : Heap} {vs : List Value} {ps : List PV} (r : RepL cx h vs ps) {k : Int} {p : PV} (e : itemAt ps k = some p) : ∃ v, itemAt vs k = some v ∧ Rep cx h v p := by
  unfold itemAt at e ⊢
  rw [r.length]
  split at e
  · rw [if_pos (by assumption)]; exact r.get e
  · rw [if_neg (by assumption)]
    split at e
    · rw [if_pos (by assumption)]; exact r.get e
    · cases e
theorem ints_item {vs : List Value} {ns : List Int} (r : IntsAre vs ns) {k : Int} {n : Int} (e : itemAt ns k = some n) : ∃ t, itemAt vs k = some (.int n t) := by
  have g : ∀ {vs : List Value} {ns : List Int}, IntsAre vs ns → ∀ {j : Nat} {n : Int}, ns[j]? = some n → ∃ t, vs[j]? = some (.int n t) := by
    intro vs ns r
    induction r with
    | nil => intro j n e; simp at e
    | cons a t _ ih =>
      intro j n e
      cases j with
      | zero => simp at e; subst e; exact ⟨t, rfl⟩
      | succ j => simp at e; simpa using ih e
  unfold itemAt at e ⊢
  rw [r.length]
  split at e
  · rw [if_pos (by assumption)]; exact g r e
  · rw [if_neg (by assumption)]
    split at e
    · rw [if_pos (by assumption)]; exact g r e
    · cases e

section
variable {cx : Cx} {F : Fm} {m : Loc} {H : AHeap} {s : Shared} {Q : Post} {X : XPost}

theorem St.tape {a : Addr} {n : Nat} (t : St cx F m H s.heap) (e : H a = some (.tape n)) : ∃ u k, s.heap.get? a = some (lstObj #[.int n u] k) := t.heap a _ e
theorem ints_len {vs : List Value} {ns : List Int} (r : IntsAre vs ns) : vs.length = ns.length := r.length

theorem subW_to {p q : PV} (h : subW p q Q H) : SubW Q H p q := h.to fun u e k => by
  unfold subF at e
  split at e
  · split at e
    · exact .tup e k
    · cases e
  · cases e
theorem sub_ok {value slice : Expr} {v i : Value} {p q : PV} (hs : ∀ o i, subscripted slice false o i = operate [o, i] (getItem o i)) (rv : Rep cx s.heap v p) (ri : Rep cx s.heap i q) (t : St cx F m H s.heap) (h : subW p q Q H) :
    Ev (Rep cx) cx F (subscriptTail value slice v i) m H s Q X := by
  have hL : LIM = 1048576 := rfl
  replace h := subW_to h
  cases h with
  | tup e h =>
    obtain ⟨a, items, n, rfl, g, l, r⟩ := rv.tupI
    obtain ⟨u, rfl⟩ := ri.intI
    obtain ⟨y, ey, ry⟩ := r.item e
    obtain ⟨j, h1, h2⟩ := seqIdx (n := items.size) (by simp) ey
    have := itemAt_range e
    refine tail_at (T := "tuple") ⟨_, g, rfl⟩ slot_tuple_getitem.lookup (P.getItem_tuple g (by first | lia | omega) (by first | lia | omega) h1 (by simpa using h2) (.toks s.toks ry t h)) (hs _ _)
  | str hz e h =>
    rename_i y x k
    obtain ⟨u, rfl⟩ := rv.strI
    obtain ⟨u, rfl⟩ := ri.intI
    unfold signAt at e
    obtain ⟨c, ec, rfl⟩ := Option.map_eq_some_iff.mp e
    have hl : y.cps.toList.length = y.length := by simp [Str.length]
    obtain ⟨j, h1, h2⟩ := seqIdx hl ec
    have := itemAt_range ec
    refine tail_at (T := "str") (typeIs_str _ _ _) PySem.F.slot_str_getitem.lookup (getItem_str (i := k) (c := c) ?_ ?_ (.toks _ (.str _ _) t h)) (hs _ _)
    · simp; first | lia | omega
    · rw [h1]; simpa using h2
  | fls e h =>
    obtain ⟨a, items, rfl, g, ii, l⟩ := rv.flsI
    obtain ⟨u, rfl⟩ := ri.intI
    obtain ⟨y, ey⟩ := ints_item ii e
    have hk := ints_len ii
    have g' := isList_up g t.base
    refine tail_at (T := "list") g'.typeIs slot_list_getitem.lookup (getItem_lst g' (by simp at hk; first | lia | omega) ey (.toks s.toks (.int _ _) t h)) (hs _ _)
  | fdt e h =>
    obtain ⟨a, vs, rfl, d, r⟩ := rv.fdtI
    obtain ⟨u, rfl⟩ := ri.strI
    obtain ⟨y, ey, ry⟩ := r.get e
    have d' := d.keep t.base
    exact tail_at (T := "dict") d'.typeIs slot_dict_getitem.lookup (wpAny_getItem_of (knd := cx.sk) (strKind_is _ _ _ _) d'.mapOf ey (.toks _ ry t h)) (hs _ _)
  | list ha e h =>
    obtain rfl := Rep.objI rv
    obtain ⟨u, rfl⟩ := ri.intI
    obtain ⟨items, n, g, r, l⟩ := t.list ha
    obtain ⟨y, ey, ry⟩ := r.item e
    have hk := arr_len r
    refine tail_at (T := "list") ⟨_, g, rfl⟩ slot_list_getitem.lookup (getItem_lst (isList_of g) (by first | lia | omega) ey (.toks s.toks ry t h)) (hs _ _)
  | dict ha e h =>
    obtain rfl := Rep.objI rv
    obtain ⟨u, rfl⟩ := ri.strI
    obtain ⟨vs, d, r, _⟩ := t.dict ha
    obtain ⟨y, ey, ry⟩ := r.get e
    exact tail_at (T := "dict") d.typeIs slot_dict_getitem.lookup (wpAny_getItem_of (knd := cx.sk) (strKind_is _ _ _ _) d.mapOf ey (.toks _ ry t h)) (hs _ _)
  | tape ha h =>
    obtain rfl := Rep.objI rv
    obtain ⟨u, rfl⟩ := ri.intI
    obtain ⟨u, k, g⟩ := t.tape ha
    exact tail_at (T := "list") ⟨_, g, rfl⟩ slot_list_getitem.lookup (getItem_lst (isList_of g) (by simp [LIM]) rfl (.toks s.toks (.int _ _) t h)) (hs _ _)
end
end Mine
end
section
open PySem PySem.Calls PyProof.Rows
namespace Mine
set_option autoImplicit false
open PySem.Builtin.Str (strSliceIndices)

theorem cutAt_le (n : Nat) (k : Int) : cutAt n k ≤ n := by unfold cutAt; split <;> (first | lia | omega)
theorem clip_cut (n : Nat) (k : Int) : max 0 (min (if k < 0 then k + (n : Int) else k) (n : Int)) = (cutAt n k : Int) := by
  unfold cutAt
  by_cases h : 0 ≤ k
  · rw [if_neg (by first | lia | omega), if_pos h]; first | lia | omega
  · rw [if_pos (by first | lia | omega), if_neg h]; first | lia | omega
theorem bounds_from (n : Nat) (k : Int) : sliceBounds (some k) none none n = ((cutAt n k : Int), (n : Int), 1) := by
  show (max 0 (min (if k < 0 then k + (n : Int) else k) (n : Int)), (n : Int), (1 : Int)) = _
  rw [clip_cut]
theorem bounds_to (n : Nat) (k : Int) : sliceBounds none (some k) none n = ((0 : Int), (cutAt n k : Int), 1) := by
  show ((0 : Int), max 0 (min (if k < 0 then k + (n : Int) else k) (n : Int)), (1 : Int)) = _
  rw [clip_cut]
theorem pick_from' (items : Array Value) (k : Int) : (slicePick items (some k) none none).toList = items.toList.drop (cutAt items.size k) := by
  unfold slicePick
  rw [bounds_from]
  simp only
  rw [sliceRange_one, pick_run, List.take_of_length_le (by simp)]
theorem pick_to' (items : Array Value) (k : Int) : (slicePick items none (some k) none).toList = items.toList.take (cutAt items.size k) := by
  unfold slicePick
  rw [bounds_to]
  simp only
  rw [show (0 : Int) = ((0 : Nat) : Int) from rfl, sliceRange_one, pick_run, List.drop_zero, Nat.sub_zero]
theorem fm_congr {α β : Type} {f g : α → Option β} : ∀ {l : List α}, (∀ x ∈ l, f x = g x) → l.filterMap f = l.filterMap g
  | [], _ => rfl
  | a :: l, h => by rw [List.filterMap_cons, List.filterMap_cons, h a (List.mem_cons_self ..), fm_congr fun x hx => h x (List.mem_cons_of_mem _ hx)]
theorem pick_rev (items : Array Value) : (slicePick items none none (some (-1))).toList = items.toList.reverse := by
  have h := pick_run items.toList.reverse.toArray 0 items.size
  rw [List.drop_zero, List.take_of_length_le (by simp)] at h
  simp only [List.toList_toArray] at h
  refine Eq.trans ?_ h
  unfold slicePick
  rw [show sliceBounds none none (some (-1)) items.size = ((items.size : Int) - 1, -1, -1) from rfl]
  simp only [List.toList_toArray]
  unfold sliceRange
  rw [if_neg (by decide)]
  have hc : (if (items.size : Int) - 1 > -1 then ((items.size : Int) - 1 - -1 - -1 - 1) / (- -1) else 0).toNat = items.size := by
    split
    · rw [show (- -1 : Int) = 1 from rfl, Int.ediv_one]; first | lia | omega
    · first | lia | omega
  simp only [hc]
  rw [List.filterMap_map, List.filterMap_map]
  refine fm_congr fun k hk => ?_
  have hk' : k < items.size := List.mem_range.mp hk
  simp only [Function.comp]
  rw [show ((items.size : Int) - 1 + -1 * (k : Int)).toNat = items.size - 1 - k by first | lia | omega, Nat.zero_add]
  have e : items.toList.reverse.toArray[k]? = items.toList.reverse[k]? := by simp
  rw [e, List.getElem?_reverse (by simpa using hk'), Array.length_toList, Array.getElem?_toList]
theorem str_from (x : Str) (k : Int) : Txt.slice x (some k) none = ⟨(x.cps.toList.drop (cutAt x.length k)).toArray⟩ := by
  have e : strSliceIndices (some k) none 1 x.length = (List.range (x.length - cutAt x.length k)).map (cutAt x.length k + ·) := by
    show sliceRange (max 0 (min (if k < 0 then k + (x.length : Int) else k) (x.length : Int))) (x.length : Int) 1 = _
    rw [clip_cut, sliceRange_one]
  unfold Txt.slice
  rw [e, pick_run]
  split
  · rename_i h
    simp at h
    have hc := cutAt_le x.length k
    have z : cutAt x.length k = 0 ∨ x.length = 0 := by first | lia | omega
    rcases z with z | z
    · rw [z]; simp
    · have : x.cps.toList = [] := by
        have : x.cps.size = 0 := z
        simpa using this
      rw [this]; cases x; simp_all
  · rw [List.take_of_length_le (by simp [Str.length])]
theorem str_to (x : Str) (k : Int) : Txt.slice x none (some k) = ⟨(x.cps.toList.take (cutAt x.length k)).toArray⟩ := by
  have e : strSliceIndices none (some k) 1 x.length = (List.range (cutAt x.length k - 0)).map (0 + ·) := by
    show sliceRange 0 (max 0 (min (if k < 0 then k + (x.length : Int) else k) (x.length : Int))) 1 = _
    rw [clip_cut, show (0 : Int) = ((0 : Nat) : Int) from rfl, sliceRange_one]
  unfold Txt.slice
  rw [e, pick_run]
  split
  · rename_i h
    simp at h
    rw [h, List.take_of_length_le (by simp [Str.length])]
  · rw [List.drop_zero, Nat.sub_zero]

section
variable {prog : Program} {w : World} {A : Around} {E : Value → Shared → Prop} {s : Shared}
theorem slicePart_of {v : Value} {k : Option Int} {Q : Option Int → Shared → Prop} (p : IsPart v k) (h : Q k s) : wpAny (model prog w) A (Builtin.Slice.slicePartIndex v) Q E s := by
  cases p with
  | none => exact slicePart_none h
  | int i t => exact slicePart_int h
theorem sliceApplied_of {sl : Addr} {vl vu : Value} {lo hi : Option Int} {n : Nat} {a b : Nat} {Q : Int × Int × Nat → Shared → Prop} (hs : s.heap.IsSliceOf sl vl vu .none) (pl : IsPart vl lo) (pu : IsPart vu hi)
    (e : Builtin.Slice.sliceAdjust lo hi 1 (n : Int) = ((a : Int), (b : Int))) (h : Q ((a : Int), 1, b - a) s) :
    wpAny (model prog w) A (Builtin.Slice.sliceApplied (.ref sl) (pure (n : Int))) Q E s := by
  obtain ⟨os, hos, hcs, hds⟩ := id hs
  unfold Builtin.Slice.sliceApplied Builtin.Slice.sliceFields
  refine wpAny_bind (wpAny_bind (wpAny_field hos hds (x := vl) rfl (wpAny_bind (wpAny_field hos hds (x := vu) rfl (wpAny_bind (wpAny_field hos hds (x := .none) rfl (wpAny_pure ?_)))))))
  refine wpAny_bind (slicePart_none ?_)
  show wpAny _ _ (if ((1 : Int) == 0) = true then _ else _) _ _ s
  rw [if_neg (by decide)]
  refine wpAny_bind (slicePart_of pl (wpAny_bind (slicePart_of pu (wpAny_bind (wpAny_pure ?_)))))
  show wpAny _ _ (match Builtin.Slice.sliceAdjust lo hi 1 (n : Int) with | (lo, hi) => pure (lo, (1 : Int), Builtin.Slice.slicePlaces lo hi 1)) _ _ s
  rw [e]
  show wpAny _ _ (pure ((a : Int), (1 : Int), Builtin.Slice.slicePlaces (a : Int) (b : Int) 1)) _ _ s
  have : Builtin.Slice.slicePlaces (a : Int) (b : Int) 1 = b - a := by
    unfold Builtin.Slice.slicePlaces
    have h1 : (1 : Int) > 0 := by first | lia | omega
    simp only [h1, if_true, Int.ediv_one]
    split <;> (first | lia | omega)
  rw [this]
  exact wpAny_pure h
theorem pick_cut (xs : Array Value) (a b : Nat) : ((List.range (b - a)).filterMap fun (k : Nat) => xs[((a : Int) + (k : Int) * 1).toNat]?).toArray = ((xs.toList.drop a).take (b - a)).toArray := by
  have e : (fun (k : Nat) => xs[((a : Int) + (k : Int) * 1).toNat]?) = fun k => xs[a + k]? := by
    funext k
    have : ((a : Int) + (k : Int) * 1).toNat = a + k := by first | lia | omega
    rw [this]
  rw [e]
  have := pick_run xs a (b - a)
  rw [List.filterMap_map] at this
  have e2 : ((fun x => xs[x]?) ∘ fun x => a + x) = fun k => xs[a + k]? := rfl
  rw [e2] at this
  rw [this]
theorem getItem_tup_cut {t sl : Addr} {items : Array Value} {k : Nat} {vl vu : Value} {lo hi : Option Int} {a b : Nat} {Q : Value → Shared → Prop} (ht : s.heap.get? t = some (tupObj items k)) (hs : s.heap.IsSliceOf sl vl vu .none)
    (pl : IsPart vl lo) (pu : IsPart vu hi) (e : Builtin.Slice.sliceAdjust lo hi 1 (items.size : Int) = ((a : Int), (b : Int))) (hb : b ≤ items.size) (hsz : items.size ≤ sizeLine)
    (h0 : a = 0 → b - a = items.size → Q (.ref t) s)
    (h : Q (.ref s.heap.objs.size) { s with heap := s.heap.push (tupObj ((items.toList.drop a).take (b - a)).toArray 0) }) : wpAny (model prog w) A (getItem (.ref t) (.ref sl)) Q E s := by
  have hit : IsTup s.heap t items := isTup_of ht
  have hdrop : sizeOk (.seq ((items.toList.drop a).take (b - a)).toArray) := by
    show ((items.toList.drop a).take (b - a)).toArray.size ≤ sizeLine
    rw [List.size_toArray, List.length_take, List.length_drop, Array.length_toList]
    first | lia | omega
  obtain ⟨os, hos, hcs, hds⟩ := id hs
  have hTs : s.TypeIs (.ref sl) "slice" := ⟨os, hos, hcs⟩
  unfold getItem
  try with_reducible refine wpAny_holding ?_
  first | refine wpAny_bind (wpAny_pure ?_) | skip
  refine wpAny_bind (wpAny_sequenceKey hit.typeIs (by decide) ?_)
  refine wpAny_bind (wpAny_callSpecial?_slot (name := Str.ofString "__getitem__") hit.typeIs slot_tuple_getitem
    (wpAny_call_entry slot_tuple_getitem hit.typeIs entry_tuple_getitem ?_ (args_tuple_getitem _ _)))
  show wpAny _ _ (Builtin.Tuple.tupleItemsOf (.ref t) >>= _) _ _ s
  refine wpAny_bind (tupleItemsOf_ hit ?_)
  refine wpAny_bind (wpAny_typeOf hTs ?_)
  rw [if_pos (by decide)]
  refine wpAny_bind (sliceApplied_of hs pl pu e ?_)
  show wpAny _ _ (if ((a : Int) == 0 && (1 : Int) == 1 && (b - a) == items.size) = true then _ else _) _ _ s
  by_cases hc : ((a : Int) == 0 && (1 : Int) == 1 && (b - a) == items.size) = true
  · rw [if_pos hc]
    simp at hc
    have hq := h0 (by first | lia | omega) (by first | lia | omega)
    unfold Builtin.Tuple.tupleIsExact
    refine wpAny_bind (wpAny_bind (wpAny_typeOf hit.typeIs (wpAny_pure ?_)))
    first
      | exact wpAny_bind (wpAny_rule (wpAny_pure ⟨_, rfl, wpAny_pure hq⟩))
      | exact wpAny_bind (wpAny_rule (wpAny_bind (wpAny_pure (wpAny_pure ⟨_, rfl, wpAny_pure hq⟩))))
  · rw [if_neg hc, pick_cut items a b]
    first
      | exact wpAny_bind (m := Builtin.Tuple.tupleExact _) (wpAny_newObj_type (wpAny_pure ⟨_, rfl, wpAny_pure h⟩) hdrop)
      | exact wpAny_bind (m := Builtin.Tuple.tupleExact _) (wpAny_newObj_type (wpAny_bind (wpAny_pure (wpAny_pure ⟨_, rfl, wpAny_pure h⟩))) hdrop)
      | exact wpAny_bind (wpAny_bind (m := Builtin.Tuple.tupleExact _) (wpAny_newObj_type (wpAny_pure (wpAny_pure ⟨_, rfl, wpAny_pure h⟩)) hdrop))
      | exact wpAny_bind (wpAny_bind (m := Builtin.Tuple.tupleExact _) (wpAny_newObj_type (wpAny_pure ⟨_, rfl, wpAny_pure h⟩) hdrop))
end
section
variable {cx : Cx} {F : Fm} {m : Loc} {H : AHeap} {s : Shared} {Q : Post} {X : XPost}
theorem adj_from (n : Nat) (k : Int) : Builtin.Slice.sliceAdjust (some k) none 1 (n : Int) = ((cutAt n k : Int), (n : Int)) := by
  unfold Builtin.Slice.sliceAdjust cutAt
  simp only [show ¬ ((1 : Int) < 0) by first | lia | omega, if_false]
  congr 1
  split <;> split <;> (first | lia | omega)
theorem adj_to (n : Nat) (k : Int) : Builtin.Slice.sliceAdjust none (some k) 1 (n : Int) = (((0 : Nat) : Int), (cutAt n k : Int)) := by
  unfold Builtin.Slice.sliceAdjust cutAt
  simp only [show ¬ ((1 : Int) < 0) by first | lia | omega, if_false]
  congr 1
  split <;> split <;> (first | lia | omega)

theorem repl_ints {cx : Cx} {h : Heap} : ∀ {vs : List Value} {ns : List Int}, IntsAre vs ns → RepL cx h vs (ns.map .int)
  | _, _, .nil => .nil
  | _, _, .cons _ _ r => .cons (.int _ _) (repl_ints r)
noncomputable def slObj (l u st : Value) : Obj := { cls := .type "slice", data := .fields #[l, u, st] }
theorem St.push {o : Obj} (t : St cx F m H s.heap) : St cx F m H (s.heap.push o) :=
  t.step (s := s) (s' := { s with heap := s.heap.push o }) (.grow (tk := s.toks) push_keeps fun _ _ _ e => e) (t.heap.grow push_keeps)

theorem sfrom_ok {value slice : Expr} {v i : Value} {p q : PV} (hs : ∀ o i, subscripted slice false o i = operate [i, o] (getItem o i)) (rv : Rep cx s.heap v p) (ri : Rep cx s.heap i q) (t : St cx F m H s.heap) (h : FromW Q H p q) :
    Ev (Rep cx) cx F (subscriptTail value slice v (.ref s.heap.objs.size)) m H { s with heap := s.heap.push (slObj i .none .none) } Q X := by
  have hL : LIM = 1048576 := rfl
  have hL' := LIM_le
  have so : ∀ b o, s.heap.get? b = some o → Solid o → (s.heap.push (slObj i .none .none)).get? b = some o := fun b o e _ => push_keeps b o e
  have t' := t.push (o := slObj i .none .none)
  have hsl := Heap.IsSliceOf.new s.heap i .none .none
  replace rv := rv.mono so
  cases h with
  | tup h =>
    rename_i xs k
    obtain ⟨a, items, n, rfl, g, l, r⟩ := rv.tupI
    obtain ⟨u, rfl⟩ := ri.intI
    have hk := arr_len r
    refine tail_at (T := "tuple") ⟨_, g, rfl⟩ slot_tuple_getitem.lookup (getItem_tup_cut g hsl (.int _ _) .none (adj_from _ _) (Nat.le_refl _) (by first | lia | omega) (fun h1 h2 => ?_) ?_) (hs _ _)
    · refine .toks s.toks (.tup (xs := _) g l r) t' ?_
      rw [← hk, h1] at h; exact h
    · refine new_tup (tk := s.toks) (c := 0) t' push_keeps (Heap.get?_push_size _ rfl) ?_ ?_ h
      · rw [List.take_of_length_le (by simp), ← hk]; exact r.drop _
      · simp; first | lia | omega
  | str hz h =>
    rename_i x k
    obtain ⟨u, rfl⟩ := rv.strI
    obtain ⟨u, rfl⟩ := ri.intI
    refine tail_at (T := "str") (typeIs_str _ _ _) PySem.F.slot_str_getitem.lookup (wpAny_getItem_str_slice (l := some (k, u)) (u := none) (st := none) ⟨_, Heap.get?_push_size _ rfl, rfl, rfl⟩ rfl
      (post_val_or_str ⟨Nat.le_trans (Txt.slice_le x _ _) (by first | lia | omega), fun t'' k' => ?_⟩)) (hs _ _)
    show OkG _ _ _ _ _ _ _ (Value.str (Txt.slice x (some k) none) t'') _
    rw [str_from]; exact .toks _ (.str _ _) t' h
  | list ha h =>
      obtain rfl := Rep.objI rv
      obtain ⟨u, rfl⟩ := ri.intI
      obtain ⟨items, n, g, r, l⟩ := t'.list (s := { s with heap := _ }) ha
      have hk := arr_len r
      refine tail_at (T := "list") ⟨_, g, rfl⟩ slot_list_getitem.lookup (wpAny_getItem_list_slice (isList_of g) hsl (.int _ _) .none .none (by simp) ?_ (by first | lia | omega)) (hs _ _)
      refine new_list (tk := s.toks) (c := 0) t' push_keeps (get_size_none _) (Heap.get?_push_size _ rfl) ?_ ?_ h
      · rw [pick_from', hk]; exact r.drop _
      · simp; first | lia | omega

theorem rev_ok {value slice : Expr} {v : Value} {u : Tok} {p : PV} (hs : ∀ o i, subscripted slice false o i = operate [o, i] (getItem o i)) (rv : Rep cx s.heap v p) (t : St cx F m H s.heap) (h : RevW Q H p) :
    Ev (Rep cx) cx F (subscriptTail value slice v (.ref s.heap.objs.size)) m H { s with heap := s.heap.push (slObj .none .none (.int (-1) u)) } Q X := by
  have hL : LIM = 1048576 := rfl
  have hL' := LIM_le
  have t' := t.push (o := slObj .none .none (.int (-1) u))
  cases h with
  | list ha h =>
    obtain rfl := Rep.objI rv
    obtain ⟨items, n, g, r, l⟩ := t'.list (s := { s with heap := _ }) ha
    have hk := arr_len r
    refine tail_at (T := "list") ⟨_, g, rfl⟩ slot_list_getitem.lookup (wpAny_getItem_list_slice (isList_of g) (Heap.IsSliceOf.new s.heap .none .none (.int (-1) u)) .none .none (.int _ _) (by simp) ?_ (by first | lia | omega)) (hs _ _)
    refine new_list (tk := s.toks) (c := 0) t' push_keeps (get_size_none _) (Heap.get?_push_size _ rfl) ?_ ?_ h
    · rw [pick_rev]; exact r.reverse
    · simpa using l
theorem sto_ok {value slice : Expr} {v i : Value} {p q : PV} (hs : ∀ o i, subscripted slice false o i = operate [i, o] (getItem o i)) (rv : Rep cx s.heap v p) (ri : Rep cx s.heap i q) (t : St cx F m H s.heap) (h : ToW Q H p q) :
    Ev (Rep cx) cx F (subscriptTail value slice v (.ref s.heap.objs.size)) m H { s with heap := s.heap.push (slObj .none i .none) } Q X := by
  have hL : LIM = 1048576 := rfl
  have hL' := LIM_le
  have so : ∀ b o, s.heap.get? b = some o → Solid o → (s.heap.push (slObj .none i .none)).get? b = some o := fun b o e _ => push_keeps b o e
  have t' := t.push (o := slObj .none i .none)
  have hsl := Heap.IsSliceOf.new s.heap .none i .none
  replace rv := rv.mono so
  cases h with
  | tup h =>
    rename_i xs k
    obtain ⟨a, items, n, rfl, g, l, r⟩ := rv.tupI
    obtain ⟨u, rfl⟩ := ri.intI
    have hk := arr_len r
    have hc := cutAt_le items.size k
    refine tail_at (T := "tuple") ⟨_, g, rfl⟩ slot_tuple_getitem.lookup (getItem_tup_cut g hsl .none (.int _ _) (adj_to _ _) hc (by first | lia | omega) (fun h1 h2 => ?_) ?_) (hs _ _)
    · refine .toks s.toks (.tup (xs := _) g l r) t' ?_
      rw [List.take_of_length_le (by rw [← hk]; first | lia | omega)] at h; exact h
    · refine new_tup (tk := s.toks) (c := 0) t' push_keeps (Heap.get?_push_size _ rfl) ?_ ?_ h
      · rw [List.drop_zero, Nat.sub_zero, hk]; exact r.take _
      · simp; first | lia | omega
  | str hz h =>
    rename_i x k
    obtain ⟨u, rfl⟩ := rv.strI
    obtain ⟨u, rfl⟩ := ri.intI
    refine tail_at (T := "str") (typeIs_str _ _ _) PySem.F.slot_str_getitem.lookup (wpAny_getItem_str_slice (l := none) (u := some (k, u)) (st := none) ⟨_, Heap.get?_push_size _ rfl, rfl, rfl⟩ rfl
      (post_val_or_str ⟨Nat.le_trans (Txt.slice_le x _ _) (by first | lia | omega), fun t'' k' => ?_⟩)) (hs _ _)
    show OkG _ _ _ _ _ _ _ (Value.str (Txt.slice x none (some k)) t'') _
    rw [str_to]; exact .toks _ (.str _ _) t' h
  | fls h =>
    obtain ⟨a, items, rfl, g, ii, l⟩ := rv.flsI
    obtain ⟨u, rfl⟩ := ri.intI
    have hk := ints_len ii
    rw [Array.length_toList] at hk
    have g' := isList_up g t'.base
    refine tail_at (T := "list") g'.typeIs slot_list_getitem.lookup (wpAny_getItem_list_slice g' hsl .none (.int _ _) .none (by simp) ?_ (by first | lia | omega)) (hs _ _)
    refine new_list (tk := s.toks) (c := 0) t' push_keeps (get_size_none _) (Heap.get?_push_size _ rfl) ?_ ?_ h
    · rw [pick_to', hk]; exact repl_ints (ii.take _)
    · simp; first | lia | omega
  | list ha h =>
      obtain rfl := Rep.objI rv
      obtain ⟨u, rfl⟩ := ri.intI
      obtain ⟨items, n, g, r, l⟩ := t'.list (s := { s with heap := _ }) ha
      have hk := arr_len r
      refine tail_at (T := "list") ⟨_, g, rfl⟩ slot_list_getitem.lookup (wpAny_getItem_list_slice (isList_of g) hsl .none (.int _ _) .none (by simp) ?_ (by first | lia | omega)) (hs _ _)
      refine new_list (tk := s.toks) (c := 0) t' push_keeps (get_size_none _) (Heap.get?_push_size _ rfl) ?_ ?_ h
      · rw [pick_to', hk]; exact r.take _
      · simp; first | lia | omega
end
end Mine
end
section
open PySem PySem.Calls PyProof.Rows
namespace Mine
set_option autoImplicit false

noncomputable def Blt.val : Blt → Value
  | .len => .builtin "len" | .list => .type "list" | .tuple => .type "tuple" | .range => .type "range" | .max => .builtin "max" | .min => .builtin "min" | .int => .type "int" | .str => .type "str"
  | .all => .builtin "all" | .any => .builtin "any" | .abs => .builtin "abs"

section
variable {cx : Cx} {F : Fm} {m : Loc} {H : AHeap} {s : Shared} {Q : Post} {X : XPost}

theorem list_ok {a : Addr} {T : String} {o : Obj} {items : Array Value} {n : Nat} {xs : List PV} (hT : T = "list" ∨ T = "tuple") (g : s.heap.get? a = some o) (hc : o.cls = .type T) (hd : o.data = .seq items n) (r : RepL cx s.heap items.toList xs) (l : xs.length ≤ LIM)
    (t : St cx F m H s.heap) (h : alloc (.list xs) Q H) : Ev (Rep cx) cx F (call (.type "list") [.ref a]) m H s Q X := by
  have hk := arr_len r
  have hL' := LIM_le
  exact call_list_seq a hT g hc hd (fun h' c' gr e => new_list (tk := s.toks) t gr (get_size_none _) e r l h) (by first | lia | omega)

theorem strs_of_keys {h : Heap} : ∀ {vs : List (Str × Value)} {ps : List (Str × PV)} {zs : List Value}, RepK cx h vs ps → zs.length = vs.length →
    (∀ (j : Nat) v, zs[j]? = some v → ∃ k x, vs[j]? = some (k, x) ∧ cx.sk.is k v = true) → RepL cx h zs (ps.map fun x => .str x.1)
  | _, _, [], .nil, _, _ => .nil
  | _, _, [], .cons _ _, e, _ => by simp at e
  | _, _, z :: zs, .nil, e, _ => by simp at e
  | _, _, z :: zs, .cons a r, e, f => by
    refine .cons ?_ (strs_of_keys r (by simpa using e) fun j v q => by simpa using f (j + 1) v (by simpa using q))
    obtain ⟨k, x, h1, h2⟩ := f 0 z rfl
    simp at h1
    obtain ⟨rfl, rfl⟩ := h1
    obtain ⟨t, rfl⟩ := Value.isStrOf_shape h2
    exact .str _ _

theorem bltW_to {b : Blt} {ps : List PV} (h : bltW b ps Q H) : BltW Q H b ps := h.to fun u e k => by
  unfold bltF at e
  split at e
  · unfold blt1 at e
    split at e
    · split at e <;> cases e
      · exact .lenT _ k
      · exact .tupT _ k
    · split at e <;> cases e
      exact .lenF _ k
    · split at e <;> cases e
      exact .intB _ k
    · cases e
  · unfold blt2 at e
    split at e
    · split at e
      · split at e <;> cases e
        · exact .max _ _ k
        · exact .min _ _ k
      · cases e
    · cases e
  · cases e
theorem blt_ok {b : Blt} {vs : List Value} {ps : List PV} (hh : F.A.handled = none) (r : RepL cx s.heap vs ps) (t : St cx F m H s.heap) (h : bltW b ps Q H) : Ev (Rep cx) cx F (call b.val vs []) m H s Q X := by
  have hL : LIM = 1048576 := rfl
  have hL' := LIM_le
  replace h := bltW_to h
  cases h with
  | lenT xs h =>
    obtain ⟨_, rfl, rv⟩ := r.one
    obtain ⟨a, items, n, rfl, g, l, r⟩ := rv.tupI
    have hk := arr_len r
    refine P.len_tuple g (by first | lia | omega) (.toks _ ?_ t h)
    rw [hk]; exact .int _ _
  | lenS x l h =>
    obtain ⟨_, rfl, rv⟩ := r.one
    obtain ⟨u, rfl⟩ := rv.strI
    exact PyProof.Rows.len_str (by first | lia | omega) (.toks _ (.int _ _) t h)
  | lenF xs h =>
    obtain ⟨_, rfl, rv⟩ := r.one
    obtain ⟨a, items, rfl, g, ii, l⟩ := rv.flsI
    have hk := ints_len ii
    rw [Array.length_toList] at hk
    refine call_len_list (isList_up g t.base) (by first | lia | omega) (.toks _ ?_ t h)
    rw [hk]; exact .int _ _
  | lenL a xs ha h =>
    obtain ⟨_, rfl, rv⟩ := r.one
    obtain rfl := Rep.objI rv
    obtain ⟨items, n, g, r, l⟩ := t.list ha
    have hk := arr_len r
    refine call_len_list (isList_of g) (by first | lia | omega) (.toks _ ?_ t h)
    rw [hk]; exact .int _ _
  | lenD a kvs ha h =>
    obtain ⟨_, rfl, rv⟩ := r.one
    obtain rfl := Rep.objI rv
    obtain ⟨vs, d, r, l, hn⟩ := t.dict ha
    have hk := r.length
    refine call_len_dict hn d (by first | lia | omega) (.toks _ ?_ t h)
    rw [hk]; exact .int _ _
  | listT xs h =>
    obtain ⟨_, rfl, rv⟩ := r.one
    obtain ⟨a, items, n, rfl, g, l, r⟩ := rv.tupI
    exact list_ok (.inr rfl) g rfl rfl r l t h
  | listL a xs ha h =>
    obtain ⟨_, rfl, rv⟩ := r.one
    obtain rfl := Rep.objI rv
    obtain ⟨items, n, g, r, l⟩ := t.list ha
    exact list_ok (.inl rfl) g rfl rfl r l t h
  | listD a kvs ha h =>
    obtain ⟨_, rfl, rv⟩ := r.one
    obtain rfl := Rep.objI rv
    obtain ⟨vs, d, r, l, hn⟩ := t.dict ha
    obtain ⟨ep, d'⟩ := d.dictAt
    have hk := r.length
    refine PySem.W.kdl_call (PySem.W.kdl_dict (knd := cx.sk) hn) hh d' (by first | lia | omega) fun h' tk acc c gr e it => ?_
    refine new_list t gr (get_size_none _) e (strs_of_keys r ?_ fun j v q => ?_) (by simpa using l) h
    · rw [Array.length_toList]; exact it.1
    · exact it.2 j v (by rw [← Array.getElem?_toList]; exact q)
  | tupT xs h =>
    obtain ⟨_, rfl, rv⟩ := r.one
    obtain ⟨a, items, n, rfl, g, l, r⟩ := rv.tupI
    exact call_tuple_same (isTuple_of g) (.toks s.toks (.tup g l r) t h)
  | tupL a xs ha h =>
    obtain ⟨_, rfl, rv⟩ := r.one
    obtain rfl := Rep.objI rv
    obtain ⟨items, n, g, r, l⟩ := t.list ha
    have hk := arr_len r
    refine call_tuple_list (isList_of g) (fun h' gr => ?_) (by first | lia | omega)
    exact new_tup (tk := s.toks) (c := 0) t (fun b o e => push_keeps b o (gr b o e)) (Heap.get?_push_size _ rfl) r l h
  | range n k h =>
    obtain ⟨_, rfl, rv⟩ := r.one
    obtain ⟨u, rfl⟩ := rv.intI
    exact call_range_1 (.grow push_keeps (.rng (Heap.get?_push_size _ rfl) k) t h)
  | max a b h =>
    obtain ⟨_, _, rfl, ra, rb⟩ := r.two
    obtain ⟨u, rfl⟩ := ra.intI
    obtain ⟨v, rfl⟩ := rb.intI
    refine max_two_ints hh fun h' tk g => ?_
    refine .grow g ?_ t h
    split <;> exact .int _ _
  | min a b h =>
    obtain ⟨_, _, rfl, ra, rb⟩ := r.two
    obtain ⟨u, rfl⟩ := ra.intI
    obtain ⟨v, rfl⟩ := rb.intI
    refine min_two_ints hh fun h' tk g => ?_
    refine .grow g ?_ t h
    split <;> exact .int _ _
  | intB b h =>
    obtain ⟨_, rfl, rv⟩ := r.one
    obtain rfl := Rep.boolI rv
    exact call_int_bool (.toks _ (.int _ _) t h)
  | intI i h =>
    obtain ⟨_, rfl, rv⟩ := r.one
    obtain ⟨u, rfl⟩ := rv.intI
    exact call_int_int (.toks s.toks (.int _ _) t h)
  | strI i k h =>
    obtain ⟨_, rfl, rv⟩ := r.one
    obtain ⟨u, rfl⟩ := rv.intI
    refine P.str_of_int ?_ (.toks _ (.str _ _) t h)
    by_cases z : i.natAbs = 0
    · rw [z]; decide
    · exact Nat.lt_of_lt_of_le ((Nat.log2_lt z).mpr (Nat.lt_of_lt_of_le k (by decide : (10 : Nat) ^ 18 ≤ 2 ^ 60))) (by decide)
  | abs i h =>
    obtain ⟨_, rfl, rv⟩ := r.one
    obtain ⟨u, rfl⟩ := rv.intI
    refine call_abs_int fun u' tk => .toks _ ?_ t h
    rw [show (if i < 0 then -i else i) = (i.natAbs : Int) by split <;> (first | lia | omega)]
    exact .int _ _
end
end Mine
end
section
open PySem PySem.Calls PyProof.Rows
namespace Mine
set_option autoImplicit false

noncomputable def ICls.T : ICls → Option String
  | .str => some "str" | .list => some "list" | .tuple => some "tuple" | .bool => some "bool" | .int => some "int" | _ => none

section
variable {cx : Cx} {F : Fm} {m : Loc} {H : AHeap} {s : Shared} {K : Bool → Prop} {X : XPost}
theorem inEmpty (h : Heap) : PySem.W.Frag.In [] h := fun _ _ e => nomatch e

theorem isiW_to {c : ICls} {p : PV} (h : isiW c p K H) : IsiW K H c p := h.to fun b e k => by
  unfold isiF at e
  split at e
  · split at e <;> cases e
    · exact .own k
    · exact .value k
  · split at e
    · split at e
      · cases e; exact .val (by assumption) (by assumption) k
      · cases e
    · cases e
theorem isi_val {c : ICls} {T : String} {v : Value} {p : PV} {n : Nat} {Q : Post} (hT : c.T = some T) (rv : Rep cx s.heap v p) (t : St cx F m H s.heap) (e : tagOf p = some n) (h : Q (.bool (c.hits n)) H) :
    Ev (Rep cx) cx F (call (.builtin "isinstance") [v, .type T]) m H s Q X := by
  cases rv <;> cases e
  · exact PySem.W.kia_one PySem.W.kitx_none (inEmpty _) trivial (by cases c <;> cases hT <;> decide +kernel) (by cases c <;> cases hT <;> simp) fun tk => .toks tk (.bool _) t h
  · exact PySem.W.kia_one PySem.W.kitx_bool (inEmpty _) trivial (by cases c <;> cases hT <;> decide +kernel) (by cases c <;> cases hT <;> simp) fun tk => .toks tk (.bool _) t h
  · exact PySem.W.kia_one PySem.W.kitx_int (inEmpty _) trivial (by cases c <;> cases hT <;> decide +kernel) (by cases c <;> cases hT <;> simp) fun tk => .toks tk (.bool _) t h
  · exact PySem.W.kia_one PySem.W.kitx_str (inEmpty _) trivial (by cases c <;> cases hT <;> decide +kernel) (by cases c <;> cases hT <;> simp) fun tk => .toks tk (.bool _) t h
  · exact PySem.W.kia_one PySem.W.kitx_tuple (inEmpty _) ⟨_, by assumption, rfl⟩ (by cases c <;> cases hT <;> decide +kernel) (by cases c <;> cases hT <;> simp) fun tk => .toks tk (.bool _) t h
theorem isi_list {c : ICls} {T : String} {a : Addr} {xs : List PV} {Q : Post} (hT : c.T = some T) (t : St cx F m H s.heap) (ha : H a = some (.list xs)) (h : Q (.bool (c.hits 5)) H) :
    Ev (Rep cx) cx F (call (.builtin "isinstance") [.ref a, .type T]) m H s Q X := by
  obtain ⟨items, n, g, r, l⟩ := t.list ha
  cases c <;> cases hT <;> exact PySem.W.kia_one PySem.W.kitx_list (inEmpty _) ⟨_, g, rfl⟩ (by decide +kernel) (by simp) fun tk => .toks tk (.bool _) t h
end
end Mine
end
section
open PySem PySem.Calls PyProof.Rows
namespace Mine
set_option autoImplicit false
open SeqAt (EqAt RcAt RcNeAt)

noncomputable def Meth.id : Meth → String
  | .append => "list.append" | .pop => "list.pop" | .dpop => "dict.pop" | .insert => "list.insert" | .count => "list.count" | .join => "str.join"
noncomputable def Meth.ty : Meth → String
  | .append => "list" | .pop => "list" | .dpop => "dict" | .insert => "list" | .count => "list" | .join => "str"

section
variable {cx : Cx} {F : Fm} {m : Loc} {H : AHeap} {s : Shared} {Q : Post} {X : XPost}

theorem lst_update {h : Heap} {l : Addr} {items : Array Value} {n : Nat} (x : h.get? l = some (lstObj items n)) (f : Array Value → Array Value) :
    ∃ n', (h.update l (Obj.mapSeq f)).get? l = some (lstObj (f items) n') := ⟨_, Heap.get?_update_self _ x rfl⟩
theorem upd_keeps {h : Heap} {l : Addr} {f : Obj → Obj} : ∀ b o, b ≠ l → h.get? b = some o → (h.update l f).get? b = some o := fun _ _ n e => (Heap.get?_update_other h f (Ne.symm n)).trans e

/-- a list's row put anew -/
theorem put_list {α β : Type} {R : Heap → α → β → Prop} {Q : β → AHeap → Prop} {l : Addr} {items : Array Value} {n : Nat} {xs ys : List PV} {f : Array Value → Array Value} {v : α} {p : β} {tk : Nat} (t : St cx F m H s.heap) (ha : H l = some (.list xs)) (g : s.heap.get? l = some (lstObj items n))
    (r : RepL cx s.heap (f items).toList ys) (ly : ys.length ≤ LIM) (rv : ∀ h', (∀ b o, s.heap.get? b = some o → Solid o → h'.get? b = some o) → R h' v p) (q : Q p (upd H l (.list ys))) :
    OkG R cx F m H s Q v { s with heap := s.heap.update l (Obj.mapSeq f), toks := tk } := by
  have so : ∀ b o, s.heap.get? b = some o → Solid o → (s.heap.update l (Obj.mapSeq f)).get? b = some o := fun b o e so => upd_keeps b o (by
    rintro rfl; rw [g] at e; cases e
    rcases so with ⟨i, n, q⟩ | ⟨n, t, u, v, q⟩ | ⟨⟨C, q⟩, _⟩ <;> simp [lstObj, tupObj, rngObj] at q) e
  obtain ⟨n', g'⟩ := lst_update g f
  have ro : RepO cx (s.heap.update l (Obj.mapSeq f)) l (.list ys) := ⟨f items, n', g', r.mono so, ly⟩
  exact .put ha upd_keeps (rv _ so) ro t q

theorem bools_rep {h : Heap} : ∀ {vs : List Value} {bs : List Bool}, RepL cx h vs (bs.map .bool) → vs = bs.map .bool
  | _, [], r => by cases r; rfl
  | _, b :: bs, r => by
    cases r with
    | cons a r => rw [a.boolI, bools_rep r]; rfl
theorem strs_rep {h : Heap} : ∀ {vs : List Value} {ss : List Str}, RepL cx h vs (ss.map .str) → StrsAre vs ss
  | _, [], r => by cases r; exact .nil
  | _, b :: bs, r => by
    cases r with
    | cons a r => obtain ⟨t, rfl⟩ := a.strI; exact .cons _ _ (strs_rep r)

noncomputable def isB (b : Bool) : Value → Bool
  | .bool c => c == b
  | _ => false
theorem count_isB (b : Bool) : ∀ bs : List Bool, (bs.map Value.bool).countP (isB b) = bs.count b
  | [] => rfl
  | c :: bs => by rw [List.map_cons, List.countP_cons, count_isB b bs, List.count_cons]; rfl

theorem meth_ok {k : Meth} {v : Value} {p : PV} {vs : List Value} {ps : List PV} (rv : Rep cx s.heap v p) (r : RepL cx s.heap vs ps) (t : St cx F m H s.heap) (h : methW k p ps Q H) : Ev (Rep cx) cx F (call (.builtin k.id) (v :: vs) []) m H s Q X := by
  have hL : LIM = 1048576 := rfl
  have hL' := LIM_le
  cases h with
  | append a xs x ha hlt h =>
    obtain ⟨_, rfl, rx⟩ := r.one
    (first | (obtain ⟨_, rfl⟩ := Rep.intI rv) | (obtain ⟨_, rfl⟩ := Rep.strI rv) | (obtain rfl := Rep.objI rv) | (obtain rfl := Rep.boolI rv) | (obtain rfl := Rep.noneI rv))
    obtain ⟨items, n, g, r, l⟩ := t.list ha
    have hk := arr_len r
    refine call_meets PySem.F.slot_list_append ⟨_, g, rfl⟩ PySem.F.entry_list_append (PySem.F.args_list_append_2 _ _) (list_append _ items n _ (by first | lia | omega)) ⟨g, ?_⟩
    exact put_list (R := Rep cx) (f := fun xs => xs.push _) t ha g (by simpa using r.append (.cons rx .nil)) (by simp; first | lia | omega) (fun _ _ => .none) (mutate_use h)
  | pop a ys x ha h =>
    obtain rfl := r.zero
    (first | (obtain ⟨_, rfl⟩ := Rep.intI rv) | (obtain ⟨_, rfl⟩ := Rep.strI rv) | (obtain rfl := Rep.objI rv) | (obtain rfl := Rep.boolI rv) | (obtain rfl := Rep.noneI rv))
    obtain ⟨items, n, g, r, l⟩ := t.list ha
    have hk := arr_len r
    simp only [List.length_append, List.length_cons, List.length_nil] at hk l
    obtain ⟨y, hy, ry⟩ := r.get (i := ys.length) (p := x) (by simp)
    rw [Array.getElem?_toList] at hy
    refine call_meets PySem.F.slot_list_pop ⟨_, g, rfl⟩ PySem.F.entry_list_pop (PySem.F.args_list_pop_1 _) (MeetsSeq.list_pop_last _ items n y (by rw [hk]; simpa using hy) (by first | lia | omega)) ⟨g, ?_⟩
    refine put_list (R := Rep cx) (f := fun xs => xs.eraseIdxIfInBounds (items.size - 1)) t ha g ?_ (by first | lia | omega) (fun _ so => ry.mono so) (mutate_use h)
    have e : (items.eraseIdxIfInBounds (items.size - 1)).toList = items.toList.take ys.length := by
      rw [Array.toList_eraseIdxIfInBounds, hk]
      rw [List.eraseIdx_eq_take_drop_succ]
      simp [List.drop_eq_nil_of_le, hk]
    rw [e]
    have := r.take ys.length
    simpa using this
  | insert a xs i x ha h0 h1 h2 h =>
    obtain ⟨_, _, rfl, ri, rx⟩ := r.two
    (first | (obtain ⟨_, rfl⟩ := Rep.intI rv) | (obtain ⟨_, rfl⟩ := Rep.strI rv) | (obtain rfl := Rep.objI rv) | (obtain rfl := Rep.boolI rv) | (obtain rfl := Rep.noneI rv))
    obtain ⟨u, rfl⟩ := ri.intI
    obtain ⟨items, n, g, r, l⟩ := t.list ha
    have hk := arr_len r
    refine call_meets PySem.F.slot_list_insert ⟨_, g, rfl⟩ PySem.F.entry_list_insert (PySem.F.args_list_insert_3 _ _ _) (AutoSeq1.list_insert_list_int_val_1 _ items n _ u _ ?_ (by first | lia | omega)) ⟨g, ?_⟩
    · unfold Builtin.List.listFitsIndex
      simp
      first | lia | omega
    refine put_list (R := Rep cx) (f := fun xs => have k := if i < 0 then (i + (xs.size : Int)).toNat else min i.toNat xs.size; (xs.extract 0 k).push _ ++ xs.extract k) t ha g ?_ (by simp; first | lia | omega) (fun _ _ => .none) (mutate_use h)
    have e : (if i < 0 then (i + (items.size : Int)).toNat else min i.toNat items.size) = i.toNat := by rw [if_neg (by first | lia | omega)]; first | lia | omega
    simp only [e]
    simp only [Array.toList_append, Array.toList_push, Array.toList_extract, List.extract_eq_take_drop]
    simp only [Nat.sub_zero, List.drop_zero, List.append_assoc, List.singleton_append]
    rw [show (List.drop i.toNat items.toList).take (items.size - i.toNat) = List.drop i.toNat items.toList by rw [List.take_of_length_le]; simp]
    exact (r.take _).append (.cons rx (r.drop _))
  | count a bs b ha h =>
    obtain ⟨_, rfl, rx⟩ := r.one
    (first | (obtain ⟨_, rfl⟩ := Rep.intI rv) | (obtain ⟨_, rfl⟩ := Rep.strI rv) | (obtain rfl := Rep.objI rv) | (obtain rfl := Rep.boolI rv) | (obtain rfl := Rep.noneI rv)); (first | (obtain ⟨_, rfl⟩ := Rep.intI rx) | (obtain ⟨_, rfl⟩ := Rep.strI rx) | (obtain rfl := Rep.objI rx) | (obtain rfl := Rep.boolI rx) | (obtain rfl := Rep.noneI rx))
    obtain ⟨items, n, g, r, l⟩ := t.list ha
    have hv := bools_rep r
    refine call_meets PySem.F.slot_list_count ⟨_, g, rfl⟩ PySem.F.entry_list_count (PySem.F.args_list_count_2 _ _) (SeqAt.list_countAt _ items n none #[] (.bool b) (isB b)) ⟨g, fun y hy => ?_, ?_⟩
    · have : y ∈ bs.map Value.bool := by rw [← hv]; simpa using hy
      obtain ⟨c, _, rfl⟩ := List.mem_map.mp this
      exact EqAt.bool_bool c b
    · rw [hv, count_isB]
      exact .toks _ (.int _ _) t h
  | join sep a ss ha h0 hs h =>
    obtain ⟨_, rfl, rx⟩ := r.one
    obtain ⟨u, rfl⟩ := rv.strI
    (first | (obtain ⟨_, rfl⟩ := Rep.intI rx) | (obtain ⟨_, rfl⟩ := Rep.strI rx) | (obtain rfl := Rep.objI rx) | (obtain rfl := Rep.boolI rx) | (obtain rfl := Rep.noneI rx))
    obtain ⟨items, n, g, r, l⟩ := t.list ha
    refine join_list (isList_of g) (strs_rep r) (by rw [h0]; first | lia | omega) fun t' k => ?_
    rw [show Txt.join _ ss = Str.join _ ss from StrLaws.glued_eq_join _ _]
    exact .toks _ (.str _ _) t h
end
end Mine
end
section
open PySem PySem.Calls PyProof.Rows
namespace Mine
set_option autoImplicit false

section
variable {prog : Program} {w : World} {A : Around} {E : Value → Shared → Prop} {s : Shared}
theorem set_lst0 {l : Addr} {items : Array Value} {n : Nat} {k : Int} {t : Tok} {v : Value} {Q : Unit → Shared → Prop} (g : s.heap.get? l = some (lstObj items n))
    (h0 : 0 ≤ k) (hfit : k < 2 ^ 63) (hn : k < items.size) (hQ : Q () { s with heap := s.heap.update l (Obj.mapSeq (·.setIfInBounds k.toNat v)) }) :
    wpAny (model prog w) A (setItem (.ref l) (.int k t) v) Q E s := by
  have hl := isList_of g
  unfold setItem
  try with_reducible refine wpAny_holding ?_
  first | refine wpAny_bind (wpAny_pure ?_) | skip
  refine wpAny_bind (wpAny_sequenceKey hl.typeIs (by decide) ?_)
  refine wpAny_bind (wpAny_callSpecial?_slot (name := Str.ofString "__setitem__") hl.typeIs slot_list_setitem
    (wpAny_call_entry slot_list_setitem hl.typeIs entry_list_setitem ?_ (args_list_setitem _ _ _)))
  show wpAny _ _ (Builtin.List.listSubscript? (.int k t) >>= _) _ _ s
  refine wpAny_bind (wpAny_listSubscript_int (fitsIndex_of h0 hfit) ?_)
  clear hfit
  obtain ⟨j, rfl⟩ := Int.eq_ofNat_of_zero_le h0
  have hn : j < items.size := by first | lia | omega
  show wpAny _ _ ((seqItemAt l j >>= fun r => pure (r.map (j, ·))) >>= _) _ _ s
  refine wpAny_bind (wpAny_bind (wpAny_seqItemAt g rfl (wpAny_pure ?_)))
  rw [show items[j]? = some items[j] from Array.getElem?_eq_getElem hn]
  show wpAny _ _ (setSeqItemAt l j v >>= _) _ _ s
  refine wpAny_bind (wpAny_setSeqItemAt g rfl ?_)
  first
    | exact wpAny_bind (wpAny_pure (wpAny_pure ⟨.none, rfl, wpAny_pure hQ⟩))
    | exact wpAny_pure ⟨.none, rfl, wpAny_pure hQ⟩
end

section
variable {cx : Cx} {F : Fm} {m : Loc} {H : AHeap} {s : Shared} {Q : Post} {X : XPost}

theorem RepK.any {h : Heap} {k : Str} : ∀ {vs : List (Str × Value)} {ps : List (Str × PV)}, RepK cx h vs ps → vs.any (fun kv => decide (kv.1 = k)) = ps.any (fun kv => decide (kv.1 = k))
  | _, _, .nil => rfl
  | _, _, .cons _ r => by simp only [List.any_cons]; rw [RepK.any r]
theorem RepK.map {h : Heap} {k : Str} {v : Value} {p : PV} (r : Rep cx h v p) : ∀ {vs : List (Str × Value)} {ps : List (Str × PV)}, RepK cx h vs ps →
    RepK cx h (vs.map fun kv => if kv.1 = k then (kv.1, v) else kv) (ps.map fun kv => if kv.1 = k then (kv.1, p) else kv)
  | _, _, .nil => .nil
  | _, _, .cons (k := k') a rs => by
    simp only [List.map_cons]
    by_cases q : k' = k
    · simp only [q, if_true]; exact .cons r (RepK.map r rs)
    · simp only [q, if_false]; exact .cons a (RepK.map r rs)
theorem RepK.snoc {h : Heap} {k : Str} {v : Value} {p : PV} (r : Rep cx h v p) : ∀ {vs : List (Str × Value)} {ps : List (Str × PV)}, RepK cx h vs ps → RepK cx h (vs ++ [(k, v)]) (ps ++ [(k, p)])
  | _, _, .nil => .cons r .nil
  | _, _, .cons a rs => .cons a (RepK.snoc r rs)
theorem RepK.dset {h : Heap} {k : Str} {v : Value} {p : PV} {vs : List (Str × Value)} {ps : List (Str × PV)} (rs : RepK cx h vs ps) (r : Rep cx h v p) : RepK cx h (stored vs k v) (dset ps k p) := by
  unfold stored Mine.dset
  rw [RepK.any rs]
  split
  · exact RepK.map r rs
  · exact RepK.snoc r rs
theorem dset_length_le {α : Type} (kvs : List (Str × α)) (k : Str) (v : α) : (dset kvs k v).length ≤ kvs.length + 1 := by
  unfold dset; split <;> simp

theorem SameBut.keeps {h h' : Heap} {a : Addr} (x : Heap.SameBut a h h') : ∀ b o, b ≠ a → h.get? b = some o → h'.get? b = some o := fun b o n e => by
  have := x.2 b n
  rw [this]; exact e

theorem store_ok {v i x : Value} {p q y : PV} {K : AHeap → Prop} (rv : Rep cx s.heap v p) (ri : Rep cx s.heap i q) (rx : Rep cx s.heap x y) (t : St cx F m H s.heap) (h : StoreW K H p q y) :
    Ev (fun _ (_ : Unit) (_ : Unit) => True) cx F (setItem v i x) m H s (fun _ H => K H) X := by
  have hL : LIM = 1048576 := rfl
  have hL' := LIM_le
  cases h with
  | list ha h0 h1 h =>
    rename_i a xs k
    obtain rfl := Rep.objI rv
    obtain ⟨u, rfl⟩ := ri.intI
    obtain ⟨items, n, g, r, l⟩ := t.list ha
    have hk := arr_len r
    refine set_lst0 g h0 (by first | lia | omega) (by first | lia | omega) ?_
    exact put_list (p := ()) (tk := s.toks) (f := (·.setIfInBounds k.toNat x)) t ha g (by simpa using r.set k.toNat rx) (by simp; first | lia | omega) (fun _ _ => trivial) (mutate_use h)
  | dict ha h1 h =>
    rename_i a kvs k
    obtain rfl := Rep.objI rv
    obtain ⟨u, rfl⟩ := ri.strI
    obtain ⟨vs, d, r, l, hn⟩ := t.dict ha
    have hk := r.length
    refine wpAny_setItem_pairs (knd := cx.sk) (k := k) (by simp [Cx.sk, PySem.strKind, Value.isStrOf]) d (fun h' d' sb => ?_) (by first | lia | omega)
    have hs := SameBut.keeps sb
    have so : ∀ b o, s.heap.get? b = some o → Solid o → h'.get? b = some o := fun b o e so => hs b o (by
      rintro rfl
      obtain ⟨ob, e', n, _⟩ := (t.heap _ _ ha).get; rw [e] at e'; cases e'; exact n so) e
    have ro : RepO cx h' a (.dict (dset kvs k y)) := ⟨_, d', (r.dset rx).mono so, Nat.le_trans (dset_length_le ..) (by first | lia | omega), hn⟩
    exact .put (b := ()) ha hs trivial ro t (mutate_use h)
  | tape ha h0 h =>
    rename_i a n0 j
    obtain rfl := Rep.objI rv
    obtain ⟨u, rfl⟩ := ri.intI
    obtain ⟨u', rfl⟩ := rx.intI
    obtain ⟨tt, n, g⟩ := t.heap _ _ ha
    obtain ⟨j, rfl⟩ := Int.eq_ofNat_of_zero_le h0
    refine set_lst0 g (by first | lia | omega) (by first | lia | omega) (by simp) ?_
    obtain ⟨n', g'⟩ := lst_update g (·.setIfInBounds 0 (.int j u'))
    have ro : RepO cx (s.heap.update a (Obj.mapSeq (·.setIfInBounds 0 (.int j u')))) a (.tape j) := ⟨u', n', by simpa using g'⟩
    exact .put (b := ()) (tk := s.toks) ha upd_keeps trivial ro t (mutate_use h)
end
end Mine
end
section
open PySem PySem.Calls PyProof.Rows
namespace Mine
set_option autoImplicit false

/-! static facts -/
abbrev Kd := Str → Option NameKind
noncomputable def onms : List (Str × Nat) := [("StackError", 0), ("Empty", 1), ("WrongKind", 2), ("NoBlock", 3), ("Apart", 4), ("Dry", 5)]
noncomputable def onm (x : Str) : Option Nat := onms.lookup x
noncomputable def relab (kd : Kd) (sc : Scope) : Kd := fun x => (sc.names.map fun (n, k) => if (k == .free && kd n == some .cell) then (n, .cell) else (n, k)).lookup x
noncomputable def isVar (kd : Kd) (x : Str) : Bool := kd x == some .local || kd x == some .cell || kd x == some .free
noncomputable def isGlob (kd : Kd) (x : Str) : Bool := kd x == some .globalImplicit && !(x == ("__debug__" : Str))
noncomputable def visC (kd' : Kd) (nm : List Str) (vis : Nat → Bool) (x : Nat) : Nat → Bool := fun i => i == x || (vis i && (kd' (slot nm i) == some .cell || kd' (slot nm i) == some .free))
noncomputable def scOk (kd kd' : Kd) (sc : Scope) (x : Str) : Bool := decide (sc.kind = .function) && !sc.isGenerator && !sc.isCoroutine && sc.names.all (fun p => p.2 != .cell) && sc.names.all (fun p => p.2 != .local || sc.names.lookup p.1 == some .local)
  && sc.names.all (fun p => p.2 != .free || kd p.1 == some .cell || kd p.1 == some .free) && kd' x == some .local && !(x == ("__debug__" : Str))
noncomputable def blbase : AE → Bool
  | .call _ .nil _ _ => false
  | .blt _ .nil _ _ => false
  | .new _ _ _ => false
  | _ => true
noncomputable def iclsOk (kd : Kd) : ICls → Bool
  | .str => isGlob kd "str" | .list => isGlob kd "list" | .tuple => isGlob kd "tuple" | .bool => isGlob kd "bool" | .int => isGlob kd "int"
  | .intstr => isGlob kd "int" && isGlob kd "str" | .value => isGlob kd "ValueError" | .own c x => isGlob kd x && onm x == some c
noncomputable def AEs.len : AEs → Nat
  | .nil => 0
  | .cons _ es => es.len + 1
noncomputable def AEs.lits : AEs → Bool
  | .nil => true
  | .cons (.lit _ _ _) es => es.lits
  | .cons _ _ => false
/-! the program's own class: methods, attributes -/
noncomputable def mtab : List (Str × Str) := [("__init__", "Machine.__init__"), ("settle", "Machine.settle"), ("over", "Machine.over"), ("goal_of", "Machine.goal_of"), ("step", "Machine.step")]
noncomputable def isMeth (f : Str) : Bool := mtab.any fun p => p.2 == f
noncomputable def atns : List Str := ["program", "stack", "frames"]
noncomputable def fad (cx : Cx) (mg : Str → Option Value) (f : Str) : Option Value := match mtab.find? fun p => p.2 == f with
  | some p => cx.mN p.1
  | none => mg f
section
variable (fl : List Str) (nm : List Str)
mutual
noncomputable def okE (q : Bool) (vis : Nat → Bool) (kd : Kd) : AE → Bool
  | .lit _ _ _ => true
  | .var i _ => vis i && isVar kd (slot nm i) && !(slot nm i == ("__debug__" : Str)) && !(slot nm i == ("__classdict__" : Str))
  | .glob x _ => isGlob kd x
  | .bin l _ r _ => okE q vis kd l && okE q vis kd r
  | .neg e _ => okE q vis kd e
  | .not e _ => okE q vis kd e
  | .bop _ es _ => okEs q vis kd es
  | .cmp l _ r _ => okE q vis kd l && okE q vis kd r
  | .sub e i _ => okE q vis kd e && okE q vis kd i
  | .sfrom e i _ _ => okE q vis kd e && okE q vis kd i
  | .sto e i _ _ => okE q vis kd e && okE q vis kd i
  | .srev e _ _ _ _ => okE q vis kd e
  | .tup es _ _ => okEs q vis kd es && decide (es.len ≤ 100)
  | .list es _ => okEs q vis kd es && decide (es.len ≤ 100)
  | .tape _ _ => true
  | .dict ks vs _ => vs.lits && decide (ks.length = vs.len) && decide (vs.len ≤ 15)
  | .call f es _ _ => q && isGlob kd f && fl.contains f && okEs q vis kd es && !isMeth f
  | .blt b es _ _ => q && isGlob kd b.name && okEs q vis kd es
  | .isi e c _ _ _ _ _ => isGlob kd "isinstance" && iclsOk kd c && okE q vis kd e
  | .meth o _ es pa p => okE q vis kd o && okEs q vis kd es && (pa.endLine == p.line) && decide (es.len ≤ 3) && blbase o
  | .umeth o c m es pa p => okE q vis kd o && okEs q vis kd es && (pa.endLine == p.line) && decide (es.len ≤ 3) && blbase o && fl.contains c && q && decide (mtab.lookup m = some c)
  | .attr o m _ => okE q vis kd o && blbase o && decide (m ∈ atns)
  | .new es _ _ => q && isGlob kd "Machine" && fl.contains "Machine.__init__" && okEs q vis kd es && decide (0 < es.len)
  | .comp e x _ it cs sc _ => okE q vis kd it && scOk kd (relab kd sc) sc (slot nm x) && okE q (visC (relab kd sc) nm vis x) (relab kd sc) e && okEs q (visC (relab kd sc) nm vis x) (relab kd sc) cs && decide (cs.len ≤ 1) && q
noncomputable def okEs (q : Bool) (vis : Nat → Bool) (kd : Kd) : AEs → Bool
  | .nil => true
  | .cons e es => okE q vis kd e && okEs q vis kd es
end
end

structure Fok (cx : Cx) (n : Nat) (q : Bool) (kd : Kd) (F : Fm) : Prop where
  fr : F.A.frames = some F.fs
  kind : F.env.scope.kind = .function
  kdo : F.env.kindOf = kd
  glob : F.env.globals = cx.ga
  bltn : F.env.builtins = cx.ba
  quiet : q = true → F.A.handled = none
  depth : F.A.depth + 2 * n + 1 ≤ 900
  units : F.A.units + 8 * n + 204 ≤ cLine
  cells : ∀ x, (kd x = some .cell ∨ kd x = some .free) → ∃ c, F.env.cells.lookup x = some c
  apart : ∀ x y c, F.env.cells.lookup x = some c → F.env.cells.lookup y = some c → x = y
  inj : ∀ i j, F.vis i = true → F.vis j = true → slot F.nm i = slot F.nm j → i = j

/-- what a call asks of its frame -/
structure Fcl (n : Nat) (F : Fm) : Prop where
  fr : F.A.frames = some F.fs
  quiet : F.A.handled = none
  depth : F.A.depth + 2 * n ≤ 900
  units : F.A.units + 8 * n + 200 ≤ cLine
structure Cok (cx : Cx) (g : Gl) (fl : List Str) (mg mb : Str → Option Value) (n : Nat) : Prop where
  gns : cx.B.Ns cx.ga mg
  mods : ∃ a o, sysModules < a ∧ cx.B.get? a = some o
  bns : cx.B.Ns cx.ba mb
  consts : ∀ x p, g.G x = some p → ∃ v, mg x = some v ∧ Rep cx cx.B v p
  blts : ∀ b : Blt, mg b.name = none ∧ mb b.name = some b.val
  isi : mg "isinstance" = none ∧ mb "isinstance" = some (.builtin "isinstance")
  bty : ∀ T ∈ ["str", "list", "tuple", "bool", "int", "ValueError"], mg (Str.ofString T) = none ∧ mb (Str.ofString T) = some (.type T)
  own : ∀ x c, onm x = some c → ∃ C, cx.cls c = some C ∧ mg x = some (.ref C)
  isx : ∀ {F : Fm} {m : Loc} {H : AHeap} {s : Shared} {Q : Post} {X : XPost} {e : Value} {k c : Nat} {C : Addr}, Rep cx s.heap e (.exc k) → St cx F m H s.heap → cx.cls c = some C → Q (.bool (isSub k c)) H →
    Ev (Rep cx) cx F (call (.builtin "isinstance") [e, .ref C]) m H s Q X
  isv : ∀ {F : Fm} {m : Loc} {H : AHeap} {s : Shared} {Q : Post} {X : XPost} {e : Value} {k : Nat}, Rep cx s.heap e (.exc k) → St cx F m H s.heap → Q (.bool true) H →
    Ev (Rep cx) cx F (call (.builtin "isinstance") [e, .type "ValueError"]) m H s Q X
  rais : ∀ {F : Fm} {kd : Kd} {m : Loc} {H : AHeap} {s : Shared} {c : Nat} {x msg : Str} {k : Nat} {pc pm pk p : Pos} {QQ : Flow → Shared → Prop} {E : Value → Shared → Prop}, Fok cx n true kd F → isGlob kd x = true → onm x = some c → St cx F m H s.heap →
    (∀ e s', Exc cx F.env.frame s.heap s'.heap e c → St cx F m H s'.heap → Kp cx [] H s H s' → E (.ref e) s') → wpAny cx.M F.A (exec (.Raise (some (.Call (.Name x pc) [.Constant (.str msg) k pm] [] pk)) none p) F.env) QQ E s
  mats : ∀ {A : Around} {s : Shared} {e : Value} {k c : Nat} {C : Addr} {QQ : Bool → Shared → Prop} {E : Value → Shared → Prop}, cx.B.StaysIn s.heap → Rep cx s.heap e (.exc k) → cx.cls c = some C → (∀ tk, QQ (isSub k c) { s with toks := tk }) → wpAny cx.M A (excMatches e (.ref C)) QQ E s
  mach : ∃ C N, cx.icls = some C ∧ mg "Machine" = some (.ref C) ∧ ClsAt cx.B C N cx.mN ∧ ∀ x ∈ (["__getattribute__", "__getattr__", "__setattr__"] : List Str) ++ atns, cx.mN x = none
  fns : ∀ f, fl.contains f = true → ∃ a o fd, fad cx mg f = some (.ref a) ∧ cx.B.get? a = some o ∧ o.data = .func fd ∧ (isMeth f = true → o.cls = .type "function")
  calls : ∀ f, fl.contains f = true → ∀ {ps : List PV} {H : AHeap} {Q : Post} {X : XPost}, g.C f ps H Q X → ∀ {F : Fm} {m : Loc} {s : Shared} {vs : List Value} {a : Addr}, Fcl n F → fad cx mg f = some (.ref a) →
    RepL cx s.heap vs ps → St cx F m H s.heap → Ev (Rep cx) cx F (call (.ref a) vs []) m H s Q X
theorem Fok.fcl {cx : Cx} {n : Nat} {kd : Kd} {F : Fm} (fo : Fok cx n true kd F) : Fcl n F := ⟨fo.fr, fo.quiet rfl, by have := fo.depth; (first | lia | omega), by have := fo.units; (first | lia | omega)⟩
theorem fad_glob {cx : Cx} {mg : Str → Option Value} {f : Str} (h : isMeth f = false) : fad cx mg f = mg f := by
  unfold fad
  cases e : mtab.find? fun p => p.2 == f with
  | none => rfl
  | some p =>
    have h1 := List.find?_some e
    have : isMeth f = true := List.any_eq_true.mpr ⟨p, List.mem_of_find?_eq_some e, h1⟩
    rw [h] at this; cases this
end Mine
end
section
open PySem PySem.Calls PyProof.Rows
namespace Mine
set_option autoImplicit false

section
variable {cx : Cx} {F : Fm} {m : Loc} {H H' : AHeap} {s s' : Shared} {I : Addr}

/-- nothing but I's record changes -/
noncomputable def Tch (I : Addr) (s s' : Shared) : Prop := ∃ h' tk, s' = { s with heap := h', toks := tk } ∧ ∀ b o, b ≠ I → s.heap.get? b = some o → h'.get? b = some o
noncomputable def Clean (cx : Cx) (H : AHeap) (h : Heap) (I : Addr) : Prop := H I = none ∧ cx.B.get? I = none ∧ ∃ o T vs, h.get? I = some o ∧ o.cls = .type T ∧ T ≠ "range" ∧ o.data = .fields vs

theorem notSolid_of {o : Obj} {T : String} {vs : Array Value} (hc : o.cls = .type T) (hT : T ≠ "range") (hd : o.data = .fields vs) : ¬ Solid o := by
  rintro (⟨i, n, rfl⟩ | ⟨n, t, u, v, rfl⟩ | ⟨⟨C, q⟩, _⟩)
  · cases hd
  · simp [rngObj] at hc; exact hT hc.symm
  · rw [hc] at q; cases q

theorem Holds.keepBut {h h' : Heap} (k : Holds cx h H) (hI : H I = none) (g : ∀ b o, b ≠ I → h.get? b = some o → h'.get? b = some o) (ns : ∀ o, h.get? I = some o → ¬ Solid o) : Holds cx h' H := fun b x e => by
  have q : b ≠ I := by rintro rfl; rw [hI] at e; cases e
  have r := k b x e
  have so : ∀ b o, h.get? b = some o → Solid o → h'.get? b = some o := fun b o e s => g b o (by rintro rfl; exact ns o e s) e
  cases x with
  | list xs => obtain ⟨items, n, e, r, l⟩ := r; exact ⟨items, n, g _ _ q e, r.mono so, l⟩
  | tape k => obtain ⟨t, n, e⟩ := r; exact ⟨t, n, g _ _ q e⟩
  | dict kvs => obtain ⟨vs, d, r, l⟩ := r; exact ⟨vs, (let ⟨o, es, ep, ho, y⟩ := d; ⟨o, es, ep, g _ _ q ho, y⟩), r.mono so, l⟩
  | inst d => obtain ⟨C, o, x, e, y⟩ := r; exact ⟨C, o, x, g _ _ q e, y⟩
  | attrs kvs => obtain ⟨m, n1, ed, f, n, l⟩ := r; exact ⟨m, (let ⟨o, es, ep, e, y⟩ := n1; ⟨o, es, ep, g _ _ q e, y⟩), (let ⟨od, e, y⟩ := ed; ⟨od, g _ _ q e, y⟩), fun x p e => let ⟨v, a, b⟩ := f x p e; ⟨v, a, b.mono so⟩, n, l⟩

theorem St.touch {h h' : Heap} (t : St cx F m H h) (c : Clean cx H h I) (k : ∀ b o, b ≠ I → h.get? b = some o → h'.get? b = some o) : St cx F m H h' := by
  obtain ⟨hI, hB, oI, T, vs, gI, hc, hT, hd⟩ := c
  have ns : ∀ o, h.get? I = some o → ¬ Solid o := fun o e => by rw [gI] at e; cases e; exact notSolid_of hc hT hd
  have so : ∀ b o, h.get? b = some o → Solid o → h'.get? b = some o := fun b o e s => k b o (by rintro rfl; exact ns o e s) e
  have nd : ∀ b o es ep, h.get? b = some o → o.data = .dict es ep → b ≠ I := fun b o es ep e q => by rintro rfl; rw [gI] at e; cases e; rw [hd] at q; cases q
  refine ⟨fun b o e => k b o (by rintro rfl; rw [hB] at e; cases e) (t.base b o e), t.off, t.heap.keepBut hI k ns, fun env he => ?_, t.own, ?_, fun n c hc' => ?_⟩
  · obtain ⟨hk, L, o, es, ep, hf, hH, hb, ho, hd'⟩ := t.frames env he
    exact ⟨hk, L, o, es, ep, hf, hH, hb, k L o (nd L o es ep ho hd') ho, hd'⟩
  · obtain ⟨o, es, ep, mc, ho, hd', ⟨o1, es1, ep1, ho1, hd1, hk1, hm1⟩, hv⟩ := t.vars
    have n := nd _ o es ep ho hd'
    exact ⟨o, es, ep, mc, k _ o n ho, hd', ⟨o1, es1, ep1, k _ o1 n ho1, hd1, hk1, hm1⟩, fun i v h1 h2 h3 => let ⟨x, q, r⟩ := hv i v h1 h2 h3; ⟨x, q, r.mono so⟩⟩
  · obtain ⟨h1, h2, o, x, ho, hd', hv⟩ := t.cells n c hc'
    exact ⟨h1, h2, o, x, k c o (by rintro rfl; rw [gI] at ho; cases ho; rw [hd] at hd'; cases hd') ho, hd', fun i v a b c d => let ⟨y, q, r⟩ := hv i v a b c d; ⟨y, q, r.mono so⟩⟩

theorem Kp.touch {S : List Addr} {H₁ : AHeap} {s₁ s₂ : Shared} (k : Kp cx S H s H₁ s₁) (f : s.heap.get? I = none) (tc : Tch I s₁ s₂) (hB : cx.B.get? I = none) : Kp cx S H s H₁ s₂ := by
  obtain ⟨h', tk, rfl, g⟩ := tc
  have n : ∀ b o, s.heap.get? b = some o → b ≠ I := fun b o e => by rintro rfl; rw [f] at e; cases e
  refine ⟨?_, fun b o e hS hH => ?_, fun b o e => ?_, fun b o e e' => ?_⟩
  · obtain ⟨h, t, rfl⟩ := k.same; exact ⟨h', tk, rfl⟩
  · obtain ⟨h1, o', e', sm⟩ := k.keep b o e hS hH; exact ⟨h1, o', g b o' (n b o e) e', sm⟩
  · obtain ⟨o', e'⟩ := k.alive b o e; exact ⟨o', g b o' (n b o e) e'⟩
  · exact g b o (by rintro rfl; rw [hB] at e; cases e) (k.base b o e e')

noncomputable def Src (p : PV) (xs : List PV) (H : AHeap) : Prop :=
  match p with
  | .obj a => H a = some (.list xs)
  | _ => True
noncomputable def Itr (cx : Cx) (h : Heap) (I : Addr) (i : Nat) (xs : List PV) : PV → Prop
  | .obj a => h.IsListIter I a i ∧ a ≠ I
  | .tup _ => ∃ t items n, h.IsTupleIter I t i ∧ h.get? t = some (tupObj items n) ∧ RepL cx h items.toList xs ∧ t ≠ I
  | .rng n => IsRangeIter h I i ((n.toNat : Int) - i) 1 ∧ xs = (List.range n.toNat).map fun i => .int i
  | _ => False

theorem Itr.clean {h : Heap} {i : Nat} {xs : List PV} {p : PV} (it : Itr cx h I i xs p) : ∃ o T vs, h.get? I = some o ∧ o.cls = .type T ∧ T ≠ "range" ∧ o.data = .fields vs := by
  cases p <;> try exact it.elim
  · obtain ⟨t, items, n, ⟨o, ho, hc, hd⟩, _⟩ := it; exact ⟨o, _, _, ho, hc, by decide, hd⟩
  · obtain ⟨⟨o, ho, hc, hd⟩, _⟩ := it; exact ⟨o, _, _, ho, hc, by decide, hd⟩
  · exact ⟨_, _, _, it.1, rfl, by decide, rfl⟩
theorem Itr.keep {h h' : Heap} {i : Nat} {xs : List PV} {p : PV} (it : Itr cx h I i xs p) (so : ∀ b o, h.get? b = some o → Solid o → h'.get? b = some o) (kI : ∀ o, h.get? I = some o → h'.get? I = some o) : Itr cx h' I i xs p := by
  cases p <;> try exact it.elim
  · obtain ⟨t, items, n, ⟨o, ho, hc, hd⟩, ht, r, ne⟩ := it
    exact ⟨t, items, n, ⟨o, kI o ho, hc, hd⟩, so _ _ ht (.inl ⟨_, _, rfl⟩), r.mono so, ne⟩
  · obtain ⟨⟨o, ho, hc, hd⟩, ne⟩ := it
    exact ⟨⟨o, kI o ho, hc, hd⟩, ne⟩
  · exact ⟨kI _ it.1, it.2⟩

theorem itemsW_to {p : PV} {K : List PV → (AHeap → Prop) → Prop} (h : itemsW p K H) : ItemsW K H p := h.to fun xs e k => by
  unfold itemsF at e
  split at e <;> cases e
  · exact .tup k
  · exact .rng k
theorem iter_ok {v : Value} {p : PV} {K : List PV → (AHeap → Prop) → Prop} {Q : Value → Shared → Prop} {E : Value → Shared → Prop} (rv : Rep cx s.heap v p) (t : St cx F m H s.heap) (h : itemsW p K H)
    (hQ : ∀ I xs h', s.heap.get? I = none → (∀ b o, s.heap.get? b = some o → h'.get? b = some o) → Itr cx h' I 0 xs p → Clean cx H h' I → Src p xs H → xs.length ≤ LIM → K xs (Src p xs) → Q (.ref I) { s with heap := h' }) :
    wpAny cx.M F.A (pyIter v) Q E s := by
  have hL : LIM = 1048576 := rfl
  have fr := get_size_none s.heap
  have hH : H s.heap.objs.size = none := t.heap.fresh fr
  have hB : cx.B.get? s.heap.objs.size = none := by
    cases e : cx.B.get? s.heap.objs.size with
    | none => rfl
    | some o => have := t.base _ _ e; rw [fr] at this; cases this
  replace h := itemsW_to h
  cases h with
  | tup h =>
    obtain ⟨a, items, n, rfl, g, l, r⟩ := rv.tupI
    refine wpAny_pyIter_tuple (isTuple_of g) (hQ _ _ _ fr push_keeps ⟨a, items, n, ⟨_, Heap.get?_push_size _ rfl, rfl, rfl⟩, push_keeps _ _ g, r.mono fun b o e _ => push_keeps b o e, ?_⟩ ⟨hH, hB, _, _, _, Heap.get?_push_size _ rfl, rfl, by decide, rfl⟩ trivial l h)
    rintro rfl; rw [fr] at g; cases g
  | rng h =>
    rename_i n
    obtain ⟨a, t1, u1, v1, rfl, g, l⟩ := rv.rngI
    have e : Builtin.Range.rangeSize 0 n 1 = n.toNat := by unfold Builtin.Range.rangeSize; simp; split <;> (first | lia | omega)
    refine wpAny_pyIter_range g ?_ (hQ _ _ _ fr push_keeps ⟨?_, rfl⟩ ⟨hH, hB, _, _, _, Heap.get?_push_size _ rfl, rfl, by decide, rfl⟩ trivial ?_ h)
    · unfold Builtin.Range.small Builtin.Range.rangeFitsLong
      rw [e]
      simp
      first | lia | omega
    · rw [e]
      show _ = some _
      rw [Heap.get?_push_size _ rfl]
      simp
    · simp; first | lia | omega
  | list ha h =>
      obtain rfl := Rep.objI rv
      obtain ⟨items, n, g, r, l⟩ := t.list ha
      refine wpAny_pyIter_list (isList_of g) (hQ _ _ _ fr push_keeps ⟨⟨_, Heap.get?_push_size _ rfl, rfl, rfl⟩, ?_⟩ ⟨hH, hB, _, _, _, Heap.get?_push_size _ rfl, rfl, by decide, rfl⟩ ha l h)
      rintro rfl; rw [fr] at g; cases g

theorem next_ok {i : Nat} {xs : List PV} {p x : PV} {Q : Option Value → Shared → Prop} {E : Value → Shared → Prop} (t : St cx F m H s.heap) (it : Itr cx s.heap I i xs p) (sr : Src p xs H) (cl : Clean cx H s.heap I) (xi : xs[i]? = some x)
    (hQ : ∀ v s', Rep cx s'.heap v x → Itr cx s'.heap I (i + 1) xs p → Clean cx H s'.heap I → Tch I s s' → Q (some v) s') : wpAny cx.M F.A (pyNext (.ref I)) Q E s := by
  obtain ⟨hI, hB, oI, T, vs, gI, hc, hT, hd⟩ := cl
  have so : ∀ h', Heap.SameBut I s.heap h' → ∀ b o, s.heap.get? b = some o → Solid o → h'.get? b = some o := fun h' sb b o e so => by
    rw [sb.2 b (by rintro rfl; rw [gI] at e; cases e; exact notSolid_of hc hT hd so)]; exact e
  have fin : ∀ v h' tk, Heap.SameBut I s.heap h' → Rep cx s.heap v x → Itr cx h' I (i + 1) xs p → Q (some v) { s with heap := h', toks := tk } := fun v h' tk sb r it' =>
    hQ v _ (r.mono (so h' sb)) it' ⟨hI, hB, it'.clean⟩ ⟨h', tk, rfl, fun b o n e => by rw [sb.2 b n]; exact e⟩
  cases p <;> try exact it.elim
  · obtain ⟨tt, items, n, hit, g, r, ne⟩ := it
    obtain ⟨v, ev, rv⟩ := r.get xi
    rw [Array.getElem?_toList] at ev
    refine wpAny_pyNext_tuple_item hit (isTuple_of g) ev fun h' hit' sb => fin v h' s.toks sb rv ⟨tt, items, n, hit', ?_, r.mono (so h' sb), ne⟩
    rw [sb.2 _ ne]; exact g
  · obtain ⟨hit, ne⟩ := it
    obtain ⟨items, n, g, r, l⟩ := t.list sr
    obtain ⟨v, ev, rv⟩ := r.get xi
    rw [Array.getElem?_toList] at ev
    exact wpAny_pyNext_list_item hit (isList_of g) ev fun h' hit' sb => fin v h' s.toks sb rv ⟨hit', ne⟩
  · obtain ⟨hit, rfl⟩ := it
    simp only [List.getElem?_map] at xi
    obtain ⟨j, hj, rfl⟩ := Option.map_eq_some_iff.mp xi
    have hlt := (List.getElem?_eq_some_iff.mp hj).1
    simp at hlt
    have hj' : j = i := by simpa [hlt] using hj.symm
    subst hj'
    refine wpAny_pyNext_range_item hit (by first | lia | omega) fun h' hit' sb => fin _ h' _ sb (.int _ _) ⟨?_, rfl⟩
    have e1 : ((j + 1 : Nat) : Int) = (j : Int) + 1 := by first | lia | omega
    have e2 : ∀ n : Nat, (n : Int) - ((j + 1 : Nat) : Int) = (n : Int) - (j : Int) - 1 := by intro n; first | lia | omega
    rw [e2, e1]; exact hit'

theorem end_ok {i : Nat} {xs : List PV} {p : PV} {Q : Option Value → Shared → Prop} {E : Value → Shared → Prop} (hh : F.A.handled = none) (t : St cx F m H s.heap) (it : Itr cx s.heap I i xs p) (sr : Src p xs H) (xi : xs[i]? = none)
    (hQ : ∀ s', Tch I s s' → Q none s') : wpAny cx.M F.A (pyNext (.ref I)) Q E s := by
  have hle := List.getElem?_eq_none_iff.mp xi
  cases p <;> try exact it.elim
  · obtain ⟨tt, items, n, hit, g, r, ne⟩ := it
    have hk := arr_len r
    exact wpAny_pyNext_tuple_end hh hit (isTuple_of g) (by simp; first | lia | omega) fun h' sb => hQ _ ⟨h', s.toks, rfl, fun b o n e => sb b o n e⟩
  · obtain ⟨hit, ne⟩ := it
    obtain ⟨items, n, g, r, l⟩ := t.list sr
    have hk := arr_len r
    exact wpAny_pyNext_list_end hh hit (isList_of g) (by simp; first | lia | omega) fun h' sb => hQ _ ⟨h', s.toks, rfl, fun b o n e => sb b o n e⟩
  · obtain ⟨hit, rfl⟩ := it
    simp at hle
    exact wpAny_pyNext_range_end hh hit (by first | lia | omega) fun h' sb => hQ _ ⟨h', s.toks, rfl, fun b o n e => sb b o n e⟩
theorem self_ok {A : Around} {i : Nat} {xs : List PV} {p : PV} {Q : Value → Shared → Prop} {E : Value → Shared → Prop} (it : Itr cx s.heap I i xs p) (hQ : Q (.ref I) s) : wpAny cx.M A (pyIter (.ref I)) Q E s := by
  cases p <;> try exact it.elim
  · obtain ⟨t, items, n, hit, _⟩ := it; exact wpAny_pyIter_tupleiter hit hQ
  · exact wpAny_pyIter_listiter it.1 hQ
  · exact wpAny_pyIter_rangeiter it.1 hQ
end
end Mine
end
section
open PySem PySem.Calls PyProof.Rows
namespace Mine
set_option autoImplicit false

section
variable {cx : Cx} {F : Fm} {m : Loc} {H H' : AHeap} {s s' : Shared} {I : Addr}

theorem Loc.get_set {m : Loc} {x i : Nat} {p v : PV} (h : (m.set x (some p)).getD i none = some v) : (i = x ∧ v = p) ∨ (i ≠ x ∧ m.getD i none = some v) := by
  by_cases q : i = x
  · subst q
    by_cases l : i < m.length
    · left; simp [List.getD, l] at h; exact ⟨rfl, h.symm⟩
    · simp [List.getD, l] at h
  · right
    refine ⟨q, ?_⟩
    simpa [List.getD, List.getElem?_set, Ne.symm q] using h
theorem Loc.get_set0 {m : Loc} {x i : Nat} {v : PV} (h : (m.set x none).getD i none = some v) : i ≠ x ∧ m.getD i none = some v := by
  by_cases q : i = x
  · subst q
    by_cases l : i < m.length
    · simp [List.getD, l] at h
    · simp [List.getD, l] at h
  · refine ⟨q, ?_⟩
    simpa [List.getD, List.getElem?_set, Ne.symm q] using h

theorem notSolid_dict {o : Obj} {es : Array DictEntry} {ep : Nat} (hd : o.data = .dict es ep) : ¬ Solid o := fun h => h.notLoc.1 _ _ hd
theorem notSolid_cell {o : Obj} {x : Option Value} (hd : o.data = .cell x) : ¬ Solid o := fun h => h.notLoc.2 _ hd

/-- a name put anew in the frame's own row -/
theorem St.setLocal {h h' : Heap} {x : Nat} {v : Value} {p : PV} {mc mc' : Str → Option Value} (t : St cx F m H h) (inj : ∀ i j, F.vis i = true → F.vis j = true → slot F.nm i = slot F.nm j → i = j) (vx : F.vis x = true) (kl : F.env.kindOf (slot F.nm x) = some .local)
    (ns : h.Ns F.env.locals mc) (ns' : h'.Ns F.env.locals mc') (hm : mc' = fun z => if z = slot F.nm x then some v else mc z) (sb : Heap.SameBut F.env.locals h h') (rv : Rep cx h v p) : St cx F (m.set x (some p)) H h' := by
  obtain ⟨o, es, ep, mc₀, ho, hd, ns₀, hv⟩ := t.vars
  have e0 : mc₀ = mc := funext (ns₀.agree ns)
  subst e0
  have ns1 : ∀ o, h.get? F.env.locals = some o → ¬ Solid o := fun o' e => by rw [ho] at e; cases e; exact notSolid_dict hd
  have k : ∀ b o, b ≠ F.env.locals → h.get? b = some o → h'.get? b = some o := fun b o n e => by rw [sb.2 b n]; exact e
  have so : ∀ b o, h.get? b = some o → Solid o → h'.get? b = some o := fun b o e s => k b o (by rintro rfl; exact ns1 o e s) e
  obtain ⟨o', es', ep', ho', hd', r'⟩ := id ns'
  refine ⟨fun b o e => k b o (by rintro rfl; rw [t.own.2] at e; cases e) (t.base b o e), t.off, t.heap.keepBut t.own.1 k ns1, fun env he => ?_, t.own, ⟨o', es', ep', mc', ho', hd', ns', fun i w h1 h2 h3 => ?_⟩, fun n c hc' => ?_⟩
  · obtain ⟨hk, L, o1, es1, ep1, hf, hH, hb, ho1, hd1⟩ := t.frames env he
    by_cases q : L = F.env.locals
    · subst q; exact ⟨hk, _, o', es', ep', hf, hH, hb, ho', hd'⟩
    · exact ⟨hk, L, o1, es1, ep1, hf, hH, hb, k L o1 q ho1, hd1⟩
  · rcases Loc.get_set h3 with ⟨rfl, rfl⟩ | ⟨n, h3⟩
    · exact ⟨v, by simp [hm], rv.mono so⟩
    · obtain ⟨y, e, r⟩ := hv i w h1 h2 h3
      refine ⟨y, ?_, r.mono so⟩
      rw [hm]
      simp only
      rw [if_neg (fun q => n (inj i x h1 vx q))]; exact e
  · obtain ⟨h1, h2, oc, y, hoc, hdc, hvc⟩ := t.cells n c hc'
    have nc : c ≠ F.env.locals := by rintro rfl; rw [ho] at hoc; cases hoc; rw [hd] at hdc; cases hdc
    refine ⟨h1, h2, oc, y, k c oc nc hoc, hdc, fun i w a b c' d => ?_⟩
    rcases Loc.get_set d with ⟨rfl, rfl⟩ | ⟨ne, d⟩
    · subst b; exact absurd kl c'
    · obtain ⟨z, q, r⟩ := hvc i w a b c' d
      exact ⟨z, q, r.mono so⟩

theorem St.forget {h : Heap} (x : Nat) (t : St cx F m H h) : St cx F (m.set x none) H h := by
  refine ⟨t.base, t.off, t.heap, t.frames, t.own, ?_, fun n c hc => ?_⟩
  · obtain ⟨o, es, ep, mc, ho, hd, ns, hv⟩ := t.vars
    exact ⟨o, es, ep, mc, ho, hd, ns, fun i v h1 h2 h3 => hv i v h1 h2 (Loc.get_set0 h3).2⟩
  · obtain ⟨h1, h2, o, y, ho, hd, hv⟩ := t.cells n c hc
    exact ⟨h1, h2, o, y, ho, hd, fun i v a b c' d => hv i v a b c' (Loc.get_set0 d).2⟩

theorem St.solidNow {h : Heap} (_ : St cx F m H h) : True := trivial

/-- the comprehension's own frame -/
noncomputable def compF (F : Fm) (sc : Scope) (cl : List (Str × Addr)) (C : Addr) (x : Nat) (kd' : Kd) : Fm := { F with env := compEnvC sc cl C F.env, vis := visC kd' F.nm F.vis x }

theorem relab_eq {kd : Kd} {n : Nat} {q : Bool} {sc : Scope} {cl : List (Str × Addr)} {C : Addr} (fo : Fok cx n q kd F) : (compEnvC sc cl C F.env).kindOf = relab kd sc := by
  funext x
  show List.lookup x (List.map _ sc.names) = _
  unfold relab
  have e1 : (F.env.scope.kind == ScopeKind.function) = true := by rw [fo.kind]; rfl
  simp only [e1, fo.kdo, Bool.and_true]

theorem closure_lookup {env : Env} {kd : Kd} (hc : ∀ x, (kd x = some .cell ∨ kd x = some .free) → ∃ c, env.cells.lookup x = some c) :
    ∀ (names : List (Str × NameKind)) (acc : List (Str × Addr)), (names.all fun p => p.2 != .free || kd p.1 == some .cell || kd p.1 == some .free) = true → (∀ n c, acc.lookup n = some c → env.cells.lookup n = some c) →
      ∃ cl, (forIn names acc (fun x cs => if x.2 == .free then (do let c ← cellOf env x.1; pure (ForInStep.yield ((x.1, c) :: cs))) else pure (ForInStep.yield cs)) : Sem (List (Str × Addr))) = pure cl ∧
        (∀ n c, cl.lookup n = some c → env.cells.lookup n = some c) ∧ (∀ n, (acc.lookup n).isSome = true → (cl.lookup n).isSome = true) ∧ ∀ n, (n, NameKind.free) ∈ names → (cl.lookup n).isSome = true
  | [], acc, _, ha => ⟨acc, by simp, ha, fun _ h => h, fun _ h => by simp at h⟩
  | (y, k) :: r, acc, hall, ha => by
    simp only [List.all_cons, Bool.and_eq_true] at hall
    rw [List.forIn_cons]
    by_cases hk : k = .free
    · subst hk
      have hy : kd y = some .cell ∨ kd y = some .free := by
        have := hall.1; simp at this; exact this
      obtain ⟨c, hc'⟩ := hc y hy
      obtain ⟨cl, e, h1, h2, h3⟩ := closure_lookup hc r ((y, c) :: acc) hall.2 (fun n d h => by
        rw [List.lookup_cons] at h
        by_cases q : n = y
        · subst q; simp at h; subst h; exact hc'
        · rw [show (n == y) = false by simpa using q] at h; exact ha n d h)
      refine ⟨cl, ?_, h1, fun n h => h2 n ?_, fun n h => ?_⟩
      · simp only [cellOf, hc']
        exact e
      · rw [List.lookup_cons]; split <;> simp_all
      · rcases List.mem_cons.mp h with q | q
        · cases q; exact h2 _ (by simp)
        · exact h3 n q
    · obtain ⟨cl, e, h1, h2, h3⟩ := closure_lookup hc r acc hall.2 ha
      refine ⟨cl, ?_, h1, h2, fun n h => ?_⟩
      · have : (k == NameKind.free) = false := by simpa using hk
        simp only [this]
        exact e
      · rcases List.mem_cons.mp h with q | q
        · cases q; exact absurd rfl hk
        · exact h3 n q
theorem closure_ok {env : Env} {kd : Kd} {sc : Scope} (hc : ∀ x, (kd x = some .cell ∨ kd x = some .free) → ∃ c, env.cells.lookup x = some c)
    (hall : (sc.names.all fun p => p.2 != .free || kd p.1 == some .cell || kd p.1 == some .free) = true) : ∃ cl, closureFor sc env = pure cl ∧ (∀ n c, cl.lookup n = some c → env.cells.lookup n = some c) ∧ ∀ n, (n, NameKind.free) ∈ sc.names → (cl.lookup n).isSome = true := by
  obtain ⟨cl, e, h1, _, h3⟩ := closure_lookup hc sc.names [] hall (fun _ _ h => by simp at h)
  refine ⟨cl, ?_, h1, h3⟩
  unfold closureFor
  rw [← e]
  simp only [bind_pure]
end
end Mine
end
section
open PySem PySem.Calls PyProof.Rows
namespace Mine
set_option autoImplicit false

section
variable {cx : Cx} {F : Fm} {m : Loc} {H H' : AHeap} {s s' : Shared} {I : Addr} {kd : Kd} {sc : Scope} {x n : Nat} {q : Bool} {cl : List (Str × Addr)} {C : Addr}

theorem lookup_map_free {kd : Kd} {y : Str} {k : NameKind} : ∀ {names : List (Str × NameKind)}, (names.map fun (n, k) => if (k == .free && kd n == some .cell) then (n, .cell) else (n, k)).lookup y = some k →
    ∃ k₀, (y, k₀) ∈ names ∧ k = if (k₀ == .free && kd y == some .cell) then .cell else k₀
  | [], h => by simp at h
  | (z, k₀) :: r, h => by
    have hs : ∀ p : Str × NameKind, (if (k₀ == NameKind.free && kd z == some .cell) = true then (z, NameKind.cell) else (z, k₀)) = p → p.1 = z := fun p e => by rw [← e]; split <;> rfl
    rw [List.map_cons] at h
    simp only at h
    generalize hp : (if (k₀ == NameKind.free && kd z == some .cell) = true then (z, NameKind.cell) else (z, k₀)) = p at h
    have h1 := hs p hp
    obtain ⟨p1, p2⟩ := p
    simp only at h1
    subst h1
    rw [List.lookup_cons] at h
    by_cases e : y = p1
    · subst e
      simp at h
      subst h
      refine ⟨k₀, List.mem_cons_self, ?_⟩
      split at hp <;> simp_all
    · rw [show (y == p1) = false by simpa using e] at h
      obtain ⟨k₁, h2, h3⟩ := lookup_map_free h
      exact ⟨k₁, List.mem_cons_of_mem _ h2, h3⟩

theorem relab_free (hsc : scOk kd (relab kd sc) sc (slot F.nm x) = true) {y : Str} (h : relab kd sc y = some .cell ∨ relab kd sc y = some .free) : (y, NameKind.free) ∈ sc.names ∧ (kd y = some .cell ∨ kd y = some .free) := by
  unfold scOk at hsc
  simp only [Bool.and_eq_true] at hsc
  obtain ⟨⟨⟨⟨⟨⟨⟨_, _⟩, _⟩, hnc⟩, _⟩, hfr⟩, _⟩, _⟩ := hsc
  have key : ∀ k, relab kd sc y = some k → k = .cell ∨ k = .free → (y, NameKind.free) ∈ sc.names := fun k e hk => by
    obtain ⟨k₀, h1, h2⟩ := lookup_map_free e
    have h3 := List.all_eq_true.mp hnc _ h1
    simp at h3
    cases k₀ <;> simp_all
  have hm : (y, NameKind.free) ∈ sc.names := h.elim (fun e => key _ e (.inl rfl)) fun e => key _ e (.inr rfl)
  have := List.all_eq_true.mp hfr _ hm
  simp at this
  exact ⟨hm, this⟩

theorem compF_ok (fo : Fok cx n q kd F) (hsc : scOk kd (relab kd sc) sc (slot F.nm x) = true) (hcl1 : ∀ n c, cl.lookup n = some c → F.env.cells.lookup n = some c) (hcl : ∀ n, (n, NameKind.free) ∈ sc.names → (cl.lookup n).isSome = true) :
    Fok cx n q (relab kd sc) (compF F sc cl C x (relab kd sc)) where
  fr := fo.fr
  kind := by
    unfold scOk at hsc
    simp only [Bool.and_eq_true, decide_eq_true_eq] at hsc
    exact hsc.1.1.1.1.1.1.1
  kdo := relab_eq fo
  glob := fo.glob
  bltn := fo.bltn
  quiet := fo.quiet
  depth := fo.depth
  units := fo.units
  cells := fun y h => Option.isSome_iff_exists.mp (hcl y (relab_free hsc h).1)
  apart := fun x y c h1 h2 => fo.apart x y c (hcl1 x c h1) (hcl1 y c h2)
  inj := fun i j hi hj e => by
    have hx : relab kd sc (slot F.nm x) = some .local := by
      unfold scOk at hsc
      simp only [Bool.and_eq_true, beq_iff_eq] at hsc
      exact hsc.1.2
    simp only [compF, visC, Bool.or_eq_true, Bool.and_eq_true, beq_iff_eq] at hi hj e
    rcases hi with rfl | ⟨hi, ki⟩ <;> rcases hj with rfl | ⟨hj, kj⟩
    · rfl
    · rw [← e, hx] at kj; simp at kj
    · rw [e, hx] at ki; simp at ki
    · exact fo.inj i j hi hj e

theorem comp_start {h' : Heap} {mc : Str → Option Value} (fo : Fok cx n q kd F) (hsc : scOk kd (relab kd sc) sc (slot F.nm x) = true) (hcl : ∀ n c, cl.lookup n = some c → F.env.cells.lookup n = some c)
    (t : St cx F m H s.heap) (fr : s.heap.get? C = none) (g : ∀ b o, s.heap.get? b = some o → h'.get? b = some o) (ns : h'.Ns C mc) : St cx (compF F sc cl C x (relab kd sc)) (m.set x none) H h' := by
  have hx : relab kd sc (slot F.nm x) = some .local := by
    unfold scOk at hsc
    simp only [Bool.and_eq_true, beq_iff_eq] at hsc
    exact hsc.1.2
  have so : ∀ b o, s.heap.get? b = some o → Solid o → h'.get? b = some o := fun b o e _ => g b o e
  obtain ⟨o, es, ep, ho, hd, r⟩ := id ns
  refine ⟨fun b o e => g b o (t.base b o e), t.off, t.heap.grow g, fun env he => ?_, ⟨t.heap.fresh fr, ?_⟩, ⟨o, es, ep, mc, ho, hd, ns, fun i v h1 h2 h3 => ?_⟩, fun y c hc => ?_⟩
  · obtain ⟨hk, L, o, es, ep, hf, hH, hb, ho, hd'⟩ := t.frames env he
    exact ⟨hk, L, o, es, ep, hf, hH, hb, g L o ho, hd'⟩
  · show cx.B.get? C = none
    cases e : cx.B.get? C with
    | none => rfl
    | some o => rw [t.base _ _ e] at fr; cases fr
  · exfalso
    rw [show (compF F sc cl C x (relab kd sc)).env.kindOf = relab kd sc from relab_eq fo] at h2
    obtain ⟨ne, h3⟩ := Loc.get_set0 h3
    simp only [compF, visC, Bool.or_eq_true, Bool.and_eq_true, beq_iff_eq] at h1 h2
    rcases h1 with rfl | ⟨_, hk⟩
    · exact ne rfl
    · rw [h2] at hk; simp at hk
  · obtain ⟨h1, h2, o, w, ho, hd, hv⟩ := t.cells y c (hcl y c hc)
    refine ⟨h1, h2, o, w, g c o ho, hd, fun i v a b c' d => ?_⟩
    obtain ⟨ne, d⟩ := Loc.get_set0 d
    simp only [compF, visC, Bool.or_eq_true, Bool.and_eq_true, beq_iff_eq] at a b
    rcases a with rfl | ⟨a, hk⟩
    · exact absurd rfl ne
    · obtain ⟨z, e, r⟩ := hv i v a b (by
        rw [fo.kdo]
        rw [b] at hk
        rcases (relab_free hsc hk).2 with q | q <;> rw [q] <;> decide) d
      exact ⟨z, e, r.mono so⟩
end
end Mine
end
section
open PySem PySem.Calls PyProof.Rows
namespace Mine
set_option autoImplicit false

abbrev testsSem (ifs : List Expr) (env : Env) : Sem Bool := forIn ifs true fun c r => if r = true then do let ok ← isTrue c env (eval c env); pure (ForInStep.yield ok) else pure (ForInStep.yield r)
abbrev IsBB : Heap → Bool → Bool → Prop := fun _ a b => a = b

inductive CompI (cx : Cx) (F' : Fm) (m0 : Loc) (H : AHeap) (s₀ : Shared) (I D : Addr) (xs : List PV) (p : PV) (W : List PV → List PV → AHeap → Prop) (k : Nat) (s' : Shared) : Prop
  | mk (i : Nat) (acc : List PV) (Hk : AHeap) (ys : Array Value) (c : Nat) (hi : i ≤ xs.length) (hk : k = xs.length - i) (ti : St cx F' m0 Hk s'.heap) (ki : Kp cx [] H s₀ Hk s') (iti : Itr cx s'.heap I i xs p) (ci : Clean cx Hk s'.heap I)
    (hDi : s'.heap.get? D = some (lstObj ys c)) (ri : RepL cx s'.heap ys.toList acc) (hHD : Hk D = none) (hacc : acc.length ≤ i) (hw : W (xs.drop i) acc Hk) : CompI cx F' m0 H s₀ I D xs p W k s'
section
variable {cx : Cx} {F : Fm} {m : Loc} {H H' : AHeap} {s s' : Shared} {I : Addr} {kd : Kd} {sc : Scope} {x n : Nat} {q : Bool} {cl : List (Str × Addr)}

/-- what no name or list holds stays -/
theorem Kp.same1 {s₁ s₂ : Shared} {H₁ H₂ : AHeap} (k : Kp cx [] H₁ s₁ H₂ s₂) {b : Addr} {o : Obj} (e : s₁.heap.get? b = some o) (hb : H₁ b = none) (hd : ∀ es ep, o.data ≠ .dict es ep) : H₂ b = none ∧ s₂.heap.get? b = some o := by
  obtain ⟨h, o', e', sm⟩ := k.keep b o e (fun q => nomatch q) hb
  rw [sm.eq hd] at e'; exact ⟨h, e'⟩

theorem comp_block {elt iter : Expr} {ifs : List Expr} {px pos : Pos} {xs : List PV} {p : PV} {aT : BPost → Loc → AHeap → Prop} {aE : Post → Loc → AHeap → Prop} {QF : List PV → AHeap → Prop}
    {RR : Value → Addr → Result → Shared → Prop} {E : Value → Shared → Prop} {s₀ s₂ : Shared} {h₂ : Heap} (fo : Fok cx n true kd F) (hsc : scOk kd (relab kd sc) sc (slot F.nm x) = true)
    (hcl1 : ∀ n c, cl.lookup n = some c → F.env.cells.lookup n = some c) (hcl2 : ∀ n, (n, NameKind.free) ∈ sc.names → (cl.lookup n).isSome = true)
    (hT : ∀ {C : Addr} {m' : Loc} {H : AHeap} {s : Shared} {Q : BPost}, Fok cx n true (relab kd sc) (compF F sc cl C x (relab kd sc)) → St cx (compF F sc cl C x (relab kd sc)) m' H s.heap → aT Q m' H →
      Ev IsBB cx (compF F sc cl C x (relab kd sc)) (testsSem ifs (compEnvC sc cl C F.env)) m' H s Q fun _ _ => False)
    (hE : ∀ {C : Addr} {m' : Loc} {H : AHeap} {s : Shared} {Q : Post}, Fok cx n true (relab kd sc) (compF F sc cl C x (relab kd sc)) → St cx (compF F sc cl C x (relab kd sc)) m' H s.heap → aE Q m' H →
      Ev (Rep cx) cx (compF F sc cl C x (relab kd sc)) (eval elt (compEnvC sc cl C F.env)) m' H s Q fun _ _ => False)
    (t : St cx F m H s₀.heap) (hs₂ : s₂ = { s₀ with heap := h₂ }) (g₂ : ∀ b o, s₀.heap.get? b = some o → h₂.get? b = some o) (fI : s₀.heap.get? I = none) (it : Itr cx h₂ I 0 xs p) (cI : Clean cx H h₂ I) (hl : xs.length ≤ LIM)
    (h : compW (Src p xs) (fun y K H => aT (fun b H => if b then aE (fun v H => K [v] H) (m.set x (some y)) H else K [] H) (m.set x (some y)) H) QF xs [] H)
    (hRR : ∀ D C s' H' vs mc, s₀.heap.get? C = none → s₀.heap.get? D = none → D ≠ C → s'.heap.Ns C mc → (∃ ys k, s'.heap.get? D = some (lstObj ys k) ∧ RepL cx s'.heap ys.toList vs ∧ vs.length ≤ LIM) → H' D = none → H' C = none → Holds cx s'.heap H' →
      Kp cx [] H s₀ H' s' → QF vs H' → RR (.ref D) C (.ok .next) s') :
    wpAny cx.M F.A (newList []) (fun acc s₃ => wpAny cx.M F.A (newFunctionEnv sc F.env.globals cl [] F.env.qual none .none (some F.env)) (fun cenv s₄ =>
      codeAny cx.M F.A (.compStart (.ListComp elt [⟨.Name (slot F.nm x) px, iter, ifs, 0⟩] sc pos) 0 (.ref I) acc { cenv with scope := relabel sc F.env }) (RR acc cenv.locals) s₄) E s₃) E s₂ := by
  have hL : LIM = 1048576 := rfl
  have hL' := LIM_le
  have hsc' := hsc
  unfold scOk at hsc'
  simp only [Bool.and_eq_true, beq_iff_eq, decide_eq_true_eq] at hsc'
  obtain ⟨⟨⟨⟨⟨⟨⟨hkind, _⟩, _⟩, hnc⟩, hloc⟩, hfr⟩, hx⟩, _⟩ := hsc'
  have hcell : ∀ y ∈ sc.names, y.2 ≠ .cell := fun y hy => by have := List.all_eq_true.mp hnc y hy; simpa using this
  subst hs₂
  refine wpAny_newObj_type (wpAny_newFunctionEnv hcell (by intro y hy; simp at hy) (fun h₁ hns₁ hsb₁ => ?_) hkind)
  dsimp only at hns₁ hsb₁ ⊢
  generalize hH2 : h₂.push { cls := .type "list", dict := none, data := .seq ([] : List Value).toArray } = H2 at hns₁ hsb₁ ⊢
  have hC : H2.objs.size = h₂.objs.size + 1 := by rw [← hH2, Heap.size_push]
  have hDC : h₂.objs.size ≠ H2.objs.size := by rw [hC]; exact Nat.ne_of_lt (Nat.lt_succ_self _)
  have below : ∀ b, b < h₂.objs.size → b ≠ H2.objs.size ∧ b ≠ h₂.objs.size := fun b hb => ⟨by rw [hC]; exact Nat.ne_of_lt (Nat.lt_succ_of_lt hb), Nat.ne_of_lt hb⟩
  have old : ∀ b o, h₂.get? b = some o → h₁.get? b = some o := fun b o e => hsb₁.extBut b o (below b (Heap.lt_size e)).1 (Heap.get?_push_of_some _ (hH2 ▸ Heap.get?_push_of_some _ e))
  have hD₁ : h₁.get? h₂.objs.size = some (lstObj #[] 0) := hsb₁.extBut _ _ hDC (Heap.get?_push_of_some _ (hH2 ▸ Heap.get?_push_size _ rfl))
  have fresh : ∀ a, h₂.objs.size ≤ a → s₀.heap.get? a = none := fun a ha => by
    cases e : s₀.heap.get? a with
    | none => rfl
    | some o' => exact absurd (Heap.lt_size (g₂ _ _ e)) (Nat.not_lt.mpr ha)
  have fC : s₀.heap.get? H2.objs.size = none := fresh _ (by rw [hC]; exact Nat.le_succ _)
  have fD : s₀.heap.get? h₂.objs.size = none := fresh _ (Nat.le_refl _)
  have bnone : ∀ a, s₀.heap.get? a = none → cx.B.get? a = none := fun a f => by
    cases e : cx.B.get? a with
    | none => rfl
    | some o => rw [t.base _ _ e] at f; cases f
  generalize hCg : H2.objs.size = C at *
  generalize hDg : h₂.objs.size = D at *
  clear hH2
  have hID : I ≠ D := by obtain ⟨_, _, oI, _, _, gI, _⟩ := cI; exact Nat.ne_of_lt (hDg ▸ Heap.lt_size gI)
  have fo' := compF_ok (C := C) fo hsc hcl1 hcl2
  have keep₁ : ∀ b o, s₀.heap.get? b = some o → h₁.get? b = some o := fun b o e => old b o (g₂ b o e)
  have t₁ : St cx (compF F sc cl C x (relab kd sc)) (m.set x none) H h₁ := comp_start fo hsc hcl1 t fC keep₁ hns₁
  have it₁ : Itr cx h₁ I 0 xs p := it.keep (fun b o e _ => old b o e) fun o e => old _ o e
  have cI₁ : Clean cx H h₁ I := ⟨cI.1, cI.2.1, it₁.clean⟩
  have hp : ((compEnvC sc cl C F.env).scope.kind == .class || ((compEnvC sc cl C F.env).scope.kind == .module && (compEnvC sc cl C F.env).locals != (compEnvC sc cl C F.env).globals)) = false := by
    simp [compEnvC, relabel, hkind]
  have hkx : (compEnvC sc cl C F.env).kindOf (slot F.nm x) = some .local := by rw [relab_eq fo]; exact hx
  have loop : ∀ s₃ : Shared, s₃ = { s₀ with heap := h₁, toks := s₀.toks + ([] : List (Str × Value)).length } →
      codeAny cx.M F.A (.compLoop (.ListComp elt [⟨.Name (slot F.nm x) px, iter, ifs, 0⟩] sc pos) 0 (.ref I) (.ref D) (compEnvC sc cl C F.env)) (RR (.ref D) C) s₃ := by
    rintro s₃ rfl
    refine codeAny_compLoop_tests (CompI cx (compF F sc cl C x (relab kd sc)) (m.set x none) H s₀ I D xs p (compW (Src p xs) (fun y K H => aT (fun b H => if b then aE (fun v H => K [v] H) (m.set x (some y)) H else K [] H) (m.set x (some y)) H) QF)) ?_ xs.length
      ⟨0, [], H, #[], 0, Nat.zero_le _, rfl, t₁, .grow keep₁ (fun _ _ _ e => e), it₁, cI₁, hD₁, .nil, t.heap.fresh fD, Nat.le_refl _, h⟩
    rintro k s' ⟨i, acc, Hk, ys, c, hi, rfl, ti, ki, iti, ci, hDi, ri, hHD, hacc, hw⟩
    by_cases hlt : i < xs.length
    · have hx1 : xs[i]? = some xs[i] := List.getElem?_eq_getElem hlt
      rw [List.drop_eq_getElem_cons hlt] at hw
      obtain ⟨sr, hw⟩ := hw
      refine next_ok (F := compF F sc cl C x (relab kd sc)) ti iti sr ci hx1 fun v s₄ rv it₄ c₄ tc₄ => ?_
      obtain ⟨h₄, tk₄, rfl, k₄⟩ := id tc₄
      have t₄ : St cx (compF F sc cl C x (relab kd sc)) (m.set x none) Hk h₄ := ti.touch ci k₄
      have kp₄ := ki.touch fI tc₄ ci.2.1
      have hD₄ : h₄.get? D = some (lstObj ys c) := k₄ D _ (Ne.symm hID) hDi
      have so₄ : ∀ b o, s'.heap.get? b = some o → Solid o → h₄.get? b = some o := fun b o e so => k₄ b o (by
        rintro rfl; obtain ⟨_, _, oI, T, vs, gI, hc, hT, hd⟩ := ci; rw [gI] at e; cases e; exact notSolid_of hc hT hd so) e
      obtain ⟨oC, esC, epC, mc, hoC, hdC, nsC, _⟩ := t₄.vars
      refine wpAny_assign_Name (wpAny_storeName_local hkx nsC (fun h₅ ns₅ sb₅ => ?_) hp)
      have nsC' : h₄.Ns C mc := nsC
      have sb₅' : Heap.SameBut C h₄ h₅ := sb₅
      have t₅ : St cx (compF F sc cl C x (relab kd sc)) (m.set x (some xs[i])) Hk h₅ := by
        have := t₄.setLocal (x := x) fo'.inj (by simp [compF, visC]) hkx nsC ns₅ rfl sb₅ rv
        rw [List.set_set] at this; exact this
      have hCD : C ≠ D := Ne.symm hDC
      have kk₅ : ∀ b o, b ≠ C → h₄.get? b = some o → h₅.get? b = some o := fun b o n e => by rw [sb₅'.2 b n]; exact e
      have so₅ : ∀ b o, h₄.get? b = some o → Solid o → h₅.get? b = some o := fun b o e so => kk₅ b o (by rintro rfl; rw [show h₄.get? b = some oC from hoC] at e; cases e; exact notSolid_dict hdC so) e
      have kp₅ : Kp cx [] H s₀ Hk { s' with heap := h₅, toks := tk₄ + 1 } := kp₄.touch (I := C) fC ⟨h₅, tk₄ + 1, rfl, kk₅⟩ (bnone _ fC)
      have hIC : I ≠ C := by
        obtain ⟨_, _, oI, _, _, gI, _, _, hd⟩ := c₄
        rintro rfl
        rw [show h₄.get? I = some oC from hoC] at gI; cases gI; rw [hdC] at hd; cases hd
      have it₅ : Itr cx h₅ I (i + 1) xs p := it₄.keep so₅ fun o e => kk₅ _ o hIC e
      have c₅ : Clean cx Hk h₅ I := ⟨c₄.1, c₄.2.1, it₅.clean⟩
      have hD₅ : h₅.get? D = some (lstObj ys c) := kk₅ D _ hDC hD₄
      have r₅ : RepL cx h₅ ys.toList acc := (ri.mono so₄).mono so₅
      refine wpAny_mono (hT fo' t₅ hw) (fun ok s₆ h₆ => ?_) fun _ _ ⟨_, _, _, _, _, _, _, f⟩ => f.elim
      obtain ⟨b, H₆, rfl, t₆, kp₆, hb⟩ := h₆
      have nd : ∀ es ep, (lstObj ys c).data ≠ .dict es ep := fun _ _ q => nomatch q
      have so₆ : ∀ b o, h₅.get? b = some o → Solid o → s₆.heap.get? b = some o := kp₆.solid0 t₅.heap
      have hD₆ := kp₆.same1 (b := D) hD₅ hHD nd
      have stepI : ∀ {sa sb : Shared} {Ha Hb : AHeap} {ma : Loc}, Kp cx [] Ha sa Hb sb → St cx (compF F sc cl C x (relab kd sc)) ma Ha sa.heap → Itr cx sa.heap I (i + 1) xs p → Clean cx Ha sa.heap I → Itr cx sb.heap I (i + 1) xs p ∧ Clean cx Hb sb.heap I := fun {sa sb Ha Hb ma} kp ta ita ca => by
        obtain ⟨hI, hB, oI, T, vs, gI, hc, hT, hd⟩ := ca
        have e1 := kp.same1 gI hI (fun _ _ q => by rw [hd] at q; cases q)
        have itb := ita.keep (kp.solid0 ta.heap) fun o e => by rw [gI] at e; cases e; exact e1.2
        exact ⟨itb, e1.1, hB, itb.clean⟩
      obtain ⟨it₆, c₆⟩ := stepI kp₆ t₅ it₅ c₅
      cases ok with
      | false =>
        rw [if_neg (by decide)] at hb ⊢
        exact ⟨xs.length - (i + 1), by first | lia | omega, i + 1, acc, H₆, ys, c, hlt, rfl, by have := t₆.forget x; rw [List.set_set] at this; exact this, kp₅.trans kp₆, it₆, c₆, hD₆.2, r₅.mono so₆, hD₆.1, Nat.le_succ_of_le hacc, by simpa using hb⟩
      | true =>
        rw [if_pos rfl] at hb ⊢
        refine wpAny_mono (hE fo' t₆ hb) (fun v₇ s₇ h₇ => ?_) fun _ _ ⟨_, _, _, _, _, _, _, f⟩ => f.elim
        obtain ⟨y, H₇, r₇, t₇, kp₇, hy⟩ := h₇
        have hD₇ := kp₇.same1 (b := D) hD₆.2 hD₆.1 nd
        have so₇ := kp₇.solid0 t₆.heap
        obtain ⟨it₇, c₇⟩ := stepI kp₇ t₆ it₆ c₆
        have ry : RepL cx s₇.heap ys.toList acc := (r₅.mono so₆).mono so₇
        have hsz := arr_len ry
        refine call_meets PySem.F.slot_list_append ⟨_, hD₇.2, rfl⟩ PySem.F.entry_list_append (PySem.F.args_list_append_2 _ _) (list_append _ ys c _ (by first | lia | omega)) ⟨hD₇.2, ?_⟩
        obtain ⟨c', g'⟩ := lst_update hD₇.2 (fun z => z.push v₇)
        have nsD : ∀ o, s₇.heap.get? D = some o → ¬ Solid o := fun o e => by
          rw [hD₇.2] at e; cases e
          rintro (⟨i, n, q⟩ | ⟨n, t, u, v, q⟩ | ⟨⟨C, q⟩, _⟩) <;> simp [lstObj, tupObj, rngObj] at q
        have so₈ : ∀ b o, s₇.heap.get? b = some o → Solid o → (s₇.heap.update D (Obj.mapSeq fun z => z.push v₇)).get? b = some o := fun b o e so => upd_keeps b o (by rintro rfl; exact nsD o e so) e
        have bD := bnone _ fD
        have t₈ : St cx (compF F sc cl C x (relab kd sc)) (m.set x (some xs[i])) H₇ (s₇.heap.update D (Obj.mapSeq fun z => z.push v₇)) := by
          have ndl : ∀ b o es ep, s₇.heap.get? b = some o → o.data = .dict es ep → b ≠ D := fun b o es ep e q => by rintro rfl; rw [hD₇.2] at e; cases e; cases q
          refine ⟨fun b o e => upd_keeps b o (by rintro rfl; rw [bD] at e; cases e) (t₇.base b o e), t₇.off, t₇.heap.keepBut hD₇.1 upd_keeps nsD, fun env he => ?_, t₇.own, ?_, fun nn cc hc' => ?_⟩
          · obtain ⟨hk, L, o, es, ep, hf, hH, hb, ho, hd'⟩ := t₇.frames env he
            exact ⟨hk, L, o, es, ep, hf, hH, hb, upd_keeps L o (ndl L o es ep ho hd') ho, hd'⟩
          · obtain ⟨o, es, ep, mc, ho, hd', ns, hv⟩ := t₇.vars
            have nn := ndl _ o es ep ho hd'
            exact ⟨o, es, ep, mc, upd_keeps _ o nn ho, hd', ns.at fun o e => upd_keeps _ o nn e, fun i v h1 h2 h3 => let ⟨x, q, r⟩ := hv i v h1 h2 h3; ⟨x, q, r.mono so₈⟩⟩
          · obtain ⟨h1, h2, o, xx, ho, hd', hv⟩ := t₇.cells nn cc hc'
            exact ⟨h1, h2, o, xx, upd_keeps cc o (by rintro rfl; rw [hD₇.2] at ho; cases ho; cases hd') ho, hd', fun i v a b c d => let ⟨y, q, r⟩ := hv i v a b c d; ⟨y, q, r.mono so₈⟩⟩
        have kp₈ : Kp cx [] H s₀ H₇ { s₇ with heap := s₇.heap.update D (Obj.mapSeq fun z => z.push v₇), toks := s₇.toks } := ((kp₅.trans kp₆).trans kp₇).touch (I := D) fD ⟨_, s₇.toks, rfl, upd_keeps⟩ bD
        have it₈ : Itr cx (s₇.heap.update D (Obj.mapSeq fun z => z.push v₇)) I (i + 1) xs p := it₇.keep so₈ fun o e => upd_keeps _ o hID e
        refine ⟨xs.length - (i + 1), by first | lia | omega, i + 1, acc ++ [y], H₇, ys.push v₇, c', hlt, rfl, by have := t₈.forget x; rw [List.set_set] at this; exact this, kp₈, it₈, ⟨c₇.1, c₇.2.1, it₈.clean⟩, g', ?_, hD₇.1, by simp; first | lia | omega, hy⟩
        have := (ry.append (.cons r₇ .nil)).mono so₈
        simpa using this
    · have hi' : i = xs.length := by first | lia | omega
      subst hi'
      rw [List.drop_length] at hw
      obtain ⟨sr, hw⟩ := hw
      refine end_ok (F := compF F sc cl C x (relab kd sc)) (fo'.quiet rfl) ti iti sr (by simp) fun s₄ tc₄ => ?_
      obtain ⟨h₄, tk₄, rfl, k₄⟩ := id tc₄
      have t₄ : St cx (compF F sc cl C x (relab kd sc)) (m.set x none) Hk h₄ := ti.touch ci k₄
      obtain ⟨oC, esC, epC, mc, hoC, hdC, nsC, _⟩ := t₄.vars
      have so₄ : ∀ b o, s'.heap.get? b = some o → Solid o → h₄.get? b = some o := fun b o e so => k₄ b o (by
        rintro rfl; obtain ⟨_, _, oI, T, vs, gI, hc, hT, hd⟩ := ci; rw [gI] at e; cases e; exact notSolid_of hc hT hd so) e
      exact hRR D C _ Hk acc mc fC fD hDC nsC ⟨ys, c, k₄ D _ (Ne.symm hID) hDi, ri.mono so₄, by first | lia | omega⟩ hHD t₄.own.1 t₄.heap (ki.touch fI tc₄ ci.2.1) hw
  exact codeAny_compStart_list (loop _ rfl) (self_ok it₁ (loop _ rfl))
end
end Mine
end
section
open PySem PySem.Calls PyProof.Rows
namespace Mine
set_option autoImplicit false

section
variable {cx : Cx} {F : Fm} {m : Loc} {H H' : AHeap} {s s' : Shared} {I : Addr} {kd : Kd} {sc : Scope} {x n : Nat} {q : Bool} {cl : List (Str × Addr)} {Q : Post} {X : XPost}

abbrev RepLs (cx : Cx) (k : Nat) : Heap → List Value → List PV → Prop := fun h vs ps => RepL cx h vs ps ∧ ps.length = k

theorem comp_fin' {vs : List PV} {D C : Addr} {mc : Str → Option Value} (t : St cx F m H s.heap) (fC : s.heap.get? C = none) (fD : s.heap.get? D = none) (hDC : D ≠ C) (ns : s'.heap.Ns C mc)
    (hD : ∃ ys k, s'.heap.get? D = some (lstObj ys k) ∧ RepL cx s'.heap ys.toList vs ∧ vs.length ≤ LIM) (hHD : H' D = none) (hHC : H' C = none) (hh : Holds cx s'.heap H') (k : Kp cx [] H s H' s') (h : alloc (.list vs) Q H')
    {h' : Heap} (sb : Heap.SameBut C s'.heap h') : St cx F m (upd H' D (.list vs)) h' ∧ Kp cx [] H s (upd H' D (.list vs)) { s' with heap := h' } ∧ Q (.obj D) (upd H' D (.list vs)) := by
  obtain ⟨ys, c, gD, r, l⟩ := hD
  obtain ⟨oC, es, ep, hoC, hdC, _⟩ := ns
  have bC : cx.B.get? C = none := by
    cases e : cx.B.get? C with
    | none => rfl
    | some o => rw [t.base _ _ e] at fC; cases fC
  have g : ∀ b o, b ≠ C → s'.heap.get? b = some o → h'.get? b = some o := fun b o n e => by rw [sb.2 b n]; exact e
  have nsC : ∀ o, s'.heap.get? C = some o → ¬ Solid o := fun o e => by rw [hoC] at e; cases e; exact notSolid_dict hdC
  have so : ∀ b o, s'.heap.get? b = some o → Solid o → h'.get? b = some o := fun b o e s => g b o (by rintro rfl; exact nsC o e s) e
  have hh' : Holds cx h' H' := hh.keepBut hHC g nsC
  have gD' := g D _ hDC gD
  have hu : Holds cx h' (upd H' D (.list vs)) := hh'.put (fun b o _ e => e) (fun o e => by
    rw [gD'] at e; cases e
    rintro (⟨i, n, q⟩ | ⟨n, t, u, v, q⟩ | ⟨⟨C, q⟩, _⟩) <;> simp [lstObj, tupObj, rngObj] at q) ⟨ys, c, gD', r.mono so, l⟩
  have k₁ : Kp cx [] H s H' { s' with heap := h' } := k.touch fC ⟨h', s'.toks, rfl, g⟩ bC
  have k₂ : Kp cx [] H s (upd H' D (.list vs)) { s' with heap := h' } := ⟨k₁.same, fun b o e nS hn => by
      obtain ⟨h1, o', e', sm⟩ := k₁.keep b o e nS hn
      exact ⟨by rw [upd_ne (by rintro rfl; rw [fD] at e; cases e)]; exact h1, o', e', sm⟩, k₁.alive, k₁.base⟩
  exact ⟨t.step k₂ hu, k₂, alloc_use h hHD⟩
theorem comp_fin {vs : List PV} {D C : Addr} {mc : Str → Option Value} (t : St cx F m H s.heap) (fC : s.heap.get? C = none) (fD : s.heap.get? D = none) (hDC : D ≠ C) (ns : s'.heap.Ns C mc)
    (hD : ∃ ys k, s'.heap.get? D = some (lstObj ys k) ∧ RepL cx s'.heap ys.toList vs ∧ vs.length ≤ LIM) (hHD : H' D = none) (hHC : H' C = none) (hh : Holds cx s'.heap H') (k : Kp cx [] H s H' s') (h : alloc (.list vs) Q H')
    {h' : Heap} (sb : Heap.SameBut C s'.heap h') : OkG (Rep cx) cx F m H s Q (.ref D) { s' with heap := h' } :=
  let ⟨a, b, c⟩ := comp_fin' t fC fD hDC ns hD hHD hHC hh k h sb; ⟨_, _, .obj D, a, b, c⟩

theorem comp_ok {elt iter : Expr} {ifs : List Expr} {px pos : Pos} {aT : BPost → Loc → AHeap → Prop} {aE : Post → Loc → AHeap → Prop}
    (fo : Fok cx n true kd F) (hsc : scOk kd (relab kd sc) sc (slot F.nm x) = true)
    (hIt : Ev (Rep cx) cx F (eval iter F.env) m H s (fun v H => itemsW v (fun xs src => compW src (fun y K H => aT (fun b H => if b then aE (fun v H => K [v] H) (m.set x (some y)) H else K [] H) (m.set x (some y)) H)
      (fun vs H => alloc (.list vs) Q H) xs [] H) H) X)
    (hT : ∀ {cl : List (Str × Addr)} {C : Addr} {m' : Loc} {H : AHeap} {s : Shared} {Q : BPost}, Fok cx n true (relab kd sc) (compF F sc cl C x (relab kd sc)) → St cx (compF F sc cl C x (relab kd sc)) m' H s.heap → aT Q m' H →
      Ev IsBB cx (compF F sc cl C x (relab kd sc)) (testsSem ifs (compEnvC sc cl C F.env)) m' H s Q fun _ _ => False)
    (hE : ∀ {cl : List (Str × Addr)} {C : Addr} {m' : Loc} {H : AHeap} {s : Shared} {Q : Post}, Fok cx n true (relab kd sc) (compF F sc cl C x (relab kd sc)) → St cx (compF F sc cl C x (relab kd sc)) m' H s.heap → aE Q m' H →
      Ev (Rep cx) cx (compF F sc cl C x (relab kd sc)) (eval elt (compEnvC sc cl C F.env)) m' H s Q fun _ _ => False)
    (hs : ∀ x, foldedSetIterable iter F.env x = pure x) :
    Ev (Rep cx) cx F (eval (.ListComp elt [⟨.Name (slot F.nm x) px, iter, ifs, 0⟩] sc pos) F.env) m H s Q X := by
  have hsc' := hsc
  unfold scOk at hsc'
  simp only [Bool.and_eq_true, beq_iff_eq, decide_eq_true_eq] at hsc'
  obtain ⟨⟨⟨⟨⟨⟨⟨hkind, _⟩, _⟩, hnc⟩, hloc⟩, hfr⟩, hx⟩, _⟩ := hsc'
  obtain ⟨cl, hclos, hcl1, hcl2⟩ := closure_ok fo.cells hfr
  have hnames : ∀ y ∈ sc.names, y.2 = .local → sc.names.lookup y.1 = some .local := fun y hy hl => by
    have := List.all_eq_true.mp hloc y hy
    simp [hl] at this; exact this
  unfold Ev
  rw [eval_ListComp]
  refine wpAny_comprehension_free (use := none) rfl hs hclos hkind hnames (wpAny_mono hIt (fun xv s₁ h₁ => ?_) fun _ _ e => e)
  obtain ⟨p, H₁, rv, t₁, k₁, hw⟩ := h₁
  refine iter_ok (F := F) rv t₁ hw fun I xs h' fI g it cI sr hl hc => ?_
  refine comp_block (RR := fun acc C => compPost cx.M F.A _ none _ acc C) fo hsc hcl1 hcl2 hT hE t₁ rfl g fI it cI hl hc ?_
  intro D C s' H' vs mc fC fD hDC ns hD hHD hHC hh k hq
  exact ⟨mc, ns, fun h'' sb => (comp_fin t₁ fC fD hDC ns hD hHD hHC hh k hq sb).older k₁⟩

theorem args_sem {f : Value} {k : Nat} {trees : List (Bool × Sem Value)} {Q : List PV → AHeap → Prop} (hp : ∀ x ∈ trees, x.1 = false) (h : Ev (RepLs cx k) cx F (spliced trees) m H s Q X) {QQ : Args → Shared → Prop}
    (hk : ∀ vs s', OkG (RepLs cx k) cx F m H s Q vs s' → QQ ⟨vs, []⟩ s') : wpAny cx.M F.A (evalArgs f true trees []) QQ (ErP cx F m H s X) s := by
  cases trees with
  | nil =>
    unfold evalArgs
    show wpAny cx.M F.A (spliced [] >>= _) QQ _ s
    refine wpAny_bind (wpAny_mono h (fun vs s' h' => ?_) fun _ _ x => x)
    refine wpAny_holding ?_
    exact wpAny_bind (wpAny_pure (wpAny_bind (wpAny_pure (wpAny_pure (hk vs s' h')))))
  | cons a r =>
    obtain ⟨b, x⟩ := a
    have := hp (b, x) List.mem_cons_self
    simp only at this
    subst this
    exact evalArgs_plain (wpAny_mono h (fun vs s' h' => hk vs s' h') fun _ _ e => e)

noncomputable def litV : Const → Option PV
  | .none => some .none
  | .bool b => some (.bool b)
  | .int i => some (.int i)
  | .str s => some (.str s)
  | _ => none
theorem litW_iff {c : Const} {Q : Post} (h : litW c Q H) : ∃ v, litV c = some v ∧ Q v H := by
  unfold litW at h
  split at h <;> first | exact ⟨_, rfl, h⟩ | exact h.elim
theorem lit_ok {c : Const} {k : Nat} {p : Pos} {v : PV} {A : Around} {env : Env} {QQ : Value → Shared → Prop} {E : Value → Shared → Prop} (hv : litV c = some v)
    (hQ : ∀ x tk, (∀ h, Rep cx h x v) → QQ x { s with toks := tk }) : wpAny cx.M A (eval (.Constant c k p) env) QQ E s := by
  unfold litV at hv
  split at hv <;> cases hv
  · exact wpAny_pure (hQ _ s.toks fun _ => .none)
  · exact wpAny_pure (hQ _ s.toks fun _ => .bool _)
  · exact fun _ _ _ => hQ _ _ fun _ => .int _ _
  · exact fun _ _ _ => hQ _ _ fun _ => .str _ _

theorem pairs_ok {g : Gl} {env : Env} {A : Around} {pos : Pos} : ∀ (ks : List (Str × Pos)) (es : AEs) {nm : List Str} {m : Loc} {Q : List PV → AHeap → Prop} {X : XPost} {s : Shared} {QQ : List (Value × Value) → Shared → Prop} {E : Value → Shared → Prop}, es.lits = true → ks.length = es.len →
    awpL g es Q X m H → (∀ prs tk kvs ps, Carries cx.sk prs kvs → kvs.map (·.1) = ks.map (·.1) → (∀ h, RepL cx h (kvs.map (·.2)) ps) → Q ps H → QQ prs { s with toks := tk }) →
    wpAny cx.M A (evalPairs (pairTrees (ks.map fun x => some (.Constant (.str x.1) 0 x.2)) (es.toEs nm) env pos)) QQ E s
  | [], .nil, _, _, _, _, s, _, _, _, _, h, hQ => pairTrees_nil_walk (hQ [] s.toks [] [] trivial rfl (fun _ => .nil) h)
  | [], .cons _ _, _, _, _, _, _, _, _, _, hl, _, _ => nomatch hl
  | _ :: _, .nil, _, _, _, _, _, _, _, _, hl, _, _ => nomatch hl
  | k :: ks, .cons e es, nm, m, Q, X, s, QQ, E, hlit, hl, h, hQ => by
    obtain ⟨c, kk, pp, rfl⟩ : ∃ c kk pp, e = .lit c kk pp := by
      cases e with
      | lit c kk pp => exact ⟨c, kk, pp, rfl⟩
      | _ => exact nomatch (show false = true from hlit)
    have hlit' : es.lits = true := hlit
    have hw : litW c (fun v H => awpL g es (fun vs H => Q (v :: vs) H) X m H) H := h
    obtain ⟨v, hv, hw⟩ := litW_iff hw
    refine pairTrees_cons_walk ?_
    refine Constant_str ?_
    refine lit_ok hv fun y tk ry => ?_
    refine pairs_ok ks es hlit' (by simpa [AEs.len] using hl) hw fun prs tk' kvs ps c1 c2 c3 c4 => ?_
    refine hQ _ tk' ((k.1, y) :: kvs) (v :: ps) ⟨by simp [Cx.sk, PySem.strKind, Value.isStrOf], rfl, c1⟩ (by simp [c2]) (fun h => .cons (ry h) (c3 h)) c4

theorem merged_rep {h : Heap} : ∀ {kvs : List (Str × Value)} {ks : List Str} {ps : List PV} {acc : List (Str × Value)} {pcc : List (Str × PV)}, kvs.map (·.1) = ks → RepL cx h (kvs.map (·.2)) ps → RepK cx h acc pcc →
    RepK cx h (merged acc kvs) ((ks.zip ps).foldl (fun d p => dset d p.1 p.2) pcc)
  | [], _, _, _, _, rfl, .nil, r => r
  | (k, v) :: kvs, _, _, acc, pcc, rfl, .cons a rs, r => by
    simp only [List.map_cons, List.zip_cons_cons, List.foldl_cons]
    exact merged_rep (acc := stored acc k v) rfl rs (r.dset a)
theorem dictOf_len (ks : List Str) (ps : List PV) : (dictOf ks ps).length ≤ ks.length := by
  unfold dictOf
  have : ∀ (l : List (Str × PV)) (acc : List (Str × PV)), (l.foldl (fun d p => dset d p.1 p.2) acc).length ≤ acc.length + l.length := by
    intro l
    induction l with
    | nil => intro acc; simp
    | cons a l ih =>
      intro acc
      have h1 := ih (dset acc a.1 a.2)
      have h2 := dset_length_le acc a.1 a.2
      simp only [List.foldl_cons, List.length_cons]
      first | lia | omega
  have h := this (ks.zip ps) []
  have : (ks.zip ps).length ≤ ks.length := by simp [List.length_zip]; exact Nat.min_le_left _ _
  simp at h; simp at this; first | lia | omega

theorem dict_ok {g : Gl} {ks : List (Str × Pos)} {es : AEs} {pos : Pos} (hm : ∃ a o, sysModules < a ∧ cx.B.get? a = some o) (hlit : es.lits = true) (hl : ks.length = es.len) (hn : es.len ≤ 15) (t : St cx F m H s.heap)
    (h : awpL g es (fun vs H => alloc (.dict (dictOf (ks.map (·.1)) vs)) Q H) X m H) :
    Ev (Rep cx) cx F (eval (.Dict (ks.map fun x => some (.Constant (.str x.1) 0 x.2)) (es.toEs F.nm) pos) F.env) m H s Q X := by
  have hL : LIM = 1048576 := rfl
  have lenE : ∀ es : AEs, (es.toEs F.nm).length = es.len := fun es => by
    have : ∀ k (es : AEs), es.len = k → (es.toEs F.nm).length = k := by
      intro k
      induction k with
      | zero => intro es h; cases es <;> simp_all [AEs.len, AEs.toEs]
      | succ k ih => intro es h; cases es <;> simp_all [AEs.len, AEs.toEs]
    exact this _ es rfl
  have fr := get_size_none s.heap
  have nm : (s.heap.objs.size == sysModules) = false := by
    obtain ⟨a, o, la, e⟩ := hm
    have := Heap.lt_size (t.base _ _ e)
    simp only [beq_eq_false_iff_ne]
    intro q; rw [← q] at la; exact absurd (Nat.lt_trans la this) (Nat.lt_irrefl _)
  cases ks with
  | nil =>
    cases es with
    | cons _ _ => simp [AEs.len] at hl
    | nil =>
      refine wpAny_Dict_empty (M := cx.M) ?_
      refine .alloc (tk := s.toks) (a := s.heap.objs.size) push_keeps fr (.obj _) ?_ t (alloc_use h (t.heap.fresh fr))
      exact ⟨[], Heap.DictOf.new _, .nil, by simp [dictOf], nm⟩
  | cons k ks =>
    refine wpAny_Dict_walk (knd := cx.sk) (by simp) (by rw [lenE]; simpa using hl) (by simp) (by rw [List.length_map]; first | lia | omega) ?_
    refine pairs_ok (H := H) (cx := cx) (k :: ks) es hlit hl h fun prs tk kvs ps c1 c2 c3 c4 => ?_
    have hD : (s.heap.push { cls := .type "dict", data := .dict #[] }).DictOf cx.sk s.heap.objs.size [] := Heap.DictOf.new _
    refine ⟨kvs, c1, hD, fun h' hm' sb => ?_⟩
    have keep : ∀ b o, s.heap.get? b = some o → h'.get? b = some o := fun b o e => by
      rw [sb.2 b (by rintro rfl; rw [fr] at e; cases e)]; exact push_keeps b o e
    have hk2 : kvs.length = ks.length + 1 := by have := congrArg List.length c2; simpa using this
    refine .alloc (a := s.heap.objs.size) keep fr (.obj _) ?_ t (alloc_use c4 (t.heap.fresh fr))
    refine ⟨_, hm', ?_, ?_, nm⟩
    · exact merged_rep c2 (c3 _) .nil
    · have := dictOf_len ((k :: ks).map (·.1)) ps
      simp only [List.length_map] at this
      simp only [List.length_cons] at this hl
      first | lia | omega
end
end Mine
end
section
open PySem PySem.Calls PyProof.Rows
namespace Mine
set_option autoImplicit false

section
variable {cx : Cx} {g : Gl} {fl : List Str} {mg mb : Str → Option Value} {n : Nat}

theorem St.ns_g {F : Fm} {m : Loc} {H : AHeap} {h : Heap} {a : Addr} {mm : Str → Option Value} (t : St cx F m H h) (x : cx.B.Ns a mm) : h.Ns a mm := x.keeps t.base

theorem glob_ok {F : Fm} {kd : Kd} {q : Bool} {m : Loc} {H : AHeap} {s : Shared} {x : Str} {p : Pos} {v : Value} {QQ : Value → Shared → Prop} {E : Value → Shared → Prop} (fo : Fok cx n q kd F) (gk : isGlob kd x = true) (t : St cx F m H s.heap) (gns : cx.B.Ns cx.ga mg)
    (hv : mg x = some v) (hQ : QQ v s) : wpAny cx.M F.A (eval (.Name x p) F.env) QQ E s := by
  unfold isGlob at gk
  simp only [Bool.and_eq_true, beq_iff_eq, Bool.not_eq_true'] at gk
  refine Name_function_global fo.kind (by rw [fo.kdo]; exact gk.1) ?_ gk.2
  exact loadGlobal_global (by rw [fo.glob]; exact t.ns_g gns) hv hQ
theorem bglob_ok {F : Fm} {kd : Kd} {q : Bool} {m : Loc} {H : AHeap} {s : Shared} {x : Str} {p : Pos} {v : Value} {QQ : Value → Shared → Prop} {E : Value → Shared → Prop} (fo : Fok cx n q kd F) (gk : isGlob kd x = true) (t : St cx F m H s.heap) (gns : cx.B.Ns cx.ga mg) (bns : cx.B.Ns cx.ba mb)
    (hm : mg x = none) (hv : mb x = some v) (hQ : QQ v s) : wpAny cx.M F.A (eval (.Name x p) F.env) QQ E s := by
  unfold isGlob at gk
  simp only [Bool.and_eq_true, beq_iff_eq, Bool.not_eq_true'] at gk
  refine Name_function_global fo.kind (by rw [fo.kdo]; exact gk.1) ?_ gk.2
  exact loadGlobal_builtin (by rw [fo.glob]; exact t.ns_g gns) hm (by rw [fo.bltn]; exact t.ns_g bns) hv hQ

theorem var_ok {F : Fm} {kd : Kd} {q : Bool} {m : Loc} {H : AHeap} {s : Shared} {i : Nat} {p : Pos} {Q : Post} {X : XPost} (fo : Fok cx n q kd F) (hv : F.vis i = true) (hk : isVar kd (slot F.nm i) = true) (hd : (slot F.nm i == ("__debug__" : Str)) = false) (hcd : (slot F.nm i == ("__classdict__" : Str)) = false)
    (t : St cx F m H s.heap) (h : varW (m.getD i none) Q H) : Ev (Rep cx) cx F (eval (.Name (slot F.nm i) p) F.env) m H s Q X := by
  unfold varW at h
  split at h
  · rename_i v hm
    refine wpAny_Name ?_ hd
    unfold isVar at hk
    simp only [Bool.or_eq_true, beq_iff_eq] at hk
    have cellCase : F.env.kindOf (slot F.nm i) ≠ some .local → ∀ c, F.env.cells.lookup (slot F.nm i) = some c → ∃ y, s.heap.IsCell c (some y) ∧ Rep cx s.heap y v := fun nl c hc => by
      obtain ⟨_, _, o, x, ho, hd, hv'⟩ := t.cells _ c hc
      obtain ⟨y, rfl, r⟩ := hv' i v hv rfl nl hm
      exact ⟨y, ⟨o, ho, hd⟩, r⟩
    rcases hk with (hk | hk) | hk
    · obtain ⟨o, es, ep, mc, ho, hd, ns, hv'⟩ := t.vars
      have hl : F.env.kindOf (slot F.nm i) = some .local := by rw [fo.kdo]; exact hk
      obtain ⟨x, hx, r⟩ := hv' i v hv hl hm
      exact wpAny_loadName_local fo.kind hl ns hx (.toks s.toks r t h)
    · have hl : F.env.kindOf (slot F.nm i) = some .cell := by rw [fo.kdo]; exact hk
      obtain ⟨c, hc⟩ := fo.cells _ (.inl hk)
      obtain ⟨y, hy, r⟩ := cellCase (by rw [hl]; decide) c hc
      exact wpAny_loadName_cell fo.kind hl hc hy (.toks s.toks r t h)
    · have hl : F.env.kindOf (slot F.nm i) = some .free := by rw [fo.kdo]; exact hk
      obtain ⟨c, hc⟩ := fo.cells _ (.inr hk)
      obtain ⟨y, hy, r⟩ := cellCase (by rw [hl]; decide) c hc
      exact wpAny_loadName_free fo.kind hl hc hy (.toks s.toks r t h) hcd
  · exact h.elim

noncomputable def semL (nm : List Str) (env : Env) : AEs → List (Bool × Sem Value)
  | .nil => []
  | .cons e es => (false, eval (e.toE nm) env) :: semL nm env es
theorem starEach_toEs (nm : List Str) (env : Env) : ∀ es : AEs, starEach (es.toEs nm) env = semL nm env es
  | .nil => rfl
  | .cons e es => by
    show starEach (e.toE nm :: es.toEs nm) env = _
    rw [show starEach (e.toE nm :: es.toEs nm) env = (false, eval (e.toE nm) env) :: starEach (es.toEs nm) env by cases e <;> rfl, starEach_toEs nm env es]
    rfl
theorem backTo_sem (nm : List Str) (env : Env) (pos : Pos) : ∀ es : AEs, backTo pos (semL nm env es) = semL nm env es
  | .nil => rfl
  | .cons e es => by
    have := backTo_sem nm env pos es
    unfold backTo at this ⊢
    simp only [semL, List.map_cons, this]
    rfl
theorem semL_plain (nm : List Str) (env : Env) : ∀ es : AEs, ∀ x ∈ semL nm env es, x.1 = false
  | .nil, x, h => by simp [semL] at h
  | .cons e es, x, h => by
    rcases List.mem_cons.mp h with rfl | h
    · rfl
    · exact semL_plain nm env es x h
theorem len_toEs (nm : List Str) : ∀ es : AEs, (es.toEs nm).length = es.len
  | .nil => rfl
  | .cons e es => by simp [AEs.toEs, AEs.len, len_toEs nm es]
theorem folded_ok (nm : List Str) (env : Env) (e : AE) (x : Value) : foldedSetIterable (e.toE nm) env x = pure x := by cases e <;> rfl
theorem marked_ok (nm : List Str) (o : CmpOp) (e : AE) (t : Sem Value) : markedBehindIn o (e.toE nm) t = t := by cases e <;> rfl
theorem isTrue_plain (nm : List Str) (env : Env) (e : AE) (w : Sem Value) (h1 : ∀ x p, e ≠ .not x p) (h2 : ∀ o es p, e ≠ .bop o es p) (h3 : ∀ l o r p, e ≠ .cmp l o r p) :
    isTrue (e.toE nm) env w = (do let v ← w; standAt (e.toE nm).pos; holding [v] (truthy v)) := by
  cases e with
  | not x p => exact absurd rfl (h1 x p)
  | bop o es p => exact absurd rfl (h2 o es p)
  | cmp l o r p => exact absurd rfl (h3 l o r p)
  | _ => rfl
theorem subscripted_plain (nm : List Str) (e : AE) : ∀ o i, subscripted (e.toE nm) false o i = operate [o, i] (getItem o i) := fun _ _ => by cases e <;> rfl
theorem base_ok (nm : List Str) (env : Env) (e : AE) (a : Str) (w : Sem Value) (h : blbase e = true) : attributeBase (e.toE nm) a env w = w := by
  cases e with
  | call f es pf p =>
    cases es with
    | nil => exact nomatch (show false = true from h)
    | cons e es => rfl
  | blt b es pf p =>
    cases es with
    | nil => exact nomatch (show false = true from h)
    | cons e es => rfl
  | new es pf p => exact nomatch (show false = true from h)
  | _ => rfl
end
end Mine
end
section
open PySem PySem.Calls PyProof.Rows
namespace Mine
set_option autoImplicit false

section
variable {cx : Cx} {g : Gl} {fl : List Str} {mg mb : Str → Option Value} {n : Nat}

/-- carry a value over a later step -/
theorem Ev.two {F : Fm} {m : Loc} {H : AHeap} {s : Shared} {X : XPost} {Q : Post} {α : Type} {β : Type} {R : Heap → α → β → Prop} {QQ : β → AHeap → Prop} {t : Sem α} {f : α → Sem Value}
    (h : Ev R cx F t m H s QQ X) (k : ∀ a b s₁ H₁, R s₁.heap a b → St cx F m H₁ s₁.heap → (∀ x o, s.heap.get? x = some o → Solid o → s₁.heap.get? x = some o) → QQ b H₁ → Ev (Rep cx) cx F (f a) m H₁ s₁ Q X) (t₀ : St cx F m H s.heap) :
    Ev (Rep cx) cx F (t >>= f) m H s Q X := Ev.bind h fun a b s₁ H₁ r st kp q => k a b s₁ H₁ r st (kp.solid0 t₀.heap) q

theorem Ev.mono_rep {F : Fm} {m : Loc} {H : AHeap} {s : Shared} {X : XPost} {Q : BPost} {t : Sem Value} (h : Ev IsB cx F t m H s Q X) : Ev (Rep cx) cx F t m H s (fun v H => ∃ b, v = .bool b ∧ Q b H) X :=
  wpAny_mono h (fun _ _ ⟨b, H', r, st, k, q⟩ => ⟨.bool b, H', by subst r; exact .bool b, st, k, b, rfl, q⟩) fun _ _ e => e
theorem Ev.weaken {α β : Type} {R : Heap → α → β → Prop} {F : Fm} {m : Loc} {H : AHeap} {s : Shared} {X : XPost} {Q Q' : β → AHeap → Prop} {t : Sem α} (h : Ev R cx F t m H s Q X) (k : ∀ b H, Q b H → Q' b H) : Ev R cx F t m H s Q' X :=
  wpAny_mono h (fun _ _ ⟨b, H', r, st, kp, q⟩ => ⟨b, H', r, st, kp, k b H' q⟩) fun _ _ e => e

theorem meth_case {F : Fm} {m : Loc} {H : AHeap} {s : Shared} {Q : Post} {X : XPost} {k : Meth} {o : AE} {es : AEs} {pa p : Pos}
    (hline : (pa.endLine == p.line) = true) (hlen : es.len ≤ 3) (hb : blbase o = true)
    (ho : Ev (Rep cx) cx F (eval (o.toE F.nm) F.env) m H s (fun v H => RecvW (awpL g es (fun vs H => methW k v vs Q H) X m H) H k v) X)
    (hes : ∀ {H : AHeap} {s : Shared} {QQ : List PV → AHeap → Prop}, St cx F m H s.heap → awpL g es QQ X m H → Ev (RepLs cx es.len) cx F (spliced (semL F.nm F.env es)) m H s QQ X) :
    Ev (Rep cx) cx F (eval (.Call (.Attribute (o.toE F.nm) k.name pa) (es.toEs F.nm) [] p) F.env) m H s Q X := by
  have hst : backTo p (starEach (es.toEs F.nm) F.env) = semL F.nm F.env es := by rw [starEach_toEs, backTo_sem]
  refine wpAny_Call_method_late (trees := semL F.nm F.env es) (base_ok _ _ _ _ _ hb) ?_ hline hst ?_
  · rw [hst]
    have : (semL F.nm F.env es).all (fun x => !x.1) = true := List.all_eq_true.mpr fun x hx => by rw [semL_plain _ _ _ x hx]; rfl
    rw [this, len_toEs]
    simp only [List.length_nil, List.isEmpty_nil, if_true]
    have : decide (es.len + 0 + 0 < 30) = true := by simp; first | lia | omega
    rw [this]; rfl
  · refine wpAny_mono ho (fun ov s₁ h₁ => ?_) fun _ _ e => e
    obtain ⟨v, H₁, rv, t₁, k₁, hr⟩ := h₁
    have fin : awpL g es (fun vs H => methW k v vs Q H) X m H₁ → wpAny cx.M F.A (callWith p (.builtin k.id) [ov] (semL F.nm F.env es) []) (OkG (Rep cx) cx F m H s Q) (ErP cx F m H s X) s₁ := fun hw => by
      refine callWith_builtin ?_ ?_
      · rw [List.any_eq_false]; intro x hx; rw [semL_plain _ _ _ x hx]; decide
      · refine wpAny_mono (args_sem (semL_plain _ _ _) (hes t₁ hw) (QQ := fun a s₂ => wpAny cx.M F.A (call (.builtin k.id) ([ov] ++ a.pos) a.kw) (OkG (Rep cx) cx F m H s Q) (ErP cx F m H s X) s₂) fun vs s₂ h₂ => ?_) (fun _ _ h => h) fun _ _ e => e.older k₁
        obtain ⟨ps, H₂, rs, t₂, k₂, hm⟩ := h₂
        exact Ev.older (k₁.trans k₂) (meth_ok (rv.mono (k₂.solid0 t₁.heap)) rs.1 t₂ hm)
    cases hr with
    | list ha hk hw =>
      rename_i a xs
      obtain rfl := Rep.objI rv
      obtain ⟨items, nn, gg, _⟩ := t₁.list ha
      have e2 : ∀ b, Value.ref a = .ref b → ∃ ob, s₁.heap.get? b = some ob ∧ ob.dict = none := fun b e => by cases e; exact ⟨_, gg, rfl⟩
      cases k <;> cases hk
      · exact ⟨"list", _, PySem.F.plainAttrs_list, PySem.F.slot_list_append, PySem.F.type_list_append, ⟨_, gg, rfl⟩, e2, fin hw⟩
      · exact ⟨"list", _, PySem.F.plainAttrs_list, PySem.F.slot_list_pop, PySem.F.type_list_pop, ⟨_, gg, rfl⟩, e2, fin hw⟩
      · exact ⟨"list", _, PySem.F.plainAttrs_list, PySem.F.slot_list_insert, PySem.F.type_list_insert, ⟨_, gg, rfl⟩, e2, fin hw⟩
      · exact ⟨"list", _, PySem.F.plainAttrs_list, PySem.F.slot_list_count, PySem.F.type_list_count, ⟨_, gg, rfl⟩, e2, fin hw⟩
    | str hw =>
      obtain ⟨u, rfl⟩ := rv.strI
      exact ⟨"str", _, PySem.F.plainAttrs_str, PySem.F.slot_str_join, PySem.F.type_str_join, typeIs_str _ _ _, (fun _ e => nomatch e), fin hw⟩

variable (ck : Cok cx g fl mg mb n)
include ck

theorem call_case {F : Fm} {kd : Kd} {m : Loc} {H : AHeap} {s : Shared} {Q : Post} {X : XPost} {f : Str} {es : AEs} {pf p : Pos} (fo : Fok cx n true kd F) (t : St cx F m H s.heap)
    (hg : isGlob kd f = true) (hf : fl.contains f = true) (hnm : isMeth f = false) (hw : awpL g es (fun vs H => g.C f vs H Q X) X m H)
    (hes : ∀ {H : AHeap} {s : Shared} {QQ : List PV → AHeap → Prop}, St cx F m H s.heap → awpL g es QQ X m H → Ev (RepLs cx es.len) cx F (spliced (semL F.nm F.env es)) m H s QQ X) :
    Ev (Rep cx) cx F (eval (.Call (.Name f pf) (es.toEs F.nm) [] p) F.env) m H s Q X := by
  obtain ⟨a, o, fd, hm, ho, hd, _⟩ := ck.fns f hf
  unfold Ev
  rw [arm_eval_Call_Name', starEach_toEs, backTo_sem]
  refine wpAny_bind (glob_ok fo hg t ck.gns ((fad_glob hnm).symm.trans hm) ?_)
  refine callWith_function (o := o) (fd := fd) (first := []) ?_
  refine args_sem (semL_plain _ _ _) (hes t hw) fun vs s₂ h₂ => ?_
  obtain ⟨ps, H₂, rs, t₂, k₂, hc⟩ := h₂
  exact ⟨⟨t₂.base _ _ ho, hd⟩, Ev.older k₂ (ck.calls f hf hc fo.fcl hm rs.1 t₂)⟩

theorem blt_case {F : Fm} {kd : Kd} {q : Bool} {m : Loc} {H : AHeap} {s : Shared} {Q : Post} {X : XPost} {b : Blt} {es : AEs} {pf p : Pos} (fo : Fok cx n q kd F) (t : St cx F m H s.heap) (hh : F.A.handled = none)
    (hg : isGlob kd b.name = true) (hw : awpL g es (fun vs H => bltW b vs Q H) X m H)
    (hes : ∀ {H : AHeap} {s : Shared} {QQ : List PV → AHeap → Prop}, St cx F m H s.heap → awpL g es QQ X m H → Ev (RepLs cx es.len) cx F (spliced (semL F.nm F.env es)) m H s QQ X) :
    Ev (Rep cx) cx F (eval (.Call (.Name b.name pf) (es.toEs F.nm) [] p) F.env) m H s Q X := by
  obtain ⟨h1, h2⟩ := ck.blts b
  unfold Ev
  rw [arm_eval_Call_Name', starEach_toEs, backTo_sem]
  refine wpAny_bind (bglob_ok fo hg t ck.gns ck.bns h1 h2 ?_)
  have hany : (semL F.nm F.env es).any (·.1) = false := by rw [List.any_eq_false]; intro x hx; rw [semL_plain _ _ _ x hx]; decide
  have key : ∀ {f : Value}, f = b.val → wpAny cx.M F.A (evalArgs f true (semL F.nm F.env es) []) (fun a s₁ => wpAny cx.M F.A (call f ([] ++ a.pos) a.kw) (OkG (Rep cx) cx F m H s Q) (ErP cx F m H s X) s₁) (ErP cx F m H s X) s := by
    rintro f rfl
    refine args_sem (semL_plain _ _ _) (hes t hw) fun vs s₂ h₂ => ?_
    obtain ⟨ps, H₂, rs, t₂, k₂, hc⟩ := h₂
    exact Ev.older k₂ (blt_ok hh rs.1 t₂ hc)
  have hk := key rfl
  have hb : (∃ id, b.val = .builtin id) ∨ ∃ T, b.val = .type T := by cases b <;> first | exact .inl ⟨_, rfl⟩ | exact .inr ⟨_, rfl⟩
  generalize b.val = f at hk hb ⊢
  rcases hb with ⟨id, rfl⟩ | ⟨T, rfl⟩
  · exact callWith_builtin hany hk
  · exact PySem.callWith_type hany hk
end
end Mine
end
section
open PySem PySem.Calls PyProof.Rows
namespace Mine
set_option autoImplicit false

theorem lk_atns : ∀ k ∈ atns, typeLookup (.type "object") k = pure none := by
  intro k hk
  rcases List.mem_cons.mp hk with rfl | hk
  · rw [typeLookup_type, builtinLookup_eq_fast]; kernel_rfl
  rcases List.mem_cons.mp hk with rfl | hk
  · rw [typeLookup_type, builtinLookup_eq_fast]; kernel_rfl
  rw [List.mem_singleton.mp hk, typeLookup_type, builtinLookup_eq_fast]; kernel_rfl
theorem lk_mtab : ∀ p ∈ mtab, ∃ y, typeLookup (.type "object") p.1 = pure y := by
  intro p hp
  exact ⟨_, typeLookup_type ..⟩
theorem fad_meth {cx : Cx} {mg : Str → Option Value} : ∀ p ∈ mtab, fad cx mg p.2 = cx.mN p.1 := by
  intro p hp
  rcases List.mem_cons.mp hp with rfl | hp
  · rfl
  rcases List.mem_cons.mp hp with rfl | hp
  · rfl
  rcases List.mem_cons.mp hp with rfl | hp
  · rfl
  rcases List.mem_cons.mp hp with rfl | hp
  · rfl
  rw [List.mem_singleton.mp hp]; rfl
theorem isMeth_of {p : Str × Str} (h : p ∈ mtab) : isMeth p.2 = true := List.any_eq_true.mpr ⟨p, h, beq_self_eq_true _⟩
section
variable {cx : Cx} {g : Gl} {fl : List Str} {mg mb : Str → Option Value} {n : Nat} (ck : Cok cx g fl mg mb n) {F : Fm} {m : Loc} {H : AHeap} {s : Shared} {Q : Post} {X : XPost}

theorem Rep.handed {h : Heap} {v : Value} {p : PV} (r : Rep cx h v p) : handedOut v = pure v := by cases r <;> rfl
theorem St.around {A A' : Around} {env : Env} {fs : List Env} {nm : List Str} {vis : Nat → Bool} {h : Heap} (t : St cx ⟨A, env, fs, nm, vis⟩ m H h) : St cx ⟨A', env, fs, nm, vis⟩ m H h := ⟨t.base, t.off, t.heap, t.frames, t.own, (let ⟨o, es, ep, mc, a, b, c, d⟩ := t.vars; ⟨o, es, ep, mc, a, b, c, d⟩), fun n c h => let ⟨a, b, o, x, d, e, f⟩ := t.cells n c h; ⟨a, b, o, x, d, e, f⟩⟩
theorem dget_dset {α : Type} {es : List (Str × α)} {k : Str} {v : α} (x : Str) : dget (dset es k v) x = if x = k then some v else dget es x := by
  unfold dset
  split
  · rename_i h
    induction es with
    | nil => simp at h
    | cons p es ih =>
      unfold dget
      rw [List.map_cons, List.find?_cons]
      by_cases hp : p.1 = k
      · simp only [hp, if_true]
        by_cases hx : x = k
        · subst hx; simp
        · have hx' : ¬ (k = x) := fun e => hx e.symm
          simp only [hx', decide_false, hx, if_false]
          rw [List.find?_cons]
          simp only [hp, hx', decide_false]
          by_cases ha : es.any (fun p => decide (p.1 = k)) = true
          · have := ih ha
            unfold dget at this
            rw [if_neg hx] at this
            exact this
          · have hm : es.map (fun p => if p.1 = k then (p.1, v) else p) = es := by
              conv => rhs; rw [← List.map_id es]
              refine List.map_congr_left fun q hq => ?_
              rw [if_neg fun e => ha (List.any_eq_true.mpr ⟨q, hq, by simp [e]⟩)]; rfl
            rw [hm]
      · simp only [hp, if_false]
        rw [List.any_cons] at h
        simp only [hp, decide_false, Bool.false_or] at h
        have := ih h
        unfold dget at this
        rw [List.find?_cons]
        by_cases hx : p.1 = x
        · have hxk : x ≠ k := fun e => hp (hx.trans e)
          simp [hx, hxk]
        · simp only [hx, decide_false]
          exact this
  · rename_i h
    unfold dget
    rw [List.find?_append]
    by_cases hx : x = k
    · subst hx
      have : es.find? (fun p => decide (p.1 = x)) = none := by
        rw [List.find?_eq_none]
        intro p hp
        simp only [decide_eq_true_eq]
        intro e
        exact h (List.any_eq_true.mpr ⟨p, hp, by simp [e]⟩)
      rw [this]; simp
    · have hx' : ¬ (k = x) := fun e => hx e.symm
      simp [hx, hx']
include ck
theorem inst_at {a d : Addr} {kvs : List (Str × PV)} (t : St cx F m H s.heap) (ha : H a = some (.inst d)) (hd : H d = some (.attrs kvs)) : ∃ C N mA, ClsAt s.heap C N cx.mN ∧ s.heap.InstFk a C mA ∧ (∀ x ∈ (["__getattribute__", "__getattr__", "__setattr__"] : List Str) ++ atns, cx.mN x = none)
    ∧ (∀ x p, dget kvs x = some p → ∃ v, mA x = some v ∧ Rep cx s.heap v p) ∧ (∀ x, dget kvs x = none → mA x = none) := by
  obtain ⟨C, N, hC, _, hcl, hid⟩ := ck.mach
  obtain ⟨C', o, hC', go, hc, hdd, hnc⟩ := t.heap a _ ha
  rw [hC] at hC'; cases hC'
  obtain ⟨mA, n1, ed, f, n, l⟩ := t.heap d _ hd
  have hne : d ≠ a := by rintro rfl; rw [ha] at hd; cases hd
  exact ⟨C, N, mA, hcl.keeps t.base, ⟨o, go, hc, hnc, .inr ⟨d, hdd, hne, n1, ed⟩⟩, hid, f, n⟩

theorem attr_ok {v : Value} {p : PV} {k : Str} (hk : k ∈ atns) (rv : Rep cx s.heap v p) (t : St cx F m H s.heap) (h : AttrW Q H k p) : Ev (Rep cx) cx F (getAttr v k true) m H s Q X := by
  cases h with
  | mk ha hd e h =>
    obtain rfl := Rep.objI rv
    obtain ⟨C, N, mA, hcl, I, hid, f, _⟩ := inst_at ck t ha hd
    obtain ⟨nm, q, bs, sn, sub, col, dd, k0, k1, k2, k3, k5, hC⟩ := hcl.obj
    obtain ⟨v, hv, rv⟩ := f _ _ e
    exact load_attrFk hC hcl.ns (hid _ (List.mem_append.mpr (.inl (by decide)))) (hid _ (List.mem_append.mpr (.inr hk))) (lk_atns k hk) I hv rv.handed (.toks _ rv t h)

theorem attr_case {o : AE} {k : Str} {p : Pos} (hb : blbase o = true) (hk : k ∈ atns) (ho : Ev (Rep cx) cx F (eval (o.toE F.nm) F.env) m H s (fun v H => AttrW Q H k v) X) :
    Ev (Rep cx) cx F (eval (.Attribute (o.toE F.nm) k p) F.env) m H s Q X := by
  unfold Ev
  rw [arm_eval_Attribute, base_ok _ _ _ _ _ hb]
  refine wpAny_bind (wpAny_mono ho (fun ov s₁ h₁ => ?_) fun _ _ e => e)
  obtain ⟨v, H₁, rv, t₁, k₁, hw⟩ := h₁
  exact wpAny_bind (wpAny_standAt (wpAny_bind (wpAny_holding (wpAny_mono (attr_ok ck hk rv t₁ hw) (fun r s₂ h₂ => wpAny_bind (wpAny_letTemporaryGo (wpAny_pure (h₂.older k₁)))) fun _ _ e => e.older k₁))))

theorem sattr_ok {v x : Value} {p y : PV} {k : Str} {K : AHeap → Prop} (hk : k ∈ atns) (rv : Rep cx s.heap v p) (rx : Rep cx s.heap x y) (t : St cx F m H s.heap) (h : SattrW K H k y p) :
    Ev (fun _ (_ : Unit) (_ : Unit) => True) cx F (setAttr v k x) m H s (fun _ H => K H) X := by
  cases h with
  | @mk a d kvs ha hd l h =>
    obtain rfl := Rep.objI rv
    obtain ⟨C, N, mA, hcl, I, hid, f, hno⟩ := inst_at ck t ha hd
    obtain ⟨nm, q, bs, sn, sub, col, dd, k0, k1, k2, k3, k5, hC⟩ := hcl.obj
    obtain ⟨C', o, hC', go, hc, hdd, hnc⟩ := t.heap a _ ha
    have hxC : a ≠ C := by
      rintro rfl
      rw [go] at hC
      cases hC
      exact hnc _ rfl
    have hda : a ≠ d := by rintro rfl; rw [ha] at hd; cases hd
    have hin : PySem.Within mA (kvs.map Prod.fst) := fun y hy => by
      cases hq : dget kvs y with
      | none => exact absurd (hno y hq) hy
      | some p =>
        unfold dget at hq
        obtain ⟨z, hz, _⟩ := Option.map_eq_some_iff.mp hq
        have h1 := List.find?_some hz
        exact List.mem_map.mpr ⟨z, List.mem_of_find?_eq_some hz, of_decide_eq_true h1⟩
    refine store_attrFk (ns := kvs.map Prod.fst) PySem.F.store_object hC hcl.ns (hid _ (List.mem_append.mpr (.inl (by decide)))) (hid _ (List.mem_append.mpr (.inr hk))) (lk_atns k hk) hxC I (fun h' tk I' hkeep hsame => ?_) hin (by rw [List.length_map, sizeLine_eq]; (first | lia | omega))
    have g : ∀ b o, b ≠ d → s.heap.get? b = some o → h'.get? b = some o := fun b o₂ hb e => by
      by_cases hba : b = a
      · subst hba
        rw [go] at e; cases e
        obtain ⟨o₁, e1, c1, c2, c3, c4⟩ := hsame o go
        have : o₁ = o := by
          obtain ⟨a1, a2, a3, a4⟩ := o₁
          obtain ⟨b1, b2, b3, b4⟩ := o
          have := c4 d hdd
          simp only at c1 c2 c3 this hdd
          subst c1 c2 c3
          rw [this, hdd]
        rw [e1, this]
      · exact hkeep b o₂ hba (fun o₀ dx g0 d0 => by rw [go] at g0; cases g0; rw [hdd] at d0; cases d0; exact hb) e
    have so : ∀ b o, s.heap.get? b = some o → Solid o → h'.get? b = some o := fun b o e so => g b o (by
      rintro rfl
      obtain ⟨ob, e', n, _⟩ := (t.heap _ _ hd).get; rw [e] at e'; cases e'; exact n so) e
    obtain ⟨o', go', _, _, hd'⟩ := I'
    rw [g a o hda go] at go'
    cases go'
    rcases hd' with ⟨q, _⟩ | ⟨d', q, _, n1', ed'⟩
    · rw [hdd] at q; cases q
    rw [hdd] at q; cases q
    have ro : RepO cx h' d (.attrs (dset kvs k y)) := by
      refine ⟨_, n1', ed', fun z p e => ?_, fun z e => ?_, Nat.le_trans (dset_length_le ..) l⟩
      · rw [dget_dset] at e
        by_cases hz : z = k
        · rw [if_pos hz] at e; cases e; exact ⟨x, if_pos hz, rx.mono so⟩
        · rw [if_neg hz] at e
          obtain ⟨v, hv, r⟩ := f z p e
          exact ⟨v, (if_neg hz).trans hv, r.mono so⟩
      · rw [dget_dset] at e
        by_cases hz : z = k
        · rw [if_pos hz] at e; cases e
        · rw [if_neg hz] at e
          exact (if_neg hz).trans (hno z e)
    exact .put (b := ()) hd g trivial ro t (mutate_use h)

theorem umeth_case {kd : Kd} {k c : Str} {o : AE} {es : AEs} {pa p : Pos} (fo : Fok cx n true kd F)
    (hline : (pa.endLine == p.line) = true) (hlen : es.len ≤ 3) (hb : blbase o = true) (hf : fl.contains c = true) (hm : mtab.lookup k = some c)
    (ho : Ev (Rep cx) cx F (eval (o.toE F.nm) F.env) m H s (fun v H => UmW (awpL g es (fun vs H => g.C c (v :: vs) H Q X) X m H) H k v) X)
    (hes : ∀ {H : AHeap} {s : Shared} {QQ : List PV → AHeap → Prop}, St cx F m H s.heap → awpL g es QQ X m H → Ev (RepLs cx es.len) cx F (spliced (semL F.nm F.env es)) m H s QQ X) :
    Ev (Rep cx) cx F (eval (.Call (.Attribute (o.toE F.nm) k pa) (es.toEs F.nm) [] p) F.env) m H s Q X := by
  have hst : backTo p (starEach (es.toEs F.nm) F.env) = semL F.nm F.env es := by rw [starEach_toEs, backTo_sem]
  unfold Ev
  rw [arm_eval_Call, base_ok _ _ _ _ _ hb, hst]
  refine wpAny_bind (wpAny_mono ho (fun ov s₁ h₁ => ?_) fun _ _ e => e)
  obtain ⟨v, H₁, rv, t₁, k₁, hw⟩ := h₁
  refine wpAny_bind (wpAny_standAt ?_)
  have hform : methodCallForm ((es.toEs F.nm).length + ([] : List Keyword).length) (semL F.nm F.env es) (backToKw p (keywordEach [] F.env)) = true := by
    show ((semL F.nm F.env es).all (fun x => !x.1) && (backToKw p (keywordEach [] F.env)).all (fun x => x.1.isSome) && decide ((es.toEs F.nm).length + ([] : List Keyword).length + (if ([] : List Keyword).isEmpty then 0 else 1) < 30)) = true
    have : (semL F.nm F.env es).all (fun x => !x.1) = true := List.all_eq_true.mpr fun x hx => by rw [semL_plain _ _ _ x hx]; rfl
    rw [this, len_toEs]
    simp only [List.length_nil, List.isEmpty_nil, if_true]
    have : decide (es.len + 0 + 0 < 30) = true := by simp; first | lia | omega
    rw [this]; rfl
  have hpos : methodCallPos true (o.toE F.nm) F.env pa p = pure p := by unfold methodCallPos; simp [hline]
  unfold methodCall
  rw [hform]
  obtain ⟨fa, oo, fd, hfa, hfo, hfd, hfc⟩ := ck.fns c hf
  have hmm := mem_of_lookup hm
  have hmn : cx.mN k = some (.ref fa) := (fad_meth (cx := cx) (mg := mg) (k, c) hmm).symm.trans hfa
  obtain ⟨y, hy⟩ := lk_mtab (k, c) hmm
  cases hw with
  | @mk a d kvs ha hd he hw =>
    obtain rfl := Rep.objI rv
    obtain ⟨C, N, mA, hcl, I, hid, f, hno⟩ := inst_at ck t₁ ha hd
    obtain ⟨nm, q, bs, sn, sub, col, dd, k0, k1, k2, k3, k5, hC⟩ := hcl.obj
    refine wpAny_bind (wpAny_holding (method_ofFk hC hcl.ns (hid _ (List.mem_append.mpr (.inl (by decide)))) (hid _ (List.mem_append.mpr (.inl (by decide)))) hmn (t₁.base _ _ hfo) (hfc (isMeth_of (p := (k, c)) hmm)) hy I (hno _ he) ?_))
    refine wpAny_bind (wpAny_of_eq hpos ?_)
    refine callWith_function (o := oo) (fd := fd) (first := [.ref a]) ?_
    refine wpAny_mono (args_sem (semL_plain _ _ _) (hes t₁ hw) (QQ := fun x s₂ => (s₂.heap.get? fa = some oo ∧ oo.data = .func fd) ∧ wpAny cx.M F.A (call (.ref fa) ([.ref a] ++ x.pos) x.kw) (OkG (Rep cx) cx F m H s Q) (ErP cx F m H s X) s₂) fun vs s₂ h₂ => ?_) (fun _ _ h => h) fun _ _ e => e.older k₁
    obtain ⟨ps, H₂, rs, t₂, k₂, hc⟩ := h₂
    exact ⟨⟨t₂.base _ _ hfo, hfd⟩, Ev.older (k₁.trans k₂) (ck.calls c hf hc fo.fcl hfa (.cons (.obj a) rs.1) t₂)⟩

theorem new_case {kd : Kd} {es : AEs} {pf p : Pos} (fo : Fok cx n true kd F) (t : St cx F m H s.heap) (hg : isGlob kd "Machine" = true) (hf : fl.contains "Machine.__init__" = true) (hne : 0 < es.len)
    (hw : awpL g es (fun vs H => newW g vs Q X H) X m H)
    (hes : ∀ {H : AHeap} {s : Shared} {QQ : List PV → AHeap → Prop}, St cx F m H s.heap → awpL g es QQ X m H → Ev (RepLs cx es.len) cx F (spliced (semL F.nm F.env es)) m H s QQ X) :
    Ev (Rep cx) cx F (eval (.Call (.Name "Machine" pf) (es.toEs F.nm) [] p) F.env) m H s Q X := by
  obtain ⟨C, N, hC, hmg, hcl, hid⟩ := ck.mach
  obtain ⟨fa, oo, fd, hfa, hfo, hfd, hfc⟩ := ck.fns _ hf
  have hst : backTo p (starEach (es.toEs F.nm) F.env) = semL F.nm F.env es := by rw [starEach_toEs, backTo_sem]
  unfold Ev
  rw [arm_eval_Call_Name']
  refine wpAny_bind (glob_ok fo hg t ck.gns hmg ?_)
  cases es with
  | nil => exact absurd hne (by decide)
  | cons e es =>
  refine callWith_cls (h₀ := cx.B) (C := C) (N := N) (mN := cx.mN) (e := e.toE F.nm) (rest := es.toEs F.nm) hcl ?_ ?_ ?_
  · show wpAny _ _ (spliced (backTo p (starEach ((AEs.cons e es).toEs F.nm) F.env))) _ _ _
    rw [hst]
    refine wpAny_mono (hes t hw) (fun vs s₂ h₂ => ?_) fun _ _ e => e
    obtain ⟨ps, H₂, rs, t₂, k₂, hn⟩ := h₂
    refine ⟨t₂.base, ?_⟩
    obtain ⟨nm, q, bs, sn, sub, col, dd, k0, k1, k2, k3, k5, hCo⟩ := (hcl.keeps t₂.base).obj
    refine wpAny_call_obj_initFk PySem.F.objNew hCo (hcl.keeps t₂.base).ns hfa (t₂.base _ _ hfo) (hfc rfl) fun h' x dx Mk => ?_
    obtain ⟨o, go, hc, hnc, hd⟩ := Mk.inst
    have hod := Mk.dict o go
    rcases hd with ⟨q, _⟩ | ⟨d', q, hdx, n1, ed⟩
    · rw [hod] at q; cases q
    rw [hod] at q; cases q
    have fx := t₂.heap.fresh Mk.newX
    have fd' := t₂.heap.fresh Mk.newD
    have ro1 : RepO cx h' dx (.attrs []) := ⟨_, n1, ed, fun _ _ e => (nomatch e), fun _ _ => rfl, Nat.zero_le _⟩
    have ro2 : RepO cx h' x (.inst dx) := ⟨C, o, hC, go, hc, hod, hnc⟩
    have hh1 : Holds cx h' (upd H₂ dx (.attrs [])) := t₂.heap.put (fun b ob _ e => Mk.keeps b ob e) (fun o e => by rw [Mk.newD] at e; cases e) ro1
    have hh2 : Holds cx h' (upd (upd H₂ dx (.attrs [])) x (.inst dx)) := hh1.put (fun _ _ _ e => e) (fun o' e => by
      obtain ⟨ob, e', ns, _⟩ := ro2.get; rw [e] at e'; cases e'; exact ns) ro2
    have k₃ : Kp cx [] H₂ s₂ (upd (upd H₂ dx (.attrs [])) x (.inst dx)) { s₂ with heap := h' } := .grow (tk := s₂.toks) Mk.keeps fun b ob e hb => by
      rw [upd_ne (by rintro rfl; rw [Mk.newX] at e; cases e), upd_ne (by rintro rfl; rw [Mk.newD] at e; cases e)]; exact hb
    have t₃ := t₂.step k₃ hh2
    have hx := upd_self (upd H₂ dx (.attrs [])) x (.inst dx)
    have hdx' : upd (upd H₂ dx (.attrs [])) x (.inst dx) dx = some (.attrs []) := by rw [upd_ne hdx, upd_self]
    have ex : Ext H₂ (upd (upd H₂ dx (.attrs [])) x (.inst dx)) := fun b ob e => upd_ext (by rw [upd_ne (Ne.symm hdx)]; exact fx) b ob (upd_ext fd' b ob e)
    have hcall := ck.calls _ hf (hn x dx _ fx fd' hx hdx' ex) (F := { F with A := F.A.under (.builtin "type.__call__" ⟨.ref C :: vs, []⟩) }) ⟨fo.fr, fo.quiet rfl, by show F.A.depth + 1 + 2 * n ≤ 900; have := fo.depth; (first | lia | omega), by show F.A.units + 1 + 8 * n + 200 ≤ cLine; have := fo.units; (first | lia | omega)⟩ hfa (.cons (.obj x) (rs.1.mono fun b o e _ => Mk.keeps b o e)) t₃.around
    refine wpAny_mono hcall (fun r s' h' => ?_) fun e s' h' => ?_
    · obtain ⟨pr, H', rr, t', k', rfl, hq⟩ := h'
      exact ⟨Rep.noneI rr, .obj x, H', .obj x, t'.around, (k₂.trans k₃).trans k', hq⟩
    · obtain ⟨e, c, H', rfl, x', t', k', hq⟩ := h'
      exact ErP.older (k₂.trans k₃) ⟨e, c, H', rfl, x', t'.around, k', hq⟩
  · have h1 := starEach_toEs F.nm F.env (.cons e es)
    have h2 := starEach_toEs F.nm F.env es
    rw [h2]; exact h1
  · rw [starEach_toEs, backTo_sem, List.any_eq_false]
    intro x hx
    rw [semL_plain _ _ _ x hx]; decide
end
end Mine
end
section
open PySem PySem.Calls PyProof.Rows
namespace Mine
set_option autoImplicit false
set_option linter.unusedSectionVars false
set_option linter.unusedVariables false

section
variable {cx : Cx} {g : Gl} {fl : List Str} {mg mb : Str → Option Value} {n : Nat}
variable (ck : Cok cx g fl mg mb n)

theorem tup_made {F : Fm} {m : Loc} {H : AHeap} {s : Shared} {vs : List Value} {ps : List PV} {Q : Post} {X : XPost} (r : RepL cx s.heap vs ps) (l : ps.length ≤ LIM) (t : St cx F m H s.heap) (h : Q (.tup ps) H) : Ev (Rep cx) cx F (newTuple vs) m H s Q X := by
  have hl := r.length
  have := LIM_le
  refine wpAny_newTuple ?_ (by first | lia | omega)
  exact new_tup (tk := s.toks) (c := 0) t push_keeps (Heap.get?_push_size _ rfl) (by simpa using r) l h
theorem list_made {F : Fm} {m : Loc} {H : AHeap} {s : Shared} {vs : List Value} {ps : List PV} {Q : Post} {X : XPost} (r : RepL cx s.heap vs ps) (l : ps.length ≤ LIM) (t : St cx F m H s.heap) (h : alloc (.list ps) Q H) : Ev (Rep cx) cx F (newList vs) m H s Q X := by
  have hl := r.length
  have := LIM_le
  refine wpAny_newList ?_ (by first | lia | omega)
  exact new_list (tk := s.toks) (c := 0) t push_keeps (get_size_none _) (Heap.get?_push_size _ rfl) (by simpa using r) l h

theorem truth_ok {F : Fm} {m : Loc} {H : AHeap} {s : Shared} {v : Value} {p : PV} {Q : BPost} {X : XPost} (r : Rep cx s.heap v p) (t : St cx F m H s.heap) (h : truthW p fun b => Q b H) : Ev IsBB cx F (truthy v) m H s Q X := by
  unfold truthW at h
  split at h
  · (first | (obtain ⟨_, rfl⟩ := Rep.intI r) | (obtain ⟨_, rfl⟩ := Rep.strI r) | (obtain rfl := Rep.objI r) | (obtain rfl := Rep.boolI r) | (obtain rfl := Rep.noneI r)); exact wpAny_truthy_bool (.toks s.toks rfl t h)
  · exact h.elim
theorem neg_ok {F : Fm} {m : Loc} {H : AHeap} {s : Shared} {i : Int} {u : Tok} {Q : Post} {X : XPost} (t : St cx F m H s.heap) (h : Q (.int (-i)) H) : Ev (Rep cx) cx F (unaryOp .USub (.int i u)) m H s Q X :=
  PyProof.Rows.neg_int (.toks _ (.int _ _) t h)
theorem not_ok {F : Fm} {m : Loc} {H : AHeap} {s : Shared} {b : Bool} {Q : Post} {X : XPost} (t : St cx F m H s.heap) (h : Q (.bool (!b)) H) : Ev (Rep cx) cx F (unaryOp .Not (.bool b)) m H s Q X :=
  PyProof.Rows.not_of (wpAny_truthy_bool (.toks s.toks (.bool _) t h))
theorem soundW {F : Fm} {m : Loc} {H : AHeap} {s : Shared} {Q : BPost} {X : XPost} (e : AE) (h1 : ∀ x p, e ≠ .not x p) (h2 : ∀ o es p, e ≠ .bop o es p) (h3 : ∀ l o r p, e ≠ .cmp l o r p)
    (h : Ev (Rep cx) cx F (eval (e.toE F.nm) F.env) m H s (fun v H => truthW v fun b => Q b H) X) : Ev IsBB cx F (isTrue (e.toE F.nm) F.env (eval (e.toE F.nm) F.env)) m H s Q X := by
  rw [isTrue_plain _ _ _ _ h1 h2 h3]
  exact Ev.bind h fun a pa s₁ H₁ ra t₁ k₁ h₁ => Ev.stand (Ev.holding (truth_ok ra t₁ h₁))

theorem m1_ok {F : Fm} {m : Loc} {H : AHeap} {s : Shared} {Q : Post} {X : XPost} {c cu : Pos} (t : St cx F m H s.heap) (h : Q (.int (-1)) H) : Ev (Rep cx) cx F (eval (.UnaryOp .USub (.Constant (.int 1) 0 c) cu) F.env) m H s Q X := by
  refine Ev.two (Q := Q) (QQ := fun v H => v = .int 1 ∧ Q (.int (-1)) H) (lit_ok (cx := cx) (c := .int 1) rfl fun x tk r => .toks tk (r _) t ⟨rfl, h⟩) (fun a pa s₁ H₁ ra t₁ _ h₁ => ?_) t
  obtain ⟨rfl, h₁⟩ := h₁
  refine Ev.stand (Ev.holding ?_)
  obtain ⟨u, rfl⟩ := ra.intI
  exact neg_ok t₁ h₁
noncomputable def evalEachL (nm : List Str) (env : Env) : AEs → List (Sem Value)
  | .nil => []
  | .cons e es => eval (e.toE nm) env :: evalEachL nm env es
theorem evalEach_toEs (nm : List Str) (env : Env) : ∀ es : AEs, evalEach (es.toEs nm) env = evalEachL nm env es
  | .nil => rfl
  | .cons e es => by
    show eval (e.toE nm) env :: evalEach (es.toEs nm) env = _
    rw [evalEach_toEs nm env es]; rfl

include ck
theorem isi_case {F : Fm} {kd : Kd} {q : Bool} {m : Loc} {H : AHeap} {s : Shared} {Q : Post} {X : XPost} {e : AE} {c : ICls} {pf p1 p2 p3 p : Pos} (fo : Fok cx n q kd F) (hi : isGlob kd "isinstance" = true) (hc : iclsOk kd c = true) (t : St cx F m H s.heap)
    (h : Ev (Rep cx) cx F (eval (e.toE F.nm) F.env) m H s (fun v H => isiW c v (fun b => Q (.bool b) H) H) X) : Ev (Rep cx) cx F (eval ((AE.isi e c pf p1 p2 p3 p).toE F.nm) F.env) m H s Q X := by
  have hst : starEach [e.toE F.nm, c.expr p1 p2 p3] F.env = [(false, eval (e.toE F.nm) F.env), (false, eval (c.expr p1 p2 p3) F.env)] := by
    have h1 : ∀ r, starEach (e.toE F.nm :: r) F.env = (false, eval (e.toE F.nm) F.env) :: starEach r F.env := fun r => by cases e <;> rfl
    rw [h1]
    cases c <;> rfl
  show wpAny cx.M F.A (eval (.Call (.Name "isinstance" pf) [e.toE F.nm, c.expr p1 p2 p3] [] p) F.env) _ _ s
  rw [arm_eval_Call_Name', hst]
  refine wpAny_bind (bglob_ok fo hi t ck.gns ck.bns ck.isi.1 ck.isi.2 ?_)
  refine callWith_builtin rfl (evalArgs_plain (spliced_cons (wpAny_mono h (fun v s₁ h₁ => ?_) fun _ _ e => e)))
  obtain ⟨pv, H₁, rv, t₁, k₁, h₁⟩ := h₁
  have bt : ∀ (T : String), T ∈ ["str", "list", "tuple", "bool", "int", "ValueError"] → isGlob kd (Str.ofString T) = true → Ev (Rep cx) cx F (call (.builtin "isinstance") [v, .type T]) m H₁ s₁ Q X →
      wpAny cx.M F.A (spliced [(false, eval (.Name (Str.ofString T) p1) F.env)]) (fun vs s₂ => wpAny cx.M F.A (call (.builtin "isinstance") ([] ++ v :: vs) []) (OkG (Rep cx) cx F m H s Q) (ErP cx F m H s X) s₂) (ErP cx F m H s X) s₁ := fun T hT hg hw =>
    spliced_cons (bglob_ok fo hg t₁ ck.gns ck.bns (ck.bty T hT).1 (ck.bty T hT).2 (spliced_nil (Ev.older k₁ hw)))
  have bas : c.basic = true → (∀ T, c.T = some T → Ev (Rep cx) cx F (call (.builtin "isinstance") [v, .type T]) m H₁ s₁ Q X) →
      wpAny cx.M F.A (spliced [(false, eval (c.expr p1 p2 p3) F.env)]) (fun vs s₂ => wpAny cx.M F.A (call (.builtin "isinstance") ([] ++ v :: vs) []) (OkG (Rep cx) cx F m H s Q) (ErP cx F m H s X) s₂) (ErP cx F m H s X) s₁ := fun hb hT => by
    cases c <;> cases hb
    · exact bt "str" (by decide) hc (hT _ rfl)
    · exact bt "list" (by decide) hc (hT _ rfl)
    · exact bt "tuple" (by decide) hc (hT _ rfl)
    · exact bt "bool" (by decide) hc (hT _ rfl)
    · exact bt "int" (by decide) hc (hT _ rfl)
  cases isiW_to h₁ with
  | val b e q => exact bas b fun T hT => isi_val hT rv t₁ e q
  | list b ha q => obtain rfl := Rep.objI rv; exact bas b fun T hT => isi_list hT t₁ ha q
  | own q =>
    simp only [iclsOk, Bool.and_eq_true, beq_iff_eq] at hc
    obtain ⟨C, h3, h4⟩ := ck.own _ _ hc.2
    refine spliced_cons (glob_ok fo hc.1 t₁ ck.gns h4 (spliced_nil ?_))
    exact Ev.older k₁ (ck.isx rv t₁ h3 q)
  | value q => exact bt "ValueError" (by decide) hc (ck.isv rv t₁ q)

mutual
theorem soundE : ∀ (e : AE) {F : Fm} {kd : Kd} {q : Bool} {m : Loc} {H : AHeap} {s : Shared} {Q : Post} {X : XPost}, Fok cx n q kd F → okE fl F.nm q F.vis kd e = true → St cx F m H s.heap → awpE g e Q X m H →
    Ev (Rep cx) cx F (eval (e.toE F.nm) F.env) m H s Q X
  | .lit c k p, F, kd, q, m, H, s, Q, X, fo, ok, t, h => by
    obtain ⟨v, hv, h⟩ := litW_iff h
    exact lit_ok (cx := cx) hv fun x tk r => .toks tk (r _) t h
  | .var i p, F, kd, q, m, H, s, Q, X, fo, ok, t, h => by
    replace ok := (show (_ && _) = true from ok); simp only [Bool.and_eq_true, Bool.not_eq_true'] at ok
    exact var_ok fo ok.1.1.1 ok.1.1.2 ok.1.2 ok.2 t h
  | .glob x p, F, kd, q, m, H, s, Q, X, fo, ok, t, h => by
    have h' : varW (g.G x) Q H := h
    unfold varW at h'
    split at h'
    · rename_i v hv
      obtain ⟨w, hw, r⟩ := ck.consts x v hv
      exact glob_ok fo ok t ck.gns hw (.toks s.toks (r.mono fun b o e _ => t.base b o e) t h')
    · exact h'.elim
  | .bin l o r p, F, kd, q, m, H, s, Q, X, fo, ok, t, h => by
    replace ok := (show (_ && _) = true from ok); simp only [Bool.and_eq_true] at ok
    refine Ev.two (soundE l fo ok.1 t h) (fun a pa s₁ H₁ ra t₁ _ h₁ => ?_) t
    refine Ev.two (Ev.holding (soundE r fo ok.2 t₁ h₁)) (fun b pb s₂ H₂ rb t₂ so h₂ => ?_) t₁
    exact Ev.stand (wpAny_operating (bin_ok (ra.mono so) rb t₂ h₂))
  | .neg e p, F, kd, q, m, H, s, Q, X, fo, ok, t, h => by
    refine Ev.two (soundE e fo ok t h) (fun a pa s₁ H₁ ra t₁ _ h₁ => ?_) t
    refine Ev.stand (Ev.holding ?_)
    split at h₁
    · obtain ⟨u, rfl⟩ := ra.intI; exact neg_ok t₁ h₁
    · exact h₁.elim
  | .not e p, F, kd, q, m, H, s, Q, X, fo, ok, t, h => by
    refine Ev.two (soundE e fo ok t h) (fun a pa s₁ H₁ ra t₁ _ h₁ => ?_) t
    refine Ev.stand (Ev.holding ?_)
    unfold truthW at h₁
    split at h₁
    · cases ra; exact not_ok t₁ h₁
    · exact h₁.elim
  | .bop o es p, F, kd, q, m, H, s, Q, X, fo, ok, t, h => by
    show Ev (Rep cx) cx F (boolOp p o (evalEach (es.toEs F.nm) F.env)) m H s Q X
    rw [evalEach_toEs]
    exact soundV o p es fo ok t h
  | .cmp l o r p, F, kd, q, m, H, s, Q, X, fo, ok, t, h => by
    replace ok := (show (_ && _) = true from ok); simp only [Bool.and_eq_true] at ok
    refine Ev.two (soundE l fo ok.1 t h) (fun a pa s₁ H₁ ra t₁ _ h₁ => ?_) t
    show Ev (Rep cx) cx F (compareChain p a [o] [markedBehindIn o (r.toE F.nm) (eval (r.toE F.nm) F.env)]) m H₁ s₁ Q X
    rw [marked_ok]
    refine Ev.two (Ev.holding (soundE r fo ok.2 t₁ h₁)) (fun b pb s₂ H₂ rb t₂ so h₂ => ?_) t₁
    refine Ev.stand (wpAny_operating ?_)
    have hu := fo.units
    exact (Ev.mono_rep (cmp_ok (by first | lia | omega) (ra.mono so) rb t₂ h₂)).weaken fun v H ⟨b, e, q⟩ => by subst e; exact q
  | .sub e i p, F, kd, q, m, H, s, Q, X, fo, ok, t, h => by
    replace ok := (show (_ && _) = true from ok); simp only [Bool.and_eq_true] at ok
    refine Ev.two (soundE e fo ok.1 t h) (fun a pa s₁ H₁ ra t₁ _ h₁ => ?_) t
    refine Ev.two (Ev.holding (soundE i fo ok.2 t₁ h₁)) (fun b pb s₂ H₂ rb t₂ so h₂ => ?_) t₁
    exact Ev.stand (sub_ok (subscripted_plain _ _) (ra.mono so) rb t₂ h₂)
  | .sfrom e i ps p, F, kd, q, m, H, s, Q, X, fo, ok, t, h => by
    replace ok := (show (_ && _) = true from ok); simp only [Bool.and_eq_true] at ok
    refine Subscript_ (wpAny_mono (soundE e fo ok.1 t h) (fun a s₁ h₁ => ?_) fun _ _ e => e)
    obtain ⟨pa, H₁, ra, t₁, k₁, h₁⟩ := h₁
    refine wpAny_bind (wpAny_mono (soundE i fo ok.2 t₁ h₁) (fun b s₂ h₂ => ?_) fun _ _ e => e.older k₁)
    obtain ⟨pb, H₂, rb, t₂, k₂, h₂⟩ := h₂
    refine wpAny_bind (wpAny_holding (wpAny_pure (wpAny_bind (wpAny_holding (wpAny_pure (wpAny_newObj_type ?_))))))
    exact Ev.older (((k₁.trans k₂)).trans (.grow (tk := s₂.toks) push_keeps fun _ _ _ e => e)) (sfrom_ok (fun _ _ => rfl) (ra.mono (k₂.solid0 t₁.heap)) rb t₂ h₂)
  | .sto e i ps p, F, kd, q, m, H, s, Q, X, fo, ok, t, h => by
    replace ok := (show (_ && _) = true from ok); simp only [Bool.and_eq_true] at ok
    refine Subscript_ (wpAny_mono (soundE e fo ok.1 t h) (fun a s₁ h₁ => ?_) fun _ _ e => e)
    obtain ⟨pa, H₁, ra, t₁, k₁, h₁⟩ := h₁
    refine wpAny_bind (wpAny_pure (wpAny_bind (wpAny_holding (wpAny_mono (soundE i fo ok.2 t₁ h₁) (fun b s₂ h₂ => ?_) fun _ _ e => e.older k₁))))
    obtain ⟨pb, H₂, rb, t₂, k₂, h₂⟩ := h₂
    refine wpAny_bind (wpAny_holding (wpAny_pure (wpAny_newObj_type ?_)))
    exact Ev.older (((k₁.trans k₂)).trans (.grow (tk := s₂.toks) push_keeps fun _ _ _ e => e)) (sto_ok (fun _ _ => rfl) (ra.mono (k₂.solid0 t₁.heap)) rb t₂ h₂)
  | .srev e c ps p cu, F, kd, q, m, H, s, Q, X, fo, ok, t, h => by
    refine Subscript_ (wpAny_mono (soundE e fo ok t h) (fun a s₁ h₁ => ?_) fun _ _ e => e)
    obtain ⟨pa, H₁, ra, t₁, k₁, h₁⟩ := h₁
    refine wpAny_bind (wpAny_pure (wpAny_bind (wpAny_holding (wpAny_pure (wpAny_bind (wpAny_holding (wpAny_mono (m1_ok (Q := fun w H => w = .int (-1) ∧ RevW Q H pa) (X := X) t₁ ⟨rfl, h₁⟩) (fun b s₂ h₂ => ?_) fun _ _ e => e.older k₁)))))))
    obtain ⟨pb, H₂, rb, t₂, k₂, rfl, h₂⟩ := h₂
    obtain ⟨u, rfl⟩ := rb.intI
    refine wpAny_newObj_type ?_
    exact Ev.older (((k₁.trans k₂)).trans (.grow (tk := s₂.toks) push_keeps fun _ _ _ e => e)) (rev_ok (fun _ _ => rfl) (ra.mono (k₂.solid0 t₁.heap)) t₂ h₂)
  | .tup es k p, F, kd, q, m, H, s, Q, X, fo, ok, t, h => by
    replace ok := (show (_ && _) = true from ok); simp only [Bool.and_eq_true, decide_eq_true_eq] at ok
    show Ev (Rep cx) cx F (do standAt p; newTuple (← spliced (backTo p (starEach (es.toEs F.nm) F.env)))) m H s Q X
    rw [starEach_toEs, backTo_sem]
    refine Ev.stand (Ev.two (soundL es fo ok.1 t h) (fun a ps s₁ H₁ ra t₁ _ h₁ => ?_) t)
    have hL : LIM = 1048576 := rfl
    have hl := ra.2
    exact tup_made ra.1 (by first | lia | omega) t₁ h₁
  | .list es p, F, kd, q, m, H, s, Q, X, fo, ok, t, h => by
    replace ok := (show (_ && _) = true from ok); simp only [Bool.and_eq_true, decide_eq_true_eq] at ok
    show Ev (Rep cx) cx F (do standAt p; newList (← spliced (backTo p (starEach (es.toEs F.nm) F.env)))) m H s Q X
    rw [starEach_toEs, backTo_sem]
    refine Ev.stand (Ev.two (soundL es fo ok.1 t h) (fun a ps s₁ H₁ ra t₁ _ h₁ => ?_) t)
    have hL : LIM = 1048576 := rfl
    have hl := ra.2
    exact list_made ra.1 (by first | lia | omega) t₁ h₁
  | .tape pc p, F, kd, q, m, H, s, Q, X, fo, ok, t, h => by
    refine Ev.stand (f := fun _ => spliced [(false, eval (.Constant (.int 0) 0 pc) F.env)] >>= fun vs => newList vs) ?_
    refine wpAny_bind (spliced_cons (lit_ok (cx := cx) (v := .int 0) rfl fun x tk r => spliced_nil ?_))
    obtain ⟨u, rfl⟩ := (r s.heap).intI
    refine wpAny_newList ?_ (by rw [sizeLine_eq]; simp)
    have fr := get_size_none s.heap
    have ro : RepO cx (s.heap.push (lstObj #[.int 0 u] 0)) s.heap.objs.size (.tape 0) := ⟨u, 0, Heap.get?_push_size _ rfl⟩
    exact .alloc (a := s.heap.objs.size) push_keeps fr (.obj _) ro t (alloc_use h (t.heap.fresh fr))
  | .dict ks vs p, F, kd, q, m, H, s, Q, X, fo, ok, t, h => by
    replace ok := (show (_ && _) = true from ok); simp only [Bool.and_eq_true, decide_eq_true_eq] at ok
    exact dict_ok ck.mods ok.1.1 ok.1.2 ok.2 t h
  | .call f es pf p, F, kd, q, m, H, s, Q, X, fo, ok, t, h => by
    replace ok := (show (_ && _) = true from ok); simp only [Bool.and_eq_true] at ok
    obtain ⟨⟨⟨⟨rfl, hg⟩, hf⟩, hes⟩, hnm⟩ := ok
    exact call_case ck fo t hg hf (by simpa using hnm) h fun t' h' => soundL es fo hes t' h'
  | .blt b es pf p, F, kd, q, m, H, s, Q, X, fo, ok, t, h => by
    replace ok := (show (_ && _) = true from ok); simp only [Bool.and_eq_true] at ok
    exact blt_case ck fo t (fo.quiet ok.1.1) ok.1.2 h fun t' h' => soundL es fo ok.2 t' h'
  | .isi e c pf p1 p2 p3 p, F, kd, q, m, H, s, Q, X, fo, ok, t, h => by
    replace ok := (show (_ && _) = true from ok); simp only [Bool.and_eq_true] at ok
    exact isi_case ck fo ok.1.1 ok.1.2 t (soundE e fo ok.2 t h)
  | .meth o k es pa p, F, kd, q, m, H, s, Q, X, fo, ok, t, h => by
    replace ok := (show (_ && _) = true from ok); simp only [Bool.and_eq_true, decide_eq_true_eq] at ok
    exact meth_case ok.1.1.2 ok.1.2 ok.2 (soundE o fo ok.1.1.1.1 t h) fun t' h' => soundL es fo ok.1.1.1.2 t' h'
  | .umeth o c k es pa p, F, kd, q, m, H, s, Q, X, fo, ok, t, h => by
    replace ok := (show (_ && _) = true from ok); simp only [Bool.and_eq_true, decide_eq_true_eq] at ok
    obtain ⟨⟨⟨⟨⟨⟨⟨ho, hes⟩, hl⟩, hn⟩, hb⟩, hf⟩, rfl⟩, hm⟩ := ok
    exact umeth_case ck fo hl hn hb hf hm (soundE o fo ho t h) fun t' h' => soundL es fo hes t' h'
  | .attr o k p, F, kd, q, m, H, s, Q, X, fo, ok, t, h => by
    replace ok := (show (_ && _) = true from ok); simp only [Bool.and_eq_true, decide_eq_true_eq] at ok
    exact attr_case ck ok.1.2 ok.2 (soundE o fo ok.1.1 t h)
  | .new es pf p, F, kd, q, m, H, s, Q, X, fo, ok, t, h => by
    replace ok := (show (_ && _) = true from ok); simp only [Bool.and_eq_true, decide_eq_true_eq] at ok
    obtain ⟨⟨⟨⟨rfl, hg⟩, hf⟩, hes⟩, hne⟩ := ok
    exact new_case ck fo t hg hf hne h fun t' h' => soundL es fo hes t' h'
  | .comp e x px it cs sc p, F, kd, q, m, H, s, Q, X, fo, ok, t, h => by
    replace ok := (show (_ && _) = true from ok); simp only [Bool.and_eq_true, decide_eq_true_eq] at ok
    obtain ⟨⟨⟨⟨⟨hit, hsc⟩, he⟩, hcs⟩, hlen⟩, rfl⟩ := ok
    refine comp_ok (aT := fun Q m H => awpC g cs Q (fun _ _ => False) m H) (aE := fun Q m H => awpE g e Q (fun _ _ => False) m H) fo hsc (soundE it fo hit t h) (fun {cl C m' H s Q} fo' t' h' => ?_) (fun {cl C m' H s Q} fo' t' h' => ?_) (folded_ok _ _ _)
    · exact soundC cs fo' hcs hlen t' h'
    · exact soundE e fo' he t' h'
theorem soundL : ∀ (es : AEs) {F : Fm} {kd : Kd} {q : Bool} {m : Loc} {H : AHeap} {s : Shared} {Q : List PV → AHeap → Prop} {X : XPost}, Fok cx n q kd F → okEs fl F.nm q F.vis kd es = true → St cx F m H s.heap → awpL g es Q X m H →
    Ev (RepLs cx es.len) cx F (spliced (semL F.nm F.env es)) m H s Q X
  | .nil, F, kd, q, m, H, s, Q, X, fo, ok, t, h => spliced_nil (.toks s.toks ⟨.nil, rfl⟩ t h)
  | .cons e es, F, kd, q, m, H, s, Q, X, fo, ok, t, h => by
    replace ok := (show (_ && _) = true from ok); simp only [Bool.and_eq_true] at ok
    refine spliced_cons (wpAny_mono (soundE e fo ok.1 t h) (fun v s₁ h₁ => ?_) fun _ _ x => x)
    obtain ⟨pv, H₁, rv, t₁, k₁, h₁⟩ := h₁
    refine wpAny_mono (soundL es fo ok.2 t₁ h₁) (fun vs s₂ h₂ => ?_) fun _ _ x => x.older k₁
    obtain ⟨ps, H₂, rs, t₂, k₂, h₂⟩ := h₂
    exact ⟨pv :: ps, H₂, ⟨.cons (rv.mono (k₂.solid0 t₁.heap)) rs.1, by simp [AEs.len, rs.2]⟩, t₂, k₁.trans k₂, h₂⟩
theorem soundV : ∀ (o : BoolOp) (p : Pos) (es : AEs) {F : Fm} {kd : Kd} {q : Bool} {m : Loc} {H : AHeap} {s : Shared} {Q : Post} {X : XPost}, Fok cx n q kd F → okEs fl F.nm q F.vis kd es = true → St cx F m H s.heap → awpV g o es Q X m H →
    Ev (Rep cx) cx F (boolOp p o (evalEachL F.nm F.env es)) m H s Q X
  | _, _, .nil, _, _, _, _, _, _, _, _, _, _, _, h => False.elim h
  | o, p, .cons e .nil, F, kd, q, m, H, s, Q, X, fo, ok, t, h => by
    replace ok := (show (_ && _) = true from ok); simp only [Bool.and_eq_true] at ok
    exact soundE e fo ok.1 t h
  | o, p, .cons e (.cons e' es), F, kd, q, m, H, s, Q, X, fo, ok, t, h => by
    replace ok := (show (_ && _) = true from ok); simp only [Bool.and_eq_true] at ok
    have ok' : okEs fl F.nm q F.vis kd (.cons e' es) = true := ok.2
    refine Ev.two (soundE e fo ok.1 t h) (fun a pa s₁ H₁ ra t₁ _ h₁ => ?_) t
    unfold truthW at h₁
    split at h₁
    · rename_i b
      cases ra
      refine Ev.stand (wpAny_bind (wpAny_holding (wpAny_truthy_bool ?_)))
      cases o <;> cases b
      · exact Ev.pure (.bool _) t₁ h₁
      · exact soundV .And p (.cons e' es) fo ok' t₁ h₁
      · exact soundV .Or p (.cons e' es) fo ok' t₁ h₁
      · exact Ev.pure (.bool _) t₁ h₁
    · exact h₁.elim
theorem soundB : ∀ (e : AE) {F : Fm} {kd : Kd} {q : Bool} {m : Loc} {H : AHeap} {s : Shared} {Q : BPost} {X : XPost}, Fok cx n q kd F → okE fl F.nm q F.vis kd e = true →
    (∀ {m : Loc} {H : AHeap} {s : Shared} {Q : Post} {X : XPost}, St cx F m H s.heap → awpE g e Q X m H → Ev (Rep cx) cx F (eval (e.toE F.nm) F.env) m H s Q X) → St cx F m H s.heap → awpB g e (awpE g e) Q X m H →
    Ev IsBB cx F (isTrue (e.toE F.nm) F.env (eval (e.toE F.nm) F.env)) m H s Q X
  | .not e p, F, kd, q, m, H, s, Q, X, fo, ok, hW, t, h => by
    refine Ev.bind (soundB e fo ok (fun t h => soundE e fo ok t h) t h) fun b b' s₁ H₁ rb t₁ k₁ h₁ => ?_
    have rb : b = b' := rb
    subst rb
    exact Ev.pure rfl t₁ h₁
  | .bop o es p, F, kd, q, m, H, s, Q, X, fo, ok, hW, t, h => soundBs o es fo ok t h
  | .cmp l o r p, F, kd, q, m, H, s, Q, X, fo, ok, hW, t, h => by
    replace ok := (show (_ && _) = true from ok); simp only [Bool.and_eq_true] at ok
    refine Ev.bind (soundE l fo ok.1 t h) fun a pa s₁ H₁ ra t₁ k₁ h₁ => ?_
    show Ev IsBB cx F (testChain p a [o] [markedBehindIn o (r.toE F.nm) (eval (r.toE F.nm) F.env)]) m H₁ s₁ Q X
    rw [marked_ok]
    refine Ev.bind (Ev.holding (soundE r fo ok.2 t₁ h₁)) fun b pb s₂ H₂ rb t₂ k₂ h₂ => ?_
    have hu := fo.units
    refine Ev.stand (Ev.bind (wpAny_operating (cmp_ok (by first | lia | omega) (ra.mono (k₂.solid0 t₁.heap)) rb t₂ h₂)) fun c c' s₃ H₃ rc t₃ k₃ h₃ => ?_)
    have rc : c = .bool c' := rc
    subst rc
    exact Ev.holding (wpAny_truthy_bool (.toks s₃.toks rfl t₃ h₃))
  | .lit c k p, F, kd, q, m, H, s, Q, X, fo, ok, hW, t, h => soundW _ (fun _ _ => (nomatch ·)) (fun _ _ _ => (nomatch ·)) (fun _ _ _ _ => (nomatch ·)) (hW t h)
  | .var i p, F, kd, q, m, H, s, Q, X, fo, ok, hW, t, h => soundW _ (fun _ _ => (nomatch ·)) (fun _ _ _ => (nomatch ·)) (fun _ _ _ _ => (nomatch ·)) (hW t h)
  | .glob x p, F, kd, q, m, H, s, Q, X, fo, ok, hW, t, h => soundW _ (fun _ _ => (nomatch ·)) (fun _ _ _ => (nomatch ·)) (fun _ _ _ _ => (nomatch ·)) (hW t h)
  | .bin l o r p, F, kd, q, m, H, s, Q, X, fo, ok, hW, t, h => soundW _ (fun _ _ => (nomatch ·)) (fun _ _ _ => (nomatch ·)) (fun _ _ _ _ => (nomatch ·)) (hW t h)
  | .neg e p, F, kd, q, m, H, s, Q, X, fo, ok, hW, t, h => soundW _ (fun _ _ => (nomatch ·)) (fun _ _ _ => (nomatch ·)) (fun _ _ _ _ => (nomatch ·)) (hW t h)
  | .sub e i p, F, kd, q, m, H, s, Q, X, fo, ok, hW, t, h => soundW _ (fun _ _ => (nomatch ·)) (fun _ _ _ => (nomatch ·)) (fun _ _ _ _ => (nomatch ·)) (hW t h)
  | .sfrom e i ps p, F, kd, q, m, H, s, Q, X, fo, ok, hW, t, h => soundW _ (fun _ _ => (nomatch ·)) (fun _ _ _ => (nomatch ·)) (fun _ _ _ _ => (nomatch ·)) (hW t h)
  | .sto e i ps p, F, kd, q, m, H, s, Q, X, fo, ok, hW, t, h => soundW _ (fun _ _ => (nomatch ·)) (fun _ _ _ => (nomatch ·)) (fun _ _ _ _ => (nomatch ·)) (hW t h)
  | .srev e c ps p cu, F, kd, q, m, H, s, Q, X, fo, ok, hW, t, h => soundW _ (fun _ _ => (nomatch ·)) (fun _ _ _ => (nomatch ·)) (fun _ _ _ _ => (nomatch ·)) (hW t h)
  | .tup es k p, F, kd, q, m, H, s, Q, X, fo, ok, hW, t, h => soundW _ (fun _ _ => (nomatch ·)) (fun _ _ _ => (nomatch ·)) (fun _ _ _ _ => (nomatch ·)) (hW t h)
  | .list es p, F, kd, q, m, H, s, Q, X, fo, ok, hW, t, h => soundW _ (fun _ _ => (nomatch ·)) (fun _ _ _ => (nomatch ·)) (fun _ _ _ _ => (nomatch ·)) (hW t h)
  | .tape pc p, F, kd, q, m, H, s, Q, X, fo, ok, hW, t, h => soundW _ (fun _ _ => (nomatch ·)) (fun _ _ _ => (nomatch ·)) (fun _ _ _ _ => (nomatch ·)) (hW t h)
  | .dict ks vs p, F, kd, q, m, H, s, Q, X, fo, ok, hW, t, h => soundW _ (fun _ _ => (nomatch ·)) (fun _ _ _ => (nomatch ·)) (fun _ _ _ _ => (nomatch ·)) (hW t h)
  | .call f es pf p, F, kd, q, m, H, s, Q, X, fo, ok, hW, t, h => soundW _ (fun _ _ => (nomatch ·)) (fun _ _ _ => (nomatch ·)) (fun _ _ _ _ => (nomatch ·)) (hW t h)
  | .blt b es pf p, F, kd, q, m, H, s, Q, X, fo, ok, hW, t, h => soundW _ (fun _ _ => (nomatch ·)) (fun _ _ _ => (nomatch ·)) (fun _ _ _ _ => (nomatch ·)) (hW t h)
  | .isi e c pf p1 p2 p3 p, F, kd, q, m, H, s, Q, X, fo, ok, hW, t, h => soundW _ (fun _ _ => (nomatch ·)) (fun _ _ _ => (nomatch ·)) (fun _ _ _ _ => (nomatch ·)) (hW t h)
  | .meth o k es pa p, F, kd, q, m, H, s, Q, X, fo, ok, hW, t, h => soundW _ (fun _ _ => (nomatch ·)) (fun _ _ _ => (nomatch ·)) (fun _ _ _ _ => (nomatch ·)) (hW t h)
  | .umeth o c k es pa p, F, kd, q, m, H, s, Q, X, fo, ok, hW, t, h => soundW _ (fun _ _ => (nomatch ·)) (fun _ _ _ => (nomatch ·)) (fun _ _ _ _ => (nomatch ·)) (hW t h)
  | .attr o k p, F, kd, q, m, H, s, Q, X, fo, ok, hW, t, h => soundW _ (fun _ _ => (nomatch ·)) (fun _ _ _ => (nomatch ·)) (fun _ _ _ _ => (nomatch ·)) (hW t h)
  | .new es pf p, F, kd, q, m, H, s, Q, X, fo, ok, hW, t, h => soundW _ (fun _ _ => (nomatch ·)) (fun _ _ _ => (nomatch ·)) (fun _ _ _ _ => (nomatch ·)) (hW t h)
  | .comp e x px it cs sc p, F, kd, q, m, H, s, Q, X, fo, ok, hW, t, h => soundW _ (fun _ _ => (nomatch ·)) (fun _ _ _ => (nomatch ·)) (fun _ _ _ _ => (nomatch ·)) (hW t h)
theorem soundBs : ∀ (o : BoolOp) (es : AEs) {F : Fm} {kd : Kd} {q : Bool} {m : Loc} {H : AHeap} {s : Shared} {Q : BPost} {X : XPost}, Fok cx n q kd F → okEs fl F.nm q F.vis kd es = true → St cx F m H s.heap → awpBs g o es Q X m H →
    Ev IsBB cx F (allTrue o (es.toEs F.nm) F.env) m H s Q X
  | o, .nil, F, kd, q, m, H, s, Q, X, fo, ok, t, h => Ev.pure rfl t h
  | o, .cons e es, F, kd, q, m, H, s, Q, X, fo, ok, t, h => by
    replace ok := (show (_ && _) = true from ok); simp only [Bool.and_eq_true] at ok
    refine Ev.bind (soundB e fo ok.1 (fun t h => soundE e fo ok.1 t h) t h) fun b b' s₁ H₁ rb t₁ k₁ h₁ => ?_
    have rb : b = b' := rb
    subst rb
    cases o <;> cases b
    · exact Ev.pure rfl t₁ h₁
    · exact soundBs .And es fo ok.2 t₁ h₁
    · exact soundBs .Or es fo ok.2 t₁ h₁
    · exact Ev.pure rfl t₁ h₁
theorem soundC : ∀ (cs : AEs) {F : Fm} {kd : Kd} {q : Bool} {m : Loc} {H : AHeap} {s : Shared} {Q : BPost} {X : XPost}, Fok cx n q kd F → okEs fl F.nm q F.vis kd cs = true → cs.len ≤ 1 → St cx F m H s.heap → awpC g cs Q X m H →
    Ev IsBB cx F (testsSem (cs.toEs F.nm) F.env) m H s Q X
  | .nil, F, kd, q, m, H, s, Q, X, fo, ok, hl, t, h => wpAny_tests_nil (.toks s.toks rfl t h)
  | .cons c .nil, F, kd, q, m, H, s, Q, X, fo, ok, hl, t, h => by
    replace ok := (show (_ && _) = true from ok); simp only [Bool.and_eq_true] at ok
    exact wpAny_tests_one (soundB c fo ok.1 (fun t h => soundE c fo ok.1 t h) t h)
  | .cons c (.cons d ds), F, kd, q, m, H, s, Q, X, fo, ok, hl, t, h => by simp [AEs.len] at hl
end
end
end Mine
end
section
open PySem PySem.Calls PyProof.Rows
namespace Mine
set_option autoImplicit false


/-- the error's own record and its traceback change, of frames the slots alone -/
structure Fly (F : Fm) (e : Addr) (P : Addr → Prop) (h h' : Heap) : Prop where
  oth : ∀ b o, h.get? b = some o → b ≠ e → ¬ P b → h'.get? b = some o ∨ ((∃ env ∈ F.fs, env.frame = some b) ∧ ∃ sl, h'.get? b = some { o with slots := sl })
  exc : ∀ o vs, h.get? e = some o → o.data = .fields vs → ∃ o' vs', h'.get? e = some o' ∧ (o'.cls = o.cls ∧ o'.dict = o.dict) ∧ o'.data = .fields vs'
  tb : ∀ b, P b → b ≠ e ∧ ∃ o ts, h.get? b = some o ∧ o.cls = .type "traceback" ∧ o.data = .fields ts

theorem dict_mapFields (f : Array Value → Array Value) (o : Obj) : (Obj.mapFields f o).dict = o.dict := by
  obtain ⟨c, d, dt, sl⟩ := o
  cases dt <;> rfl

section
variable {cx : Cx} {F : Fm} {m : Loc} {H H₁ : AHeap} {s s₁ : Shared} {e : Addr} {P : Addr → Prop}

theorem St.fly {h h' : Heap} (t : St cx F m H h) (f : Fly F e P h h') (he : ∃ o C vs, h.get? e = some o ∧ o.cls = .ref C ∧ o.dict = none ∧ o.data = .fields vs) (hB : cx.B.get? e = none) (hP : ∀ b, P b → cx.B.get? b = none) : St cx F m H h' := by
  obtain ⟨oe, C, vs, ge, hc, hy, hd⟩ := he
  obtain ⟨oe', vs', ge', hc', hd'⟩ := f.exc oe vs ge hd
  have nP : ∀ b o, h.get? b = some o → (∀ ts, o.data = .fields ts → o.dict ≠ none ∧ ∃ C, o.cls = .ref C) → b ≠ e ∧ ¬ P b := fun b o g n => ⟨by rintro rfl; rw [ge] at g; cases g; exact (n _ hd).1 hy, fun p => by
    obtain ⟨_, ob, ts, g', c, d⟩ := f.tb b p; rw [g] at g'; cases g'; obtain ⟨_, C, q⟩ := n _ d; rw [c] at q; cases q⟩
  have frame : ∀ b, (∃ env ∈ F.fs, env.frame = some b) → H b = none ∧ cx.B.get? b = none ∧ ∃ o es ep, h.get? b = some o ∧ o.data = .dict es ep := fun b ⟨env, hm, hf⟩ => by
    obtain ⟨_, L, o, es, ep, hf', hH, hb, ho, hd⟩ := t.frames env hm
    rw [hf] at hf'; cases hf'
    exact ⟨hH, hb, o, es, ep, ho, hd⟩
  have notF : ∀ b o, h.get? b = some o → (∀ es ep, o.data ≠ .dict es ep) → ¬ ∃ env ∈ F.fs, env.frame = some b := fun b o g n q => by
    obtain ⟨_, _, o', es, ep, g', d⟩ := frame b q; rw [g] at g'; cases g'; exact n _ _ d
  have so : ∀ b o, h.get? b = some o → Solid o → h'.get? b = some o ∨ ((∃ C, o.cls = .ref C) ∧ ∃ o' vs', h'.get? b = some o' ∧ (o'.cls = o.cls ∧ o'.dict = o.dict) ∧ o'.data = .fields vs') := fun b o g sl => by
    by_cases q : b = e
    · subst q; rw [ge] at g; cases g; exact .inr ⟨⟨C, hc⟩, oe', vs', ge', hc', hd'⟩
    · by_cases p : P b
      · obtain ⟨_, ob, ts, g', c', d⟩ := f.tb b p
        rw [g] at g'; cases g'
        exact absurd sl (notSolid_of c' (by decide) d)
      · exact .inl ((f.oth b o g q p).resolve_right fun x => notF b o g sl.notLoc.1 x.1)
  have keepA : ∀ b o, H b = some o → ∀ ob, h.get? b = some ob → h'.get? b = some ob := fun b o hb ob g => by
    obtain ⟨ob', g', ns, nf⟩ := (t.heap b o hb).get
    rw [g] at g'; cases g'
    obtain ⟨n1, n2⟩ := nP b ob g nf
    exact (f.oth b ob g n1 n2).resolve_right fun x => by have := (frame b x.1).1; rw [hb] at this; cases this
  have upto : ∀ b o, h.get? b = some o → (∀ ts, o.data ≠ .fields ts) → ∃ sl, h'.get? b = some { o with slots := sl } := fun b o g n => by
    obtain ⟨n1, n2⟩ := nP b o g fun ts q => absurd q (n ts)
    rcases f.oth b o g n1 n2 with g' | ⟨_, sl, g'⟩
    · exact ⟨o.slots, g'⟩
    · exact ⟨sl, g'⟩
  refine ⟨fun b o g => ?_, t.off, fun a o ha => ?_, fun env hm => ?_, t.own, ?_, fun n c hc' => ?_⟩
  · have g1 := t.base b o g
    refine (f.oth b o g1 (by rintro rfl; rw [hB] at g; cases g) (fun p => by rw [hP b p] at g; cases g)).resolve_right fun x => ?_
    have := (frame b x.1).2.1; rw [g] at this; cases this
  · have r := t.heap a o ha
    cases o with
    | list xs => obtain ⟨items, n, e, r, l⟩ := r; exact ⟨items, n, keepA _ _ ha _ e, r.mono' so, l⟩
    | tape k => obtain ⟨t, n, e⟩ := r; exact ⟨t, n, keepA _ _ ha _ e⟩
    | dict kvs => obtain ⟨vs, d, r, l⟩ := r; exact ⟨vs, (let ⟨o, es, ep, ho, y⟩ := d; ⟨o, es, ep, keepA _ _ ha _ ho, y⟩), r.mono' so, l⟩
    | inst d => obtain ⟨C, o, x, e, y⟩ := r; exact ⟨C, o, x, keepA _ _ ha _ e, y⟩
    | attrs kvs => obtain ⟨m, n1, ed, f, n, l⟩ := r; exact ⟨m, (let ⟨o, es, ep, e, y⟩ := n1; ⟨o, es, ep, keepA _ _ ha _ e, y⟩), (let ⟨od, e, y⟩ := ed; ⟨od, keepA _ _ ha _ e, y⟩), fun x p e => let ⟨v, a, b⟩ := f x p e; ⟨v, a, b.mono' so⟩, n, l⟩
  · obtain ⟨hk, L, o, es, ep, hf, hH, hb, ho, hd⟩ := t.frames env hm
    obtain ⟨sl, g'⟩ := upto L o ho (fun ts q => by rw [hd] at q; cases q)
    exact ⟨hk, L, _, es, ep, hf, hH, hb, g', hd⟩
  · obtain ⟨o, es, ep, mc, ho, hd, ⟨o1, es1, ep1, ho1, hd1, hk1, hm1⟩, hv⟩ := t.vars
    rw [ho] at ho1; cases ho1
    obtain ⟨sl, g'⟩ := upto _ o ho (fun ts q => by rw [hd] at q; cases q)
    exact ⟨_, es, ep, mc, g', hd, ⟨_, es1, ep1, g', hd1, hk1, hm1⟩, fun i v h1 h2 h3 => let ⟨x, q, r⟩ := hv i v h1 h2 h3; ⟨x, q, r.mono' so⟩⟩
  · obtain ⟨h1, h2, o, x, ho, hd, hv⟩ := t.cells n c hc'
    have n0 : ∀ ts, o.data ≠ .fields ts := fun ts q => by rw [hd] at q; cases q
    obtain ⟨n1, n2⟩ := nP c o ho fun ts q => absurd q (n0 ts)
    have g' := (f.oth c o ho n1 n2).resolve_right fun x => notF c o ho (fun _ _ q => by rw [hd] at q; cases q) x.1
    exact ⟨h1, h2, o, x, g', hd, fun i v a b c d => let ⟨y, q, r⟩ := hv i v a b c d; ⟨y, q, r.mono' so⟩⟩

theorem Kp.fly {S : List Addr} {h' : Heap} (k : Kp cx S H s H₁ s₁) (t : St cx F m H₁ s₁.heap) (f : Fly F e P s₁.heap h') (fe : s.heap.get? e = none) (fP : ∀ b, P b → s.heap.get? b = none) (hB : cx.B.get? e = none) (hP : ∀ b, P b → cx.B.get? b = none) :
    Kp cx S H s H₁ { s₁ with heap := h' } := by
  have frame : ∀ b, (∃ env ∈ F.fs, env.frame = some b) → cx.B.get? b = none ∧ ∃ o es ep, s₁.heap.get? b = some o ∧ o.data = .dict es ep := fun b ⟨env, hm, hf⟩ => by
    obtain ⟨_, L, o, es, ep, hf', hH, hb, ho, hd⟩ := t.frames env hm
    rw [hf] at hf'; cases hf'
    exact ⟨hb, o, es, ep, ho, hd⟩
  have step : ∀ b o, s.heap.get? b = some o → ∀ o₁, s₁.heap.get? b = some o₁ → ∃ o', h'.get? b = some o' ∧ SameO o₁ o' := fun b o g o₁ g₁ => by
    rcases f.oth b o₁ g₁ (by rintro rfl; rw [fe] at g; cases g) (fun p => by rw [fP b p] at g; cases g) with g' | ⟨fr, sl, g'⟩
    · exact ⟨o₁, g', .refl _⟩
    · obtain ⟨_, o2, es, ep, g2, d⟩ := frame b fr
      rw [g₁] at g2; cases g2
      exact ⟨_, g', .inr ⟨⟨es, ep, d⟩, sl, rfl⟩⟩
  refine ⟨?_, fun b o g nS hn => ?_, fun b o g => ?_, fun b o gB g => ?_⟩
  · obtain ⟨h, tk, e⟩ := k.same; exact ⟨h', tk, by rw [e]⟩
  · obtain ⟨h1, o₁, g₁, sm⟩ := k.keep b o g nS hn
    obtain ⟨o', g', sm'⟩ := step b o g o₁ g₁
    exact ⟨h1, o', g', sm.trans sm'⟩
  · obtain ⟨o₁, g₁⟩ := k.alive b o g
    obtain ⟨o', g', _⟩ := step b o g o₁ g₁
    exact ⟨o', g'⟩
  · have g₁ := k.base b o gB g
    refine (f.oth b o g₁ (by rintro rfl; rw [hB] at gB; cases gB) (fun p => by rw [hP b p] at gB; cases gB)).resolve_right fun x => ?_
    have := (frame b x.1).1; rw [gB] at this; cases this

/-- an error in flight, its traceback's top entry standing in the frame -/
inductive ExcAt (cx : Cx) (h₀ h : Heap) (e : Addr) (c : Nat) (v3 : Value) : Prop
  | mk (n : h₀.get? e = none) (oe : Obj) (vs : Array Value) (C : Addr) (a0 : Value) (g : h.get? e = some oe) (k : oe.cls = .ref C) (x : cx.cls c = some C ∧ oe.dict = none) (d : oe.data = .fields vs) (z : vs[0]? = some a0)
    (T : Addr) (oT : Obj) (ts : Array Value) (b1 : vs[1]? = some (.ref T)) (b2 : h₀.get? T = none) (b3 : T ≠ e) (b4 : h.get? T = some oT) (b5 : oT.cls = .type "traceback") (b6 : oT.data = .fields ts) (b7 : ts[3]? = some v3) : ExcAt cx h₀ h e c v3
abbrev ExcIn (cx : Cx) (L : Addr) (h₀ h : Heap) (e : Addr) (c : Nat) : Prop := ExcAt cx h₀ h e c (rawInt L)
theorem ExcIn.exc {L : Addr} {h₀ h : Heap} {c : Nat} (x : ExcIn cx L h₀ h e c) : Exc cx (some L) h₀ h e c := by
  obtain ⟨a, oe, vs, C, a0, b, c, d, f, g, T, oT, ts, h1, h2, h3, h4, h5, h6, h7⟩ := x
  exact ⟨a, oe, vs, C, a0, b, c, d, f, g, .inr ⟨T, oT, ts, h1, h2, h3, h4, h5, h6, .inr ⟨L, rfl, h7⟩⟩⟩

theorem funFrames_of {h : Heap} (hh : ∀ env ∈ F.fs, FrAt cx H h env) : ∀ l : List Env, (∀ env ∈ l, env ∈ F.fs) → h.FunFrames cx.B l
  | [], _ => trivial
  | env :: r, hl => by
    obtain ⟨hk, L, o, es, ep, hf, _, hb, ho, hd⟩ := hh env (hl env List.mem_cons_self)
    exact ⟨hk, ⟨L, o, hf, hb, ho, fun vs q => by rw [hd] at q; cases q⟩, funFrames_of hh r fun x hx => hl x (List.mem_cons_of_mem _ hx)⟩

theorem entry_own {A : Around} {outer : List Env} {L : Addr} {oe : Obj} {vs : Array Value} {head : Value} {hadNext : Bool} {Q : Unit → Shared → Prop} {E : Value → Shared → Prop}
    (hfr : A.frames = some F.fs) (hfs : F.fs = F.env :: outer) (t : St cx F m H s.heap) (hf : F.env.frame = some L) (he : s.heap.get? e = some oe) (hd : oe.data = .fields vs) (hsz : 1 < vs.size)
    (h : ∀ h' T oT ts oe' vs', (∀ b o, s.heap.get? b = some o → b ≠ e → h'.get? b = some o ∨ ((∃ env ∈ F.fs, env.frame = some b) ∧ ∃ sl, h'.get? b = some { o with slots := sl })) → s.heap.get? T = none → T ≠ e →
      h'.get? e = some oe' → (oe'.cls = oe.cls ∧ oe'.dict = oe.dict) → oe'.data = .fields vs' → vs'[0]? = vs[0]? → vs'[1]? = some (.ref T) → h'.get? T = some oT → oT.cls = .type "traceback" → oT.data = .fields ts → ts[3]? = some (rawInt L) → Q () { s with heap := h' }) :
    wpAny cx.M A (do let a ← frameOf F.env; let pl ← entryPlaceOf L hadNext; let b ← EntryCells.newEntry head a .none (rawInt L) .none pl; setField (.ref e) 1 b) Q E s := by
  have hl : s.heap.FunFrames cx.B (F.env :: outer) := funFrames_of t.frames _ fun env hm => hfs ▸ hm
  have hene : e ∉ (F.env :: outer).filterMap (·.frame) := fun hm => by
    obtain ⟨_, o, ho, hnf⟩ := hl.mem hm
    rw [he] at ho; injection ho with ho; subst ho; exact hnf vs hd
  refine wpAny_bind (wpAny_frameOf_fun (by rw [hfr, hfs]) hl hf fun h₁ hs₁ => ?_)
  refine wpAny_bind (wpAny_entryPlaceOf fun pl hpl => ?_)
  unfold EntryCells.newEntry newFields
  refine wpAny_bind (wpAny_newObj_type ?_ (hpl.sizeOk5 _ _ _ _ _))
  have he₁ : h₁.get? e = some oe := (hs₁.2.1 e hene).trans he
  have he₂ := Heap.get?_push_of_some (h := h₁) { cls := .type "traceback", dict := none, data := .fields ([head, .ref L, .none, rawInt L, .none] ++ (if pl.isEmpty then List.replicate 6 Value.none else pl)).toArray } he₁
  have hTe : h₁.objs.size ≠ e := Nat.ne_of_gt (Heap.lt_size he₁)
  have hd₃ := Obj.data_mapFields hd (·.setIfInBounds 1 (Value.ref h₁.objs.size))
  have he₃ := Heap.get?_update_self (Obj.mapFields (·.setIfInBounds 1 (Value.ref h₁.objs.size))) he₂ (Obj.isFreed_of_fields hd₃)
  have hT₃ := (Heap.get?_update_other (h₁.push { cls := .type "traceback", dict := none, data := .fields ([head, .ref L, .none, rawInt L, .none] ++ (if pl.isEmpty then List.replicate 6 Value.none else pl)).toArray })
    (Obj.mapFields (·.setIfInBounds 1 (Value.ref h₁.objs.size))) (Ne.symm hTe)).trans (Heap.get?_push_size h₁ rfl)
  refine wpAny_setField he₂ hd hsz (h _ h₁.objs.size _ _ _ _ (fun b o g n => ?_) ?_ hTe he₃ ⟨Obj.cls_mapFields _ _, dict_mapFields _ _⟩ hd₃ ?_ ?_ hT₃ rfl rfl ?_)
  · by_cases hm : b ∈ (F.env :: outer).filterMap (·.frame)
    · right
      obtain ⟨env, h1, h2⟩ := List.mem_filterMap.mp hm
      refine ⟨⟨env, hfs ▸ h1, h2⟩, ?_⟩
      obtain ⟨sl, g'⟩ := hs₁.2.2 b o g
      exact ⟨sl, by rw [Heap.get?_update_other _ _ (Ne.symm n)]; exact Heap.get?_push_of_some _ g'⟩
    · left
      rw [Heap.get?_update_other _ _ (Ne.symm n)]; exact Heap.get?_push_of_some _ ((hs₁.2.1 b hm).trans g)
  · cases q : s.heap.get? h₁.objs.size with
    | none => rfl
    | some o => have := Heap.lt_size q; rw [hs₁.1] at this; exact absurd this (Nat.lt_irrefl _)
  · rw [Array.getElem?_setIfInBounds_ne (by decide)]
  · simp [hsz]
  · first | (simp; done) | (rcases hpl with rfl | ⟨_, _, _, _, _, _, _, rfl⟩ <;> simp)

theorem note_ok {S : List Addr} {outer : List Env} {L : Addr} {c : Nat} {Q : Unit → Shared → Prop} {E : Value → Shared → Prop} {A : Around} (hfr : A.frames = some F.fs) (hfs : F.fs = F.env :: outer) (hf : F.env.frame = some L) (t : St cx F m H₁ s₁.heap) (k : Kp cx S H s H₁ s₁)
    (t₀ : cx.B.StaysIn s.heap) (x : Exc cx F.env.frame s.heap s₁.heap e c) (hQ : ∀ s₂, St cx F m H₁ s₂.heap → Kp cx S H s H₁ s₂ → ExcIn cx L s.heap s₂.heap e c → Q () s₂) : wpAny cx.M A (noteFrame (.ref e) F.env) Q E s₁ := by
  obtain ⟨fe, oe, vs, C, a0, ge, hc, hC, hd, h0, hx⟩ := x
  have hBn : ∀ b, s.heap.get? b = none → cx.B.get? b = none := fun b f => by
    cases q : cx.B.get? b with
    | none => rfl
    | some o => rw [t₀ _ _ q] at f; cases f
  have he : ∃ o C vs, s₁.heap.get? e = some o ∧ o.cls = .ref C ∧ o.dict = none ∧ o.data = .fields vs := ⟨oe, C, vs, ge, hc, hC.2, hd⟩
  unfold noteFrame
  simp only [hf]
  rcases hx with h1 | ⟨T, oT, ts, h1, fT, hTe, gT, cT, dT, h3⟩
  · refine wpAny_bind (wpAny_field ge hd h1 ?_)
    rw [if_neg (by decide)]
    refine entry_own hfr hfs t hf ge hd (Array.getElem?_eq_some_iff.mp h1).1 fun h' T oT ts oe' vs' oth fT hTe ge' ce' de' h0' h1' gT' cT dT h3 => ?_
    have f : Fly F e (fun _ => False) s₁.heap h' := ⟨fun b o g n _ => oth b o g n, fun o vs g d => by rw [ge] at g; cases g; exact ⟨oe', vs', ge', ce', de'⟩, fun _ q => q.elim⟩
    have fT0 : s.heap.get? T = none := by
      cases q : s.heap.get? T with
      | none => rfl
      | some o => obtain ⟨o', e'⟩ := k.alive T o q; rw [fT] at e'; cases e'
    exact hQ { s₁ with heap := h' } (t.fly f he (hBn _ fe) fun _ q => q.elim) (k.fly t f fe (fun _ q => q.elim) (hBn _ fe) fun _ q => q.elim)
      ⟨fe, oe', vs', C, a0, ge', ce'.1.trans hc, ⟨hC.1, ce'.2.trans hC.2⟩, de', h0'.trans h0, T, oT, ts, h1', fT0, hTe, gT', cT, dT, h3⟩
  · refine wpAny_bind (wpAny_field ge hd h1 ?_)
    rw [if_pos (show (Value.ref T != Value.none) = true from by simp)]
    rcases h3 with h3 | ⟨L', hL', h3⟩
    · refine wpAny_bind (wpAny_field gT dT h3 ?_)
      rw [if_neg (show ¬ ((Value.none == rawInt L) = true) from by simp [rawInt])]
      refine wpAny_bind (wpAny_setField gT dT (Array.getElem?_eq_some_iff.mp h3).1 ?_)
      have dT' := Obj.data_mapFields dT (·.setIfInBounds 3 Value.none)
      have gT' := Heap.get?_update_self (Obj.mapFields (·.setIfInBounds 3 Value.none)) gT (Obj.isFreed_of_fields dT')
      have f : Fly F e (fun b => b = T) s₁.heap (s₁.heap.update T (Obj.mapFields (·.setIfInBounds 3 Value.none))) :=
        ⟨fun b o g n q => .inl (upd_keeps b o q g), fun o vs' g d => ⟨o, vs', upd_keeps e o (Ne.symm hTe) g, ⟨rfl, rfl⟩, d⟩, fun b q => by subst q; exact ⟨hTe, oT, ts, gT, cT, dT⟩⟩
      have t₂ := t.fly f he (hBn _ fe) fun b q => by subst q; exact hBn _ fT
      have k₂ := k.fly t f fe (fun b q => by subst q; exact fT) (hBn _ fe) fun b q => by subst q; exact hBn _ fT
      have ge₂ := upd_keeps (f := Obj.mapFields (·.setIfInBounds 3 Value.none)) e oe (Ne.symm hTe) ge
      refine entry_own (s := { s₁ with heap := s₁.heap.update T (Obj.mapFields (·.setIfInBounds 3 Value.none)) }) hfr hfs t₂ hf ge₂ hd (Array.getElem?_eq_some_iff.mp h1).1 fun h' T₂ oT₂ ts₂ oe' vs' oth fT₂ hTe₂ ge' ce' de' h0' h1' gT₂ cT₂ dT₂ h3₂ => ?_
      have f₂ : Fly F e (fun _ => False) (s₁.heap.update T (Obj.mapFields (·.setIfInBounds 3 Value.none))) h' := ⟨fun b o g n _ => oth b o g n, fun o vs g d => by rw [ge₂] at g; cases g; exact ⟨oe', vs', ge', ce', de'⟩, fun _ q => q.elim⟩
      have fT0 : s.heap.get? T₂ = none := by
        cases q : s.heap.get? T₂ with
        | none => rfl
        | some o => obtain ⟨o', e'⟩ := k₂.alive T₂ o q; rw [fT₂] at e'; cases e'
      exact hQ { s₁ with heap := h' } (t₂.fly f₂ ⟨oe, C, vs, ge₂, hc, hC.2, hd⟩ (hBn _ fe) fun _ q => q.elim) (k₂.fly (s₁ := { s₁ with heap := s₁.heap.update T (Obj.mapFields (·.setIfInBounds 3 Value.none)) }) t₂ f₂ fe (fun _ q => q.elim) (hBn _ fe) fun _ q => q.elim)
        ⟨fe, oe', vs', C, a0, ge', ce'.1.trans hc, ⟨hC.1, ce'.2.trans hC.2⟩, de', h0'.trans h0, T₂, oT₂, ts₂, h1', fT0, hTe₂, gT₂, cT₂, dT₂, h3₂⟩
    · rw [hf] at hL'; cases hL'
      refine wpAny_bind (wpAny_field gT dT h3 ?_)
      rw [if_pos (show (rawInt L == rawInt L) = true from by simp)]
      exact wpAny_pure (hQ s₁ t k ⟨fe, oe, vs, C, a0, ge, hc, hC, hd, h0, T, oT, ts, h1, fT, hTe, gT, cT, dT, h3⟩)

/-- the flight ends: the record lies still -/
abbrev ExcOut (cx : Cx) (h₀ h : Heap) (e : Addr) (c : Nat) : Prop := ExcAt cx h₀ h e c .none
theorem ExcOut.exc {fr : Option Addr} {h₀ h : Heap} {c : Nat} (x : ExcOut cx h₀ h e c) : Exc cx fr h₀ h e c := by
  obtain ⟨a, oe, vs, C, a0, b, c, d, f, g, T, oT, ts, h1, h2, h3, h4, h5, h6, h7⟩ := x
  exact ⟨a, oe, vs, C, a0, b, c, d, f, g, .inr ⟨T, oT, ts, h1, h2, h3, h4, h5, h6, .inl h7⟩⟩
theorem ExcOut.rep {h₀ h : Heap} {c : Nat} (x : ExcOut cx h₀ h e c) : Rep cx h (.ref e) (.exc c) := by
  obtain ⟨a, oe, vs, C, a0, b, c, d, f, _⟩ := x
  exact .exc b c f d.1 d.2

theorem unflight_ok {S : List Addr} {c : Nat} {Q : Unit → Shared → Prop} {E : Value → Shared → Prop} {A : Around} {v3 : Value} (t : St cx F m H₁ s₁.heap) (k : Kp cx S H s H₁ s₁) (t₀ : cx.B.StaysIn s.heap)
    (x : ExcAt cx s.heap s₁.heap e c v3)
    (hQ : ∀ s₂, St cx F m H₁ s₂.heap → Kp cx S H s H₁ s₂ → ExcOut cx s.heap s₂.heap e c → Q () s₂) : wpAny cx.M A (setFlight (.ref e) none) Q E s₁ := by
  obtain ⟨fe, oe, vs, C, a0, ge, hc, hC, hd, h0, T, oT, ts, h1, fT, hTe, gT, cT, dT, h3⟩ := x
  have hBn : ∀ b, s.heap.get? b = none → cx.B.get? b = none := fun b f => by
    cases q : cx.B.get? b with
    | none => rfl
    | some o => rw [t₀ _ _ q] at f; cases f
  have hsz := (Array.getElem?_eq_some_iff.mp h3).1
  refine wpAny_setFlight_none ge hd h1 gT dT hsz ?_
  have dT' := Obj.data_mapFields dT (·.setIfInBounds 3 Value.none)
  have gT' := Heap.get?_update_self (Obj.mapFields (·.setIfInBounds 3 Value.none)) gT (Obj.isFreed_of_fields dT')
  have f : Fly F e (fun b => b = T) s₁.heap (s₁.heap.update T (Obj.mapFields (·.setIfInBounds 3 Value.none))) :=
    ⟨fun b o g n q => .inl (upd_keeps b o q g), fun o vs' g d => ⟨o, vs', upd_keeps e o (Ne.symm hTe) g, ⟨rfl, rfl⟩, d⟩, fun b q => by subst q; exact ⟨hTe, oT, ts, gT, cT, dT⟩⟩
  have t₂ := t.fly f ⟨oe, C, vs, ge, hc, hC.2, hd⟩ (hBn _ fe) fun b q => by subst q; exact hBn _ fT
  have k₂ := k.fly t f fe (fun b q => by subst q; exact fT) (hBn _ fe) fun b q => by subst q; exact hBn _ fT
  exact hQ { s₁ with heap := _ } t₂ k₂ ⟨fe, oe, vs, C, a0, upd_keeps e oe (Ne.symm hTe) ge, hc, hC, hd, h0, T, _, _, h1, fT, hTe, gT', (Obj.cls_mapFields _ _).trans cT, dT', by simp [hsz]⟩
end
end Mine
end
section
open PySem PySem.Calls PyProof.Rows
namespace Mine
set_option autoImplicit false

noncomputable def plc (F : Fm) : List Addr := F.env.locals :: F.env.cells.filterMap fun p => F.env.cells.lookup p.1
theorem mem_plc_cell {F : Fm} {x : Str} {c : Addr} (h : F.env.cells.lookup x = some c) : c ∈ plc F := List.mem_cons_of_mem _ (List.mem_filterMap.mpr ⟨(x, c), mem_of_lookup h, h⟩)

section
variable {cx : Cx} {F : Fm} {m : Loc} {H H₁ : AHeap} {s s₁ : Shared} {kd : Kd} {n : Nat} {q : Bool}

theorem St.setCell {h h' : Heap} {x : Nat} {v : Value} {p : PV} {c : Addr} (t : St cx F m H h) (fo : Fok cx n q kd F) (vx : F.vis x = true) (kl : F.env.kindOf (slot F.nm x) ≠ some .local)
    (hc : F.env.cells.lookup (slot F.nm x) = some c) (hc' : h'.IsCell c (some v)) (sb : Heap.SameBut c h h') (rv : Rep cx h v p) : St cx F (m.set x (some p)) H h' := by
  obtain ⟨hHc, hBc, oc, y, goc, dc, _⟩ := t.cells _ c hc
  have ns1 : ∀ o, h.get? c = some o → ¬ Solid o := fun o' e => by rw [goc] at e; cases e; exact notSolid_cell dc
  have k : ∀ b o, b ≠ c → h.get? b = some o → h'.get? b = some o := fun b o n e => by rw [sb.2 b n]; exact e
  have so : ∀ b o, h.get? b = some o → Solid o → h'.get? b = some o := fun b o e s => k b o (by rintro rfl; exact ns1 o e s) e
  have nd : ∀ b o es ep, h.get? b = some o → o.data = .dict es ep → b ≠ c := fun b o es ep e q => by rintro rfl; rw [goc] at e; cases e; rw [dc] at q; cases q
  refine ⟨fun b o e => k b o (by rintro rfl; rw [hBc] at e; cases e) (t.base b o e), t.off, t.heap.keepBut hHc k ns1, fun env he => ?_, t.own, ?_, fun nn c₂ hc₂ => ?_⟩
  · obtain ⟨hk, L, o, es, ep, hf, hH, hb, ho, hd'⟩ := t.frames env he
    exact ⟨hk, L, o, es, ep, hf, hH, hb, k L o (nd L o es ep ho hd') ho, hd'⟩
  · obtain ⟨o, es, ep, mc, ho, hd', ns, hv⟩ := t.vars
    have n := nd _ o es ep ho hd'
    refine ⟨o, es, ep, mc, k _ o n ho, hd', ns.at fun o e => k _ o n e, fun i w h1 h2 h3 => ?_⟩
    rcases Loc.get_set h3 with ⟨rfl, rfl⟩ | ⟨_, h3⟩
    · exact absurd h2 kl
    · obtain ⟨x, q, r⟩ := hv i w h1 h2 h3; exact ⟨x, q, r.mono so⟩
  · obtain ⟨h1, h2, o, w, ho, hd', hv⟩ := t.cells nn c₂ hc₂
    by_cases qc : c₂ = c
    · subst qc
      have e1 : nn = slot F.nm x := fo.apart _ _ _ hc₂ hc
      subst e1
      obtain ⟨o', go', do'⟩ := hc'
      refine ⟨h1, h2, o', some v, go', do', fun i w a b _ d => ?_⟩
      have : i = x := fo.inj i x a vx b
      subst this
      rcases Loc.get_set d with ⟨_, rfl⟩ | ⟨ne, _⟩
      · exact ⟨v, rfl, rv.mono so⟩
      · exact absurd rfl ne
    · refine ⟨h1, h2, o, w, k c₂ o qc ho, hd', fun i w' a b c' d => ?_⟩
      rcases Loc.get_set d with ⟨rfl, rfl⟩ | ⟨_, d⟩
      · subst b; rw [hc] at hc₂; cases hc₂; exact absurd rfl qc
      · obtain ⟨z, q, r⟩ := hv i w' a b c' d; exact ⟨z, q, r.mono so⟩

theorem Kp.one {h' : Heap} {tk : Nat} {a : Addr} (ha : a ∈ plc F) (hB : cx.B.get? a = none) (ga : ∃ o, h'.get? a = some o) (k : ∀ b o, b ≠ a → s.heap.get? b = some o → h'.get? b = some o) : Kp cx (plc F) H s H { s with heap := h', toks := tk } := by
  refine ⟨⟨h', tk, rfl⟩, fun b o e nS hn => ⟨hn, o, k b o (by rintro rfl; exact nS ha) e, .refl _⟩, fun b o e => ?_, fun b o eB e => k b o (by rintro rfl; rw [hB] at eB; cases eB) e⟩
  by_cases q : b = a
  · subst q; exact ga
  · exact ⟨o, k b o q e⟩

theorem store_name {x : Nat} {v : Value} {p : PV} {QQ : Unit → Shared → Prop} {E : Value → Shared → Prop} {A : Around} (fo : Fok cx n q kd F) (vx : F.vis x = true) (hk : kd (slot F.nm x) = some .local ∨ kd (slot F.nm x) = some .cell) (t : St cx F m H s.heap) (rv : Rep cx s.heap v p)
    (hQ : ∀ s', St cx F (m.set x (some p)) H s'.heap → Kp cx (plc F) H s H s' → (∀ b o, s.heap.get? b = some o → Solid o → s'.heap.get? b = some o) → QQ () s') : wpAny cx.M A (storeName F.env (slot F.nm x) v) QQ E s := by
  rcases hk with hk | hk
  · have hl : F.env.kindOf (slot F.nm x) = some .local := by rw [fo.kdo]; exact hk
    obtain ⟨o, es, ep, mc, ho, hd, ns, _⟩ := t.vars
    refine wpAny_storeName_local hl ns (fun h' ns' sb => ?_) (by rw [fo.kind]; rfl)
    have kk : ∀ b o, b ≠ F.env.locals → s.heap.get? b = some o → h'.get? b = some o := fun b o n e => by rw [sb.2 b n]; exact e
    refine hQ _ (t.setLocal fo.inj vx hl ns ns' rfl sb rv) (Kp.one (List.mem_cons_self ..) t.own.2 (let ⟨o, _, _, g, _⟩ := ns'; ⟨o, g⟩) kk) fun b o e so => kk b o ?_ e
    rintro rfl; rw [ho] at e; cases e; exact notSolid_dict hd so
  · have hl : F.env.kindOf (slot F.nm x) = some .cell := by rw [fo.kdo]; exact hk
    obtain ⟨c, hc⟩ := fo.cells _ (.inl hk)
    obtain ⟨hHc, hBc, oc, y, goc, dc, _⟩ := t.cells _ c hc
    refine wpAny_storeName_cell fo.kind hl hc ⟨oc, goc, dc⟩ fun h' hc' sb => ?_
    have kk : ∀ b o, b ≠ c → s.heap.get? b = some o → h'.get? b = some o := fun b o n e => by rw [sb.2 b n]; exact e
    refine hQ _ (t.setCell fo vx (by rw [hl]; decide) hc hc' sb rv) (Kp.one (tk := s.toks) (mem_plc_cell hc) hBc (let ⟨o, g, _⟩ := hc'; ⟨o, g⟩) kk) fun b o e so => kk b o ?_ e
    rintro rfl; rw [goc] at e; cases e; exact notSolid_cell dc so

/-! statements -/
inductive OkN (cx : Cx) (F : Fm) (H : AHeap) (s : Shared) (N : NPost) (s' : Shared) : Prop
  | mk (m' : Loc) (H' : AHeap) (t : St cx F m' H' s'.heap) (k : Kp cx (plc F) H s H' s') (q : N m' H') : OkN cx F H s N s'
inductive OkR (cx : Cx) (F : Fm) (H : AHeap) (s : Shared) (R : Post) (v : Value) (s' : Shared) : Prop
  | mk (p : PV) (m' : Loc) (H' : AHeap) (r : Rep cx s'.heap v p) (t : St cx F m' H' s'.heap) (k : Kp cx (plc F) H s H' s') (q : R p H') : OkR cx F H s R v s'
noncomputable def OkS (cx : Cx) (F : Fm) (H : AHeap) (s : Shared) (N : NPost) (R : Post) : Flow → Shared → Prop := fun f s' => match f with
  | .next => OkN cx F H s N s'
  | .ret v => OkR cx F H s R v s'
  | _ => False
inductive ErS (cx : Cx) (F : Fm) (H : AHeap) (s : Shared) (X : SXPost) (v : Value) (s' : Shared) : Prop
  | mk (e : Addr) (c : Nat) (m' : Loc) (H' : AHeap) (hv : v = .ref e) (x : Exc cx F.env.frame s.heap s'.heap e c) (t : St cx F m' H' s'.heap) (k : Kp cx (plc F) H s H' s') (q : X c m' H') : ErS cx F H s X v s'
noncomputable def EvS (cx : Cx) (F : Fm) (t : Sem Flow) (H : AHeap) (s : Shared) (N : NPost) (R : Post) (X : SXPost) : Prop := wpAny cx.M F.A t (OkS cx F H s N R) (ErS cx F H s X) s

theorem OkS.older {N : NPost} {R : Post} {f : Flow} {s' : Shared} (k : Kp cx (plc F) H s H₁ s₁) (x : OkS cx F H₁ s₁ N R f s') : OkS cx F H s N R f s' := by
  cases f with
  | next => obtain ⟨m', H', t, k', h⟩ := x; exact ⟨m', H', t, k.trans k', h⟩
  | ret v => obtain ⟨p, m', H', r, t, k', h⟩ := x; exact ⟨p, m', H', r, t, k.trans k', h⟩
  | _ => exact x.elim
theorem ErS.older {X : SXPost} {v : Value} {s' : Shared} (k : Kp cx (plc F) H s H₁ s₁) (x : ErS cx F H₁ s₁ X v s') : ErS cx F H s X v s' := by
  obtain ⟨e, c, m', H', r, y, t, k', h⟩ := x
  exact ⟨e, c, m', H', r, y.older k.alive, t, k.trans k', h⟩
theorem EvS.older {N : NPost} {R : Post} {X : SXPost} {t : Sem Flow} (k : Kp cx (plc F) H s H₁ s₁) (x : EvS cx F t H₁ s₁ N R X) : wpAny cx.M F.A t (OkS cx F H s N R) (ErS cx F H s X) s₁ :=
  wpAny_mono x (fun _ _ y => y.older k) fun _ _ y => y.older k
theorem ErP.toS {X : SXPost} {v : Value} {s' : Shared} (x : ErP cx F m H s (fun c H => X c m H) v s') : ErS cx F H s X v s' := by
  obtain ⟨e, c, H', r, y, t, k, h⟩ := x; exact ⟨e, c, m, H', r, y, t, k.nil, h⟩
/-- an expression, then the rest of the statement -/
theorem EvS.after {α β : Type} {RR : Heap → α → β → Prop} {Q : β → AHeap → Prop} {N : NPost} {R : Post} {X : SXPost} {t : Sem α} {f : α → Sem Flow} (h : Ev RR cx F t m H s Q fun c H => X c m H)
    (k : ∀ a b s₁ H₁, RR s₁.heap a b → St cx F m H₁ s₁.heap → Kp cx [] H s H₁ s₁ → Q b H₁ → EvS cx F (f a) H₁ s₁ N R X) : EvS cx F (t >>= f) H s N R X :=
  wpAny_bind (wpAny_mono h (fun a s₁ ⟨b, H₁, r, st, kp, q⟩ => (k a b s₁ H₁ r st kp q).older kp.nil) fun _ _ y => y.toS)
theorem EvS.seq {N N₁ : NPost} {R : Post} {X : SXPost} {st : Stmt} {rest : List Stmt} (h : EvS cx F (exec st F.env) H s N₁ R X)
    (k : ∀ m₁ s₁ H₁, St cx F m₁ H₁ s₁.heap → N₁ m₁ H₁ → EvS cx F (execs rest F.env) H₁ s₁ N R X) : EvS cx F (execs (st :: rest) F.env) H s N R X := by
  refine wpAny_execs_cons (wpAny_mono h (fun f s' h' => ?_) fun _ _ e => e)
  cases f with
  | next => obtain ⟨m', H', t, kp, hn⟩ := h'; exact (k m' s' H' t hn).older kp
  | ret v => exact h'
  | brk => exact h'
  | cont => exact h'
end
end Mine
end
section
open PySem PySem.Calls PyProof.Rows
namespace Mine
set_option autoImplicit false

noncomputable def isComp : AE → Bool
  | .comp .. => true
  | _ => false
noncomputable def isTup : AE → Bool
  | .tup .. => true
  | _ => false
noncomputable def ASs.isNil : ASs → Bool
  | .nil => true
  | _ => false
noncomputable def AHs.isNil : AHs → Bool
  | .nil => true
  | _ => false
section
variable (fl : List Str) (nm : List Str) (vis : Nat → Bool) (kd : Kd)
noncomputable def stOk (x : Nat) : Bool := vis x && (kd (slot nm x) == some .local || kd (slot nm x) == some .cell)
mutual
noncomputable def okS (q : Bool) : AS → Bool
  | .expr e _ => okE fl nm q vis kd e && !isComp e
  | .assign x _ e _ => okE fl nm q vis kd e && stOk nm vis kd x
  | .assignT xs _ _ e _ => q && okE fl nm q vis kd e && !isComp e && !isTup e && xs.all fun x => stOk nm vis kd x.1
  | .store o i _ e _ => okE fl nm q vis kd o && okE fl nm q vis kd i && okE fl nm q vis kd e && !isComp e
  | .sattr o k _ e _ => okE fl nm q vis kd o && okE fl nm q vis kd e && !isComp e && decide (k ∈ atns)
  | .ite c a b _ => okE fl nm q vis kd c && okSs q a && okSs q b
  | .for x _ it b _ => q && okE fl nm q vis kd it && stOk nm vis kd x && okSs q b
  | .while c b _ => q && okE fl nm q vis kd c && okSs q b
  | .ret e _ => okE fl nm q vis kd e
  | .ret0 _ => true
  | .raise c x _ _ _ _ _ _ => q && isGlob kd x && onm x == some c
  | .try b hs _ => q && okSs q b && okHs hs && !hs.isNil
noncomputable def okSs (q : Bool) : ASs → Bool
  | .nil => true
  | .cons s ss => okS q s && okSs q ss
noncomputable def okHs : AHs → Bool
  | .nil => true
  | .cons c x _ y b _ hs => isGlob kd x && onm x == some c && (match y with | none => true | some y => vis y && kd (slot nm y) == some .local) && okSs false b && !b.isNil && okHs hs
end
end

inductive ForI (cx : Cx) (F : Fm) (H₁ : AHeap) (s₁ : Shared) (I : Addr) (xs : List PV) (p : PV) (W : List PV → Loc → AHeap → Prop) (k : Nat) (s' : Shared) : Prop
  | mk (i : Nat) (mk : Loc) (Hk : AHeap) (hi : i ≤ xs.length) (hk : k = xs.length - i) (ti : St cx F mk Hk s'.heap) (ki : Kp cx (plc F) H₁ s₁ Hk s') (iti : Itr cx s'.heap I i xs p) (ci : Clean cx Hk s'.heap I) (hw : W (xs.drop i) mk Hk) : ForI cx F H₁ s₁ I xs p W k s'
section
variable {cx : Cx} {F : Fm} {m : Loc} {H H₁ : AHeap} {s s₁ : Shared} {kd : Kd} {n : Nat} {q : Bool} {e : Addr}

theorem St.plcData {h : Heap} (t : St cx F m H h) : ∀ b ∈ plc F, ∀ o, h.get? b = some o → (∃ es ep, o.data = .dict es ep) ∨ ∃ x, o.data = .cell x := fun b hb o g => by
  rcases List.mem_cons.mp hb with rfl | hb
  · obtain ⟨o', es, ep, _, g', d, _⟩ := t.vars; rw [g] at g'; cases g'; exact .inl ⟨es, ep, d⟩
  · obtain ⟨p, _, hl⟩ := List.mem_filterMap.mp hb
    obtain ⟨_, _, o', x, g', d, _⟩ := t.cells _ b hl
    rw [g] at g'; cases g'; exact .inr ⟨x, d⟩
theorem Kp.solidP (k : Kp cx (plc F) H s H₁ s₁) (t : St cx F m H s.heap) : ∀ b o, s.heap.get? b = some o → Solid o → s₁.heap.get? b = some o := k.solid t.heap t.plcData
/-- a record that no name holds stays -/
theorem Kp.sameP (k : Kp cx (plc F) H s H₁ s₁) (t : St cx F m H s.heap) {b : Addr} {o : Obj} {vs : Array Value} (g : s.heap.get? b = some o) (hb : H b = none) (hd : o.data = .fields vs) : H₁ b = none ∧ s₁.heap.get? b = some o := by
  obtain ⟨h, o', e', sm⟩ := k.keep b o g (fun q => by
    rcases t.plcData b q o g with ⟨es, ep, d⟩ | ⟨x, d⟩ <;> rw [hd] at d <;> cases d) hb
  rw [sm.eq fun _ _ q => by rw [hd] at q; cases q] at e'; exact ⟨h, e'⟩
theorem Itr.over {I : Addr} {i : Nat} {xs : List PV} {p : PV} (it : Itr cx s.heap I i xs p) (k : Kp cx (plc F) H s H₁ s₁) (t : St cx F m H s.heap) (c : Clean cx H s.heap I) : Itr cx s₁.heap I i xs p ∧ Clean cx H₁ s₁.heap I := by
  obtain ⟨hI, hB, oI, T, vs, gI, hc, hT, hd⟩ := c
  have e1 := k.sameP t gI hI hd
  have itb := it.keep (k.solidP t) fun o e => by rw [gI] at e; cases e; exact e1.2
  exact ⟨itb, e1.1, hB, itb.clean⟩

theorem flight_ok {S : List Addr} {c : Nat} {L : Addr} {Q : Unit → Shared → Prop} {E : Value → Shared → Prop} {A : Around} (hf : F.env.frame = some L) (t : St cx F m H₁ s₁.heap) (k : Kp cx S H s H₁ s₁) (t₀ : cx.B.StaysIn s.heap) (x : ExcIn cx L s.heap s₁.heap e c)
    (hQ : ∀ s₂, St cx F m H₁ s₂.heap → Kp cx S H s H₁ s₂ → ExcIn cx L s.heap s₂.heap e c → Q () s₂) : wpAny cx.M A (do
      if (← field (.ref e) 1) == .none then unsupported "frame.own-activation:exception-without-traceback"
      setFlight (.ref e) F.env.frame) Q E s₁ := by
  obtain ⟨fe, oe, vs, C, a0, ge, hc, hC, hd, h0, T, oT, ts, h1, fT, hTe, gT, cT, dT, h3⟩ := x
  have hBn : ∀ b, s.heap.get? b = none → cx.B.get? b = none := fun b f => by
    cases q : cx.B.get? b with
    | none => rfl
    | some o => rw [t₀ _ _ q] at f; cases f
  have hsz := (Array.getElem?_eq_some_iff.mp h3).1
  refine wpAny_bind (wpAny_field ge hd h1 ?_)
  rw [if_neg (show ¬ ((Value.ref T == Value.none) = true) from by simp)]
  unfold setFlight
  refine wpAny_bind (wpAny_field ge hd h1 ?_)
  rw [if_pos (show (Value.ref T != Value.none) = true from by simp), hf]
  refine wpAny_setField gT dT hsz ?_
  show Q () { s₁ with heap := s₁.heap.update T (Obj.mapFields (·.setIfInBounds 3 (rawInt L))) }
  have dT' := Obj.data_mapFields dT (·.setIfInBounds 3 (rawInt L))
  have gT' := Heap.get?_update_self (Obj.mapFields (·.setIfInBounds 3 (rawInt L))) gT (Obj.isFreed_of_fields dT')
  have f : Fly F e (fun b => b = T) s₁.heap (s₁.heap.update T (Obj.mapFields (·.setIfInBounds 3 (rawInt L)))) :=
    ⟨fun b o g n q => .inl (upd_keeps b o q g), fun o vs' g d => ⟨o, vs', upd_keeps e o (Ne.symm hTe) g, ⟨rfl, rfl⟩, d⟩, fun b q => by subst q; exact ⟨hTe, oT, ts, gT, cT, dT⟩⟩
  have t₂ := t.fly f ⟨oe, C, vs, ge, hc, hC.2, hd⟩ (hBn _ fe) fun b q => by subst q; exact hBn _ fT
  have k₂ := k.fly t f fe (fun b q => by subst q; exact fT) (hBn _ fe) fun b q => by subst q; exact hBn _ fT
  exact hQ { s₁ with heap := _ } t₂ k₂ ⟨fe, oe, vs, C, a0, upd_keeps e oe (Ne.symm hTe) ge, hc, hC, hd, h0, T, _, _, h1, fT, hTe, gT', (Obj.cls_mapFields _ _).trans cT, dT', by simp [hsz]⟩

/-- an error out of a loop of the frame's own -/
theorem noted_ok {outer : List Env} {L : Addr} {X : SXPost} {v : Value} (hfr : F.A.frames = some F.fs) (hfs : F.fs = F.env :: outer) (hf : F.env.frame = some L) (t₀ : cx.B.StaysIn s.heap) (x : ErS cx F H s X v s₁) :
    notedBy cx.M F.A F.env (fun e s' => cameBackBy cx.M F.A F.env (ErS cx F H s X) e s') v s₁ := by
  obtain ⟨e, c, m', H', rfl, y, t, k, h⟩ := x
  refine note_ok hfr hfs hf t k t₀ y fun s₂ t₂ k₂ x₂ => ?_
  exact flight_ok hf t₂ k₂ t₀ x₂ fun s₃ t₃ k₃ x₃ => ⟨e, c, m', H', rfl, by rw [hf]; exact x₃.exc, t₃, k₃, h⟩

theorem names_ok {A : Around} {E : Value → Shared → Prop} (fo : Fok cx n q kd F) : ∀ (xs : List (Nat × Pos)) (ys : List PV) (vs : List Value) {m : Loc} {H : AHeap} {s : Shared} {QQ : Unit → Shared → Prop}, xs.length = ys.length →
    (∀ x ∈ xs, F.vis x.1 = true ∧ (kd (slot F.nm x.1) = some .local ∨ kd (slot F.nm x.1) = some .cell)) → RepL cx s.heap vs ys → St cx F m H s.heap →
    (∀ s', St cx F (setAll xs ys m) H s'.heap → Kp cx (plc F) H s H s' → QQ () s') → wpAny cx.M A (assignInOrder ((assignEach (xs.map fun x => Expr.Name (slot F.nm x.1) x.2) F.env).map (·.2)) vs) QQ E s
  | [], [], _, m, H, s, QQ, _, _, rs, t, hQ => by
    cases rs
    exact wpAny_assignInOrder_none (hQ s t (.refl _ _ _ _))
  | x :: xs, y :: ys, _, m, H, s, QQ, hl, hx, rs, t, hQ => by
    cases rs with
    | cons r rs =>
      have h1 := hx x (List.mem_cons_self ..)
      refine wpAny_assignInOrder_more (wpAny_assign_Name (store_name fo h1.1 h1.2 t r fun s' t' k' so => ?_))
      exact names_ok fo xs ys _ (by simpa using hl) (fun z hz => hx z (List.mem_cons_of_mem _ hz)) (rs.mono so) t' fun s'' t'' k'' => hQ s'' t'' (k'.trans k'')
  | [], _ :: _, _, _, _, _, _, hl, _, _, _, _ => by simp at hl
  | _ :: _, [], _, _, _, _, _, hl, _, _, _, _ => by simp at hl
theorem names_len (nm : List Str) (env : Env) : ∀ xs : List (Nat × Pos), (assignEach (xs.map fun x => Expr.Name (slot nm x.1) x.2) env).length = xs.length ∧ (assignEach (xs.map fun x => Expr.Name (slot nm x.1) x.2) env).findIdx? (·.1) = none
  | [] => ⟨rfl, rfl⟩
  | x :: xs => by
    have ih := names_len nm env xs
    refine ⟨?_, ?_⟩
    · show (assignEach (Expr.Name (slot nm x.1) x.2 :: xs.map fun x => Expr.Name (slot nm x.1) x.2) env).length = _
      exact congrArg (· + 1) ih.1
    · show (assignEach (Expr.Name (slot nm x.1) x.2 :: xs.map fun x => Expr.Name (slot nm x.1) x.2) env).findIdx? (·.1) = none
      change List.findIdx? (·.1) ((false, _) :: assignEach (xs.map fun x => Expr.Name (slot nm x.1) x.2) env) = none
      rw [List.findIdx?_cons, ih.2]; rfl

theorem for_ok {outer : List Env} {L : Addr} {x : Nat} {px pos : Pos} {iter : Expr} {body : List Stmt} {N : NPost} {R : Post} {X : SXPost} {st : PV → (Loc → AHeap → Prop) → Loc → AHeap → Prop} (fo : Fok cx n true kd F) (hfs : F.fs = F.env :: outer) (hf : F.env.frame = some L)
    (vx : F.vis x = true) (hk : kd (slot F.nm x) = some .local ∨ kd (slot F.nm x) = some .cell) (t : St cx F m H s.heap)
    (hIt : Ev (Rep cx) cx F (eval iter F.env) m H s (fun v H => itemsW v (fun xs src => forW src st N xs m H) H) fun c H => X c m H)
    (hB : ∀ {y : PV} {K : NPost} {m' : Loc} {H : AHeap} {s : Shared}, St cx F (m'.set x (some y)) H s.heap → st y K m' H → EvS cx F (execs body F.env) H s K R X)
    (hs : ∀ x, foldedSetIterable iter F.env x = pure x) :
    EvS cx F (exec (.For (.Name (slot F.nm x) px) iter body [] pos) F.env) H s N R X := by
  refine wpAny_For (wpAny_mono hIt (fun xv s₁ h₁ => ?_) fun _ _ e => e.toS) hs
  obtain ⟨p, H₁, rv, t₁, k₁, hw⟩ := h₁
  have t₀ : cx.B.StaysIn s.heap := t.base
  refine iter_ok (F := F) rv t₁ hw fun I xs h' fI g it cI sr hl hc => ?_
  refine codeAny_forLoop (ForI cx F H₁ s₁ I xs p (forW (Src p xs) st N)) ?_ xs.length
    ⟨0, m, H₁, Nat.zero_le _, rfl, t₁.step (s' := { s₁ with heap := h' }) (.grow (tk := s₁.toks) g fun _ _ _ e => e) (t₁.heap.grow g), .grow (tk := s₁.toks) g (fun _ _ _ e => e), it, cI, hc⟩
  rintro k s' ⟨i, mk, Hk, hi, rfl, ti, ki, iti, ci, hw⟩
  by_cases hlt : i < xs.length
  · have hx1 : xs[i]? = some xs[i] := List.getElem?_eq_getElem hlt
    rw [List.drop_eq_getElem_cons hlt] at hw
    obtain ⟨sr, hw⟩ := hw
    refine next_ok ti iti sr ci hx1 fun v s₄ rv it₄ c₄ tc₄ => ?_
    obtain ⟨h₄, tk₄, rfl, k₄⟩ := id tc₄
    have t₄ : St cx F mk Hk h₄ := ti.touch ci k₄
    have kp₄ := ki.touch fI tc₄ ci.2.1
    refine wpAny_assign_Name (store_name (s := { s' with heap := h₄, toks := tk₄ }) fo vx hk t₄ rv fun s₅ t₅ kp₅ so₅ => ?_)
    obtain ⟨it₅, c₅⟩ := it₄.over kp₅ t₄ c₄
    refine wpAny_mono (hB t₅ hw) (fun f s₆ h₆ => ?_) fun v s₆ h₆ => ?_
    · cases f with
      | next =>
        obtain ⟨m₆, H₆, t₆, kp₆, h₆⟩ := h₆
        obtain ⟨it₆, c₆⟩ := it₅.over kp₆ t₅ c₅
        exact ⟨xs.length - (i + 1), by first | lia | omega, i + 1, m₆, H₆, hlt, rfl, t₆, (kp₄.trans kp₅).trans kp₆, it₆, c₆, h₆⟩
      | ret v => exact OkS.older (f := .ret v) ((k₁.nil.trans kp₄).trans kp₅) h₆
      | brk => exact h₆.elim
      | cont => exact h₆.elim
    · exact noted_ok fo.fr hfs hf t₀ (h₆.older ((k₁.nil.trans kp₄).trans kp₅))
  · have hi' : i = xs.length := by first | lia | omega
    subst hi'
    rw [List.drop_length] at hw
    obtain ⟨sr, hw⟩ := hw
    refine end_ok (fo.quiet rfl) ti iti sr (by simp) fun s₄ tc₄ => ?_
    obtain ⟨h₄, tk₄, rfl, k₄⟩ := id tc₄
    exact wpAny_execs_nil ⟨mk, Hk, ti.touch ci k₄, k₁.nil.trans (ki.touch fI tc₄ ci.2.1), hw⟩

noncomputable def Fm.mark (F : Fm) (e : Value) : Fm := { F with A := F.A.mark (some e) }
theorem St.mark {h : Heap} {v : Value} (t : St cx F m H h) : St cx (F.mark v) m H h := ⟨t.base, t.off, t.heap, t.frames, t.own, (let ⟨o, es, ep, mc, a, b, c, d⟩ := t.vars; ⟨o, es, ep, mc, a, b, c, d⟩), fun n c h => let ⟨a, b, o, x, d, e, f⟩ := t.cells n c h; ⟨a, b, o, x, d, e, f⟩⟩
theorem St.unmark {h : Heap} {v : Value} (t : St cx (F.mark v) m H h) : St cx F m H h := ⟨t.base, t.off, t.heap, t.frames, t.own, (let ⟨o, es, ep, mc, a, b, c, d⟩ := t.vars; ⟨o, es, ep, mc, a, b, c, d⟩), fun n c h => let ⟨a, b, o, x, d, e, f⟩ := t.cells n c h; ⟨a, b, o, x, d, e, f⟩⟩
theorem Fok.mark {v : Value} (fo : Fok cx n q kd F) : Fok cx n false kd (F.mark v) := ⟨fo.fr, fo.kind, fo.kdo, fo.glob, fo.bltn, fun q => (nomatch q), fo.depth, fo.units, fo.cells, fo.apart, fo.inj⟩
theorem OkS.unmark {v : Value} {N : NPost} {R : Post} {f : Flow} {s' : Shared} (x : OkS cx (F.mark v) H s N R f s') : OkS cx F H s N R f s' := by
  cases f with
  | next => obtain ⟨m', H', t, k', h⟩ := x; exact ⟨m', H', t.unmark, k', h⟩
  | ret v => obtain ⟨p, m', H', r, t, k', h⟩ := x; exact ⟨p, m', H', r, t.unmark, k', h⟩
  | _ => exact x.elim

/-- the caught error's name goes -/
theorem unbind_ok {y : Nat} {pos : Pos} {QQ : Unit → Shared → Prop} {E : Value → Shared → Prop} {A : Around} (fo : Fok cx n q kd F) (vy : F.vis y = true) (hk : kd (slot F.nm y) = some .local) (t : St cx F m H s.heap)
    (hQ : ∀ s', St cx F (m.set y none) H s'.heap → Kp cx (plc F) H s H s' → (∀ b o, s.heap.get? b = some o → Solid o → s'.heap.get? b = some o) → QQ () s') : wpAny cx.M A (do bindName F.env (slot F.nm y) .none; unbindBehindTheSuite F.env (slot F.nm y) pos) QQ E s := by
  have hl : F.env.kindOf (slot F.nm y) = some .local := by rw [fo.kdo]; exact hk
  obtain ⟨o, es, ep, mc, ho, hd, ns, _⟩ := t.vars
  have hp : (F.env.scope.kind == .class || (F.env.scope.kind == .module && F.env.locals != F.env.globals)) = false := by rw [fo.kind]; rfl
  refine wpAny_bind (wpAny_bindName (wpAny_storeName_local hl ns (fun h' ns' sb => ?_) hp))
  unfold unbindBehindTheSuite
  refine wpAny_onRaise ?_
  refine wpAny_unbindName_local hl ns' (v := .none) (by simp) hp fun h'' u ns'' sb' => ?_
  have kk : ∀ b o, b ≠ F.env.locals → s.heap.get? b = some o → h''.get? b = some o := fun b o n e => by rw [sb'.2 b n, sb.2 b n]; exact e
  have t' : St cx F (m.set y (some .none)) H h' := t.setLocal fo.inj vy hl ns ns' rfl sb .none
  have nsl : ∀ o, s.heap.get? F.env.locals = some o → ¬ Solid o := fun o' e => by rw [ho] at e; cases e; exact notSolid_dict hd
  have so : ∀ b o, s.heap.get? b = some o → Solid o → h''.get? b = some o := fun b o e so => kk b o (by rintro rfl; exact nsl o e so) e
  refine hQ _ ?_ (Kp.one (tk := s.toks + 1) (List.mem_cons_self ..) t.own.2 (let ⟨o, _, _, g, _⟩ := ns''; ⟨o, g⟩) kk) so
  have t₁ := t.forget y
  obtain ⟨o₁, es₁, ep₁, mc₁, ho₁, hd₁, ns₁, hv₁⟩ := t₁.vars
  have e0 : mc₁ = mc := funext (ns₁.agree ns)
  subst e0
  obtain ⟨o', es', ep', ho', hd', r'⟩ := id ns''
  refine ⟨fun b o e => kk b o (by rintro rfl; rw [t.own.2] at e; cases e) (t.base b o e), t.off, t.heap.keepBut t.own.1 kk nsl, fun env he => ?_, t.own, ⟨o', es', ep', _, ho', hd', ns'', fun i w h1 h2 h3 => ?_⟩, fun nn c hc' => ?_⟩
  · obtain ⟨hk, L, o1, es1, ep1, hf, hH, hb, ho1, hd1⟩ := t.frames env he
    by_cases q : L = F.env.locals
    · subst q; exact ⟨hk, _, o', es', ep', hf, hH, hb, ho', hd'⟩
    · exact ⟨hk, L, o1, es1, ep1, hf, hH, hb, kk L o1 q ho1, hd1⟩
  · obtain ⟨x, q, r⟩ := hv₁ i w h1 h2 h3
    have ne := (Loc.get_set0 h3).1
    have nn : slot F.nm i ≠ slot F.nm y := fun q => ne (fo.inj i y h1 vy q)
    exact ⟨x, by simp only [nn, if_false]; exact q, r.mono so⟩
  · obtain ⟨h1, h2, oc, z, hoc, hdc, hvc⟩ := t₁.cells nn c hc'
    have nc : c ≠ F.env.locals := by rintro rfl; rw [ho] at hoc; cases hoc; rw [hd] at hdc; cases hdc
    exact ⟨h1, h2, oc, z, kk c oc nc hoc, hdc, fun i w a b c' d => let ⟨z', q, r⟩ := hvc i w a b c' d; ⟨z', q, r.mono so⟩⟩
end
end Mine
end
section
open PySem PySem.Calls PyProof.Rows
namespace Mine
set_option autoImplicit false

section
variable {cx : Cx} {F : Fm} {m : Loc} {H H₁ : AHeap} {s s₁ : Shared} {kd : Kd} {n : Nat} {q : Bool} {e : Addr} {sc : Scope}

theorem St.touchAt {h h' : Heap} {I : Addr} (t : St cx F m H h) (hI : H I = none) (hB : cx.B.get? I = none) (ns : ∀ o, h.get? I = some o → ¬ Solid o) (nf : ∀ env ∈ F.fs, env.frame ≠ some I) (nl : F.env.locals ≠ I) (nc : ∀ n c, F.env.cells.lookup n = some c → c ≠ I)
    (k : ∀ b o, b ≠ I → h.get? b = some o → h'.get? b = some o) : St cx F m H h' := by
  have so : ∀ b o, h.get? b = some o → Solid o → h'.get? b = some o := fun b o e s => k b o (by rintro rfl; exact ns o e s) e
  refine ⟨fun b o e => k b o (by rintro rfl; rw [hB] at e; cases e) (t.base b o e), t.off, t.heap.keepBut hI k ns, fun env he => ?_, t.own, ?_, fun n c hc' => ?_⟩
  · obtain ⟨hk, L, o, es, ep, hf, hH, hb, ho, hd'⟩ := t.frames env he
    exact ⟨hk, L, o, es, ep, hf, hH, hb, k L o (by rintro rfl; exact nf env he hf) ho, hd'⟩
  · obtain ⟨o, es, ep, mc, ho, hd', ns', hv⟩ := t.vars
    exact ⟨o, es, ep, mc, k _ o nl ho, hd', ns'.at fun o e => k _ o nl e, fun i v h1 h2 h3 => let ⟨x, q, r⟩ := hv i v h1 h2 h3; ⟨x, q, r.mono so⟩⟩
  · obtain ⟨h1, h2, o, x, ho, hd', hv⟩ := t.cells n c hc'
    exact ⟨h1, h2, o, x, k c o (nc n c hc') ho, hd', fun i v a b c d => let ⟨y, q, r⟩ := hv i v a b c d; ⟨y, q, r.mono so⟩⟩

theorem assign_comp {elt iter : Expr} {ifs : List Expr} {x y : Nat} {px py pc pos : Pos} {N : NPost} {R : Post} {X : SXPost} {aT : BPost → Loc → AHeap → Prop} {aE : Post → Loc → AHeap → Prop}
    (fo : Fok cx n true kd F) (hsc : scOk kd (relab kd sc) sc (slot F.nm x) = true) (vy : F.vis y = true) (hky : kd (slot F.nm y) = some .local ∨ kd (slot F.nm y) = some .cell)
    (hIt : Ev (Rep cx) cx F (eval iter F.env) m H s (fun v H => itemsW v (fun xs src => compW src (fun y K H => aT (fun b H => if b then aE (fun v H => K [v] H) (m.set x (some y)) H else K [] H) (m.set x (some y)) H)
      (fun vs H => alloc (.list vs) (fun v H => N (m.set y (some v)) H) H) xs [] H) H) fun c H => X c m H)
    (hT : ∀ {cl : List (Str × Addr)} {C : Addr} {m' : Loc} {H : AHeap} {s : Shared} {Q : BPost}, Fok cx n true (relab kd sc) (compF F sc cl C x (relab kd sc)) → St cx (compF F sc cl C x (relab kd sc)) m' H s.heap → aT Q m' H →
      Ev IsBB cx (compF F sc cl C x (relab kd sc)) (testsSem ifs (compEnvC sc cl C F.env)) m' H s Q fun _ _ => False)
    (hE : ∀ {cl : List (Str × Addr)} {C : Addr} {m' : Loc} {H : AHeap} {s : Shared} {Q : Post}, Fok cx n true (relab kd sc) (compF F sc cl C x (relab kd sc)) → St cx (compF F sc cl C x (relab kd sc)) m' H s.heap → aE Q m' H →
      Ev (Rep cx) cx (compF F sc cl C x (relab kd sc)) (eval elt (compEnvC sc cl C F.env)) m' H s Q fun _ _ => False)
    (hs : ∀ x, foldedSetIterable iter F.env x = pure x) :
    EvS cx F (exec (.Assign [.Name (slot F.nm y) py] (.ListComp elt [⟨.Name (slot F.nm x) px, iter, ifs, 0⟩] sc pc) pos) F.env) H s N R X := by
  obtain ⟨b, hb⟩ : ∃ b, swapsWith (.ListComp elt [⟨.Name (slot F.nm x) px, iter, ifs, 0⟩] sc pc) (some (.Name (slot F.nm y) py)) pos.line F.env = pure b := ⟨_, rfl⟩
  cases b with
  | false =>
    refine wpAny_Assign_Name (wpAny_mono (comp_ok fo hsc hIt hT hE hs) (fun v s₁ h₁ => ?_) fun _ _ e => e.toS) hb
    obtain ⟨p, H₁, rv, t₁, k₁, hN⟩ := h₁
    exact store_name fo vy hky t₁ rv fun s' t' kp' _ => ⟨_, _, t', k₁.nil.trans kp', hN⟩
  | true =>
    have hsc' := hsc
    unfold scOk at hsc'
    simp only [Bool.and_eq_true, beq_iff_eq, decide_eq_true_eq] at hsc'
    obtain ⟨⟨⟨⟨⟨⟨⟨hkind, _⟩, _⟩, hnc⟩, hloc⟩, hfr⟩, hx⟩, _⟩ := hsc'
    obtain ⟨cl, hclos, hcl1, hcl2⟩ := closure_ok fo.cells hfr
    have hnames : ∀ y ∈ sc.names, y.2 = .local → sc.names.lookup y.1 = some .local := fun y hy hl => by
      have := List.all_eq_true.mp hloc y hy
      simp [hl] at this; exact this
    unfold EvS
    rw [exec_Assign_Name_used _ _ _ _ hb]
    refine wpAny_bind (wpAny_standAt (wpAny_bind ?_))
    show wpAny _ F.A (do let _ ← comprehension (.ListComp elt [⟨.Name (slot F.nm x) px, iter, ifs, 0⟩] sc pc) sc F.env _ (newList []) false (eval iter F.env) (some (assign (.Name (slot F.nm y) py) F.env))) _ _ s
    refine wpAny_bind (wpAny_mono (wpAny_comprehension_free (use := some (assign (.Name (slot F.nm y) py) F.env)) (Q := fun _ s' => OkS cx F H s N R .next s') rfl hs hclos hkind hnames
      (wpAny_mono hIt (fun xv s₁ h₁ => ?_) fun _ _ e => e.toS)) (fun _ s' hq => wpAny_pure (wpAny_pure hq)) fun _ _ e => e)
    obtain ⟨p, H₁, rv, t₁, k₁, hw⟩ := h₁
    refine iter_ok (F := F) rv t₁ hw fun I xs h' fI g it cI sr hl hc => ?_
    refine comp_block (RR := fun acc C => compPost cx.M F.A _ (some (assign (.Name (slot F.nm y) py) F.env)) _ acc C) fo hsc hcl1 hcl2 hT hE t₁ rfl g fI it cI hl hc ?_
    intro D C s' H' vs mc fC fD hDC ns hD hHD hHC hh k hq
    obtain ⟨t₂, k₂, hN⟩ := comp_fin' t₁ fC fD hDC ns hD hHD hHC hh k hq (Heap.SameBut.refl C s'.heap)
    refine wpAny_assign_Name (store_name fo vy hky t₂ (.obj D) fun s'' t'' kp'' _ => ?_)
    have bC : cx.B.get? C = none := by
      cases e : cx.B.get? C with
      | none => rfl
      | some o => rw [t₁.base _ _ e] at fC; cases fC
    have hH₂C : upd H' D (.list vs) C = none := by rw [upd_ne (Ne.symm hDC)]; exact hHC
    obtain ⟨oC, es, ep, gC, dC, rC⟩ := ns
    have npl : C ∉ plc F := fun hm => by
      rcases List.mem_cons.mp hm with q | hm
      · obtain ⟨o, _, _, _, g, _⟩ := t₁.vars; rw [← q, fC] at g; cases g
      · obtain ⟨p, _, hl⟩ := List.mem_filterMap.mp hm
        obtain ⟨_, _, o, _, g, _⟩ := t₁.cells _ C hl; rw [fC] at g; cases g
    obtain ⟨hC'', oC'', gC'', sm⟩ := kp''.keep C oC gC npl hH₂C
    refine ⟨mc, ⟨oC'', es, ep, gC'', sm.data.trans dC, rC⟩, fun h'' sb => ?_⟩
    have kk : ∀ b o, b ≠ C → s''.heap.get? b = some o → h''.get? b = some o := fun b o n e => by rw [sb.2 b n]; exact e
    have kp₀ : Kp cx (plc F) H s (upd H' D (.list vs)) { s'' with heap := h'' } := by
      have a : Kp cx (plc F) H₁ s₁ (upd H' D (.list vs)) s'' := k₂.nil.trans kp''
      exact k₁.nil.trans (a.touch (I := C) fC ⟨h'', s''.toks, rfl, kk⟩ bC)
    refine ⟨_, _, t''.touchAt (I := C) hC'' bC (fun o e => ?_) (fun env he hf => ?_) (fun q => ?_) (fun nn c hl q => ?_) kk, kp₀, hN⟩
    · rw [gC''] at e; cases e; exact notSolid_dict (sm.data.trans dC)
    · obtain ⟨_, L, o, _, _, hf', _, _, g, _⟩ := t₁.frames env he
      rw [hf] at hf'; cases hf'; rw [fC] at g; cases g
    · exact npl (by rw [← q]; exact List.mem_cons_self ..)
    · exact npl (by rw [← q]; exact mem_plc_cell hl)
end
end Mine
end
section
open PySem PySem.Calls PyProof.Rows
namespace Mine
set_option autoImplicit false
set_option linter.unusedSectionVars false
set_option linter.unusedVariables false

section
variable {cx : Cx} {g : Gl} {fl : List Str} {mg mb : Str → Option Value} {n : Nat}

theorem swaps_none (nm : List Str) (e : AE) (t : Option Expr) (l : Nat) (env : Env) (h : isComp e = false) : swapsWith (e.toE nm) t l env = pure false := by
  cases e with
  | comp => exact nomatch (show true = false from h)
  | _ => rfl
theorem stores_none (nm : List Str) (e : AE) (xs : List Expr) (k : Nat) (p : Pos) (env : Env) (h : isTup e = false) : swappedStores [.Tuple xs k p] (e.toE nm) env = pure none := by
  cases e with
  | tup => exact nomatch (show true = false from h)
  | _ => rfl
theorem noninter {F : Fm} {kd : Kd} {q : Bool} (fo : Fok cx n q kd F) : interactive F.env = false := by unfold interactive; rw [fo.kind]; rfl
theorem stOk_of {nm : List Str} {vis : Nat → Bool} {kd : Kd} {x : Nat} (h : stOk nm vis kd x = true) : vis x = true ∧ (kd (slot nm x) = some .local ∨ kd (slot nm x) = some .cell) := by
  simpa [stOk] using h

variable (ck : Cok cx g fl mg mb n)
include ck
mutual
theorem soundS : ∀ (st : AS) {F : Fm} {kd : Kd} {q : Bool} {m : Loc} {H : AHeap} {s : Shared} {N : NPost} {R : Post} {X : SXPost} {outer : List Env} {L : Addr}, Fok cx n q kd F → F.fs = F.env :: outer → F.env.frame = some L → okS fl F.nm F.vis kd q st = true → St cx F m H s.heap →
    awpS g st N R X m H → EvS cx F (exec (st.toS F.nm) F.env) H s N R X
  | .expr e p, F, kd, q, m, H, s, N, R, X, outer, L, fo, hfs, hf, ok, t, h => by
    replace ok := (show (_ && _) = true from ok); simp only [Bool.and_eq_true, Bool.not_eq_true'] at ok
    refine wpAny_Expr_any (wpAny_mono (soundE ck e fo ok.1 t h) (fun v s₁ h₁ => ?_) fun _ _ e => e.toS) (noninter fo) (swaps_none _ _ _ _ _ ok.2)
    obtain ⟨p, H₁, rv, t₁, k₁, h₁⟩ := h₁
    exact ⟨m, H₁, t₁, k₁.nil, h₁⟩
  | .assign x px e p, F, kd, q, m, H, s, N, R, X, outer, L, fo, hfs, hf, ok, t, h => by
    replace ok := (show (_ && _) = true from ok); simp only [Bool.and_eq_true] at ok
    obtain ⟨vx, hk⟩ := stOk_of ok.2
    by_cases hc : isComp e = true
    · cases e with
      | comp elt y py it cs sc pc =>
        have ok1 := ok.1
        replace ok1 := (show (_ && _) = true from ok1); simp only [Bool.and_eq_true, decide_eq_true_eq] at ok1
        obtain ⟨⟨⟨⟨⟨hit, hsc⟩, he⟩, hcs⟩, hlen⟩, rfl⟩ := ok1
        refine assign_comp (aT := fun Q m H => awpC g cs Q (fun _ _ => False) m H) (aE := fun Q m H => awpE g elt Q (fun _ _ => False) m H) fo hsc vx hk (soundE ck it fo hit t h) (fun {cl C m' H s Q} fo' t' h' => ?_) (fun {cl C m' H s Q} fo' t' h' => ?_) (folded_ok _ _ _)
        · exact soundC ck cs fo' hcs hlen t' h'
        · exact soundE ck elt fo' he t' h'
      | _ => exact nomatch (show false = true from hc)
    · refine wpAny_Assign_Name (wpAny_mono (soundE ck e fo ok.1 t h) (fun v s₁ h₁ => ?_) fun _ _ e => e.toS) (swaps_none _ _ _ _ _ (by simpa using hc))
      obtain ⟨p, H₁, rv, t₁, k₁, hN⟩ := h₁
      exact store_name fo vx hk t₁ rv fun s' t' kp' _ => ⟨_, _, t', k₁.nil.trans kp', hN⟩
  | .assignT xs k pt e p, F, kd, q, m, H, s, N, R, X, outer, L, fo, hfs, hf, ok, t, h => by
    replace ok := (show (_ && _) = true from ok); simp only [Bool.and_eq_true, Bool.not_eq_true'] at ok
    obtain ⟨⟨⟨⟨rfl, he⟩, hc⟩, htp⟩, hxs⟩ := ok
    refine wpAny_Assign_stores (wpAny_mono (soundE ck e fo he t h) (fun v s₁ h₁ => ?_) fun _ _ e => e.toS) (by rw [show swapsWithSole [Expr.Tuple (xs.map fun x => Expr.Name (slot F.nm x.1) x.2) k pt] (AE.toE F.nm e) p.line F.env = swapsWith (AE.toE F.nm e) (some (Expr.Tuple (xs.map fun x => Expr.Name (slot F.nm x.1) x.2) k pt)) p.line F.env by unfold swapsWithSole; rfl]; exact swaps_none _ _ _ _ _ hc) (stores_none _ _ _ _ _ _ htp)
    obtain ⟨pv, H₁, rv, t₁, k₁, hu⟩ := h₁
    cases pv with
    | tup ys =>
      obtain ⟨hyl, hN⟩ := hu
      cases rv with
      | tup ge hle rs =>
        have nl := names_len F.nm F.env xs
        refine wpAny_assign_Tuple (x1 := k) (fo.quiet rfl) ⟨_, ge, rfl, _, rfl⟩ (by rw [nl.1, ← hyl, ← rs.length]; simp) nl.2 fun h' ex => ?_
        have g : ∀ b o, s₁.heap.get? b = some o → h'.get? b = some o := fun b o e => ex b o (Nat.ne_of_lt (Heap.lt_size e)) e
        have kp : Kp cx (plc F) H₁ s₁ H₁ { s₁ with heap := h' } := .grow (tk := s₁.toks) g fun _ _ _ e => e
        have kp0 : Kp cx [] H₁ s₁ H₁ { s₁ with heap := h' } := .grow (tk := s₁.toks) g fun _ _ _ e => e
        refine names_ok (s := { s₁ with heap := h' }) fo xs ys _ hyl.symm (fun x hx => stOk_of (List.all_eq_true.mp hxs x hx)) (rs.mono fun b o e _ => g b o e) (t₁.step kp0 (t₁.heap.grow g)) fun s' t' k' => ?_
        exact ⟨_, _, t', (k₁.nil.trans kp).trans k', hN⟩
    | _ => exact hu.elim
  | .store o i ps e p, F, kd, q, m, H, s, N, R, X, outer, L, fo, hfs, hf, ok, t, h => by
    replace ok := (show (_ && _) = true from ok); simp only [Bool.and_eq_true, Bool.not_eq_true'] at ok
    obtain ⟨⟨⟨ho, hi⟩, he⟩, hc⟩ := ok
    refine wpAny_Assign_Subscript (wpAny_mono (soundE ck e fo he t h) (fun v s₁ h₁ => ?_) fun _ _ e => e.toS) (swaps_none _ _ _ _ _ hc)
    obtain ⟨pv, H₁, rv, t₁, k₁, h₁⟩ := h₁
    refine wpAny_mono (soundE ck o fo ho t₁ h₁) (fun ov s₂ h₂ => ?_) fun _ _ e => (e.older k₁).toS
    obtain ⟨po, H₂, ro, t₂, k₂, h₂⟩ := h₂
    refine wpAny_mono (soundE ck i fo hi t₂ h₂) (fun iv s₃ h₃ => ?_) fun _ _ e => (e.older (k₁.trans k₂)).toS
    obtain ⟨pi, H₃, ri, t₃, k₃, h₃⟩ := h₃
    have so₂ := k₂.solid0 t₁.heap
    have so₃ := k₃.solid0 t₂.heap
    refine wpAny_mono (store_ok (X := fun c H => X c m H) (ro.mono so₃) ri ((rv.mono so₂).mono so₃) t₃ h₃) (fun _ s₄ h₄ => ?_) fun _ _ e => (e.older ((k₁.trans k₂).trans k₃)).toS
    obtain ⟨_, H₄, _, t₄, k₄, h₄⟩ := h₄
    exact ⟨m, H₄, t₄, (((k₁.trans k₂).trans k₃).trans k₄).nil, h₄⟩
  | .sattr o k pa e p, F, kd, q, m, H, s, N, R, X, outer, L, fo, hfs, hf, ok, t, h => by
    replace ok := (show (_ && _) = true from ok); simp only [Bool.and_eq_true, Bool.not_eq_true', decide_eq_true_eq] at ok
    obtain ⟨⟨⟨ho, he⟩, hc⟩, hk⟩ := ok
    refine plainObj_wpAny_Assign_Attribute (wpAny_mono (soundE ck e fo he t h) (fun v s₁ h₁ => ?_) fun _ _ e => e.toS) (swaps_none _ _ _ _ _ hc)
    obtain ⟨pv, H₁, rv, t₁, k₁, h₁⟩ := h₁
    refine wpAny_mono (soundE ck o fo ho t₁ h₁) (fun ov s₂ h₂ => ?_) fun _ _ e => (e.older k₁).toS
    obtain ⟨po, H₂, ro, t₂, k₂, h₂⟩ := h₂
    refine wpAny_mono (sattr_ok (X := fun c H => X c m H) ck hk ro (rv.mono (k₂.solid0 t₁.heap)) t₂ h₂) (fun _ s₃ h₃ => ?_) fun _ _ e => (e.older (k₁.trans k₂)).toS
    obtain ⟨_, H₃, _, t₃, k₃, h₃⟩ := h₃
    exact ⟨m, H₃, t₃, ((k₁.trans k₂).trans k₃).nil, h₃⟩
  | .ite c a b p, F, kd, q, m, H, s, N, R, X, outer, L, fo, hfs, hf, ok, t, h => by
    replace ok := (show (_ && _) = true from ok); simp only [Bool.and_eq_true] at ok
    obtain ⟨⟨hc, ha⟩, hb⟩ := ok
    refine wpAny_bind (wpAny_standAt ?_)
    refine EvS.after (soundB ck c fo hc (fun t h => soundE ck c fo hc t h) t h) fun v b' s₁ H₁ rv t₁ k₁ h₁ => ?_
    have rv : v = b' := rv
    subst rv
    cases v with
    | true => exact soundSs a fo hfs hf ha t₁ (by simpa using h₁)
    | false => exact soundSs b fo hfs hf hb t₁ (by simpa using h₁)
  | .for x px it b p, F, kd, q, m, H, s, N, R, X, outer, L, fo, hfs, hf, ok, t, h => by
    replace ok := (show (_ && _) = true from ok); simp only [Bool.and_eq_true] at ok
    obtain ⟨⟨⟨rfl, hit⟩, hx⟩, hb⟩ := ok
    obtain ⟨vx, hk⟩ := stOk_of hx
    exact for_ok (st := fun y K m H => awpSs g b K R X (m.set x (some y)) H) fo hfs hf vx hk t (soundE ck it fo hit t h) (fun t' h' => soundSs b fo hfs hf hb t' h') (folded_ok _ _ _)
  | .while c b p, F, kd, q, m, H, s, N, R, X, outer, L, fo, hfs, hf, ok, t, h => by
    replace ok := (show (_ && _) = true from ok); simp only [Bool.and_eq_true] at ok
    obtain ⟨⟨rfl, hc⟩, hb⟩ := ok
    obtain ⟨I, ⟨k, hI⟩, hstep⟩ := h
    refine wpAny_While (codeAny_whileLoop (fun k s' => ∃ m' H', St cx F m' H' s'.heap ∧ Kp cx (plc F) H s H' s' ∧ I k m' H') ?_ k ⟨m, H, t, .refl _ _ _ _, hI⟩)
    rintro k s' ⟨m', H', t', k', hI'⟩
    refine wpAny_mono (soundB ck c fo hc (fun t h => soundE ck c fo hc t h) t' (hstep k m' H' hI')) (fun v s₁ h₁ => ?_) fun v s₁ h₁ => ?_
    · obtain ⟨b', H₁, rv, t₁, k₁, h₁⟩ := h₁
      have rv : v = b' := rv
      subst rv
      cases v with
      | true =>
        simp only [if_true] at h₁ ⊢
        refine wpAny_mono (soundSs b fo hfs hf hb t₁ h₁) (fun f s₂ h₂ => ?_) fun v s₂ h₂ => ?_
        · have h₂ := OkS.older (k'.trans k₁.nil) h₂
          cases f with
          | next => obtain ⟨m₂, H₂, t₂, k₂, j, hj, hI₂⟩ := h₂; exact ⟨j, hj, m₂, H₂, t₂, k₂, hI₂⟩
          | ret v => exact h₂
          | brk => exact h₂.elim
          | cont => exact h₂.elim
        · exact noted_ok fo.fr hfs hf t.base (ErS.older (k'.trans k₁.nil) h₂)
      | false =>
        simp only [Bool.false_eq_true, if_false] at h₁ ⊢
        exact wpAny_execs_nil ⟨m', H₁, t₁, k'.trans k₁.nil, h₁⟩
    · exact noted_ok fo.fr hfs hf t.base (ErS.older k' (ErP.toS h₁))
  | .ret e p, F, kd, q, m, H, s, N, R, X, outer, L, fo, hfs, hf, ok, t, h => by
    refine wpAny_Return_some (wpAny_mono (soundE ck e fo ok t h) (fun v s₁ h₁ => ?_) fun _ _ e => e.toS)
    obtain ⟨p, H₁, rv, t₁, k₁, h₁⟩ := h₁
    exact ⟨p, m, H₁, rv, t₁, k₁.nil, h₁⟩
  | .ret0 p, F, kd, q, m, H, s, N, R, X, outer, L, fo, hfs, hf, ok, t, h => wpAny_Return_none ⟨.none, m, H, .none, t, .refl _ _ _ _, h⟩
  | .raise c x msg k pc pm pk p, F, kd, q, m, H, s, N, R, X, outer, L, fo, hfs, hf, ok, t, h => by
    replace ok := (show (_ && _) = true from ok); simp only [Bool.and_eq_true, beq_iff_eq] at ok
    obtain ⟨⟨rfl, hx⟩, ho⟩ := ok
    exact ck.rais fo hx ho t fun e s' y t' k' => ⟨e, c, m, H, rfl, y, t', k'.nil, h⟩
  | .try b hs p, F, kd, q, m, H, s, N, R, X, outer, L, fo, hfs, hf, ok, t, h => by
    replace ok := (show (_ && _) = true from ok); simp only [Bool.and_eq_true, Bool.not_eq_true'] at ok
    obtain ⟨⟨⟨rfl, hb⟩, hh⟩, hnil⟩ := ok
    cases hs with
    | nil => simp [AHs.isNil] at hnil
    | cons k x px y b' p' hs' =>
      have hsb : EvS cx F (execs (b.toSs F.nm) F.env) H s N R (fun c m H => awpHs g (.cons k x px y b' p' hs') c N R m H) := soundSs b fo hfs hf hb t h
      refine wpAny_Try_except (wpAny_mono hsb (fun f s₁ h₁ => ?_) fun v s₁ h₁ => ?_)
      · cases f with
        | next => exact wpAny_execs_nil h₁
        | ret v => exact h₁
        | brk => exact h₁
        | cont => exact h₁
      · obtain ⟨e, c, m', H', rfl, y', t', k', h'⟩ := h₁
        refine note_ok fo.fr hfs hf t' k' t.base y' fun s₂ t₂ k₂ x₂ => ?_
        refine unflight_ok t₂ k₂ t.base x₂ fun s₃ t₃ k₃ x₃ => ?_
        exact soundHs (.cons k x px y b' p' hs') fo hfs hf hh t₃ t.base k₃ x₃ h'
theorem soundSs : ∀ (ss : ASs) {F : Fm} {kd : Kd} {q : Bool} {m : Loc} {H : AHeap} {s : Shared} {N : NPost} {R : Post} {X : SXPost} {outer : List Env} {L : Addr}, Fok cx n q kd F → F.fs = F.env :: outer → F.env.frame = some L → okSs fl F.nm F.vis kd q ss = true → St cx F m H s.heap →
    awpSs g ss N R X m H → EvS cx F (execs (ss.toSs F.nm) F.env) H s N R X
  | .nil, F, kd, q, m, H, s, N, R, X, outer, L, fo, hfs, hf, ok, t, h => wpAny_execs_nil ⟨m, H, t, .refl _ _ _ _, h⟩
  | .cons st ss, F, kd, q, m, H, s, N, R, X, outer, L, fo, hfs, hf, ok, t, h => by
    replace ok := (show (_ && _) = true from ok); simp only [Bool.and_eq_true] at ok
    exact EvS.seq (soundS st fo hfs hf ok.1 t h) fun m₁ s₁ H₁ t₁ h₁ => soundSs ss fo hfs hf ok.2 t₁ h₁
theorem soundHs : ∀ (hs : AHs) {F : Fm} {kd : Kd} {m : Loc} {H H₀ : AHeap} {s s₀ : Shared} {N : NPost} {R : Post} {outer : List Env} {L e : Addr} {c : Nat} {E : Value → Shared → Prop}, Fok cx n true kd F → F.fs = F.env :: outer → F.env.frame = some L → okHs fl F.nm F.vis kd hs = true → St cx F m H s.heap →
    cx.B.StaysIn s₀.heap → Kp cx (plc F) H₀ s₀ H s → ExcOut cx s₀.heap s.heap e c → awpHs g hs c N R m H → wpAny cx.M F.A (handleBy (.ref e) F.env (hs.toHs F.nm)) (OkS cx F H₀ s₀ N R) E s
  | .nil, F, kd, m, H, H₀, s, s₀, N, R, outer, L, e, c, E, fo, hfs, hf, ok, t, t₀, k, x, h => False.elim h
  | .cons kc xn px y b p hs, F, kd, m, H, H₀, s, s₀, N, R, outer, L, e, c, E, fo, hfs, hf, ok, t, t₀, k, x, h => by
    replace ok := (show (_ && _) = true from ok); simp only [Bool.and_eq_true, beq_iff_eq, Bool.not_eq_true'] at ok
    obtain ⟨⟨⟨⟨⟨hg, ho⟩, hy⟩, hb⟩, hnil⟩, hhs⟩ := ok
    obtain ⟨C, hC, hm⟩ := ck.own xn kc ho
    have fo' : Fok cx n false kd (F.mark (.ref e)) := fo.mark
    refine wpAny_handleBy_cons (codeAny_handlers_test (glob_ok (F := F.mark (.ref e)) fo' hg t.mark ck.gns hm ?_)) (by intro q; cases q)
    refine ck.mats t.base x.rep hC fun tk => ?_
    have k' : Kp cx (plc F) H₀ s₀ H { s with toks := tk } := k.trans (.grow (fun _ _ e => e) fun _ _ _ e => e)
    have h' : (if isSub c kc = true then _ else _) := h
    cases hsub : isSub c kc with
    | false =>
      rw [hsub] at h'
      simp only [Bool.false_eq_true, if_false] at h'
      exact soundHs hs (s := { s with toks := tk }) fo hfs hf hhs t t₀ k' x h'
    | true =>
      rw [hsub] at h'
      simp only [if_true] at h'
      cases b with
      | nil => simp [ASs.isNil] at hnil
      | cons b₀ bs =>
        cases y with
        | none =>
          refine codeAny_handlers_suite ?_
          refine unflight_ok (s₁ := { s with toks := tk }) t k' t₀ x fun s₂ t₂ k₂ x₂ => ?_
          have := soundSs (.cons b₀ bs) (F := F.mark (.ref e)) fo' hfs hf hb t₂.mark h'
          exact wpAny_mono this (fun f s₃ h₃ => (OkS.unmark h₃).older k₂) fun _ _ ⟨_, _, _, _, _, _, _, _, f⟩ => f.elim
        | some y =>
          simp only [Bool.and_eq_true, beq_iff_eq] at hy
          refine codeAny_handlers_suite_as ?_
          refine unflight_ok (s₁ := { s with toks := tk }) t k' t₀ x fun s₂ t₂ k₂ x₂ => ?_
          refine store_name fo hy.1 (.inl hy.2) t₂ x₂.rep fun s₃ t₃ k₃ _ => ?_
          have := soundSs (.cons b₀ bs) (F := F.mark (.ref e)) fo' hfs hf hb t₃.mark h'
          refine wpAny_mono this (fun f s₄ h₄ => ?_) fun _ _ ⟨_, _, _, _, _, _, _, _, f⟩ => f.elim
          have h₅ := (OkS.unmark h₄).older (k₂.trans k₃)
          cases f with
          | next =>
            obtain ⟨m₅, H₅, t₅, k₅, hN⟩ := h₅
            exact unbind_ok fo hy.1 hy.2 t₅ fun s₆ t₆ k₆ _ => ⟨_, _, t₆, k₅.trans k₆, hN⟩
          | ret v =>
            obtain ⟨p, m₅, H₅, r₅, t₅, k₅, hR⟩ := h₅
            exact unbind_ok fo hy.1 hy.2 t₅ fun s₆ t₆ k₆ so => ⟨p, _, _, r₅.mono so, t₆, k₅.trans k₆, hR⟩
          | brk => exact h₅.elim
          | cont => exact h₅.elim
end
end
end Mine
end
section
open PySem PySem.Calls PyProof.Rows
namespace Mine
set_option autoImplicit false

structure FnOk (cx : Cx) (fl : List Str) (fd : FuncData) (nm : List Str) (np k : Nat) (kd : Kd) (body : ASs) : Prop where
  glob : fd.globals = cx.ga
  bltn : fd.builtins = cx.ba
  clo : fd.closure = []
  co : fd.scope.isCoroutine = false
  gen : fd.scope.isGenerator = false
  kind : fd.scope.kind = .function
  kdo : kd = fun x => fd.scope.names.lookup x
  nofree : (fd.scope.names.all fun p => p.2 != .free) = true
  bdy : fd.body = .stmts (body.toSs nm)
  bind : ∀ vals : List Value, vals.length = np → bindArgs fd ⟨vals, []⟩ = pure ((nm.take np).zip vals)
  nodup : (nm.take k).Nodup
  le : np ≤ k ∧ k ≤ nm.length
  pkind : ((nm.take np).all fun x => fd.scope.names.lookup x == some .local || fd.scope.names.lookup x == some .cell) = true
  okb : okSs fl nm (fun i => decide (i < k)) (fun x => fd.scope.names.lookup x) true body = true

section
variable {kindOf : Str → Option NameKind}
theorem bindL_other {y : Str} : ∀ (bs : List (Str × Value)) (m : Str → Option Value), y ∉ bs.map (·.1) → bindL kindOf bs m y = m y
  | [], _, _ => rfl
  | (x, v) :: r, m, h => by
    simp only [List.map_cons, List.mem_cons, not_or] at h
    unfold bindL
    rw [bindL_other r _ h.2]
    split
    · simp [h.1]
    · rfl
theorem bindC_other {y : Str} : ∀ (bs : List (Str × Value)) (m : Str → Option Value), y ∉ bs.map (·.1) → bindC kindOf bs m y = m y
  | [], _, _ => rfl
  | (x, v) :: r, m, h => by
    simp only [List.map_cons, List.mem_cons, not_or] at h
    unfold bindC
    rw [bindC_other r _ h.2]
    split
    · rfl
    · simp [h.1]
theorem bindL_at {y : Str} {v : Value} (hk : kindOf y = some .local) : ∀ (bs : List (Str × Value)) (m : Str → Option Value), (bs.map (·.1)).Nodup → (y, v) ∈ bs → bindL kindOf bs m y = some v
  | [], _, _, h => by simp at h
  | (x, w) :: r, m, hn, h => by
    simp only [List.map_cons, List.nodup_cons] at hn
    unfold bindL
    rcases List.mem_cons.mp h with e | h
    · cases e
      rw [bindL_other r _ hn.1, if_pos hk]; simp
    · exact bindL_at hk r _ hn.2 h
theorem bindC_at {y : Str} {v : Value} (hk : kindOf y ≠ some .local) : ∀ (bs : List (Str × Value)) (m : Str → Option Value), (bs.map (·.1)).Nodup → (y, v) ∈ bs → bindC kindOf bs m y = some v
  | [], _, _, h => by simp at h
  | (x, w) :: r, m, hn, h => by
    simp only [List.map_cons, List.nodup_cons] at hn
    unfold bindC
    rcases List.mem_cons.mp h with e | h
    · cases e
      rw [bindC_other r _ hn.1, if_neg hk]; simp
    · exact bindC_at hk r _ hn.2 h
end

theorem cellsFrom_has {x : Str} : ∀ (names : List (Str × NameKind)) (n : Nat) (acc : List (Str × Addr)), ((x, NameKind.cell) ∈ names ∨ (acc.lookup x).isSome = true) → ((cellsFrom n names acc).lookup x).isSome = true
  | [], _, acc, h => by rcases h with h | h; simp at h; exact h
  | (y, k) :: r, n, acc, h => by
    unfold cellsFrom
    split
    · refine cellsFrom_has r _ _ ?_
      rcases h with h | h
      · rcases List.mem_cons.mp h with e | h
        · cases e; right; simp
        · exact .inl h
      · right; rw [List.lookup_cons]; split <;> simp_all
    · rename_i hk
      refine cellsFrom_has r _ _ ?_
      rcases h with h | h
      · rcases List.mem_cons.mp h with e | h
        · cases e; simp at hk
        · exact .inl h
      · exact .inr h
theorem lookup_mem {α : Type} {l : List (Str × α)} {x : Str} {k : α} (h : l.lookup x = some k) : (x, k) ∈ l := mem_of_lookup h

noncomputable def initL (nm : List Str) (np : Nat) (ps : List PV) : Loc := ps.map some ++ List.replicate (nm.length - np) none

section
variable {cx : Cx} {g : Gl} {fl : List Str} {mg mb : Str → Option Value} {n : Nat}

theorem core_fn (ck : Cok cx g fl mg mb n) {fd : FuncData} {nm : List Str} {np k : Nat} {kd : Kd} {body : ASs} {a : Addr} {o : Obj} (fn : FnOk cx fl fd nm np k kd body) (lim : cx.B.NoLimit) (ho : cx.B.get? a = some o) (hd : o.data = .func fd) (hcd : cx.B.CodeRec fd.code fd.qualname)
    {A : Around} {fs : List Env} {H : AHeap} {s : Shared} {vs : List Value} {ps : List PV} {Q : Post} {X : XPost} {R : Result → Shared → Prop} (hfr : A.frames = some fs) (hqu : A.handled = none) (hdep : A.depth + 2 * (n + 1) ≤ 900) (huni : A.units + 8 * (n + 1) + 200 ≤ cLine)
    (tb : cx.B.StaysIn s.heap) (toff : ∀ b o, cx.B.get? b = some o → H b = none) (th : Holds cx s.heap H) (tfr : ∀ env ∈ fs, FrAt cx H s.heap env) (rs : RepL cx s.heap vs ps) (hlen : ps.length = np)
    (h : awpSs g body (fun _ H => Q .none H) Q (fun c _ H => X c H) (initL nm np ps) H)
    (hR : ∀ v p H' s', Rep cx s'.heap v p → Kp cx [] H s H' s' → Holds cx s'.heap H' → Q p H' → R (.ok (.ret v)) s')
    (hX : ∀ e c H' s', ExcOut cx s.heap s'.heap e c → Kp cx [] H s H' s' → Holds cx s'.heap H' → X c H' → R (.error (.ref e)) s') : codeAny cx.M A (.call (.ref a) ⟨vs, []⟩) R s := by
  have hvl : vs.length = np := by rw [rs.length]; exact hlen
  have fresh : ∀ b, s.heap.objs.size ≤ b → s.heap.get? b = none := fun b hb => get_ge_none hb
  have bnone : ∀ b, s.heap.objs.size ≤ b → cx.B.get? b = none := fun b hb => by
    cases e : cx.B.get? b with
    | none => rfl
    | some o => have := fresh b hb; rw [tb _ _ e] at this; cases this
  have hnd : ((nm.take np).Nodup) := by
    have h1 : nm.take np = (nm.take k).take np := by rw [List.take_take, Nat.min_eq_left fn.le.1]
    rw [h1]; exact fn.nodup.sublist (List.take_sublist _ _)
  have htl : (nm.take np).length = np := by rw [List.length_take]; have := fn.le; first | lia | omega
  have hmapz : ((nm.take np).zip vs).map (·.1) = nm.take np := by rw [List.map_fst_zip]; first | lia | omega
  refine (codeAny_call_cells (binds := (nm.take np).zip vs) (by show _ < 1000; first | lia | omega) (tb _ _ ho) hd (lim.keeps tb) (hcd.keeps tb) fn.bdy (fn.bind vs hvl) fn.clo (fun x hx => ?_) (fun s₁ ic => ?_) fn.co fn.gen fn.kind)
  · have hx1 : x.1 ∈ nm.take np := by rw [← hmapz]; exact List.mem_map_of_mem hx
    have := List.all_eq_true.mp fn.pkind x.1 hx1
    simp only [Bool.or_eq_true, beq_iff_eq] at this
    rcases this with h1 | h1
    · exact .inl h1
    · exact .inr ⟨h1, cellsFrom_has _ _ _ (.inl (lookup_mem h1))⟩
  · generalize hEnv : callEnvC fd s.heap.objs.size a = env at ic ⊢
    have eL : env.locals = s.heap.objs.size := by rw [← hEnv]; rfl
    have eF : env.frame = some s.heap.objs.size := by rw [← hEnv]; rfl
    have eK : env.kindOf = fun x => fd.scope.names.lookup x := by rw [← hEnv]; rfl
    have eC : env.cells = cellsFrom (s.heap.objs.size + 1) fd.scope.names [] := by rw [← hEnv]; rfl
    have eG : env.globals = cx.ga := by rw [← hEnv, ← fn.glob]; rfl
    have eB : env.builtins = cx.ba := by rw [← hEnv, ← fn.bltn]; rfl
    have eS : env.scope.kind = .function := by rw [← hEnv]; exact fn.kind
    have eD : fd.scope.names = env.scope.names := by rw [← hEnv]; rfl
    clear hEnv
    have keep := ic.toInCall.keep
    have so : ∀ b o, s.heap.get? b = some o → Solid o → s₁.heap.get? b = some o := fun b o e _ => keep b o e
    let F' : Fm := { A := A.deeper env, env := env, fs := env :: fs, nm := nm, vis := fun i => decide (i < k) }
    have memz : ∀ i v, i < k → (initL nm np ps).getD i none = some v → ∃ x, (slot nm i, x) ∈ (nm.take np).zip vs ∧ Rep cx s₁.heap x v := fun i v hi hv => by
      have hlt : i < np := by
        apply Classical.byContradiction
        intro hge
        have : (initL nm np ps).getD i none = none := by
          unfold initL
          rw [List.getD_eq_getElem?_getD, List.getElem?_append_right (by simp; first | lia | omega)]
          cases e : (List.replicate (nm.length - np) (none : Option PV))[i - (ps.map some).length]? with
          | none => rfl
          | some o => rw [List.getElem?_replicate] at e; split at e <;> simp_all
        rw [this] at hv; cases hv
      have hp : ps[i]? = some v := by
        unfold initL at hv
        rw [List.getD_eq_getElem?_getD, List.getElem?_append_left (by simp; first | lia | omega)] at hv
        rw [List.getElem?_map] at hv
        cases e : ps[i]? with
        | none => rw [e] at hv; simp at hv
        | some w => rw [e] at hv; simp at hv; rw [hv]
      obtain ⟨x, ex, rx⟩ := rs.get hp
      refine ⟨x, ?_, rx.mono so⟩
      have hin : i < nm.length := by have := fn.le; first | lia | omega
      have e1 : (nm.take np)[i]? = some (slot nm i) := by
        rw [List.getElem?_take, if_pos hlt]
        unfold slot
        rw [List.getD_eq_getElem?_getD, List.getElem?_eq_getElem hin]; rfl
      have : ((nm.take np).zip vs)[i]? = some (slot nm i, x) := by rw [List.getElem?_zip_eq_some]; exact ⟨e1, ex⟩
      exact List.mem_of_getElem? this
    have fo' : Fok cx n true kd F' := by
      refine ⟨?_, eS, by rw [fn.kdo]; exact eK, eG, eB, fun _ => hqu, ?_, ?_, fun x hx => ?_, fun x y c h1 h2 => ?_, fun i j hi hj e => ?_⟩
      · show (A.deeper env).frames = some (env :: fs)
        unfold Around.deeper; rw [hfr]; rfl
      · show A.depth + 1 + 2 * n + 1 ≤ 900; first | lia | omega
      · show A.units + 3 + 8 * n + 204 ≤ cLine; first | lia | omega
      · rw [fn.kdo] at hx
        rcases hx with hx | hx
        · exact Option.isSome_iff_exists.mp (by show (env.cells.lookup x).isSome = true; rw [eC]; exact cellsFrom_has _ _ _ (.inl (lookup_mem hx)))
        · have := List.all_eq_true.mp fn.nofree _ (lookup_mem hx)
          simp at this
      · exact name_of_addr ic.apart (mem_of_lookup h1) (mem_of_lookup h2)
      · have hi' : i < k := of_decide_eq_true hi
        have hj' : j < k := of_decide_eq_true hj
        have hl := fn.le.2
        have ei : (nm.take k)[i]? = some (slot nm i) := by
          rw [List.getElem?_take, if_pos hi']; unfold slot; rw [List.getD_eq_getElem?_getD, List.getElem?_eq_getElem (by first | lia | omega)]; rfl
        have ej : (nm.take k)[j]? = some (slot nm j) := by
          rw [List.getElem?_take, if_pos hj']; unfold slot; rw [List.getD_eq_getElem?_getD, List.getElem?_eq_getElem (by first | lia | omega)]; rfl
        have e' : slot nm i = slot nm j := e
        rw [e'] at ei
        exact (List.getElem?_inj (by rw [List.length_take]; first | lia | omega) fn.nodup).mp (by rw [ei, ej])
    have st' : St cx F' (initL nm np ps) H s₁.heap := by
      obtain ⟨oL, es, ep, gL, dL, rL⟩ := id ic.toInCall.ns
      rw [eL] at gL
      refine ⟨fun b o e => keep b o (tb b o e), toff, th.grow keep, fun env' he => ?_, ⟨?_, ?_⟩, ⟨oL, es, ep, _, by rw [← eL] at gL; exact gL, dL, ic.toInCall.ns, fun i v h1 h2 h3 => ?_⟩, fun nn c hc => ?_⟩
      · rcases List.mem_cons.mp he with rfl | he
        · exact ⟨by rw [eS]; decide, s.heap.objs.size, oL, es, ep, eF, th.fresh (fresh _ (Nat.le_refl _)), bnone _ (Nat.le_refl _), gL, dL⟩
        · obtain ⟨hk, L, o, es, ep, hf, hH, hb, ho, hd'⟩ := tfr env' he
          exact ⟨hk, L, o, es, ep, hf, hH, hb, keep L o ho, hd'⟩
      · show H env.locals = none
        rw [eL]; exact th.fresh (fresh _ (Nat.le_refl _))
      · show cx.B.get? env.locals = none
        rw [eL]; exact bnone _ (Nat.le_refl _)
      · obtain ⟨x, hx, rx⟩ := memz i v (of_decide_eq_true h1) h3
        exact ⟨x, bindL_at h2 _ _ (by rw [hmapz]; exact hnd) hx, rx⟩
      · obtain ⟨oc, gc, dc⟩ := ic.cell nn c hc
        have hlt := ic.above nn c (mem_of_lookup hc)
        rw [eL] at hlt
        refine ⟨th.fresh (fresh _ (Nat.le_of_lt hlt)), bnone _ (Nat.le_of_lt hlt), oc, _, gc, dc, fun i v h1 h2 h3 h4 => ?_⟩
        obtain ⟨x, hx, rx⟩ := memz i v (of_decide_eq_true h1) h4
        subst h2
        exact ⟨x, bindC_at h3 _ _ (by rw [hmapz]; exact hnd) hx, rx⟩
    have kp₁ : Kp cx (plc F') H s H s₁ := by
      obtain ⟨h', tk, e⟩ := ic.toInCall.same
      rw [e]
      exact .grow (fun b o q => by have := keep b o q; rw [e] at this; exact this) fun _ _ _ q => q
    have down : ∀ {H' : AHeap} {s' : Shared}, Kp cx (plc F') H s H' s' → Kp cx [] H s H' s' := fun {H' s'} kp => kp.sub fun b o e hb => by
      exfalso
      rcases List.mem_cons.mp hb with q | hb
      · rw [q] at e; have : s.heap.get? env.locals = none := by rw [eL]; exact fresh _ (Nat.le_refl _)
        rw [show F'.env.locals = env.locals from rfl, this] at e; cases e
      · obtain ⟨p, _, hl⟩ := List.mem_filterMap.mp hb
        have hlt := ic.above p.1 b (mem_of_lookup hl)
        rw [eL] at hlt
        rw [fresh b (Nat.le_of_lt hlt)] at e; cases e
    have body := soundSs ck body (F := F') (outer := fs) (L := s.heap.objs.size) fo' rfl eF (by rw [fn.kdo]; exact fn.okb) st' h
    refine wpAny_mono body (fun f s' h' => ?_) fun e s' h' => ?_
    · cases f with
      | next =>
        obtain ⟨m', H', t', kp', hq⟩ := h'
        exact hR .none .none H' _ .none (down (kp₁.trans kp')) t'.heap hq
      | ret v =>
        obtain ⟨p, m', H', rv, t', kp', hq⟩ := h'
        exact hR v p H' _ rv (down (kp₁.trans kp')) t'.heap hq
      | brk => exact h'.elim
      | cont => exact h'.elim
    · obtain ⟨e, c, m', H', rfl, x', t', kp', hx⟩ := h'
      have kpp := kp₁.trans kp'
      have x₀ := x'.older kp₁.alive
      unfold leaving
      refine wpAny_bind (note_ok (F := F') (outer := fs) fo'.fr rfl eF t' kpp tb x₀ fun s₂ t₂ k₂ x₂ => ?_)
      refine unflight_ok t₂ k₂ tb x₂ fun s₃ t₃ k₃ x₃ => ?_
      exact hX e c H' _ x₃ (down k₃) t₃.heap hx
theorem call_fn (ck : Cok cx g fl mg mb n) {fd : FuncData} {nm : List Str} {np k : Nat} {kd : Kd} {body : ASs} {a : Addr} {o : Obj} (fn : FnOk cx fl fd nm np k kd body) (lim : cx.B.NoLimit) (ho : cx.B.get? a = some o) (hd : o.data = .func fd) (hcd : cx.B.CodeRec fd.code fd.qualname)
    {F : Fm} {m : Loc} {H : AHeap} {s : Shared} {vs : List Value} {ps : List PV} {Q : Post} {X : XPost} (fF : Fcl (n + 1) F) (rs : RepL cx s.heap vs ps) (hlen : ps.length = np) (t : St cx F m H s.heap)
    (h : awpSs g body (fun _ H => Q .none H) Q (fun c _ H => X c H) (initL nm np ps) H) : Ev (Rep cx) cx F (call (.ref a) vs []) m H s Q X :=
  wpAny_call (core_fn ck fn lim ho hd hcd fF.fr fF.quiet fF.depth fF.units t.base t.off t.heap t.frames rs hlen h (fun v p H' s' rv kp hh q => ⟨p, H', rv, t.step kp hh, kp, q⟩) fun e c H' s' x kp hh q => ⟨e, c, H', rfl, x.exc, t.step kp hh, kp, q⟩)
end
end Mine
end
section
open PySem PySem.W PySem.Calls PyProof.Rows
namespace Mine
set_option autoImplicit false
set_option maxRecDepth 100000

/-! the program's globals, told from its laid heap -/
noncomputable def kmg (K : Frag) (x : Str) : Option Value := match K.lookup mainGlobals with
  | some o => (match o.data with | .dict es _ => nsFind es x | _ => none)
  | none => none
theorem kmg_eq {K : Frag} {h : Heap} {mg : Str → Option Value} (X : K.In h) (hs : (K.lookup mainGlobals).isSome = true) (hn : h.Ns mainGlobals mg) : mg = kmg K := by
  obtain ⟨o, e⟩ := Option.isSome_iff_exists.mp hs
  rw [hn.eq_nsMap]
  funext x
  unfold Heap.nsMap kmg
  rw [X _ _ e, e]
  cases o.data <;> rfl

noncomputable def ownChk (K : Frag) (cs : List Addr) : Bool := onms.all fun p => kmg K p.1 == (cs[p.2]?).map Value.ref && (cs[p.2]?).isSome
noncomputable def clsChk (K : Frag) (D : Addr) : Bool := ((findIn K (.ref D) "__getattribute__" == some (some (.builtin "BaseException.__getattribute__"))) && (findIn K (.ref D) "__getattr__" == some none) && (subIn K (.ref D) (.type "BaseException") == some true)) && (clsIn K D).isSome && (findIn K (.ref D) "__class__" == some (some (.builtin "object.__class__")))
  && (specialIn K (.builtin "object.__class__") "__get__" == some (some (.builtin "getset_descriptor.__get__"))) && (takesIn K (.builtin "object.__class__") == some true) && (mroIn K D (.type "object") == some true)
  && (kitOne K (.ref D) (.type "ValueError") == some true)
noncomputable def excChk (K : Frag) (cs : List Addr) : Bool := cs.all (clsChk K) && (List.range cs.length).all fun k => (List.range cs.length).all fun c =>
  match cs[k]?, cs[c]? with
  | some A, some B => (kitOne K (.ref A) (.ref B) == some (isSub k c)) && (exmOne K (.ref A) (.ref B) == some (isSub k c))
  | _, _ => false
noncomputable def bltNames : List Str := ["len", "list", "tuple", "range", "max", "min", "int", "str", "all", "any", "abs", "isinstance", "bool", "ValueError"]
noncomputable def bltChk (K : Frag) : Bool := bltNames.all fun x => kmg K x == none

theorem excChk_at {K : Frag} {cs : List Addr} (h : excChk K cs = true) {k c : Nat} {A B : Addr} (hk : cs[k]? = some A) (hc : cs[c]? = some B) : clsChk K A = true ∧ kitOne K (.ref A) (.ref B) = some (isSub k c) ∧ exmOne K (.ref A) (.ref B) = some (isSub k c) := by
  unfold excChk at h
  simp only [Bool.and_eq_true] at h
  have h1 := List.all_eq_true.mp h.1 A (List.mem_of_getElem? hk)
  have kl : k < cs.length := (List.getElem?_eq_some_iff.mp hk).1
  have cl : c < cs.length := (List.getElem?_eq_some_iff.mp hc).1
  have h2 := List.all_eq_true.mp (List.all_eq_true.mp h.2 k (List.mem_range.mpr kl)) c (List.mem_range.mpr cl)
  rw [hk, hc] at h2
  simp only [Bool.and_eq_true, beq_iff_eq] at h2
  exact ⟨h1, h2.1, h2.2⟩

section
variable {K : Frag} {x D : Addr} {ox : Obj} {prog : Program} {w : World} {A : Around} {E : Value → Shared → Prop} {s : Shared}
theorem exc_class {Q : Option Value → Shared → Prop} (X : K.In s.heap) (I : InstAt s.heap x ox D none) (hga : findIn K (.ref D) "__getattribute__" = some (some (.builtin "BaseException.__getattribute__")))
    (hgr : findIn K (.ref D) "__getattr__" = some none) (hf : findObj K D none "__class__" = some (.bind (.builtin "getset_descriptor.__get__") (.builtin "object.__class__"))) (hsub : subIn K (.ref D) (.type "BaseException") = some true) (hm : mroIn K D (.type "object") = some true)
    (h : Q (some (.ref D)) { s with toks := s.toks + 1 }) : wpAny (model prog w) A (getAttr? (.ref x) "__class__") Q E s := by
  obtain ⟨hh, g, d, t, os⟩ := s
  have L0 := I.type (M := model prog w)
  have L1 := looks_findIn (M := model prog w) X hga
  have L2 := looks_findIn (M := model prog w) X hgr
  have L3 := looks_find (M := model prog w) X I hf
  have L4 := looks_subIn (M := model prog w) X hsub
  have hx2 : (Value.builtin "BaseException.__getattribute__" == Value.builtin "object.__getattribute__") = false := by decide +kernel
  have hx1 : (onTheHeap (Value.ref D) && Value.builtin "BaseException.__getattribute__" == Value.builtin "object.__getattribute__") = false := by rw [hx2]; rfl
  have f3 := PySem.F.attr_ValueError.ga.bind (.ref x)
  unfold getAttr? getAttrBy? getAttrBy
  refine wpAny_bind (wpAny_mkText (wpAny_bind (wpAny_attempt (wpAny_holding (wpAny_bind (L0.at (wpAny_bind (L1.at ?_))))))))
  simp only [hx1, Bool.false_eq_true, if_false]
  unfold getAttrByItsOwn hookBefore
  rw [if_pos (show onTheHeap (Value.ref D) = true from rfl)]
  refine wpAny_bind (L2.at ?_)
  refine wpAny_bind (wpAny_attempt (wpAny_holding ?_))
  unfold callGetattribute
  rw [if_neg (by simp)]
  unfold boundAndCalled
  rw [f3]
  refine wpAny_bind (wpAny_pure (wpAny_call (codeAny_call_builtin PySem.F.attr_ValueError.ga.plain PySem.F.entry_bexc_ga ?_)))
  have hk : builtinKind "BaseException.__getattribute__" = some .slot := by decide +kernel
  have hsplit : splitId "BaseException.__getattribute__" = some ("BaseException", "__getattribute__") := by decide +kernel
  have ha := PySem.F.args_bexc_ga (.ref x) (.str "__class__" t)
  have L5 : Looks (model prog w) hh (isInstance (.ref x) (.type "BaseException")) true := L0.andThen L4
  simp only [checkBuiltinCall, hk, hsplit]
  refine wpAny_bind (L5.at ?_)
  rw [if_neg (by simp)]
  have body : wpAny (model prog w) A.in1 (Builtin.«object.__getattribute__» { pos := [Value.ref x] ++ [Value.str (Str.ofString "__class__") t] })
      (fun fin s' => fin = .done (.ret (.ref D)) ∧ s' = ⟨hh, g, d, t + 1, os⟩) (fun _ _ => False) ⟨hh, g, d, t + 1, os⟩ := by
    unfold Builtin.«object.__getattribute__»
    repeat (any_goals (first | assumption | lk | wp_step))
    refine wpAny_run (class_get (s := ⟨hh, g, d, t + 1, os⟩) X I hm ?_)
    exact wpAny_pure (wpAny_pure ⟨rfl, rfl⟩)
  have fin : wpAny (model prog w) A.in1 (Builtin.«object.__getattribute__» { pos := [Value.ref x] ++ [Value.str (Str.ofString "__class__") t] })
      (fun fin s' => match fin with
        | .done f => (match (Except.ok f : Result) with
          | .ok (.ret v) => wpAny (model prog w) A (handedOut v) (fun a s' => wpAny (model prog w) A (pure (some a)) Q E s') (fun e s' => wpAny (model prog w) A (do if ← isInstance e (.type "AttributeError") then pure none else throw e) Q E s') s'
          | .ok _ => False
          | .error e => False)
        | .again c' => False) (fun _ _ => False) ⟨hh, g, d, t + 1, os⟩ := wpAny_mono body (fun f s' hs => by
      obtain ⟨rfl, rfl⟩ := hs
      exact handed_on rfl (wpAny_pure h)) fun _ _ f => f
  cases hsig : Manifest.signature? "BaseException.__getattribute__" with
  | none =>
    refine wpAny_pure (wpAny_mono fin (fun f s' hs => ?_) fun _ _ f => f.elim)
    rcases f with (_ | _ | _ | _) | _ <;> first | exact hs | exact hs.elim
  | some sig =>
    simp only [argsOk, hsig] at ha
    have h2 : Bind.checkArgs "BaseException.__getattribute__" sig { pos := [Value.ref x] ++ [Value.str (Str.ofString "__class__") t] } = pure () := ha
    simp only [h2]
    refine wpAny_pure (wpAny_mono fin (fun f s' hs => ?_) fun _ _ f => f.elim)
    rcases f with (_ | _ | _ | _) | _ <;> first | exact hs | exact hs.elim
end

section
variable {K : Frag} {x D : Addr} {ox : Obj}
theorem findObj_none {g a : Value} {name : Str} (hc : (clsIn K D).isSome = true) (ha : findIn K (.ref D) name = some (some a)) (hg : specialIn K a "__get__" = some (some g)) (ht : takesIn K a = some true) : findObj K D none name = some (.bind g a) := by
  obtain ⟨cd, hc⟩ := Option.isSome_iff_exists.mp hc
  unfold findObj
  rw [hc, Option.bind_some, ha, Option.bind_some]
  simp [hg, ht]

theorem kitx_exc (hk : clsChk K D = true) : KitX K (.ref x) (.ref D) (fun h => InstAt h x ox D none) := by
  unfold clsChk at hk
  simp only [Bool.and_eq_true, beq_iff_eq] at hk
  obtain ⟨⟨⟨⟨⟨⟨hg, hc⟩, ha⟩, hn⟩, htk⟩, hm⟩, _⟩ := hk
  obtain ⟨cd, hcD⟩ := Option.isSome_iff_exists.mp hc
  refine ⟨fun _ _ _ I => I.type, fun _ _ X _ => ?_, fun h tp dd its n sl X htp => ?_, fun {prog w A E Q s} X I k => ?_⟩
  · unfold clsIn at hcD
    split at hcD
    · rename_i c' d' cd' sl' ho
      intro A' Q' E' s' k q
      unfold isType loadHead
      exact wpAny_bind (wpAny_loadPart (k _ _ (X _ _ ho)) (wpAny_pure q))
    · cases hcD
  · refine Bool.eq_false_iff.mpr fun q => ?_
    have e : D = tp := Value.ref.inj (beq_iff_eq.mp q)
    subst e
    unfold clsIn at hcD
    split at hcD
    · rename_i c' d' cd' sl' ho
      have z := (X _ _ ho).symm.trans htp
      cases z
    · cases hcD
  · exact exc_class X I hg.1.1 hg.1.2 (findObj_none hc ha hn htk) hg.2 hm k
end

section
variable {cx : Cx} {K : Frag} {cs : List Addr} {mg mb : Str → Option Value}

theorem Rep.excI {h : Heap} {v : Value} {k : Nat} (r : Rep cx h v (.exc k)) : ∃ e o vs C, v = .ref e ∧ h.get? e = some o ∧ o.cls = .ref C ∧ o.data = .fields vs ∧ cx.cls k = some C ∧ o.dict = Option.none := by
  cases r with | exc e c d x y => exact ⟨_, _, _, _, rfl, e, c, d, x, y⟩
theorem instAt_of {h : Heap} {e C : Addr} {o : Obj} {vs : Array Value} (g : h.get? e = some o) (c : o.cls = .ref C) (d : o.data = .fields vs) (y : o.dict = none) : InstAt h e o C none :=
  ⟨g, c, by unfold notCls; rw [d], by rw [y]; trivial⟩

theorem isx_ok (X : K.In cx.B) (hcs : cx.cls = fun c => cs[c]?) (hk : excChk K cs = true) {F : Fm} {m : Loc} {H : AHeap} {s : Shared} {Q : Post} {XX : XPost} {e : Value} {k c : Nat} {C : Addr} (r : Rep cx s.heap e (.exc k)) (t : St cx F m H s.heap) (hc : cx.cls c = some C) (hQ : Q (.bool (isSub k c)) H) :
    Ev (Rep cx) cx F (call (.builtin "isinstance") [e, .ref C]) m H s Q XX := by
  obtain ⟨a, o, vs, D, rfl, g, hcl, hd, hD, hy⟩ := r.excI
  rw [hcs] at hc hD
  obtain ⟨h1, h2, _⟩ := excChk_at hk hD hc
  exact kia_one (kitx_exc h1) (X.keeps t.base) (instAt_of g hcl hd hy) h2 (by simp) fun tk => .toks tk (.bool _) t hQ
theorem isv_ok (X : K.In cx.B) (hcs : cx.cls = fun c => cs[c]?) (hk : excChk K cs = true) {F : Fm} {m : Loc} {H : AHeap} {s : Shared} {Q : Post} {XX : XPost} {e : Value} {k : Nat} (r : Rep cx s.heap e (.exc k)) (t : St cx F m H s.heap) (hQ : Q (.bool true) H) :
    Ev (Rep cx) cx F (call (.builtin "isinstance") [e, .type "ValueError"]) m H s Q XX := by
  obtain ⟨a, o, vs, D, rfl, g, hcl, hd, hD, hy⟩ := r.excI
  rw [hcs] at hD
  obtain ⟨h1, _, _⟩ := excChk_at hk hD hD
  have h3 : kitOne K (.ref D) (.type "ValueError") = some true := by
    unfold clsChk at h1; simp only [Bool.and_eq_true, beq_iff_eq] at h1; exact h1.2
  exact kia_one (kitx_exc h1) (X.keeps t.base) (instAt_of g hcl hd hy) h3 (by simp) fun tk => .toks tk (.bool _) t hQ
theorem mats_ok (X : K.In cx.B) (hcs : cx.cls = fun c => cs[c]?) (hk : excChk K cs = true) {A : Around} {s : Shared} {e : Value} {k c : Nat} {C : Addr} {QQ : Bool → Shared → Prop} {E : Value → Shared → Prop} (t : cx.B.StaysIn s.heap) (r : Rep cx s.heap e (.exc k)) (hc : cx.cls c = some C)
    (hQ : ∀ tk, QQ (isSub k c) { s with toks := tk }) : wpAny cx.M A (excMatches e (.ref C)) QQ E s := by
  obtain ⟨a, o, vs, D, rfl, g, hcl, hd, hD, hy⟩ := r.excI
  rw [hcs] at hc hD
  obtain ⟨_, _, h2⟩ := excChk_at hk hD hc
  exact exm_one (M := cx.M) (X.keeps t) (instAt_of g hcl hd hy).type h2 _ _ _ _ (fun _ _ e => e) (hQ s.toks)

theorem rais_ok {n : Nat} (gns : cx.B.Ns cx.ga mg) {F : Fm} {kd : Kd} {m : Loc} {H : AHeap} {s : Shared} {c : Nat} {x msg : Str} {k : Nat} {pc pm pk p : Pos} {QQ : Flow → Shared → Prop} {E : Value → Shared → Prop} {C : Addr} {bm : List Value} {newId initId B : String}
    (O : OwnCls x C bm newId mg cx.B) (FB : ExcBaseFacts B newId initId bm) (hC : cx.cls c = some C)
    (fo : Fok cx n true kd F) (gk : isGlob kd x = true) (t : St cx F m H s.heap) (hE : ∀ e s', Exc cx F.env.frame s.heap s'.heap e c → St cx F m H s'.heap → Kp cx [] H s H s' → E (.ref e) s') :
    wpAny cx.M F.A (exec (.Raise (some (.Call (.Name x pc) [.Constant (.str msg) k pm] [] pk)) none p) F.env) QQ E s := by
  obtain ⟨tl, N, nm, q, bs, hdct, sn, sub, ab, col, dd, k0, k1, k2, k3, k5, mN, gC, hN, hni, T⟩ := O.obj
  refine wpAny_Raise_call_subT (C := C) (nm := nm) (q := q) (N := N) (bs := bs) (bm := tl) (hdct := hdct) (sn := sn) (sub := sub) (ab := ab) (col := col) (dd := dd) (k0 := k0) (k1 := k1) (k2 := k2) (k3 := k3) (k5 := k5)
    FB (mN := mN) (T.hasType FB.hasBase) (fo.quiet rfl) rfl hni (glob_ok fo gk t gns O.bound ⟨rfl, ?_⟩)
  refine evalArgs_plain (spliced_cons (Constant_str (k := k) (pos := pm) (spliced_nil ⟨rfl, by rw [sizeLine_eq]; simp, t.base _ _ gC, hN.keeps t.base, T.keeps t.base, fun h' e hm => ?_⟩)))
  obtain ⟨tt, ge, _, _⟩ := hm.there
  have kp : Kp cx [] H s H { s with heap := h', toks := s.toks + 1 } := .grow hm.keeps fun _ _ _ q => q
  exact hE e _ ⟨hm.new, _, _, C, _, ge, rfl, ⟨hC, rfl⟩, rfl, rfl, .inl rfl⟩ (t.step kp (t.heap.grow hm.keeps)) kp

theorem boot_blt : ∀ b : Blt, bootBuiltins b.name = some b.val := by intro b; cases b <;> decide +kernel
theorem boot_isi : bootBuiltins "isinstance" = some (.builtin "isinstance") := by decide +kernel
theorem boot_bty : ∀ T ∈ ["str", "list", "tuple", "bool", "int", "ValueError"], bootBuiltins (Str.ofString T) = some (.type T) := by decide +kernel
end
end Mine
end
section
open PySem PySem.W PySem.Calls PyProof.Rows
namespace Mine
set_option autoImplicit false

noncomputable def bmVE : List Value := [.type "ValueError", .type "Exception", .type "BaseException", .type "object"]
noncomputable def ownsChk (p : Program) : Bool := onms.all fun q => (ownsOf p).any fun o => o.name == q.1 && o.newId == "ValueError.__new__" && o.bm == bmVE

theorem lookup_in {x : Str} {c : Nat} (h : onm x = some c) : (x, c) ∈ onms := mem_of_lookup h

section
variable {cx : Cx} {K : Frag} {cs : List Addr} {mg mb : Str → Option Value} {g : Gl} {p : Program} {loose : List Str} {mean : ExcName → Option Value}

theorem cok_base (X : K.In cx.B) (hs : (K.lookup mainGlobals).isSome = true) (T : Top p loose mean mg mb cx.B) (hga : cx.ga = mainGlobals) (hba : cx.ba = builtinsNs) (hcs : cx.cls = fun c => cs[c]?) (hk : excChk K cs = true) (how : ownChk K cs = true) (hbl : bltChk K = true) (hoc : ownsChk p = true)
    (mach : ∃ C N, cx.icls = some C ∧ mg "Machine" = some (.ref C) ∧ ClsAt cx.B C N cx.mN ∧ ∀ x ∈ (["__getattribute__", "__getattr__", "__setattr__"] : List Str) ++ atns, cx.mN x = none) (consts : ∀ x q, g.G x = some q → ∃ v, mg x = some v ∧ Rep cx cx.B v q) : Cok cx g [] mg mb 0 := by
  have hmg := kmg_eq X hs T.g
  have free : ∀ x ∈ bltNames, mg x = none := fun x hx => by
    rw [hmg]
    have := List.all_eq_true.mp hbl x hx
    simpa using this
  have nn : ∀ x ∈ bltNames, x ≠ Str.ofString "__name__" := by decide +kernel
  have own : ∀ x c, onm x = some c → ∃ C, cx.cls c = some C ∧ mg x = some (.ref C) := fun x c hx => by
    have := List.all_eq_true.mp how (x, c) (lookup_in hx)
    simp only [Bool.and_eq_true, beq_iff_eq] at this
    obtain ⟨C, hC⟩ := Option.isSome_iff_exists.mp this.2
    refine ⟨C, by rw [hcs]; exact hC, ?_⟩
    rw [hmg, this.1, hC]; rfl
  refine ⟨by rw [hga]; exact T.g, ?_, by rw [hba]; exact T.b, consts, fun b => ?_, ⟨free _ (by decide +kernel), (T.builtins _ (by decide +kernel)).trans boot_isi⟩, fun t ht => ?_, own, ?_, ?_, ?_, ?_, mach, fun f hf => ?_, fun f hf => ?_⟩
  · obtain ⟨o, e⟩ := Option.isSome_iff_exists.mp hs
    exact ⟨mainGlobals, o, by decide, X _ _ e⟩
  · have hb : Str.ofString b.name ∈ bltNames := by cases b <;> decide +kernel
    exact ⟨free _ hb, (T.builtins _ (nn _ hb)).trans (boot_blt b)⟩
  · have hb : ∀ t ∈ ["str", "list", "tuple", "bool", "int", "ValueError"], Str.ofString t ∈ bltNames := by decide +kernel
    exact ⟨free _ (hb t ht), (T.builtins _ (nn _ (hb t ht))).trans (boot_bty t ht)⟩
  · exact fun r t hc hQ => isx_ok X hcs hk r t hc hQ
  · exact fun r t hQ => isv_ok X hcs hk r t hQ
  · intro F kd m H s c x msg k pc pm pk pp QQ E fo gk ho t hE
    have := List.all_eq_true.mp hoc (x, c) (lookup_in ho)
    obtain ⟨o, hom, hoo⟩ := List.any_eq_true.mp this
    simp only [Bool.and_eq_true, beq_iff_eq] at hoo
    obtain ⟨⟨h1, h2⟩, h3⟩ := hoo
    obtain ⟨C, O, _⟩ := T.own o hom
    obtain ⟨C', hC', hb'⟩ := own x c ho
    have O' := O.own
    rw [h1, h2, h3] at O'
    have : C = C' := by have := O'.bound; rw [hb'] at this; cases this; rfl
    subst this
    exact rais_ok (by rw [hga]; exact T.g) O' PySem.F.excBase_ValueError hC' fo gk t hE
  · exact fun t r hc hQ => mats_ok X hcs hk t r hc hQ
  · simp at hf
  · simp at hf
end

section
variable {cx : Cx} {mg mb : Str → Option Value} {g : Gl} {fl : List Str} {n : Nat}
theorem Fcl.less {F : Fm} (fo : Fcl (n + 1) F) : Fcl n F := ⟨fo.fr, fo.quiet, by have := fo.depth; (first | lia | omega), by have := fo.units; (first | lia | omega)⟩
theorem Fok.less {q : Bool} {kd : Kd} {F : Fm} (fo : Fok cx (n + 1) q kd F) : Fok cx n q kd F := ⟨fo.fr, fo.kind, fo.kdo, fo.glob, fo.bltn, fo.quiet, by have := fo.depth; (first | lia | omega), by have := fo.units; (first | lia | omega), fo.cells, fo.apart, fo.inj⟩

theorem Cok.add (ck : Cok cx g fl mg mb n) {f : Str} {fd : FuncData} {nm : List Str} {np k : Nat} {kd : Kd} {body : ASs} {a : Addr} {o : Obj} (hf : fad cx mg f = some (.ref a)) (hcl : isMeth f = true → o.cls = .type "function") (fn : FnOk cx fl fd nm np k kd body) (lim : cx.B.NoLimit) (ho : cx.B.get? a = some o) (hd : o.data = .func fd) (hcd : cx.B.CodeRec fd.code fd.qualname)
    (spec : ∀ {ps : List PV} {H : AHeap} {Q : Post} {X : XPost}, g.C f ps H Q X → ps.length = np ∧ awpSs g body (fun _ H => Q .none H) Q (fun c _ H => X c H) (initL nm np ps) H) : Cok cx g (f :: fl) mg mb (n + 1) := by
  refine ⟨ck.gns, ck.mods, ck.bns, ck.consts, ck.blts, ck.isi, ck.bty, ck.own, ck.isx, ck.isv, fun fo gk ho t hE => ck.rais fo.less gk ho t hE, ck.mats, ck.mach, fun f' h' => ?_, fun f' h' {ps H Q X} hc {F m s vs a'} fo hm rs t => ?_⟩
  · rw [List.contains_cons, Bool.or_eq_true] at h'
    rcases h' with h' | h'
    · rw [beq_iff_eq.mp h']; exact ⟨a, o, fd, hf, ho, hd, hcl⟩
    · exact ck.fns f' h'
  · by_cases e : f' = f
    · subst e
      rw [hf] at hm; cases hm
      obtain ⟨h1, h2⟩ := spec hc
      exact call_fn ck fn lim ho hd hcd fo rs h1 t h2
    · rw [List.contains_cons, Bool.or_eq_true] at h'
      exact ck.calls f' (h'.resolve_left fun q => e (beq_iff_eq.mp q)) hc fo.less hm rs t

noncomputable def fnChk (fl : List Str) (nm : List Str) (np k : Nat) (sc : Scope) (body : ASs) : Bool :=
  !sc.isCoroutine && !sc.isGenerator && decide (sc.kind = .function) && (sc.names.all fun p => p.2 != .free) && decide ((nm.take k).Nodup) && decide (np ≤ k) && decide (k ≤ nm.length)
    && ((nm.take np).all fun x => sc.names.lookup x == some .local || sc.names.lookup x == some .cell) && okSs fl nm (fun i => decide (i < k)) (fun x => sc.names.lookup x) true body

theorem Cok.addT {p : Program} {loose : List Str} {mean : ExcName → Option Value} (ck : Cok cx g fl mg mb n) {f : Str} (hnm : isMeth f = false) (T : Top p loose mean mg mb cx.B) (hga : cx.ga = mainGlobals) (hba : cx.ba = builtinsNs) {d : DefRec} {nm : List Str} {np k : Nat} {sc : Scope} {body : ASs}
    (hd : d ∈ recsOf p) (h1 : d.name = f) (h2 : d.body = body.toSs nm) (h3 : d.scope = sc) (hb : ∀ (pm code doc : Value) (vals : List Value), vals.length = np → bindArgs (docDef d.name d.params d.body d.scope pm code doc) ⟨vals, []⟩ = pure ((nm.take np).zip vals))
    (hc : fnChk fl nm np k sc body = true)
    (spec : ∀ {ps : List PV} {H : AHeap} {Q : Post} {X : XPost}, g.C f ps H Q X → ps.length = np ∧ awpSs g body (fun _ H => Q .none H) Q (fun c _ H => X c H) (initL nm np ps) H) : Cok cx g (f :: fl) mg mb (n + 1) := by
  obtain ⟨a, o, pm, code, doc, hm, ho, hdat, hcd⟩ := T.fn d hd
  unfold fnChk at hc
  simp only [Bool.and_eq_true, Bool.not_eq_true', decide_eq_true_eq] at hc
  obtain ⟨⟨⟨⟨⟨⟨⟨⟨c1, c2⟩, c3⟩, c4⟩, c5⟩, c6⟩, c7⟩, c8⟩, c9⟩ := hc
  rw [h1] at hm
  subst h3
  exact ck.add (kd := fun x => d.scope.names.lookup x) ((fad_glob hnm).trans hm) (fun q => by rw [hnm] at q; cases q) ⟨hga.symm, hba.symm, rfl, c1, c2, c3, rfl, c4, by show FuncBody.stmts d.body = _; rw [h2], hb pm code doc, c5, ⟨c6, c7⟩, c8, c9⟩ T.nolimit ho hdat hcd spec
theorem Cok.addM {c : ClsRec} {C N : Addr} (ck : Cok cx g fl mg mb n) (P : PlainAt cx.B c C N cx.mN) (lim : cx.B.NoLimit) (hga : cx.ga = mainGlobals) (hba : cx.ba = builtinsNs) {q f : Str} {r : MethRec} {nm : List Str} {np k : Nat} {sc : Scope} {body : ASs}
    (hq : (q, f) ∈ mtab) (hr : r ∈ c.meths) (h1 : r.name = q) (h2 : r.body = body.toSs nm) (h3 : r.scope = sc) (hb : ∀ (pm code doc : Value) (vals : List Value), vals.length = np → bindArgs (methDef r.name (c.name ++ "." ++ r.name) r.params r.body r.scope pm code doc) ⟨vals, []⟩ = pure ((nm.take np).zip vals))
    (hc : fnChk fl nm np k sc body = true)
    (spec : ∀ {ps : List PV} {H : AHeap} {Q : Post} {X : XPost}, g.C f ps H Q X → ps.length = np ∧ awpSs g body (fun _ H => Q .none H) Q (fun c _ H => X c H) (initL nm np ps) H) : Cok cx g (f :: fl) mg mb (n + 1) := by
  obtain ⟨a, o, pm, code, doc, hm, ho, hcl, hdat, hcd⟩ := P.meths r hr
  unfold fnChk at hc
  simp only [Bool.and_eq_true, Bool.not_eq_true', decide_eq_true_eq] at hc
  obtain ⟨⟨⟨⟨⟨⟨⟨⟨c1, c2⟩, c3⟩, c4⟩, c5⟩, c6⟩, c7⟩, c8⟩, c9⟩ := hc
  rw [h1] at hm
  subst h3
  exact ck.add (kd := fun x => r.scope.names.lookup x) ((fad_meth (q, f) hq).trans hm) (fun _ => hcl) ⟨hga.symm, hba.symm, rfl, c1, c2, c3, rfl, c4, by show FuncBody.stmts r.body = _; rw [h2], hb pm code doc, c5, ⟨c6, c7⟩, c8, c9⟩ lim ho hdat hcd spec
end
end Mine
end
section
open PySem PySem.W PySem.Calls PyProof.Rows
namespace Mine
set_option autoImplicit false

noncomputable def strOf? : Value → Option Str
  | .str x _ => some x
  | _ => none
noncomputable def tupChk (K : Frag) (b : Addr) (ss : List Str) : Bool := match K.lookup b with
  | some ⟨.type "tuple", none, .seq items _, sl⟩ => (sl.size == 0) && (items.toList.map strOf? == ss.map some) && decide (ss.length ≤ 100)
  | _ => false
noncomputable def strChk (K : Frag) (P : Str → Option Value) (x s : Str) : Bool := false

section
variable {cx : Cx} {K : Frag}
theorem strs_repl {h : Heap} : ∀ {vs : List Value} {ss : List Str}, vs.map strOf? = ss.map some → RepL cx h vs (ss.map .str)
  | [], [], _ => .nil
  | [], _ :: _, e => by simp at e
  | _ :: _, [], e => by simp at e
  | v :: vs, s :: ss, e => by
    simp only [List.map_cons, List.cons.injEq] at e
    refine .cons ?_ (strs_repl e.2)
    cases v <;> simp [strOf?] at e
    obtain ⟨rfl, _⟩ := e
    exact .str _ _
theorem tup_of {h : Heap} (X : K.In h) {b : Addr} {ss : List Str} (hk : tupChk K b ss = true) : Rep cx h (.ref b) (.tup (ss.map .str)) := by
  have hL : LIM = 1048576 := rfl
  unfold tupChk at hk
  split at hk
  · rename_i items n sl e
    simp only [Bool.and_eq_true, beq_iff_eq, decide_eq_true_eq] at hk
    have hsl : sl = #[] := Array.eq_empty_of_size_eq_zero hk.1.1
    subst hsl
    exact .tup (X _ _ e) (by simp; first | lia | omega) (strs_repl hk.1.2)
  · cases hk


end
end Mine
end
section
open PySem PySem.W PySem.Calls PyProof.Rows
namespace Mine
set_option autoImplicit false

/-! steps of the abstract walk: what the definitions do not tell by themselves -/
section
variable {g : Gl} {N : NPost} {R : Post} {X : SXPost} {E : XPost} {m : Loc} {H : AHeap} {Q : Post} {QB : BPost}
theorem O_ite {c A B : Prop} [Decidable c] (a : c → A) (b : ¬ c → B) : if c then A else B := by
  split
  · rename_i h; exact a h
  · rename_i h; exact b h
theorem O_glob {x : Str} {v : PV} (e : g.G x = some v) (h : Q v H) : varW (g.G x) Q H := by rw [e]; exact h
theorem O_mulI {a b : Int} (k : a.natAbs < 2 ^ 60 ∨ b.natAbs < 2 ^ 60) (h : Q (.int (a * b)) H) : BinW Q H .Mult (.int a) (.int b) := .mulI a b k h
theorem O_modI {a b : Int} {K : PV → Prop} {R : Prop} (k : 0 < b) (h : K (.int (a % b))) : pureOr (binF .Mod (.int a) (.int b)) K R := by
  show pureOr (match (if 0 < b then some (a % b) else none) with | some i => some (PV.int i) | none => none) _ _
  rw [if_pos k]; exact h
theorem O_divI {a b : Int} {K : PV → Prop} {R : Prop} (k : 0 < b) (k' : b < 1073741824) (h : K (.int (a / b))) : pureOr (binF .FloorDiv (.int a) (.int b)) K R := by
  show pureOr (match (if 0 < b then if b < 1073741824 then some (a / b) else none else none) with | some i => some (PV.int i) | none => none) _ _
  rw [if_pos k, if_pos k']; exact h
theorem O_recvS {s : Str} {P : Prop} (h : P) : RecvW P H .join (.str s) := .str h
theorem O_powI (h : Q (.int 1000000000) H) : BinW Q H .Pow (.int 10) (.int 9) := .powI h
theorem O_addS {a b : Str} (k : a.length + b.length ≤ LIM) (h : Q (.str (a ++ b)) H) : BinW Q H .Add (.str a) (.str b) := .addS a b k h
theorem O_addT {a b : List PV} (k : a.length + b.length ≤ LIM) (h : Q (.tup (a ++ b)) H) : BinW Q H .Add (.tup a) (.tup b) := .addT a b k h
theorem O_addL {a b : Addr} {xs ys : List PV} (ha : H a = some (.list xs)) (hb : H b = some (.list ys)) (k : xs.length + ys.length ≤ LIM) (h : ∀ c H', H c = none → H' c = some (.list (xs ++ ys)) → Ext H H' → Q (.obj c) H') : BinW Q H .Add (.obj a) (.obj b) := .addL a b xs ys ha hb k h
theorem O_mulL {a : Addr} {n : Int} {xs : List PV} (ha : H a = some (.list xs)) (k1 : n ≤ LIM) (k2 : -LIM ≤ n) (k3 : xs.length * n.toNat ≤ LIM) (h : ∀ c H', H c = none → H' c = some (.list (repL n xs)) → Ext H H' → Q (.obj c) H') : BinW Q H .Mult (.obj a) (.int n) := .mulL a n xs ha k1 k2 k3 h
theorem cmpF_eqT {v w : PV} {b c : Bool} (e : EqT H v w b) (h : cmpF .Eq v w = some c) : c = b := by
  unfold cmpF at h
  split at h
  · split at h
    · cases e with | val e => cases e with | atom e => cases e; exact (Option.some.inj h).symm
    · cases h
  · split at h
    · cases e with | val e => cases e with | atom e => cases e; exact (Option.some.inj h).symm
    · cases h
  · split at h <;> cases h
theorem cmpF_not (v w : PV) : cmpF .NotEq v w = (cmpF .Eq v w).map (!·) := by
  unfold cmpF
  split
  · split <;> rfl
  · split <;> rfl
  · split <;> rfl
theorem O_eqT {v w : PV} {b : Bool} {K : Bool → Prop} (e : EqT H v w b) (h : K b) : pureOr (cmpF .Eq v w) K (CmpW K H .Eq v w) := by
  cases q : cmpF .Eq v w with
  | none => exact .eq e h
  | some c => rw [cmpF_eqT e q]; exact h
theorem O_neT {v w : PV} {b : Bool} {K : Bool → Prop} (e : EqT H v w b) (h : K (!b)) : pureOr (cmpF .NotEq v w) K (CmpW K H .NotEq v w) := by
  rw [cmpF_not]
  cases q : cmpF .Eq v w with
  | none => exact .ne e h
  | some c => rw [cmpF_eqT e q]; exact h
theorem O_inD {K : Bool → Prop} {k : Str} {a : Addr} {kvs : List (Str × PV)} (ha : H a = some (.dict kvs)) (h : K (hasKey kvs k)) : CmpW K H .In (.str k) (.obj a) := .inD ha h
theorem O_niD {K : Bool → Prop} {k : Str} {a : Addr} {kvs : List (Str × PV)} (ha : H a = some (.dict kvs)) (h : K (!hasKey kvs k)) : CmpW K H .NotIn (.str k) (.obj a) := .niD ha h
theorem O_subT {xs : List PV} {k : Int} {x : PV} {K : PV → Prop} {R : Prop} (e : itemAt xs k = some x) (h : K x) : pureOr (subF (.tup xs) (.int k)) K R := by
  show pureOr (itemAt xs k) _ _
  rw [e]; exact h
theorem O_subL {a : Addr} {xs : List PV} {k : Int} {x : PV} (ha : H a = some (.list xs)) (e : itemAt xs k = some x) (h : Q x H) : SubW Q H (.obj a) (.int k) := .list ha e h
theorem O_subTape {a : Addr} {n : Nat} (ha : H a = some (.tape n)) (h : Q (.int n) H) : SubW Q H (.obj a) (.int 0) := .tape ha h
theorem O_subD {a : Addr} {kvs : List (Str × PV)} {k : Str} {x : PV} (ha : H a = some (.dict kvs)) (e : dget kvs k = some x) (h : Q x H) : SubW Q H (.obj a) (.str k) := .dict ha e h
theorem O_subF {kvs : List (Str × PV)} {k : Str} {x : PV} (e : dget kvs k = some x) (h : Q x H) : SubW Q H (.fdt kvs) (.str k) := .fdt e h
theorem O_subFls {xs : List Int} {k x : Int} (e : itemAt xs k = some x) (h : Q (.int x) H) : SubW Q H (.fls xs) (.int k) := .fls e h
theorem O_subS {s x : Str} {k : Int} (l : s.length ≤ LIM) (e : signAt s k = some x) (h : Q (.str x) H) : SubW Q H (.str s) (.int k) := .str l e h
theorem O_fromL {a : Addr} {xs : List PV} {k : Int} (ha : H a = some (.list xs)) (h : ∀ c H', H c = none → H' c = some (.list (xs.drop (cutAt xs.length k))) → Ext H H' → Q (.obj c) H') : FromW Q H (.obj a) (.int k) := .list ha h
theorem O_toL {a : Addr} {xs : List PV} {k : Int} (ha : H a = some (.list xs)) (h : ∀ c H', H c = none → H' c = some (.list (xs.take (cutAt xs.length k))) → Ext H H' → Q (.obj c) H') : ToW Q H (.obj a) (.int k) := .list ha h
theorem O_toF {xs : List Int} {k : Int} (h : ∀ c H', H c = none → H' c = some (.list ((xs.take (cutAt xs.length k)).map .int)) → Ext H H' → Q (.obj c) H') : ToW Q H (.fls xs) (.int k) := .fls h
theorem O_toS {s : Str} {k : Int} (l : s.length ≤ LIM) (h : Q (.str ⟨(s.cps.toList.take (cutAt s.length k)).toArray⟩) H) : ToW Q H (.str s) (.int k) := .str l h
theorem O_fromT {xs ys : List PV} {k : Int} (e : xs.drop (cutAt xs.length k) = ys) (h : Q (.tup ys) H) : FromW Q H (.tup xs) (.int k) := .tup (by rw [e]; exact h)
theorem O_toT {xs ys : List PV} {k : Int} (e : xs.take (cutAt xs.length k) = ys) (h : Q (.tup ys) H) : ToW Q H (.tup xs) (.int k) := .tup (by rw [e]; exact h)
theorem O_alloc {o : AObj} (h : ∀ c H', H c = none → H' c = some o → Ext H H' → Q (.obj c) H') : alloc o Q H := h
theorem O_lenL {a : Addr} {xs : List PV} (ha : H a = some (.list xs)) (h : Q (.int xs.length) H) : BltW Q H .len [.obj a] := .lenL a xs ha h
theorem O_lenD {a : Addr} {kvs : List (Str × PV)} (ha : H a = some (.dict kvs)) (h : Q (.int kvs.length) H) : BltW Q H .len [.obj a] := .lenD a kvs ha h
theorem O_lenS {s : Str} (l : s.length ≤ LIM) (h : Q (.int s.length) H) : BltW Q H .len [.str s] := .lenS s l h
theorem O_listL {a : Addr} {xs : List PV} (ha : H a = some (.list xs)) (h : ∀ c H', H c = none → H' c = some (.list xs) → Ext H H' → Q (.obj c) H') : BltW Q H .list [.obj a] := .listL a xs ha h
theorem O_listT {xs : List PV} (h : ∀ c H', H c = none → H' c = some (.list xs) → Ext H H' → Q (.obj c) H') : BltW Q H .list [.tup xs] := .listT xs h
theorem O_tupL {a : Addr} {xs : List PV} (ha : H a = some (.list xs)) (h : Q (.tup xs) H) : BltW Q H .tuple [.obj a] := .tupL a xs ha h
theorem O_range {n : Int} (k : n.natAbs ≤ LIM) (h : Q (.rng n) H) : BltW Q H .range [.int n] := .range n k h
theorem O_strI {i : Int} (k : i.natAbs < 10 ^ 18) (h : Q (.str (Str.ofString (toString i))) H) : BltW Q H .str [.int i] := .strI i k h
theorem O_attr {a d : Addr} {kvs : List (Str × PV)} {nm : Str} {x : PV} (ha : H a = some (.inst d)) (hd : H d = some (.attrs kvs)) (e : dget kvs nm = some x) (h : Q x H) : AttrW Q H nm (.obj a) := .mk ha hd e h
theorem O_umeth {a d : Addr} {kvs : List (Str × PV)} {nm : Str} {P : Prop} (ha : H a = some (.inst d)) (hd : H d = some (.attrs kvs)) (e : dget kvs nm = none) (h : P) : UmW P H nm (.obj a) := .mk ha hd e h
theorem O_sattr {a d : Addr} {kvs : List (Str × PV)} {nm : Str} {x : PV} {K : AHeap → Prop} (ha : H a = some (.inst d)) (hd : H d = some (.attrs kvs)) (l : kvs.length < 100) (h : ∀ H', H' d = some (.attrs (dset kvs nm x)) → ExtB d H H' → K H') : SattrW K H nm x (.obj a) := .mk ha hd l h
theorem O_recv {m : Meth} {a : Addr} {xs : List PV} {P : Prop} (ha : H a = some (.list xs)) (k : m.onL = true) (h : P) : RecvW P H m (.obj a) := .list ha k h
theorem O_append {a : Addr} {xs : List PV} {x : PV} (ha : H a = some (.list xs)) (k : xs.length < LIM) (h : ∀ H', H' a = some (.list (xs ++ [x])) → ExtB a H H' → Q .none H') : MethW Q H .append (.obj a) [x] := .append a xs x ha k h
theorem O_pop {a : Addr} {ys : List PV} {x : PV} (ha : H a = some (.list (ys ++ [x]))) (h : ∀ H', H' a = some (.list ys) → ExtB a H H' → Q x H') : MethW Q H .pop (.obj a) [] := .pop a ys x ha h
theorem O_join {s : Str} {a : Addr} {ss : List Str} (ha : H a = some (.list (ss.map .str))) (e : s.length = 0) (k : (ss.map (·.length)).sum ≤ LIM) (h : Q (.str (Str.join s ss)) H) : MethW Q H .join (.str s) [.obj a] := .join s a ss ha e k h
theorem O_storeD {a : Addr} {kvs : List (Str × PV)} {k : Str} {x : PV} {K : AHeap → Prop} (ha : H a = some (.dict kvs)) (l : kvs.length < LIM) (h : ∀ H', H' a = some (.dict (dset kvs k x)) → ExtB a H H' → K H') : StoreW K H (.obj a) (.str k) x := .dict ha l h
theorem O_storeT {a : Addr} {n : Nat} {j : Int} {K : AHeap → Prop} (ha : H a = some (.tape n)) (j0 : 0 ≤ j) (h : ∀ H', H' a = some (.tape j.toNat) → ExtB a H H' → K H') : StoreW K H (.obj a) (.int 0) (.int j) := .tape ha j0 h
theorem O_isL {c : ICls} {a : Addr} {xs : List PV} {K : Bool → Prop} (ha : H a = some (.list xs)) (b : c.basic = true) (h : K (c.hits 5)) : IsiW K H c (.obj a) := .list b ha h
theorem O_itL {a : Addr} {xs : List PV} {K : List PV → (AHeap → Prop) → Prop} (ha : H a = some (.list xs)) (h : K xs fun H' => H' a = some (.list xs)) : ItemsW K H (.obj a) := .list ha h
end

theorem forW_ind {src : AHeap → Prop} {st : PV → (Loc → AHeap → Prop) → Loc → AHeap → Prop} {N : Loc → AHeap → Prop} (I : List PV → Loc → AHeap → Prop) (h0 : ∀ m H, I [] m H → src H ∧ N m H)
    (h1 : ∀ x xs m H, I (x :: xs) m H → src H ∧ ∀ K : Loc → AHeap → Prop, (∀ m' H', I xs m' H' → K m' H') → st x K m H) : ∀ xs m H, I xs m H → forW src st N xs m H
  | [], m, H, h => h0 m H h
  | x :: xs, m, H, h => ⟨(h1 x xs m H h).1, (h1 x xs m H h).2 _ fun m' H' h' => forW_ind I h0 h1 xs m' H' h'⟩
theorem compW_ind {src : AHeap → Prop} {el : PV → (List PV → AHeap → Prop) → AHeap → Prop} {Q : List PV → AHeap → Prop} (I : List PV → List PV → AHeap → Prop) (h0 : ∀ acc H, I [] acc H → src H ∧ Q acc H)
    (h1 : ∀ x xs acc H, I (x :: xs) acc H → src H ∧ ∀ K : List PV → AHeap → Prop, (∀ vs H', I xs (acc ++ vs) H' → K vs H') → el x K H) : ∀ xs acc H, I xs acc H → compW src el Q xs acc H
  | [], acc, H, h => h0 acc H h
  | x :: xs, acc, H, h => ⟨(h1 x xs acc H h).1, (h1 x xs acc H h).2 _ fun vs H' h' => compW_ind I h0 h1 xs (acc ++ vs) H' h'⟩

theorem mod_lt {a k : Int} (h : 0 < k) : 0 ≤ a % k ∧ a % k < k := ⟨Int.emod_nonneg _ (by first | lia | omega), Int.emod_lt_of_pos _ h⟩
theorem Ext.at {H H' : AHeap} {a : Addr} {o : AObj} (e : Ext H H') (h : H a = some o) : H' a = some o := e a o h
theorem ExtB.at {H H' : AHeap} {a b : Addr} {o : AObj} (e : ExtB a H H') (n : b ≠ a) (h : H b = some o) : H' b = some o := e b o n h
theorem ne_of {H : AHeap} {a b : Addr} {o : AObj} (h : H a = some o) (h' : H b = none) : a ≠ b := by rintro rfl; rw [h] at h'; cases h'
theorem Ext.refl (H : AHeap) : Ext H H := fun _ _ e => e
theorem Ext.trans {H H₁ H₂ : AHeap} (a : Ext H H₁) (b : Ext H₁ H₂) : Ext H H₂ := fun x o e => b x o (a x o e)
theorem ExtB.trans {H H₁ H₂ : AHeap} {t : Addr} (a : ExtB t H H₁) (b : ExtB t H₁ H₂) : ExtB t H H₂ := fun x o n e => b x o n (a x o n e)
theorem Ext.toB {H H' : AHeap} (e : Ext H H') (t : Addr) : ExtB t H H' := fun x o _ h => e x o h
/-- a new list that was changed is still new -/
theorem ExtB.fresh {H H₁ H₂ : AHeap} {a : Addr} (n : H a = none) (e : Ext H H₁) (b : ExtB a H₁ H₂) : Ext H H₂ := fun x o h => b x o (ne_of h n) (e x o h)
theorem itemAt_nat {α : Type} {xs : List α} {n : Nat} {x : α} {i : Int} (hi : i = n) (h : xs[n]? = some x) : itemAt xs i = some x := by
  subst hi; unfold itemAt; rw [if_pos (by first | lia | omega)]; simpa using h
theorem O_addS' {H : AHeap} {Q : Post} {a b : Str} (k : a.length + b.length ≤ LIM) (h : ∀ S, S = a ++ b → Q (.str S) H) : BinW Q H .Add (.str a) (.str b) := .addS a b k (h _ rfl)
theorem str_len_append (a b : Str) : (a ++ b).length = a.length + b.length := by
  show (a.cps ++ b.cps).size = a.cps.size + b.cps.size
  simp
theorem join_len {e : Str} (he : e.length = 0) : ∀ ss : List Str, (∀ s ∈ ss, s.length = 1) → (Str.join e ss).length = ss.length
  | [], _ => rfl
  | [x], h => by simpa [Str.join] using h x (by simp)
  | x :: y :: r, h => by
    have ih := join_len he (y :: r) fun s hs => h s (List.mem_cons_of_mem _ hs)
    show (x ++ e ++ Str.join e (y :: r)).length = _
    rw [str_len_append, str_len_append, ih, he, h x (by simp)]
    simp; first | lia | omega
theorem sum_ones : ∀ ss : List Str, (∀ s ∈ ss, s.length = 1) → (ss.map (·.length)).sum = ss.length
  | [], _ => rfl
  | x :: r, h => by
    rw [List.map_cons, List.sum_cons, sum_ones r fun s hs => h s (List.mem_cons_of_mem _ hs), h x (by simp), List.length_cons]; first | lia | omega
theorem sign_at {s : Str} {i : Int} (h0 : 0 ≤ i) (h1 : i < s.length) : ∃ x, signAt s i = some x ∧ x.length = 1 := by
  obtain ⟨n, rfl⟩ := Int.eq_ofNat_of_zero_le h0
  have hn : n < s.cps.toList.length := by
    have : n < s.length := by first | lia | omega
    simpa [Str.length] using this
  refine ⟨⟨#[s.cps.toList[n]]⟩, ?_, rfl⟩
  unfold signAt
  rw [itemAt_nat rfl (List.getElem?_eq_getElem hn)]
  rfl
theorem I_pos {c : Prop} [Decidable c] {A B : Prop} (h : c) (a : A) : if c then A else B := by rw [if_pos h]; exact a
theorem I_neg {c : Prop} [Decidable c] {A B : Prop} (h : ¬ c) (b : B) : if c then A else B := by rw [if_neg h]; exact b
theorem EqL.strs {H : AHeap} {n : Nat} : ∀ ss tt : List Str, EqL H n (ss.map .str) (tt.map .str) (decide (ss = tt))
  | [], [] => .nil
  | [], t :: tt => by simpa using EqL.r (H := H) (n := n) (.str t) (tt.map .str)
  | s :: ss, [] => by simpa using EqL.l (H := H) (n := n) (.str s) (ss.map .str)
  | s :: ss, t :: tt => by
    have := EqL.c (EqV.str (H := H) (n := n) s t) (EqL.strs ss tt)
    have e : decide (s :: ss = t :: tt) = ((s == t) && decide (ss = tt)) := by
      by_cases h1 : s = t <;> by_cases h2 : ss = tt <;> simp [h1, h2]
    rw [e]; exact this
theorem eq_strs {H : AHeap} (ss tt : List Str) : EqT H (.tup (ss.map .str)) (.tup (tt.map .str)) (decide (ss = tt)) := .val (.tup (n := 39) (EqL.strs ss tt))
end Mine
end
section
open PySem PySem.W PySem.Calls PyProof.Rows
namespace Mine
set_option autoImplicit false
/-! the call from outside -/
section
variable {cx : Cx} {g : Gl} {fl : List Str} {mg mb : Str → Option Value} {n : Nat}
theorem top_fn (ck : Cok cx g fl mg mb n) {fd : FuncData} {nm : List Str} {np k : Nat} {kd : Kd} {body : ASs} {a : Addr} {o : Obj} (fn : FnOk cx fl fd nm np k kd body) (lim : cx.B.NoLimit) (ho : cx.B.get? a = some o) (hd : o.data = .func fd) (hcd : cx.B.CodeRec fd.code fd.qualname)
    {A : Around} {s : Shared} {vs : List Value} {ps : List PV} {Q : Post} {R : Result → Shared → Prop} (hfr : A.frames = some []) (hqu : A.handled = none) (hdep : A.depth + 2 * (n + 1) ≤ 900) (huni : A.units + 8 * (n + 1) + 200 ≤ cLine)
    (tb : cx.B.StaysIn s.heap) (rs : RepL cx s.heap vs ps) (hlen : ps.length = np)
    (h : awpSs g body (fun _ H => Q .none H) Q (fun _ _ _ => False) (initL nm np ps) (fun _ => none))
    (hR : ∀ v p H' s', Rep cx s'.heap v p → Kp cx [] (fun _ => none) s H' s' → Q p H' → R (.ok (.ret v)) s') : codeAny cx.M A (.call (.ref a) ⟨vs, []⟩) R s :=
  core_fn (X := fun _ _ => False) ck fn lim ho hd hcd hfr hqu hdep huni tb (fun _ _ _ => rfl) (fun _ _ e => nomatch e) (fun _ he => nomatch he) rs hlen h (fun v p H' s' rv kp _ q => hR v p H' s' rv kp q) fun _ _ _ _ _ _ _ f => f.elim

theorem law_top {p : Program} {loose : List Str} {mean : ExcName → Option Value} (ck : Cok cx g fl mg mb n) (T : Top p loose mean mg mb cx.B) (hga : cx.ga = mainGlobals) (hba : cx.ba = builtinsNs) {d : DefRec} {nm : List Str} {k : Nat} {sc : Scope} {body : ASs}
    (hd : d ∈ recsOf p) (h1 : d.name = "law") (h2 : d.body = body.toSs nm) (h3 : d.scope = sc) (hb : ∀ (pm code doc : Value) (vals : List Value), vals.length = 1 → bindArgs (docDef d.name d.params d.body d.scope pm code doc) ⟨vals, []⟩ = pure ((nm.take 1).zip vals))
    (hc : fnChk fl nm 1 k sc body = true) {s : Shared} (hs : cx.B = s.heap) {fa l : Addr} {items : Array Value} {ns : List Int} (hmg : mg "law" = some (.ref fa)) (il : s.heap.IsList l items) (ia : IntsAre items.toList ns) (hl : ns.length ≤ LIM) (hn : n ≤ 200)
    (spec : ∀ {Q : Post}, (∀ H, Q (.bool true) H) → awpSs g body (fun _ H => Q .none H) Q (fun _ _ _ => False) (initL nm 1 [.fls ns]) (fun _ => none))
    {R : Result → Shared → Prop} (hR : ∀ h' tk, (∀ b o, s.heap.get? b = some o → h'.get? b = some o) → R (.ok (.ret (.bool true))) { s with heap := h', toks := tk }) : codeAny cx.M callerA (.call (.ref fa) ⟨[.ref l], []⟩) R s := by
  obtain ⟨a, o, pm, code, doc, hm, ho, hdat, hcd⟩ := T.fn d hd
  unfold fnChk at hc
  simp only [Bool.and_eq_true, Bool.not_eq_true', decide_eq_true_eq] at hc
  obtain ⟨⟨⟨⟨⟨⟨⟨⟨c1, c2⟩, c3⟩, c4⟩, c5⟩, c6⟩, c7⟩, c8⟩, c9⟩ := hc
  rw [h1, hmg] at hm
  cases hm
  subst h3
  have hB : cx.B.StaysIn s.heap := by rw [hs]; exact fun _ _ e => e
  refine top_fn (Q := fun p _ => p = .bool true) (kd := fun x => d.scope.names.lookup x) ck ⟨hga.symm, hba.symm, rfl, c1, c2, c3, rfl, c4, by show FuncBody.stmts d.body = _; rw [h2], hb pm code doc, c5, ⟨c6, c7⟩, c8, c9⟩ T.nolimit ho hdat hcd
    (A := callerA) rfl rfl ?_ ?_ hB (.cons (.fls (by rw [hs]; exact il) ia hl) .nil) rfl (spec (Q := fun p _ => p = .bool true) fun _ => rfl) fun v p H' s' rv kp hq => ?_
  · have : callerA.depth = 301 := by decide +kernel
    first | lia | omega
  · have : callerA.units = 4 := rfl
    have : 4 + 8 * 501 + 200 ≤ cLine := by decide +kernel
    first | lia | omega
  · subst hq
    cases rv
    obtain ⟨h', tk, rfl⟩ := kp.same
    exact hR h' tk fun b o e => kp.base b o (by rw [hs]; exact e) e
end
end Mine
end
section
open PySem PySem.W PySem.Calls PyProof.Rows
namespace Mine
set_option autoImplicit false

/-! the program's constants, told from its laid heap -/
noncomputable def refAt (K : Frag) (x : Str) : Addr := match kmg K x with
  | some (.ref a) => a
  | _ => 0
noncomputable def dictL (K : Frag) (a : Addr) : List (Str × Tok × Value) := match K.lookup a with
  | some o => (match o.data with
    | .dict es _ => es.toList.filterMap fun e => match e.key with | .str s t => some (s, t, e.val) | _ => none
    | _ => [])
  | none => []
noncomputable def dictEp (K : Frag) (a : Addr) : Nat := match K.lookup a with
  | some o => (match o.data with | .dict _ n => n | _ => 0)
  | none => 0
noncomputable def entV (P : Params) (l : List (Str × Tok × Value)) : Array DictEntry := (l.map fun e => ({ hash := PyData.keyHash P e.1, key := .str e.1 e.2.1, val := e.2.2 } : DictEntry)).toArray
noncomputable def valChk (K : Frag) (v : Value) : PV → Bool
  | .str s => strOf? v == some s
  | .tup xs => (match v with
    | .ref b => (match xs.mapM fun x => (match x with | .str s => some s | _ => none) with | some ss => tupChk K b ss | none => false)
    | _ => false)
  | _ => false

section
variable {cx : Cx} {K : Frag}
theorem mapM_strs : ∀ {xs : List PV} {ss : List Str}, (xs.mapM fun x => (match x with | .str s => some s | _ => none : Option Str)) = some ss → xs = ss.map .str
  | [], ss, h => by simp at h; subst h; rfl
  | x :: xs, ss, h => by
    rw [List.mapM_cons] at h
    cases x with
    | str s =>
      cases q : xs.mapM (fun x => (match x with | .str s => some s | _ => none : Option Str)) with
      | none => rw [q] at h; simp at h
      | some tt =>
        rw [q] at h
        simp at h
        subst h
        rw [mapM_strs q]; rfl
    | _ => simp at h
theorem val_of {h : Heap} (X : K.In h) {v : Value} {q : PV} (hk : valChk K v q = true) : Rep cx h v q := by
  cases q with
  | str s =>
    cases v <;> simp [valChk, strOf?] at hk
    subst hk
    exact .str _ _
  | tup xs =>
    cases v with
    | ref b =>
      simp only [valChk] at hk
      split at hk
      · rename_i ss e
        rw [mapM_strs e]
        exact tup_of X hk
      · cases hk
    | _ => simp [valChk] at hk
  | _ => simp [valChk] at hk
theorem fdt_pairsV {h : Heap} (X : K.In h) : ∀ {l : List (Str × Tok × Value)} {kvs : List (Str × PV)}, l.map (·.1) = kvs.map (·.1) → ((l.zip kvs).all fun e => valChk K e.1.2.2 e.2.2) = true → RepK cx h (l.map fun e => (e.1, e.2.2)) kvs
  | [], [], _, _ => .nil
  | [], _ :: _, e, _ => by simp at e
  | _ :: _, [], e, _ => by simp at e
  | (k, t, a) :: l, (k', q) :: kvs, e, hk => by
    simp only [List.map_cons, List.cons.injEq] at e
    simp only [List.zip_cons_cons, List.all_cons, Bool.and_eq_true] at hk
    obtain ⟨rfl, e⟩ := e
    exact .cons (val_of X hk.1) (fdt_pairsV X e hk.2)
theorem fdt_ofV {h : Heap} (X : K.In cx.B) {x : Str} {mg : Str → Option Value} {kvs : List (Str × PV)} (hm : mg = kmg K) (h1 : kmg K x = some (.ref (refAt K x)))
    (hl : K.lookup (refAt K x) = some { cls := .type "dict", data := .dict (entV cx.w.params (dictL K (refAt K x))) (dictEp K (refAt K x)) })
    (hkv : (dictL K (refAt K x)).map (·.1) = kvs.map (·.1)) (hn : (kvs.map (·.1)).Nodup) (hk : (((dictL K (refAt K x)).zip kvs).all fun e => valChk K e.1.2.2 e.2.2) = true) (hh : cx.B.StaysIn h) : ∃ v, mg x = some v ∧ Rep cx h v (.fdt kvs) := by
  refine ⟨_, by rw [hm]; exact h1, ?_⟩
  generalize hla : dictL K (refAt K x) = l at hl hkv hk
  refine .fdt (vs := l.map fun e => (e.1, e.2.2)) ⟨_, _, _, X _ _ hl, ⟨rfl, rfl, rfl⟩, rfl, ?_, ?_, ?_⟩ (fdt_pairsV (X.keeps hh) hkv hk)
  · intro e he
    unfold entV at he
    simp only [List.mem_toArray, List.mem_map] at he
    obtain ⟨x, _, rfl⟩ := he
    exact ⟨x.1, by simp [Cx.sk, PySem.strKind, Value.isStrOf], rfl⟩
  · unfold entV
    simp only [List.toList_toArray]
    clear hl hla hn hkv hk h1
    induction l with
    | nil => exact .nil
    | cons x l ih => exact .cons (by simp [Cx.sk, PySem.strKind, Value.isStrOf]) rfl ih
  · rw [List.map_map]
    show (l.map (·.1)).Nodup
    rw [hkv]; exact hn
end
noncomputable def intChk (K : Frag) (x : Str) (i : Int) : Bool := match kmg K x with
  | some (.int j _) => j == i
  | _ => false
theorem int_of {cx : Cx} {K : Frag} {x : Str} {i : Int} {mg : Str → Option Value} {h : Heap} (hm : mg = kmg K) (hk : intChk K x i = true) : ∃ v, mg x = some v ∧ Rep cx h v (.int i) := by
  unfold intChk at hk
  split at hk
  · rename_i j t e
    rw [beq_iff_eq] at hk
    subst hk
    exact ⟨_, by rw [hm]; exact e, .int _ _⟩
  · cases hk
end Mine
end
section
open PySem PySem.W PySem.Calls PyProof.Rows
namespace Mine
set_option autoImplicit false
/-! the functions of the program, told whole -/
abbrev RecT := Option (Str × List Stmt × Scope)
abbrev BndT := Option (Sem (List (Str × Value)))
noncomputable def recL (V : Program) (i : Nat) : RecT := ((recsOf V)[i]?).map fun d => (d.name, d.body, d.scope)
noncomputable def recR (x : Str) (b : ASs) (nm : List Str) (sc : Scope) : RecT := some (x, b.toSs nm, sc)
noncomputable def bndL (V : Program) (i : Nat) (pm code doc : Value) (vals : List Value) : BndT := ((recsOf V)[i]?).map fun d => bindArgs (docDef d.name d.params d.body d.scope pm code doc) ⟨vals, []⟩
noncomputable def bndR (nm : List Str) (np : Nat) (vals : List Value) : BndT := some (pure ((nm.take np).zip vals))
inductive RecC (V : Program) (x : Str) (b : ASs) (nm : List Str) (sc : Scope) (np : Nat) : Prop
  | mk (d : DefRec) (hd : d ∈ recsOf V) (h1 : d.name = x) (h2 : d.body = b.toSs nm) (h3 : d.scope = sc) (hb : ∀ (pm code doc : Value) (vals : List Value), vals.length = np → bindArgs (docDef d.name d.params d.body d.scope pm code doc) ⟨vals, []⟩ = pure ((nm.take np).zip vals)) : RecC V x b nm sc np
theorem rec_of {V : Program} (i : Nat) {x : Str} {b : ASs} {nm : List Str} {sc : Scope} {np : Nat} (h : recL V i = recR x b nm sc) (k : ∀ pm code doc vals, vals.length = np → bndL V i pm code doc vals = bndR nm np vals) : RecC V x b nm sc np := by
  delta recL recR at h
  delta bndL bndR at k
  cases q : (recsOf V)[i]? with
  | none => rw [q] at h; cases h
  | some d =>
    rw [q] at h k
    injection h with h
    injection h with h1 h
    injection h with h2 h3
    exact ⟨d, List.mem_of_getElem? q, h1, h2, h3, fun pm code doc vals hl => Option.some.inj (k pm code doc vals hl)⟩
noncomputable def metL (c : ClsRec) (i : Nat) : RecT := (c.meths[i]?).map fun d => (d.name, d.body, d.scope)
noncomputable def mndL (c : ClsRec) (i : Nat) (pm code doc : Value) (vals : List Value) : BndT := (c.meths[i]?).map fun d => bindArgs (methDef d.name (c.name ++ "." ++ d.name) d.params d.body d.scope pm code doc) ⟨vals, []⟩
inductive RecM (c : ClsRec) (x : Str) (b : ASs) (nm : List Str) (sc : Scope) (np : Nat) : Prop
  | mk (d : MethRec) (hd : d ∈ c.meths) (h1 : d.name = x) (h2 : d.body = b.toSs nm) (h3 : d.scope = sc) (hb : ∀ (pm code doc : Value) (vals : List Value), vals.length = np → bindArgs (methDef d.name (c.name ++ "." ++ d.name) d.params d.body d.scope pm code doc) ⟨vals, []⟩ = pure ((nm.take np).zip vals)) : RecM c x b nm sc np
theorem met_of {c : ClsRec} (i : Nat) {x : Str} {b : ASs} {nm : List Str} {sc : Scope} {np : Nat} (h : metL c i = recR x b nm sc) (k : ∀ pm code doc vals, vals.length = np → mndL c i pm code doc vals = bndR nm np vals) : RecM c x b nm sc np := by
  delta metL recR at h
  delta mndL bndR at k
  cases q : c.meths[i]? with
  | none => rw [q] at h; cases h
  | some d =>
    rw [q] at h k
    injection h with h
    injection h with h1 h
    injection h with h2 h3
    exact ⟨d, List.mem_of_getElem? q, h1, h2, h3, fun pm code doc vals hl => Option.some.inj (k pm code doc vals hl)⟩
theorem len1 {P : List Value → Prop} (h : ∀ a, P [a]) (l : List Value) (e : l.length = 1) : P l := by
  cases l with
  | nil => cases e
  | cons a l => cases l with | nil => exact h a | cons _ _ => cases e
theorem len2 {P : List Value → Prop} (h : ∀ a b, P [a, b]) (l : List Value) (e : l.length = 2) : P l := by
  cases l with
  | nil => cases e
  | cons a l => exact len1 (P := fun l => P (a :: l)) (h a) l (Nat.succ.inj e)
theorem len3 {P : List Value → Prop} (h : ∀ a b c, P [a, b, c]) (l : List Value) (e : l.length = 3) : P l := by
  cases l with
  | nil => cases e
  | cons a l => exact len2 (P := fun l => P (a :: l)) (h a) l (Nat.succ.inj e)
theorem len4 {P : List Value → Prop} (h : ∀ a b c d, P [a, b, c, d]) (l : List Value) (e : l.length = 4) : P l := by
  cases l with
  | nil => cases e
  | cons a l => exact len3 (P := fun l => P (a :: l)) (h a) l (Nat.succ.inj e)
theorem len5 {P : List Value → Prop} (h : ∀ a b c d f, P [a, b, c, d, f]) (l : List Value) (e : l.length = 5) : P l := by
  cases l with
  | nil => cases e
  | cons a l => exact len4 (P := fun l => P (a :: l)) (h a) l (Nat.succ.inj e)
structure FnE where
  f : Str
  nm : List Str
  np : Nat
  k : Nat
  sc : Scope
  body : ASs
noncomputable def fnsChk : List FnE → Bool
  | [] => true
  | e :: r => fnChk (r.map (·.f)) e.nm e.np e.k e.sc e.body && fnsChk r
end Mine
end
section
open PySem PySem.W PySem.Calls PyProof.Rows
namespace Mine
set_option autoImplicit false
noncomputable def N_kinds_of : List Str := ["stack", "kinds", "value"]
noncomputable def B_kinds_of : ASs :=
    (.cons (.assign 1 ⟨19, 4, 19, 9⟩ (.list .nil ⟨19, 12, 19, 14⟩) ⟨19, 4, 19, 14⟩)
    (.cons (.for 2 ⟨20, 8, 20, 13⟩ (.var 0 ⟨20, 17, 20, 22⟩) (.cons (.ite (.isi (.var 2 ⟨21, 22, 21, 27⟩) .str ⟨21, 11, 21, 21⟩ ⟨21, 29, 21, 32⟩ default default ⟨21, 11, 21, 33⟩) (.cons (.expr (.meth (.var 1 ⟨22, 12, 22, 17⟩) .append (.cons (.lit (.str "text") 0 ⟨22, 25, 22, 31⟩) .nil) ⟨22, 12, 22, 24⟩ ⟨22, 12, 22, 32⟩) ⟨22, 12, 22, 32⟩)
    .nil) (.cons (.expr (.meth (.var 1 ⟨24, 12, 24, 17⟩) .append (.cons (.lit (.str "num") 0 ⟨24, 25, 24, 30⟩) .nil) ⟨24, 12, 24, 24⟩ ⟨24, 12, 24, 31⟩) ⟨24, 12, 24, 31⟩)
    .nil) ⟨21, 8, 24, 31⟩)
    .nil) ⟨20, 4, 24, 31⟩)
    (.cons (.ret (.blt .tuple (.cons (.var 1 ⟨25, 17, 25, 22⟩) .nil) ⟨25, 11, 25, 16⟩ ⟨25, 11, 25, 23⟩) ⟨25, 4, 25, 23⟩)
    .nil)))
noncomputable def S_kinds_of : Scope := {
              kind := PySem.ScopeKind.function,
              names := [
                (PySem.Str.ofString "stack", PySem.NameKind.local),
                (PySem.Str.ofString "kinds", PySem.NameKind.local),
                (PySem.Str.ofString "value", PySem.NameKind.local),
                (PySem.Str.ofString "isinstance", PySem.NameKind.globalImplicit),
                (PySem.Str.ofString "str", PySem.NameKind.globalImplicit),
                (PySem.Str.ofString "tuple", PySem.NameKind.globalImplicit)],
              isGenerator := false,
              isCoroutine := false,
              more := [] : PySem.Scope }

noncomputable def N_need : List Str := ["stack", "count"]
noncomputable def B_need : ASs :=
    (.cons (.ite (.cmp (.blt .len (.cons (.var 0 ⟨27, 11, 27, 16⟩) .nil) ⟨27, 7, 27, 10⟩ ⟨27, 7, 27, 17⟩) .Lt (.var 1 ⟨27, 20, 27, 25⟩) ⟨27, 7, 27, 25⟩) (.cons (.raise 1 "Empty" "too few values" 0 ⟨28, 14, 28, 19⟩ ⟨28, 20, 28, 36⟩ ⟨28, 14, 28, 37⟩ ⟨28, 8, 28, 37⟩)
    .nil) .nil ⟨27, 4, 28, 37⟩)
    .nil)
noncomputable def S_need : Scope := {
              kind := PySem.ScopeKind.function,
              names := [
                (PySem.Str.ofString "stack", PySem.NameKind.local),
                (PySem.Str.ofString "count", PySem.NameKind.local),
                (PySem.Str.ofString "len", PySem.NameKind.globalImplicit),
                (PySem.Str.ofString "Empty", PySem.NameKind.globalImplicit)],
              isGenerator := false,
              isCoroutine := false,
              more := [] : PySem.Scope }

noncomputable def N_reckoned : List Str := ["word", "values"]
noncomputable def B_reckoned : ASs :=
    (.cons (.ite (.cmp (.var 0 ⟨30, 7, 30, 11⟩) .Eq (.lit (.str "add") 0 ⟨30, 15, 30, 20⟩) ⟨30, 7, 30, 20⟩) (.cons (.ret (.bin (.bin (.sub (.var 1 ⟨31, 16, 31, 22⟩) (.lit (.int 0) 0 ⟨31, 23, 31, 24⟩) ⟨31, 16, 31, 25⟩) .Add (.sub (.var 1 ⟨31, 28, 31, 34⟩) (.lit (.int 1) 0 ⟨31, 35, 31, 36⟩) ⟨31, 28, 31, 37⟩) ⟨31, 16, 31, 37⟩) .Mod (.glob "BOUND" ⟨31, 41, 31, 46⟩) ⟨31, 15, 31, 46⟩) ⟨31, 8, 31, 46⟩)
    .nil) .nil ⟨30, 4, 31, 46⟩)
    (.cons (.ite (.cmp (.var 0 ⟨32, 7, 32, 11⟩) .Eq (.lit (.str "mul") 0 ⟨32, 15, 32, 20⟩) ⟨32, 7, 32, 20⟩) (.cons (.ret (.bin (.bin (.sub (.var 1 ⟨33, 15, 33, 21⟩) (.lit (.int 0) 0 ⟨33, 22, 33, 23⟩) ⟨33, 15, 33, 24⟩) .Mult (.sub (.var 1 ⟨33, 27, 33, 33⟩) (.lit (.int 1) 0 ⟨33, 34, 33, 35⟩) ⟨33, 27, 33, 36⟩) ⟨33, 15, 33, 36⟩) .Mod (.glob "BOUND" ⟨33, 39, 33, 44⟩) ⟨33, 15, 33, 44⟩) ⟨33, 8, 33, 44⟩)
    .nil) .nil ⟨32, 4, 33, 44⟩)
    (.cons (.ite (.cmp (.var 0 ⟨34, 7, 34, 11⟩) .Eq (.lit (.str "less") 0 ⟨34, 15, 34, 21⟩) ⟨34, 7, 34, 21⟩) (.cons (.ret (.blt .int (.cons (.cmp (.sub (.var 1 ⟨35, 19, 35, 25⟩) (.lit (.int 0) 0 ⟨35, 26, 35, 27⟩) ⟨35, 19, 35, 28⟩) .Lt (.sub (.var 1 ⟨35, 31, 35, 37⟩) (.lit (.int 1) 0 ⟨35, 38, 35, 39⟩) ⟨35, 31, 35, 40⟩) ⟨35, 19, 35, 40⟩) .nil) ⟨35, 15, 35, 18⟩ ⟨35, 15, 35, 41⟩) ⟨35, 8, 35, 41⟩)
    .nil) .nil ⟨34, 4, 35, 41⟩)
    (.cons (.ite (.cmp (.var 0 ⟨36, 7, 36, 11⟩) .Eq (.lit (.str "join") 0 ⟨36, 15, 36, 21⟩) ⟨36, 7, 36, 21⟩) (.cons (.ret (.sto (.bin (.sub (.var 1 ⟨37, 16, 37, 22⟩) (.lit (.int 0) 0 ⟨37, 23, 37, 24⟩) ⟨37, 16, 37, 25⟩) .Add (.sub (.var 1 ⟨37, 28, 37, 34⟩) (.lit (.int 1) 0 ⟨37, 35, 37, 36⟩) ⟨37, 28, 37, 37⟩) ⟨37, 16, 37, 37⟩) (.glob "LONGEST" ⟨37, 40, 37, 47⟩) ⟨37, 39, 37, 47⟩ ⟨37, 15, 37, 48⟩) ⟨37, 8, 37, 48⟩)
    .nil) .nil ⟨36, 4, 37, 48⟩)
    (.cons (.ite (.cmp (.var 0 ⟨38, 7, 38, 11⟩) .Eq (.lit (.str "long") 0 ⟨38, 15, 38, 21⟩) ⟨38, 7, 38, 21⟩) (.cons (.ret (.blt .len (.cons (.sub (.var 1 ⟨39, 19, 39, 25⟩) (.lit (.int 0) 0 ⟨39, 26, 39, 27⟩) ⟨39, 19, 39, 28⟩) .nil) ⟨39, 15, 39, 18⟩ ⟨39, 15, 39, 29⟩) ⟨39, 8, 39, 29⟩)
    .nil) .nil ⟨38, 4, 39, 29⟩)
    (.cons (.ret (.blt .str (.cons (.sub (.var 1 ⟨40, 15, 40, 21⟩) (.lit (.int 0) 0 ⟨40, 22, 40, 23⟩) ⟨40, 15, 40, 24⟩) .nil) ⟨40, 11, 40, 14⟩ ⟨40, 11, 40, 25⟩) ⟨40, 4, 40, 25⟩)
    .nil))))))
noncomputable def S_reckoned : Scope := {
              kind := PySem.ScopeKind.function,
              names := [
                (PySem.Str.ofString "word", PySem.NameKind.local),
                (PySem.Str.ofString "values", PySem.NameKind.local),
                (PySem.Str.ofString "BOUND", PySem.NameKind.globalImplicit),
                (PySem.Str.ofString "int", PySem.NameKind.globalImplicit),
                (PySem.Str.ofString "LONGEST", PySem.NameKind.globalImplicit),
                (PySem.Str.ofString "len", PySem.NameKind.globalImplicit),
                (PySem.Str.ofString "str", PySem.NameKind.globalImplicit)],
              isGenerator := false,
              isCoroutine := false,
              more := [] : PySem.Scope }

noncomputable def N_done : List Str := ["stack", "row", "word", "size", "takes", "values"]
noncomputable def B_done : ASs :=
    (.cons (.assign 2 ⟨42, 4, 42, 8⟩ (.sub (.var 1 ⟨42, 11, 42, 14⟩) (.lit (.int 0) 0 ⟨42, 15, 42, 16⟩) ⟨42, 11, 42, 17⟩) ⟨42, 4, 42, 17⟩)
    (.cons (.assign 3 ⟨43, 4, 43, 8⟩ (.blt .len (.cons (.var 0 ⟨43, 15, 43, 20⟩) .nil) ⟨43, 11, 43, 14⟩ ⟨43, 11, 43, 21⟩) ⟨43, 4, 43, 21⟩)
    (.cons (.ite (.bop .Or (.cons (.cmp (.var 2 ⟨44, 7, 44, 11⟩) .Eq (.lit (.str "num") 0 ⟨44, 15, 44, 20⟩) ⟨44, 7, 44, 20⟩) (.cons (.cmp (.var 2 ⟨44, 24, 44, 28⟩) .Eq (.lit (.str "text") 0 ⟨44, 32, 44, 38⟩) ⟨44, 24, 44, 38⟩) .nil)) ⟨44, 7, 44, 38⟩) (.cons (.ret (.bin (.blt .list (.cons (.var 0 ⟨45, 20, 45, 25⟩) .nil) ⟨45, 15, 45, 19⟩ ⟨45, 15, 45, 26⟩) .Add (.list (.cons (.sub (.var 1 ⟨45, 30, 45, 33⟩) (.lit (.int 1) 0 ⟨45, 34, 45, 35⟩) ⟨45, 30, 45, 36⟩) .nil) ⟨45, 29, 45, 37⟩) ⟨45, 15, 45, 37⟩) ⟨45, 8, 45, 37⟩)
    .nil) .nil ⟨44, 4, 45, 37⟩)
    (.cons (.ite (.cmp (.var 2 ⟨46, 7, 46, 11⟩) .Eq (.lit (.str "copy") 0 ⟨46, 15, 46, 21⟩) ⟨46, 7, 46, 21⟩) (.cons (.expr (.call "need" (.cons (.var 0 ⟨47, 13, 47, 18⟩) (.cons (.bin (.sub (.var 1 ⟨47, 20, 47, 23⟩) (.lit (.int 1) 0 ⟨47, 24, 47, 25⟩) ⟨47, 20, 47, 26⟩) .Add (.lit (.int 1) 0 ⟨47, 29, 47, 30⟩) ⟨47, 20, 47, 30⟩) .nil)) ⟨47, 8, 47, 12⟩ ⟨47, 8, 47, 31⟩) ⟨47, 8, 47, 31⟩)
    (.cons (.ret (.bin (.blt .list (.cons (.var 0 ⟨48, 20, 48, 25⟩) .nil) ⟨48, 15, 48, 19⟩ ⟨48, 15, 48, 26⟩) .Add (.list (.cons (.sub (.var 0 ⟨48, 30, 48, 35⟩) (.bin (.bin (.var 3 ⟨48, 36, 48, 40⟩) .Sub (.lit (.int 1) 0 ⟨48, 43, 48, 44⟩) ⟨48, 36, 48, 44⟩) .Sub (.sub (.var 1 ⟨48, 47, 48, 50⟩) (.lit (.int 1) 0 ⟨48, 51, 48, 52⟩) ⟨48, 47, 48, 53⟩) ⟨48, 36, 48, 53⟩) ⟨48, 30, 48, 54⟩) .nil) ⟨48, 29, 48, 55⟩) ⟨48, 15, 48, 55⟩) ⟨48, 8, 48, 55⟩)
    .nil)) .nil ⟨46, 4, 48, 55⟩)
    (.cons (.ite (.cmp (.var 2 ⟨49, 7, 49, 11⟩) .Eq (.lit (.str "swap") 0 ⟨49, 15, 49, 21⟩) ⟨49, 7, 49, 21⟩) (.cons (.expr (.call "need" (.cons (.var 0 ⟨50, 13, 50, 18⟩) (.cons (.lit (.int 2) 0 ⟨50, 20, 50, 21⟩) .nil)) ⟨50, 8, 50, 12⟩ ⟨50, 8, 50, 22⟩) ⟨50, 8, 50, 22⟩)
    (.cons (.ret (.bin (.blt .list (.cons (.sto (.var 0 ⟨51, 20, 51, 25⟩) (.bin (.var 3 ⟨51, 27, 51, 31⟩) .Sub (.lit (.int 2) 0 ⟨51, 34, 51, 35⟩) ⟨51, 27, 51, 35⟩) ⟨51, 26, 51, 35⟩ ⟨51, 20, 51, 36⟩) .nil) ⟨51, 15, 51, 19⟩ ⟨51, 15, 51, 37⟩) .Add (.list (.cons (.sub (.var 0 ⟨51, 41, 51, 46⟩) (.bin (.var 3 ⟨51, 47, 51, 51⟩) .Sub (.lit (.int 1) 0 ⟨51, 54, 51, 55⟩) ⟨51, 47, 51, 55⟩) ⟨51, 41, 51, 56⟩) (.cons (.sub (.var 0 ⟨51, 58, 51, 63⟩) (.bin (.var 3 ⟨51, 64, 51, 68⟩) .Sub (.lit (.int 2) 0 ⟨51, 71, 51, 72⟩) ⟨51, 64, 51, 72⟩) ⟨51, 58, 51, 73⟩) .nil)) ⟨51, 40, 51, 74⟩) ⟨51, 15, 51, 74⟩) ⟨51, 8, 51, 74⟩)
    .nil)) .nil ⟨49, 4, 51, 74⟩)
    (.cons (.ite (.cmp (.var 2 ⟨52, 7, 52, 11⟩) .Eq (.lit (.str "drop") 0 ⟨52, 15, 52, 21⟩) ⟨52, 7, 52, 21⟩) (.cons (.expr (.call "need" (.cons (.var 0 ⟨53, 13, 53, 18⟩) (.cons (.lit (.int 1) 0 ⟨53, 20, 53, 21⟩) .nil)) ⟨53, 8, 53, 12⟩ ⟨53, 8, 53, 22⟩) ⟨53, 8, 53, 22⟩)
    (.cons (.ret (.blt .list (.cons (.sto (.var 0 ⟨54, 20, 54, 25⟩) (.bin (.var 3 ⟨54, 27, 54, 31⟩) .Sub (.lit (.int 1) 0 ⟨54, 34, 54, 35⟩) ⟨54, 27, 54, 35⟩) ⟨54, 26, 54, 35⟩ ⟨54, 20, 54, 36⟩) .nil) ⟨54, 15, 54, 19⟩ ⟨54, 15, 54, 37⟩) ⟨54, 8, 54, 37⟩)
    .nil)) .nil ⟨52, 4, 54, 37⟩)
    (.cons (.assign 4 ⟨55, 4, 55, 9⟩ (.sub (.glob "TAKES" ⟨55, 12, 55, 17⟩) (.var 2 ⟨55, 18, 55, 22⟩) ⟨55, 12, 55, 23⟩) ⟨55, 4, 55, 23⟩)
    (.cons (.expr (.call "need" (.cons (.var 0 ⟨56, 9, 56, 14⟩) (.cons (.blt .len (.cons (.var 4 ⟨56, 20, 56, 25⟩) .nil) ⟨56, 16, 56, 19⟩ ⟨56, 16, 56, 26⟩) .nil)) ⟨56, 4, 56, 8⟩ ⟨56, 4, 56, 27⟩) ⟨56, 4, 56, 27⟩)
    (.cons (.assign 5 ⟨57, 4, 57, 10⟩ (.blt .list (.cons (.sfrom (.var 0 ⟨57, 18, 57, 23⟩) (.bin (.var 3 ⟨57, 24, 57, 28⟩) .Sub (.blt .len (.cons (.var 4 ⟨57, 35, 57, 40⟩) .nil) ⟨57, 31, 57, 34⟩ ⟨57, 31, 57, 41⟩) ⟨57, 24, 57, 41⟩) ⟨57, 24, 57, 42⟩ ⟨57, 18, 57, 43⟩) .nil) ⟨57, 13, 57, 17⟩ ⟨57, 13, 57, 44⟩) ⟨57, 4, 57, 44⟩)
    (.cons (.ite (.cmp (.call "kinds_of" (.cons (.var 5 ⟨58, 16, 58, 22⟩) .nil) ⟨58, 7, 58, 15⟩ ⟨58, 7, 58, 23⟩) .NotEq (.var 4 ⟨58, 27, 58, 32⟩) ⟨58, 7, 58, 32⟩) (.cons (.raise 2 "WrongKind" "a value of another kind is wanted" 0 ⟨59, 14, 59, 23⟩ ⟨59, 24, 59, 59⟩ ⟨59, 14, 59, 60⟩ ⟨59, 8, 59, 60⟩)
    .nil) .nil ⟨58, 4, 59, 60⟩)
    (.cons (.ret (.bin (.blt .list (.cons (.sto (.var 0 ⟨60, 16, 60, 21⟩) (.bin (.var 3 ⟨60, 23, 60, 27⟩) .Sub (.blt .len (.cons (.var 4 ⟨60, 34, 60, 39⟩) .nil) ⟨60, 30, 60, 33⟩ ⟨60, 30, 60, 40⟩) ⟨60, 23, 60, 40⟩) ⟨60, 22, 60, 40⟩ ⟨60, 16, 60, 41⟩) .nil) ⟨60, 11, 60, 15⟩ ⟨60, 11, 60, 42⟩) .Add (.list (.cons (.call "reckoned" (.cons (.var 2 ⟨60, 55, 60, 59⟩) (.cons (.var 5 ⟨60, 61, 60, 67⟩) .nil)) ⟨60, 46, 60, 54⟩ ⟨60, 46, 60, 68⟩) .nil) ⟨60, 45, 60, 69⟩) ⟨60, 11, 60, 69⟩) ⟨60, 4, 60, 69⟩)
    .nil)))))))))))
noncomputable def S_done : Scope := {
              kind := PySem.ScopeKind.function,
              names := [
                (PySem.Str.ofString "stack", PySem.NameKind.local),
                (PySem.Str.ofString "row", PySem.NameKind.local),
                (PySem.Str.ofString "word", PySem.NameKind.local),
                (PySem.Str.ofString "size", PySem.NameKind.local),
                (PySem.Str.ofString "takes", PySem.NameKind.local),
                (PySem.Str.ofString "values", PySem.NameKind.local),
                (PySem.Str.ofString "len", PySem.NameKind.globalImplicit),
                (PySem.Str.ofString "list", PySem.NameKind.globalImplicit),
                (PySem.Str.ofString "need", PySem.NameKind.globalImplicit),
                (PySem.Str.ofString "TAKES", PySem.NameKind.globalImplicit),
                (PySem.Str.ofString "kinds_of", PySem.NameKind.globalImplicit),
                (PySem.Str.ofString "WrongKind", PySem.NameKind.globalImplicit),
                (PySem.Str.ofString "reckoned", PySem.NameKind.globalImplicit)],
              isGenerator := false,
              isCoroutine := false,
              more := [] : PySem.Scope }

noncomputable def N_Machine___init__ : List Str := ["self", "program", "name", "stack"]
noncomputable def B_Machine___init__ : ASs :=
    (.cons (.ite (.cmp (.var 2 ⟨65, 11, 65, 15⟩) .NotIn (.var 1 ⟨65, 23, 65, 30⟩) ⟨65, 11, 65, 30⟩) (.cons (.raise 3 "NoBlock" "no such block" 0 ⟨66, 18, 66, 25⟩ ⟨66, 26, 66, 41⟩ ⟨66, 18, 66, 42⟩ ⟨66, 12, 66, 42⟩)
    .nil) .nil ⟨65, 8, 66, 42⟩)
    (.cons (.sattr (.var 0 ⟨67, 8, 67, 12⟩) "program" ⟨67, 8, 67, 20⟩ (.var 1 ⟨67, 23, 67, 30⟩) ⟨67, 8, 67, 30⟩)
    (.cons (.sattr (.var 0 ⟨68, 8, 68, 12⟩) "stack" ⟨68, 8, 68, 18⟩ (.blt .list (.cons (.var 3 ⟨68, 26, 68, 31⟩) .nil) ⟨68, 21, 68, 25⟩ ⟨68, 21, 68, 32⟩) ⟨68, 8, 68, 32⟩)
    (.cons (.sattr (.var 0 ⟨69, 8, 69, 12⟩) "frames" ⟨69, 8, 69, 19⟩ (.list (.cons (.tup (.cons (.var 2 ⟨69, 24, 69, 28⟩) (.cons (.lit (.int 0) 0 ⟨69, 30, 69, 31⟩) .nil)) 0 ⟨69, 23, 69, 32⟩) .nil) ⟨69, 22, 69, 33⟩) ⟨69, 8, 69, 33⟩)
    (.cons (.expr (.umeth (.var 0 ⟨70, 8, 70, 12⟩) "Machine.settle" "settle" .nil ⟨70, 8, 70, 19⟩ ⟨70, 8, 70, 21⟩) ⟨70, 8, 70, 21⟩)
    .nil)))))
noncomputable def S_Machine___init__ : Scope := {
                  kind := PySem.ScopeKind.function,
                  names := [
                    (PySem.Str.ofString "self", PySem.NameKind.local),
                    (PySem.Str.ofString "program", PySem.NameKind.local),
                    (PySem.Str.ofString "name", PySem.NameKind.local),
                    (PySem.Str.ofString "stack", PySem.NameKind.local),
                    (PySem.Str.ofString "NoBlock", PySem.NameKind.globalImplicit),
                    (PySem.Str.ofString "list", PySem.NameKind.globalImplicit)],
                  isGenerator := false,
                  isCoroutine := false,
                  more := [] : PySem.Scope }

noncomputable def N_Machine_settle : List Str := ["self"]
noncomputable def B_Machine_settle : ASs :=
    (.cons (.while (.bop .And (.cons (.cmp (.blt .len (.cons (.attr (.var 0 ⟨73, 18, 73, 22⟩) "frames" ⟨73, 18, 73, 29⟩) .nil) ⟨73, 14, 73, 17⟩ ⟨73, 14, 73, 30⟩) .Gt (.lit (.int 0) 0 ⟨73, 33, 73, 34⟩) ⟨73, 14, 73, 34⟩) (.cons (.cmp (.sub (.sub (.attr (.var 0 ⟨73, 39, 73, 43⟩) "frames" ⟨73, 39, 73, 50⟩) (.neg (.lit (.int 1) 0 ⟨73, 52, 73, 53⟩) ⟨73, 51, 73, 53⟩) ⟨73, 39, 73, 54⟩) (.lit (.int 1) 0 ⟨73, 55, 73, 56⟩) ⟨73, 39, 73, 57⟩) .Eq (.blt .len (.cons (.sub (.sub (.attr (.var 0 ⟨73, 65, 73, 69⟩) "program" ⟨73, 65, 73, 77⟩) (.sub (.sub (.attr (.var 0 ⟨73, 78, 73, 82⟩) "frames" ⟨73, 78, 73, 89⟩) (.neg (.lit (.int 1) 0 ⟨73, 91, 73, 92⟩) ⟨73, 90, 73, 92⟩) ⟨73, 78, 73, 93⟩) (.lit (.int 0) 0 ⟨73, 94, 73, 95⟩) ⟨73, 78, 73, 96⟩) ⟨73, 65, 73, 97⟩) (.lit (.int 2) 0 ⟨73, 98, 73, 99⟩) ⟨73, 65, 73, 100⟩) .nil) ⟨73, 61, 73, 64⟩ ⟨73, 61, 73, 101⟩) ⟨73, 39, 73, 101⟩) .nil)) ⟨73, 14, 73, 101⟩) (.cons (.sattr (.var 0 ⟨74, 12, 74, 16⟩) "frames" ⟨74, 12, 74, 23⟩ (.sto (.attr (.var 0 ⟨74, 26, 74, 30⟩) "frames" ⟨74, 26, 74, 37⟩) (.neg (.lit (.int 1) 0 ⟨74, 40, 74, 41⟩) ⟨74, 39, 74, 41⟩) ⟨74, 38, 74, 41⟩ ⟨74, 26, 74, 42⟩) ⟨74, 12, 74, 42⟩)
    .nil) ⟨73, 8, 74, 42⟩)
    .nil)
noncomputable def S_Machine_settle : Scope := {
                  kind := PySem.ScopeKind.function,
                  names := [(PySem.Str.ofString "self", PySem.NameKind.local), (PySem.Str.ofString "len", PySem.NameKind.globalImplicit)],
                  isGenerator := false,
                  isCoroutine := false,
                  more := [] : PySem.Scope }

noncomputable def N_Machine_over : List Str := ["self"]
noncomputable def B_Machine_over : ASs :=
    (.cons (.ret (.cmp (.blt .len (.cons (.attr (.var 0 ⟨77, 19, 77, 23⟩) "frames" ⟨77, 19, 77, 30⟩) .nil) ⟨77, 15, 77, 18⟩ ⟨77, 15, 77, 31⟩) .Eq (.lit (.int 0) 0 ⟨77, 35, 77, 36⟩) ⟨77, 15, 77, 36⟩) ⟨77, 8, 77, 36⟩)
    .nil)
noncomputable def S_Machine_over : Scope := {
                  kind := PySem.ScopeKind.function,
                  names := [(PySem.Str.ofString "self", PySem.NameKind.local), (PySem.Str.ofString "len", PySem.NameKind.globalImplicit)],
                  isGenerator := false,
                  isCoroutine := false,
                  more := [] : PySem.Scope }

noncomputable def N_Machine_goal_of : List Str := ["self", "row", "goal"]
noncomputable def B_Machine_goal_of : ASs :=
    (.cons (.assign 2 ⟨80, 8, 80, 12⟩ (.sub (.var 1 ⟨80, 15, 80, 18⟩) (.lit (.int 1) 0 ⟨80, 19, 80, 20⟩) ⟨80, 15, 80, 21⟩) ⟨80, 8, 80, 21⟩)
    (.cons (.ite (.cmp (.sub (.var 1 ⟨81, 11, 81, 14⟩) (.lit (.int 0) 0 ⟨81, 15, 81, 16⟩) ⟨81, 11, 81, 17⟩) .Eq (.lit (.str "if") 0 ⟨81, 21, 81, 25⟩) ⟨81, 11, 81, 25⟩) (.cons (.ite (.cmp (.blt .len (.cons (.attr (.var 0 ⟨82, 19, 82, 23⟩) "stack" ⟨82, 19, 82, 29⟩) .nil) ⟨82, 15, 82, 18⟩ ⟨82, 15, 82, 30⟩) .Eq (.lit (.int 0) 0 ⟨82, 34, 82, 35⟩) ⟨82, 15, 82, 35⟩) (.cons (.raise 1 "Empty" "a number is wanted" 0 ⟨83, 22, 83, 27⟩ ⟨83, 28, 83, 48⟩ ⟨83, 22, 83, 49⟩ ⟨83, 16, 83, 49⟩)
    .nil) .nil ⟨82, 12, 83, 49⟩)
    (.cons (.ite (.cmp (.call "kinds_of" (.cons (.sfrom (.attr (.var 0 ⟨84, 24, 84, 28⟩) "stack" ⟨84, 24, 84, 34⟩) (.neg (.lit (.int 1) 0 ⟨84, 36, 84, 37⟩) ⟨84, 35, 84, 37⟩) ⟨84, 35, 84, 38⟩ ⟨84, 24, 84, 39⟩) .nil) ⟨84, 15, 84, 23⟩ ⟨84, 15, 84, 40⟩) .NotEq (.tup (.cons (.lit (.str "num") 0 ⟨84, 45, 84, 50⟩) .nil) 0 ⟨84, 44, 84, 52⟩) ⟨84, 15, 84, 52⟩) (.cons (.raise 2 "WrongKind" "a number is wanted" 0 ⟨85, 22, 85, 31⟩ ⟨85, 32, 85, 52⟩ ⟨85, 22, 85, 53⟩ ⟨85, 16, 85, 53⟩)
    .nil) .nil ⟨84, 12, 85, 53⟩)
    (.cons (.ite (.cmp (.sub (.attr (.var 0 ⟨86, 15, 86, 19⟩) "stack" ⟨86, 15, 86, 25⟩) (.neg (.lit (.int 1) 0 ⟨86, 27, 86, 28⟩) ⟨86, 26, 86, 28⟩) ⟨86, 15, 86, 29⟩) .Eq (.lit (.int 0) 0 ⟨86, 33, 86, 34⟩) ⟨86, 15, 86, 34⟩) (.cons (.assign 2 ⟨87, 16, 87, 20⟩ (.sub (.var 1 ⟨87, 23, 87, 26⟩) (.lit (.int 2) 0 ⟨87, 27, 87, 28⟩) ⟨87, 23, 87, 29⟩) ⟨87, 16, 87, 29⟩)
    .nil) .nil ⟨86, 12, 87, 29⟩)
    .nil))) .nil ⟨81, 8, 87, 29⟩)
    (.cons (.ite (.cmp (.var 2 ⟨88, 11, 88, 15⟩) .NotIn (.attr (.var 0 ⟨88, 23, 88, 27⟩) "program" ⟨88, 23, 88, 35⟩) ⟨88, 11, 88, 35⟩) (.cons (.raise 3 "NoBlock" "no such block" 0 ⟨89, 18, 89, 25⟩ ⟨89, 26, 89, 41⟩ ⟨89, 18, 89, 42⟩ ⟨89, 12, 89, 42⟩)
    .nil) .nil ⟨88, 8, 89, 42⟩)
    (.cons (.ret (.var 2 ⟨90, 15, 90, 19⟩) ⟨90, 8, 90, 19⟩)
    .nil))))
noncomputable def S_Machine_goal_of : Scope := {
                  kind := PySem.ScopeKind.function,
                  names := [
                    (PySem.Str.ofString "self", PySem.NameKind.local),
                    (PySem.Str.ofString "row", PySem.NameKind.local),
                    (PySem.Str.ofString "goal", PySem.NameKind.local),
                    (PySem.Str.ofString "len", PySem.NameKind.globalImplicit),
                    (PySem.Str.ofString "Empty", PySem.NameKind.globalImplicit),
                    (PySem.Str.ofString "kinds_of", PySem.NameKind.globalImplicit),
                    (PySem.Str.ofString "WrongKind", PySem.NameKind.globalImplicit),
                    (PySem.Str.ofString "NoBlock", PySem.NameKind.globalImplicit)],
                  isGenerator := false,
                  isCoroutine := false,
                  more := [] : PySem.Scope }

noncomputable def N_Machine_step : List Str := ["self", "name", "place", "row", "stack", "more"]
noncomputable def B_Machine_step : ASs :=
    (.cons (.ite (.umeth (.var 0 ⟨93, 11, 93, 15⟩) "Machine.over" "over" .nil ⟨93, 11, 93, 20⟩ ⟨93, 11, 93, 22⟩) (.cons (.ret0 ⟨94, 12, 94, 18⟩)
    .nil) .nil ⟨93, 8, 94, 18⟩)
    (.cons (.assign 1 ⟨95, 8, 95, 12⟩ (.sub (.sub (.attr (.var 0 ⟨95, 15, 95, 19⟩) "frames" ⟨95, 15, 95, 26⟩) (.neg (.lit (.int 1) 0 ⟨95, 28, 95, 29⟩) ⟨95, 27, 95, 29⟩) ⟨95, 15, 95, 30⟩) (.lit (.int 0) 0 ⟨95, 31, 95, 32⟩) ⟨95, 15, 95, 33⟩) ⟨95, 8, 95, 33⟩)
    (.cons (.assign 2 ⟨96, 8, 96, 13⟩ (.sub (.sub (.attr (.var 0 ⟨96, 16, 96, 20⟩) "frames" ⟨96, 16, 96, 27⟩) (.neg (.lit (.int 1) 0 ⟨96, 29, 96, 30⟩) ⟨96, 28, 96, 30⟩) ⟨96, 16, 96, 31⟩) (.lit (.int 1) 0 ⟨96, 32, 96, 33⟩) ⟨96, 16, 96, 34⟩) ⟨96, 8, 96, 34⟩)
    (.cons (.assign 3 ⟨97, 8, 97, 11⟩ (.sub (.sub (.sub (.attr (.var 0 ⟨97, 14, 97, 18⟩) "program" ⟨97, 14, 97, 26⟩) (.var 1 ⟨97, 27, 97, 31⟩) ⟨97, 14, 97, 32⟩) (.lit (.int 2) 0 ⟨97, 33, 97, 34⟩) ⟨97, 14, 97, 35⟩) (.var 2 ⟨97, 36, 97, 41⟩) ⟨97, 14, 97, 42⟩) ⟨97, 8, 97, 42⟩)
    (.cons (.assign 4 ⟨98, 8, 98, 13⟩ (.attr (.var 0 ⟨98, 16, 98, 20⟩) "stack" ⟨98, 16, 98, 26⟩) ⟨98, 8, 98, 26⟩)
    (.cons (.assign 5 ⟨99, 8, 99, 12⟩ (.list .nil ⟨99, 15, 99, 17⟩) ⟨99, 8, 99, 17⟩)
    (.cons (.ite (.bop .Or (.cons (.cmp (.sub (.var 3 ⟨100, 11, 100, 14⟩) (.lit (.int 0) 0 ⟨100, 15, 100, 16⟩) ⟨100, 11, 100, 17⟩) .Eq (.lit (.str "call") 0 ⟨100, 21, 100, 27⟩) ⟨100, 11, 100, 27⟩) (.cons (.cmp (.sub (.var 3 ⟨100, 31, 100, 34⟩) (.lit (.int 0) 0 ⟨100, 35, 100, 36⟩) ⟨100, 31, 100, 37⟩) .Eq (.lit (.str "if") 0 ⟨100, 41, 100, 45⟩) ⟨100, 31, 100, 45⟩) .nil)) ⟨100, 11, 100, 45⟩) (.cons (.assign 5 ⟨101, 12, 101, 16⟩ (.list (.cons (.tup (.cons (.umeth (.var 0 ⟨101, 21, 101, 25⟩) "Machine.goal_of" "goal_of" (.cons (.var 3 ⟨101, 34, 101, 37⟩) .nil) ⟨101, 21, 101, 33⟩ ⟨101, 21, 101, 38⟩) (.cons (.lit (.int 0) 0 ⟨101, 40, 101, 41⟩) .nil)) 0 ⟨101, 20, 101, 42⟩) .nil) ⟨101, 19, 101, 43⟩) ⟨101, 12, 101, 43⟩)
    (.cons (.ite (.cmp (.sub (.var 3 ⟨102, 15, 102, 18⟩) (.lit (.int 0) 0 ⟨102, 19, 102, 20⟩) ⟨102, 15, 102, 21⟩) .Eq (.lit (.str "if") 0 ⟨102, 25, 102, 29⟩) ⟨102, 15, 102, 29⟩) (.cons (.assign 4 ⟨103, 16, 103, 21⟩ (.sto (.var 4 ⟨103, 24, 103, 29⟩) (.neg (.lit (.int 1) 0 ⟨103, 32, 103, 33⟩) ⟨103, 31, 103, 33⟩) ⟨103, 30, 103, 33⟩ ⟨103, 24, 103, 34⟩) ⟨103, 16, 103, 34⟩)
    .nil) .nil ⟨102, 12, 103, 34⟩)
    .nil)) (.cons (.assign 4 ⟨105, 12, 105, 17⟩ (.call "done" (.cons (.var 4 ⟨105, 25, 105, 30⟩) (.cons (.var 3 ⟨105, 32, 105, 35⟩) .nil)) ⟨105, 20, 105, 24⟩ ⟨105, 20, 105, 36⟩) ⟨105, 12, 105, 36⟩)
    .nil) ⟨100, 8, 105, 36⟩)
    (.cons (.sattr (.var 0 ⟨106, 8, 106, 12⟩) "stack" ⟨106, 8, 106, 18⟩ (.var 4 ⟨106, 21, 106, 26⟩) ⟨106, 8, 106, 26⟩)
    (.cons (.sattr (.var 0 ⟨107, 8, 107, 12⟩) "frames" ⟨107, 8, 107, 19⟩ (.bin (.bin (.sto (.attr (.var 0 ⟨107, 22, 107, 26⟩) "frames" ⟨107, 22, 107, 33⟩) (.neg (.lit (.int 1) 0 ⟨107, 36, 107, 37⟩) ⟨107, 35, 107, 37⟩) ⟨107, 34, 107, 37⟩ ⟨107, 22, 107, 38⟩) .Add (.list (.cons (.tup (.cons (.var 1 ⟨107, 43, 107, 47⟩) (.cons (.bin (.var 2 ⟨107, 49, 107, 54⟩) .Add (.lit (.int 1) 0 ⟨107, 57, 107, 58⟩) ⟨107, 49, 107, 58⟩) .nil)) 0 ⟨107, 42, 107, 59⟩) .nil) ⟨107, 41, 107, 60⟩) ⟨107, 22, 107, 60⟩) .Add (.var 5 ⟨107, 63, 107, 67⟩) ⟨107, 22, 107, 67⟩) ⟨107, 8, 107, 67⟩)
    (.cons (.expr (.umeth (.var 0 ⟨108, 8, 108, 12⟩) "Machine.settle" "settle" .nil ⟨108, 8, 108, 19⟩ ⟨108, 8, 108, 21⟩) ⟨108, 8, 108, 21⟩)
    .nil))))))))))
noncomputable def S_Machine_step : Scope := {
                  kind := PySem.ScopeKind.function,
                  names := [
                    (PySem.Str.ofString "self", PySem.NameKind.local),
                    (PySem.Str.ofString "name", PySem.NameKind.local),
                    (PySem.Str.ofString "place", PySem.NameKind.local),
                    (PySem.Str.ofString "row", PySem.NameKind.local),
                    (PySem.Str.ofString "stack", PySem.NameKind.local),
                    (PySem.Str.ofString "more", PySem.NameKind.local),
                    (PySem.Str.ofString "done", PySem.NameKind.globalImplicit)],
                  isGenerator := false,
                  isCoroutine := false,
                  more := [] : PySem.Scope }

noncomputable def N_run : List Str := ["program", "name", "stack", "fuel", "machine", "steps"]
noncomputable def B_run : ASs :=
    (.cons (.assign 4 ⟨110, 4, 110, 11⟩ (.new (.cons (.var 0 ⟨110, 22, 110, 29⟩) (.cons (.var 1 ⟨110, 31, 110, 35⟩) (.cons (.var 2 ⟨110, 37, 110, 42⟩) .nil))) ⟨110, 14, 110, 21⟩ ⟨110, 14, 110, 43⟩) ⟨110, 4, 110, 43⟩)
    (.cons (.assign 5 ⟨111, 4, 111, 9⟩ (.lit (.int 0) 0 ⟨111, 12, 111, 13⟩) ⟨111, 4, 111, 13⟩)
    (.cons (.while (.not (.umeth (.var 4 ⟨112, 14, 112, 21⟩) "Machine.over" "over" .nil ⟨112, 14, 112, 26⟩ ⟨112, 14, 112, 28⟩) ⟨112, 10, 112, 28⟩) (.cons (.ite (.cmp (.var 5 ⟨113, 11, 113, 16⟩) .Eq (.var 3 ⟨113, 20, 113, 24⟩) ⟨113, 11, 113, 24⟩) (.cons (.raise 5 "Dry" "no fuel left" 0 ⟨114, 18, 114, 21⟩ ⟨114, 22, 114, 36⟩ ⟨114, 18, 114, 37⟩ ⟨114, 12, 114, 37⟩)
    .nil) .nil ⟨113, 8, 114, 37⟩)
    (.cons (.expr (.umeth (.var 4 ⟨115, 8, 115, 15⟩) "Machine.step" "step" .nil ⟨115, 8, 115, 20⟩ ⟨115, 8, 115, 22⟩) ⟨115, 8, 115, 22⟩)
    (.cons (.assign 5 ⟨116, 8, 116, 13⟩ (.bin (.var 5 ⟨116, 16, 116, 21⟩) .Add (.lit (.int 1) 0 ⟨116, 24, 116, 25⟩) ⟨116, 16, 116, 25⟩) ⟨116, 8, 116, 25⟩)
    .nil))) ⟨112, 4, 116, 25⟩)
    (.cons (.ret (.attr (.var 4 ⟨117, 11, 117, 18⟩) "stack" ⟨117, 11, 117, 24⟩) ⟨117, 4, 117, 24⟩)
    .nil))))
noncomputable def S_run : Scope := {
              kind := PySem.ScopeKind.function,
              names := [
                (PySem.Str.ofString "program", PySem.NameKind.local),
                (PySem.Str.ofString "name", PySem.NameKind.local),
                (PySem.Str.ofString "stack", PySem.NameKind.local),
                (PySem.Str.ofString "fuel", PySem.NameKind.local),
                (PySem.Str.ofString "machine", PySem.NameKind.local),
                (PySem.Str.ofString "steps", PySem.NameKind.local),
                (PySem.Str.ofString "Machine", PySem.NameKind.globalImplicit),
                (PySem.Str.ofString "Dry", PySem.NameKind.globalImplicit)],
              isGenerator := false,
              isCoroutine := false,
              more := [] : PySem.Scope }

noncomputable def N_law_draw : List Str := ["_law_script", "_law_tape", "_law_many", "_law_seed", "_law_cell"]
noncomputable def B_law_draw : ASs :=
    (.cons (.store (.var 1 ⟨120, 4, 120, 13⟩) (.lit (.int 0) 0 ⟨120, 14, 120, 15⟩) ⟨120, 4, 120, 16⟩ (.bin (.sub (.var 1 ⟨120, 19, 120, 28⟩) (.lit (.int 0) 0 ⟨120, 29, 120, 30⟩) ⟨120, 19, 120, 31⟩) .Add (.lit (.int 1) 0 ⟨120, 34, 120, 35⟩) ⟨120, 19, 120, 35⟩) ⟨120, 4, 120, 35⟩)
    (.cons (.ite (.cmp (.sub (.var 1 ⟨121, 7, 121, 16⟩) (.lit (.int 0) 0 ⟨121, 17, 121, 18⟩) ⟨121, 7, 121, 19⟩) .LtE (.blt .len (.cons (.var 0 ⟨121, 27, 121, 38⟩) .nil) ⟨121, 23, 121, 26⟩ ⟨121, 23, 121, 39⟩) ⟨121, 7, 121, 39⟩) (.cons (.ret (.bin (.sub (.var 0 ⟨122, 15, 122, 26⟩) (.bin (.sub (.var 1 ⟨122, 27, 122, 36⟩) (.lit (.int 0) 0 ⟨122, 37, 122, 38⟩) ⟨122, 27, 122, 39⟩) .Sub (.lit (.int 1) 0 ⟨122, 42, 122, 43⟩) ⟨122, 27, 122, 43⟩) ⟨122, 15, 122, 44⟩) .Mod (.var 2 ⟨122, 47, 122, 56⟩) ⟨122, 15, 122, 56⟩) ⟨122, 8, 122, 56⟩)
    .nil) .nil ⟨121, 4, 122, 56⟩)
    (.cons (.assign 3 ⟨123, 4, 123, 13⟩ (.blt .len (.cons (.var 0 ⟨123, 20, 123, 31⟩) .nil) ⟨123, 16, 123, 19⟩ ⟨123, 16, 123, 32⟩) ⟨123, 4, 123, 32⟩)
    (.cons (.for 4 ⟨124, 8, 124, 17⟩ (.sto (.var 0 ⟨124, 21, 124, 32⟩) (.lit (.int 4) 0 ⟨124, 34, 124, 35⟩) ⟨124, 33, 124, 35⟩ ⟨124, 21, 124, 36⟩) (.cons (.assign 3 ⟨125, 8, 125, 17⟩ (.bin (.bin (.bin (.var 3 ⟨125, 21, 125, 30⟩) .Mult (.lit (.int 131) 0 ⟨125, 33, 125, 36⟩) ⟨125, 21, 125, 36⟩) .Add (.var 4 ⟨125, 39, 125, 48⟩) ⟨125, 21, 125, 48⟩) .Mod (.lit (.int 1000003) 0 ⟨125, 52, 125, 59⟩) ⟨125, 20, 125, 59⟩) ⟨125, 8, 125, 59⟩)
    .nil) ⟨124, 4, 125, 59⟩)
    (.cons (.ret (.bin (.bin (.bin (.bin (.var 3 ⟨126, 12, 126, 21⟩) .Add (.lit (.int 7) 0 ⟨126, 24, 126, 25⟩) ⟨126, 12, 126, 25⟩) .Mult (.bin (.bin (.sub (.var 1 ⟨126, 30, 126, 39⟩) (.lit (.int 0) 0 ⟨126, 40, 126, 41⟩) ⟨126, 30, 126, 42⟩) .Mult (.sub (.var 1 ⟨126, 45, 126, 54⟩) (.lit (.int 0) 0 ⟨126, 55, 126, 56⟩) ⟨126, 45, 126, 57⟩) ⟨126, 30, 126, 57⟩) .Add (.lit (.int 48271) 0 ⟨126, 60, 126, 65⟩) ⟨126, 30, 126, 65⟩) ⟨126, 11, 126, 66⟩) .Mod (.lit (.int 1000003) 0 ⟨126, 69, 126, 76⟩) ⟨126, 11, 126, 76⟩) .Mod (.var 2 ⟨126, 79, 126, 88⟩) ⟨126, 11, 126, 88⟩) ⟨126, 4, 126, 88⟩)
    .nil)))))
noncomputable def S_law_draw : Scope := {
              kind := PySem.ScopeKind.function,
              names := [
                (PySem.Str.ofString "_law_script", PySem.NameKind.local),
                (PySem.Str.ofString "_law_tape", PySem.NameKind.local),
                (PySem.Str.ofString "_law_many", PySem.NameKind.local),
                (PySem.Str.ofString "_law_seed", PySem.NameKind.local),
                (PySem.Str.ofString "_law_cell", PySem.NameKind.local),
                (PySem.Str.ofString "len", PySem.NameKind.globalImplicit)],
              isGenerator := false,
              isCoroutine := false,
              more := [] : PySem.Scope }

noncomputable def N_law_words : List Str := ["_law_cell", "_law_size", "_law_signs", "_law_k"]
noncomputable def B_law_words : ASs :=
    (.cons (.assign 2 ⟨128, 4, 128, 14⟩ (.lit (.str "abcdefghijklmnopqrstuvwxyzABCDEFGHIJKLMNOPQRSTUVWXYZ0123456789") 0 ⟨128, 17, 128, 81⟩) ⟨128, 4, 128, 81⟩)
    (.cons (.assign 2 ⟨129, 4, 129, 14⟩ (.bin (.var 2 ⟨129, 17, 129, 27⟩) .Add (.lit (.str " .,;:!?'\"()[]{}<>+-*/=&|^~_#$@\\`") 0 ⟨129, 30, 129, 66⟩) ⟨129, 17, 129, 66⟩) ⟨129, 4, 129, 66⟩)
    (.cons (.ret (.meth (.lit (.str "") 0 ⟨130, 11, 130, 13⟩) .join (.cons (.comp (.sub (.var 2 ⟨130, 20, 130, 30⟩) (.bin (.bin (.bin (.var 0 ⟨130, 32, 130, 41⟩) .FloorDiv (.bin (.var 3 ⟨130, 46, 130, 52⟩) .Add (.lit (.int 1) 0 ⟨130, 55, 130, 56⟩) ⟨130, 46, 130, 56⟩) ⟨130, 32, 130, 57⟩) .Add (.bin (.lit (.int 5) 0 ⟨130, 60, 130, 61⟩) .Mult (.var 3 ⟨130, 64, 130, 70⟩) ⟨130, 60, 130, 70⟩) ⟨130, 32, 130, 70⟩) .Mod (.lit (.int 94) 0 ⟨130, 74, 130, 76⟩) ⟨130, 31, 130, 76⟩) ⟨130, 20, 130, 77⟩) 3 ⟨130, 82, 130, 88⟩ (.blt .range (.cons (.var 1 ⟨130, 98, 130, 107⟩) .nil) ⟨130, 92, 130, 97⟩ ⟨130, 92, 130, 108⟩) .nil {                           kind := PySem.ScopeKind.function,                           names := [                             (PySem.Str.ofString ".0", PySem.NameKind.local),                             (PySem.Str.ofString "_law_k", PySem.NameKind.local),                             (PySem.Str.ofString "_law_cell", PySem.NameKind.free),                             (PySem.Str.ofString "_law_signs", PySem.NameKind.free)],                           isGenerator := false,                           isCoroutine := false,                           more := [] : PySem.Scope } ⟨130, 19, 130, 109⟩) .nil) ⟨130, 11, 130, 18⟩ ⟨130, 11, 130, 110⟩) ⟨130, 4, 130, 110⟩)
    .nil)))
noncomputable def S_law_words : Scope := {
              kind := PySem.ScopeKind.function,
              names := [
                (PySem.Str.ofString "_law_cell", PySem.NameKind.cell),
                (PySem.Str.ofString "_law_size", PySem.NameKind.local),
                (PySem.Str.ofString "_law_signs", PySem.NameKind.cell),
                (PySem.Str.ofString "range", PySem.NameKind.globalImplicit)],
              isGenerator := false,
              isCoroutine := false,
              more := [
                (PySem.Str.ofString "fast", (PySem.Const.str "_law_cell")),
                (PySem.Str.ofString "fast", (PySem.Const.str "_law_size")),
                (PySem.Str.ofString "fast", (PySem.Const.str "_law_signs")),
                (PySem.Str.ofString "fast", (PySem.Const.str "_law_k"))] : PySem.Scope }

noncomputable def N_law_value : List Str := ["_law_script", "_law_tape", "_law_kind", "_law_cell", "_law_way_here"]
noncomputable def B_law_value : ASs :=
    (.cons (.assign 3 ⟨132, 4, 132, 13⟩ (.call "_law_draw" (.cons (.var 0 ⟨132, 26, 132, 37⟩) (.cons (.var 1 ⟨132, 39, 132, 48⟩) (.cons (.lit (.int 1000000000) 0 ⟨132, 50, 132, 60⟩) .nil))) ⟨132, 16, 132, 25⟩ ⟨132, 16, 132, 61⟩) ⟨132, 4, 132, 61⟩)
    (.cons (.assign 4 ⟨133, 4, 133, 17⟩ (.call "_law_draw" (.cons (.var 0 ⟨133, 30, 133, 41⟩) (.cons (.var 1 ⟨133, 43, 133, 52⟩) (.cons (.lit (.int 6) 0 ⟨133, 54, 133, 55⟩) .nil))) ⟨133, 20, 133, 29⟩ ⟨133, 20, 133, 56⟩) ⟨133, 4, 133, 56⟩)
    (.cons (.ite (.cmp (.var 2 ⟨134, 7, 134, 16⟩) .Eq (.lit (.str "text") 0 ⟨134, 20, 134, 26⟩) ⟨134, 7, 134, 26⟩) (.cons (.ite (.cmp (.var 4 ⟨135, 11, 135, 24⟩) .Eq (.lit (.int 0) 0 ⟨135, 28, 135, 29⟩) ⟨135, 11, 135, 29⟩) (.cons (.ret (.call "_law_words" (.cons (.var 3 ⟨136, 30, 136, 39⟩) (.cons (.bin (.lit (.int 58) 0 ⟨136, 41, 136, 43⟩) .Add (.bin (.var 3 ⟨136, 46, 136, 55⟩) .Mod (.lit (.int 3) 0 ⟨136, 58, 136, 59⟩) ⟨136, 46, 136, 59⟩) ⟨136, 41, 136, 59⟩) .nil)) ⟨136, 19, 136, 29⟩ ⟨136, 19, 136, 60⟩) ⟨136, 12, 136, 60⟩)
    .nil) .nil ⟨135, 8, 136, 60⟩)
    (.cons (.ret (.call "_law_words" (.cons (.var 3 ⟨137, 26, 137, 35⟩) (.cons (.bin (.bin (.var 3 ⟨137, 37, 137, 46⟩) .FloorDiv (.lit (.int 94) 0 ⟨137, 50, 137, 52⟩) ⟨137, 37, 137, 52⟩) .Mod (.lit (.int 8) 0 ⟨137, 55, 137, 56⟩) ⟨137, 37, 137, 56⟩) .nil)) ⟨137, 15, 137, 25⟩ ⟨137, 15, 137, 57⟩) ⟨137, 8, 137, 57⟩)
    .nil)) .nil ⟨134, 4, 137, 57⟩)
    (.cons (.ite (.cmp (.var 4 ⟨138, 7, 138, 20⟩) .Eq (.lit (.int 0) 0 ⟨138, 24, 138, 25⟩) ⟨138, 7, 138, 25⟩) (.cons (.ret (.bin (.lit (.int 999999999) 0 ⟨139, 15, 139, 24⟩) .Sub (.bin (.var 3 ⟨139, 27, 139, 36⟩) .Mod (.lit (.int 3) 0 ⟨139, 39, 139, 40⟩) ⟨139, 27, 139, 40⟩) ⟨139, 15, 139, 40⟩) ⟨139, 8, 139, 40⟩)
    .nil) .nil ⟨138, 4, 139, 40⟩)
    (.cons (.ite (.cmp (.var 4 ⟨140, 7, 140, 20⟩) .Lt (.lit (.int 3) 0 ⟨140, 23, 140, 24⟩) ⟨140, 7, 140, 24⟩) (.cons (.ret (.bin (.var 3 ⟨141, 15, 141, 24⟩) .Mod (.lit (.int 4) 0 ⟨141, 27, 141, 28⟩) ⟨141, 15, 141, 28⟩) ⟨141, 8, 141, 28⟩)
    .nil) .nil ⟨140, 4, 141, 28⟩)
    (.cons (.ret (.var 3 ⟨142, 11, 142, 20⟩) ⟨142, 4, 142, 20⟩)
    .nil))))))
noncomputable def S_law_value : Scope := {
              kind := PySem.ScopeKind.function,
              names := [
                (PySem.Str.ofString "_law_script", PySem.NameKind.local),
                (PySem.Str.ofString "_law_tape", PySem.NameKind.local),
                (PySem.Str.ofString "_law_kind", PySem.NameKind.local),
                (PySem.Str.ofString "_law_cell", PySem.NameKind.local),
                (PySem.Str.ofString "_law_way_here", PySem.NameKind.local),
                (PySem.Str.ofString "_law_draw", PySem.NameKind.globalImplicit),
                (PySem.Str.ofString "_law_words", PySem.NameKind.globalImplicit)],
              isGenerator := false,
              isCoroutine := false,
              more := [] : PySem.Scope }

noncomputable def N_law_wanted : List Str := ["_law_row", "_law_two", "_law_one"]
noncomputable def B_law_wanted : ASs :=
    (.cons (.ite (.cmp (.sub (.var 0 ⟨144, 7, 144, 15⟩) (.lit (.int 0) 0 ⟨144, 16, 144, 17⟩) ⟨144, 7, 144, 18⟩) .Eq (.lit (.str "copy") 0 ⟨144, 22, 144, 28⟩) ⟨144, 7, 144, 28⟩) (.cons (.ret (.bin (.list (.cons (.lit (.str "") 0 ⟨145, 16, 145, 18⟩) .nil) ⟨145, 15, 145, 19⟩) .Mult (.bin (.sub (.var 0 ⟨145, 23, 145, 31⟩) (.lit (.int 1) 0 ⟨145, 32, 145, 33⟩) ⟨145, 23, 145, 34⟩) .Add (.lit (.int 1) 0 ⟨145, 37, 145, 38⟩) ⟨145, 23, 145, 38⟩) ⟨145, 15, 145, 39⟩) ⟨145, 8, 145, 39⟩)
    .nil) .nil ⟨144, 4, 145, 39⟩)
    (.cons (.assign 1 ⟨146, 4, 146, 12⟩ (.dict [("add", ⟨146, 16, 146, 21⟩), ("mul", ⟨146, 30, 146, 35⟩), ("less", ⟨146, 44, 146, 50⟩), ("join", ⟨146, 59, 146, 65⟩), ("swap", ⟨146, 75, 146, 81⟩)] (.cons (.lit (.str "num") 0 ⟨146, 23, 146, 28⟩) (.cons (.lit (.str "num") 0 ⟨146, 37, 146, 42⟩) (.cons (.lit (.str "num") 0 ⟨146, 52, 146, 57⟩) (.cons (.lit (.str "text") 0 ⟨146, 67, 146, 73⟩) (.cons (.lit (.str "") 0 ⟨146, 83, 146, 85⟩) .nil))))) ⟨146, 15, 146, 86⟩) ⟨146, 4, 146, 86⟩)
    (.cons (.assign 2 ⟨147, 4, 147, 12⟩ (.dict [("long", ⟨147, 16, 147, 22⟩), ("show", ⟨147, 32, 147, 38⟩), ("drop", ⟨147, 47, 147, 53⟩)] (.cons (.lit (.str "text") 0 ⟨147, 24, 147, 30⟩) (.cons (.lit (.str "num") 0 ⟨147, 40, 147, 45⟩) (.cons (.lit (.str "") 0 ⟨147, 55, 147, 57⟩) .nil))) ⟨147, 15, 147, 58⟩) ⟨147, 4, 147, 58⟩)
    (.cons (.ite (.cmp (.sub (.var 0 ⟨148, 7, 148, 15⟩) (.lit (.int 0) 0 ⟨148, 16, 148, 17⟩) ⟨148, 7, 148, 18⟩) .In (.var 1 ⟨148, 22, 148, 30⟩) ⟨148, 7, 148, 30⟩) (.cons (.ret (.list (.cons (.sub (.var 1 ⟨149, 16, 149, 24⟩) (.sub (.var 0 ⟨149, 25, 149, 33⟩) (.lit (.int 0) 0 ⟨149, 34, 149, 35⟩) ⟨149, 25, 149, 36⟩) ⟨149, 16, 149, 37⟩) (.cons (.sub (.var 1 ⟨149, 39, 149, 47⟩) (.sub (.var 0 ⟨149, 48, 149, 56⟩) (.lit (.int 0) 0 ⟨149, 57, 149, 58⟩) ⟨149, 48, 149, 59⟩) ⟨149, 39, 149, 60⟩) .nil)) ⟨149, 15, 149, 61⟩) ⟨149, 8, 149, 61⟩)
    .nil) .nil ⟨148, 4, 149, 61⟩)
    (.cons (.ite (.cmp (.sub (.var 0 ⟨150, 7, 150, 15⟩) (.lit (.int 0) 0 ⟨150, 16, 150, 17⟩) ⟨150, 7, 150, 18⟩) .In (.var 2 ⟨150, 22, 150, 30⟩) ⟨150, 7, 150, 30⟩) (.cons (.ret (.list (.cons (.sub (.var 2 ⟨151, 16, 151, 24⟩) (.sub (.var 0 ⟨151, 25, 151, 33⟩) (.lit (.int 0) 0 ⟨151, 34, 151, 35⟩) ⟨151, 25, 151, 36⟩) ⟨151, 16, 151, 37⟩) .nil) ⟨151, 15, 151, 38⟩) ⟨151, 8, 151, 38⟩)
    .nil) .nil ⟨150, 4, 151, 38⟩)
    (.cons (.ret (.list .nil ⟨152, 11, 152, 13⟩) ⟨152, 4, 152, 13⟩)
    .nil))))))
noncomputable def S_law_wanted : Scope := {
              kind := PySem.ScopeKind.function,
              names := [
                (PySem.Str.ofString "_law_row", PySem.NameKind.local),
                (PySem.Str.ofString "_law_two", PySem.NameKind.local),
                (PySem.Str.ofString "_law_one", PySem.NameKind.local)],
              isGenerator := false,
              isCoroutine := false,
              more := [] : PySem.Scope }

noncomputable def N_law_lack : List Str := ["_law_kinds_here", "_law_wanted_here", "_law_low", "_law_k"]
noncomputable def B_law_lack : ASs :=
    (.cons (.ite (.cmp (.blt .len (.cons (.var 0 ⟨154, 11, 154, 26⟩) .nil) ⟨154, 7, 154, 10⟩ ⟨154, 7, 154, 27⟩) .Lt (.blt .len (.cons (.var 1 ⟨154, 34, 154, 50⟩) .nil) ⟨154, 30, 154, 33⟩ ⟨154, 30, 154, 51⟩) ⟨154, 7, 154, 51⟩) (.cons (.ret (.lit (.str "empty") 0 ⟨155, 15, 155, 22⟩) ⟨155, 8, 155, 22⟩)
    .nil) .nil ⟨154, 4, 155, 22⟩)
    (.cons (.assign 2 ⟨156, 4, 156, 12⟩ (.bin (.blt .len (.cons (.var 0 ⟨156, 19, 156, 34⟩) .nil) ⟨156, 15, 156, 18⟩ ⟨156, 15, 156, 35⟩) .Sub (.blt .len (.cons (.var 1 ⟨156, 42, 156, 58⟩) .nil) ⟨156, 38, 156, 41⟩ ⟨156, 38, 156, 59⟩) ⟨156, 15, 156, 59⟩) ⟨156, 4, 156, 59⟩)
    (.cons (.for 3 ⟨157, 8, 157, 14⟩ (.blt .range (.cons (.blt .len (.cons (.var 1 ⟨157, 28, 157, 44⟩) .nil) ⟨157, 24, 157, 27⟩ ⟨157, 24, 157, 45⟩) .nil) ⟨157, 18, 157, 23⟩ ⟨157, 18, 157, 46⟩) (.cons (.ite (.bop .And (.cons (.cmp (.sub (.var 1 ⟨158, 11, 158, 27⟩) (.var 3 ⟨158, 28, 158, 34⟩) ⟨158, 11, 158, 35⟩) .NotEq (.lit (.str "") 0 ⟨158, 39, 158, 41⟩) ⟨158, 11, 158, 41⟩) (.cons (.cmp (.sub (.var 1 ⟨158, 46, 158, 62⟩) (.var 3 ⟨158, 63, 158, 69⟩) ⟨158, 46, 158, 70⟩) .NotEq (.sub (.var 0 ⟨158, 74, 158, 89⟩) (.bin (.var 2 ⟨158, 90, 158, 98⟩) .Add (.var 3 ⟨158, 101, 158, 107⟩) ⟨158, 90, 158, 107⟩) ⟨158, 74, 158, 108⟩) ⟨158, 46, 158, 108⟩) .nil)) ⟨158, 11, 158, 108⟩) (.cons (.ret (.lit (.str "kind") 0 ⟨159, 19, 159, 25⟩) ⟨159, 12, 159, 25⟩)
    .nil) .nil ⟨158, 8, 159, 25⟩)
    .nil) ⟨157, 4, 159, 25⟩)
    (.cons (.ret (.lit (.str "") 0 ⟨160, 11, 160, 13⟩) ⟨160, 4, 160, 13⟩)
    .nil))))
noncomputable def S_law_lack : Scope := {
              kind := PySem.ScopeKind.function,
              names := [
                (PySem.Str.ofString "_law_kinds_here", PySem.NameKind.local),
                (PySem.Str.ofString "_law_wanted_here", PySem.NameKind.local),
                (PySem.Str.ofString "_law_low", PySem.NameKind.local),
                (PySem.Str.ofString "_law_k", PySem.NameKind.local),
                (PySem.Str.ofString "len", PySem.NameKind.globalImplicit),
                (PySem.Str.ofString "range", PySem.NameKind.globalImplicit)],
              isGenerator := false,
              isCoroutine := false,
              more := [] : PySem.Scope }

noncomputable def N_law_plainly : List Str := ["_law_kinds_here", "_law_row", "_law_left_here"]
noncomputable def B_law_plainly : ASs :=
    (.cons (.assign 2 ⟨162, 4, 162, 18⟩ (.sto (.var 0 ⟨162, 21, 162, 36⟩) (.bin (.blt .len (.cons (.var 0 ⟨162, 42, 162, 57⟩) .nil) ⟨162, 38, 162, 41⟩ ⟨162, 38, 162, 58⟩) .Sub (.blt .len (.cons (.call "_law_wanted" (.cons (.var 1 ⟨162, 77, 162, 85⟩) .nil) ⟨162, 65, 162, 76⟩ ⟨162, 65, 162, 86⟩) .nil) ⟨162, 61, 162, 64⟩ ⟨162, 61, 162, 87⟩) ⟨162, 38, 162, 87⟩) ⟨162, 37, 162, 87⟩ ⟨162, 21, 162, 88⟩) ⟨162, 4, 162, 88⟩)
    (.cons (.ite (.cmp (.sub (.var 1 ⟨163, 7, 163, 15⟩) (.lit (.int 0) 0 ⟨163, 16, 163, 17⟩) ⟨163, 7, 163, 18⟩) .Eq (.lit (.str "copy") 0 ⟨163, 22, 163, 28⟩) ⟨163, 7, 163, 28⟩) (.cons (.ret (.bin (.var 0 ⟨164, 15, 164, 30⟩) .Add (.list (.cons (.sub (.var 0 ⟨164, 34, 164, 49⟩) (.bin (.bin (.blt .len (.cons (.var 0 ⟨164, 54, 164, 69⟩) .nil) ⟨164, 50, 164, 53⟩ ⟨164, 50, 164, 70⟩) .Sub (.lit (.int 1) 0 ⟨164, 73, 164, 74⟩) ⟨164, 50, 164, 74⟩) .Sub (.sub (.var 1 ⟨164, 77, 164, 85⟩) (.lit (.int 1) 0 ⟨164, 86, 164, 87⟩) ⟨164, 77, 164, 88⟩) ⟨164, 50, 164, 88⟩) ⟨164, 34, 164, 89⟩) .nil) ⟨164, 33, 164, 90⟩) ⟨164, 15, 164, 90⟩) ⟨164, 8, 164, 90⟩)
    .nil) .nil ⟨163, 4, 164, 90⟩)
    (.cons (.ite (.cmp (.sub (.var 1 ⟨165, 7, 165, 15⟩) (.lit (.int 0) 0 ⟨165, 16, 165, 17⟩) ⟨165, 7, 165, 18⟩) .Eq (.lit (.str "swap") 0 ⟨165, 22, 165, 28⟩) ⟨165, 7, 165, 28⟩) (.cons (.ret (.bin (.var 2 ⟨166, 15, 166, 29⟩) .Add (.list (.cons (.sub (.var 0 ⟨166, 33, 166, 48⟩) (.neg (.lit (.int 1) 0 ⟨166, 50, 166, 51⟩) ⟨166, 49, 166, 51⟩) ⟨166, 33, 166, 52⟩) (.cons (.sub (.var 0 ⟨166, 54, 166, 69⟩) (.neg (.lit (.int 2) 0 ⟨166, 71, 166, 72⟩) ⟨166, 70, 166, 72⟩) ⟨166, 54, 166, 73⟩) .nil)) ⟨166, 32, 166, 74⟩) ⟨166, 15, 166, 74⟩) ⟨166, 8, 166, 74⟩)
    .nil) .nil ⟨165, 4, 166, 74⟩)
    (.cons (.ite (.cmp (.sub (.var 1 ⟨167, 7, 167, 15⟩) (.lit (.int 0) 0 ⟨167, 16, 167, 17⟩) ⟨167, 7, 167, 18⟩) .Eq (.lit (.str "drop") 0 ⟨167, 22, 167, 28⟩) ⟨167, 7, 167, 28⟩) (.cons (.ret (.var 2 ⟨168, 15, 168, 29⟩) ⟨168, 8, 168, 29⟩)
    .nil) .nil ⟨167, 4, 168, 29⟩)
    (.cons (.ite (.bop .Or (.cons (.cmp (.sub (.var 1 ⟨169, 7, 169, 15⟩) (.lit (.int 0) 0 ⟨169, 16, 169, 17⟩) ⟨169, 7, 169, 18⟩) .Eq (.lit (.str "text") 0 ⟨169, 22, 169, 28⟩) ⟨169, 7, 169, 28⟩) (.cons (.cmp (.sub (.var 1 ⟨169, 32, 169, 40⟩) (.lit (.int 0) 0 ⟨169, 41, 169, 42⟩) ⟨169, 32, 169, 43⟩) .Eq (.lit (.str "join") 0 ⟨169, 47, 169, 53⟩) ⟨169, 32, 169, 53⟩) (.cons (.cmp (.sub (.var 1 ⟨169, 57, 169, 65⟩) (.lit (.int 0) 0 ⟨169, 66, 169, 67⟩) ⟨169, 57, 169, 68⟩) .Eq (.lit (.str "show") 0 ⟨169, 72, 169, 78⟩) ⟨169, 57, 169, 78⟩) .nil))) ⟨169, 7, 169, 78⟩) (.cons (.ret (.bin (.var 2 ⟨170, 15, 170, 29⟩) .Add (.list (.cons (.lit (.str "text") 0 ⟨170, 33, 170, 39⟩) .nil) ⟨170, 32, 170, 40⟩) ⟨170, 15, 170, 40⟩) ⟨170, 8, 170, 40⟩)
    .nil) .nil ⟨169, 4, 170, 40⟩)
    (.cons (.ret (.bin (.var 2 ⟨171, 11, 171, 25⟩) .Add (.list (.cons (.lit (.str "num") 0 ⟨171, 29, 171, 34⟩) .nil) ⟨171, 28, 171, 35⟩) ⟨171, 11, 171, 35⟩) ⟨171, 4, 171, 35⟩)
    .nil))))))
noncomputable def S_law_plainly : Scope := {
              kind := PySem.ScopeKind.function,
              names := [
                (PySem.Str.ofString "_law_kinds_here", PySem.NameKind.local),
                (PySem.Str.ofString "_law_row", PySem.NameKind.local),
                (PySem.Str.ofString "_law_left_here", PySem.NameKind.local),
                (PySem.Str.ofString "len", PySem.NameKind.globalImplicit),
                (PySem.Str.ofString "_law_wanted", PySem.NameKind.globalImplicit)],
              isGenerator := false,
              isCoroutine := false,
              more := [] : PySem.Scope }

noncomputable def N_law_called : List Str := ["_law_told_here", "_law_kinds_here", "_law_name", "_law_ins", "_law_word"]
noncomputable def B_law_called : ASs :=
    (.cons (.assign 3 ⟨173, 4, 173, 12⟩ (.blt .list (.cons (.sub (.sub (.var 0 ⟨173, 20, 173, 34⟩) (.var 2 ⟨173, 35, 173, 44⟩) ⟨173, 20, 173, 45⟩) (.lit (.int 0) 0 ⟨173, 46, 173, 47⟩) ⟨173, 20, 173, 48⟩) .nil) ⟨173, 15, 173, 19⟩ ⟨173, 15, 173, 49⟩) ⟨173, 4, 173, 49⟩)
    (.cons (.assign 4 ⟨174, 4, 174, 13⟩ (.call "_law_lack" (.cons (.var 1 ⟨174, 26, 174, 41⟩) (.cons (.var 3 ⟨174, 43, 174, 51⟩) .nil)) ⟨174, 16, 174, 25⟩ ⟨174, 16, 174, 52⟩) ⟨174, 4, 174, 52⟩)
    (.cons (.ite (.cmp (.var 4 ⟨175, 7, 175, 16⟩) .NotEq (.lit (.str "") 0 ⟨175, 20, 175, 22⟩) ⟨175, 7, 175, 22⟩) (.cons (.ret (.tup (.cons (.var 4 ⟨176, 16, 176, 25⟩) (.cons (.var 1 ⟨176, 27, 176, 42⟩) .nil)) 0 ⟨176, 15, 176, 43⟩) ⟨176, 8, 176, 43⟩)
    .nil) .nil ⟨175, 4, 176, 43⟩)
    (.cons (.ret (.tup (.cons (.lit (.str "") 0 ⟨177, 12, 177, 14⟩) (.cons (.bin (.sto (.var 1 ⟨177, 16, 177, 31⟩) (.bin (.blt .len (.cons (.var 1 ⟨177, 37, 177, 52⟩) .nil) ⟨177, 33, 177, 36⟩ ⟨177, 33, 177, 53⟩) .Sub (.blt .len (.cons (.var 3 ⟨177, 60, 177, 68⟩) .nil) ⟨177, 56, 177, 59⟩ ⟨177, 56, 177, 69⟩) ⟨177, 33, 177, 69⟩) ⟨177, 32, 177, 69⟩ ⟨177, 16, 177, 70⟩) .Add (.blt .list (.cons (.sub (.sub (.var 0 ⟨177, 78, 177, 92⟩) (.var 2 ⟨177, 93, 177, 102⟩) ⟨177, 78, 177, 103⟩) (.lit (.int 1) 0 ⟨177, 104, 177, 105⟩) ⟨177, 78, 177, 106⟩) .nil) ⟨177, 73, 177, 77⟩ ⟨177, 73, 177, 107⟩) ⟨177, 16, 177, 107⟩) .nil)) 0 ⟨177, 11, 177, 108⟩) ⟨177, 4, 177, 108⟩)
    .nil))))
noncomputable def S_law_called : Scope := {
              kind := PySem.ScopeKind.function,
              names := [
                (PySem.Str.ofString "_law_told_here", PySem.NameKind.local),
                (PySem.Str.ofString "_law_kinds_here", PySem.NameKind.local),
                (PySem.Str.ofString "_law_name", PySem.NameKind.local),
                (PySem.Str.ofString "_law_ins", PySem.NameKind.local),
                (PySem.Str.ofString "_law_word", PySem.NameKind.local),
                (PySem.Str.ofString "list", PySem.NameKind.globalImplicit),
                (PySem.Str.ofString "_law_lack", PySem.NameKind.globalImplicit),
                (PySem.Str.ofString "len", PySem.NameKind.globalImplicit)],
              isGenerator := false,
              isCoroutine := false,
              more := [] : PySem.Scope }

noncomputable def N_law_next : List Str := ["_law_told_here", "_law_kinds_here", "_law_row", "_law_word"]
noncomputable def B_law_next : ASs :=
    (.cons (.ite (.cmp (.sub (.var 2 ⟨179, 7, 179, 15⟩) (.lit (.int 0) 0 ⟨179, 16, 179, 17⟩) ⟨179, 7, 179, 18⟩) .Eq (.lit (.str "call") 0 ⟨179, 22, 179, 28⟩) ⟨179, 7, 179, 28⟩) (.cons (.ite (.cmp (.sub (.var 2 ⟨180, 11, 180, 19⟩) (.lit (.int 1) 0 ⟨180, 20, 180, 21⟩) ⟨180, 11, 180, 22⟩) .NotIn (.var 0 ⟨180, 30, 180, 44⟩) ⟨180, 11, 180, 44⟩) (.cons (.ret (.tup (.cons (.lit (.str "block") 0 ⟨181, 20, 181, 27⟩) (.cons (.var 1 ⟨181, 29, 181, 44⟩) .nil)) 0 ⟨181, 19, 181, 45⟩) ⟨181, 12, 181, 45⟩)
    .nil) .nil ⟨180, 8, 181, 45⟩)
    (.cons (.ret (.call "_law_called" (.cons (.var 0 ⟨182, 27, 182, 41⟩) (.cons (.var 1 ⟨182, 43, 182, 58⟩) (.cons (.sub (.var 2 ⟨182, 60, 182, 68⟩) (.lit (.int 1) 0 ⟨182, 69, 182, 70⟩) ⟨182, 60, 182, 71⟩) .nil))) ⟨182, 15, 182, 26⟩ ⟨182, 15, 182, 72⟩) ⟨182, 8, 182, 72⟩)
    .nil)) .nil ⟨179, 4, 182, 72⟩)
    (.cons (.ite (.cmp (.sub (.var 2 ⟨183, 7, 183, 15⟩) (.lit (.int 0) 0 ⟨183, 16, 183, 17⟩) ⟨183, 7, 183, 18⟩) .Eq (.lit (.str "if") 0 ⟨183, 22, 183, 26⟩) ⟨183, 7, 183, 26⟩) (.cons (.assign 3 ⟨184, 8, 184, 17⟩ (.call "_law_lack" (.cons (.var 1 ⟨184, 30, 184, 45⟩) (.cons (.list (.cons (.lit (.str "num") 0 ⟨184, 48, 184, 53⟩) .nil) ⟨184, 47, 184, 54⟩) .nil)) ⟨184, 20, 184, 29⟩ ⟨184, 20, 184, 55⟩) ⟨184, 8, 184, 55⟩)
    (.cons (.ite (.cmp (.var 3 ⟨185, 11, 185, 20⟩) .NotEq (.lit (.str "") 0 ⟨185, 24, 185, 26⟩) ⟨185, 11, 185, 26⟩) (.cons (.ret (.tup (.cons (.var 3 ⟨186, 20, 186, 29⟩) (.cons (.var 1 ⟨186, 31, 186, 46⟩) .nil)) 0 ⟨186, 19, 186, 47⟩) ⟨186, 12, 186, 47⟩)
    .nil) .nil ⟨185, 8, 186, 47⟩)
    (.cons (.ite (.bop .Or (.cons (.cmp (.sub (.var 2 ⟨187, 11, 187, 19⟩) (.lit (.int 1) 0 ⟨187, 20, 187, 21⟩) ⟨187, 11, 187, 22⟩) .NotIn (.var 0 ⟨187, 30, 187, 44⟩) ⟨187, 11, 187, 44⟩) (.cons (.cmp (.sub (.var 2 ⟨187, 48, 187, 56⟩) (.lit (.int 2) 0 ⟨187, 57, 187, 58⟩) ⟨187, 48, 187, 59⟩) .NotIn (.var 0 ⟨187, 67, 187, 81⟩) ⟨187, 48, 187, 81⟩) .nil)) ⟨187, 11, 187, 81⟩) (.cons (.ret (.tup (.cons (.lit (.str "block") 0 ⟨188, 20, 188, 27⟩) (.cons (.var 1 ⟨188, 29, 188, 44⟩) .nil)) 0 ⟨188, 19, 188, 45⟩) ⟨188, 12, 188, 45⟩)
    .nil) .nil ⟨187, 8, 188, 45⟩)
    (.cons (.ite (.bop .Or (.cons (.cmp (.sub (.sub (.var 0 ⟨189, 11, 189, 25⟩) (.sub (.var 2 ⟨189, 26, 189, 34⟩) (.lit (.int 1) 0 ⟨189, 35, 189, 36⟩) ⟨189, 26, 189, 37⟩) ⟨189, 11, 189, 38⟩) (.lit (.int 0) 0 ⟨189, 39, 189, 40⟩) ⟨189, 11, 189, 41⟩) .NotEq (.sub (.sub (.var 0 ⟨189, 45, 189, 59⟩) (.sub (.var 2 ⟨189, 60, 189, 68⟩) (.lit (.int 2) 0 ⟨189, 69, 189, 70⟩) ⟨189, 60, 189, 71⟩) ⟨189, 45, 189, 72⟩) (.lit (.int 0) 0 ⟨189, 73, 189, 74⟩) ⟨189, 45, 189, 75⟩) ⟨189, 11, 189, 75⟩) (.cons (.cmp (.sub (.sub (.var 0 ⟨189, 79, 189, 93⟩) (.sub (.var 2 ⟨189, 94, 189, 102⟩) (.lit (.int 1) 0 ⟨189, 103, 189, 104⟩) ⟨189, 94, 189, 105⟩) ⟨189, 79, 189, 106⟩) (.lit (.int 1) 0 ⟨189, 107, 189, 108⟩) ⟨189, 79, 189, 109⟩) .NotEq (.sub (.sub (.var 0 ⟨189, 113, 189, 127⟩) (.sub (.var 2 ⟨189, 128, 189, 136⟩) (.lit (.int 2) 0 ⟨189, 137, 189, 138⟩) ⟨189, 128, 189, 139⟩) ⟨189, 113, 189, 140⟩) (.lit (.int 1) 0 ⟨189, 141, 189, 142⟩) ⟨189, 113, 189, 143⟩) ⟨189, 79, 189, 143⟩) .nil)) ⟨189, 11, 189, 143⟩) (.cons (.ret (.tup (.cons (.lit (.str "apart") 0 ⟨190, 20, 190, 27⟩) (.cons (.var 1 ⟨190, 29, 190, 44⟩) .nil)) 0 ⟨190, 19, 190, 45⟩) ⟨190, 12, 190, 45⟩)
    .nil) .nil ⟨189, 8, 190, 45⟩)
    (.cons (.ret (.call "_law_called" (.cons (.var 0 ⟨191, 27, 191, 41⟩) (.cons (.sto (.var 1 ⟨191, 43, 191, 58⟩) (.neg (.lit (.int 1) 0 ⟨191, 61, 191, 62⟩) ⟨191, 60, 191, 62⟩) ⟨191, 59, 191, 62⟩ ⟨191, 43, 191, 63⟩) (.cons (.sub (.var 2 ⟨191, 65, 191, 73⟩) (.lit (.int 1) 0 ⟨191, 74, 191, 75⟩) ⟨191, 65, 191, 76⟩) .nil))) ⟨191, 15, 191, 26⟩ ⟨191, 15, 191, 77⟩) ⟨191, 8, 191, 77⟩)
    .nil))))) .nil ⟨183, 4, 191, 77⟩)
    (.cons (.assign 3 ⟨192, 4, 192, 13⟩ (.call "_law_lack" (.cons (.var 1 ⟨192, 26, 192, 41⟩) (.cons (.call "_law_wanted" (.cons (.var 2 ⟨192, 55, 192, 63⟩) .nil) ⟨192, 43, 192, 54⟩ ⟨192, 43, 192, 64⟩) .nil)) ⟨192, 16, 192, 25⟩ ⟨192, 16, 192, 65⟩) ⟨192, 4, 192, 65⟩)
    (.cons (.ite (.cmp (.var 3 ⟨193, 7, 193, 16⟩) .NotEq (.lit (.str "") 0 ⟨193, 20, 193, 22⟩) ⟨193, 7, 193, 22⟩) (.cons (.ret (.tup (.cons (.var 3 ⟨194, 16, 194, 25⟩) (.cons (.var 1 ⟨194, 27, 194, 42⟩) .nil)) 0 ⟨194, 15, 194, 43⟩) ⟨194, 8, 194, 43⟩)
    .nil) .nil ⟨193, 4, 194, 43⟩)
    (.cons (.ret (.tup (.cons (.lit (.str "") 0 ⟨195, 12, 195, 14⟩) (.cons (.call "_law_plainly" (.cons (.var 1 ⟨195, 29, 195, 44⟩) (.cons (.var 2 ⟨195, 46, 195, 54⟩) .nil)) ⟨195, 16, 195, 28⟩ ⟨195, 16, 195, 55⟩) .nil)) 0 ⟨195, 11, 195, 56⟩) ⟨195, 4, 195, 56⟩)
    .nil)))))
noncomputable def S_law_next : Scope := {
              kind := PySem.ScopeKind.function,
              names := [
                (PySem.Str.ofString "_law_told_here", PySem.NameKind.local),
                (PySem.Str.ofString "_law_kinds_here", PySem.NameKind.local),
                (PySem.Str.ofString "_law_row", PySem.NameKind.local),
                (PySem.Str.ofString "_law_word", PySem.NameKind.local),
                (PySem.Str.ofString "_law_called", PySem.NameKind.globalImplicit),
                (PySem.Str.ofString "_law_lack", PySem.NameKind.globalImplicit),
                (PySem.Str.ofString "_law_wanted", PySem.NameKind.globalImplicit),
                (PySem.Str.ofString "_law_plainly", PySem.NameKind.globalImplicit)],
              isGenerator := false,
              isCoroutine := false,
              more := [] : PySem.Scope }

noncomputable def N_law_plain_row : List Str := ["_law_script", "_law_tape", "_law_some", "_law_word"]
noncomputable def B_law_plain_row : ASs :=
    (.cons (.assign 2 ⟨197, 4, 197, 13⟩ (.list (.cons (.lit (.str "num") 0 ⟨197, 17, 197, 22⟩) (.cons (.lit (.str "text") 0 ⟨197, 24, 197, 30⟩) (.cons (.lit (.str "add") 0 ⟨197, 32, 197, 37⟩) (.cons (.lit (.str "mul") 0 ⟨197, 39, 197, 44⟩) (.cons (.lit (.str "less") 0 ⟨197, 46, 197, 52⟩) (.cons (.lit (.str "join") 0 ⟨197, 54, 197, 60⟩) (.cons (.lit (.str "long") 0 ⟨197, 62, 197, 68⟩) (.cons (.lit (.str "show") 0 ⟨197, 70, 197, 76⟩) (.cons (.lit (.str "swap") 0 ⟨197, 78, 197, 84⟩) (.cons (.lit (.str "drop") 0 ⟨197, 86, 197, 92⟩) (.cons (.lit (.str "copy") 0 ⟨197, 94, 197, 100⟩) (.cons (.lit (.str "copy") 0 ⟨197, 102, 197, 108⟩) (.cons (.lit (.str "copy") 0 ⟨197, 110, 197, 116⟩) .nil))))))))))))) ⟨197, 16, 197, 117⟩) ⟨197, 4, 197, 117⟩)
    (.cons (.assign 3 ⟨198, 4, 198, 13⟩ (.sub (.var 2 ⟨198, 16, 198, 25⟩) (.call "_law_draw" (.cons (.var 0 ⟨198, 36, 198, 47⟩) (.cons (.var 1 ⟨198, 49, 198, 58⟩) (.cons (.lit (.int 13) 0 ⟨198, 60, 198, 62⟩) .nil))) ⟨198, 26, 198, 35⟩ ⟨198, 26, 198, 63⟩) ⟨198, 16, 198, 64⟩) ⟨198, 4, 198, 64⟩)
    (.cons (.ite (.bop .Or (.cons (.cmp (.var 3 ⟨199, 7, 199, 16⟩) .Eq (.lit (.str "num") 0 ⟨199, 20, 199, 25⟩) ⟨199, 7, 199, 25⟩) (.cons (.cmp (.var 3 ⟨199, 29, 199, 38⟩) .Eq (.lit (.str "text") 0 ⟨199, 42, 199, 48⟩) ⟨199, 29, 199, 48⟩) .nil)) ⟨199, 7, 199, 48⟩) (.cons (.ret (.tup (.cons (.var 3 ⟨200, 16, 200, 25⟩) (.cons (.call "_law_value" (.cons (.var 0 ⟨200, 38, 200, 49⟩) (.cons (.var 1 ⟨200, 51, 200, 60⟩) (.cons (.var 3 ⟨200, 62, 200, 71⟩) .nil))) ⟨200, 27, 200, 37⟩ ⟨200, 27, 200, 72⟩) .nil)) 0 ⟨200, 15, 200, 73⟩) ⟨200, 8, 200, 73⟩)
    .nil) .nil ⟨199, 4, 200, 73⟩)
    (.cons (.ite (.cmp (.var 3 ⟨201, 7, 201, 16⟩) .Eq (.lit (.str "copy") 0 ⟨201, 20, 201, 26⟩) ⟨201, 7, 201, 26⟩) (.cons (.ret (.tup (.cons (.var 3 ⟨202, 16, 202, 25⟩) (.cons (.sub (.list (.cons (.lit (.int 0) 0 ⟨202, 28, 202, 29⟩) (.cons (.lit (.int 0) 0 ⟨202, 31, 202, 32⟩) (.cons (.lit (.int 1) 0 ⟨202, 34, 202, 35⟩) (.cons (.lit (.int 1) 0 ⟨202, 37, 202, 38⟩) (.cons (.lit (.int 2) 0 ⟨202, 40, 202, 41⟩) (.cons (.lit (.int 3) 0 ⟨202, 43, 202, 44⟩) (.cons (.call "_law_draw" (.cons (.var 0 ⟨202, 56, 202, 67⟩) (.cons (.var 1 ⟨202, 69, 202, 78⟩) (.cons (.lit (.int 61) 0 ⟨202, 80, 202, 82⟩) .nil))) ⟨202, 46, 202, 55⟩ ⟨202, 46, 202, 83⟩) (.cons (.lit (.int 60) 0 ⟨202, 85, 202, 87⟩) .nil)))))))) ⟨202, 27, 202, 88⟩) (.call "_law_draw" (.cons (.var 0 ⟨202, 99, 202, 110⟩) (.cons (.var 1 ⟨202, 112, 202, 121⟩) (.cons (.lit (.int 8) 0 ⟨202, 123, 202, 124⟩) .nil))) ⟨202, 89, 202, 98⟩ ⟨202, 89, 202, 125⟩) ⟨202, 27, 202, 126⟩) .nil)) 0 ⟨202, 15, 202, 127⟩) ⟨202, 8, 202, 127⟩)
    .nil) .nil ⟨201, 4, 202, 127⟩)
    (.cons (.ret (.tup (.cons (.var 3 ⟨203, 12, 203, 21⟩) .nil) 0 ⟨203, 11, 203, 23⟩) ⟨203, 4, 203, 23⟩)
    .nil)))))
noncomputable def S_law_plain_row : Scope := {
              kind := PySem.ScopeKind.function,
              names := [
                (PySem.Str.ofString "_law_script", PySem.NameKind.local),
                (PySem.Str.ofString "_law_tape", PySem.NameKind.local),
                (PySem.Str.ofString "_law_some", PySem.NameKind.local),
                (PySem.Str.ofString "_law_word", PySem.NameKind.local),
                (PySem.Str.ofString "_law_draw", PySem.NameKind.globalImplicit),
                (PySem.Str.ofString "_law_value", PySem.NameKind.globalImplicit)],
              isGenerator := false,
              isCoroutine := false,
              more := [] : PySem.Scope }

noncomputable def N_law_kinds : List Str := ["_law_script", "_law_tape", "_law_k"]
noncomputable def B_law_kinds : ASs :=
    (.cons (.ret (.blt .tuple (.cons (.comp (.sub (.list (.cons (.lit (.str "num") 0 ⟨205, 19, 205, 24⟩) (.cons (.lit (.str "text") 0 ⟨205, 26, 205, 32⟩) .nil)) ⟨205, 18, 205, 33⟩) (.call "_law_draw" (.cons (.var 0 ⟨205, 44, 205, 55⟩) (.cons (.var 1 ⟨205, 57, 205, 66⟩) (.cons (.lit (.int 2) 0 ⟨205, 68, 205, 69⟩) .nil))) ⟨205, 34, 205, 43⟩ ⟨205, 34, 205, 70⟩) ⟨205, 18, 205, 71⟩) 2 ⟨205, 76, 205, 82⟩ (.blt .range (.cons (.call "_law_draw" (.cons (.var 0 ⟨205, 102, 205, 113⟩) (.cons (.var 1 ⟨205, 115, 205, 124⟩) (.cons (.lit (.int 4) 0 ⟨205, 126, 205, 127⟩) .nil))) ⟨205, 92, 205, 101⟩ ⟨205, 92, 205, 128⟩) .nil) ⟨205, 86, 205, 91⟩ ⟨205, 86, 205, 129⟩) .nil {                           kind := PySem.ScopeKind.function,                           names := [                             (PySem.Str.ofString ".0", PySem.NameKind.local),                             (PySem.Str.ofString "_law_k", PySem.NameKind.local),                             (PySem.Str.ofString "_law_draw", PySem.NameKind.globalImplicit),                             (PySem.Str.ofString "_law_script", PySem.NameKind.free),                             (PySem.Str.ofString "_law_tape", PySem.NameKind.free)],                           isGenerator := false,                           isCoroutine := false,                           more := [] : PySem.Scope } ⟨205, 17, 205, 130⟩) .nil) ⟨205, 11, 205, 16⟩ ⟨205, 11, 205, 131⟩) ⟨205, 4, 205, 131⟩)
    .nil)
noncomputable def S_law_kinds : Scope := {
              kind := PySem.ScopeKind.function,
              names := [
                (PySem.Str.ofString "_law_script", PySem.NameKind.cell),
                (PySem.Str.ofString "_law_tape", PySem.NameKind.cell),
                (PySem.Str.ofString "tuple", PySem.NameKind.globalImplicit),
                (PySem.Str.ofString "range", PySem.NameKind.globalImplicit),
                (PySem.Str.ofString "_law_draw", PySem.NameKind.globalImplicit)],
              isGenerator := false,
              isCoroutine := false,
              more := [
                (PySem.Str.ofString "fast", (PySem.Const.str "_law_script")),
                (PySem.Str.ofString "fast", (PySem.Const.str "_law_tape")),
                (PySem.Str.ofString "fast", (PySem.Const.str "_law_k"))] : PySem.Scope }

noncomputable def N_law_told : List Str := ["_law_script", "_law_tape", "_law_told_here", "_law_begin", "_law_kept", "_law_k"]
noncomputable def B_law_told : ASs :=
    (.cons (.assign 2 ⟨207, 4, 207, 18⟩ (.dict [] .nil ⟨207, 21, 207, 23⟩) ⟨207, 4, 207, 23⟩)
    (.cons (.assign 3 ⟨208, 4, 208, 14⟩ (.call "_law_words" (.cons (.call "_law_draw" (.cons (.var 0 ⟨208, 38, 208, 49⟩) (.cons (.var 1 ⟨208, 51, 208, 60⟩) (.cons (.lit (.int 1000) 0 ⟨208, 62, 208, 66⟩) .nil))) ⟨208, 28, 208, 37⟩ ⟨208, 28, 208, 67⟩) (.cons (.sub (.list (.cons (.lit (.int 0) 0 ⟨208, 70, 208, 71⟩) (.cons (.lit (.int 2) 0 ⟨208, 73, 208, 74⟩) (.cons (.lit (.int 50) 0 ⟨208, 76, 208, 78⟩) .nil))) ⟨208, 69, 208, 79⟩) (.call "_law_draw" (.cons (.var 0 ⟨208, 90, 208, 101⟩) (.cons (.var 1 ⟨208, 103, 208, 112⟩) (.cons (.lit (.int 3) 0 ⟨208, 114, 208, 115⟩) .nil))) ⟨208, 80, 208, 89⟩ ⟨208, 80, 208, 116⟩) ⟨208, 69, 208, 117⟩) .nil)) ⟨208, 17, 208, 27⟩ ⟨208, 17, 208, 118⟩) ⟨208, 4, 208, 118⟩)
    (.cons (.assign 4 ⟨209, 4, 209, 13⟩ (.tup (.cons (.tup (.cons (.lit (.str "num") 0 ⟨209, 18, 209, 23⟩) .nil) 0 ⟨209, 17, 209, 25⟩) (.cons (.tup (.cons (.lit (.str "num") 0 ⟨209, 28, 209, 33⟩) .nil) 0 ⟨209, 27, 209, 35⟩) .nil)) 0 ⟨209, 16, 209, 36⟩) ⟨209, 4, 209, 36⟩)
    (.cons (.for 5 ⟨210, 8, 210, 14⟩ (.blt .range (.cons (.bin (.lit (.int 1) 0 ⟨210, 24, 210, 25⟩) .Add (.call "_law_draw" (.cons (.var 0 ⟨210, 38, 210, 49⟩) (.cons (.var 1 ⟨210, 51, 210, 60⟩) (.cons (.lit (.int 5) 0 ⟨210, 62, 210, 63⟩) .nil))) ⟨210, 28, 210, 37⟩ ⟨210, 28, 210, 64⟩) ⟨210, 24, 210, 64⟩) .nil) ⟨210, 18, 210, 23⟩ ⟨210, 18, 210, 65⟩) (.cons (.ite (.bop .Or (.cons (.cmp (.var 5 ⟨211, 11, 211, 17⟩) .Eq (.lit (.int 0) 0 ⟨211, 21, 211, 22⟩) ⟨211, 11, 211, 22⟩) (.cons (.cmp (.call "_law_draw" (.cons (.var 0 ⟨211, 36, 211, 47⟩) (.cons (.var 1 ⟨211, 49, 211, 58⟩) (.cons (.lit (.int 2) 0 ⟨211, 60, 211, 61⟩) .nil))) ⟨211, 26, 211, 35⟩ ⟨211, 26, 211, 62⟩) .Eq (.lit (.int 0) 0 ⟨211, 66, 211, 67⟩) ⟨211, 26, 211, 67⟩) .nil)) ⟨211, 11, 211, 67⟩) (.cons (.assign 4 ⟨212, 12, 212, 21⟩ (.tup (.cons (.call "_law_kinds" (.cons (.var 0 ⟨212, 36, 212, 47⟩) (.cons (.var 1 ⟨212, 49, 212, 58⟩) .nil)) ⟨212, 25, 212, 35⟩ ⟨212, 25, 212, 59⟩) (.cons (.call "_law_kinds" (.cons (.var 0 ⟨212, 72, 212, 83⟩) (.cons (.var 1 ⟨212, 85, 212, 94⟩) .nil)) ⟨212, 61, 212, 71⟩ ⟨212, 61, 212, 95⟩) .nil)) 0 ⟨212, 24, 212, 96⟩) ⟨212, 12, 212, 96⟩)
    .nil) .nil ⟨211, 8, 212, 96⟩)
    (.cons (.store (.var 2 ⟨213, 8, 213, 22⟩) (.bin (.bin (.var 3 ⟨213, 23, 213, 33⟩) .Add (.sub (.lit (.str "abcde") 0 ⟨213, 36, 213, 43⟩) (.var 5 ⟨213, 44, 213, 50⟩) ⟨213, 36, 213, 51⟩) ⟨213, 23, 213, 51⟩) .Add (.var 3 ⟨213, 54, 213, 64⟩) ⟨213, 23, 213, 64⟩) ⟨213, 8, 213, 65⟩ (.var 4 ⟨213, 68, 213, 77⟩) ⟨213, 8, 213, 77⟩)
    .nil)) ⟨210, 4, 213, 77⟩)
    (.cons (.ret (.var 2 ⟨214, 11, 214, 25⟩) ⟨214, 4, 214, 25⟩)
    .nil)))))
noncomputable def S_law_told : Scope := {
              kind := PySem.ScopeKind.function,
              names := [
                (PySem.Str.ofString "_law_script", PySem.NameKind.local),
                (PySem.Str.ofString "_law_tape", PySem.NameKind.local),
                (PySem.Str.ofString "_law_told_here", PySem.NameKind.local),
                (PySem.Str.ofString "_law_begin", PySem.NameKind.local),
                (PySem.Str.ofString "_law_kept", PySem.NameKind.local),
                (PySem.Str.ofString "_law_k", PySem.NameKind.local),
                (PySem.Str.ofString "_law_words", PySem.NameKind.globalImplicit),
                (PySem.Str.ofString "_law_draw", PySem.NameKind.globalImplicit),
                (PySem.Str.ofString "range", PySem.NameKind.globalImplicit),
                (PySem.Str.ofString "_law_kinds", PySem.NameKind.globalImplicit)],
              isGenerator := false,
              isCoroutine := false,
              more := [] : PySem.Scope }

noncomputable def N_law_pushes : List Str := ["_law_script", "_law_tape", "_law_kinds_here", "_law_kind"]
noncomputable def B_law_pushes : ASs :=
    (.cons (.ret (.comp (.tup (.cons (.var 3 ⟨216, 13, 216, 22⟩) (.cons (.call "_law_value" (.cons (.var 0 ⟨216, 35, 216, 46⟩) (.cons (.var 1 ⟨216, 48, 216, 57⟩) (.cons (.var 3 ⟨216, 59, 216, 68⟩) .nil))) ⟨216, 24, 216, 34⟩ ⟨216, 24, 216, 69⟩) .nil)) 0 ⟨216, 12, 216, 70⟩) 3 ⟨216, 75, 216, 84⟩ (.var 2 ⟨216, 88, 216, 103⟩) .nil {                       kind := PySem.ScopeKind.function,                       names := [                         (PySem.Str.ofString ".0", PySem.NameKind.local),                         (PySem.Str.ofString "_law_kind", PySem.NameKind.local),                         (PySem.Str.ofString "_law_value", PySem.NameKind.globalImplicit),                         (PySem.Str.ofString "_law_script", PySem.NameKind.free),                         (PySem.Str.ofString "_law_tape", PySem.NameKind.free)],                       isGenerator := false,                       isCoroutine := false,                       more := [] : PySem.Scope } ⟨216, 11, 216, 104⟩) ⟨216, 4, 216, 104⟩)
    .nil)
noncomputable def S_law_pushes : Scope := {
              kind := PySem.ScopeKind.function,
              names := [
                (PySem.Str.ofString "_law_script", PySem.NameKind.cell),
                (PySem.Str.ofString "_law_tape", PySem.NameKind.cell),
                (PySem.Str.ofString "_law_kinds_here", PySem.NameKind.local)],
              isGenerator := false,
              isCoroutine := false,
              more := [
                (PySem.Str.ofString "fast", (PySem.Const.str "_law_script")),
                (PySem.Str.ofString "fast", (PySem.Const.str "_law_tape")),
                (PySem.Str.ofString "fast", (PySem.Const.str "_law_kinds_here")),
                (PySem.Str.ofString "fast", (PySem.Const.str "_law_kind"))] : PySem.Scope }

noncomputable def N_law_choice : List Str := ["_law_script", "_law_tape", "_law_told_here", "_law_names", "_law_kinds_here", "_law_name", "_law_other", "_law_like", "_law_value_here", "_law_other"]
noncomputable def B_law_choice : ASs :=
    (.cons (.assign 5 ⟨218, 4, 218, 13⟩ (.sub (.var 3 ⟨218, 16, 218, 26⟩) (.call "_law_draw" (.cons (.var 0 ⟨218, 37, 218, 48⟩) (.cons (.var 1 ⟨218, 50, 218, 59⟩) (.cons (.blt .len (.cons (.var 3 ⟨218, 65, 218, 75⟩) .nil) ⟨218, 61, 218, 64⟩ ⟨218, 61, 218, 76⟩) .nil))) ⟨218, 27, 218, 36⟩ ⟨218, 27, 218, 77⟩) ⟨218, 16, 218, 78⟩) ⟨218, 4, 218, 78⟩)
    (.cons (.ite (.cmp (.call "_law_draw" (.cons (.var 0 ⟨219, 17, 219, 28⟩) (.cons (.var 1 ⟨219, 30, 219, 39⟩) (.cons (.lit (.int 2) 0 ⟨219, 41, 219, 42⟩) .nil))) ⟨219, 7, 219, 16⟩ ⟨219, 7, 219, 43⟩) .Eq (.lit (.int 0) 0 ⟨219, 47, 219, 48⟩) ⟨219, 7, 219, 48⟩) (.cons (.ite (.bop .And (.cons (.cmp (.call "_law_lack" (.cons (.var 4 ⟨220, 21, 220, 36⟩) (.cons (.blt .list (.cons (.sub (.sub (.var 2 ⟨220, 43, 220, 57⟩) (.var 5 ⟨220, 58, 220, 67⟩) ⟨220, 43, 220, 68⟩) (.lit (.int 0) 0 ⟨220, 69, 220, 70⟩) ⟨220, 43, 220, 71⟩) .nil) ⟨220, 38, 220, 42⟩ ⟨220, 38, 220, 72⟩) .nil)) ⟨220, 11, 220, 20⟩ ⟨220, 11, 220, 73⟩) .Eq (.lit (.str "") 0 ⟨220, 77, 220, 79⟩) ⟨220, 11, 220, 79⟩) (.cons (.cmp (.call "_law_draw" (.cons (.var 0 ⟨220, 94, 220, 105⟩) (.cons (.var 1 ⟨220, 107, 220, 116⟩) (.cons (.lit (.int 2) 0 ⟨220, 118, 220, 119⟩) .nil))) ⟨220, 84, 220, 93⟩ ⟨220, 84, 220, 120⟩) .Eq (.lit (.int 0) 0 ⟨220, 124, 220, 125⟩) ⟨220, 84, 220, 125⟩) .nil)) ⟨220, 11, 220, 125⟩) (.cons (.ret (.list (.cons (.tup (.cons (.lit (.str "call") 0 ⟨221, 21, 221, 27⟩) (.cons (.var 5 ⟨221, 29, 221, 38⟩) .nil)) 0 ⟨221, 20, 221, 39⟩) .nil) ⟨221, 19, 221, 40⟩) ⟨221, 12, 221, 40⟩)
    .nil) .nil ⟨220, 8, 221, 40⟩)
    (.cons (.ret (.bin (.call "_law_pushes" (.cons (.var 0 ⟨222, 27, 222, 38⟩) (.cons (.var 1 ⟨222, 40, 222, 49⟩) (.cons (.sub (.sub (.var 2 ⟨222, 51, 222, 65⟩) (.var 5 ⟨222, 66, 222, 75⟩) ⟨222, 51, 222, 76⟩) (.lit (.int 0) 0 ⟨222, 77, 222, 78⟩) ⟨222, 51, 222, 79⟩) .nil))) ⟨222, 15, 222, 26⟩ ⟨222, 15, 222, 80⟩) .Add (.list (.cons (.tup (.cons (.lit (.str "call") 0 ⟨222, 85, 222, 91⟩) (.cons (.var 5 ⟨222, 93, 222, 102⟩) .nil)) 0 ⟨222, 84, 222, 103⟩) .nil) ⟨222, 83, 222, 104⟩) ⟨222, 15, 222, 104⟩) ⟨222, 8, 222, 104⟩)
    .nil)) .nil ⟨219, 4, 222, 104⟩)
    (.cons (.assign 7 ⟨223, 4, 223, 13⟩ (.bin (.comp (.var 9 ⟨223, 17, 223, 27⟩) 9 ⟨223, 32, 223, 42⟩ (.var 3 ⟨223, 46, 223, 56⟩) (.cons (.bop .And (.cons (.cmp (.sub (.var 2 ⟨223, 60, 223, 74⟩) (.var 9 ⟨223, 75, 223, 85⟩) ⟨223, 60, 223, 86⟩) .Eq (.sub (.var 2 ⟨223, 90, 223, 104⟩) (.var 5 ⟨223, 105, 223, 114⟩) ⟨223, 90, 223, 115⟩) ⟨223, 60, 223, 115⟩) (.cons (.cmp (.var 9 ⟨223, 120, 223, 130⟩) .NotEq (.var 5 ⟨223, 134, 223, 143⟩) ⟨223, 120, 223, 143⟩) .nil)) ⟨223, 60, 223, 143⟩) .nil) {                       kind := PySem.ScopeKind.function,                       names := [                         (PySem.Str.ofString ".0", PySem.NameKind.local),                         (PySem.Str.ofString "_law_other", PySem.NameKind.local),                         (PySem.Str.ofString "_law_name", PySem.NameKind.free),                         (PySem.Str.ofString "_law_told_here", PySem.NameKind.free)],                       isGenerator := false,                       isCoroutine := false,                       more := [] : PySem.Scope } ⟨223, 16, 223, 144⟩) .Add (.list (.cons (.var 5 ⟨223, 148, 223, 157⟩) .nil) ⟨223, 147, 223, 158⟩) ⟨223, 16, 223, 158⟩) ⟨223, 4, 223, 158⟩)
    (.cons (.assign 6 ⟨224, 4, 224, 14⟩ (.sub (.var 7 ⟨224, 17, 224, 26⟩) (.bin (.call "_law_draw" (.cons (.var 0 ⟨224, 37, 224, 48⟩) (.cons (.var 1 ⟨224, 50, 224, 59⟩) (.cons (.lit (.int 1000) 0 ⟨224, 61, 224, 65⟩) .nil))) ⟨224, 27, 224, 36⟩ ⟨224, 27, 224, 66⟩) .Mod (.blt .max (.cons (.lit (.int 1) 0 ⟨224, 73, 224, 74⟩) (.cons (.bin (.blt .len (.cons (.var 7 ⟨224, 80, 224, 89⟩) .nil) ⟨224, 76, 224, 79⟩ ⟨224, 76, 224, 90⟩) .Sub (.lit (.int 1) 0 ⟨224, 93, 224, 94⟩) ⟨224, 76, 224, 94⟩) .nil)) ⟨224, 69, 224, 72⟩ ⟨224, 69, 224, 95⟩) ⟨224, 27, 224, 95⟩) ⟨224, 17, 224, 96⟩) ⟨224, 4, 224, 96⟩)
    (.cons (.assign 8 ⟨225, 4, 225, 19⟩ (.sub (.list (.cons (.lit (.int 0) 0 ⟨225, 23, 225, 24⟩) (.cons (.lit (.int 1) 0 ⟨225, 26, 225, 27⟩) (.cons (.lit (.int 2) 0 ⟨225, 29, 225, 30⟩) (.cons (.call "_law_value" (.cons (.var 0 ⟨225, 43, 225, 54⟩) (.cons (.var 1 ⟨225, 56, 225, 65⟩) (.cons (.lit (.str "num") 0 ⟨225, 67, 225, 72⟩) .nil))) ⟨225, 32, 225, 42⟩ ⟨225, 32, 225, 73⟩) .nil)))) ⟨225, 22, 225, 74⟩) (.call "_law_draw" (.cons (.var 0 ⟨225, 85, 225, 96⟩) (.cons (.var 1 ⟨225, 98, 225, 107⟩) (.cons (.lit (.int 4) 0 ⟨225, 109, 225, 110⟩) .nil))) ⟨225, 75, 225, 84⟩ ⟨225, 75, 225, 111⟩) ⟨225, 22, 225, 112⟩) ⟨225, 4, 225, 112⟩)
    (.cons (.ret (.bin (.call "_law_pushes" (.cons (.var 0 ⟨226, 23, 226, 34⟩) (.cons (.var 1 ⟨226, 36, 226, 45⟩) (.cons (.sub (.sub (.var 2 ⟨226, 47, 226, 61⟩) (.var 5 ⟨226, 62, 226, 71⟩) ⟨226, 47, 226, 72⟩) (.lit (.int 0) 0 ⟨226, 73, 226, 74⟩) ⟨226, 47, 226, 75⟩) .nil))) ⟨226, 11, 226, 22⟩ ⟨226, 11, 226, 76⟩) .Add (.list (.cons (.tup (.cons (.lit (.str "num") 0 ⟨226, 81, 226, 86⟩) (.cons (.var 8 ⟨226, 88, 226, 103⟩) .nil)) 0 ⟨226, 80, 226, 104⟩) (.cons (.tup (.cons (.lit (.str "if") 0 ⟨226, 107, 226, 111⟩) (.cons (.var 5 ⟨226, 113, 226, 122⟩) (.cons (.var 6 ⟨226, 124, 226, 134⟩) .nil))) 0 ⟨226, 106, 226, 135⟩) .nil)) ⟨226, 79, 226, 136⟩) ⟨226, 11, 226, 136⟩) ⟨226, 4, 226, 136⟩)
    .nil))))))
noncomputable def S_law_choice : Scope := {
              kind := PySem.ScopeKind.function,
              names := [
                (PySem.Str.ofString "_law_script", PySem.NameKind.local),
                (PySem.Str.ofString "_law_tape", PySem.NameKind.local),
                (PySem.Str.ofString "_law_told_here", PySem.NameKind.cell),
                (PySem.Str.ofString "_law_names", PySem.NameKind.local),
                (PySem.Str.ofString "_law_kinds_here", PySem.NameKind.local),
                (PySem.Str.ofString "_law_name", PySem.NameKind.cell),
                (PySem.Str.ofString "_law_other", PySem.NameKind.local),
                (PySem.Str.ofString "_law_like", PySem.NameKind.local),
                (PySem.Str.ofString "_law_value_here", PySem.NameKind.local),
                (PySem.Str.ofString "_law_draw", PySem.NameKind.globalImplicit),
                (PySem.Str.ofString "len", PySem.NameKind.globalImplicit),
                (PySem.Str.ofString "_law_lack", PySem.NameKind.globalImplicit),
                (PySem.Str.ofString "list", PySem.NameKind.globalImplicit),
                (PySem.Str.ofString "_law_pushes", PySem.NameKind.globalImplicit),
                (PySem.Str.ofString "max", PySem.NameKind.globalImplicit),
                (PySem.Str.ofString "_law_value", PySem.NameKind.globalImplicit)],
              isGenerator := false,
              isCoroutine := false,
              more := [
                (PySem.Str.ofString "fast", (PySem.Const.str "_law_script")),
                (PySem.Str.ofString "fast", (PySem.Const.str "_law_tape")),
                (PySem.Str.ofString "fast", (PySem.Const.str "_law_told_here")),
                (PySem.Str.ofString "fast", (PySem.Const.str "_law_names")),
                (PySem.Str.ofString "fast", (PySem.Const.str "_law_kinds_here")),
                (PySem.Str.ofString "fast", (PySem.Const.str "_law_name")),
                (PySem.Str.ofString "fast", (PySem.Const.str "_law_other")),
                (PySem.Str.ofString "fast", (PySem.Const.str "_law_like")),
                (PySem.Str.ofString "fast", (PySem.Const.str "_law_value_here"))] : PySem.Scope }

noncomputable def N_law_fitting : List Str := ["_law_script", "_law_tape", "_law_told_here", "_law_names", "_law_kinds_here", "_law_row"]
noncomputable def B_law_fitting : ASs :=
    (.cons (.ite (.bop .And (.cons (.cmp (.blt .len (.cons (.var 3 ⟨228, 11, 228, 21⟩) .nil) ⟨228, 7, 228, 10⟩ ⟨228, 7, 228, 22⟩) .Gt (.lit (.int 0) 0 ⟨228, 25, 228, 26⟩) ⟨228, 7, 228, 26⟩) (.cons (.cmp (.call "_law_draw" (.cons (.var 0 ⟨228, 41, 228, 52⟩) (.cons (.var 1 ⟨228, 54, 228, 63⟩) (.cons (.lit (.int 3) 0 ⟨228, 65, 228, 66⟩) .nil))) ⟨228, 31, 228, 40⟩ ⟨228, 31, 228, 67⟩) .Eq (.lit (.int 0) 0 ⟨228, 71, 228, 72⟩) ⟨228, 31, 228, 72⟩) .nil)) ⟨228, 7, 228, 72⟩) (.cons (.ret (.call "_law_choice" (.cons (.var 0 ⟨229, 27, 229, 38⟩) (.cons (.var 1 ⟨229, 40, 229, 49⟩) (.cons (.var 2 ⟨229, 51, 229, 65⟩) (.cons (.var 3 ⟨229, 67, 229, 77⟩) (.cons (.var 4 ⟨229, 79, 229, 94⟩) .nil))))) ⟨229, 15, 229, 26⟩ ⟨229, 15, 229, 95⟩) ⟨229, 8, 229, 95⟩)
    .nil) .nil ⟨228, 4, 229, 95⟩)
    (.cons (.assign 5 ⟨230, 4, 230, 12⟩ (.call "_law_plain_row" (.cons (.var 0 ⟨230, 30, 230, 41⟩) (.cons (.var 1 ⟨230, 43, 230, 52⟩) .nil)) ⟨230, 15, 230, 29⟩ ⟨230, 15, 230, 53⟩) ⟨230, 4, 230, 53⟩)
    (.cons (.ite (.cmp (.call "_law_lack" (.cons (.var 4 ⟨231, 17, 231, 32⟩) (.cons (.call "_law_wanted" (.cons (.var 5 ⟨231, 46, 231, 54⟩) .nil) ⟨231, 34, 231, 45⟩ ⟨231, 34, 231, 55⟩) .nil)) ⟨231, 7, 231, 16⟩ ⟨231, 7, 231, 56⟩) .Eq (.lit (.str "") 0 ⟨231, 60, 231, 62⟩) ⟨231, 7, 231, 62⟩) (.cons (.ret (.list (.cons (.var 5 ⟨232, 16, 232, 24⟩) .nil) ⟨232, 15, 232, 25⟩) ⟨232, 8, 232, 25⟩)
    .nil) .nil ⟨231, 4, 232, 25⟩)
    (.cons (.ret (.call "_law_pushes" (.cons (.var 0 ⟨233, 23, 233, 34⟩) (.cons (.var 1 ⟨233, 36, 233, 45⟩) (.cons (.list (.cons (.sub (.list (.cons (.lit (.str "num") 0 ⟨233, 49, 233, 54⟩) (.cons (.lit (.str "text") 0 ⟨233, 56, 233, 62⟩) .nil)) ⟨233, 48, 233, 63⟩) (.call "_law_draw" (.cons (.var 0 ⟨233, 74, 233, 85⟩) (.cons (.var 1 ⟨233, 87, 233, 96⟩) (.cons (.lit (.int 2) 0 ⟨233, 98, 233, 99⟩) .nil))) ⟨233, 64, 233, 73⟩ ⟨233, 64, 233, 100⟩) ⟨233, 48, 233, 101⟩) .nil) ⟨233, 47, 233, 102⟩) .nil))) ⟨233, 11, 233, 22⟩ ⟨233, 11, 233, 103⟩) ⟨233, 4, 233, 103⟩)
    .nil))))
noncomputable def S_law_fitting : Scope := {
              kind := PySem.ScopeKind.function,
              names := [
                (PySem.Str.ofString "_law_script", PySem.NameKind.local),
                (PySem.Str.ofString "_law_tape", PySem.NameKind.local),
                (PySem.Str.ofString "_law_told_here", PySem.NameKind.local),
                (PySem.Str.ofString "_law_names", PySem.NameKind.local),
                (PySem.Str.ofString "_law_kinds_here", PySem.NameKind.local),
                (PySem.Str.ofString "_law_row", PySem.NameKind.local),
                (PySem.Str.ofString "len", PySem.NameKind.globalImplicit),
                (PySem.Str.ofString "_law_draw", PySem.NameKind.globalImplicit),
                (PySem.Str.ofString "_law_choice", PySem.NameKind.globalImplicit),
                (PySem.Str.ofString "_law_plain_row", PySem.NameKind.globalImplicit),
                (PySem.Str.ofString "_law_lack", PySem.NameKind.globalImplicit),
                (PySem.Str.ofString "_law_wanted", PySem.NameKind.globalImplicit),
                (PySem.Str.ofString "_law_pushes", PySem.NameKind.globalImplicit)],
              isGenerator := false,
              isCoroutine := false,
              more := [] : PySem.Scope }

noncomputable def N_law_good_rows : List Str := ["_law_script", "_law_tape", "_law_told_here", "_law_name", "_law_names", "_law_ins", "_law_outs", "_law_kinds_here", "_law_rows", "_law_k", "_law_row", "_law_other", "_law_ends", "_law_other"]
noncomputable def B_law_good_rows : ASs :=
    (.cons (.assignT [(5, ⟨235, 4, 235, 12⟩), (6, ⟨235, 14, 235, 23⟩)] 0 ⟨235, 4, 235, 23⟩ (.sub (.var 2 ⟨235, 26, 235, 40⟩) (.var 3 ⟨235, 41, 235, 50⟩) ⟨235, 26, 235, 51⟩) ⟨235, 4, 235, 51⟩)
    (.cons (.assign 7 ⟨236, 4, 236, 19⟩ (.blt .list (.cons (.var 5 ⟨236, 27, 236, 35⟩) .nil) ⟨236, 22, 236, 26⟩ ⟨236, 22, 236, 36⟩) ⟨236, 4, 236, 36⟩)
    (.cons (.assign 8 ⟨237, 4, 237, 13⟩ (.list .nil ⟨237, 16, 237, 18⟩) ⟨237, 4, 237, 18⟩)
    (.cons (.for 9 ⟨238, 8, 238, 14⟩ (.blt .range (.cons (.call "_law_draw" (.cons (.var 0 ⟨238, 34, 238, 45⟩) (.cons (.var 1 ⟨238, 47, 238, 56⟩) (.cons (.lit (.int 6) 0 ⟨238, 58, 238, 59⟩) .nil))) ⟨238, 24, 238, 33⟩ ⟨238, 24, 238, 60⟩) .nil) ⟨238, 18, 238, 23⟩ ⟨238, 18, 238, 61⟩) (.cons (.for 10 ⟨239, 12, 239, 20⟩ (.call "_law_fitting" (.cons (.var 0 ⟨239, 37, 239, 48⟩) (.cons (.var 1 ⟨239, 50, 239, 59⟩) (.cons (.var 2 ⟨239, 61, 239, 75⟩) (.cons (.var 4 ⟨239, 77, 239, 87⟩) (.cons (.var 7 ⟨239, 89, 239, 104⟩) .nil))))) ⟨239, 24, 239, 36⟩ ⟨239, 24, 239, 105⟩) (.cons (.assign 7 ⟨240, 12, 240, 27⟩ (.sub (.call "_law_next" (.cons (.var 2 ⟨240, 40, 240, 54⟩) (.cons (.var 7 ⟨240, 56, 240, 71⟩) (.cons (.var 10 ⟨240, 73, 240, 81⟩) .nil))) ⟨240, 30, 240, 39⟩ ⟨240, 30, 240, 82⟩) (.lit (.int 1) 0 ⟨240, 83, 240, 84⟩) ⟨240, 30, 240, 85⟩) ⟨240, 12, 240, 85⟩)
    (.cons (.expr (.meth (.var 8 ⟨241, 12, 241, 21⟩) .append (.cons (.var 10 ⟨241, 29, 241, 37⟩) .nil) ⟨241, 12, 241, 28⟩ ⟨241, 12, 241, 38⟩) ⟨241, 12, 241, 38⟩)
    .nil)) ⟨239, 8, 241, 38⟩)
    .nil) ⟨238, 4, 241, 38⟩)
    (.cons (.assign 12 ⟨242, 4, 242, 13⟩ (.comp (.var 13 ⟨242, 17, 242, 27⟩) 13 ⟨242, 32, 242, 42⟩ (.var 4 ⟨242, 46, 242, 56⟩) (.cons (.cmp (.sub (.sub (.var 2 ⟨242, 60, 242, 74⟩) (.var 13 ⟨242, 75, 242, 85⟩) ⟨242, 60, 242, 86⟩) (.lit (.int 1) 0 ⟨242, 87, 242, 88⟩) ⟨242, 60, 242, 89⟩) .Eq (.var 6 ⟨242, 93, 242, 102⟩) ⟨242, 60, 242, 102⟩) .nil) {                     kind := PySem.ScopeKind.function,                     names := [                       (PySem.Str.ofString ".0", PySem.NameKind.local),                       (PySem.Str.ofString "_law_other", PySem.NameKind.local),                       (PySem.Str.ofString "_law_outs", PySem.NameKind.free),                       (PySem.Str.ofString "_law_told_here", PySem.NameKind.free)],                     isGenerator := false,                     isCoroutine := false,                     more := [] : PySem.Scope } ⟨242, 16, 242, 103⟩) ⟨242, 4, 242, 103⟩)
    (.cons (.ite (.bop .And (.cons (.cmp (.blt .len (.cons (.var 12 ⟨243, 11, 243, 20⟩) .nil) ⟨243, 7, 243, 10⟩ ⟨243, 7, 243, 21⟩) .Gt (.lit (.int 0) 0 ⟨243, 24, 243, 25⟩) ⟨243, 7, 243, 25⟩) (.cons (.cmp (.call "_law_draw" (.cons (.var 0 ⟨243, 40, 243, 51⟩) (.cons (.var 1 ⟨243, 53, 243, 62⟩) (.cons (.lit (.int 3) 0 ⟨243, 64, 243, 65⟩) .nil))) ⟨243, 30, 243, 39⟩ ⟨243, 30, 243, 66⟩) .Eq (.lit (.int 0) 0 ⟨243, 70, 243, 71⟩) ⟨243, 30, 243, 71⟩) .nil)) ⟨243, 7, 243, 71⟩) (.cons (.assign 11 ⟨244, 8, 244, 18⟩ (.sub (.var 12 ⟨244, 21, 244, 30⟩) (.bin (.call "_law_draw" (.cons (.var 0 ⟨244, 41, 244, 52⟩) (.cons (.var 1 ⟨244, 54, 244, 63⟩) (.cons (.lit (.int 1000) 0 ⟨244, 65, 244, 69⟩) .nil))) ⟨244, 31, 244, 40⟩ ⟨244, 31, 244, 70⟩) .Mod (.blt .len (.cons (.var 12 ⟨244, 77, 244, 86⟩) .nil) ⟨244, 73, 244, 76⟩ ⟨244, 73, 244, 87⟩) ⟨244, 31, 244, 87⟩) ⟨244, 21, 244, 88⟩) ⟨244, 8, 244, 88⟩)
    (.cons (.assign 8 ⟨245, 8, 245, 17⟩ (.bin (.var 8 ⟨245, 20, 245, 29⟩) .Add (.bin (.list (.cons (.tup (.cons (.lit (.str "drop") 0 ⟨245, 34, 245, 40⟩) .nil) 0 ⟨245, 33, 245, 42⟩) .nil) ⟨245, 32, 245, 43⟩) .Mult (.blt .len (.cons (.var 7 ⟨245, 50, 245, 65⟩) .nil) ⟨245, 46, 245, 49⟩ ⟨245, 46, 245, 66⟩) ⟨245, 32, 245, 66⟩) ⟨245, 20, 245, 66⟩) ⟨245, 8, 245, 66⟩)
    (.cons (.ret (.bin (.bin (.var 8 ⟨246, 15, 246, 24⟩) .Add (.call "_law_pushes" (.cons (.var 0 ⟨246, 39, 246, 50⟩) (.cons (.var 1 ⟨246, 52, 246, 61⟩) (.cons (.sub (.sub (.var 2 ⟨246, 63, 246, 77⟩) (.var 11 ⟨246, 78, 246, 88⟩) ⟨246, 63, 246, 89⟩) (.lit (.int 0) 0 ⟨246, 90, 246, 91⟩) ⟨246, 63, 246, 92⟩) .nil))) ⟨246, 27, 246, 38⟩ ⟨246, 27, 246, 93⟩) ⟨246, 15, 246, 93⟩) .Add (.list (.cons (.tup (.cons (.lit (.str "call") 0 ⟨246, 98, 246, 104⟩) (.cons (.var 11 ⟨246, 106, 246, 116⟩) .nil)) 0 ⟨246, 97, 246, 117⟩) .nil) ⟨246, 96, 246, 118⟩) ⟨246, 15, 246, 118⟩) ⟨246, 8, 246, 118⟩)
    .nil))) .nil ⟨243, 4, 246, 118⟩)
    (.cons (.while (.cmp (.blt .tuple (.cons (.var 7 ⟨247, 16, 247, 31⟩) .nil) ⟨247, 10, 247, 15⟩ ⟨247, 10, 247, 32⟩) .NotEq (.sto (.var 6 ⟨247, 36, 247, 45⟩) (.blt .len (.cons (.var 7 ⟨247, 51, 247, 66⟩) .nil) ⟨247, 47, 247, 50⟩ ⟨247, 47, 247, 67⟩) ⟨247, 46, 247, 67⟩ ⟨247, 36, 247, 68⟩) ⟨247, 10, 247, 68⟩) (.cons (.assign 7 ⟨248, 8, 248, 23⟩ (.sto (.var 7 ⟨248, 26, 248, 41⟩) (.neg (.lit (.int 1) 0 ⟨248, 44, 248, 45⟩) ⟨248, 43, 248, 45⟩) ⟨248, 42, 248, 45⟩ ⟨248, 26, 248, 46⟩) ⟨248, 8, 248, 46⟩)
    (.cons (.expr (.meth (.var 8 ⟨249, 8, 249, 17⟩) .append (.cons (.tup (.cons (.lit (.str "drop") 0 ⟨249, 26, 249, 32⟩) .nil) 0 ⟨249, 25, 249, 34⟩) .nil) ⟨249, 8, 249, 24⟩ ⟨249, 8, 249, 35⟩) ⟨249, 8, 249, 35⟩)
    .nil)) ⟨247, 4, 249, 35⟩)
    (.cons (.ret (.bin (.var 8 ⟨250, 11, 250, 20⟩) .Add (.call "_law_pushes" (.cons (.var 0 ⟨250, 35, 250, 46⟩) (.cons (.var 1 ⟨250, 48, 250, 57⟩) (.cons (.sfrom (.var 6 ⟨250, 59, 250, 68⟩) (.blt .len (.cons (.var 7 ⟨250, 73, 250, 88⟩) .nil) ⟨250, 69, 250, 72⟩ ⟨250, 69, 250, 89⟩) ⟨250, 69, 250, 90⟩ ⟨250, 59, 250, 91⟩) .nil))) ⟨250, 23, 250, 34⟩ ⟨250, 23, 250, 92⟩) ⟨250, 11, 250, 92⟩) ⟨250, 4, 250, 92⟩)
    .nil))))))))
noncomputable def S_law_good_rows : Scope := {
              kind := PySem.ScopeKind.function,
              names := [
                (PySem.Str.ofString "_law_script", PySem.NameKind.local),
                (PySem.Str.ofString "_law_tape", PySem.NameKind.local),
                (PySem.Str.ofString "_law_told_here", PySem.NameKind.cell),
                (PySem.Str.ofString "_law_name", PySem.NameKind.local),
                (PySem.Str.ofString "_law_names", PySem.NameKind.local),
                (PySem.Str.ofString "_law_ins", PySem.NameKind.local),
                (PySem.Str.ofString "_law_outs", PySem.NameKind.cell),
                (PySem.Str.ofString "_law_kinds_here", PySem.NameKind.local),
                (PySem.Str.ofString "_law_rows", PySem.NameKind.local),
                (PySem.Str.ofString "_law_k", PySem.NameKind.local),
                (PySem.Str.ofString "_law_row", PySem.NameKind.local),
                (PySem.Str.ofString "_law_other", PySem.NameKind.local),
                (PySem.Str.ofString "_law_ends", PySem.NameKind.local),
                (PySem.Str.ofString "list", PySem.NameKind.globalImplicit),
                (PySem.Str.ofString "range", PySem.NameKind.globalImplicit),
                (PySem.Str.ofString "_law_draw", PySem.NameKind.globalImplicit),
                (PySem.Str.ofString "_law_fitting", PySem.NameKind.globalImplicit),
                (PySem.Str.ofString "_law_next", PySem.NameKind.globalImplicit),
                (PySem.Str.ofString "len", PySem.NameKind.globalImplicit),
                (PySem.Str.ofString "_law_pushes", PySem.NameKind.globalImplicit),
                (PySem.Str.ofString "tuple", PySem.NameKind.globalImplicit)],
              isGenerator := false,
              isCoroutine := false,
              more := [
                (PySem.Str.ofString "fast", (PySem.Const.str "_law_script")),
                (PySem.Str.ofString "fast", (PySem.Const.str "_law_tape")),
                (PySem.Str.ofString "fast", (PySem.Const.str "_law_told_here")),
                (PySem.Str.ofString "fast", (PySem.Const.str "_law_name")),
                (PySem.Str.ofString "fast", (PySem.Const.str "_law_names")),
                (PySem.Str.ofString "fast", (PySem.Const.str "_law_ins")),
                (PySem.Str.ofString "fast", (PySem.Const.str "_law_outs")),
                (PySem.Str.ofString "fast", (PySem.Const.str "_law_kinds_here")),
                (PySem.Str.ofString "fast", (PySem.Const.str "_law_rows")),
                (PySem.Str.ofString "fast", (PySem.Const.str "_law_k")),
                (PySem.Str.ofString "fast", (PySem.Const.str "_law_row")),
                (PySem.Str.ofString "fast", (PySem.Const.str "_law_other")),
                (PySem.Str.ofString "fast", (PySem.Const.str "_law_ends"))] : PySem.Scope }

noncomputable def N_law_good_program : List Str := ["_law_script", "_law_tape", "_law_told_here", "_law_names", "_law_down", "_law_program", "_law_k", "_law_some", "_law_rows"]
noncomputable def B_law_good_program : ASs :=
    (.cons (.assign 2 ⟨252, 4, 252, 18⟩ (.call "_law_told" (.cons (.var 0 ⟨252, 31, 252, 42⟩) (.cons (.var 1 ⟨252, 44, 252, 53⟩) .nil)) ⟨252, 21, 252, 30⟩ ⟨252, 21, 252, 54⟩) ⟨252, 4, 252, 54⟩)
    (.cons (.assign 3 ⟨253, 4, 253, 14⟩ (.blt .list (.cons (.var 2 ⟨253, 22, 253, 36⟩) .nil) ⟨253, 17, 253, 21⟩ ⟨253, 17, 253, 37⟩) ⟨253, 4, 253, 37⟩)
    (.cons (.assign 4 ⟨254, 4, 254, 13⟩ (.call "_law_draw" (.cons (.var 0 ⟨254, 26, 254, 37⟩) (.cons (.var 1 ⟨254, 39, 254, 48⟩) (.cons (.lit (.int 2) 0 ⟨254, 50, 254, 51⟩) .nil))) ⟨254, 16, 254, 25⟩ ⟨254, 16, 254, 52⟩) ⟨254, 4, 254, 52⟩)
    (.cons (.assign 5 ⟨255, 4, 255, 16⟩ (.dict [] .nil ⟨255, 19, 255, 21⟩) ⟨255, 4, 255, 21⟩)
    (.cons (.for 6 ⟨256, 8, 256, 14⟩ (.blt .range (.cons (.blt .len (.cons (.var 3 ⟨256, 28, 256, 38⟩) .nil) ⟨256, 24, 256, 27⟩ ⟨256, 24, 256, 39⟩) .nil) ⟨256, 18, 256, 23⟩ ⟨256, 18, 256, 40⟩) (.cons (.assign 7 ⟨257, 8, 257, 17⟩ (.var 3 ⟨257, 20, 257, 30⟩) ⟨257, 8, 257, 30⟩)
    (.cons (.ite (.cmp (.var 4 ⟨258, 11, 258, 20⟩) .Eq (.lit (.int 1) 0 ⟨258, 24, 258, 25⟩) ⟨258, 11, 258, 25⟩) (.cons (.assign 7 ⟨259, 12, 259, 21⟩ (.sfrom (.var 3 ⟨259, 24, 259, 34⟩) (.bin (.var 6 ⟨259, 35, 259, 41⟩) .Add (.lit (.int 1) 0 ⟨259, 44, 259, 45⟩) ⟨259, 35, 259, 45⟩) ⟨259, 35, 259, 46⟩ ⟨259, 24, 259, 47⟩) ⟨259, 12, 259, 47⟩)
    .nil) .nil ⟨258, 8, 259, 47⟩)
    (.cons (.assign 8 ⟨260, 8, 260, 17⟩ (.call "_law_good_rows" (.cons (.var 0 ⟨260, 35, 260, 46⟩) (.cons (.var 1 ⟨260, 48, 260, 57⟩) (.cons (.var 2 ⟨260, 59, 260, 73⟩) (.cons (.sub (.var 3 ⟨260, 75, 260, 85⟩) (.var 6 ⟨260, 86, 260, 92⟩) ⟨260, 75, 260, 93⟩) (.cons (.var 7 ⟨260, 95, 260, 104⟩) .nil))))) ⟨260, 20, 260, 34⟩ ⟨260, 20, 260, 105⟩) ⟨260, 8, 260, 105⟩)
    (.cons (.store (.var 5 ⟨261, 8, 261, 20⟩) (.sub (.var 3 ⟨261, 21, 261, 31⟩) (.var 6 ⟨261, 32, 261, 38⟩) ⟨261, 21, 261, 39⟩) ⟨261, 8, 261, 40⟩ (.tup (.cons (.sub (.sub (.var 2 ⟨261, 44, 261, 58⟩) (.sub (.var 3 ⟨261, 59, 261, 69⟩) (.var 6 ⟨261, 70, 261, 76⟩) ⟨261, 59, 261, 77⟩) ⟨261, 44, 261, 78⟩) (.lit (.int 0) 0 ⟨261, 79, 261, 80⟩) ⟨261, 44, 261, 81⟩) (.cons (.sub (.sub (.var 2 ⟨261, 83, 261, 97⟩) (.sub (.var 3 ⟨261, 98, 261, 108⟩) (.var 6 ⟨261, 109, 261, 115⟩) ⟨261, 98, 261, 116⟩) ⟨261, 83, 261, 117⟩) (.lit (.int 1) 0 ⟨261, 118, 261, 119⟩) ⟨261, 83, 261, 120⟩) (.cons (.var 8 ⟨261, 122, 261, 131⟩) .nil))) 0 ⟨261, 43, 261, 132⟩) ⟨261, 8, 261, 132⟩)
    .nil)))) ⟨256, 4, 261, 132⟩)
    (.cons (.ret (.var 5 ⟨262, 11, 262, 23⟩) ⟨262, 4, 262, 23⟩)
    .nil))))))
noncomputable def S_law_good_program : Scope := {
              kind := PySem.ScopeKind.function,
              names := [
                (PySem.Str.ofString "_law_script", PySem.NameKind.local),
                (PySem.Str.ofString "_law_tape", PySem.NameKind.local),
                (PySem.Str.ofString "_law_told_here", PySem.NameKind.local),
                (PySem.Str.ofString "_law_names", PySem.NameKind.local),
                (PySem.Str.ofString "_law_down", PySem.NameKind.local),
                (PySem.Str.ofString "_law_program", PySem.NameKind.local),
                (PySem.Str.ofString "_law_k", PySem.NameKind.local),
                (PySem.Str.ofString "_law_some", PySem.NameKind.local),
                (PySem.Str.ofString "_law_rows", PySem.NameKind.local),
                (PySem.Str.ofString "_law_told", PySem.NameKind.globalImplicit),
                (PySem.Str.ofString "list", PySem.NameKind.globalImplicit),
                (PySem.Str.ofString "_law_draw", PySem.NameKind.globalImplicit),
                (PySem.Str.ofString "range", PySem.NameKind.globalImplicit),
                (PySem.Str.ofString "len", PySem.NameKind.globalImplicit),
                (PySem.Str.ofString "_law_good_rows", PySem.NameKind.globalImplicit)],
              isGenerator := false,
              isCoroutine := false,
              more := [] : PySem.Scope }

noncomputable def N_law_raw_row : List Str := ["_law_script", "_law_tape", "_law_names", "_law_way_here", "_law_one", "_law_spot", "_law_some"]
noncomputable def B_law_raw_row : ASs :=
    (.cons (.assign 3 ⟨264, 4, 264, 17⟩ (.call "_law_draw" (.cons (.var 0 ⟨264, 30, 264, 41⟩) (.cons (.var 1 ⟨264, 43, 264, 52⟩) (.cons (.lit (.int 4) 0 ⟨264, 54, 264, 55⟩) .nil))) ⟨264, 20, 264, 29⟩ ⟨264, 20, 264, 56⟩) ⟨264, 4, 264, 56⟩)
    (.cons (.ite (.cmp (.var 3 ⟨265, 7, 265, 20⟩) .Lt (.lit (.int 2) 0 ⟨265, 23, 265, 24⟩) ⟨265, 7, 265, 24⟩) (.cons (.ret (.call "_law_plain_row" (.cons (.var 0 ⟨266, 30, 266, 41⟩) (.cons (.var 1 ⟨266, 43, 266, 52⟩) .nil)) ⟨266, 15, 266, 29⟩ ⟨266, 15, 266, 53⟩) ⟨266, 8, 266, 53⟩)
    .nil) .nil ⟨265, 4, 266, 53⟩)
    (.cons (.assign 4 ⟨267, 4, 267, 12⟩ (.sub (.var 2 ⟨267, 15, 267, 25⟩) (.call "_law_draw" (.cons (.var 0 ⟨267, 36, 267, 47⟩) (.cons (.var 1 ⟨267, 49, 267, 58⟩) (.cons (.blt .len (.cons (.var 2 ⟨267, 64, 267, 74⟩) .nil) ⟨267, 60, 267, 63⟩ ⟨267, 60, 267, 75⟩) .nil))) ⟨267, 26, 267, 35⟩ ⟨267, 26, 267, 76⟩) ⟨267, 15, 267, 77⟩) ⟨267, 4, 267, 77⟩)
    (.cons (.assign 5 ⟨268, 4, 268, 13⟩ (.call "_law_draw" (.cons (.var 0 ⟨268, 26, 268, 37⟩) (.cons (.var 1 ⟨268, 39, 268, 48⟩) (.cons (.blt .len (.cons (.var 4 ⟨268, 54, 268, 62⟩) .nil) ⟨268, 50, 268, 53⟩ ⟨268, 50, 268, 63⟩) .nil))) ⟨268, 16, 268, 25⟩ ⟨268, 16, 268, 64⟩) ⟨268, 4, 268, 64⟩)
    (.cons (.assign 6 ⟨269, 4, 269, 13⟩ (.bin (.var 2 ⟨269, 16, 269, 26⟩) .Add (.list (.cons (.bin (.bin (.sto (.var 4 ⟨269, 30, 269, 38⟩) (.var 5 ⟨269, 40, 269, 49⟩) ⟨269, 39, 269, 49⟩ ⟨269, 30, 269, 50⟩) .Add (.lit (.str "?") 0 ⟨269, 53, 269, 56⟩) ⟨269, 30, 269, 56⟩) .Add (.sfrom (.var 4 ⟨269, 59, 269, 67⟩) (.bin (.var 5 ⟨269, 68, 269, 77⟩) .Add (.lit (.int 1) 0 ⟨269, 80, 269, 81⟩) ⟨269, 68, 269, 81⟩) ⟨269, 68, 269, 82⟩ ⟨269, 59, 269, 83⟩) ⟨269, 30, 269, 83⟩) .nil) ⟨269, 29, 269, 84⟩) ⟨269, 16, 269, 84⟩) ⟨269, 4, 269, 84⟩)
    (.cons (.assign 4 ⟨270, 4, 270, 12⟩ (.sub (.var 6 ⟨270, 15, 270, 24⟩) (.call "_law_draw" (.cons (.var 0 ⟨270, 35, 270, 46⟩) (.cons (.var 1 ⟨270, 48, 270, 57⟩) (.cons (.blt .len (.cons (.var 6 ⟨270, 63, 270, 72⟩) .nil) ⟨270, 59, 270, 62⟩ ⟨270, 59, 270, 73⟩) .nil))) ⟨270, 25, 270, 34⟩ ⟨270, 25, 270, 74⟩) ⟨270, 15, 270, 75⟩) ⟨270, 4, 270, 75⟩)
    (.cons (.ite (.cmp (.var 3 ⟨271, 7, 271, 20⟩) .Eq (.lit (.int 2) 0 ⟨271, 24, 271, 25⟩) ⟨271, 7, 271, 25⟩) (.cons (.ret (.tup (.cons (.lit (.str "call") 0 ⟨272, 16, 272, 22⟩) (.cons (.var 4 ⟨272, 24, 272, 32⟩) .nil)) 0 ⟨272, 15, 272, 33⟩) ⟨272, 8, 272, 33⟩)
    .nil) .nil ⟨271, 4, 272, 33⟩)
    (.cons (.ret (.tup (.cons (.lit (.str "if") 0 ⟨273, 12, 273, 16⟩) (.cons (.var 4 ⟨273, 18, 273, 26⟩) (.cons (.sub (.var 6 ⟨273, 28, 273, 37⟩) (.call "_law_draw" (.cons (.var 0 ⟨273, 48, 273, 59⟩) (.cons (.var 1 ⟨273, 61, 273, 70⟩) (.cons (.blt .len (.cons (.var 6 ⟨273, 76, 273, 85⟩) .nil) ⟨273, 72, 273, 75⟩ ⟨273, 72, 273, 86⟩) .nil))) ⟨273, 38, 273, 47⟩ ⟨273, 38, 273, 87⟩) ⟨273, 28, 273, 88⟩) .nil))) 0 ⟨273, 11, 273, 89⟩) ⟨273, 4, 273, 89⟩)
    .nil))))))))
noncomputable def S_law_raw_row : Scope := {
              kind := PySem.ScopeKind.function,
              names := [
                (PySem.Str.ofString "_law_script", PySem.NameKind.local),
                (PySem.Str.ofString "_law_tape", PySem.NameKind.local),
                (PySem.Str.ofString "_law_names", PySem.NameKind.local),
                (PySem.Str.ofString "_law_way_here", PySem.NameKind.local),
                (PySem.Str.ofString "_law_one", PySem.NameKind.local),
                (PySem.Str.ofString "_law_spot", PySem.NameKind.local),
                (PySem.Str.ofString "_law_some", PySem.NameKind.local),
                (PySem.Str.ofString "_law_draw", PySem.NameKind.globalImplicit),
                (PySem.Str.ofString "_law_plain_row", PySem.NameKind.globalImplicit),
                (PySem.Str.ofString "len", PySem.NameKind.globalImplicit)],
              isGenerator := false,
              isCoroutine := false,
              more := [] : PySem.Scope }

noncomputable def N_law_spoilt : List Str := ["_law_script", "_law_tape", "_law_program", "_law_names", "_law_name", "_law_ins", "_law_outs", "_law_rows", "_law_place", "_law_way_here"]
noncomputable def B_law_spoilt : ASs :=
    (.cons (.assign 3 ⟨275, 4, 275, 14⟩ (.blt .list (.cons (.var 2 ⟨275, 22, 275, 34⟩) .nil) ⟨275, 17, 275, 21⟩ ⟨275, 17, 275, 35⟩) ⟨275, 4, 275, 35⟩)
    (.cons (.assign 4 ⟨276, 4, 276, 13⟩ (.sub (.var 3 ⟨276, 16, 276, 26⟩) (.call "_law_draw" (.cons (.var 0 ⟨276, 37, 276, 48⟩) (.cons (.var 1 ⟨276, 50, 276, 59⟩) (.cons (.blt .len (.cons (.var 3 ⟨276, 65, 276, 75⟩) .nil) ⟨276, 61, 276, 64⟩ ⟨276, 61, 276, 76⟩) .nil))) ⟨276, 27, 276, 36⟩ ⟨276, 27, 276, 77⟩) ⟨276, 16, 276, 78⟩) ⟨276, 4, 276, 78⟩)
    (.cons (.assignT [(5, ⟨277, 4, 277, 12⟩), (6, ⟨277, 14, 277, 23⟩), (7, ⟨277, 25, 277, 34⟩)] 0 ⟨277, 4, 277, 34⟩ (.sub (.var 2 ⟨277, 37, 277, 49⟩) (.var 4 ⟨277, 50, 277, 59⟩) ⟨277, 37, 277, 60⟩) ⟨277, 4, 277, 60⟩)
    (.cons (.assign 8 ⟨278, 4, 278, 14⟩ (.call "_law_draw" (.cons (.var 0 ⟨278, 27, 278, 38⟩) (.cons (.var 1 ⟨278, 40, 278, 49⟩) (.cons (.bin (.blt .len (.cons (.var 7 ⟨278, 55, 278, 64⟩) .nil) ⟨278, 51, 278, 54⟩ ⟨278, 51, 278, 65⟩) .Add (.lit (.int 1) 0 ⟨278, 68, 278, 69⟩) ⟨278, 51, 278, 69⟩) .nil))) ⟨278, 17, 278, 26⟩ ⟨278, 17, 278, 70⟩) ⟨278, 4, 278, 70⟩)
    (.cons (.assign 9 ⟨279, 4, 279, 17⟩ (.call "_law_draw" (.cons (.var 0 ⟨279, 30, 279, 41⟩) (.cons (.var 1 ⟨279, 43, 279, 52⟩) (.cons (.lit (.int 6) 0 ⟨279, 54, 279, 55⟩) .nil))) ⟨279, 20, 279, 29⟩ ⟨279, 20, 279, 56⟩) ⟨279, 4, 279, 56⟩)
    (.cons (.ite (.cmp (.var 9 ⟨280, 7, 280, 20⟩) .Lt (.lit (.int 2) 0 ⟨280, 23, 280, 24⟩) ⟨280, 7, 280, 24⟩) (.cons (.assign 7 ⟨281, 8, 281, 17⟩ (.bin (.bin (.sto (.var 7 ⟨281, 20, 281, 29⟩) (.var 8 ⟨281, 31, 281, 41⟩) ⟨281, 30, 281, 41⟩ ⟨281, 20, 281, 42⟩) .Add (.list (.cons (.call "_law_raw_row" (.cons (.var 0 ⟨281, 59, 281, 70⟩) (.cons (.var 1 ⟨281, 72, 281, 81⟩) (.cons (.var 3 ⟨281, 83, 281, 93⟩) .nil))) ⟨281, 46, 281, 58⟩ ⟨281, 46, 281, 94⟩) .nil) ⟨281, 45, 281, 95⟩) ⟨281, 20, 281, 95⟩) .Add (.sfrom (.var 7 ⟨281, 98, 281, 107⟩) (.bin (.var 8 ⟨281, 108, 281, 118⟩) .Add (.lit (.int 1) 0 ⟨281, 121, 281, 122⟩) ⟨281, 108, 281, 122⟩) ⟨281, 108, 281, 123⟩ ⟨281, 98, 281, 124⟩) ⟨281, 20, 281, 124⟩) ⟨281, 8, 281, 124⟩)
    .nil) .nil ⟨280, 4, 281, 124⟩)
    (.cons (.ite (.cmp (.var 9 ⟨282, 7, 282, 20⟩) .Eq (.lit (.int 2) 0 ⟨282, 24, 282, 25⟩) ⟨282, 7, 282, 25⟩) (.cons (.assign 7 ⟨283, 8, 283, 17⟩ (.bin (.bin (.sto (.var 7 ⟨283, 20, 283, 29⟩) (.var 8 ⟨283, 31, 283, 41⟩) ⟨283, 30, 283, 41⟩ ⟨283, 20, 283, 42⟩) .Add (.list (.cons (.call "_law_raw_row" (.cons (.var 0 ⟨283, 59, 283, 70⟩) (.cons (.var 1 ⟨283, 72, 283, 81⟩) (.cons (.var 3 ⟨283, 83, 283, 93⟩) .nil))) ⟨283, 46, 283, 58⟩ ⟨283, 46, 283, 94⟩) .nil) ⟨283, 45, 283, 95⟩) ⟨283, 20, 283, 95⟩) .Add (.sfrom (.var 7 ⟨283, 98, 283, 107⟩) (.var 8 ⟨283, 108, 283, 118⟩) ⟨283, 108, 283, 119⟩ ⟨283, 98, 283, 120⟩) ⟨283, 20, 283, 120⟩) ⟨283, 8, 283, 120⟩)
    .nil) .nil ⟨282, 4, 283, 120⟩)
    (.cons (.ite (.cmp (.var 9 ⟨284, 7, 284, 20⟩) .Eq (.lit (.int 3) 0 ⟨284, 24, 284, 25⟩) ⟨284, 7, 284, 25⟩) (.cons (.assign 7 ⟨285, 8, 285, 17⟩ (.bin (.sto (.var 7 ⟨285, 20, 285, 29⟩) (.var 8 ⟨285, 31, 285, 41⟩) ⟨285, 30, 285, 41⟩ ⟨285, 20, 285, 42⟩) .Add (.sfrom (.var 7 ⟨285, 45, 285, 54⟩) (.bin (.var 8 ⟨285, 55, 285, 65⟩) .Add (.lit (.int 1) 0 ⟨285, 68, 285, 69⟩) ⟨285, 55, 285, 69⟩) ⟨285, 55, 285, 70⟩ ⟨285, 45, 285, 71⟩) ⟨285, 20, 285, 71⟩) ⟨285, 8, 285, 71⟩)
    .nil) .nil ⟨284, 4, 285, 71⟩)
    (.cons (.ite (.cmp (.var 9 ⟨286, 7, 286, 20⟩) .Eq (.lit (.int 4) 0 ⟨286, 24, 286, 25⟩) ⟨286, 7, 286, 25⟩) (.cons (.assign 6 ⟨287, 8, 287, 17⟩ (.call "_law_kinds" (.cons (.var 0 ⟨287, 31, 287, 42⟩) (.cons (.var 1 ⟨287, 44, 287, 53⟩) .nil)) ⟨287, 20, 287, 30⟩ ⟨287, 20, 287, 54⟩) ⟨287, 8, 287, 54⟩)
    .nil) .nil ⟨286, 4, 287, 54⟩)
    (.cons (.ite (.cmp (.var 9 ⟨288, 7, 288, 20⟩) .Eq (.lit (.int 5) 0 ⟨288, 24, 288, 25⟩) ⟨288, 7, 288, 25⟩) (.cons (.assign 5 ⟨289, 8, 289, 16⟩ (.call "_law_kinds" (.cons (.var 0 ⟨289, 30, 289, 41⟩) (.cons (.var 1 ⟨289, 43, 289, 52⟩) .nil)) ⟨289, 19, 289, 29⟩ ⟨289, 19, 289, 53⟩) ⟨289, 8, 289, 53⟩)
    .nil) .nil ⟨288, 4, 289, 53⟩)
    (.cons (.store (.var 2 ⟨290, 4, 290, 16⟩) (.var 4 ⟨290, 17, 290, 26⟩) ⟨290, 4, 290, 27⟩ (.tup (.cons (.var 5 ⟨290, 31, 290, 39⟩) (.cons (.var 6 ⟨290, 41, 290, 50⟩) (.cons (.var 7 ⟨290, 52, 290, 61⟩) .nil))) 0 ⟨290, 30, 290, 62⟩) ⟨290, 4, 290, 62⟩)
    (.cons (.ret (.var 4 ⟨291, 11, 291, 20⟩) ⟨291, 4, 291, 20⟩)
    .nil))))))))))))
noncomputable def S_law_spoilt : Scope := {
              kind := PySem.ScopeKind.function,
              names := [
                (PySem.Str.ofString "_law_script", PySem.NameKind.local),
                (PySem.Str.ofString "_law_tape", PySem.NameKind.local),
                (PySem.Str.ofString "_law_program", PySem.NameKind.local),
                (PySem.Str.ofString "_law_names", PySem.NameKind.local),
                (PySem.Str.ofString "_law_name", PySem.NameKind.local),
                (PySem.Str.ofString "_law_ins", PySem.NameKind.local),
                (PySem.Str.ofString "_law_outs", PySem.NameKind.local),
                (PySem.Str.ofString "_law_rows", PySem.NameKind.local),
                (PySem.Str.ofString "_law_place", PySem.NameKind.local),
                (PySem.Str.ofString "_law_way_here", PySem.NameKind.local),
                (PySem.Str.ofString "list", PySem.NameKind.globalImplicit),
                (PySem.Str.ofString "_law_draw", PySem.NameKind.globalImplicit),
                (PySem.Str.ofString "len", PySem.NameKind.globalImplicit),
                (PySem.Str.ofString "_law_raw_row", PySem.NameKind.globalImplicit),
                (PySem.Str.ofString "_law_kinds", PySem.NameKind.globalImplicit)],
              isGenerator := false,
              isCoroutine := false,
              more := [] : PySem.Scope }

noncomputable def N_law_copy : List Str := ["_law_program", "_law_found", "_law_name"]
noncomputable def B_law_copy : ASs :=
    (.cons (.assign 1 ⟨293, 4, 293, 14⟩ (.dict [] .nil ⟨293, 17, 293, 19⟩) ⟨293, 4, 293, 19⟩)
    (.cons (.for 2 ⟨294, 8, 294, 17⟩ (.blt .list (.cons (.var 0 ⟨294, 26, 294, 38⟩) .nil) ⟨294, 21, 294, 25⟩ ⟨294, 21, 294, 39⟩) (.cons (.store (.var 1 ⟨295, 8, 295, 18⟩) (.var 2 ⟨295, 19, 295, 28⟩) ⟨295, 8, 295, 29⟩ (.tup (.cons (.sub (.sub (.var 0 ⟨295, 33, 295, 45⟩) (.var 2 ⟨295, 46, 295, 55⟩) ⟨295, 33, 295, 56⟩) (.lit (.int 0) 0 ⟨295, 57, 295, 58⟩) ⟨295, 33, 295, 59⟩) (.cons (.sub (.sub (.var 0 ⟨295, 61, 295, 73⟩) (.var 2 ⟨295, 74, 295, 83⟩) ⟨295, 61, 295, 84⟩) (.lit (.int 1) 0 ⟨295, 85, 295, 86⟩) ⟨295, 61, 295, 87⟩) (.cons (.blt .list (.cons (.sub (.sub (.var 0 ⟨295, 94, 295, 106⟩) (.var 2 ⟨295, 107, 295, 116⟩) ⟨295, 94, 295, 117⟩) (.lit (.int 2) 0 ⟨295, 118, 295, 119⟩) ⟨295, 94, 295, 120⟩) .nil) ⟨295, 89, 295, 93⟩ ⟨295, 89, 295, 121⟩) .nil))) 0 ⟨295, 32, 295, 122⟩) ⟨295, 8, 295, 122⟩)
    .nil) ⟨294, 4, 295, 122⟩)
    (.cons (.ret (.var 1 ⟨296, 11, 296, 21⟩) ⟨296, 4, 296, 21⟩)
    .nil)))
noncomputable def S_law_copy : Scope := {
              kind := PySem.ScopeKind.function,
              names := [
                (PySem.Str.ofString "_law_program", PySem.NameKind.local),
                (PySem.Str.ofString "_law_found", PySem.NameKind.local),
                (PySem.Str.ofString "_law_name", PySem.NameKind.local),
                (PySem.Str.ofString "list", PySem.NameKind.globalImplicit)],
              isGenerator := false,
              isCoroutine := false,
              more := [] : PySem.Scope }

noncomputable def N_law_walked : List Str := ["_law_program", "_law_name", "_law_ins", "_law_outs", "_law_rows", "_law_made", "_law_row", "_law_word", "_law_kinds_here"]
noncomputable def B_law_walked : ASs :=
    (.cons (.assignT [(2, ⟨298, 4, 298, 12⟩), (3, ⟨298, 14, 298, 23⟩), (4, ⟨298, 25, 298, 34⟩)] 0 ⟨298, 4, 298, 34⟩ (.sub (.var 0 ⟨298, 37, 298, 49⟩) (.var 1 ⟨298, 50, 298, 59⟩) ⟨298, 37, 298, 60⟩) ⟨298, 4, 298, 60⟩)
    (.cons (.assign 5 ⟨299, 4, 299, 13⟩ (.list (.cons (.var 2 ⟨299, 17, 299, 25⟩) .nil) ⟨299, 16, 299, 26⟩) ⟨299, 4, 299, 26⟩)
    (.cons (.for 6 ⟨300, 8, 300, 16⟩ (.var 4 ⟨300, 20, 300, 29⟩) (.cons (.assignT [(7, ⟨301, 8, 301, 17⟩), (8, ⟨301, 19, 301, 34⟩)] 0 ⟨301, 8, 301, 34⟩ (.call "_law_next" (.cons (.var 0 ⟨301, 47, 301, 59⟩) (.cons (.blt .list (.cons (.sub (.var 5 ⟨301, 66, 301, 75⟩) (.neg (.lit (.int 1) 0 ⟨301, 77, 301, 78⟩) ⟨301, 76, 301, 78⟩) ⟨301, 66, 301, 79⟩) .nil) ⟨301, 61, 301, 65⟩ ⟨301, 61, 301, 80⟩) (.cons (.var 6 ⟨301, 82, 301, 90⟩) .nil))) ⟨301, 37, 301, 46⟩ ⟨301, 37, 301, 91⟩) ⟨301, 8, 301, 91⟩)
    (.cons (.ite (.cmp (.var 7 ⟨302, 11, 302, 20⟩) .NotEq (.lit (.str "") 0 ⟨302, 24, 302, 26⟩) ⟨302, 11, 302, 26⟩) (.cons (.ret (.tup (.cons (.var 5 ⟨303, 20, 303, 29⟩) (.cons (.var 7 ⟨303, 31, 303, 40⟩) .nil)) 0 ⟨303, 19, 303, 41⟩) ⟨303, 12, 303, 41⟩)
    .nil) .nil ⟨302, 8, 303, 41⟩)
    (.cons (.expr (.meth (.var 5 ⟨304, 8, 304, 17⟩) .append (.cons (.blt .tuple (.cons (.var 8 ⟨304, 31, 304, 46⟩) .nil) ⟨304, 25, 304, 30⟩ ⟨304, 25, 304, 47⟩) .nil) ⟨304, 8, 304, 24⟩ ⟨304, 8, 304, 48⟩) ⟨304, 8, 304, 48⟩)
    .nil))) ⟨300, 4, 304, 48⟩)
    (.cons (.ite (.cmp (.sub (.var 5 ⟨305, 7, 305, 16⟩) (.neg (.lit (.int 1) 0 ⟨305, 18, 305, 19⟩) ⟨305, 17, 305, 19⟩) ⟨305, 7, 305, 20⟩) .NotEq (.var 3 ⟨305, 24, 305, 33⟩) ⟨305, 7, 305, 33⟩) (.cons (.ret (.tup (.cons (.var 5 ⟨306, 16, 306, 25⟩) (.cons (.lit (.str "end") 0 ⟨306, 27, 306, 32⟩) .nil)) 0 ⟨306, 15, 306, 33⟩) ⟨306, 8, 306, 33⟩)
    .nil) .nil ⟨305, 4, 306, 33⟩)
    (.cons (.ret (.tup (.cons (.var 5 ⟨307, 12, 307, 21⟩) (.cons (.lit (.str "") 0 ⟨307, 23, 307, 25⟩) .nil)) 0 ⟨307, 11, 307, 26⟩) ⟨307, 4, 307, 26⟩)
    .nil)))))
noncomputable def S_law_walked : Scope := {
              kind := PySem.ScopeKind.function,
              names := [
                (PySem.Str.ofString "_law_program", PySem.NameKind.local),
                (PySem.Str.ofString "_law_name", PySem.NameKind.local),
                (PySem.Str.ofString "_law_ins", PySem.NameKind.local),
                (PySem.Str.ofString "_law_outs", PySem.NameKind.local),
                (PySem.Str.ofString "_law_rows", PySem.NameKind.local),
                (PySem.Str.ofString "_law_made", PySem.NameKind.local),
                (PySem.Str.ofString "_law_row", PySem.NameKind.local),
                (PySem.Str.ofString "_law_word", PySem.NameKind.local),
                (PySem.Str.ofString "_law_kinds_here", PySem.NameKind.local),
                (PySem.Str.ofString "_law_next", PySem.NameKind.globalImplicit),
                (PySem.Str.ofString "list", PySem.NameKind.globalImplicit),
                (PySem.Str.ofString "tuple", PySem.NameKind.globalImplicit)],
              isGenerator := false,
              isCoroutine := false,
              more := [] : PySem.Scope }

noncomputable def N_law_reckoned : List Str := ["_law_row", "_law_low", "_law_top"]
noncomputable def B_law_reckoned : ASs :=
    (.cons (.ite (.cmp (.sub (.var 0 ⟨309, 7, 309, 15⟩) (.lit (.int 0) 0 ⟨309, 16, 309, 17⟩) ⟨309, 7, 309, 18⟩) .Eq (.lit (.str "less") 0 ⟨309, 22, 309, 28⟩) ⟨309, 7, 309, 28⟩) (.cons (.ret (.blt .int (.cons (.cmp (.var 1 ⟨310, 19, 310, 27⟩) .Lt (.var 2 ⟨310, 30, 310, 38⟩) ⟨310, 19, 310, 38⟩) .nil) ⟨310, 15, 310, 18⟩ ⟨310, 15, 310, 39⟩) ⟨310, 8, 310, 39⟩)
    .nil) .nil ⟨309, 4, 310, 39⟩)
    (.cons (.ite (.cmp (.sub (.var 0 ⟨311, 7, 311, 15⟩) (.lit (.int 0) 0 ⟨311, 16, 311, 17⟩) ⟨311, 7, 311, 18⟩) .Eq (.lit (.str "join") 0 ⟨311, 22, 311, 28⟩) ⟨311, 7, 311, 28⟩) (.cons (.ret (.sto (.bin (.var 1 ⟨312, 16, 312, 24⟩) .Add (.var 2 ⟨312, 27, 312, 35⟩) ⟨312, 16, 312, 35⟩) (.lit (.int 60) 0 ⟨312, 38, 312, 40⟩) ⟨312, 37, 312, 40⟩ ⟨312, 15, 312, 41⟩) ⟨312, 8, 312, 41⟩)
    .nil) .nil ⟨311, 4, 312, 41⟩)
    (.cons (.ite (.cmp (.sub (.var 0 ⟨313, 7, 313, 15⟩) (.lit (.int 0) 0 ⟨313, 16, 313, 17⟩) ⟨313, 7, 313, 18⟩) .Eq (.lit (.str "add") 0 ⟨313, 22, 313, 27⟩) ⟨313, 7, 313, 27⟩) (.cons (.ret (.bin (.bin (.var 1 ⟨314, 16, 314, 24⟩) .Add (.var 2 ⟨314, 27, 314, 35⟩) ⟨314, 16, 314, 35⟩) .Mod (.bin (.lit (.int 10) 0 ⟨314, 39, 314, 41⟩) .Pow (.lit (.int 9) 0 ⟨314, 45, 314, 46⟩) ⟨314, 39, 314, 46⟩) ⟨314, 15, 314, 46⟩) ⟨314, 8, 314, 46⟩)
    .nil) .nil ⟨313, 4, 314, 46⟩)
    (.cons (.ret (.bin (.bin (.var 1 ⟨315, 11, 315, 19⟩) .Mult (.var 2 ⟨315, 22, 315, 30⟩) ⟨315, 11, 315, 30⟩) .Mod (.bin (.lit (.int 10) 0 ⟨315, 33, 315, 35⟩) .Pow (.lit (.int 9) 0 ⟨315, 39, 315, 40⟩) ⟨315, 33, 315, 40⟩) ⟨315, 11, 315, 40⟩) ⟨315, 4, 315, 40⟩)
    .nil))))
noncomputable def S_law_reckoned : Scope := {
              kind := PySem.ScopeKind.function,
              names := [
                (PySem.Str.ofString "_law_row", PySem.NameKind.local),
                (PySem.Str.ofString "_law_low", PySem.NameKind.local),
                (PySem.Str.ofString "_law_top", PySem.NameKind.local),
                (PySem.Str.ofString "int", PySem.NameKind.globalImplicit)],
              isGenerator := false,
              isCoroutine := false,
              more := [] : PySem.Scope }

noncomputable def N_law_behind : List Str := ["_law_stack", "_law_row", "_law_left_here", "_law_top"]
noncomputable def B_law_behind : ASs :=
    (.cons (.assign 2 ⟨317, 4, 317, 18⟩ (.blt .list (.cons (.var 0 ⟨317, 26, 317, 36⟩) .nil) ⟨317, 21, 317, 25⟩ ⟨317, 21, 317, 37⟩) ⟨317, 4, 317, 37⟩)
    (.cons (.ite (.bop .Or (.cons (.cmp (.sub (.var 1 ⟨318, 7, 318, 15⟩) (.lit (.int 0) 0 ⟨318, 16, 318, 17⟩) ⟨318, 7, 318, 18⟩) .Eq (.lit (.str "num") 0 ⟨318, 22, 318, 27⟩) ⟨318, 7, 318, 27⟩) (.cons (.cmp (.sub (.var 1 ⟨318, 31, 318, 39⟩) (.lit (.int 0) 0 ⟨318, 40, 318, 41⟩) ⟨318, 31, 318, 42⟩) .Eq (.lit (.str "text") 0 ⟨318, 46, 318, 52⟩) ⟨318, 31, 318, 52⟩) .nil)) ⟨318, 7, 318, 52⟩) (.cons (.expr (.meth (.var 2 ⟨319, 8, 319, 22⟩) .append (.cons (.sub (.var 1 ⟨319, 30, 319, 38⟩) (.lit (.int 1) 0 ⟨319, 39, 319, 40⟩) ⟨319, 30, 319, 41⟩) .nil) ⟨319, 8, 319, 29⟩ ⟨319, 8, 319, 42⟩) ⟨319, 8, 319, 42⟩)
    .nil) (.cons (.ite (.cmp (.sub (.var 1 ⟨320, 9, 320, 17⟩) (.lit (.int 0) 0 ⟨320, 18, 320, 19⟩) ⟨320, 9, 320, 20⟩) .Eq (.lit (.str "copy") 0 ⟨320, 24, 320, 30⟩) ⟨320, 9, 320, 30⟩) (.cons (.expr (.meth (.var 2 ⟨321, 8, 321, 22⟩) .append (.cons (.sub (.var 0 ⟨321, 30, 321, 40⟩) (.bin (.bin (.blt .len (.cons (.var 0 ⟨321, 45, 321, 55⟩) .nil) ⟨321, 41, 321, 44⟩ ⟨321, 41, 321, 56⟩) .Sub (.lit (.int 1) 0 ⟨321, 59, 321, 60⟩) ⟨321, 41, 321, 60⟩) .Sub (.sub (.var 1 ⟨321, 63, 321, 71⟩) (.lit (.int 1) 0 ⟨321, 72, 321, 73⟩) ⟨321, 63, 321, 74⟩) ⟨321, 41, 321, 74⟩) ⟨321, 30, 321, 75⟩) .nil) ⟨321, 8, 321, 29⟩ ⟨321, 8, 321, 76⟩) ⟨321, 8, 321, 76⟩)
    .nil) (.cons (.assign 3 ⟨323, 8, 323, 16⟩ (.meth (.var 2 ⟨323, 19, 323, 33⟩) .pop .nil ⟨323, 19, 323, 37⟩ ⟨323, 19, 323, 39⟩) ⟨323, 8, 323, 39⟩)
    (.cons (.ite (.cmp (.sub (.var 1 ⟨324, 11, 324, 19⟩) (.lit (.int 0) 0 ⟨324, 20, 324, 21⟩) ⟨324, 11, 324, 22⟩) .Eq (.lit (.str "long") 0 ⟨324, 26, 324, 32⟩) ⟨324, 11, 324, 32⟩) (.cons (.expr (.meth (.var 2 ⟨325, 12, 325, 26⟩) .append (.cons (.blt .len (.cons (.var 3 ⟨325, 38, 325, 46⟩) .nil) ⟨325, 34, 325, 37⟩ ⟨325, 34, 325, 47⟩) .nil) ⟨325, 12, 325, 33⟩ ⟨325, 12, 325, 48⟩) ⟨325, 12, 325, 48⟩)
    .nil) (.cons (.ite (.cmp (.sub (.var 1 ⟨326, 13, 326, 21⟩) (.lit (.int 0) 0 ⟨326, 22, 326, 23⟩) ⟨326, 13, 326, 24⟩) .Eq (.lit (.str "show") 0 ⟨326, 28, 326, 34⟩) ⟨326, 13, 326, 34⟩) (.cons (.expr (.meth (.var 2 ⟨327, 12, 327, 26⟩) .append (.cons (.blt .str (.cons (.var 3 ⟨327, 38, 327, 46⟩) .nil) ⟨327, 34, 327, 37⟩ ⟨327, 34, 327, 47⟩) .nil) ⟨327, 12, 327, 33⟩ ⟨327, 12, 327, 48⟩) ⟨327, 12, 327, 48⟩)
    .nil) (.cons (.ite (.cmp (.sub (.var 1 ⟨328, 13, 328, 21⟩) (.lit (.int 0) 0 ⟨328, 22, 328, 23⟩) ⟨328, 13, 328, 24⟩) .Eq (.lit (.str "swap") 0 ⟨328, 28, 328, 34⟩) ⟨328, 13, 328, 34⟩) (.cons (.expr (.meth (.var 2 ⟨329, 12, 329, 26⟩) .insert (.cons (.bin (.blt .len (.cons (.var 2 ⟨329, 38, 329, 52⟩) .nil) ⟨329, 34, 329, 37⟩ ⟨329, 34, 329, 53⟩) .Sub (.lit (.int 1) 0 ⟨329, 56, 329, 57⟩) ⟨329, 34, 329, 57⟩) (.cons (.var 3 ⟨329, 59, 329, 67⟩) .nil)) ⟨329, 12, 329, 33⟩ ⟨329, 12, 329, 68⟩) ⟨329, 12, 329, 68⟩)
    .nil) (.cons (.ite (.cmp (.sub (.var 1 ⟨330, 13, 330, 21⟩) (.lit (.int 0) 0 ⟨330, 22, 330, 23⟩) ⟨330, 13, 330, 24⟩) .NotEq (.lit (.str "drop") 0 ⟨330, 28, 330, 34⟩) ⟨330, 13, 330, 34⟩) (.cons (.expr (.meth (.var 2 ⟨331, 12, 331, 26⟩) .append (.cons (.call "_law_reckoned" (.cons (.var 1 ⟨331, 48, 331, 56⟩) (.cons (.meth (.var 2 ⟨331, 58, 331, 72⟩) .pop .nil ⟨331, 58, 331, 76⟩ ⟨331, 58, 331, 78⟩) (.cons (.var 3 ⟨331, 80, 331, 88⟩) .nil))) ⟨331, 34, 331, 47⟩ ⟨331, 34, 331, 89⟩) .nil) ⟨331, 12, 331, 33⟩ ⟨331, 12, 331, 90⟩) ⟨331, 12, 331, 90⟩)
    .nil) .nil ⟨330, 8, 331, 90⟩)
    .nil) ⟨328, 8, 331, 90⟩)
    .nil) ⟨326, 8, 331, 90⟩)
    .nil) ⟨324, 8, 331, 90⟩)
    .nil)) ⟨320, 4, 331, 90⟩)
    .nil) ⟨318, 4, 331, 90⟩)
    (.cons (.ret (.var 2 ⟨332, 11, 332, 25⟩) ⟨332, 4, 332, 25⟩)
    .nil)))
noncomputable def S_law_behind : Scope := {
              kind := PySem.ScopeKind.function,
              names := [
                (PySem.Str.ofString "_law_stack", PySem.NameKind.local),
                (PySem.Str.ofString "_law_row", PySem.NameKind.local),
                (PySem.Str.ofString "_law_left_here", PySem.NameKind.local),
                (PySem.Str.ofString "_law_top", PySem.NameKind.local),
                (PySem.Str.ofString "list", PySem.NameKind.globalImplicit),
                (PySem.Str.ofString "len", PySem.NameKind.globalImplicit),
                (PySem.Str.ofString "str", PySem.NameKind.globalImplicit),
                (PySem.Str.ofString "_law_reckoned", PySem.NameKind.globalImplicit)],
              isGenerator := false,
              isCoroutine := false,
              more := [] : PySem.Scope }

noncomputable def N_law_kinds_of : List Str := ["_law_stack", "_law_value_here"]
noncomputable def B_law_kinds_of : ASs :=
    (.cons (.ret (.comp (.sub (.list (.cons (.lit (.str "num") 0 ⟨334, 13, 334, 18⟩) (.cons (.lit (.str "text") 0 ⟨334, 20, 334, 26⟩) .nil)) ⟨334, 12, 334, 27⟩) (.blt .int (.cons (.isi (.var 1 ⟨334, 43, 334, 58⟩) .str ⟨334, 32, 334, 42⟩ ⟨334, 60, 334, 63⟩ default default ⟨334, 32, 334, 64⟩) .nil) ⟨334, 28, 334, 31⟩ ⟨334, 28, 334, 65⟩) ⟨334, 12, 334, 66⟩) 1 ⟨334, 71, 334, 86⟩ (.var 0 ⟨334, 90, 334, 100⟩) .nil {                       kind := PySem.ScopeKind.function,                       names := [                         (PySem.Str.ofString ".0", PySem.NameKind.local),                         (PySem.Str.ofString "_law_value_here", PySem.NameKind.local),                         (PySem.Str.ofString "int", PySem.NameKind.globalImplicit),                         (PySem.Str.ofString "isinstance", PySem.NameKind.globalImplicit),                         (PySem.Str.ofString "str", PySem.NameKind.globalImplicit)],                       isGenerator := false,                       isCoroutine := false,                       more := [] : PySem.Scope } ⟨334, 11, 334, 101⟩) ⟨334, 4, 334, 101⟩)
    .nil)
noncomputable def S_law_kinds_of : Scope := {
              kind := PySem.ScopeKind.function,
              names := [(PySem.Str.ofString "_law_stack", PySem.NameKind.local)],
              isGenerator := false,
              isCoroutine := false,
              more := [
                (PySem.Str.ofString "fast", (PySem.Const.str "_law_stack")),
                (PySem.Str.ofString "fast", (PySem.Const.str "_law_value_here"))] : PySem.Scope }

noncomputable def N_law_left : List Str := ["_law_program", "_law_frames", "_law_left_here"]
noncomputable def B_law_left : ASs :=
    (.cons (.assign 2 ⟨336, 4, 336, 18⟩ (.blt .list (.cons (.var 1 ⟨336, 26, 336, 37⟩) .nil) ⟨336, 21, 336, 25⟩ ⟨336, 21, 336, 38⟩) ⟨336, 4, 336, 38⟩)
    (.cons (.while (.bop .And (.cons (.cmp (.blt .len (.cons (.var 2 ⟨337, 14, 337, 28⟩) .nil) ⟨337, 10, 337, 13⟩ ⟨337, 10, 337, 29⟩) .Gt (.lit (.int 0) 0 ⟨337, 32, 337, 33⟩) ⟨337, 10, 337, 33⟩) (.cons (.cmp (.sub (.sub (.var 2 ⟨337, 38, 337, 52⟩) (.neg (.lit (.int 1) 0 ⟨337, 54, 337, 55⟩) ⟨337, 53, 337, 55⟩) ⟨337, 38, 337, 56⟩) (.lit (.int 1) 0 ⟨337, 57, 337, 58⟩) ⟨337, 38, 337, 59⟩) .Eq (.blt .len (.cons (.sub (.sub (.var 0 ⟨337, 67, 337, 79⟩) (.sub (.sub (.var 2 ⟨337, 80, 337, 94⟩) (.neg (.lit (.int 1) 0 ⟨337, 96, 337, 97⟩) ⟨337, 95, 337, 97⟩) ⟨337, 80, 337, 98⟩) (.lit (.int 0) 0 ⟨337, 99, 337, 100⟩) ⟨337, 80, 337, 101⟩) ⟨337, 67, 337, 102⟩) (.lit (.int 2) 0 ⟨337, 103, 337, 104⟩) ⟨337, 67, 337, 105⟩) .nil) ⟨337, 63, 337, 66⟩ ⟨337, 63, 337, 106⟩) ⟨337, 38, 337, 106⟩) .nil)) ⟨337, 10, 337, 106⟩) (.cons (.assign 2 ⟨338, 8, 338, 22⟩ (.sto (.var 2 ⟨338, 25, 338, 39⟩) (.neg (.lit (.int 1) 0 ⟨338, 42, 338, 43⟩) ⟨338, 41, 338, 43⟩) ⟨338, 40, 338, 43⟩ ⟨338, 25, 338, 44⟩) ⟨338, 8, 338, 44⟩)
    .nil) ⟨337, 4, 338, 44⟩)
    (.cons (.ret (.var 2 ⟨339, 11, 339, 25⟩) ⟨339, 4, 339, 25⟩)
    .nil)))
noncomputable def S_law_left : Scope := {
              kind := PySem.ScopeKind.function,
              names := [
                (PySem.Str.ofString "_law_program", PySem.NameKind.local),
                (PySem.Str.ofString "_law_frames", PySem.NameKind.local),
                (PySem.Str.ofString "_law_left_here", PySem.NameKind.local),
                (PySem.Str.ofString "list", PySem.NameKind.globalImplicit),
                (PySem.Str.ofString "len", PySem.NameKind.globalImplicit)],
              isGenerator := false,
              isCoroutine := false,
              more := [] : PySem.Scope }

noncomputable def N_law_stepped : List Str := ["_law_program", "_law_stack", "_law_frames", "_law_name", "_law_place", "_law_row", "_law_moved", "_law_word", "_law_other", "_law_left_here"]
noncomputable def B_law_stepped : ASs :=
    (.cons (.assignT [(3, ⟨341, 4, 341, 13⟩), (4, ⟨341, 15, 341, 25⟩)] 0 ⟨341, 4, 341, 25⟩ (.sub (.var 2 ⟨341, 28, 341, 39⟩) (.neg (.lit (.int 1) 0 ⟨341, 41, 341, 42⟩) ⟨341, 40, 341, 42⟩) ⟨341, 28, 341, 43⟩) ⟨341, 4, 341, 43⟩)
    (.cons (.assign 5 ⟨342, 4, 342, 12⟩ (.sub (.sub (.sub (.var 0 ⟨342, 15, 342, 27⟩) (.var 3 ⟨342, 28, 342, 37⟩) ⟨342, 15, 342, 38⟩) (.lit (.int 2) 0 ⟨342, 39, 342, 40⟩) ⟨342, 15, 342, 41⟩) (.var 4 ⟨342, 42, 342, 52⟩) ⟨342, 15, 342, 53⟩) ⟨342, 4, 342, 53⟩)
    (.cons (.assign 6 ⟨343, 4, 343, 14⟩ (.bin (.sto (.var 2 ⟨343, 17, 343, 28⟩) (.neg (.lit (.int 1) 0 ⟨343, 31, 343, 32⟩) ⟨343, 30, 343, 32⟩) ⟨343, 29, 343, 32⟩ ⟨343, 17, 343, 33⟩) .Add (.list (.cons (.tup (.cons (.var 3 ⟨343, 38, 343, 47⟩) (.cons (.bin (.var 4 ⟨343, 49, 343, 59⟩) .Add (.lit (.int 1) 0 ⟨343, 62, 343, 63⟩) ⟨343, 49, 343, 63⟩) .nil)) 0 ⟨343, 37, 343, 64⟩) .nil) ⟨343, 36, 343, 65⟩) ⟨343, 17, 343, 65⟩) ⟨343, 4, 343, 65⟩)
    (.cons (.ite (.bop .And (.cons (.cmp (.sub (.var 5 ⟨344, 7, 344, 15⟩) (.lit (.int 0) 0 ⟨344, 16, 344, 17⟩) ⟨344, 7, 344, 18⟩) .NotEq (.lit (.str "call") 0 ⟨344, 22, 344, 28⟩) ⟨344, 7, 344, 28⟩) (.cons (.cmp (.sub (.var 5 ⟨344, 33, 344, 41⟩) (.lit (.int 0) 0 ⟨344, 42, 344, 43⟩) ⟨344, 33, 344, 44⟩) .NotEq (.lit (.str "if") 0 ⟨344, 48, 344, 52⟩) ⟨344, 33, 344, 52⟩) .nil)) ⟨344, 7, 344, 52⟩) (.cons (.assign 7 ⟨345, 8, 345, 17⟩ (.call "_law_lack" (.cons (.call "_law_kinds_of" (.cons (.var 1 ⟨345, 44, 345, 54⟩) .nil) ⟨345, 30, 345, 43⟩ ⟨345, 30, 345, 55⟩) (.cons (.call "_law_wanted" (.cons (.var 5 ⟨345, 69, 345, 77⟩) .nil) ⟨345, 57, 345, 68⟩ ⟨345, 57, 345, 78⟩) .nil)) ⟨345, 20, 345, 29⟩ ⟨345, 20, 345, 79⟩) ⟨345, 8, 345, 79⟩)
    (.cons (.ite (.cmp (.var 7 ⟨346, 11, 346, 20⟩) .NotEq (.lit (.str "") 0 ⟨346, 24, 346, 26⟩) ⟨346, 11, 346, 26⟩) (.cons (.ret (.tup (.cons (.var 7 ⟨347, 20, 347, 29⟩) (.cons (.var 1 ⟨347, 31, 347, 41⟩) (.cons (.var 2 ⟨347, 43, 347, 54⟩) .nil))) 0 ⟨347, 19, 347, 55⟩) ⟨347, 12, 347, 55⟩)
    .nil) .nil ⟨346, 8, 347, 55⟩)
    (.cons (.ret (.tup (.cons (.lit (.str "") 0 ⟨348, 16, 348, 18⟩) (.cons (.call "_law_behind" (.cons (.var 1 ⟨348, 32, 348, 42⟩) (.cons (.var 5 ⟨348, 44, 348, 52⟩) .nil)) ⟨348, 20, 348, 31⟩ ⟨348, 20, 348, 53⟩) (.cons (.call "_law_left" (.cons (.var 0 ⟨348, 65, 348, 77⟩) (.cons (.var 6 ⟨348, 79, 348, 89⟩) .nil)) ⟨348, 55, 348, 64⟩ ⟨348, 55, 348, 90⟩) .nil))) 0 ⟨348, 15, 348, 91⟩) ⟨348, 8, 348, 91⟩)
    .nil))) .nil ⟨344, 4, 348, 91⟩)
    (.cons (.assign 8 ⟨349, 4, 349, 14⟩ (.sub (.var 5 ⟨349, 17, 349, 25⟩) (.lit (.int 1) 0 ⟨349, 26, 349, 27⟩) ⟨349, 17, 349, 28⟩) ⟨349, 4, 349, 28⟩)
    (.cons (.assign 9 ⟨350, 4, 350, 18⟩ (.var 1 ⟨350, 21, 350, 31⟩) ⟨350, 4, 350, 31⟩)
    (.cons (.ite (.cmp (.sub (.var 5 ⟨351, 7, 351, 15⟩) (.lit (.int 0) 0 ⟨351, 16, 351, 17⟩) ⟨351, 7, 351, 18⟩) .Eq (.lit (.str "if") 0 ⟨351, 22, 351, 26⟩) ⟨351, 7, 351, 26⟩) (.cons (.assign 7 ⟨352, 8, 352, 17⟩ (.call "_law_lack" (.cons (.call "_law_kinds_of" (.cons (.var 1 ⟨352, 44, 352, 54⟩) .nil) ⟨352, 30, 352, 43⟩ ⟨352, 30, 352, 55⟩) (.cons (.list (.cons (.lit (.str "num") 0 ⟨352, 58, 352, 63⟩) .nil) ⟨352, 57, 352, 64⟩) .nil)) ⟨352, 20, 352, 29⟩ ⟨352, 20, 352, 65⟩) ⟨352, 8, 352, 65⟩)
    (.cons (.ite (.cmp (.var 7 ⟨353, 11, 353, 20⟩) .NotEq (.lit (.str "") 0 ⟨353, 24, 353, 26⟩) ⟨353, 11, 353, 26⟩) (.cons (.ret (.tup (.cons (.var 7 ⟨354, 20, 354, 29⟩) (.cons (.var 1 ⟨354, 31, 354, 41⟩) (.cons (.var 2 ⟨354, 43, 354, 54⟩) .nil))) 0 ⟨354, 19, 354, 55⟩) ⟨354, 12, 354, 55⟩)
    .nil) .nil ⟨353, 8, 354, 55⟩)
    (.cons (.assign 9 ⟨355, 8, 355, 22⟩ (.sto (.var 1 ⟨355, 25, 355, 35⟩) (.neg (.lit (.int 1) 0 ⟨355, 38, 355, 39⟩) ⟨355, 37, 355, 39⟩) ⟨355, 36, 355, 39⟩ ⟨355, 25, 355, 40⟩) ⟨355, 8, 355, 40⟩)
    (.cons (.ite (.cmp (.sub (.var 1 ⟨356, 11, 356, 21⟩) (.neg (.lit (.int 1) 0 ⟨356, 23, 356, 24⟩) ⟨356, 22, 356, 24⟩) ⟨356, 11, 356, 25⟩) .Eq (.lit (.int 0) 0 ⟨356, 29, 356, 30⟩) ⟨356, 11, 356, 30⟩) (.cons (.assign 8 ⟨357, 12, 357, 22⟩ (.sub (.var 5 ⟨357, 25, 357, 33⟩) (.lit (.int 2) 0 ⟨357, 34, 357, 35⟩) ⟨357, 25, 357, 36⟩) ⟨357, 12, 357, 36⟩)
    .nil) .nil ⟨356, 8, 357, 36⟩)
    .nil)))) .nil ⟨351, 4, 357, 36⟩)
    (.cons (.ite (.cmp (.var 8 ⟨358, 7, 358, 17⟩) .NotIn (.var 0 ⟨358, 25, 358, 37⟩) ⟨358, 7, 358, 37⟩) (.cons (.ret (.tup (.cons (.lit (.str "block") 0 ⟨359, 16, 359, 23⟩) (.cons (.var 1 ⟨359, 25, 359, 35⟩) (.cons (.var 2 ⟨359, 37, 359, 48⟩) .nil))) 0 ⟨359, 15, 359, 49⟩) ⟨359, 8, 359, 49⟩)
    .nil) .nil ⟨358, 4, 359, 49⟩)
    (.cons (.ret (.tup (.cons (.lit (.str "") 0 ⟨360, 12, 360, 14⟩) (.cons (.var 9 ⟨360, 16, 360, 30⟩) (.cons (.call "_law_left" (.cons (.var 0 ⟨360, 42, 360, 54⟩) (.cons (.bin (.var 6 ⟨360, 56, 360, 66⟩) .Add (.list (.cons (.tup (.cons (.var 8 ⟨360, 71, 360, 81⟩) (.cons (.lit (.int 0) 0 ⟨360, 83, 360, 84⟩) .nil)) 0 ⟨360, 70, 360, 85⟩) .nil) ⟨360, 69, 360, 86⟩) ⟨360, 56, 360, 86⟩) .nil)) ⟨360, 32, 360, 41⟩ ⟨360, 32, 360, 87⟩) .nil))) 0 ⟨360, 11, 360, 88⟩) ⟨360, 4, 360, 88⟩)
    .nil)))))))))
noncomputable def S_law_stepped : Scope := {
              kind := PySem.ScopeKind.function,
              names := [
                (PySem.Str.ofString "_law_program", PySem.NameKind.local),
                (PySem.Str.ofString "_law_stack", PySem.NameKind.local),
                (PySem.Str.ofString "_law_frames", PySem.NameKind.local),
                (PySem.Str.ofString "_law_name", PySem.NameKind.local),
                (PySem.Str.ofString "_law_place", PySem.NameKind.local),
                (PySem.Str.ofString "_law_row", PySem.NameKind.local),
                (PySem.Str.ofString "_law_moved", PySem.NameKind.local),
                (PySem.Str.ofString "_law_word", PySem.NameKind.local),
                (PySem.Str.ofString "_law_other", PySem.NameKind.local),
                (PySem.Str.ofString "_law_left_here", PySem.NameKind.local),
                (PySem.Str.ofString "_law_lack", PySem.NameKind.globalImplicit),
                (PySem.Str.ofString "_law_kinds_of", PySem.NameKind.globalImplicit),
                (PySem.Str.ofString "_law_wanted", PySem.NameKind.globalImplicit),
                (PySem.Str.ofString "_law_behind", PySem.NameKind.globalImplicit),
                (PySem.Str.ofString "_law_left", PySem.NameKind.globalImplicit)],
              isGenerator := false,
              isCoroutine := false,
              more := [] : PySem.Scope }

noncomputable def N_law_alike : List Str := ["_law_found", "_law_due", "_law_k"]
noncomputable def B_law_alike : ASs :=
    (.cons (.ite (.bop .Or (.cons (.not (.isi (.var 0 ⟨362, 22, 362, 32⟩) .list ⟨362, 11, 362, 21⟩ ⟨362, 34, 362, 38⟩ default default ⟨362, 11, 362, 39⟩) ⟨362, 7, 362, 39⟩) (.cons (.cmp (.blt .len (.cons (.var 0 ⟨362, 47, 362, 57⟩) .nil) ⟨362, 43, 362, 46⟩ ⟨362, 43, 362, 58⟩) .NotEq (.blt .len (.cons (.var 1 ⟨362, 66, 362, 74⟩) .nil) ⟨362, 62, 362, 65⟩ ⟨362, 62, 362, 75⟩) ⟨362, 43, 362, 75⟩) .nil)) ⟨362, 7, 362, 75⟩) (.cons (.ret (.lit (.bool false) 0 ⟨363, 15, 363, 20⟩) ⟨363, 8, 363, 20⟩)
    .nil) .nil ⟨362, 4, 363, 20⟩)
    (.cons (.for 2 ⟨364, 8, 364, 14⟩ (.blt .range (.cons (.blt .len (.cons (.var 1 ⟨364, 28, 364, 36⟩) .nil) ⟨364, 24, 364, 27⟩ ⟨364, 24, 364, 37⟩) .nil) ⟨364, 18, 364, 23⟩ ⟨364, 18, 364, 38⟩) (.cons (.ite (.cmp (.isi (.sub (.var 1 ⟨365, 22, 365, 30⟩) (.var 2 ⟨365, 31, 365, 37⟩) ⟨365, 22, 365, 38⟩) .str ⟨365, 11, 365, 21⟩ ⟨365, 40, 365, 43⟩ default default ⟨365, 11, 365, 44⟩) .NotEq (.isi (.sub (.var 0 ⟨365, 59, 365, 69⟩) (.var 2 ⟨365, 70, 365, 76⟩) ⟨365, 59, 365, 77⟩) .str ⟨365, 48, 365, 58⟩ ⟨365, 79, 365, 82⟩ default default ⟨365, 48, 365, 83⟩) ⟨365, 11, 365, 83⟩) (.cons (.ret (.lit (.bool false) 0 ⟨366, 19, 366, 24⟩) ⟨366, 12, 366, 24⟩)
    .nil) .nil ⟨365, 8, 366, 24⟩)
    (.cons (.ite (.bop .And (.cons (.not (.isi (.sub (.var 1 ⟨367, 26, 367, 34⟩) (.var 2 ⟨367, 35, 367, 41⟩) ⟨367, 26, 367, 42⟩) .str ⟨367, 15, 367, 25⟩ ⟨367, 44, 367, 47⟩ default default ⟨367, 15, 367, 48⟩) ⟨367, 11, 367, 48⟩) (.cons (.bop .Or (.cons (.isi (.sub (.var 0 ⟨367, 65, 367, 75⟩) (.var 2 ⟨367, 76, 367, 82⟩) ⟨367, 65, 367, 83⟩) .bool ⟨367, 54, 367, 64⟩ ⟨367, 85, 367, 89⟩ default default ⟨367, 54, 367, 90⟩) (.cons (.not (.isi (.sub (.var 0 ⟨367, 109, 367, 119⟩) (.var 2 ⟨367, 120, 367, 126⟩) ⟨367, 109, 367, 127⟩) .int ⟨367, 98, 367, 108⟩ ⟨367, 129, 367, 132⟩ default default ⟨367, 98, 367, 133⟩) ⟨367, 94, 367, 133⟩) .nil)) ⟨367, 54, 367, 133⟩) .nil)) ⟨367, 11, 367, 134⟩) (.cons (.ret (.lit (.bool false) 0 ⟨368, 19, 368, 24⟩) ⟨368, 12, 368, 24⟩)
    .nil) .nil ⟨367, 8, 368, 24⟩)
    .nil)) ⟨364, 4, 368, 24⟩)
    (.cons (.ret (.cmp (.var 0 ⟨369, 11, 369, 21⟩) .Eq (.var 1 ⟨369, 25, 369, 33⟩) ⟨369, 11, 369, 33⟩) ⟨369, 4, 369, 33⟩)
    .nil)))
noncomputable def S_law_alike : Scope := {
              kind := PySem.ScopeKind.function,
              names := [
                (PySem.Str.ofString "_law_found", PySem.NameKind.local),
                (PySem.Str.ofString "_law_due", PySem.NameKind.local),
                (PySem.Str.ofString "_law_k", PySem.NameKind.local),
                (PySem.Str.ofString "isinstance", PySem.NameKind.globalImplicit),
                (PySem.Str.ofString "list", PySem.NameKind.globalImplicit),
                (PySem.Str.ofString "len", PySem.NameKind.globalImplicit),
                (PySem.Str.ofString "range", PySem.NameKind.globalImplicit),
                (PySem.Str.ofString "str", PySem.NameKind.globalImplicit),
                (PySem.Str.ofString "bool", PySem.NameKind.globalImplicit),
                (PySem.Str.ofString "int", PySem.NameKind.globalImplicit)],
              isGenerator := false,
              isCoroutine := false,
              more := [] : PySem.Scope }

noncomputable def N_law_on_top : List Str := ["_law_script", "_law_tape", "_law_ins", "_law_size", "_law_beneath", "_law_k", "_law_kind"]
noncomputable def B_law_on_top : ASs :=
    (.cons (.assign 3 ⟨371, 4, 371, 13⟩ (.bin (.call "_law_draw" (.cons (.var 0 ⟨371, 26, 371, 37⟩) (.cons (.var 1 ⟨371, 39, 371, 48⟩) (.cons (.lit (.int 4) 0 ⟨371, 50, 371, 51⟩) .nil))) ⟨371, 16, 371, 25⟩ ⟨371, 16, 371, 52⟩) .Add (.sub (.list (.cons (.lit (.int 0) 0 ⟨371, 56, 371, 57⟩) (.cons (.lit (.int 0) 0 ⟨371, 59, 371, 60⟩) (.cons (.lit (.int 0) 0 ⟨371, 62, 371, 63⟩) (.cons (.lit (.int 0) 0 ⟨371, 65, 371, 66⟩) (.cons (.lit (.int 0) 0 ⟨371, 68, 371, 69⟩) (.cons (.lit (.int 60) 0 ⟨371, 71, 371, 73⟩) .nil)))))) ⟨371, 55, 371, 74⟩) (.call "_law_draw" (.cons (.var 0 ⟨371, 85, 371, 96⟩) (.cons (.var 1 ⟨371, 98, 371, 107⟩) (.cons (.lit (.int 6) 0 ⟨371, 109, 371, 110⟩) .nil))) ⟨371, 75, 371, 84⟩ ⟨371, 75, 371, 111⟩) ⟨371, 55, 371, 112⟩) ⟨371, 16, 371, 112⟩) ⟨371, 4, 371, 112⟩)
    (.cons (.assign 4 ⟨372, 4, 372, 16⟩ (.list .nil ⟨372, 19, 372, 21⟩) ⟨372, 4, 372, 21⟩)
    (.cons (.for 5 ⟨373, 8, 373, 14⟩ (.blt .range (.cons (.var 3 ⟨373, 24, 373, 33⟩) .nil) ⟨373, 18, 373, 23⟩ ⟨373, 18, 373, 34⟩) (.cons (.expr (.meth (.var 4 ⟨374, 8, 374, 20⟩) .append (.cons (.call "_law_value" (.cons (.var 0 ⟨374, 39, 374, 50⟩) (.cons (.var 1 ⟨374, 52, 374, 61⟩) (.cons (.sub (.list (.cons (.lit (.str "num") 0 ⟨374, 64, 374, 69⟩) (.cons (.lit (.str "text") 0 ⟨374, 71, 374, 77⟩) .nil)) ⟨374, 63, 374, 78⟩) (.call "_law_draw" (.cons (.var 0 ⟨374, 89, 374, 100⟩) (.cons (.var 1 ⟨374, 102, 374, 111⟩) (.cons (.lit (.int 2) 0 ⟨374, 113, 374, 114⟩) .nil))) ⟨374, 79, 374, 88⟩ ⟨374, 79, 374, 115⟩) ⟨374, 63, 374, 116⟩) .nil))) ⟨374, 28, 374, 38⟩ ⟨374, 28, 374, 117⟩) .nil) ⟨374, 8, 374, 27⟩ ⟨374, 8, 374, 118⟩) ⟨374, 8, 374, 118⟩)
    .nil) ⟨373, 4, 374, 118⟩)
    (.cons (.ret (.bin (.var 4 ⟨375, 11, 375, 23⟩) .Add (.comp (.call "_law_value" (.cons (.var 0 ⟨375, 38, 375, 49⟩) (.cons (.var 1 ⟨375, 51, 375, 60⟩) (.cons (.var 6 ⟨375, 62, 375, 71⟩) .nil))) ⟨375, 27, 375, 37⟩ ⟨375, 27, 375, 72⟩) 6 ⟨375, 77, 375, 86⟩ (.var 2 ⟨375, 90, 375, 98⟩) .nil {                         kind := PySem.ScopeKind.function,                         names := [                           (PySem.Str.ofString ".0", PySem.NameKind.local),                           (PySem.Str.ofString "_law_kind", PySem.NameKind.local),                           (PySem.Str.ofString "_law_value", PySem.NameKind.globalImplicit),                           (PySem.Str.ofString "_law_script", PySem.NameKind.free),                           (PySem.Str.ofString "_law_tape", PySem.NameKind.free)],                         isGenerator := false,                         isCoroutine := false,                         more := [] : PySem.Scope } ⟨375, 26, 375, 99⟩) ⟨375, 11, 375, 99⟩) ⟨375, 4, 375, 99⟩)
    .nil))))
noncomputable def S_law_on_top : Scope := {
              kind := PySem.ScopeKind.function,
              names := [
                (PySem.Str.ofString "_law_script", PySem.NameKind.cell),
                (PySem.Str.ofString "_law_tape", PySem.NameKind.cell),
                (PySem.Str.ofString "_law_ins", PySem.NameKind.local),
                (PySem.Str.ofString "_law_size", PySem.NameKind.local),
                (PySem.Str.ofString "_law_beneath", PySem.NameKind.local),
                (PySem.Str.ofString "_law_k", PySem.NameKind.local),
                (PySem.Str.ofString "_law_draw", PySem.NameKind.globalImplicit),
                (PySem.Str.ofString "range", PySem.NameKind.globalImplicit),
                (PySem.Str.ofString "_law_value", PySem.NameKind.globalImplicit)],
              isGenerator := false,
              isCoroutine := false,
              more := [
                (PySem.Str.ofString "fast", (PySem.Const.str "_law_script")),
                (PySem.Str.ofString "fast", (PySem.Const.str "_law_tape")),
                (PySem.Str.ofString "fast", (PySem.Const.str "_law_ins")),
                (PySem.Str.ofString "fast", (PySem.Const.str "_law_size")),
                (PySem.Str.ofString "fast", (PySem.Const.str "_law_beneath")),
                (PySem.Str.ofString "fast", (PySem.Const.str "_law_k")),
                (PySem.Str.ofString "fast", (PySem.Const.str "_law_kind"))] : PySem.Scope }

noncomputable def N_law_way : List Str := ["_law_program", "_law_name", "_law_stack", "_law_most", "_law_frames", "_law_steps", "_law_word"]
noncomputable def B_law_way : ASs :=
    (.cons (.ite (.cmp (.var 1 ⟨377, 7, 377, 16⟩) .NotIn (.var 0 ⟨377, 24, 377, 36⟩) ⟨377, 7, 377, 36⟩) (.cons (.ret (.tup (.cons (.lit (.str "block") 0 ⟨378, 16, 378, 23⟩) (.cons (.var 2 ⟨378, 25, 378, 35⟩) (.cons (.lit (.int 0) 0 ⟨378, 37, 378, 38⟩) .nil))) 0 ⟨378, 15, 378, 39⟩) ⟨378, 8, 378, 39⟩)
    .nil) .nil ⟨377, 4, 378, 39⟩)
    (.cons (.assign 4 ⟨379, 4, 379, 15⟩ (.call "_law_left" (.cons (.var 0 ⟨379, 28, 379, 40⟩) (.cons (.list (.cons (.tup (.cons (.var 1 ⟨379, 44, 379, 53⟩) (.cons (.lit (.int 0) 0 ⟨379, 55, 379, 56⟩) .nil)) 0 ⟨379, 43, 379, 57⟩) .nil) ⟨379, 42, 379, 58⟩) .nil)) ⟨379, 18, 379, 27⟩ ⟨379, 18, 379, 59⟩) ⟨379, 4, 379, 59⟩)
    (.cons (.assign 5 ⟨380, 4, 380, 14⟩ (.lit (.int 0) 0 ⟨380, 17, 380, 18⟩) ⟨380, 4, 380, 18⟩)
    (.cons (.while (.bop .And (.cons (.cmp (.blt .len (.cons (.var 4 ⟨381, 14, 381, 25⟩) .nil) ⟨381, 10, 381, 13⟩ ⟨381, 10, 381, 26⟩) .Gt (.lit (.int 0) 0 ⟨381, 29, 381, 30⟩) ⟨381, 10, 381, 30⟩) (.cons (.cmp (.var 5 ⟨381, 35, 381, 45⟩) .Lt (.var 3 ⟨381, 48, 381, 57⟩) ⟨381, 35, 381, 57⟩) .nil)) ⟨381, 10, 381, 57⟩) (.cons (.assignT [(6, ⟨382, 8, 382, 17⟩), (2, ⟨382, 19, 382, 29⟩), (4, ⟨382, 31, 382, 42⟩)] 0 ⟨382, 8, 382, 42⟩ (.call "_law_stepped" (.cons (.var 0 ⟨382, 58, 382, 70⟩) (.cons (.var 2 ⟨382, 72, 382, 82⟩) (.cons (.var 4 ⟨382, 84, 382, 95⟩) .nil))) ⟨382, 45, 382, 57⟩ ⟨382, 45, 382, 96⟩) ⟨382, 8, 382, 96⟩)
    (.cons (.ite (.cmp (.var 6 ⟨383, 11, 383, 20⟩) .NotEq (.lit (.str "") 0 ⟨383, 24, 383, 26⟩) ⟨383, 11, 383, 26⟩) (.cons (.ret (.tup (.cons (.var 6 ⟨384, 20, 384, 29⟩) (.cons (.var 2 ⟨384, 31, 384, 41⟩) (.cons (.var 5 ⟨384, 43, 384, 53⟩) .nil))) 0 ⟨384, 19, 384, 54⟩) ⟨384, 12, 384, 54⟩)
    .nil) .nil ⟨383, 8, 384, 54⟩)
    (.cons (.assign 5 ⟨385, 8, 385, 18⟩ (.bin (.var 5 ⟨385, 21, 385, 31⟩) .Add (.lit (.int 1) 0 ⟨385, 34, 385, 35⟩) ⟨385, 21, 385, 35⟩) ⟨385, 8, 385, 35⟩)
    .nil))) ⟨381, 4, 385, 35⟩)
    (.cons (.ite (.cmp (.blt .len (.cons (.var 4 ⟨386, 11, 386, 22⟩) .nil) ⟨386, 7, 386, 10⟩ ⟨386, 7, 386, 23⟩) .Gt (.lit (.int 0) 0 ⟨386, 26, 386, 27⟩) ⟨386, 7, 386, 27⟩) (.cons (.ret (.tup (.cons (.lit (.str "dry") 0 ⟨387, 16, 387, 21⟩) (.cons (.var 2 ⟨387, 23, 387, 33⟩) (.cons (.var 5 ⟨387, 35, 387, 45⟩) .nil))) 0 ⟨387, 15, 387, 46⟩) ⟨387, 8, 387, 46⟩)
    .nil) .nil ⟨386, 4, 387, 46⟩)
    (.cons (.ret (.tup (.cons (.lit (.str "") 0 ⟨388, 12, 388, 14⟩) (.cons (.var 2 ⟨388, 16, 388, 26⟩) (.cons (.var 5 ⟨388, 28, 388, 38⟩) .nil))) 0 ⟨388, 11, 388, 39⟩) ⟨388, 4, 388, 39⟩)
    .nil))))))
noncomputable def S_law_way : Scope := {
              kind := PySem.ScopeKind.function,
              names := [
                (PySem.Str.ofString "_law_program", PySem.NameKind.local),
                (PySem.Str.ofString "_law_name", PySem.NameKind.local),
                (PySem.Str.ofString "_law_stack", PySem.NameKind.local),
                (PySem.Str.ofString "_law_most", PySem.NameKind.local),
                (PySem.Str.ofString "_law_frames", PySem.NameKind.local),
                (PySem.Str.ofString "_law_steps", PySem.NameKind.local),
                (PySem.Str.ofString "_law_word", PySem.NameKind.local),
                (PySem.Str.ofString "_law_left", PySem.NameKind.globalImplicit),
                (PySem.Str.ofString "len", PySem.NameKind.globalImplicit),
                (PySem.Str.ofString "_law_stepped", PySem.NameKind.globalImplicit)],
              isGenerator := false,
              isCoroutine := false,
              more := [] : PySem.Scope }

noncomputable def N_law_run : List Str := ["_law_program", "_law_name", "_law_stack", "_law_fuel"]
noncomputable def B_law_run : ASs :=
    (.cons (.try (.cons (.ret (.call "run" (.cons (.var 0 ⟨391, 19, 391, 31⟩) (.cons (.var 1 ⟨391, 33, 391, 42⟩) (.cons (.var 2 ⟨391, 44, 391, 54⟩) (.cons (.var 3 ⟨391, 56, 391, 65⟩) .nil)))) ⟨391, 15, 391, 18⟩ ⟨391, 15, 391, 66⟩) ⟨391, 8, 391, 66⟩)
    .nil) (.cons 5 "Dry" ⟨392, 11, 392, 14⟩ none (.cons (.ret (.lit (.str "dry") 0 ⟨393, 15, 393, 20⟩) ⟨393, 8, 393, 20⟩)
    .nil) ⟨392, 4, 393, 20⟩ (.cons 1 "Empty" ⟨394, 11, 394, 16⟩ none (.cons (.ret (.lit (.str "empty") 0 ⟨395, 15, 395, 22⟩) ⟨395, 8, 395, 22⟩)
    .nil) ⟨394, 4, 395, 22⟩ (.cons 2 "WrongKind" ⟨396, 11, 396, 20⟩ none (.cons (.ret (.lit (.str "kind") 0 ⟨397, 15, 397, 21⟩) ⟨397, 8, 397, 21⟩)
    .nil) ⟨396, 4, 397, 21⟩ (.cons 3 "NoBlock" ⟨398, 11, 398, 18⟩ none (.cons (.ret (.lit (.str "block") 0 ⟨399, 15, 399, 22⟩) ⟨399, 8, 399, 22⟩)
    .nil) ⟨398, 4, 399, 22⟩ .nil)))) ⟨390, 4, 399, 22⟩)
    .nil)
noncomputable def S_law_run : Scope := {
              kind := PySem.ScopeKind.function,
              names := [
                (PySem.Str.ofString "_law_program", PySem.NameKind.local),
                (PySem.Str.ofString "_law_name", PySem.NameKind.local),
                (PySem.Str.ofString "_law_stack", PySem.NameKind.local),
                (PySem.Str.ofString "_law_fuel", PySem.NameKind.local),
                (PySem.Str.ofString "run", PySem.NameKind.globalImplicit),
                (PySem.Str.ofString "Dry", PySem.NameKind.globalImplicit),
                (PySem.Str.ofString "Empty", PySem.NameKind.globalImplicit),
                (PySem.Str.ofString "WrongKind", PySem.NameKind.globalImplicit),
                (PySem.Str.ofString "NoBlock", PySem.NameKind.globalImplicit)],
              isGenerator := false,
              isCoroutine := false,
              more := [] : PySem.Scope }

noncomputable def N_law_any : List Str := ["_law_program", "_law_name", "_law_stack", "_law_fuel", "e", "_law_sorts"]
noncomputable def B_law_any : ASs :=
    (.cons (.try (.cons (.expr (.call "run" (.cons (.var 0 ⟨402, 12, 402, 24⟩) (.cons (.var 1 ⟨402, 26, 402, 35⟩) (.cons (.var 2 ⟨402, 37, 402, 47⟩) (.cons (.var 3 ⟨402, 49, 402, 58⟩) .nil)))) ⟨402, 8, 402, 11⟩ ⟨402, 8, 402, 59⟩) ⟨402, 8, 402, 59⟩)
    .nil) (.cons 0 "StackError" ⟨403, 11, 403, 21⟩ (some 4) (.cons (.assign 5 ⟨404, 8, 404, 18⟩ (.list (.cons (.isi (.var 4 ⟨404, 33, 404, 34⟩) (.own 1 "Empty") ⟨404, 22, 404, 32⟩ ⟨404, 36, 404, 41⟩ default default ⟨404, 22, 404, 42⟩) (.cons (.isi (.var 4 ⟨404, 55, 404, 56⟩) (.own 2 "WrongKind") ⟨404, 44, 404, 54⟩ ⟨404, 58, 404, 67⟩ default default ⟨404, 44, 404, 68⟩) (.cons (.isi (.var 4 ⟨404, 81, 404, 82⟩) (.own 3 "NoBlock") ⟨404, 70, 404, 80⟩ ⟨404, 84, 404, 91⟩ default default ⟨404, 70, 404, 92⟩) .nil))) ⟨404, 21, 404, 93⟩) ⟨404, 8, 404, 93⟩)
    (.cons (.assign 5 ⟨405, 8, 405, 18⟩ (.bin (.var 5 ⟨405, 21, 405, 31⟩) .Add (.list (.cons (.isi (.var 4 ⟨405, 46, 405, 47⟩) (.own 4 "Apart") ⟨405, 35, 405, 45⟩ ⟨405, 49, 405, 54⟩ default default ⟨405, 35, 405, 55⟩) (.cons (.isi (.var 4 ⟨405, 68, 405, 69⟩) (.own 5 "Dry") ⟨405, 57, 405, 67⟩ ⟨405, 71, 405, 74⟩ default default ⟨405, 57, 405, 75⟩) .nil)) ⟨405, 34, 405, 76⟩) ⟨405, 21, 405, 76⟩) ⟨405, 8, 405, 76⟩)
    (.cons (.ret (.bop .And (.cons (.isi (.var 4 ⟨406, 26, 406, 27⟩) .value ⟨406, 15, 406, 25⟩ ⟨406, 29, 406, 39⟩ default default ⟨406, 15, 406, 40⟩) (.cons (.cmp (.meth (.var 5 ⟨406, 45, 406, 55⟩) .count (.cons (.lit (.bool true) 0 ⟨406, 62, 406, 66⟩) .nil) ⟨406, 45, 406, 61⟩ ⟨406, 45, 406, 67⟩) .Eq (.lit (.int 1) 0 ⟨406, 71, 406, 72⟩) ⟨406, 45, 406, 72⟩) .nil)) ⟨406, 15, 406, 72⟩) ⟨406, 8, 406, 72⟩)
    .nil))) ⟨403, 4, 406, 72⟩ .nil) ⟨401, 4, 406, 72⟩)
    (.cons (.ret (.lit (.bool false) 0 ⟨407, 11, 407, 16⟩) ⟨407, 4, 407, 16⟩)
    .nil))
noncomputable def S_law_any : Scope := {
              kind := PySem.ScopeKind.function,
              names := [
                (PySem.Str.ofString "_law_program", PySem.NameKind.local),
                (PySem.Str.ofString "_law_name", PySem.NameKind.local),
                (PySem.Str.ofString "_law_stack", PySem.NameKind.local),
                (PySem.Str.ofString "_law_fuel", PySem.NameKind.local),
                (PySem.Str.ofString "e", PySem.NameKind.local),
                (PySem.Str.ofString "_law_sorts", PySem.NameKind.local),
                (PySem.Str.ofString "run", PySem.NameKind.globalImplicit),
                (PySem.Str.ofString "StackError", PySem.NameKind.globalImplicit),
                (PySem.Str.ofString "isinstance", PySem.NameKind.globalImplicit),
                (PySem.Str.ofString "Empty", PySem.NameKind.globalImplicit),
                (PySem.Str.ofString "WrongKind", PySem.NameKind.globalImplicit),
                (PySem.Str.ofString "NoBlock", PySem.NameKind.globalImplicit),
                (PySem.Str.ofString "Apart", PySem.NameKind.globalImplicit),
                (PySem.Str.ofString "Dry", PySem.NameKind.globalImplicit),
                (PySem.Str.ofString "ValueError", PySem.NameKind.globalImplicit)],
              isGenerator := false,
              isCoroutine := false,
              more := [] : PySem.Scope }

noncomputable def N_law : List Str := ["_law_script", "_law_tape", "_law_fuel", "_law_just", "_law_program", "_law_name", "_law_stack", "_law_kept", "_law_word", "_law_due", "_law_steps", "_law_handed", "_law_found"]
noncomputable def B_law : ASs :=
    (.cons (.assign 1 ⟨409, 4, 409, 13⟩ (.tape ⟨409, 17, 409, 18⟩ ⟨409, 16, 409, 19⟩) ⟨409, 4, 409, 19⟩)
    (.cons (.assign 2 ⟨410, 4, 410, 13⟩ (.call "_law_draw" (.cons (.var 0 ⟨410, 26, 410, 37⟩) (.cons (.var 1 ⟨410, 39, 410, 48⟩) (.cons (.lit (.int 40) 0 ⟨410, 50, 410, 52⟩) .nil))) ⟨410, 16, 410, 25⟩ ⟨410, 16, 410, 53⟩) ⟨410, 4, 410, 53⟩)
    (.cons (.assign 3 ⟨411, 4, 411, 13⟩ (.call "_law_draw" (.cons (.var 0 ⟨411, 26, 411, 37⟩) (.cons (.var 1 ⟨411, 39, 411, 48⟩) (.cons (.lit (.int 8) 0 ⟨411, 50, 411, 51⟩) .nil))) ⟨411, 16, 411, 25⟩ ⟨411, 16, 411, 52⟩) ⟨411, 4, 411, 52⟩)
    (.cons (.assign 4 ⟨412, 4, 412, 16⟩ (.call "_law_good_program" (.cons (.var 0 ⟨412, 37, 412, 48⟩) (.cons (.var 1 ⟨412, 50, 412, 59⟩) .nil)) ⟨412, 19, 412, 36⟩ ⟨412, 19, 412, 60⟩) ⟨412, 4, 412, 60⟩)
    (.cons (.assign 5 ⟨413, 4, 413, 13⟩ (.sub (.blt .list (.cons (.var 4 ⟨413, 21, 413, 33⟩) .nil) ⟨413, 16, 413, 20⟩ ⟨413, 16, 413, 34⟩) (.bin (.call "_law_draw" (.cons (.var 0 ⟨413, 45, 413, 56⟩) (.cons (.var 1 ⟨413, 58, 413, 67⟩) (.cons (.lit (.int 1000) 0 ⟨413, 69, 413, 73⟩) .nil))) ⟨413, 35, 413, 44⟩ ⟨413, 35, 413, 74⟩) .Mod (.blt .len (.cons (.var 4 ⟨413, 81, 413, 93⟩) .nil) ⟨413, 77, 413, 80⟩ ⟨413, 77, 413, 94⟩) ⟨413, 35, 413, 94⟩) ⟨413, 16, 413, 95⟩) ⟨413, 4, 413, 95⟩)
    (.cons (.ite (.cmp (.call "_law_draw" (.cons (.var 0 ⟨414, 17, 414, 28⟩) (.cons (.var 1 ⟨414, 30, 414, 39⟩) (.cons (.lit (.int 8) 0 ⟨414, 41, 414, 42⟩) .nil))) ⟨414, 7, 414, 16⟩ ⟨414, 7, 414, 43⟩) .Lt (.lit (.int 4) 0 ⟨414, 46, 414, 47⟩) ⟨414, 7, 414, 47⟩) (.cons (.assign 5 ⟨415, 8, 415, 17⟩ (.call "_law_spoilt" (.cons (.var 0 ⟨415, 32, 415, 43⟩) (.cons (.var 1 ⟨415, 45, 415, 54⟩) (.cons (.var 4 ⟨415, 56, 415, 68⟩) .nil))) ⟨415, 20, 415, 31⟩ ⟨415, 20, 415, 69⟩) ⟨415, 8, 415, 69⟩)
    .nil) .nil ⟨414, 4, 415, 69⟩)
    (.cons (.assign 6 ⟨416, 4, 416, 14⟩ (.call "_law_on_top" (.cons (.var 0 ⟨416, 29, 416, 40⟩) (.cons (.var 1 ⟨416, 42, 416, 51⟩) (.cons (.sub (.sub (.var 4 ⟨416, 53, 416, 65⟩) (.var 5 ⟨416, 66, 416, 75⟩) ⟨416, 53, 416, 76⟩) (.lit (.int 0) 0 ⟨416, 77, 416, 78⟩) ⟨416, 53, 416, 79⟩) .nil))) ⟨416, 17, 416, 28⟩ ⟨416, 17, 416, 80⟩) ⟨416, 4, 416, 80⟩)
    (.cons (.ite (.cmp (.call "_law_draw" (.cons (.var 0 ⟨417, 17, 417, 28⟩) (.cons (.var 1 ⟨417, 30, 417, 39⟩) (.cons (.lit (.int 5) 0 ⟨417, 41, 417, 42⟩) .nil))) ⟨417, 7, 417, 16⟩ ⟨417, 7, 417, 43⟩) .Eq (.lit (.int 0) 0 ⟨417, 47, 417, 48⟩) ⟨417, 7, 417, 48⟩) (.cons (.assign 6 ⟨418, 8, 418, 18⟩ (.sfrom (.var 6 ⟨418, 21, 418, 31⟩) (.bin (.call "_law_draw" (.cons (.var 0 ⟨418, 42, 418, 53⟩) (.cons (.var 1 ⟨418, 55, 418, 64⟩) (.cons (.lit (.int 1000) 0 ⟨418, 66, 418, 70⟩) .nil))) ⟨418, 32, 418, 41⟩ ⟨418, 32, 418, 71⟩) .Mod (.bin (.blt .len (.cons (.var 6 ⟨418, 79, 418, 89⟩) .nil) ⟨418, 75, 418, 78⟩ ⟨418, 75, 418, 90⟩) .Add (.lit (.int 1) 0 ⟨418, 93, 418, 94⟩) ⟨418, 75, 418, 94⟩) ⟨418, 32, 418, 95⟩) ⟨418, 32, 418, 96⟩ ⟨418, 21, 418, 97⟩) ⟨418, 8, 418, 97⟩)
    .nil) .nil ⟨417, 4, 418, 97⟩)
    (.cons (.ite (.cmp (.call "_law_draw" (.cons (.var 0 ⟨419, 17, 419, 28⟩) (.cons (.var 1 ⟨419, 30, 419, 39⟩) (.cons (.lit (.int 9) 0 ⟨419, 41, 419, 42⟩) .nil))) ⟨419, 7, 419, 16⟩ ⟨419, 7, 419, 43⟩) .Eq (.lit (.int 0) 0 ⟨419, 47, 419, 48⟩) ⟨419, 7, 419, 48⟩) (.cons (.assign 5 ⟨420, 8, 420, 17⟩ (.bin (.lit (.str "?") 0 ⟨420, 20, 420, 23⟩) .Add (.var 5 ⟨420, 26, 420, 35⟩) ⟨420, 20, 420, 35⟩) ⟨420, 8, 420, 35⟩)
    .nil) .nil ⟨419, 4, 420, 35⟩)
    (.cons (.assign 7 ⟨421, 4, 421, 13⟩ (.call "_law_copy" (.cons (.var 4 ⟨421, 26, 421, 38⟩) .nil) ⟨421, 16, 421, 25⟩ ⟨421, 16, 421, 39⟩) ⟨421, 4, 421, 39⟩)
    (.cons (.ite (.cmp (.var 3 ⟨422, 7, 422, 16⟩) .Lt (.lit (.int 2) 0 ⟨422, 19, 422, 20⟩) ⟨422, 7, 422, 20⟩) (.cons (.assign 2 ⟨423, 8, 423, 17⟩ (.blt .max (.cons (.lit (.int 0) 0 ⟨423, 24, 423, 25⟩) (.cons (.bin (.sub (.call "_law_way" (.cons (.var 7 ⟨423, 36, 423, 45⟩) (.cons (.var 5 ⟨423, 47, 423, 56⟩) (.cons (.blt .list (.cons (.var 6 ⟨423, 63, 423, 73⟩) .nil) ⟨423, 58, 423, 62⟩ ⟨423, 58, 423, 74⟩) (.cons (.lit (.int 40) 0 ⟨423, 76, 423, 78⟩) .nil)))) ⟨423, 27, 423, 35⟩ ⟨423, 27, 423, 79⟩) (.lit (.int 2) 0 ⟨423, 80, 423, 81⟩) ⟨423, 27, 423, 82⟩) .Sub (.var 3 ⟨423, 85, 423, 94⟩) ⟨423, 27, 423, 94⟩) .nil)) ⟨423, 20, 423, 23⟩ ⟨423, 20, 423, 95⟩) ⟨423, 8, 423, 95⟩)
    .nil) .nil ⟨422, 4, 423, 95⟩)
    (.cons (.assignT [(8, ⟨424, 4, 424, 13⟩), (9, ⟨424, 15, 424, 23⟩), (10, ⟨424, 25, 424, 35⟩)] 0 ⟨424, 4, 424, 35⟩ (.call "_law_way" (.cons (.var 7 ⟨424, 47, 424, 56⟩) (.cons (.var 5 ⟨424, 58, 424, 67⟩) (.cons (.blt .list (.cons (.var 6 ⟨424, 74, 424, 84⟩) .nil) ⟨424, 69, 424, 73⟩ ⟨424, 69, 424, 85⟩) (.cons (.var 2 ⟨424, 87, 424, 96⟩) .nil)))) ⟨424, 38, 424, 46⟩ ⟨424, 38, 424, 97⟩) ⟨424, 4, 424, 97⟩)
    (.cons (.assign 11 ⟨425, 4, 425, 15⟩ (.blt .list (.cons (.var 6 ⟨425, 23, 425, 33⟩) .nil) ⟨425, 18, 425, 22⟩ ⟨425, 18, 425, 34⟩) ⟨425, 4, 425, 34⟩)
    (.cons (.assign 12 ⟨426, 4, 426, 14⟩ (.call "_law_run" (.cons (.var 4 ⟨426, 26, 426, 38⟩) (.cons (.var 5 ⟨426, 40, 426, 49⟩) (.cons (.var 11 ⟨426, 51, 426, 62⟩) (.cons (.var 2 ⟨426, 64, 426, 73⟩) .nil)))) ⟨426, 17, 426, 25⟩ ⟨426, 17, 426, 74⟩) ⟨426, 4, 426, 74⟩)
    (.cons (.ite (.bop .Or (.cons (.cmp (.var 4 ⟨427, 7, 427, 19⟩) .NotEq (.var 7 ⟨427, 23, 427, 32⟩) ⟨427, 7, 427, 32⟩) (.cons (.not (.call "_law_alike" (.cons (.var 11 ⟨427, 51, 427, 62⟩) (.cons (.var 6 ⟨427, 64, 427, 74⟩) .nil)) ⟨427, 40, 427, 50⟩ ⟨427, 40, 427, 75⟩) ⟨427, 36, 427, 75⟩) .nil)) ⟨427, 7, 427, 75⟩) (.cons (.ret (.lit (.bool false) 0 ⟨428, 15, 428, 20⟩) ⟨428, 8, 428, 20⟩)
    .nil) .nil ⟨427, 4, 428, 20⟩)
    (.cons (.ite (.cmp (.var 8 ⟨429, 7, 429, 16⟩) .NotEq (.lit (.str "") 0 ⟨429, 20, 429, 22⟩) ⟨429, 7, 429, 22⟩) (.cons (.ret (.bop .And (.cons (.isi (.var 12 ⟨430, 26, 430, 36⟩) .str ⟨430, 15, 430, 25⟩ ⟨430, 38, 430, 41⟩ default default ⟨430, 15, 430, 42⟩) (.cons (.cmp (.var 12 ⟨430, 47, 430, 57⟩) .Eq (.var 8 ⟨430, 61, 430, 70⟩) ⟨430, 47, 430, 70⟩) (.cons (.call "_law_any" (.cons (.var 4 ⟨430, 84, 430, 96⟩) (.cons (.var 5 ⟨430, 98, 430, 107⟩) (.cons (.var 11 ⟨430, 109, 430, 120⟩) (.cons (.var 2 ⟨430, 122, 430, 131⟩) .nil)))) ⟨430, 75, 430, 83⟩ ⟨430, 75, 430, 132⟩) .nil))) ⟨430, 15, 430, 132⟩) ⟨430, 8, 430, 132⟩)
    .nil) .nil ⟨429, 4, 430, 132⟩)
    (.cons (.ite (.not (.call "_law_alike" (.cons (.var 12 ⟨431, 22, 431, 32⟩) (.cons (.var 9 ⟨431, 34, 431, 42⟩) .nil)) ⟨431, 11, 431, 21⟩ ⟨431, 11, 431, 43⟩) ⟨431, 7, 431, 43⟩) (.cons (.ret (.lit (.bool false) 0 ⟨432, 15, 432, 20⟩) ⟨432, 8, 432, 20⟩)
    .nil) .nil ⟨431, 4, 432, 20⟩)
    (.cons (.expr (.meth (.var 12 ⟨433, 4, 433, 14⟩) .append (.cons (.lit (.int 5) 0 ⟨433, 22, 433, 23⟩) .nil) ⟨433, 4, 433, 21⟩ ⟨433, 4, 433, 24⟩) ⟨433, 4, 433, 24⟩)
    (.cons (.ret (.call "_law_alike" (.cons (.var 11 ⟨434, 22, 434, 33⟩) (.cons (.var 6 ⟨434, 35, 434, 45⟩) .nil)) ⟨434, 11, 434, 21⟩ ⟨434, 11, 434, 46⟩) ⟨434, 4, 434, 46⟩)
    .nil)))))))))))))))))))
noncomputable def S_law : Scope := {
              kind := PySem.ScopeKind.function,
              names := [
                (PySem.Str.ofString "_law_script", PySem.NameKind.local),
                (PySem.Str.ofString "_law_tape", PySem.NameKind.local),
                (PySem.Str.ofString "_law_fuel", PySem.NameKind.local),
                (PySem.Str.ofString "_law_just", PySem.NameKind.local),
                (PySem.Str.ofString "_law_program", PySem.NameKind.local),
                (PySem.Str.ofString "_law_name", PySem.NameKind.local),
                (PySem.Str.ofString "_law_stack", PySem.NameKind.local),
                (PySem.Str.ofString "_law_kept", PySem.NameKind.local),
                (PySem.Str.ofString "_law_word", PySem.NameKind.local),
                (PySem.Str.ofString "_law_due", PySem.NameKind.local),
                (PySem.Str.ofString "_law_steps", PySem.NameKind.local),
                (PySem.Str.ofString "_law_handed", PySem.NameKind.local),
                (PySem.Str.ofString "_law_found", PySem.NameKind.local),
                (PySem.Str.ofString "_law_draw", PySem.NameKind.globalImplicit),
                (PySem.Str.ofString "_law_good_program", PySem.NameKind.globalImplicit),
                (PySem.Str.ofString "list", PySem.NameKind.globalImplicit),
                (PySem.Str.ofString "len", PySem.NameKind.globalImplicit),
                (PySem.Str.ofString "_law_spoilt", PySem.NameKind.globalImplicit),
                (PySem.Str.ofString "_law_on_top", PySem.NameKind.globalImplicit),
                (PySem.Str.ofString "_law_copy", PySem.NameKind.globalImplicit),
                (PySem.Str.ofString "max", PySem.NameKind.globalImplicit),
                (PySem.Str.ofString "_law_way", PySem.NameKind.globalImplicit),
                (PySem.Str.ofString "_law_run", PySem.NameKind.globalImplicit),
                (PySem.Str.ofString "_law_alike", PySem.NameKind.globalImplicit),
                (PySem.Str.ofString "isinstance", PySem.NameKind.globalImplicit),
                (PySem.Str.ofString "str", PySem.NameKind.globalImplicit),
                (PySem.Str.ofString "_law_any", PySem.NameKind.globalImplicit)],
              isGenerator := false,
              isCoroutine := false,
              more := [] : PySem.Scope }

end Mine
end
section
open PySem PySem.W PySem.Calls PyProof.Rows
namespace Mine
set_option autoImplicit false
set_option maxRecDepth 100000
noncomputable def clsM0 : ClsRec := (plainsOf _root_.Mine.hd.view_39 _root_.Mine.hd.loos)[0]'(by decide +kernel)
noncomputable def clsM : ClsRec := clsM0.withCmp
theorem clsM_mem : clsM0 ∈ plainsOf _root_.Mine.hd.view_39 (looseW _root_.Mine.hd.view_39 _root_.Mine.hd.loos) := by rw [_root_.Mine.hd.lw]; exact List.getElem_mem _
theorem clsM_name : clsM0.name = "Machine" := by kernel_rfl
theorem clsM_hid : (((["__getattribute__", "__getattr__", "__setattr__"] : List Str) ++ atns).all fun x => clsM.quiet.contains x) = true := by kernel_rfl

theorem R_Machine___init__ : RecM clsM "__init__" B_Machine___init__ N_Machine___init__ S_Machine___init__ 4 := met_of 0 (by kernel_rfl) fun pm code doc => len4 fun v0 v1 v2 v3 => by kernel_rfl
theorem R_Machine_settle : RecM clsM "settle" B_Machine_settle N_Machine_settle S_Machine_settle 1 := met_of 1 (by kernel_rfl) fun pm code doc => len1 fun v0 => by kernel_rfl
theorem R_Machine_over : RecM clsM "over" B_Machine_over N_Machine_over S_Machine_over 1 := met_of 2 (by kernel_rfl) fun pm code doc => len1 fun v0 => by kernel_rfl
theorem R_Machine_goal_of : RecM clsM "goal_of" B_Machine_goal_of N_Machine_goal_of S_Machine_goal_of 2 := met_of 3 (by kernel_rfl) fun pm code doc => len2 fun v0 v1 => by kernel_rfl
theorem R_Machine_step : RecM clsM "step" B_Machine_step N_Machine_step S_Machine_step 1 := met_of 4 (by kernel_rfl) fun pm code doc => len1 fun v0 => by kernel_rfl
theorem R_kinds_of : RecC _root_.Mine.hd.view_39 "kinds_of" B_kinds_of N_kinds_of S_kinds_of 1 := rec_of 0 (by kernel_rfl) fun pm code doc => len1 fun v0 => by kernel_rfl
theorem R_need : RecC _root_.Mine.hd.view_39 "need" B_need N_need S_need 2 := rec_of 1 (by kernel_rfl) fun pm code doc => len2 fun v0 v1 => by kernel_rfl
theorem R_reckoned : RecC _root_.Mine.hd.view_39 "reckoned" B_reckoned N_reckoned S_reckoned 2 := rec_of 2 (by kernel_rfl) fun pm code doc => len2 fun v0 v1 => by kernel_rfl
theorem R_done : RecC _root_.Mine.hd.view_39 "done" B_done N_done S_done 2 := rec_of 3 (by kernel_rfl) fun pm code doc => len2 fun v0 v1 => by kernel_rfl
theorem R_run : RecC _root_.Mine.hd.view_39 "run" B_run N_run S_run 4 := rec_of 4 (by kernel_rfl) fun pm code doc => len4 fun v0 v1 v2 v3 => by kernel_rfl
theorem R_law_draw : RecC _root_.Mine.hd.view_39 "_law_draw" B_law_draw N_law_draw S_law_draw 3 := rec_of 5 (by kernel_rfl) fun pm code doc => len3 fun v0 v1 v2 => by kernel_rfl
theorem R_law_words : RecC _root_.Mine.hd.view_39 "_law_words" B_law_words N_law_words S_law_words 2 := rec_of 6 (by kernel_rfl) fun pm code doc => len2 fun v0 v1 => by kernel_rfl
theorem R_law_value : RecC _root_.Mine.hd.view_39 "_law_value" B_law_value N_law_value S_law_value 3 := rec_of 7 (by kernel_rfl) fun pm code doc => len3 fun v0 v1 v2 => by kernel_rfl
theorem R_law_wanted : RecC _root_.Mine.hd.view_39 "_law_wanted" B_law_wanted N_law_wanted S_law_wanted 1 := rec_of 8 (by kernel_rfl) fun pm code doc => len1 fun v0 => by kernel_rfl
theorem R_law_lack : RecC _root_.Mine.hd.view_39 "_law_lack" B_law_lack N_law_lack S_law_lack 2 := rec_of 9 (by kernel_rfl) fun pm code doc => len2 fun v0 v1 => by kernel_rfl
theorem R_law_plainly : RecC _root_.Mine.hd.view_39 "_law_plainly" B_law_plainly N_law_plainly S_law_plainly 2 := rec_of 10 (by kernel_rfl) fun pm code doc => len2 fun v0 v1 => by kernel_rfl
theorem R_law_called : RecC _root_.Mine.hd.view_39 "_law_called" B_law_called N_law_called S_law_called 3 := rec_of 11 (by kernel_rfl) fun pm code doc => len3 fun v0 v1 v2 => by kernel_rfl
theorem R_law_next : RecC _root_.Mine.hd.view_39 "_law_next" B_law_next N_law_next S_law_next 3 := rec_of 12 (by kernel_rfl) fun pm code doc => len3 fun v0 v1 v2 => by kernel_rfl
theorem R_law_plain_row : RecC _root_.Mine.hd.view_39 "_law_plain_row" B_law_plain_row N_law_plain_row S_law_plain_row 2 := rec_of 13 (by kernel_rfl) fun pm code doc => len2 fun v0 v1 => by kernel_rfl
theorem R_law_kinds : RecC _root_.Mine.hd.view_39 "_law_kinds" B_law_kinds N_law_kinds S_law_kinds 2 := rec_of 14 (by kernel_rfl) fun pm code doc => len2 fun v0 v1 => by kernel_rfl
theorem R_law_told : RecC _root_.Mine.hd.view_39 "_law_told" B_law_told N_law_told S_law_told 2 := rec_of 15 (by kernel_rfl) fun pm code doc => len2 fun v0 v1 => by kernel_rfl
theorem R_law_pushes : RecC _root_.Mine.hd.view_39 "_law_pushes" B_law_pushes N_law_pushes S_law_pushes 3 := rec_of 16 (by kernel_rfl) fun pm code doc => len3 fun v0 v1 v2 => by kernel_rfl
theorem R_law_choice : RecC _root_.Mine.hd.view_39 "_law_choice" B_law_choice N_law_choice S_law_choice 5 := rec_of 17 (by kernel_rfl) fun pm code doc => len5 fun v0 v1 v2 v3 v4 => by kernel_rfl
theorem R_law_fitting : RecC _root_.Mine.hd.view_39 "_law_fitting" B_law_fitting N_law_fitting S_law_fitting 5 := rec_of 18 (by kernel_rfl) fun pm code doc => len5 fun v0 v1 v2 v3 v4 => by kernel_rfl
theorem R_law_good_rows : RecC _root_.Mine.hd.view_39 "_law_good_rows" B_law_good_rows N_law_good_rows S_law_good_rows 5 := rec_of 19 (by kernel_rfl) fun pm code doc => len5 fun v0 v1 v2 v3 v4 => by kernel_rfl
theorem R_law_good_program : RecC _root_.Mine.hd.view_39 "_law_good_program" B_law_good_program N_law_good_program S_law_good_program 2 := rec_of 20 (by kernel_rfl) fun pm code doc => len2 fun v0 v1 => by kernel_rfl
theorem R_law_raw_row : RecC _root_.Mine.hd.view_39 "_law_raw_row" B_law_raw_row N_law_raw_row S_law_raw_row 3 := rec_of 21 (by kernel_rfl) fun pm code doc => len3 fun v0 v1 v2 => by kernel_rfl
theorem R_law_spoilt : RecC _root_.Mine.hd.view_39 "_law_spoilt" B_law_spoilt N_law_spoilt S_law_spoilt 3 := rec_of 22 (by kernel_rfl) fun pm code doc => len3 fun v0 v1 v2 => by kernel_rfl
theorem R_law_copy : RecC _root_.Mine.hd.view_39 "_law_copy" B_law_copy N_law_copy S_law_copy 1 := rec_of 23 (by kernel_rfl) fun pm code doc => len1 fun v0 => by kernel_rfl
theorem R_law_reckoned : RecC _root_.Mine.hd.view_39 "_law_reckoned" B_law_reckoned N_law_reckoned S_law_reckoned 3 := rec_of 25 (by kernel_rfl) fun pm code doc => len3 fun v0 v1 v2 => by kernel_rfl
theorem R_law_behind : RecC _root_.Mine.hd.view_39 "_law_behind" B_law_behind N_law_behind S_law_behind 2 := rec_of 26 (by kernel_rfl) fun pm code doc => len2 fun v0 v1 => by kernel_rfl
theorem R_law_kinds_of : RecC _root_.Mine.hd.view_39 "_law_kinds_of" B_law_kinds_of N_law_kinds_of S_law_kinds_of 1 := rec_of 27 (by kernel_rfl) fun pm code doc => len1 fun v0 => by kernel_rfl
theorem R_law_left : RecC _root_.Mine.hd.view_39 "_law_left" B_law_left N_law_left S_law_left 2 := rec_of 28 (by kernel_rfl) fun pm code doc => len2 fun v0 v1 => by kernel_rfl
theorem R_law_stepped : RecC _root_.Mine.hd.view_39 "_law_stepped" B_law_stepped N_law_stepped S_law_stepped 3 := rec_of 29 (by kernel_rfl) fun pm code doc => len3 fun v0 v1 v2 => by kernel_rfl
theorem R_law_alike : RecC _root_.Mine.hd.view_39 "_law_alike" B_law_alike N_law_alike S_law_alike 2 := rec_of 30 (by kernel_rfl) fun pm code doc => len2 fun v0 v1 => by kernel_rfl
theorem R_law_on_top : RecC _root_.Mine.hd.view_39 "_law_on_top" B_law_on_top N_law_on_top S_law_on_top 3 := rec_of 31 (by kernel_rfl) fun pm code doc => len3 fun v0 v1 v2 => by kernel_rfl
theorem R_law_way : RecC _root_.Mine.hd.view_39 "_law_way" B_law_way N_law_way S_law_way 4 := rec_of 32 (by kernel_rfl) fun pm code doc => len4 fun v0 v1 v2 v3 => by kernel_rfl
theorem R_law_run : RecC _root_.Mine.hd.view_39 "_law_run" B_law_run N_law_run S_law_run 4 := rec_of 33 (by kernel_rfl) fun pm code doc => len4 fun v0 v1 v2 v3 => by kernel_rfl
theorem R_law_any : RecC _root_.Mine.hd.view_39 "_law_any" B_law_any N_law_any S_law_any 4 := rec_of 34 (by kernel_rfl) fun pm code doc => len4 fun v0 v1 v2 v3 => by kernel_rfl
theorem R_law : RecC _root_.Mine.hd.view_39 "law" B_law N_law S_law 1 := rec_of 35 (by kernel_rfl) fun pm code doc => len1 fun v0 => by kernel_rfl
end Mine
end
section
open PySem PySem.W PySem.Calls PyProof.Rows
namespace Mine
set_option autoImplicit false
set_option maxRecDepth 100000
noncomputable def P0 : Params := { strHash := fun _ => 0, shareClass := fun _ => 0, mergeTok := id, idOf := fun _ => 0, idOfShared := fun _ _ => 0, followText := fun _ => false, idOfImm := fun _ => 0 }
noncomputable def csL : List Addr := onms.map fun p => refAt (_root_.Mine.hd.heap_39 P0) p.1
theorem k1 (P : Params) : ((_root_.Mine.hd.heap_39 P).lookup mainGlobals).isSome = true := by kernel_rfl
theorem k3 (P : Params) : excChk (_root_.Mine.hd.heap_39 P) csL = true := by kernel_rfl
theorem k4 (P : Params) : ownChk (_root_.Mine.hd.heap_39 P) csL = true := by kernel_rfl
theorem k5 (P : Params) : bltChk (_root_.Mine.hd.heap_39 P) = true := by kernel_rfl
theorem k6 : ownsChk _root_.Mine.hd.view_39 = true := by kernel_rfl
end Mine
end
section
open PySem PySem.W PySem.Calls PyProof.Rows
namespace Mine
set_option autoImplicit false

abbrev Sp := List PV → AHeap → Post → XPost → Prop
/-! rows, values -/
inductive W where
  | num (i : Int) | text (s : Str) | add | mul | less | join | long | show | swap | drop | copy (n : Nat)
noncomputable def W.row : W → List PV
  | .num i => [.str "num", .int i] | .text s => [.str "text", .str s] | .add => [.str "add"] | .mul => [.str "mul"] | .less => [.str "less"] | .join => [.str "join"] | .long => [.str "long"]
  | .show => [.str "show"] | .swap => [.str "swap"] | .drop => [.str "drop"] | .copy n => [.str "copy", .int n]
noncomputable def W.ok : W → Prop
  | .num i => 0 ≤ i ∧ i < 1000000000 | .text s => s.length ≤ 60 | .copy n => n ≤ 60 | _ => True
noncomputable def Okv (v : PV) : Prop := (∃ i, v = .int i ∧ 0 ≤ i ∧ i < 1000000000) ∨ ∃ s, v = .str s ∧ s.length ≤ 60
noncomputable def kindS : PV → Str
  | .str _ => "text"
  | _ => "num"
noncomputable def wantedS : W → List Str
  | .copy n => List.replicate (n + 1) "" | .add => ["num", "num"] | .mul => ["num", "num"] | .less => ["num", "num"] | .join => ["text", "text"] | .swap => ["", ""] | .long => ["text"] | .show => ["num"] | .drop => [""] | _ => []
noncomputable def lackS (kinds wanted : List Str) : Str :=
  if kinds.length < wanted.length then "empty" else if (wanted.zip (kinds.drop (kinds.length - wanted.length))).any (fun p => !(p.1 == ("" : Str)) && !(p.1 == p.2)) then "kind" else ""
noncomputable def cut60 (s : Str) : Str := ⟨(s.cps.toList.take (cutAt s.length 60)).toArray⟩
noncomputable def wd : W → Str
  | .num _ => "num" | .text _ => "text" | .add => "add" | .mul => "mul" | .less => "less" | .join => "join" | .long => "long" | .show => "show" | .swap => "swap" | .drop => "drop" | .copy _ => "copy"
/-- what a row of two or one makes -/
inductive Cal : W → List PV → PV → Prop
  | add (a b : Int) : Cal .add [.int a, .int b] (.int ((a + b) % 1000000000))
  | mul (a b : Int) : Cal .mul [.int a, .int b] (.int (a * b % 1000000000))
  | less (a b : Int) : Cal .less [.int a, .int b] (.int (if a < b then 1 else 0))
  | join (a b : Str) : Cal .join [.str a, .str b] (.str (cut60 (a ++ b)))
  | long (a : Str) : Cal .long [.str a] (.int a.length)
  | show (a : Int) : Cal .show [.int a] (.str (Str.ofString (toString a)))
noncomputable def takesS : W → Option (List Str)
  | .add => some ["num", "num"] | .mul => some ["num", "num"] | .less => some ["num", "num"] | .join => some ["text", "text"] | .long => some ["text"] | .show => some ["num"] | _ => none
/-- what a plain row makes of a stack -/
inductive Res : W → List PV → Except Nat (List PV) → Prop
  | num (i : Int) (st : List PV) : Res (.num i) st (.ok (st ++ [.int i]))
  | text (s : Str) (st : List PV) : Res (.text s) st (.ok (st ++ [.str s]))
  | copy {n : Nat} (a b : List PV) (v : PV) (h : b.length = n) : Res (.copy n) (a ++ v :: b) (.ok (a ++ v :: b ++ [v]))
  | swap (st : List PV) (x y : PV) : Res .swap (st ++ [x, y]) (.ok (st ++ [y, x]))
  | drop (st : List PV) (x : PV) : Res .drop (st ++ [x]) (.ok st)
  | cal {w : W} {vs : List PV} {v : PV} (st : List PV) (h : Cal w vs v) : Res w (st ++ vs) (.ok (st ++ [v]))
  | few {w : W} {st : List PV} (h : st.length < (wantedS w).length) : Res w st (.error 1)
  | kind {w : W} {ts : List Str} (st vs : List PV) (ht : takesS w = some ts) (hl : vs.length = ts.length) (h : vs.map kindS ≠ ts) : Res w (st ++ vs) (.error 2)
inductive Rw where
  | pl (w : W) | call (n : Str) | iff (n m : Str)
noncomputable def Rw.row : Rw → List PV
  | .pl w => w.row | .call n => [.str "call", .str n] | .iff n m => [.str "if", .str n, .str m]
noncomputable def Rw.ok : Rw → Prop
  | .pl w => w.ok | _ => True
noncomputable def rowsPV (rs : List Rw) : List PV := rs.map fun r => .tup r.row
noncomputable def RsOk (N : Nat) (rs : List Rw) : Prop := (∀ r ∈ rs, r.ok) ∧ rs.length ≤ N
noncomputable def KOk (s : Str) : Prop := s = "num" ∨ s = "text"
abbrev Bl := List Str × List Str × List PV
abbrev Pr := List (Str × Bl)
noncomputable def blk (b : Bl) : PV := .tup (.tup (b.1.map .str) :: .tup (b.2.1.map .str) :: b.2.2)
noncomputable def kvsP (es : Pr) : List (Str × PV) := es.map fun p => (p.1, blk p.2)
noncomputable def BOk (b : Bl) : Prop := (∀ s ∈ b.1, KOk s) ∧ (∀ s ∈ b.2.1, KOk s) ∧ b.1.length ≤ 60 ∧ b.2.1.length ≤ 60
structure POk (es : Pr) : Prop where
  nodup : (es.map (·.1)).Nodup
  name : ∀ p ∈ es, 0 < p.1.length ∧ p.1.length ≤ 200
  blks : ∀ p ∈ es, BOk p.2
  len : es.length ≤ 100
/-- the rows of a program lie in lists -/
noncomputable def RowsP (N : Nat) (H : AHeap) (es : Pr) (rw : Str → List Rw) : Prop := ∀ q ∈ es, RsOk N (rw q.1) ∧ ∃ a, q.2.2.2 = [.obj a] ∧ H a = some (.list (rowsPV (rw q.1)))
structure Pg (N : Nat) (H : AHeap) (p : Addr) (es : Pr) (rw : Str → List Rw) : Prop where
  ha : H p = some (.dict (kvsP es))
  ok : POk es
  ne : es ≠ []
  rows : RowsP N H es rw
noncomputable def prj (x : Str × Bl) : Str × List Str × List Str := (x.1, x.2.1, x.2.2.1)
/-! steps of the machine -/
abbrev Frs := List (Str × Nat)
noncomputable def frPV (fr : Frs) : List PV := fr.map fun f => .tup [.str f.1, .int f.2]
noncomputable def fin (rw : Str → List Rw) (f : Str × Nat) : Bool := f.2 == (rw f.1).length
noncomputable def setl (rw : Str → List Rw) (fr : Frs) : Frs := (fr.reverse.dropWhile (fin rw)).reverse
abbrev nmsP (es : Pr) : List Str := es.map (·.1)
inductive Eff (ns : List Str) : Rw → List PV → Except Nat (List PV × Frs) → Prop
  | pl {w : W} {st ys : List PV} (h : Res w st (.ok ys)) : Eff ns (.pl w) st (.ok (ys, []))
  | plE {w : W} {st : List PV} {e : Nat} (h : Res w st (.error e)) : Eff ns (.pl w) st (.error e)
  | call {n : Str} {st : List PV} (h : n ∈ ns) : Eff ns (.call n) st (.ok (st, [(n, 0)]))
  | callN {n : Str} {st : List PV} (h : n ∉ ns) : Eff ns (.call n) st (.error 3)
  | if0 {n m : Str} : Eff ns (.iff n m) [] (.error 1)
  | ifT {n m s : Str} {st : List PV} : Eff ns (.iff n m) (st ++ [.str s]) (.error 2)
  | ifG {n m : Str} {i : Int} {st : List PV} (h : (if i = 0 then m else n) ∈ ns) : Eff ns (.iff n m) (st ++ [.int i]) (.ok (st, [(if i = 0 then m else n, 0)]))
  | ifN {n m : Str} {i : Int} {st : List PV} (h : (if i = 0 then m else n) ∉ ns) : Eff ns (.iff n m) (st ++ [.int i]) (.error 3)
noncomputable def wordE : Nat → Str
  | 1 => "empty" | 2 => "kind" | 3 => "block" | _ => "dry"
structure FrOk (ns : List Str) (fr : Frs) : Prop where
  names : ∀ f ∈ fr, f.1 ∈ ns
  len : fr.length ≤ 1000
/-- a stack of the machine -/
structure StOk (m : Nat) (st : List PV) : Prop where
  ok : ∀ v ∈ st, Okv v
  len : st.length ≤ m
inductive Stp (ns : List Str) (rw : Str → List Rw) : List PV → Frs → Except Nat (List PV × Frs) → Prop
  | ok {pre more : Frs} {n : Str} {k : Nat} {r : Rw} {st st' : List PV} (hr : (rw n)[k]? = some r) (he : Eff ns r st (.ok (st', more))) : Stp ns rw st (pre ++ [(n, k)]) (.ok (st', setl rw (pre ++ [(n, k + 1)] ++ more)))
  | err {pre : Frs} {n : Str} {k : Nat} {r : Rw} {st : List PV} {e : Nat} (hr : (rw n)[k]? = some r) (he : Eff ns r st (.error e)) : Stp ns rw st (pre ++ [(n, k)]) (.error e)
noncomputable def MA (p sA fA : Addr) : List (Str × PV) := [("program", .obj p), ("stack", .obj sA), ("frames", .obj fA)]
inductive Mch (H : AHeap) (F : Addr → Prop) (a d p : Addr) (st : List PV) (fr : Frs) : Prop
  | mk (sA fA : Addr) (ha : H a = some (.inst d)) (hd : H d = some (.attrs (MA p sA fA))) (hs : H sA = some (.list st)) (hf : H fA = some (.list (frPV fr))) (hF : F sA) : Mch H F a d p st fr
inductive spDraw (ps : List PV) (H : AHeap) (Q : Post) (_ : XPost) : Prop
  | mk (xs) (t) (k) (n) (a0 : ps = [.fls xs, .obj t, .int k]) (a1 : xs.length ≤ 100) (a2 : H t = some (.tape n)) (a3 : n < 2 ^ 59) (a4 : 0 < k) (a5 : ∀ r H', 0 ≤ r → r < k → H' t = some (.tape (n + 1)) → ExtB t H H' → Q (.int r) H')
inductive spWords (ps : List PV) (H : AHeap) (Q : Post) (_ : XPost) : Prop
  | mk (c) (n) (a0 : ps = [.int c, .int n]) (a1 : 0 ≤ n) (a2 : n ≤ 100) (a3 : ∀ s H', s.length = n.toNat → Ext H H' → Q (.str s) H')
inductive spValue (ps : List PV) (H : AHeap) (Q : Post) (_ : XPost) : Prop
  | mk (xs : List Int) (t : Addr) (kd : Str) (n : Nat) (a0 : ps = [.fls xs, .obj t, .str kd]) (a1 : xs.length ≤ 100) (a2 : H t = some (.tape n)) (a3 : n < 2 ^ 58) (a4 : ∀ v H', Okv v → kindS v = (if kd == "text" then "text" else "num") → H' t = some (.tape (n + 2)) → ExtB t H H' → Q v H')
inductive spWanted (ps : List PV) (H : AHeap) (Q : Post) (_ : XPost) : Prop
  | mk (w : W) (a0 : ps = [.tup w.row]) (a1 : w.ok) (a2 : ∀ c H', H c = none → H' c = some (.list ((wantedS w).map .str)) → Ext H H' → Q (.obj c) H')
inductive spLack (ps : List PV) (H : AHeap) (Q : Post) (_ : XPost) : Prop
  | mk (a b : Addr) (ks ws : List Str) (a0 : ps = [.obj a, .obj b]) (a1 : H a = some (.list (ks.map .str))) (a2 : H b = some (.list (ws.map .str))) (a3 : ks.length ≤ 100000) (a4 : ws.length ≤ 1000) (a5 : Q (.str (lackS ks ws)) H)
inductive spPlainly (ps : List PV) (H : AHeap) (Q : Post) (_ : XPost) : Prop
  | mk (a : Addr) (ks : List Str) (w : W) (a0 : ps = [.obj a, .tup w.row]) (a1 : w.ok) (a2 : H a = some (.list (ks.map .str))) (a3 : ks.length ≤ 100000) (a4 : (wantedS w).length ≤ ks.length) (a5 : ∀ c (ys : List Str) H', H c = none → H' c = some (.list (ys.map .str)) → ys.length ≤ ks.length + 100 → Ext H H' → Q (.obj c) H')
inductive spLCalled (ps : List PV) (H : AHeap) (Q : Post) (_ : XPost) : Prop
  | mk (p a : Addr) (es : Pr) (ks : List Str) (n : Str) (b : Bl) (a0 : ps = [.obj p, .obj a, .str n]) (a1 : H p = some (.dict (kvsP es))) (a2 : POk es) (a3 : H a = some (.list (ks.map .str))) (a4 : ks.length ≤ 100000) (a5 : dget es n = some b) (a6 : ∀ (s : Str) c (ys : List Str) H', (H c = none ∨ c = a) → H' c = some (.list (ys.map .str)) → ys.length ≤ ks.length + 100 → Ext H H' → Q (.tup [.str s, .obj c]) H')
inductive spNext (ps : List PV) (H : AHeap) (Q : Post) (_ : XPost) : Prop
  | mk (p a : Addr) (es : Pr) (ks : List Str) (r : Rw) (a0 : ps = [.obj p, .obj a, .tup r.row]) (a1 : H p = some (.dict (kvsP es))) (a2 : POk es) (a3 : r.ok) (a4 : H a = some (.list (ks.map .str))) (a5 : ks.length ≤ 100000) (a6 : ∀ (s : Str) c (ys : List Str) H', (H c = none ∨ c = a) → H' c = some (.list (ys.map .str)) → ys.length ≤ ks.length + 100 → Ext H H' → Q (.tup [.str s, .obj c]) H')
inductive spPlain (ps : List PV) (H : AHeap) (Q : Post) (_ : XPost) : Prop
  | mk (xs) (t) (n) (a0 : ps = [.fls xs, .obj t]) (a1 : xs.length ≤ 100) (a2 : H t = some (.tape n)) (a3 : n < 2 ^ 57) (a4 : ∀ (w : W) n' H', w.ok → n' ≤ n + 3 → H' t = some (.tape n') → ExtB t H H' → Q (.tup w.row) H')
inductive spKindsT (ps : List PV) (H : AHeap) (Q : Post) (_ : XPost) : Prop
  | mk (xs) (t) (n) (a0 : ps = [.fls xs, .obj t]) (a1 : xs.length ≤ 100) (a2 : H t = some (.tape n)) (a3 : n < 2 ^ 57) (a4 : ∀ (ks : List Str) n' H', ks.length ≤ 60 → (∀ s ∈ ks, KOk s) → n' ≤ n + 100 → H' t = some (.tape n') → ExtB t H H' → Q (.tup (ks.map .str)) H')
inductive spTold (ps : List PV) (H : AHeap) (Q : Post) (_ : XPost) : Prop
  | mk (xs) (t) (n) (a0 : ps = [.fls xs, .obj t]) (a1 : xs.length ≤ 100) (a2 : H t = some (.tape n)) (a3 : n < 2 ^ 50) (a4 : ∀ (p : Addr) (es : Pr) n' H', POk es → es ≠ [] → (∀ q ∈ es, q.2.2.2 = []) → H p = none → H' p = some (.dict (kvsP es)) → n' ≤ n + 10000 → H' t = some (.tape n') → ExtB t H H' → Q (.obj p) H')
/-- a row of kinds, in a tuple or a list -/
noncomputable def SrcK (H : AHeap) (v : PV) (ss : List Str) : Prop := v = .tup (ss.map .str) ∨ ∃ a, v = .obj a ∧ H a = some (.list (ss.map .str))
/-- names of blocks -/
structure NamesAt (H : AHeap) (a : Addr) (es : Pr) (ns : List Str) : Prop where
  ha : H a = some (.list (ns.map .str))
  nm : ∀ s ∈ ns, (dget es s).isSome = true
  len : ns.length ≤ 100
inductive spPushes (ps : List PV) (H : AHeap) (Q : Post) (_ : XPost) : Prop
  | mk (xs) (t) (n) (v) (ss) (a0 : ps = [.fls xs, .obj t, v]) (a1 : xs.length ≤ 100) (a2 : H t = some (.tape n)) (a3 : n < 2 ^ 56) (a4 : SrcK H v ss) (a5 : ∀ s ∈ ss, KOk s) (a6 : ss.length ≤ 100) (a7 : ∀ (c : Addr) (rs : List Rw) (n' : Nat) (H' : AHeap), RsOk 100 rs → n' ≤ n + 200 → H c = none → H' c = some (.list (rowsPV rs)) → H' t = some (.tape n') → ExtB t H H' → Q (.obj c) H')
inductive spRows (lo : List Str → Prop) (B D : Nat) (ps : List PV) (H : AHeap) (Q : Post) (_ : XPost) : Prop
  | mk (xs : List Int) (t p a k : Addr) (n : Nat) (es : Pr) (ns ks : List Str) (a0 : ps = [.fls xs, .obj t, .obj p, .obj a, .obj k]) (a1 : xs.length ≤ 100) (a2 : H t = some (.tape n)) (a3 : n < B) (a4 : H p = some (.dict (kvsP es))) (a5 : POk es) (a6 : ∀ q ∈ es, q.2.2.2 = []) (a7 : NamesAt H a es ns) (a8 : lo ns) (a9 : H k = some (.list (ks.map .str))) (a10 : ks.length ≤ 100000) (a11 : ∀ (c : Addr) (rs : List Rw) (n' : Nat) (H' : AHeap), RsOk 110 rs → n' ≤ n + D → H c = none → H' c = some (.list (rowsPV rs)) → H' t = some (.tape n') → ExtB t H H' → Q (.obj c) H')
noncomputable def spChoice : Sp := spRows (fun ns => ns ≠ []) (2 ^ 54) 390
noncomputable def spFitting : Sp := spRows (fun _ => True) (2 ^ 53) 400
inductive spGoodRows (ps : List PV) (H : AHeap) (Q : Post) (_ : XPost) : Prop
  | mk (xs : List Int) (t p a : Addr) (n : Nat) (es : Pr) (ns : List Str) (nm : Str) (a0 : ps = [.fls xs, .obj t, .obj p, .str nm, .obj a]) (a1 : xs.length ≤ 100) (a2 : H t = some (.tape n)) (a3 : n < 2 ^ 52) (a4 : H p = some (.dict (kvsP es))) (a5 : POk es) (a6 : ∀ q ∈ es, q.2.2.2 = []) (a7 : NamesAt H a es ns) (a8 : (dget es nm).isSome = true) (a9 : ∀ (c : Addr) (rs : List Rw) (n' : Nat) (H' : AHeap), RsOk 200000 rs → n' ≤ n + 5000 → H c = none → H' c = some (.list (rowsPV rs)) → H' t = some (.tape n') → ExtB t H H' → Q (.obj c) H')
inductive spGoodProgram (ps : List PV) (H : AHeap) (Q : Post) (_ : XPost) : Prop
  | mk (xs) (t) (n) (a0 : ps = [.fls xs, .obj t]) (a1 : xs.length ≤ 100) (a2 : H t = some (.tape n)) (a3 : n < 2 ^ 49) (a4 : ∀ (p : Addr) (es : Pr) (rw : Str → List Rw) n' H', Pg 200000 H' p es rw → n' ≤ n + 1000000 → H' t = some (.tape n') → Q (.obj p) H')
inductive spRawRow (ps : List PV) (H : AHeap) (Q : Post) (_ : XPost) : Prop
  | mk (xs : List Int) (t a : Addr) (n : Nat) (ns : List Str) (a0 : ps = [.fls xs, .obj t, .obj a]) (a1 : xs.length ≤ 100) (a2 : H t = some (.tape n)) (a3 : n < 2 ^ 55) (a4 : H a = some (.list (ns.map .str))) (a5 : ns ≠ []) (a6 : ns.length ≤ 100) (a7 : ∀ s ∈ ns, 0 < s.length ∧ s.length ≤ 200) (a8 : ∀ (r : Rw) n' H', r.ok → n' ≤ n + 10 → H' t = some (.tape n') → ExtB t H H' → Q (.tup r.row) H')
inductive spSpoilt (ps : List PV) (H : AHeap) (Q : Post) (_ : XPost) : Prop
  | mk (xs : List Int) (t p : Addr) (n : Nat) (es : Pr) (rw : Str → List Rw) (a0 : ps = [.fls xs, .obj t, .obj p]) (a1 : xs.length ≤ 100) (a2 : H t = some (.tape n)) (a3 : n < 2 ^ 52) (a4 : Pg 200000 H p es rw) (a8 : ∀ (es' : Pr) (rw' : Str → List Rw) (nm : Str) n' H', Pg 450000 H' p es' rw' → nm ∈ nmsP es' → n' ≤ n + 1000 → H' t = some (.tape n') → Q (.str nm) H')
inductive spCopy (ps : List PV) (H : AHeap) (Q : Post) (_ : XPost) : Prop
  | mk (p : Addr) (es : Pr) (rw : Str → List Rw) (a0 : ps = [.obj p]) (a1 : Pg 450000 H p es rw) (a4 : ∀ (q : Addr) (fs : Pr) H', H q = none → Pg 450000 H' q fs rw → fs.map prj = es.map prj → Ext H H' → Q (.obj q) H')
inductive spNeed (ps : List PV) (H : AHeap) (Q : Post) (X : XPost) : Prop
  | mk (a) (st) (k) (a0 : ps = [.obj a, .int k]) (a1 : H a = some (.list st)) (a2 : if (st.length : Int) < k then X 1 H else Q .none H)
inductive spKinds (ps : List PV) (H : AHeap) (Q : Post) (_ : XPost) : Prop
  | mk (a) (st) (a0 : ps = [.obj a]) (a1 : H a = some (.list st)) (a2 : ∀ v ∈ st, Okv v) (a3 : st.length ≤ 1000) (a4 : ∀ H', Ext H H' → Q (.tup ((st.map kindS).map .str)) H')
inductive spReck (ps : List PV) (H : AHeap) (Q : Post) (_ : XPost) : Prop
  | mk (w : W) (a : Addr) (vs : List PV) (v : PV) (a0 : ps = [.str (wd w), .obj a]) (a1 : H a = some (.list vs)) (a2 : ∀ x ∈ vs, Okv x) (a3 : Cal w vs v) (a4 : Q v H)
inductive spDone (ps : List PV) (H : AHeap) (Q : Post) (X : XPost) : Prop
  | mk (a) (st) (w) (o : Except Nat (List PV)) (a0 : ps = [.obj a, .tup (W.row w)]) (a1 : w.ok) (a2 : H a = some (.list st)) (a3 : StOk 900 st) (a4 : Res w st o) (a5 : match o with | .ok ys => ∀ c H', H c = none → H' c = some (.list ys) → Ext H H' → Q (.obj c) H' | .error e => ∀ H', Ext H H' → X e H')
inductive spSettle (ps : List PV) (H : AHeap) (Q : Post) (_ : XPost) : Prop
  | mk (F : Addr → Prop) (a d p : Addr) (st : List PV) (fr : Frs) (es : Pr) (rw : Str → List Rw) (a0 : ps = [.obj a]) (a1 : Mch H F a d p st fr) (a2 : Pg 450000 H p es rw) (a3 : ∀ f ∈ fr, f.1 ∈ nmsP es) (a5 : ∀ H', Mch H' F a d p st (setl rw fr) → ExtB d H H' → Q .none H')
inductive spInit (ps : List PV) (H : AHeap) (Q : Post) (X : XPost) : Prop
  | mk (F : Addr → Prop) (a d p s : Addr) (n : Str) (st : List PV) (es : Pr) (rw : Str → List Rw) (a0 : ps = [.obj a, .obj p, .str n, .obj s]) (a1 : H a = some (.inst d)) (a2 : H d = some (.attrs [])) (a3 : Pg 450000 H p es rw) (hF : ∀ c, H c = none → F c) (a6 : H s = some (.list st)) (a7 : n ∈ nmsP es → ∀ H', Mch H' F a d p st (setl rw [(n, 0)]) → ExtB d H H' → Q .none H') (a8 : n ∉ nmsP es → X 3 H)
inductive spOver (ps : List PV) (H : AHeap) (Q : Post) (_ : XPost) : Prop
  | mk (F : Addr → Prop) (a d p : Addr) (st : List PV) (fr : Frs) (a0 : ps = [.obj a]) (a1 : Mch H F a d p st fr) (a2 : Q (.bool fr.isEmpty) H)
inductive spGoalOf (ps : List PV) (H : AHeap) (Q : Post) (X : XPost) : Prop
  | mk (F : Addr → Prop) (a d p : Addr) (r : Rw) (st : List PV) (fr : Frs) (es : Pr) (rw : Str → List Rw) (o : Except Nat (List PV × Frs)) (a0 : ps = [.obj a, .tup r.row]) (a1 : Mch H F a d p st fr) (a2 : Pg 450000 H p es rw) (a3 : Eff (nmsP es) r st o) (b1 : StOk 900 st) (b2 : ∀ w, r ≠ .pl w) (a4 : match o with | .ok (_, more) => ∀ g H', more = [(g, 0)] → Ext H H' → Q (.str g) H' | .error e => ∀ H', Ext H H' → X e H')
inductive spStep (ps : List PV) (H : AHeap) (Q : Post) (X : XPost) : Prop
  | over (F : Addr → Prop) (a d p : Addr) (st : List PV) (a0 : ps = [.obj a]) (a1 : Mch H F a d p st []) (a4 : Q .none H) : spStep ps H Q X
  | mk (F : Addr → Prop) (a d p : Addr) (st : List PV) (fr : Frs) (es : Pr) (rw : Str → List Rw) (o : Except Nat (List PV × Frs)) (a0 : ps = [.obj a]) (a1 : Mch H F a d p st fr) (hF : ∀ c, H c = none → F c) (a2 : Pg 450000 H p es rw) (a3 : FrOk (nmsP es) fr) (b1 : StOk 900 st) (b2 : Stp (nmsP es) rw st fr o) (a4 : match o with | .ok (st', fr') => ∀ H', Mch H' F a d p st' fr' → ExtB d H H' → Q .none H' | .error e => ∀ H', Ext H H' → X e H') : spStep ps H Q X
/-- a run with fuel -/
inductive Rn (ns : List Str) (rw : Str → List Rw) : Nat → List PV → Frs → Option Nat → List PV → Nat → Prop
  | over (m : Nat) (st : List PV) : Rn ns rw m st [] none st 0
  | dry {st : List PV} {fr : Frs} (h : fr ≠ []) : Rn ns rw 0 st fr (some 5) st 0
  | err {m : Nat} {st : List PV} {fr : Frs} {e : Nat} (h : Stp ns rw st fr (.error e)) : Rn ns rw (m + 1) st fr (some e) st 0
  | step {m k : Nat} {st st' st'' : List PV} {fr fr' : Frs} {w : Option Nat} (h : Stp ns rw st fr (.ok (st', fr'))) (t : Rn ns rw m st' fr' w st'' k) : Rn ns rw (m + 1) st fr w st'' (k + 1)
noncomputable def wordO : Option Nat → Str
  | none => ""
  | some e => wordE e
/-- a run from a name -/
inductive Rnm (ns : List Str) (rw : Str → List Rw) (m : Nat) (n : Str) (st : List PV) : Option Nat → List PV → Nat → Prop
  | no (h : n ∉ ns) : Rnm ns rw m n st (some 3) st 0
  | go {w : Option Nat} {st' : List PV} {k : Nat} (h : n ∈ ns) (t : Rn ns rw m st (setl rw [(n, 0)]) w st' k) : Rnm ns rw m n st w st' k
inductive spRun (ps : List PV) (H : AHeap) (Q : Post) (X : XPost) : Prop
  | mk (p s : Addr) (n : Str) (st st' : List PV) (fuel : Nat) (w : Option Nat) (k : Nat) (es : Pr) (rw : Str → List Rw) (a0 : ps = [.obj p, .str n, .obj s, .int fuel]) (a1 : Pg 450000 H p es rw) (a2 : H s = some (.list st)) (a3 : StOk 400 st) (a4 : fuel ≤ 100) (a5 : Rnm (nmsP es) rw fuel n st w st' k) (a6 : w = none → ∀ c H', H c = none → H' c = some (.list st') → Ext H H' → Q (.obj c) H') (a7 : ∀ e, w = some e → ∀ H', Ext H H' → X e H')
inductive spLReck (ps : List PV) (H : AHeap) (Q : Post) (_ : XPost) : Prop
  | mk (w : W) (x y v : PV) (a0 : ps = [.tup w.row, x, y]) (a1 : Okv x) (a2 : Okv y) (a3 : Cal w [x, y] v) (a4 : Q v H)
inductive spLBeh (ps : List PV) (H : AHeap) (Q : Post) (_ : XPost) : Prop
  | mk (a) (st ys) (w) (a0 : ps = [.obj a, .tup (W.row w)]) (a1 : w.ok) (a2 : H a = some (.list st)) (a3 : StOk 900 st) (a4 : Res w st (.ok ys)) (a5 : ∀ c H', H c = none → H' c = some (.list ys) → Ext H H' → Q (.obj c) H')
inductive spLKinds (ps : List PV) (H : AHeap) (Q : Post) (_ : XPost) : Prop
  | mk (a) (st) (a0 : ps = [.obj a]) (a1 : H a = some (.list st)) (a2 : ∀ v ∈ st, Okv v) (a3 : st.length ≤ 1000) (a4 : ∀ c H', H c = none → H' c = some (.list ((st.map kindS).map .str)) → Ext H H' → Q (.obj c) H')
inductive spLeft (ps : List PV) (H : AHeap) (Q : Post) (_ : XPost) : Prop
  | mk (p a : Addr) (fr : Frs) (es : Pr) (rw : Str → List Rw) (a0 : ps = [.obj p, .obj a]) (a1 : H a = some (.list (frPV fr))) (a2 : Pg 450000 H p es rw) (a3 : ∀ f ∈ fr, f.1 ∈ nmsP es) (a5 : ∀ c H', H c = none → H' c = some (.list (frPV (setl rw fr))) → Ext H H' → Q (.obj c) H')
inductive spStepped (ps : List PV) (H : AHeap) (Q : Post) (_ : XPost) : Prop
  | mk (p s f : Addr) (st : List PV) (fr : Frs) (es : Pr) (rw : Str → List Rw) (o : Except Nat (List PV × Frs)) (a0 : ps = [.obj p, .obj s, .obj f]) (a1 : H s = some (.list st)) (a2 : H f = some (.list (frPV fr))) (a3 : Pg 450000 H p es rw) (a4 : FrOk (nmsP es) fr) (a5 : StOk 900 st) (a6 : Stp (nmsP es) rw st fr o) (a7 : match o with | .ok (st', fr') => ∀ (s' f' : Addr) H', H' s' = some (.list st') → H' f' = some (.list (frPV fr')) → Ext H H' → Q (.tup [.str "", .obj s', .obj f']) H' | .error e => ∀ H', Ext H H' → Q (.tup [.str (wordE e), .obj s, .obj f]) H')
inductive spAlike (ps : List PV) (H : AHeap) (Q : Post) (_ : XPost) : Prop
  | mk (a b : Addr) (st : List PV) (a0 : ps = [.obj a, .obj b]) (a1 : H a = some (.list st)) (a2 : H b = some (.list st)) (a3 : StOk 1000 st) (a4 : Q (.bool true) H)
inductive spOnTop (ps : List PV) (H : AHeap) (Q : Post) (_ : XPost) : Prop
  | mk (xs) (t) (n) (ks : List Str) (a0 : ps = [.fls xs, .obj t, .tup (ks.map .str)]) (a1 : xs.length ≤ 100) (a2 : H t = some (.tape n)) (a3 : n < 2 ^ 51) (a4 : ks.length ≤ 60) (a5 : ∀ (c : Addr) (st : List PV) (n' : Nat) (H' : AHeap), StOk 200 st → n' ≤ n + 1000 → H c = none → H' c = some (.list st) → H' t = some (.tape n') → ExtB t H H' → Q (.obj c) H')
inductive spWay (ps : List PV) (H : AHeap) (Q : Post) (_ : XPost) : Prop
  | mk (p s : Addr) (n : Str) (st st' : List PV) (fuel : Nat) (w : Option Nat) (k : Nat) (es : Pr) (rw : Str → List Rw) (a0 : ps = [.obj p, .str n, .obj s, .int fuel]) (a1 : Pg 450000 H p es rw) (a2 : H s = some (.list st)) (a3 : StOk 400 st) (a4 : fuel ≤ 100) (a5 : Rnm (nmsP es) rw fuel n st w st' k) (a6 : ∀ (c : Addr) H', H' c = some (.list st') → Ext H H' → Q (.tup [.str (wordO w), .obj c, .int k]) H')
inductive spLRun (ps : List PV) (H : AHeap) (Q : Post) (_ : XPost) : Prop
  | mk (p s : Addr) (n : Str) (st st' : List PV) (fuel : Nat) (w : Option Nat) (k : Nat) (es : Pr) (rw : Str → List Rw) (a0 : ps = [.obj p, .str n, .obj s, .int fuel]) (a1 : Pg 450000 H p es rw) (a2 : H s = some (.list st)) (a3 : StOk 400 st) (a4 : fuel ≤ 100) (a5 : Rnm (nmsP es) rw fuel n st w st' k) (a6 : w = none → ∀ c H', H c = none → H' c = some (.list st') → Ext H H' → Q (.obj c) H') (a7 : ∀ e, w = some e → ∀ H', Ext H H' → Q (.str (wordE e)) H')
inductive spAny (ps : List PV) (H : AHeap) (Q : Post) (_ : XPost) : Prop
  | mk (p s : Addr) (n : Str) (st st' : List PV) (fuel : Nat) (w : Option Nat) (k : Nat) (es : Pr) (rw : Str → List Rw) (a0 : ps = [.obj p, .str n, .obj s, .int fuel]) (a1 : Pg 450000 H p es rw) (a2 : H s = some (.list st)) (a3 : StOk 400 st) (a4 : fuel ≤ 100) (a5 : Rnm (nmsP es) rw fuel n st w st' k) (a6 : ∃ e, w = some e ∧ ∀ H', Q (.bool true) H')
inductive spLaw (ps : List PV) (_ : AHeap) (Q : Post) (_ : XPost) : Prop
  | mk (xs) (a0 : ps = [.fls xs]) (a1 : xs.length ≤ 100) (a2 : ∀ H', Q (.bool true) H')
noncomputable def sps : List (Str × Sp) := ([("_law_draw", spDraw), ("_law_words", spWords), ("_law_value", spValue), ("_law_wanted", spWanted), ("_law_lack", spLack), ("_law_plainly", spPlainly), ("_law_called", spLCalled), ("_law_next", spNext), ("_law_plain_row", spPlain), ("_law_kinds", spKindsT), ("_law_told", spTold), ("_law_pushes", spPushes), ("_law_choice", spChoice), ("_law_fitting", spFitting), ("_law_good_rows", spGoodRows), ("_law_good_program", spGoodProgram), ("_law_raw_row", spRawRow), ("_law_spoilt", spSpoilt), ("_law_copy", spCopy), ("need", spNeed)] : List (Str × Sp)) ++ ([("kinds_of", spKinds), ("reckoned", spReck), ("done", spDone), ("Machine.settle", spSettle), ("Machine.__init__", spInit), ("Machine.over", spOver), ("Machine.goal_of", spGoalOf), ("Machine.step", spStep), ("run", spRun), ("_law_reckoned", spLReck), ("_law_behind", spLBeh), ("_law_kinds_of", spLKinds), ("_law_left", spLeft), ("_law_stepped", spStepped), ("_law_alike", spAlike), ("_law_on_top", spOnTop), ("_law_way", spWay), ("_law_run", spLRun), ("_law_any", spAny), ("law", spLaw)] : List (Str × Sp))
noncomputable def takes01 : List (Str × List Str) := [("add", ["num", "num"]), ("mul", ["num", "num"]), ("less", ["num", "num"]), ("join", ["text", "text"]), ("long", ["text"]), ("show", ["num"])]
noncomputable def cons01 : List (Str × PV) := [("TAKES", .fdt (takes01.map fun e => (e.1, .tup (e.2.map .str)))), ("BOUND", .int 1000000000), ("LONGEST", .int 60)]
@[irreducible] noncomputable def c01 : CallSpec := fun f => (sps.lookup f).getD fun _ _ _ _ => False
@[irreducible] noncomputable def k01 (x : Str) : Option PV := cons01.lookup x
noncomputable def g01 : Gl := ⟨c01, k01⟩
theorem U_draw {ps : List PV} {H : AHeap} {Q : Post} {X : XPost} (h : spDraw ps H Q X) : g01.C "_law_draw" ps H Q X := by
  delta g01 c01; exact h
theorem U_words {ps : List PV} {H : AHeap} {Q : Post} {X : XPost} (h : spWords ps H Q X) : g01.C "_law_words" ps H Q X := by
  delta g01 c01; exact h
theorem U_value {ps : List PV} {H : AHeap} {Q : Post} {X : XPost} (h : spValue ps H Q X) : g01.C "_law_value" ps H Q X := by
  delta g01 c01; exact h
theorem U_wanted {ps : List PV} {H : AHeap} {Q : Post} {X : XPost} (h : spWanted ps H Q X) : g01.C "_law_wanted" ps H Q X := by
  delta g01 c01; exact h
theorem U_lack {ps : List PV} {H : AHeap} {Q : Post} {X : XPost} (h : spLack ps H Q X) : g01.C "_law_lack" ps H Q X := by
  delta g01 c01; exact h
theorem U_plainly {ps : List PV} {H : AHeap} {Q : Post} {X : XPost} (h : spPlainly ps H Q X) : g01.C "_law_plainly" ps H Q X := by
  delta g01 c01; exact h
theorem U_lcalled {ps : List PV} {H : AHeap} {Q : Post} {X : XPost} (h : spLCalled ps H Q X) : g01.C "_law_called" ps H Q X := by
  delta g01 c01; exact h
theorem U_next {ps : List PV} {H : AHeap} {Q : Post} {X : XPost} (h : spNext ps H Q X) : g01.C "_law_next" ps H Q X := by
  delta g01 c01; exact h
theorem U_plain {ps : List PV} {H : AHeap} {Q : Post} {X : XPost} (h : spPlain ps H Q X) : g01.C "_law_plain_row" ps H Q X := by
  delta g01 c01; exact h
theorem U_kindst {ps : List PV} {H : AHeap} {Q : Post} {X : XPost} (h : spKindsT ps H Q X) : g01.C "_law_kinds" ps H Q X := by
  delta g01 c01; exact h
theorem U_told {ps : List PV} {H : AHeap} {Q : Post} {X : XPost} (h : spTold ps H Q X) : g01.C "_law_told" ps H Q X := by
  delta g01 c01; exact h
theorem U_pushes {ps : List PV} {H : AHeap} {Q : Post} {X : XPost} (h : spPushes ps H Q X) : g01.C "_law_pushes" ps H Q X := by
  delta g01 c01; exact h
theorem U_choice {ps : List PV} {H : AHeap} {Q : Post} {X : XPost} (h : spChoice ps H Q X) : g01.C "_law_choice" ps H Q X := by
  delta g01 c01; exact h
theorem U_fitting {ps : List PV} {H : AHeap} {Q : Post} {X : XPost} (h : spFitting ps H Q X) : g01.C "_law_fitting" ps H Q X := by
  delta g01 c01; exact h
theorem U_goodrows {ps : List PV} {H : AHeap} {Q : Post} {X : XPost} (h : spGoodRows ps H Q X) : g01.C "_law_good_rows" ps H Q X := by
  delta g01 c01; exact h
theorem U_goodprogram {ps : List PV} {H : AHeap} {Q : Post} {X : XPost} (h : spGoodProgram ps H Q X) : g01.C "_law_good_program" ps H Q X := by
  delta g01 c01; exact h
theorem U_rawrow {ps : List PV} {H : AHeap} {Q : Post} {X : XPost} (h : spRawRow ps H Q X) : g01.C "_law_raw_row" ps H Q X := by
  delta g01 c01; exact h
theorem U_spoilt {ps : List PV} {H : AHeap} {Q : Post} {X : XPost} (h : spSpoilt ps H Q X) : g01.C "_law_spoilt" ps H Q X := by
  delta g01 c01; exact h
theorem U_copy {ps : List PV} {H : AHeap} {Q : Post} {X : XPost} (h : spCopy ps H Q X) : g01.C "_law_copy" ps H Q X := by
  delta g01 c01; exact h
theorem U_need {ps : List PV} {H : AHeap} {Q : Post} {X : XPost} (h : spNeed ps H Q X) : g01.C "need" ps H Q X := by
  delta g01 c01; exact h
theorem U_kinds {ps : List PV} {H : AHeap} {Q : Post} {X : XPost} (h : spKinds ps H Q X) : g01.C "kinds_of" ps H Q X := by
  delta g01 c01; exact h
theorem U_reck {ps : List PV} {H : AHeap} {Q : Post} {X : XPost} (h : spReck ps H Q X) : g01.C "reckoned" ps H Q X := by
  delta g01 c01; exact h
theorem U_done {ps : List PV} {H : AHeap} {Q : Post} {X : XPost} (h : spDone ps H Q X) : g01.C "done" ps H Q X := by
  delta g01 c01; exact h
theorem U_settle {ps : List PV} {H : AHeap} {Q : Post} {X : XPost} (h : spSettle ps H Q X) : g01.C "Machine.settle" ps H Q X := by
  delta g01 c01; exact h
theorem U_init {ps : List PV} {H : AHeap} {Q : Post} {X : XPost} (h : spInit ps H Q X) : g01.C "Machine.__init__" ps H Q X := by
  delta g01 c01; exact h
theorem U_over {ps : List PV} {H : AHeap} {Q : Post} {X : XPost} (h : spOver ps H Q X) : g01.C "Machine.over" ps H Q X := by
  delta g01 c01; exact h
theorem U_goalof {ps : List PV} {H : AHeap} {Q : Post} {X : XPost} (h : spGoalOf ps H Q X) : g01.C "Machine.goal_of" ps H Q X := by
  delta g01 c01; exact h
theorem U_step {ps : List PV} {H : AHeap} {Q : Post} {X : XPost} (h : spStep ps H Q X) : g01.C "Machine.step" ps H Q X := by
  delta g01 c01; exact h
theorem U_run {ps : List PV} {H : AHeap} {Q : Post} {X : XPost} (h : spRun ps H Q X) : g01.C "run" ps H Q X := by
  delta g01 c01; exact h
theorem U_lreck {ps : List PV} {H : AHeap} {Q : Post} {X : XPost} (h : spLReck ps H Q X) : g01.C "_law_reckoned" ps H Q X := by
  delta g01 c01; exact h
theorem U_lbehind {ps : List PV} {H : AHeap} {Q : Post} {X : XPost} (h : spLBeh ps H Q X) : g01.C "_law_behind" ps H Q X := by
  delta g01 c01; exact h
theorem U_lkinds {ps : List PV} {H : AHeap} {Q : Post} {X : XPost} (h : spLKinds ps H Q X) : g01.C "_law_kinds_of" ps H Q X := by
  delta g01 c01; exact h
theorem U_left {ps : List PV} {H : AHeap} {Q : Post} {X : XPost} (h : spLeft ps H Q X) : g01.C "_law_left" ps H Q X := by
  delta g01 c01; exact h
theorem U_stepped {ps : List PV} {H : AHeap} {Q : Post} {X : XPost} (h : spStepped ps H Q X) : g01.C "_law_stepped" ps H Q X := by
  delta g01 c01; exact h
theorem U_alike {ps : List PV} {H : AHeap} {Q : Post} {X : XPost} (h : spAlike ps H Q X) : g01.C "_law_alike" ps H Q X := by
  delta g01 c01; exact h
theorem U_ontop {ps : List PV} {H : AHeap} {Q : Post} {X : XPost} (h : spOnTop ps H Q X) : g01.C "_law_on_top" ps H Q X := by
  delta g01 c01; exact h
theorem U_way {ps : List PV} {H : AHeap} {Q : Post} {X : XPost} (h : spWay ps H Q X) : g01.C "_law_way" ps H Q X := by
  delta g01 c01; exact h
theorem U_lrun {ps : List PV} {H : AHeap} {Q : Post} {X : XPost} (h : spLRun ps H Q X) : g01.C "_law_run" ps H Q X := by
  delta g01 c01; exact h
theorem U_lany {ps : List PV} {H : AHeap} {Q : Post} {X : XPost} (h : spAny ps H Q X) : g01.C "_law_any" ps H Q X := by
  delta g01 c01; exact h
theorem U_law {ps : List PV} {H : AHeap} {Q : Post} {X : XPost} (h : spLaw ps H Q X) : g01.C "law" ps H Q X := by
  delta g01 c01; exact h
theorem G_takes : g01.G "TAKES" = some (.fdt (takes01.map fun e => (e.1, .tup (e.2.map .str)))) := by delta g01 k01; rfl
theorem G_bound : g01.G "BOUND" = some (.int 1000000000) := by delta g01 k01; rfl
theorem G_longest : g01.G "LONGEST" = some (.int 60) := by delta g01 k01; rfl
noncomputable def Ver (sp : Sp) (B : ASs) (nm : List Str) (np : Nat) : Prop := ∀ {ps : List PV} {H : AHeap} {Q : Post} {X : XPost}, sp ps H Q X → ps.length = np ∧ awpSs g01 B (fun _ H => Q .none H) Q (fun c _ H => X c H) (initL nm np ps) H
theorem draw_ok : Ver spDraw B_law_draw N_law_draw 3 := by
  intro ps H Q X h
  obtain ⟨xs, t, k, n, rfl, hl, ht, hn, hk, hQ⟩ := h
  have hB : (2 : Nat) ^ 59 = 576460752303423488 := by decide
  have hB' : (2 : Nat) ^ 60 = 1152921504606846976 := by decide
  refine ⟨rfl, ?_⟩
  refine O_subTape ht ?_
  refine O_storeT ht (by first | decide | lia | omega) fun H₁ h₁ e₁ => ?_
  have e : ((n : Int) + 1).toNat = n + 1 := by first | decide | lia | omega
  rw [e] at h₁
  refine O_subTape h₁ ?_
  refine O_ite (fun _ => ?_) (fun _ => ?_)
  · rename_i hle
    simp only [decide_eq_true_eq] at hle
    have hlt : n < xs.length := by first | decide | lia | omega
    refine O_subTape h₁ ?_
    refine O_subFls (itemAt_nat (n := n) (by first | decide | lia | omega) (List.getElem?_eq_getElem hlt)) ?_
    refine O_modI hk ?_
    exact hQ _ _ (mod_lt hk).1 (mod_lt hk).2 h₁ e₁
  · refine O_toF fun c H₂ hc h₂ e₂ => ?_
    refine O_itL h₂ ?_
    refine forW_ind (fun ys m H => H = H₂ ∧ (∃ zs : List Int, ys = zs.map .int) ∧ ∃ seed x4, 0 ≤ seed ∧ seed < 1000003 ∧ m = [some (.fls xs), some (.obj t), some (.int k), some (.int seed), x4]) ?_ ?_ _ _ _ ⟨rfl, ⟨_, rfl⟩, xs.length, none, by first | decide | lia | omega, by first | decide | lia | omega, rfl⟩
    · rintro m H ⟨rfl, _, seed, x4, s0, s1, rfl⟩
      refine ⟨h₂, ?_⟩
      refine O_subTape (e₂.at h₁) ?_
      refine O_subTape (e₂.at h₁) ?_
      refine O_mulI (by first | decide | lia | omega) ?_
      refine O_mulI (by first | decide | lia | omega) ?_
      refine O_modI hk ?_
      exact hQ _ _ (mod_lt hk).1 (mod_lt hk).2 (e₂.at h₁) (e₁.trans (e₂.toB t))
    · rintro y ys m H ⟨rfl, ⟨zs, hz⟩, seed, x4, s0, s1, rfl⟩
      refine ⟨h₂, fun K hK => ?_⟩
      cases zs with
      | nil => cases hz
      | cons z zs =>
        cases hz
        refine O_mulI (by first | decide | lia | omega) ?_
        exact hK _ _ ⟨rfl, ⟨zs, rfl⟩, _, some (.int z), (mod_lt (by first | decide | lia | omega)).1, (mod_lt (by first | decide | lia | omega)).2, rfl⟩
theorem forR {st : PV → (Loc → AHeap → Prop) → Loc → AHeap → Prop} {N : Loc → AHeap → Prop} {n : Nat} (I : Nat → Loc → AHeap → Prop) (h0 : ∀ m H, I n m H → N m H)
    (h1 : ∀ j m H, j < n → I j m H → ∀ K : Loc → AHeap → Prop, (∀ m' H', I (j + 1) m' H' → K m' H') → st (.int j) K m H) (m : Loc) (H : AHeap) (hi : I 0 m H) :
    forW (fun _ => True) st N ((List.range n).map fun (i : Nat) => PV.int i) m H := by
  refine forW_ind (fun rest m H => ∃ j, j ≤ n ∧ rest = ((List.range n).drop j).map (fun (i : Nat) => PV.int i) ∧ I j m H) ?_ ?_ _ _ _ ⟨0, by first | decide | lia | omega, rfl, hi⟩
  · rintro m H ⟨j, hj, hr, h⟩
    have hl := congrArg List.length hr
    simp at hl
    have : j = n := by first | decide | lia | omega
    subst this
    exact ⟨trivial, h0 _ _ h⟩
  · rintro x xs m H ⟨j, hj, hr, h⟩
    refine ⟨trivial, fun K hK => ?_⟩
    have hjl : j < n := by
      apply Classical.byContradiction
      intro q
      rw [List.drop_eq_nil_of_le (by simp; first | lia | omega)] at hr
      cases hr
    have hd : (List.range n).drop j = j :: (List.range n).drop (j + 1) := by
      rw [List.drop_eq_getElem_cons (by simpa using hjl)]; simp
    rw [hd] at hr
    cases hr
    exact h1 j m H hjl h K fun m' H' h' => hK _ _ ⟨j + 1, by first | decide | lia | omega, rfl, h'⟩
theorem W_cut {g : Gl} {N : NPost} {R : Post} {X : SXPost} {m : Loc} {H : AHeap} {s : AS} {ss : ASs} (P : NPost) (h1 : ∀ K : NPost, (∀ m H, P m H → K m H) → awpS g s K R X m H) (h2 : ∀ m H, P m H → awpSs g ss N R X m H) :
    awpSs g (.cons s ss) N R X m H := h1 _ h2
theorem ExtB.over {H H₁ H₂ : AHeap} {t c : Addr} (hc : H c = none) (e : ExtB t H H₁) (b : ExtB c H₁ H₂) : ExtB t H H₂ := fun x o n h => b x o (ne_of h hc) (e x o n h)
theorem cut_nat {L n : Nat} {z : Int} (hz : z = n) (h : n ≤ L) : cutAt L z = n := by subst hz; unfold cutAt; rw [if_pos (by first | decide | lia | omega)]; first | lia | omega
theorem okv_num {v : PV} (h : Okv v) (k : kindS v = "num") : ∃ i, v = .int i ∧ 0 ≤ i ∧ i < 1000000000 := by
  rcases h with h | ⟨s, rfl, _⟩
  · exact h
  · exact absurd (show ("text" : Str) = "num" from k) (by decide +kernel)
theorem Ext.none_of {H H' : AHeap} {c : Addr} (e : Ext H H') (h : H' c = none) : H c = none := by
  cases q : H c with
  | none => rfl
  | some v => rw [e.at q] at h; cases h
end Mine
end
section
open PySem PySem.W PySem.Calls PyProof.Rows
namespace Mine
set_option autoImplicit false

theorem words_ok : Ver spWords B_law_words N_law_words 2 := by
  intro ps H Q X h
  have hL : LIM = 1048576 := rfl
  obtain ⟨c, n, rfl, n0, n1, hQ⟩ := h
  refine ⟨rfl, ?_⟩
  refine O_addS' (by decide +kernel) fun S hS => ?_
  have hl : S.length = 94 := by rw [hS]; decide +kernel
  clear hS
  refine O_recvS ?_
  refine O_range (by first | decide | lia | omega) ?_
  refine compW_ind (fun rest acc H' => H' = H ∧ (∃ ks : List Nat, rest = ks.map (fun (i : Nat) => PV.int i) ∧ ∀ k ∈ ks, k < 1000) ∧ ∃ ss : List Str, acc = ss.map .str ∧ (∀ s ∈ ss, s.length = 1) ∧ ss.length + rest.length = n.toNat) ?_ ?_ _ _ _
    ⟨rfl, ⟨List.range n.toNat, rfl, fun k hk => by rw [List.mem_range] at hk; first | lia | omega⟩, [], rfl, by simp, by simp⟩
  · rintro acc H' ⟨rfl, _, ss, rfl, h1, h2⟩
    refine ⟨trivial, fun a H₁ ha h₁ e₁ => ?_⟩
    have h3 : ss.length = n.toNat := by simpa using h2
    refine O_join h₁ (by decide +kernel) (by rw [sum_ones ss h1]; first | lia | omega) ?_
    exact hQ _ _ (by rw [join_len (by decide +kernel) ss h1, h3]) e₁
  · rintro x xs acc H' ⟨rfl, ⟨ks, hk, hks⟩, ss, rfl, h1, h2⟩
    refine ⟨trivial, fun K hK => ?_⟩
    cases ks with
    | nil => cases hk
    | cons k ks =>
      cases hk
      have hk1 := hks k (by simp)
      refine O_divI (by first | decide | lia | omega) (by first | decide | lia | omega) ?_
      refine O_mulI (by first | decide | lia | omega) ?_
      obtain ⟨y, hy, ly⟩ := sign_at (s := S) (i := (c / ((k : Int) + 1) + 5 * (k : Int)) % 94) (mod_lt (by first | decide | lia | omega)).1 (by rw [hl]; exact (mod_lt (by first | decide | lia | omega)).2)
      refine O_subS (by first | decide | lia | omega) hy ?_
      refine hK _ _ ⟨rfl, ⟨ks, rfl, fun k hk => hks k (by simp [hk])⟩, ss ++ [y], by simp, fun s hs => ?_, by simp at h2 ⊢; first | lia | omega⟩
      rcases List.mem_append.mp hs with hs | hs
      · exact h1 s hs
      · rw [List.mem_singleton.mp hs]; exact ly
theorem value_ok : Ver spValue B_law_value N_law_value 3 := by
  intro ps H Q X h
  obtain ⟨xs, t, kd, n, rfl, hx, ht, hn, hQ⟩ := h
  have hB : (2 : Nat) ^ 58 = 288230376151711744 := by decide
  have hB' : (2 : Nat) ^ 59 = 576460752303423488 := by decide
  refine ⟨rfl, ?_⟩
  refine U_draw ?_
  refine ⟨xs, t, _, n, rfl, hx, ht, by first | exact bd0 hn (by decide) | exact bd1 hn (by decide) | exact bd2 hn (by assumption) (by decide) | exact bd3 hn (by assumption) (by decide) | decide | lia | omega, by first | exact bd0 hn (by decide) | exact bd1 hn (by decide) | exact bd2 hn (by assumption) (by decide) | exact bd3 hn (by assumption) (by decide) | decide | lia | omega, fun cell H₁ c0 c1 h₁ e₁ => ?_⟩
  refine U_draw ?_
  refine ⟨xs, t, _, n + 1, rfl, hx, h₁, by first | exact bd0 hn (by decide) | exact bd1 hn (by decide) | exact bd2 hn (by assumption) (by decide) | exact bd3 hn (by assumption) (by decide) | decide | lia | omega, by first | exact bd0 hn (by decide) | exact bd1 hn (by decide) | exact bd2 hn (by assumption) (by decide) | exact bd3 hn (by assumption) (by decide) | decide | lia | omega, fun way H₂ w0 w1 h₂ e₂ => ?_⟩
  have e₁₂ := e₁.trans e₂
  have word : ∀ (k : Int), 0 ≤ k → k ≤ 60 → (kd == "text") = true → g01.C "_law_words" [.int cell, .int k] H₂ Q (fun c H => X c H) := fun k k0 k1 hk => by
    refine U_words ?_
    refine ⟨cell, k, rfl, k0, by first | decide | lia | omega, fun s H₃ hs e₃ => ?_⟩
    exact hQ _ _ (.inr ⟨s, rfl, by first | decide | lia | omega⟩) (by rw [hk]; rfl) (e₃.at h₂) (e₁₂.trans (e₃.toB t))
  have num : ∀ (k : Int), 0 ≤ k → k < 1000000000 → ¬ (kd == "text") = true → Q (.int k) H₂ := fun k k0 k1 hk => by
    exact hQ _ _ (.inl ⟨k, rfl, k0, k1⟩) (by rw [if_neg hk]; rfl) h₂ e₁₂
  refine O_ite (fun _ => ?_) (fun _ => ?_)
  · rename_i hk
    refine O_ite (fun _ => ?_) (fun _ => ?_)
    · have := mod_lt (a := cell) (k := 3) (by first | decide | lia | omega)
      exact word _ (by first | decide | lia | omega) (by first | decide | lia | omega) hk
    · have := mod_lt (a := cell / 94) (k := 8) (by first | decide | lia | omega)
      exact word _ (by first | decide | lia | omega) (by first | decide | lia | omega) hk
  · rename_i hk
    refine O_ite (fun _ => ?_) (fun _ => ?_)
    · have := mod_lt (a := cell) (k := 3) (by first | decide | lia | omega)
      exact num _ (by first | decide | lia | omega) (by first | decide | lia | omega) hk
    · refine O_ite (fun _ => ?_) (fun _ => ?_)
      · have := mod_lt (a := cell) (k := 4) (by first | decide | lia | omega)
        exact num _ (by first | decide | lia | omega) (by first | decide | lia | omega) hk
      · exact num _ c0 c1 hk
end Mine
end
section
open PySem PySem.W PySem.Calls PyProof.Rows
namespace Mine
set_option autoImplicit false

theorem lack_kind {ks ws : List Str} {i : Nat} {x y : Str} (hl : ws.length ≤ ks.length) (hi : ws[i]? = some x) (hj : ks[ks.length - ws.length + i]? = some y) (hx : x ≠ "") (hy : x ≠ y) : lackS ks ws = "kind" := by
  unfold lackS
  rw [if_neg (by first | decide | lia | omega), if_pos]
  rw [List.any_eq_true]
  refine ⟨(x, y), ?_, by simp [hx, hy]⟩
  refine List.mem_of_getElem? (i := i) ?_
  rw [List.getElem?_zip_eq_some]
  exact ⟨hi, by rw [List.getElem?_drop]; exact hj⟩
theorem lack_none {ks ws : List Str} (hl : ws.length ≤ ks.length) (h : ∀ (i : Nat) (x y : Str), ws[i]? = some x → ks[ks.length - ws.length + i]? = some y → x = "" ∨ x = y) : lackS ks ws = "" := by
  unfold lackS
  rw [if_neg (by first | decide | lia | omega), if_neg]
  rw [List.any_eq_true]
  rintro ⟨⟨x, y⟩, hm, hp⟩
  obtain ⟨i, hi⟩ := List.mem_iff_getElem?.mp hm
  rw [List.getElem?_zip_eq_some, List.getElem?_drop] at hi
  rcases h i x y hi.1 hi.2 with e | e <;> simp [e] at hp
theorem lack_ok : Ver spLack B_law_lack N_law_lack 2 := by
  intro ps H Q X h
  have hL : LIM = 1048576 := rfl
  obtain ⟨a, b, ks, ws, rfl, ha, hb, lk, lw, hQ⟩ := h
  refine ⟨rfl, ?_⟩
  refine O_lenL ha ?_
  refine O_lenL hb ?_
  refine O_ite (fun _ => ?_) (fun _ => ?_)
  · rename_i hlt
    have : lackS ks ws = "empty" := by unfold lackS; rw [if_pos (by simp at hlt; first | lia | omega)]
    rw [this] at hQ; exact hQ
  · rename_i hge
    have hle : ws.length ≤ ks.length := by simp at hge; first | lia | omega
    refine O_lenL ha ?_
    refine O_lenL hb ?_
    refine O_lenL hb ?_
    refine O_range (by first | omega | (rw [List.length_map]; first | lia | omega)) ?_
    simp only [List.length_map, Int.toNat_natCast]
    refine forW_ind (fun rest m H' => H' = H ∧ ∃ j x3, rest = ((List.range ws.length).drop j).map (fun (i : Nat) => PV.int i) ∧ (∀ (i : Nat) (x y : Str), i < j → ws[i]? = some x → ks[ks.length - ws.length + i]? = some y → x = "" ∨ x = y) ∧ m = [some (.obj a), some (.obj b), some (.int ((ks.length : Int) - (ws.length : Int))), x3]) ?_ ?_ _ _ _ ⟨rfl, 0, none, rfl, fun _ _ _ h => by first | decide | lia | omega, rfl⟩
    · rintro m H' ⟨rfl, j, x3, hr, hj, rfl⟩
      refine ⟨trivial, ?_⟩
      have hjl : ws.length ≤ j := by
        have := congrArg List.length hr
        simp at this; first | lia | omega
      rw [lack_none hle fun i x y hi hy => hj i x y (by have := (List.getElem?_eq_some_iff.mp hi).1; first | lia | omega) hi hy] at hQ
      exact hQ
    · rintro v rest m H' ⟨rfl, j, x3, hr, hj, rfl⟩
      refine ⟨trivial, fun K hK => ?_⟩
      have hjl : j < ws.length := by
        apply Classical.byContradiction
        intro q
        rw [List.drop_eq_nil_of_le (by simp; first | lia | omega)] at hr
        cases hr
      have hd : (List.range ws.length).drop j = j :: (List.range ws.length).drop (j + 1) := by
        rw [List.drop_eq_getElem_cons (by simpa using hjl)]; simp
      rw [hd] at hr
      cases hr
      have hws : (ws.map PV.str)[j]? = some (.str ws[j]) := by simp [hjl]
      have hlow : ks.length - ws.length + j < ks.length := by first | decide | lia | omega
      have hks : (ks.map PV.str)[ks.length - ws.length + j]? = some (.str ks[ks.length - ws.length + j]) := by simp [hlow]
      have cont : ws[j] = "" ∨ ws[j] = ks[ks.length - ws.length + j] → K [some (.obj a), some (.obj b), some (.int ((ks.length : Int) - (ws.length : Int))), some (.int j)] H' := fun hc => by
        refine hK _ _ ⟨rfl, j + 1, _, rfl, fun i x y hi hx hy => ?_, rfl⟩
        by_cases q : i = j
        · subst q
          rw [List.getElem?_eq_getElem hjl] at hx
          rw [List.getElem?_eq_getElem hlow] at hy
          cases hx; cases hy; exact hc
        · exact hj i x y (by first | decide | lia | omega) hx hy
      refine O_subL hb (itemAt_nat rfl hws) ?_
      refine O_ite (fun _ => ?_) (fun _ => ?_)
      · rename_i h1
        refine O_subL hb (itemAt_nat rfl hws) ?_
        refine O_subL ha (itemAt_nat (n := ks.length - ws.length + j) (by first | decide | lia | omega) hks) ?_
        refine O_ite (fun _ => ?_) (fun _ => ?_)
        · rename_i h2
          rw [lack_kind hle (List.getElem?_eq_getElem hjl) (List.getElem?_eq_getElem hlow) (by simpa using h1) (by simpa using h2)] at hQ
          exact hQ
        · rename_i h2
          exact cont (.inr (by simpa using h2))
      · rename_i h1
        exact cont (.inl (by simpa using h1))
theorem wanted_ok : Ver spWanted B_law_wanted N_law_wanted 1 := by
  intro ps H Q X h
  have hL : LIM = 1048576 := rfl
  obtain ⟨w, rfl, hw, hQ⟩ := h
  refine ⟨rfl, ?_⟩
  cases w with
  | copy n =>
    have hn : n ≤ 60 := hw
    refine fun c H₁ hc h₁ e₁ => ?_
    refine O_mulL h₁ (by first | decide | lia | omega) (by first | decide | lia | omega) (by simp; first | lia | omega) fun d H₂ hd h₂ e₂ => ?_
    have hd0 : H d = none := by
      cases q : H d with
      | none => rfl
      | some o => rw [e₁.at q] at hd; cases hd
    refine hQ _ _ hd0 ?_ (e₁.trans e₂)
    rw [h₂]
    have : ((n : Int) + 1).toNat = n + 1 := by first | decide | lia | omega
    unfold repL
    rw [this]
    have e : ∀ k : Nat, (List.replicate k [PV.str ""]).flatten = (List.replicate k ("" : Str)).map PV.str := fun k => by
      induction k with
      | zero => rfl
      | succ k ih => rw [List.replicate_succ, List.flatten_cons, ih]; rfl
    rw [e]; rfl
  | _ =>
    refine fun c H₁ hc h₁ e₁ => ?_
    refine fun d H₂ hd h₂ e₂ => ?_
    have hc₂ := e₂.at h₁
    have fr : ∀ x, H₂ x = none → H x = none := fun x hx => by
      cases q : H x with
      | none => rfl
      | some o => rw [e₂.at (e₁.at q)] at hx; cases hx
    refine O_inD hc₂ ?_
    try first
      | (refine O_subD hc₂ rfl ?_
         refine O_subD hc₂ rfl ?_)
      | (refine O_inD h₂ ?_
         try refine O_subD h₂ rfl ?_)
    refine fun b H₃ hb h₃ e₃ => ?_
    exact hQ _ _ (fr b hb) h₃ ((e₁.trans e₂).trans e₃)
theorem wanted_copy (n : Nat) : (wantedS (.copy n)).length = n + 1 := List.length_replicate
theorem wanted_len {w : W} (h : w.ok) : (wantedS w).length ≤ 61 := by
  cases w with
  | copy n => rw [wanted_copy]; exact Nat.succ_le_succ h
  | _ => exact Nat.le_of_ble_eq_true rfl
theorem okv_text {v : PV} (h : Okv v) (k : kindS v = "text") : ∃ s, v = .str s ∧ s.length ≤ 60 := by
  rcases h with ⟨i, rfl, _⟩ | h
  · exact absurd (show ("num" : Str) = "text" from k) (by decide +kernel)
  · exact h
theorem copy_at {d z : Int} (d0 : 0 ≤ d) (d1 : d < 61) (z0 : 0 ≤ z) (z1 : z < 8) : ∃ k : Int, itemAt [PV.int 0, PV.int 0, PV.int 1, PV.int 1, PV.int 2, PV.int 3, PV.int d, PV.int 60] z = some (.int k) ∧ 0 ≤ k ∧ k ≤ 60 := by
  have : z = 0 ∨ z = 1 ∨ z = 2 ∨ z = 3 ∨ z = 4 ∨ z = 5 ∨ z = 6 ∨ z = 7 := by first | decide | lia | omega
  rcases this with rfl | rfl | rfl | rfl | rfl | rfl | rfl | rfl
  · exact ⟨0, rfl, by first | decide | lia | omega, by first | decide | lia | omega⟩
  · exact ⟨0, rfl, by first | decide | lia | omega, by first | decide | lia | omega⟩
  · exact ⟨1, rfl, by first | decide | lia | omega, by first | decide | lia | omega⟩
  · exact ⟨1, rfl, by first | decide | lia | omega, by first | decide | lia | omega⟩
  · exact ⟨2, rfl, by first | decide | lia | omega, by first | decide | lia | omega⟩
  · exact ⟨3, rfl, by first | decide | lia | omega, by first | decide | lia | omega⟩
  · exact ⟨d, rfl, d0, by first | decide | lia | omega⟩
  · exact ⟨60, rfl, by first | decide | lia | omega, by first | decide | lia | omega⟩
theorem some_copy {r : Int} (h0 : 10 ≤ r) (h1 : r < 13) : itemAt [PV.str "num", PV.str "text", PV.str "add", PV.str "mul", PV.str "less", PV.str "join", PV.str "long", PV.str "show", PV.str "swap", PV.str "drop", PV.str "copy", PV.str "copy", PV.str "copy"] r = some (.str "copy") := by
  have : r = 10 ∨ r = 11 ∨ r = 12 := by first | decide | lia | omega
  rcases this with rfl | rfl | rfl <;> rfl
theorem some_plain {r : Int} (h0 : 2 ≤ r) (h1 : r < 10) : ∃ w : W, w.ok ∧ itemAt [PV.str "num", PV.str "text", PV.str "add", PV.str "mul", PV.str "less", PV.str "join", PV.str "long", PV.str "show", PV.str "swap", PV.str "drop", PV.str "copy", PV.str "copy", PV.str "copy"] r = some (.str (wd w)) ∧ w.row = [.str (wd w)] ∧ (wd w == ("num" : Str)) = false ∧ (wd w == ("text" : Str)) = false ∧ (wd w == ("copy" : Str)) = false := by
  have : r = 2 ∨ r = 3 ∨ r = 4 ∨ r = 5 ∨ r = 6 ∨ r = 7 ∨ r = 8 ∨ r = 9 := by first | decide | lia | omega
  rcases this with rfl | rfl | rfl | rfl | rfl | rfl | rfl | rfl
  · exact ⟨.add, trivial, rfl, rfl, by decide +kernel, by decide +kernel, by decide +kernel⟩
  · exact ⟨.mul, trivial, rfl, rfl, by decide +kernel, by decide +kernel, by decide +kernel⟩
  · exact ⟨.less, trivial, rfl, rfl, by decide +kernel, by decide +kernel, by decide +kernel⟩
  · exact ⟨.join, trivial, rfl, rfl, by decide +kernel, by decide +kernel, by decide +kernel⟩
  · exact ⟨.long, trivial, rfl, rfl, by decide +kernel, by decide +kernel, by decide +kernel⟩
  · exact ⟨.show, trivial, rfl, rfl, by decide +kernel, by decide +kernel, by decide +kernel⟩
  · exact ⟨.swap, trivial, rfl, rfl, by decide +kernel, by decide +kernel, by decide +kernel⟩
  · exact ⟨.drop, trivial, rfl, rfl, by decide +kernel, by decide +kernel, by decide +kernel⟩
theorem plain_ok : Ver spPlain B_law_plain_row N_law_plain_row 2 := by
  intro ps H Q X h
  obtain ⟨xs, t, n, rfl, hx, ht, hn, hQ⟩ := h
  have hB : (2 : Nat) ^ 57 = 144115188075855872 := by decide
  have hB1 : (2 : Nat) ^ 58 = 288230376151711744 := by decide
  have hB' : (2 : Nat) ^ 59 = 576460752303423488 := by decide
  refine ⟨rfl, ?_⟩
  refine fun c H₁ hc h₁ e₁ => ?_
  refine U_draw ?_
  refine ⟨xs, t, _, n, rfl, hx, e₁.at ht, by first | exact bd0 hn (by decide) | exact bd1 hn (by decide) | exact bd2 hn (by assumption) (by decide) | exact bd3 hn (by assumption) (by decide) | decide | lia | omega, by first | exact bd0 hn (by decide) | exact bd1 hn (by decide) | exact bd2 hn (by assumption) (by decide) | exact bd3 hn (by assumption) (by decide) | decide | lia | omega, fun r H₂ r0 r1 h₂ e₂ => ?_⟩
  have htc : t ≠ c := ne_of ht hc
  have hc₂ := e₂.at (Ne.symm htc) h₁
  have e₁₂ : ExtB t H H₂ := (e₁.toB t).trans e₂
  have plain : ∀ w : W, w.ok → Q (.tup w.row) H₂ := fun w hw => hQ w _ _ hw (by first | decide | lia | omega) h₂ e₁₂
  have hr : r = 0 ∨ r = 1 ∨ 10 ≤ r ∨ (2 ≤ r ∧ r < 10) := by first | decide | lia | omega
  rcases hr with rfl | rfl | hr | hr
  · refine O_subL hc₂ (itemAt_nat (n := 0) rfl rfl) ?_
    refine U_value ?_
    refine ⟨xs, t, _, n + 1, rfl, hx, h₂, by first | exact bd0 hn (by decide) | exact bd1 hn (by decide) | exact bd2 hn (by assumption) (by decide) | exact bd3 hn (by assumption) (by decide) | decide | lia | omega, fun v H₃ hv hk h₃ e₃ => ?_⟩
    obtain ⟨i, rfl, i0, i1⟩ := okv_num hv (by rw [hk]; decide +kernel)
    exact hQ (.num i) _ _ ⟨i0, i1⟩ (by first | decide | lia | omega) h₃ (e₁₂.trans e₃)
  · refine O_subL hc₂ (itemAt_nat (n := 1) rfl rfl) ?_
    refine U_value ?_
    refine ⟨xs, t, _, n + 1, rfl, hx, h₂, by first | exact bd0 hn (by decide) | exact bd1 hn (by decide) | exact bd2 hn (by assumption) (by decide) | exact bd3 hn (by assumption) (by decide) | decide | lia | omega, fun v H₃ hv hk h₃ e₃ => ?_⟩
    obtain ⟨s, rfl, hs⟩ := okv_text hv (by rw [hk]; decide +kernel)
    exact hQ (.text s) _ _ hs (by first | decide | lia | omega) h₃ (e₁₂.trans e₃)
  · refine O_subL hc₂ (some_copy hr r1) ?_
    refine U_draw ?_
    refine ⟨xs, t, _, n + 1, rfl, hx, h₂, by first | exact bd0 hn (by decide) | exact bd1 hn (by decide) | exact bd2 hn (by assumption) (by decide) | exact bd3 hn (by assumption) (by decide) | decide | lia | omega, by first | exact bd0 hn (by decide) | exact bd1 hn (by decide) | exact bd2 hn (by assumption) (by decide) | exact bd3 hn (by assumption) (by decide) | decide | lia | omega, fun d H₃ d0 d1 h₃ e₃ => ?_⟩
    refine fun b H₄ hb h₄ e₄ => ?_
    refine U_draw ?_
    refine ⟨xs, t, _, n + 2, rfl, hx, e₄.at h₃, by first | exact bd0 hn (by decide) | exact bd1 hn (by decide) | exact bd2 hn (by assumption) (by decide) | exact bd3 hn (by assumption) (by decide) | decide | lia | omega, by first | exact bd0 hn (by decide) | exact bd1 hn (by decide) | exact bd2 hn (by assumption) (by decide) | exact bd3 hn (by assumption) (by decide) | decide | lia | omega, fun z H₅ z0 z1 h₅ e₅ => ?_⟩
    have hb₅ := e₅.at (Ne.symm (ne_of h₃ hb)) h₄
    have e₁₅ : ExtB t H H₅ := ((e₁₂.trans e₃).trans (e₄.toB t)).trans e₅
    have fin : ∀ k : Int, 0 ≤ k → k ≤ 60 → Q (.tup [.str "copy", .int k]) H₅ := fun k k0 k1 => by
      obtain ⟨j, rfl⟩ := Int.eq_ofNat_of_zero_le k0
      exact hQ (.copy j) _ _ (by show j ≤ 60; first | lia | omega) (by first | decide | lia | omega) h₅ e₁₅
    have hi : ∃ k : Int, itemAt [PV.int 0, PV.int 0, PV.int 1, PV.int 1, PV.int 2, PV.int 3, PV.int d, PV.int 60] z = some (.int k) ∧ 0 ≤ k ∧ k ≤ 60 := copy_at d0 d1 z0 z1
    obtain ⟨k, hk, k0, k1⟩ := hi
    refine O_subL hb₅ hk ?_
    exact fin k k0 k1
  · obtain ⟨w, hwo, gw, hrow, n1, n2, n3⟩ := some_plain hr.1 hr.2
    refine O_subL hc₂ gw ?_
    refine I_neg (by rw [n1]; decide) ?_
    refine I_neg (by rw [n2]; decide) ?_
    refine I_neg (by rw [n3]; decide) ?_
    have := plain w hwo
    rw [hrow] at this
    exact this

theorem rev_one {α : Type} {l : List α} (h : l.length = 1) : ∃ a, l = [a] := by
  match l, h with | [a], _ => exact ⟨a, rfl⟩
theorem rev_two {α : Type} {l : List α} (h : l.length = 2) : ∃ a b, l = [a, b] := by
  match l, h with | [a, b], _ => exact ⟨a, b, rfl⟩
theorem split_atG {α : Type} {st : List α} {k : Nat} (h : k ≤ st.length) : ∃ pre vs, st = pre ++ vs ∧ vs.length = k :=
  ⟨st.take (st.length - k), st.drop (st.length - k), (List.take_append_drop _ _).symm, by simp; first | lia | omega⟩
theorem Ext.back {H H' : AHeap} (e : Ext H H') {x : Addr} (h : H' x = none) : H x = none := e.none_of h
theorem last_two {α : Type} (pre : List α) (x y : α) : itemAt (pre ++ [x, y]) (-1) = some y ∧ itemAt (pre ++ [x, y]) (-2) = some x := by
  have hl : (pre ++ [x, y]).length = pre.length + 2 := by rw [List.length_append]; rfl
  unfold itemAt
  rw [hl]
  constructor
  · rw [if_neg (by decide), if_pos (by first | lia | omega), show ((-1 : Int) + ((pre.length + 2 : Nat) : Int)).toNat = pre.length + 1 by first | lia | omega]
    simp
  · rw [if_neg (by decide), if_pos (by first | lia | omega), show ((-2 : Int) + ((pre.length + 2 : Nat) : Int)).toNat = pre.length by first | lia | omega]
    simp
theorem plainly_ok : Ver spPlainly B_law_plainly N_law_plainly 2 := by
  intro ps H Q X h
  have hL : LIM = 1048576 := rfl
  obtain ⟨a, ks, w, rfl, hw, ha, hlen, hwl, hQ⟩ := h
  refine ⟨rfl, ?_⟩
  refine O_lenL ha ?_
  refine U_wanted ⟨w, rfl, hw, fun d H₁ hd h₁ e₁ => ?_⟩
  refine O_lenL h₁ ?_
  refine O_toL (e₁.at ha) fun c H₂ hc h₂ e₂ => ?_
  rw [← List.map_take] at h₂
  have e₁₂ := e₁.trans e₂
  have a₂ := e₁₂.at ha
  generalize cutAt _ _ = k at h₂
  have hlt : (ks.take k).length ≤ ks.length := by rw [List.length_take]; exact Nat.min_le_right _ _
  have key : ∀ xs : List Str, xs.length ≤ 2 → alloc (.list (xs.map .str)) (fun v H => BinW Q H .Add (.obj c) v) H₂ := fun xs hx b H₃ hb h₃ e₃ =>
    O_addL (e₃.at h₂) h₃ (by rw [List.length_map, List.length_map]; first | lia | omega) fun z H₄ hz h₄ e₄ => hQ z (ks.take k ++ xs) H₄ (e₁₂.back (e₃.back hz)) (by rw [h₄, List.map_append]) (by rw [List.length_append]; first | lia | omega) ((e₁₂.trans e₃).trans e₄)
  cases w with
  | copy n =>
    rw [wanted_copy] at hwl
    refine O_lenL a₂ ?_
    have hlt' : ks.length - 1 - n < ks.length := by first | lia | omega
    refine O_subL a₂ (itemAt_nat (n := ks.length - 1 - n) (x := .str ks[ks.length - 1 - n]) (by rw [List.length_map]; first | lia | omega) (by rw [List.getElem?_map, List.getElem?_eq_getElem hlt']; rfl)) ?_
    refine fun b H₃ hb h₃ e₃ => ?_
    refine O_addL (e₃.at a₂) h₃ (by rw [List.length_map, List.length_singleton]; first | lia | omega) fun z H₄ hz h₄ e₄ => ?_
    exact hQ z (ks ++ [ks[ks.length - 1 - n]]) H₄ (e₁₂.back (e₃.back hz)) (by rw [h₄, List.map_append]; rfl) (by rw [List.length_append, List.length_singleton]; first | lia | omega) ((e₁₂.trans e₃).trans e₄)
  | swap =>
    obtain ⟨pre, vs, rfl, hv⟩ := split_atG (st := ks) (k := 2) hwl
    obtain ⟨x, y, rfl⟩ := rev_two hv
    have hm : (pre ++ [x, y]).map PV.str = pre.map PV.str ++ [.str x, .str y] := by rw [List.map_append]; rfl
    rw [hm] at a₂
    refine O_subL a₂ (last_two _ _ _).1 ?_
    refine O_subL a₂ (last_two _ _ _).2 ?_
    exact key [y, x] (Nat.le_refl 2)
  | drop => exact hQ c _ H₂ (e₁.back hc) h₂ (by first | lia | omega) e₁₂
  | text => exact key ["text"] (by decide)
  | join => exact key ["text"] (by decide)
  | «show» => exact key ["text"] (by decide)
  | _ => exact key ["num"] (by decide)
end Mine
end
section
open PySem PySem.W PySem.Calls PyProof.Rows
namespace Mine
set_option autoImplicit false

theorem dget_map {α β : Type} (f : α → β) (k : Str) : ∀ es : List (Str × α), dget (es.map fun p => (p.1, f p.2)) k = (dget es k).map f
  | [] => rfl
  | (n, b) :: es => by
    have ih := dget_map f k es
    unfold dget at ih ⊢
    by_cases h : n = k
    · simp [h]
    · simp only [List.map_cons, List.find?_cons, h, decide_false]; exact ih
theorem dget_blk (es : Pr) (k : Str) : dget (kvsP es) k = (dget es k).map blk := dget_map blk k es
theorem hasKey_blk (es : Pr) (k : Str) : hasKey (kvsP es) k = (dget es k).isSome := by unfold hasKey; rw [dget_blk]; cases dget es k <;> rfl
theorem dget_mem {α : Type} {es : List (Str × α)} {k : Str} {b : α} (h : dget es k = some b) : (k, b) ∈ es := by
  unfold dget at h
  cases q : es.find? (fun p => decide (p.1 = k)) with
  | none => rw [q] at h; cases h
  | some p =>
    rw [q] at h
    have h1 := List.mem_of_find?_eq_some q
    have h2 := List.find?_some q
    have h3 : p.1 = k := by simpa using h2
    cases h
    rw [← h3]; exact h1
theorem take_le {α : Type} (l : List α) (k : Nat) : (l.take k).length ≤ l.length := by rw [List.length_take]; exact Nat.min_le_right _ _
theorem lcalled_ok : Ver spLCalled B_law_called N_law_called 3 := by
  intro ps H Q X h
  have hL : LIM = 1048576 := rfl
  obtain ⟨p, a, es, ks, n, b, rfl, hp, hpo, ha, hlen, hd, hres⟩ := h
  refine ⟨rfl, ?_⟩
  obtain ⟨_, _, hb3, hb4⟩ : BOk b := hpo.blks _ (dget_mem hd)
  have hg : dget (kvsP es) n = some (blk b) := by rw [dget_blk, hd]; rfl
  refine O_subD hp hg ?_
  refine O_listT fun c H₁ hc h₁ e₁ => ?_
  refine U_lack ⟨a, c, ks, b.1, rfl, e₁.at ha, h₁, hlen, by first | lia | omega, ?_⟩
  refine O_ite (fun _ => ?_) (fun _ => ?_)
  · exact hres _ a ks H₁ (.inr rfl) (e₁.at ha) (Nat.le_add_right _ _) e₁
  · refine O_lenL (e₁.at ha) ?_
    refine O_lenL h₁ ?_
    refine O_toL (e₁.at ha) fun d H₂ hd₂ h₂ e₂ => ?_
    rw [← List.map_take] at h₂
    generalize cutAt _ _ = k at h₂
    have e12 := e₁.trans e₂
    refine O_subD (e12.at hp) hg ?_
    refine O_listT fun f H₃ hf h₃ e₃ => ?_
    have ht := take_le ks k
    refine O_addL (e₃.at h₂) h₃ (by rw [List.length_map, List.length_map]; first | lia | omega) fun z H₄ hz h₄ e₄ => ?_
    exact hres _ z _ H₄ (.inl (e12.back (e₃.back hz))) (by rw [h₄, List.map_append]) (by rw [List.length_append]; first | lia | omega) ((e12.trans e₃).trans e₄)
theorem W.head (w : W) : itemAt w.row 0 = some (.str (wd w)) := by cases w <;> rfl
theorem W.plain (w : W) : (wd w == ("call" : Str)) = false ∧ (wd w == ("if" : Str)) = false := by cases w <;> exact ⟨by kernel_rfl, by kernel_rfl⟩
theorem lack_le {ks ws : List Str} (h : lackS ks ws = "") : ws.length ≤ ks.length := by
  unfold lackS at h
  split at h
  · exact absurd h (by decide +kernel)
  · first | lia | omega
set_option maxHeartbeats 1000000 in
theorem lnext_ok : Ver spNext B_law_next N_law_next 3 := by
  intro ps H Q X h
  have hL : LIM = 1048576 := rfl
  obtain ⟨p, a, es, ks, r, rfl, hp, hpo, hr, ha, hlen, hres⟩ := h
  refine ⟨rfl, ?_⟩
  have same : ∀ s H', Ext H H' → Q (.tup [.str s, .obj a]) H' := fun s H' e => hres s a ks H' (.inr rfl) (e.at ha) (Nat.le_add_right _ _) e
  cases r with
  | call n =>
    refine O_niD hp ?_
    rw [hasKey_blk]
    cases hd : dget es n with
    | none => exact same _ H (Ext.refl H)
    | some b => exact U_lcalled ⟨p, a, es, ks, n, b, rfl, hp, hpo, ha, hlen, hd, hres⟩
  | iff n m =>
    refine fun c H₁ hc h₁ e₁ => ?_
    refine U_lack ⟨a, c, ks, ["num"], rfl, e₁.at ha, h₁, hlen, by decide, ?_⟩
    refine O_ite (fun _ => ?_) (fun _ => ?_)
    · exact same _ H₁ e₁
    have hp₁ := e₁.at hp
    refine O_niD hp₁ ?_
    rw [hasKey_blk]
    cases hd : dget es n with
    | none => exact same _ H₁ e₁
    | some x =>
    refine O_niD hp₁ ?_
    rw [hasKey_blk]
    cases hd' : dget es m with
    | none => exact same _ H₁ e₁
    | some y =>
    have gn : dget (kvsP es) n = some (blk x) := by rw [dget_blk, hd]; rfl
    have gm : dget (kvsP es) m = some (blk y) := by rw [dget_blk, hd']; rfl
    refine O_subD hp₁ gn ?_
    refine O_subD hp₁ gm ?_
    refine O_neT (eq_strs x.1 y.1) ?_
    refine O_ite (fun _ => ?_) (fun _ => ?_)
    · exact same _ H₁ e₁
    refine O_subD hp₁ gn ?_
    refine O_subD hp₁ gm ?_
    refine O_neT (eq_strs x.2.1 y.2.1) ?_
    refine O_ite (fun _ => ?_) (fun _ => ?_)
    · exact same _ H₁ e₁
    refine O_toL (e₁.at ha) fun d H₂ hd₂ h₂ e₂ => ?_
    rw [← List.map_take] at h₂
    have e12 := e₁.trans e₂
    have ht := take_le ks (cutAt (List.map PV.str ks).length (-1))
    refine U_lcalled ⟨p, d, es, _, n, x, rfl, e12.at hp, hpo, h₂, by first | lia | omega, hd, fun s c ys H' hc h hl e => ?_⟩
    refine hres s c ys H' (.inl ?_) h (by first | lia | omega) (e12.trans e)
    rcases hc with hc | rfl
    · exact e12.back hc
    · exact e₁.back hd₂
  | pl w =>
    refine O_subT w.head ?_
    refine I_neg (by rw [w.plain.1]; decide) ?_
    refine O_subT w.head ?_
    refine I_neg (by rw [w.plain.2]; decide) ?_
    refine U_wanted ⟨w, rfl, hr, fun d H₁ hd h₁ e₁ => ?_⟩
    refine U_lack ⟨a, d, ks, wantedS w, rfl, e₁.at ha, h₁, hlen, by have := wanted_len hr; first | lia | omega, ?_⟩
    refine O_ite (fun _ => ?_) (fun hl => ?_)
    · exact same _ H₁ e₁
    refine U_plainly ⟨a, ks, w, rfl, hr, e₁.at ha, hlen, lack_le (by simpa using hl), fun c ys H' hc h hl e => ?_⟩
    exact hres _ c ys H' (.inl (e₁.back hc)) h hl (e₁.trans e)
end Mine
end
section
open PySem PySem.W PySem.Calls PyProof.Rows
namespace Mine
set_option autoImplicit false

theorem compR {el : PV → (List PV → AHeap → Prop) → AHeap → Prop} {Q : List PV → AHeap → Prop} {n : Nat} (I : Nat → List PV → AHeap → Prop) (h0 : ∀ acc H, I n acc H → Q acc H)
    (h1 : ∀ j acc H, j < n → I j acc H → ∀ K : List PV → AHeap → Prop, (∀ vs H', I (j + 1) (acc ++ vs) H' → K vs H') → el (.int j) K H) (H : AHeap) (hi : I 0 [] H) :
    compW (fun _ => True) el Q ((List.range n).map fun (i : Nat) => PV.int i) [] H := by
  refine compW_ind (fun rest acc H => Ex1 fun j => An3 (j ≤ n) (rest = ((List.range n).drop j).map (fun (i : Nat) => PV.int i)) (I j acc H)) ?_ ?_ _ _ _ ⟨0, by first | decide | lia | omega, rfl, hi⟩
  · rintro acc H ⟨j, hj, hr, h⟩
    have hl := congrArg List.length hr
    simp at hl
    have : j = n := by first | decide | lia | omega
    subst this
    exact ⟨trivial, h0 _ _ h⟩
  · rintro x xs acc H ⟨j, hj, hr, h⟩
    refine ⟨trivial, fun K hK => ?_⟩
    have hjl : j < n := by
      apply Classical.byContradiction
      intro q
      rw [List.drop_eq_nil_of_le (by simp; first | lia | omega)] at hr
      cases hr
    have hd : (List.range n).drop j = j :: (List.range n).drop (j + 1) := by
      rw [List.drop_eq_getElem_cons (by simpa using hjl)]; simp
    rw [hd] at hr
    cases hr
    exact h1 j acc H hjl h K fun m' H' h' => hK _ _ ⟨j + 1, by first | decide | lia | omega, rfl, h'⟩
theorem kind_ne {r : Int} (r0 : 0 ≤ r) (r1 : r < 2) : ∃ s : Str, itemAt [PV.str "num", PV.str "text"] r = some (.str s) ∧ KOk s := by
  have : r = 0 ∨ r = 1 := by first | decide | lia | omega
  rcases this with rfl | rfl
  · exact ⟨"num", rfl, .inl rfl⟩
  · exact ⟨"text", rfl, .inr rfl⟩
theorem nb {n c : Nat} (h : n ≤ c) (hc : c < 2 ^ 57) (k : Nat) (hk : 2 ^ 57 ≤ 2 ^ k) : n < 2 ^ k := Nat.lt_of_lt_of_le (Nat.lt_of_le_of_lt h hc) hk
theorem kok_app {ks : List Str} {s : Str} (h : ∀ x ∈ ks, KOk x) (hs : KOk s) : ∀ x ∈ ks ++ [s], KOk x := fun y hy => by
  rcases List.mem_append.mp hy with hy | hy
  · exact h y hy
  · rw [List.mem_singleton.mp hy]; exact hs
theorem kindst_ok : Ver spKindsT B_law_kinds N_law_kinds 2 := by
  intro ps H Q X h
  have hL : LIM = 1048576 := rfl
  obtain ⟨xs, t, n, rfl, hx, ht, hn, hQ⟩ := h
  have hB : (2 : Nat) ^ 57 + 100 ≤ 2 ^ 59 := by decide
  refine ⟨rfl, ?_⟩
  refine U_draw ⟨xs, t, _, n, rfl, hx, ht, by first | lia | omega, by decide, fun r H₁ r0 r1 h₁ e₁ => ?_⟩
  refine O_range (by first | lia | omega) ?_
  refine compR (fun j acc H' => Ex1 fun (ks : List Str) => An5 (acc = ks.map .str) (ks.length = j) (∀ s ∈ ks, KOk s) (H' t = some (.tape (n + 1 + j))) (ExtB t H H')) ?_ ?_ _ ⟨[], rfl, rfl, fun _ h => (nomatch h), h₁, e₁⟩
  · rintro acc H₃ ⟨ks, rfl, hl, hne, h₃, e₃⟩
    refine fun c H₄ hc h₄ e₄ => ?_
    refine O_tupL h₄ ?_
    exact hQ _ _ _ (by first | lia | omega) hne (by first | lia | omega) (e₄.at h₃) (e₃.trans (e₄.toB t))
  · rintro j acc H₃ hj ⟨ks, rfl, hl, hne, h₃, e₃⟩ K hK
    refine fun c H₄ hc h₄ e₄ => ?_
    refine U_draw ⟨xs, t, _, n + 1 + j, rfl, hx, e₄.at h₃, by first | lia | omega, by decide, fun r' H₅ r0' r1' h₅ e₅ => ?_⟩
    obtain ⟨s, hs, hs'⟩ := kind_ne r0' r1'
    refine O_subL (e₅.at (Ne.symm (ne_of h₃ hc)) h₄) hs ?_
    exact hK _ _ ⟨ks ++ [s], by rw [List.map_append]; rfl, by rw [List.length_append, hl]; rfl, kok_app hne hs', h₅, (e₃.trans (e₄.toB t)).trans e₅⟩
theorem any_map {α β : Type} (f : α → β) (k : Str) : ∀ es : List (Str × α), (es.map fun p => (p.1, f p.2)).any (fun p => decide (p.1 = k)) = es.any fun p => decide (p.1 = k)
  | [] => rfl
  | p :: es => by simp only [List.map_cons, List.any_cons, any_map f k es]
theorem dset_map {α β : Type} (f : α → β) (k : Str) (v : α) (es : List (Str × α)) : dset (es.map fun p => (p.1, f p.2)) k (f v) = (dset es k v).map fun p => (p.1, f p.2) := by
  unfold dset
  rw [any_map]
  split
  · rw [List.map_map, List.map_map]
    refine List.map_congr_left fun p _ => ?_
    simp only [Function.comp]
    split <;> rfl
  · simp
theorem dset_blk (es : Pr) (k : Str) (b : Bl) : dset (kvsP es) k (blk b) = kvsP (dset es k b) := dset_map blk k b es
theorem dset_mem {α : Type} {es : List (Str × α)} {k : Str} {v : α} {p : Str × α} (h : p ∈ dset es k v) : p ∈ es ∨ p = (k, v) := by
  unfold dset at h
  split at h
  · obtain ⟨q, hq, rfl⟩ := List.mem_map.mp h
    split
    · rename_i e; right; rw [← e]
    · exact .inl hq
  · rcases List.mem_append.mp h with h | h
    · exact .inl h
    · exact .inr (List.mem_singleton.mp h)
theorem dset_nodup {α : Type} {es : List (Str × α)} {k : Str} {v : α} (h : (es.map (·.1)).Nodup) : ((dset es k v).map (·.1)).Nodup := by
  unfold dset
  split
  · rw [List.map_map]
    rw [show ((fun x : Str × α => x.1) ∘ fun p => if p.1 = k then (p.1, v) else p) = fun p => p.1 by funext p; simp only [Function.comp]; split <;> rfl]
    exact h
  · rename_i hn
    rw [List.map_append]
    refine List.nodup_append.mpr ⟨h, by simp, ?_⟩
    intro a ha b hb
    simp at hb
    subst hb
    rintro rfl
    obtain ⟨p, hp, rfl⟩ := List.mem_map.mp ha
    exact hn (List.any_eq_true.mpr ⟨p, hp, by simp⟩)
theorem dset_len {α : Type} {es : List (Str × α)} {k : Str} {v : α} : (dset es k v).length ≤ es.length + 1 := by
  unfold dset; split <;> simp
theorem dset_ne {α : Type} {es : List (Str × α)} {k : Str} {v : α} : dset es k v ≠ [] := by
  unfold dset
  split
  · rename_i h
    intro q
    have : es = [] := by simpa using q
    subst this
    simp at h
  · simp
theorem POk.dset {es : Pr} (h : POk es) {k : Str} {b : Bl} (hk : 0 < k.length ∧ k.length ≤ 200) (hb : BOk b) (hl : es.length < 100) : POk (dset es k b) := by
  refine ⟨dset_nodup h.nodup, fun p hp => ?_, fun p hp => ?_, Nat.le_trans dset_len hl⟩
  · rcases dset_mem hp with hp | rfl
    · exact h.name p hp
    · exact hk
  · rcases dset_mem hp with hp | rfl
    · exact h.blks p hp
    · exact hb
theorem fresh_of {H H' : AHeap} {t c : Addr} {n : Nat} (e : ExtB t H H') (ht : H' t = some (.tape n)) (hc : H' c = none) : H c = none := by
  cases q : H c with
  | none => rfl
  | some o => rw [e.at (by rintro rfl; rw [ht] at hc; cases hc) q] at hc; cases hc
theorem pick3 {r : Int} (r0 : 0 ≤ r) (r1 : r < 3) : ∃ i : Int, itemAt [PV.int 0, PV.int 2, PV.int 50] r = some (.int i) ∧ 0 ≤ i ∧ i ≤ 50 := by
  have : r = 0 ∨ r = 1 ∨ r = 2 := by first | lia | omega
  rcases this with rfl | rfl | rfl
  · exact ⟨0, rfl, by decide, by decide⟩
  · exact ⟨2, rfl, by decide, by decide⟩
  · exact ⟨50, rfl, by decide, by decide⟩
set_option maxRecDepth 10000 in
theorem ltold_ok : Ver spTold B_law_told N_law_told 2 := by
  intro ps H Q X h
  have hL : LIM = 1048576 := rfl
  obtain ⟨xs, t, n, rfl, hx, ht, hn, hQ⟩ := h
  have hB : (2 : Nat) ^ 50 + 10000 ≤ 2 ^ 57 := by decide
  have hB' : (2 : Nat) ^ 57 ≤ 2 ^ 59 := by decide
  have hlit : Str.length "abcde" = 5 := by decide +kernel
  refine ⟨rfl, ?_⟩
  refine fun p H₂ hp h₂ e₂ => ?_
  have htp : p ≠ t := Ne.symm (ne_of ht hp)
  refine U_draw ⟨xs, t, _, n, rfl, hx, e₂.at ht, by first | lia | omega, by decide, fun r H₄ r0 r1 t₄ e₄ => ?_⟩
  refine fun y H₅ hy h₅ e₅ => ?_
  refine U_draw ⟨xs, t, _, n + 1, rfl, hx, e₅.at t₄, by first | lia | omega, by decide, fun r' H₆ r0' r1' t₆ e₆ => ?_⟩
  obtain ⟨i, hi, i0, i1⟩ := pick3 r0' r1'
  refine O_subL (e₆.at (Ne.symm (ne_of t₄ hy)) h₅) hi ?_
  refine U_words ⟨_, i, rfl, i0, by first | lia | omega, fun beg H₇ hbl e₇ => ?_⟩
  have hbeg : beg.length ≤ 50 := by first | lia | omega
  refine U_draw ⟨xs, t, _, n + 2, rfl, hx, e₇.at t₆, by first | lia | omega, by decide, fun c H₈ c0 c1 t₈ e₈ => ?_⟩
  have p₈ := e₈.at htp (e₇.at (e₆.at htp (e₅.at (e₄.at htp h₂))))
  have x₈ : ExtB t H H₈ := (((((e₂.toB t).trans e₄).trans (e₅.toB t)).trans e₆).trans (e₇.toB t)).trans e₈
  clear e₈ e₇ t₆ e₆ h₅ hy t₄ e₅ e₄ e₂ h₂ hi hbl r0 r1 r0' r1'
  refine O_range (by first | lia | omega) ?_
  refine forR (fun j m H' => Ex4 fun (es : Pr) (b : Bl) (n' : Nat) (x : Option PV) => An11 (m = [some (.fls xs), some (.obj t), some (.obj p), some (.str beg), some (blk b), x]) (BOk b) (b.2.2 = []) (POk es) (∀ q ∈ es, q.2.2.2 = []) (es.length ≤ j) (0 < j → es ≠ []) (n' ≤ n + 10 + 400 * j) (H' t = some (.tape n')) (H' p = some (.dict (kvsP es))) (ExtB t H H')) ?_ ?_ _ _ ⟨[], (["num"], ["num"], []), n + 3, none, rfl, ?_, rfl, ⟨.nil, fun _ h => (nomatch h), fun _ h => (nomatch h), Nat.zero_le _⟩, fun _ h => (nomatch h), Nat.le_refl _, fun h => absurd h (Nat.lt_irrefl _), by first | lia | omega, t₈, p₈, x₈⟩
  · rintro m H' ⟨es, b, n', x, rfl, hb, hbn, hes, hen, hl, hne, hn', ht', hp', ex'⟩
    exact hQ p es n' _ hes (hne (by first | lia | omega)) hen hp hp' (by first | lia | omega) ht' ex'
  · rintro j m H' hj ⟨es, b, n', x, rfl, hb, hbn, hes, hen, hl, hne, hn', ht', hp', ex'⟩ K hK
    clear hne
    have hj5 : j ≤ 5 := by first | lia | omega
    obtain ⟨sj, hsj, hsl⟩ := sign_at (s := "abcde") (i := (j : Int)) (by first | lia | omega) (by rw [hlit]; first | lia | omega)
    refine W_cut (fun m H'' => Ex2 fun (b : Bl) (k : Nat) => An6 (BOk b) (b.2.2 = []) (m = [some (.fls xs), some (.obj t), some (.obj p), some (.str beg), some (blk b), some (.int j)]) (k ≤ n' + 210) (H'' t = some (.tape k)) (ExtB t H' H'')) ?_ ?_
    · intro K hK
      have two : ∀ {n₁ : Nat} {H₁ : AHeap}, n₁ ≤ n' + 1 → H₁ t = some (.tape n₁) → ExtB t H' H₁ → g01.C "_law_kinds" [.fls xs, .obj t] H₁ (fun v H => g01.C "_law_kinds" [.fls xs, .obj t] H (fun w H => K [some (.fls xs), some (.obj t), some (.obj p), some (.str beg), some (.tup [v, w]), some (.int j)] H) fun c H => X c H) fun c H => X c H := fun {n₁ H₁} hn₁ t₁ e₁ => by
        refine U_kindst ⟨xs, t, n₁, rfl, hx, t₁, by first | lia | omega, fun ks k₁ H₃ l₁ ne₁ hk₁ t₃ e₃ => ?_⟩
        refine U_kindst ⟨xs, t, k₁, rfl, hx, t₃, by first | lia | omega, fun ks' k₂ H₄ l₂ ne₂ hk₂ t₄ e₄ => ?_⟩
        exact hK _ _ ⟨(ks, ks', []), k₂, ⟨ne₁, ne₂, l₁, l₂⟩, rfl, rfl, by first | lia | omega, t₄, (e₁.trans e₃).trans e₄⟩
      refine O_ite (fun _ => ?_) (fun _ => ?_)
      · exact two (Nat.le_succ _) ht' (fun _ _ _ h => h)
      · refine U_draw ⟨xs, t, _, n', rfl, hx, ht', by first | lia | omega, by decide, fun r H₁ r0 r1 t₁ e₁ => ?_⟩
        refine O_ite (fun _ => ?_) (fun _ => ?_)
        · exact two (Nat.le_refl _) t₁ e₁
        · exact hK _ _ ⟨b, n' + 1, hb, hbn, rfl, by first | lia | omega, t₁, e₁⟩
    rintro m H₂ ⟨b, k, hb, hbn, rfl, hk, t₂, e₂⟩
    refine O_subS (by rw [hlit]; first | lia | omega) hsj ?_
    refine O_addS (by first | lia | omega) ?_
    refine O_addS (by rw [str_len_append]; first | lia | omega) ?_
    have hnl : (beg ++ sj ++ beg).length = 2 * beg.length + 1 := by rw [str_len_append, str_len_append, hsl]; first | lia | omega
    generalize beg ++ sj ++ beg = nm at hnl
    refine O_storeD (e₂.at htp hp') (by unfold kvsP; rw [List.length_map]; first | lia | omega) fun H₃ h₃ e₃ => ?_
    rw [dset_blk] at h₃
    refine hK _ _ ⟨_, b, k, _, rfl, hb, hbn, hes.dset (by first | lia | omega) hb (by first | lia | omega), fun q hq => ?_, Nat.le_trans dset_len (Nat.succ_le_succ hl), fun _ => dset_ne, by first | lia | omega, e₃.at (Ne.symm htp) t₂, h₃, fun z o hz ho => ?_⟩
    · rcases dset_mem hq with hq | rfl
      · exact hen q hq
      · exact hbn
    · exact e₃.at (fun q => by rw [q, hp] at ho; cases ho) (e₂.at hz (ex' z o hz ho))
  · exact ⟨fun s hs => .inl (List.mem_singleton.mp hs), fun s hs => .inl (List.mem_singleton.mp hs), by decide, by decide⟩
end Mine
end
section
open PySem PySem.W PySem.Calls PyProof.Rows
namespace Mine
set_option autoImplicit false

theorem rowsPV_append (a b : List Rw) : rowsPV (a ++ b) = rowsPV a ++ rowsPV b := by unfold rowsPV; rw [List.map_append]
theorem rowsPV_len (rs : List Rw) : (rowsPV rs).length = rs.length := by unfold rowsPV; rw [List.length_map]
theorem names_at {ns : List Str} {r : Int} (h0 : 0 ≤ r) (h1 : r < ns.length) : ∃ s, s ∈ ns ∧ itemAt (ns.map PV.str) r = some (.str s) := by
  obtain ⟨k, rfl⟩ := Int.eq_ofNat_of_zero_le h0
  have hk : k < ns.length := by first | decide | lia | omega
  exact ⟨ns[k], List.getElem_mem hk, itemAt_nat rfl (by simp [hk])⟩
theorem push_row {s : Str} {v : PV} (hs : KOk s) (hv : Okv v) (hk : kindS v = (if s == "text" then "text" else "num")) : ∃ w : W, w.ok ∧ w.row = [.str s, v] := by
  rcases hs with rfl | rfl
  · obtain ⟨i, rfl, i0, i1⟩ := okv_num hv (by rw [hk]; decide +kernel)
    exact ⟨.num i, ⟨i0, i1⟩, rfl⟩
  · obtain ⟨u, rfl, hu⟩ := okv_text hv (by rw [hk]; decide +kernel)
    exact ⟨.text u, hu, rfl⟩
theorem ok_app {a b : List Rw} (ha : ∀ r ∈ a, r.ok) (hb : ∀ r ∈ b, r.ok) : ∀ r ∈ a ++ b, r.ok := fun r hr => (List.mem_append.mp hr).elim (ha r) (hb r)
theorem ok_one {r : Rw} (h : r.ok) : ∀ q ∈ [r], q.ok := fun q hq => by rw [List.mem_singleton.mp hq]; exact h
theorem RsOk.app {N M : Nat} {a b : List Rw} (h : RsOk N a) (hb : ∀ r ∈ b, r.ok) (hl : N + b.length ≤ M) : RsOk M (a ++ b) := ⟨ok_app h.1 hb, by rw [List.length_append]; exact Nat.le_trans (Nat.add_le_add_right h.2 _) hl⟩
theorem comp_push {src : AHeap → Prop} {el : PV → (List PV → AHeap → Prop) → AHeap → Prop} {Q : List PV → AHeap → Prop} {H : AHeap} {t : Addr} {n : Nat} : ∀ {ss : List Str} {rs : List Rw} {H₁ : AHeap} {k : Nat}, (∀ H', ExtB t H H' → src H') →
    (∀ s ∈ ss, ∀ k H', k ≤ n + 200 → H' t = some (.tape k) → ∀ K : List PV → AHeap → Prop, (∀ (w : W) H'', w.ok → H'' t = some (.tape (k + 2)) → ExtB t H' H'' → K [.tup w.row] H'') → el (.str s) K H') →
    (∀ rs H' k, RsOk 100 rs → k ≤ n + 200 → H' t = some (.tape k) → ExtB t H H' → Q (rowsPV rs) H') → (∀ r ∈ rs, r.ok) → rs.length + ss.length ≤ 100 → k ≤ n + 2 * rs.length → H₁ t = some (.tape k) → ExtB t H H₁ → compW src el Q (ss.map .str) (rowsPV rs) H₁
  | [], rs, H₁, k, hs, hel, hQ, h1, h2, h3, h4, h5 => ⟨hs _ h5, hQ rs H₁ k ⟨h1, by rw [List.length_nil] at h2; first | lia | omega⟩ (by rw [List.length_nil] at h2; first | lia | omega) h4 h5⟩
  | s :: ss, rs, H₁, k, hs, hel, hQ, h1, h2, h3, h4, h5 => by
    rw [List.length_cons] at h2
    refine ⟨hs _ h5, hel s (List.mem_cons_self ..) k H₁ (by first | lia | omega) h4 _ fun w H₂ hw t₂ e₂ => ?_⟩
    have := comp_push (ss := ss) (rs := rs ++ [.pl w]) hs (fun s hs => hel s (List.mem_cons_of_mem _ hs)) hQ (ok_app h1 (ok_one (r := .pl w) hw)) (by rw [List.length_append, List.length_singleton]; first | lia | omega) (by rw [List.length_append, List.length_singleton]; first | lia | omega) t₂ (h5.trans e₂)
    rw [rowsPV_append] at this
    exact this
theorem pushes_ok : Ver spPushes B_law_pushes N_law_pushes 3 := by
  intro ps H Q X h
  have hL : LIM = 1048576 := rfl
  obtain ⟨xs, t, n, v, ss, rfl, hx, ht, hn, hsrc, hss, hsl, hQ⟩ := h
  have hB : (2 : Nat) ^ 56 + 1000 ≤ 2 ^ 58 := by decide
  refine ⟨rfl, ?_⟩
  have fin : ∀ (rs : List Rw) (H' : AHeap) (k : Nat), RsOk 100 rs → k ≤ n + 200 → H' t = some (.tape k) → ExtB t H H' → alloc (.list (rowsPV rs)) Q H' := fun rs H' k h1 h2 h4 h5 c H'' hc hc' e =>
    hQ c rs k H'' h1 h2 (fresh_of h5 h4 hc) hc' (e.at h4) (h5.trans (e.toB t))
  have one : ∀ s ∈ ss, ∀ (k : Nat) H', k ≤ n + 200 → H' t = some (.tape k) → ∀ K : List PV → AHeap → Prop, (∀ (w : W) H'', w.ok → H'' t = some (.tape (k + 2)) → ExtB t H' H'' → K [.tup w.row] H'') → g01.C "_law_value" [.fls xs, .obj t, .str s] H' (fun v H => K [.tup [.str s, v]] H) fun c H => False := fun s hs k H' hk t' K hK => by
    refine U_value ⟨xs, t, s, k, rfl, hx, t', by first | lia | omega, fun v H'' hv hkv t'' e' => ?_⟩
    obtain ⟨w, hw, hrow⟩ := push_row (hss s hs) hv hkv
    rw [← hrow]
    exact hK w H'' hw t'' e'
  rcases hsrc with rfl | ⟨a, rfl, ha⟩
  · exact comp_push (n := n) (rs := []) (fun _ _ => trivial) one fin (fun _ h => (nomatch h)) (by rw [List.length_nil]; first | lia | omega) (Nat.le_add_right _ _) ht (fun _ _ _ h => h)
  · exact O_itL ha (comp_push (n := n) (rs := []) (fun _ e => e.at (fun e => by rw [e, ht] at ha; cases ha) ha) one fin (fun _ h => (nomatch h)) (by rw [List.length_nil]; first | lia | omega) (Nat.le_add_right _ _) ht (fun _ _ _ h => h))
end Mine
end
section
open PySem PySem.W PySem.Calls PyProof.Rows
namespace Mine
set_option autoImplicit false

theorem lenNE {ns : List Str} (h : ns ≠ []) : 0 < ns.length := List.length_pos_iff.mpr h
theorem eq_told {H : AHeap} {b c : Bl} (hb : b.2.2 = []) (hc : c.2.2 = []) : ∃ r, EqT H (blk b) (blk c) r := by
  unfold blk
  rw [hb, hc]
  exact ⟨_, .val (.tup (n := 39) (EqL.c (EqV.tup (n := 38) (EqL.strs b.1 c.1)) (EqL.c (EqV.tup (n := 38) (EqL.strs b.2.1 c.2.1)) EqL.nil)))⟩
/-- some of the names of a list -/
theorem comp_some {src : AHeap → Prop} {el : PV → (List PV → AHeap → Prop) → AHeap → Prop} {Q : List PV → AHeap → Prop} {H : AHeap} (hs : src H) : ∀ {ns ls : List Str}, (∀ s ∈ ns, ∀ K : List PV → AHeap → Prop, K [] H → K [.str s] H → el (.str s) K H) → (∀ us : List Str, (∀ u ∈ us, u ∈ ls ++ ns) → us.length ≤ ls.length + ns.length → Q (us.map .str) H) → compW src el Q (ns.map .str) (ls.map .str) H
  | [], ls, _, hQ => ⟨hs, hQ ls (fun u h => List.mem_append.mpr (.inl h)) (Nat.le_add_right _ _)⟩
  | s :: ns, ls, hel, hQ => by
    have sub : ∀ s' ∈ ns, ∀ K : List PV → AHeap → Prop, K [] H → K [.str s'] H → el (.str s') K H := fun s' h' => hel s' (List.mem_cons_of_mem _ h')
    refine ⟨hs, hel s (List.mem_cons_self ..) _ ?_ ?_⟩
    · rw [List.append_nil]
      exact comp_some hs sub fun us hu hl => hQ us (fun u h => by rcases List.mem_append.mp (hu u h) with q | q; exact List.mem_append.mpr (.inl q); exact List.mem_append.mpr (.inr (List.mem_cons_of_mem _ q))) (by rw [List.length_cons]; first | lia | omega)
    · have := comp_some (ls := ls ++ [s]) (Q := Q) hs sub fun us hu hl => hQ us (fun u h => by rw [List.append_assoc] at hu; exact hu u h) (by rw [List.length_append, List.length_singleton] at hl; rw [List.length_cons]; first | lia | omega)
      rw [List.map_append] at this
      exact this
theorem mx_one (l : Nat) : 0 < (if (1 : Int) < (l : Int) + 1 - 1 then (l : Int) + 1 - 1 else 1) ∧ (if (1 : Int) < (l : Int) + 1 - 1 then (l : Int) + 1 - 1 else 1) ≤ ((l + 1 : Nat) : Int) := by
  split <;> exact ⟨by first | lia | omega, by first | lia | omega⟩
theorem pick4 {z i : Int} (z0 : 0 ≤ z) (z1 : z < 4) (i0 : 0 ≤ i) (i1 : i < 1000000000) : ∃ j : Int, itemAt [PV.int 0, PV.int 1, PV.int 2, PV.int i] z = some (.int j) ∧ 0 ≤ j ∧ j < 1000000000 := by
  have : z = 0 ∨ z = 1 ∨ z = 2 ∨ z = 3 := by first | lia | omega
  rcases this with rfl | rfl | rfl | rfl
  · exact ⟨0, rfl, by decide, by decide⟩
  · exact ⟨1, rfl, by decide, by decide⟩
  · exact ⟨2, rfl, by decide, by decide⟩
  · exact ⟨i, rfl, i0, i1⟩
set_option maxRecDepth 10000 in
theorem choice_ok : Ver spChoice B_law_choice N_law_choice 5 := by
  intro ps H Q X h
  have hL : LIM = 1048576 := rfl
  obtain ⟨xs, t, p, a, k, n, es, ns, ks, rfl, hx, ht, hn, hp, hpo, hen, ⟨ha, hin, hnl⟩, hlo, hk, hkl, hQ⟩ := h
  have hB : (2 : Nat) ^ 54 + 1000 ≤ 2 ^ 56 := by decide
  have hB1 : (2 : Nat) ^ 54 + 1000 ≤ 2 ^ 59 := by decide
  have hB2 : (2 : Nat) ^ 54 + 1000 ≤ 2 ^ 58 := by decide
  have hne := lenNE hlo
  have hpt : p ≠ t := fun e => by rw [e, ht] at hp; cases hp
  have hat : a ≠ t := fun e => by rw [e, ht] at ha; cases ha
  have hkt : k ≠ t := fun e => by rw [e, ht] at hk; cases hk
  refine ⟨rfl, ?_⟩
  refine O_lenL ha ?_
  rw [List.length_map]
  refine U_draw ⟨xs, t, _, n, rfl, hx, ht, by first | lia | omega, by first | lia | omega, fun r H₁ r0 r1 t₁ e₁ => ?_⟩
  obtain ⟨nm, hnm, gnm⟩ := names_at (ns := ns) r0 r1
  refine O_subL (e₁.at hat ha) gnm ?_
  obtain ⟨b, hb⟩ := Option.isSome_iff_exists.mp (hin nm hnm)
  have hbo : BOk b := hpo.blks _ (dget_mem hb)
  have hbn : b.2.2 = [] := hen _ (dget_mem hb)
  have hbl := hbo.2.2.1
  have gb : dget (kvsP es) nm = some (blk b) := by rw [dget_blk, hb]; rfl
  refine U_draw ⟨xs, t, _, n + 1, rfl, hx, t₁, by first | lia | omega, by decide, fun r' H₂ _ _ t₂ e₂ => ?_⟩
  have x₂ := e₁.trans e₂
  have a₂ := x₂.at hat ha
  have p₂ := x₂.at hpt hp
  clear e₁ e₂ t₁ r0 r1 gnm
  have push : ∀ (n' : Nat) (H' : AHeap) (more : List Rw), n' ≤ n + 20 → H' t = some (.tape n') → ExtB t H H' → (∀ r ∈ more, r.ok) → more.length ≤ 2 → g01.C "_law_pushes" [.fls xs, .obj t, .tup (b.1.map .str)] H' (fun v H => alloc (.list (rowsPV more)) (fun w H => binW .Add v w Q H) H) fun c H => X c H := fun n' H' more hn' t' x' hm hml => by
    refine U_pushes ⟨xs, t, n', _, b.1, rfl, hx, t', by first | lia | omega, .inl rfl, hbo.1, by first | lia | omega, fun c rs n'' H₄ h1 h4 h5 h6 h7 h8 => ?_⟩
    refine fun d H₅ hd h₅ e₅ => ?_
    have x₅ := (x'.trans h8).trans (e₅.toB t)
    have hrl := h1.2
    refine O_addL (e₅.at h6) h₅ (by rw [rowsPV_len, rowsPV_len]; first | lia | omega) fun z H₆ hz h₆ e₆ => ?_
    exact hQ z (rs ++ more) n'' H₆ (h1.app hm (by first | lia | omega)) (by first | lia | omega) (fresh_of x₅ (e₅.at h7) hz) (by rw [h₆, rowsPV_append]) (e₆.at (e₅.at h7)) (x₅.trans (e₆.toB t))
  refine O_ite (fun _ => ?_) (fun _ => ?_)
  · refine W_cut (fun m H' => Ex1 fun n' => An5 (m = [some (.fls xs), some (.obj t), some (.obj p), some (.obj a), some (.obj k), some (.str nm), none, none, none, none]) (n' ≤ n + 3) (H' t = some (.tape n')) (H' p = some (.dict (kvsP es))) (ExtB t H H')) ?_ ?_
    · intro K hK
      refine O_subD p₂ gb ?_
      refine O_listT fun c H₃ hc h₃ e₃ => ?_
      have x₃ : ExtB t H H₃ := x₂.trans (e₃.toB t)
      refine U_lack ⟨k, c, ks, b.1, rfl, x₃.at hkt hk, h₃, by first | lia | omega, by first | lia | omega, ?_⟩
      refine O_ite (fun hlk => ?_) (fun _ => ?_)
      · refine U_draw ⟨xs, t, _, n + 2, rfl, hx, e₃.at t₂, by first | lia | omega, by decide, fun r' H₄ _ _ t₄ e₄ => ?_⟩
        have x₄ := x₃.trans e₄
        refine O_ite (fun _ => ?_) (fun _ => ?_)
        · refine fun c H₅ hc h₅ e₅ => ?_
          exact hQ c [.call nm] (n + 3) H₅ ⟨ok_one (r := .call nm) trivial, Nat.le_of_ble_eq_true rfl⟩ (by first | lia | omega) (fresh_of x₄ t₄ hc) h₅ (e₅.at t₄) (x₄.trans (e₅.toB t))
        · exact hK _ _ ⟨n + 3, rfl, by first | lia | omega, t₄, x₄.at hpt hp, x₄⟩
      · exact hK _ _ ⟨n + 2, rfl, by first | lia | omega, e₃.at t₂, e₃.at p₂, x₃⟩
    · rintro m H₃ ⟨n', rfl, hn', t₃, p₃, x₃⟩
      refine O_subD p₃ gb ?_
      exact push n' H₃ [.call nm] (by first | lia | omega) t₃ x₃ (ok_one (r := .call nm) trivial) (Nat.le_of_ble_eq_true rfl)
  · refine O_itL a₂ ?_
    refine comp_some (ls := []) a₂ (fun o ho K no yes => ?_) fun ls hls hll => ?_
    · obtain ⟨c, hc⟩ := Option.isSome_iff_exists.mp (hin o ho)
      have gc : dget (kvsP es) o = some (blk c) := by rw [dget_blk, hc]; rfl
      obtain ⟨q, hq⟩ := eq_told (H := H₂) (hen _ (dget_mem hc)) hbn
      refine O_subD p₂ gc ?_
      refine O_subD p₂ gb ?_
      refine O_eqT hq ?_
      refine O_ite (fun _ => ?_) (fun _ => ?_)
      · refine O_ite (fun _ => ?_) (fun _ => ?_)
        · exact yes
        · exact no
      · exact no
    rw [List.length_nil, Nat.zero_add] at hll
    refine fun c H₄ hc h₄ e₄ => ?_
    refine fun d H₅ hd h₅ e₅ => ?_
    refine O_addL (e₅.at h₄) h₅ (by rw [List.length_map, List.length_singleton]; first | lia | omega) fun z H₆ hz h₆ e₆ => ?_
    rw [show List.map PV.str ls ++ [PV.str nm] = (ls ++ [nm]).map PV.str by rw [List.map_append]; rfl] at h₆
    have e₂₆ := (e₄.trans e₅).trans e₆
    have t₆ := e₂₆.at t₂
    have x₆ := x₂.trans (e₂₆.toB t)
    have hzt : z ≠ t := fun e => by rw [e, t₆] at h₆; cases h₆
    clear e₂₆ e₄ e₅ e₆ h₄ h₅ hc hd hz x₂ p₂ a₂ t₂
    refine U_draw ⟨xs, t, _, n + 2, rfl, hx, t₆, by first | lia | omega, by decide, fun r' H₄ _ _ t₄ e₄ => ?_⟩
    have c₄ := e₄.at hzt h₆
    refine O_lenL c₄ ?_
    rw [show ((List.map PV.str (ls ++ [nm])).length : Int) = (ls.length : Int) + 1 by rw [List.length_map, List.length_append]; rfl]
    have hm0 := mx_one ls.length
    refine O_modI hm0.1 ?_
    have hm := mod_lt (a := r') hm0.1
    obtain ⟨ot, hot, got⟩ := names_at (ns := ls ++ [nm]) hm.1 (by rw [List.length_append, List.length_singleton]; exact Int.lt_of_lt_of_le hm.2 hm0.2)
    refine O_subL c₄ got ?_
    refine U_value ⟨xs, t, _, n + 2 + 1, rfl, hx, t₄, by first | lia | omega, fun v H₅ hv hkv t₅ e₅ => ?_⟩
    obtain ⟨i, rfl, i0, i1⟩ := okv_num hv (by rw [hkv]; decide +kernel)
    refine fun d H₆ hd h₆ e₆ => ?_
    refine U_draw ⟨xs, t, _, n + 2 + 1 + 2, rfl, hx, e₆.at t₅, by first | lia | omega, by decide, fun z H₇ z0 z1 t₇ e₇ => ?_⟩
    obtain ⟨j, hj, j0, j1⟩ := pick4 z0 z1 i0 i1
    refine O_subL (e₇.at (Ne.symm (ne_of t₅ hd)) h₆) hj ?_
    have x₇ : ExtB t H H₇ := (((x₆.trans e₄).trans e₅).trans (e₆.toB t)).trans e₇
    refine O_subD (x₇.at hpt hp) gb ?_
    refine push (n + 2 + 1 + 2 + 1) H₇ [.pl (.num j), .iff nm ot] (by first | lia | omega) t₇ x₇ (fun r hr => ?_) (Nat.le_refl 2)
    rcases List.mem_cons.mp hr with rfl | hr
    · exact ⟨j0, j1⟩
    · rw [List.mem_singleton.mp hr]; exact trivial
theorem fitting_ok : Ver spFitting B_law_fitting N_law_fitting 5 := by
  intro ps H Q X h
  have hL : LIM = 1048576 := rfl
  obtain ⟨xs, t, p, a, k, n, es, ns, ks, rfl, hx, ht, hn, hp, hpo, hen, ⟨ha, hin, hnl⟩, _, hk, hkl, hQ⟩ := h
  have hB : (2 : Nat) ^ 53 + 1000 ≤ 2 ^ 54 := by decide
  have hB1 : (2 : Nat) ^ 54 ≤ 2 ^ 59 := by decide
  have hB2 : (2 : Nat) ^ 54 ≤ 2 ^ 57 := by decide
  have hB3 : (2 : Nat) ^ 54 ≤ 2 ^ 56 := by decide
  have hpt : p ≠ t := fun e => by rw [e, ht] at hp; cases hp
  have hat : a ≠ t := fun e => by rw [e, ht] at ha; cases ha
  have hkt : k ≠ t := fun e => by rw [e, ht] at hk; cases hk
  refine ⟨rfl, ?_⟩
  refine W_cut (fun m H' => Ex1 fun n' => An4 (m = [some (.fls xs), some (.obj t), some (.obj p), some (.obj a), some (.obj k), none]) (n' ≤ n + 1) (H' t = some (.tape n')) (ExtB t H H')) ?_ ?_
  · intro K hK
    refine O_lenL ha ?_
    refine O_ite (fun hgt => ?_) (fun _ => ?_)
    · have hne : ns ≠ [] := by rintro rfl; exact absurd hgt (by decide)
      refine U_draw ⟨xs, t, _, n, rfl, hx, ht, by first | lia | omega, by decide, fun r H₁ r0 r1 t₁ e₁ => ?_⟩
      refine O_ite (fun _ => ?_) (fun _ => ?_)
      · refine U_choice ⟨xs, t, p, a, k, n + 1, es, ns, ks, rfl, hx, t₁, by first | lia | omega, e₁.at hpt hp, hpo, hen, ⟨e₁.at hat ha, hin, hnl⟩, hne, e₁.at hkt hk, hkl, fun c rs n' H' h1 h4 h5 h6 h7 h8 => ?_⟩
        exact hQ c rs n' H' h1 (by first | lia | omega) (fresh_of e₁ t₁ h5) h6 h7 (e₁.trans h8)
      · exact hK _ _ ⟨n + 1, rfl, by first | lia | omega, t₁, e₁⟩
    · exact hK _ _ ⟨n, rfl, by first | lia | omega, ht, fun _ _ _ h => h⟩
  rintro m H₁ ⟨n₁, rfl, hn₁, t₁, x₁⟩
  refine U_plain ⟨xs, t, n₁, rfl, hx, t₁, by first | lia | omega, fun w n₂ H₂ hw hn₂ t₂ e₂ => ?_⟩
  refine U_wanted ⟨w, rfl, hw, fun d H₃ hd h₃ e₃ => ?_⟩
  have x₃ : ExtB t H H₃ := (x₁.trans e₂).trans (e₃.toB t)
  have t₃ := e₃.at t₂
  refine U_lack ⟨k, d, ks, wantedS w, rfl, x₃.at hkt hk, h₃, by first | lia | omega, by have := wanted_len hw; first | lia | omega, ?_⟩
  refine O_ite (fun hlk => ?_) (fun _ => ?_)
  · refine fun c H₄ hc h₄ e₄ => ?_
    exact hQ c [.pl w] n₂ H₄ ⟨ok_one (r := .pl w) hw, Nat.le_of_ble_eq_true rfl⟩ (by first | lia | omega) (fresh_of x₃ t₃ hc) h₄ (e₄.at t₃) (x₃.trans (e₄.toB t))
  · refine fun c H₄ hc h₄ e₄ => ?_
    refine U_draw ⟨xs, t, _, n₂, rfl, hx, e₄.at t₃, by first | lia | omega, by decide, fun r H₅ r0 r1 t₅ e₅ => ?_⟩
    obtain ⟨s, gs, hs⟩ := kind_ne r0 r1
    refine O_subL (e₅.at (Ne.symm (ne_of t₃ hc)) h₄) gs ?_
    refine fun f H₆ hf h₆ e₆ => ?_
    have x₆ : ExtB t H H₆ := ((x₃.trans (e₄.toB t)).trans e₅).trans (e₆.toB t)
    refine U_pushes ⟨xs, t, n₂ + 1, _, [s], rfl, hx, e₆.at t₅, by first | lia | omega, .inr ⟨f, rfl, h₆⟩, fun q hq => by rw [List.mem_singleton.mp hq]; exact hs, Nat.le_of_ble_eq_true rfl, fun c rs n' H' h1 h4 h5 h6 h7 h8 => ?_⟩
    exact hQ c rs n' H' ⟨h1.1, Nat.le_trans h1.2 (by decide)⟩ (by first | lia | omega) (fresh_of x₆ (e₆.at t₅) h5) h6 h7 (x₆.trans h8)
end Mine
end
section
open PySem PySem.W PySem.Calls PyProof.Rows
namespace Mine
set_option autoImplicit false

theorem rows_drops (k : Nat) : repL (k : Int) [PV.tup [PV.str "drop"]] = rowsPV (List.replicate k (.pl .drop)) := by
  unfold repL
  rw [Int.toNat_natCast]
  induction k with
  | zero => rfl
  | succ k ih => rw [List.replicate_succ, List.flatten_cons, ih, List.replicate_succ]; rfl
theorem drop_min (l : List Str) (k : Nat) : (l.map PV.str).drop (min k l.length) = (l.map PV.str).drop k := by
  rcases Nat.le_total k l.length with h | h
  · rw [Nat.min_eq_left h]
  · rw [Nat.min_eq_right h, List.drop_eq_nil_of_le (by simp), List.drop_eq_nil_of_le (by simpa using h)]
theorem ok_drops (k : Nat) : ∀ r ∈ List.replicate k (Rw.pl .drop), r.ok := fun r hr => by rw [(List.mem_replicate.mp hr).2]; exact trivial

set_option maxRecDepth 10000 in
set_option maxHeartbeats 1000000 in
theorem goodrows_ok : Ver spGoodRows B_law_good_rows N_law_good_rows 5 := by
  intro ps H Q X h
  have hL : LIM = 1048576 := rfl
  obtain ⟨xs, t, p, a, n, es, ns, nm, rfl, hx, ht, hn, hp, hpo, hen, ⟨ha, hin, hnl⟩, hnm, hQ⟩ := h
  have hB : (2 : Nat) ^ 52 + 5000 ≤ 2 ^ 53 := by decide
  have hB0 : (2 : Nat) ^ 53 ≤ 2 ^ 56 := by decide
  have hB2 : (2 : Nat) ^ 53 ≤ 2 ^ 59 := by decide
  obtain ⟨⟨ins, outs, z⟩, hb⟩ := Option.isSome_iff_exists.mp hnm
  have hbo : BOk (ins, outs, z) := hpo.blks _ (dget_mem hb)
  have hbn : z = [] := hen _ (dget_mem hb)
  subst hbn
  have gb : dget (kvsP es) nm = some (blk (ins, outs, [])) := by rw [dget_blk, hb]; rfl
  obtain ⟨hi, ho, hil, hol⟩ := hbo
  replace hil : ins.length ≤ 60 := hil
  replace hol : outs.length ≤ 60 := hol
  have hpt : p ≠ t := fun e => by rw [e, ht] at hp; cases hp
  have hat : a ≠ t := fun e => by rw [e, ht] at ha; cases ha
  refine ⟨rfl, ?_⟩
  refine O_subD hp gb ?_
  refine ⟨rfl, ?_⟩
  refine O_listT fun k H₁ hk h₁ e₁ => ?_
  refine fun r H₂ hr h₂ e₂ => ?_
  have hrH : H r = none := e₁.back hr
  have hrt : r ≠ t := Ne.symm (ne_of ht hrH)
  refine U_draw ⟨xs, t, _, n, rfl, hx, e₂.at (e₁.at ht), by first | lia | omega, by decide, fun z H₃ z0 z1 t₃ e₃ => ?_⟩
  obtain ⟨z, rfl⟩ := Int.eq_ofNat_of_zero_le z0
  refine O_range (by first | lia | omega) ?_
  refine forR (n := z) (fun j m H' => Ex6 fun (k : Addr) (ks : List Str) (rs : List Rw) (n' : Nat) (x9 x10 : Option PV) => An9 (m = [some (.fls xs), some (.obj t), some (.obj p), some (.str nm), some (.obj a), some (.tup (ins.map .str)), some (.tup (outs.map .str)), some (.obj k), some (.obj r), x9, x10, none, none, none]) (k ≠ r) (RsOk (110 * j) rs) (ks.length ≤ 60 + 11000 * j) (n' ≤ n + 1 + 400 * j) (H' t = some (.tape n')) (H' k = some (.list (ks.map .str))) (H' r = some (.list (rowsPV rs))) (ExtB t H H')) ?_ ?_ _ _
    ⟨k, ins, [], n + 1, none, none, rfl, ne_of h₁ hr, ⟨fun _ h => (nomatch h), Nat.zero_le _⟩, by first | lia | omega, by first | lia | omega, t₃, e₃.at (Ne.symm (ne_of ht hk)) (e₂.at h₁), e₃.at hrt h₂, ((e₁.trans e₂).toB t).trans e₃⟩
  · clear t₃ e₃ h₂ e₂ h₁ e₁ hk hr
    rintro m H₄ ⟨k, ks, rs, n₄, x9, x10, rfl, hkr, ⟨hro, hrl⟩, hkl, hn₄, t₄, k₄, r₄, x₄⟩
    have hz5 : z ≤ 5 := by first | lia | omega
    replace hkl : ks.length ≤ 60000 := by first | lia | omega
    replace hrl : rs.length ≤ 550 := by first | lia | omega
    replace hn₄ : n₄ ≤ n + 2001 := by first | lia | omega
    have a₄ := x₄.at hat ha
    have p₄ := x₄.at hpt hp
    have hkt : k ≠ t := fun e => by rw [e, t₄] at k₄; cases k₄
    refine O_itL a₄ ?_
    refine comp_some (ls := []) a₄ (fun s hs K no yes => ?_) fun zs hzs hzl => ?_
    · obtain ⟨c, hc⟩ := Option.isSome_iff_exists.mp (hin s hs)
      have gc : dget (kvsP es) s = some (blk c) := by rw [dget_blk, hc]; rfl
      refine O_subD p₄ gc ?_
      refine O_eqT (eq_strs c.2.1 outs) ?_
      refine O_ite (fun _ => ?_) (fun _ => ?_)
      · exact yes
      · exact no
    rw [List.length_nil, Nat.zero_add] at hzl
    rw [List.nil_append] at hzs
    refine fun d H₅ hd h₅ e₅ => ?_
    refine W_cut (fun m H' => Ex1 fun n' => An4 (n' ≤ n₄ + 1) (m = [some (.fls xs), some (.obj t), some (.obj p), some (.str nm), some (.obj a), some (.tup (ins.map .str)), some (.tup (outs.map .str)), some (.obj k), some (.obj r), x9, x10, none, some (.obj d), none]) (H' t = some (.tape n')) (ExtB t H₅ H')) ?_ ?_
    · intro K hK
      refine O_lenL h₅ ?_
      rw [List.length_map]
      refine O_ite (fun hpos => ?_) (fun _ => ?_)
      · have hzp : 0 < (zs.length : Int) := by simpa using hpos
        refine U_draw ⟨xs, t, _, n₄, rfl, hx, e₅.at t₄, by first | lia | omega, by decide, fun y H₆ y0 y1 t₆ e₆ => ?_⟩
        refine O_ite (fun _ => ?_) (fun _ => ?_)
        · have hdt : d ≠ t := Ne.symm (ne_of t₄ hd)
          refine U_draw ⟨xs, t, _, n₄ + 1, rfl, hx, t₆, by first | lia | omega, by decide, fun y' H₇ y0' y1' t₇ e₇ => ?_⟩
          have d₇ := e₇.at hdt (e₆.at hdt h₅)
          refine O_lenL d₇ ?_
          rw [List.length_map]
          refine O_modI hzp ?_
          have hm := mod_lt (a := y') hzp
          obtain ⟨o, hom, go⟩ := names_at (ns := zs) hm.1 hm.2
          refine O_subL d₇ go ?_
          have x₇ : ExtB t H₄ H₇ := ((e₅.toB t).trans e₆).trans e₇
          clear d₇ go hm e₇ e₆ y0 y1 y0' y1'
          refine fun f H₈ hf h₈ e₈ => ?_
          refine O_lenL (e₈.at (x₇.at hkt k₄)) ?_
          rw [List.length_map]
          refine O_mulL h₈ (by first | lia | omega) (by first | lia | omega) (by rw [Int.toNat_natCast, List.length_singleton]; first | lia | omega) fun f' H₉ hf' h₉ e₉ => ?_
          rw [rows_drops] at h₉
          refine O_addL (e₉.at (e₈.at (x₇.at hrt r₄))) h₉ (by rw [rowsPV_len, rowsPV_len, List.length_replicate]; first | lia | omega) fun v H₁₀ hv h₁₀ e₁₀ => ?_
          rw [← rowsPV_append] at h₁₀
          have e7a := (e₈.trans e₉).trans e₁₀
          have x₁₀ : ExtB t H₄ H₁₀ := x₇.trans (e7a.toB t)
          have hvt : v ≠ t := Ne.symm (ne_of ((e₈.trans e₉).at t₇) hv)
          obtain ⟨c, hc⟩ := Option.isSome_iff_exists.mp (hin o (hzs o hom))
          have hco : BOk c := hpo.blks _ (dget_mem hc)
          have hcl := hco.2.2.1
          refine O_subD (x₁₀.at hpt p₄) (x := blk c) (by rw [dget_blk, hc]; rfl) ?_
          refine U_pushes ⟨xs, t, n₄ + 2, _, c.1, rfl, hx, e7a.at t₇, by first | lia | omega, .inl rfl, hco.1, by first | lia | omega, fun c us' n' H₁₁ c1 c4 c5 c6 c7 c8 => ?_⟩
          have hul := c1.2
          refine O_addL (c8.at hvt h₁₀) c6 (by rw [rowsPV_len, rowsPV_len, List.length_append, List.length_replicate]; first | lia | omega) fun g H₁₂ hgg h₁₂ e₁₂ => ?_
          rw [← rowsPV_append] at h₁₂
          refine fun g' H₁₃ hgg' h₁₃ e₁₃ => ?_
          refine O_addL (e₁₃.at h₁₂) h₁₃ (by rw [rowsPV_len, List.length_append, List.length_append, List.length_replicate, List.length_singleton]; first | lia | omega) fun w H₁₄ hw h₁₄ e₁₄ => ?_
          have x₁₃ : ExtB t H H₁₃ := (x₄.trans (x₁₀.trans c8)).trans ((e₁₂.trans e₁₃).toB t)
          have t₁₃ := (e₁₂.trans e₁₃).at c7
          refine hQ w (rs ++ List.replicate ks.length (.pl .drop) ++ us' ++ [.call o]) n' H₁₄ ⟨ok_app (ok_app (ok_app hro (ok_drops _)) c1.1) (ok_one (r := .call o) trivial), ?_⟩ (by first | lia | omega) (fresh_of x₁₃ t₁₃ hw) ?_ (e₁₄.at t₁₃) (x₁₃.trans (e₁₄.toB t))
          · rw [List.length_append, List.length_append, List.length_append, List.length_replicate, List.length_singleton]; first | lia | omega
          · rw [h₁₄, rowsPV_append (b := [.call o])]; rfl
        · exact hK _ _ ⟨n₄ + 1, by first | lia | omega, rfl, t₆, e₆⟩
      · exact hK _ _ ⟨n₄, by first | lia | omega, rfl, e₅.at t₄, fun _ _ _ h => h⟩
    · rintro m H₆ ⟨n₆, hn₆, rfl, t₆, e₆⟩
      refine ⟨fun z m H' => Ex3 fun (k : Addr) (ks : List Str) (rs : List Rw) => An10 (z = ks.length) (m = [some (.fls xs), some (.obj t), some (.obj p), some (.str nm), some (.obj a), some (.tup (ins.map .str)), some (.tup (outs.map .str)), some (.obj k), some (.obj r), x9, x10, none, some (.obj d), none]) (k ≠ r) (k ≠ t) (∀ q ∈ rs, q.ok) (rs.length + ks.length ≤ 61000) (H' t = some (.tape n₆)) (H' k = some (.list (ks.map .str))) (H' r = some (.list (rowsPV rs))) (ExtB t H H'), ⟨_, k, ks, rs, rfl, rfl, hkr, hkt, hro, by first | lia | omega, t₆, e₆.at hkt (e₅.at k₄), e₆.at hrt (e₅.at r₄), (x₄.trans (e₅.toB t)).trans e₆⟩, ?_⟩
      clear hkt hkr hro hrl hkl k₄ r₄ t₄ x₄ a₄ p₄ ks rs k
      rintro z m H' ⟨k, ks, rs, rfl, rfl, hkr, hkt, hro, hrl, t', k', r', x'⟩
      refine O_tupL k' ?_
      refine O_lenL k' ?_
      refine O_toT (ys := (outs.take ks.length).map .str) (by rw [List.map_take, List.length_map, List.length_map]; unfold cutAt; rw [if_pos (by first | lia | omega), Int.toNat_natCast]; rw [List.take_eq_take_iff, List.length_map, Nat.min_assoc, Nat.min_self]) ?_
      refine O_neT (eq_strs _ _) ?_
      refine O_ite (fun hne => ?_) (fun heq => ?_)
      · have hpos : 0 < ks.length := by
          rcases Nat.eq_zero_or_pos ks.length with h | h
          · rw [List.length_eq_zero_iff.mp h] at hne; exact absurd hne (by simp)
          · exact h
        refine O_toL k' fun c H₇ hc h₇ e₇ => ?_
        rw [List.length_map, show cutAt ks.length (-1) = ks.length - 1 by unfold cutAt; rw [if_neg (by decide)]; first | lia | omega, ← List.map_take] at h₇
        have r₇ := e₇.at r'
        refine O_recv r₇ rfl ?_
        refine O_append r₇ (by rw [rowsPV_len]; first | lia | omega) fun H₈ h₈ e₈ => ?_
        have hcr : c ≠ r := Ne.symm (ne_of r' hc)
        have hkl : (ks.take (ks.length - 1)).length = ks.length - 1 := by rw [List.length_take]; first | lia | omega
        exact ⟨_, by rw [hkl]; first | lia | omega, c, _, rs ++ [.pl .drop], rfl, rfl, hcr, Ne.symm (ne_of t' hc), ok_app hro (ok_one (r := .pl .drop) trivial), by rw [hkl, List.length_append, List.length_singleton]; first | lia | omega, e₈.at (Ne.symm hrt) (e₇.at t'), e₈.at hcr h₇, by rw [h₈, rowsPV_append]; rfl, ExtB.over hrH (x'.trans (e₇.toB t)) e₈⟩
      · refine O_lenL k' ?_
        refine O_fromT (ys := (outs.drop ks.length).map .str) (by rw [List.map_drop, List.length_map, List.length_map]; unfold cutAt; rw [if_pos (by first | lia | omega), Int.toNat_natCast]; exact drop_min _ _) ?_
        refine U_pushes ⟨xs, t, n₆, _, outs.drop ks.length, rfl, hx, t', by first | lia | omega, .inl rfl, fun s hs => ho s (List.mem_of_mem_drop hs), by rw [List.length_drop]; first | lia | omega, fun c us' n' H₇ c1 c4 c5 c6 c7 c8 => ?_⟩
        have hul := c1.2
        refine O_addL (c8.at hrt r') c6 (by rw [rowsPV_len, rowsPV_len]; first | lia | omega) fun w H₈ hw h₈ e₈ => ?_
        have x₇ := x'.trans c8
        exact hQ w (rs ++ us') n' H₈ ⟨ok_app hro c1.1, by rw [List.length_append]; first | lia | omega⟩ (by first | lia | omega) (fresh_of x₇ c7 hw) (by rw [h₈, rowsPV_append]) (e₈.at c7) (x₇.trans (e₈.toB t))
  · clear t₃ e₃ h₂ e₂ h₁ e₁ hk hr
    rintro j m H' hj ⟨k, ks, rs, n', x9, x10, rfl, hkr, ⟨hro, hrl⟩, hkl, hn', t', k', r', x'⟩ K hK
    have hj5 : j < 5 := by first | lia | omega
    refine U_fitting ⟨xs, t, p, a, k, n', es, ns, ks, rfl, hx, t', by first | lia | omega, x'.at hpt hp, hpo, hen, ⟨x'.at hat ha, hin, hnl⟩, trivial, k', by first | lia | omega, fun f fs n'' H'' ⟨f1, f2⟩ f4 f5 f6 f7 f8 => ?_⟩
    have hkt : k ≠ t := fun e => by rw [e, t'] at k'; cases k'
    have hfr : f ≠ r := Ne.symm (ne_of r' f5)
    refine O_itL f6 ?_
    refine forW_ind (fun rest m Hx => Ex5 fun (k : Addr) (ks : List Str) (dn us : List Rw) (x10 : Option PV) => An10 (fs = dn ++ us) (rest = rowsPV us) (m = [some (.fls xs), some (.obj t), some (.obj p), some (.str nm), some (.obj a), some (.tup (ins.map .str)), some (.tup (outs.map .str)), some (.obj k), some (.obj r), some (.int j), x10, none, none, none]) (k ≠ r) (ks.length ≤ 60 + 11000 * j + 100 * dn.length) (Hx t = some (.tape n'')) (Hx k = some (.list (ks.map .str))) (Hx r = some (.list (rowsPV (rs ++ dn)))) (Hx f = some (.list (rowsPV fs))) (ExtB t H Hx)) ?_ ?_ _ _ _
      ⟨k, ks, [], fs, x10, rfl, rfl, rfl, hkr, by rw [List.length_nil]; exact hkl, f7, f8.at hkt k', by rw [List.append_nil]; exact f8.at hrt r', f6, x'.trans f8⟩
    · rintro m Hx ⟨k, ks, dn, us, x10, hs, hr', rfl, hkr, hkl, t₁, k₁, r₁, f₁, x₁⟩
      have : us = [] := by cases us with | nil => rfl | cons _ _ => cases hr'
      subst this
      rw [List.append_nil] at hs
      subst hs
      exact ⟨f₁, hK _ _ ⟨k, ks, rs ++ fs, n'', _, x10, rfl, hkr, ⟨ok_app hro f1, by rw [List.length_append]; first | lia | omega⟩, by first | lia | omega, by first | lia | omega, t₁, k₁, r₁, x₁⟩⟩
    · rintro y ys m Hx ⟨k, ks, dn, us, x10, hs, hr', rfl, hkr, hkl, t₁, k₁, r₁, f₁, x₁⟩
      cases us with
      | nil => cases hr'
      | cons q us =>
      cases hr'
      refine ⟨f₁, fun K hK => ?_⟩
      have hdl : dn.length + (us.length + 1) = fs.length := by rw [hs, List.length_append]; rfl
      refine U_next ⟨p, k, es, ks, q, rfl, x₁.at hpt hp, hpo, f1 q (by rw [hs]; exact List.mem_append.mpr (.inr (List.mem_cons_self ..))), k₁, by first | lia | omega, fun s c ys H₂ hc h₂ hl e₂ => ?_⟩
      have r₂ := e₂.at r₁
      refine O_recv r₂ rfl ?_
      refine O_append r₂ (by rw [rowsPV_len, List.length_append]; first | lia | omega) fun H₃ h₃ e₃ => ?_
      have hcr : c ≠ r := by
        rcases hc with hc | rfl
        · exact Ne.symm (ne_of r₁ hc)
        · exact hkr
      refine hK _ _ ⟨c, ys, dn ++ [q], us, _, by rw [hs, List.append_assoc]; rfl, rfl, rfl, hcr, by rw [List.length_append, List.length_singleton]; first | lia | omega, e₃.at (Ne.symm hrt) (e₂.at t₁), e₃.at hcr h₂, ?_, e₃.at hfr (e₂.at f₁), ExtB.over hrH (x₁.trans (e₂.toB t)) e₃⟩
      rw [h₃, ← List.append_assoc, rowsPV_append (b := [q])]; rfl
end Mine
end
section
open PySem PySem.W PySem.Calls PyProof.Rows
namespace Mine
set_option autoImplicit false

theorem O_fromS {H : AHeap} {Q : Post} {s : Str} {k : Int} (l : s.length ≤ LIM) (h : Q (.str ⟨(s.cps.toList.drop (cutAt s.length k)).toArray⟩) H) : FromW Q H (.str s) (.int k) := .str l h
theorem O_listD {H : AHeap} {Q : Post} {a : Addr} {kvs : List (Str × PV)} (ha : H a = some (.dict kvs)) (h : ∀ c H', H c = none → H' c = some (.list (kvs.map fun x => .str x.1)) → Ext H H' → Q (.obj c) H') : BltW Q H .list [.obj a] := .listD a kvs ha h
theorem dget_of_mem {α : Type} {es : List (Str × α)} (hn : (es.map (·.1)).Nodup) {p : Str × α} (h : p ∈ es) : dget es p.1 = some p.2 := by
  induction es with
  | nil => cases h
  | cons q es ih =>
    rw [List.map_cons, List.nodup_cons] at hn
    unfold dget
    rcases List.mem_cons.mp h with rfl | h
    · simp
    · have : q.1 ≠ p.1 := fun e => hn.1 (by rw [e]; exact List.mem_map_of_mem h)
      rw [List.find?_cons]
      simp only [this, decide_false]
      exact ih hn.2 h
theorem RowsP.step {H H' : AHeap} {t : Addr} {n : Nat} {es : Pr} {N : Nat} {rw : Str → List Rw} (h : RowsP N H es rw) (ht : H t = some (.tape n)) (e : ExtB t H H') : RowsP N H' es rw := fun q hq => by
  obtain ⟨ok, a, h1, h2⟩ := h q hq
  exact ⟨ok, a, h1, e.at (by rintro rfl; rw [ht] at h2; cases h2) h2⟩
theorem RowsP.stepD {H H' : AHeap} {p : Addr} {kvs : List (Str × PV)} {es : Pr} {N : Nat} {rw : Str → List Rw} (h : RowsP N H es rw) (hp : H p = some (.dict kvs)) (e : ExtB p H H') : RowsP N H' es rw := fun q hq => by
  obtain ⟨ok, a, h1, h2⟩ := h q hq
  exact ⟨ok, a, h1, e.at (by rintro rfl; rw [hp] at h2; cases h2) h2⟩
theorem RowsP.ext {H H' : AHeap} {es : Pr} {N : Nat} {rw : Str → List Rw} (h : RowsP N H es rw) (e : Ext H H') : RowsP N H' es rw := fun q hq => by
  obtain ⟨ok, a, h1, h2⟩ := h q hq
  exact ⟨ok, a, h1, e.at h2⟩
theorem RowsP.put {H : AHeap} {fs : Pr} {N : Nat} {rw : Str → List Rw} {nm : Str} {i o : List Str} {ra : Addr} {rs : List Rw}  (h : RowsP N H fs rw) (hr : RsOk N rs) (ha : H ra = some (.list (rowsPV rs))) (hn : (fs.map (·.1)).Nodup) :
    RowsP N H (dset fs nm (i, o, [.obj ra])) (fun s => if s = nm then rs else rw s) := fun q hq => by
  have hd := dget_of_mem (dset_nodup (k := nm) (v := (i, o, [PV.obj ra])) hn) hq
  rw [dget_dset] at hd
  by_cases e : q.1 = nm
  · rw [if_pos e] at hd
    have : q.2 = (i, o, [.obj ra]) := (Option.some.inj hd).symm
    simp only [e, if_true]
    exact ⟨hr, ra, by rw [this], ha⟩
  · rw [if_neg e] at hd
    simp only [e, if_false]
    obtain ⟨ok, a, h1, h2⟩ := h (q.1, q.2) (dget_mem hd)
    exact ⟨ok, a, h1, h2⟩

theorem kvs_names (es : Pr) : (kvsP es).map (fun x => PV.str x.1) = (es.map (·.1)).map .str := by unfold kvsP; rw [List.map_map, List.map_map]; rfl
theorem get_str {ns : List Str} {j : Nat} (hj : j < ns.length) : itemAt (ns.map PV.str) (j : Int) = some (.str ns[j]) := itemAt_nat rfl (by simp [hj])
theorem Pg.ext {N : Nat} {H H' : AHeap} {p : Addr} {es : Pr} {rw' : Str → List Rw} (h : Pg N H p es rw') (e : Ext H H') : Pg N H' p es rw' := ⟨e.at h.ha, h.ok, h.ne, h.rows.ext e⟩
theorem kvsP_len (es : Pr) : (kvsP es).length = es.length := by unfold kvsP; rw [List.length_map]
set_option maxRecDepth 10000 in
set_option maxHeartbeats 1000000 in
theorem goodprogram_ok : Ver spGoodProgram B_law_good_program N_law_good_program 2 := by
  intro ps H Q X h
  have hL : LIM = 1048576 := rfl
  obtain ⟨xs, t, n, rfl, hx, ht, hn, hQ⟩ := h
  have hB : (2 : Nat) ^ 49 + 1000000 ≤ 2 ^ 50 := by decide
  have hB1 : (2 : Nat) ^ 50 ≤ 2 ^ 52 := by decide
  have hB2 : (2 : Nat) ^ 50 ≤ 2 ^ 59 := by decide
  refine ⟨rfl, ?_⟩
  refine U_told ⟨xs, t, n, rfl, hx, ht, by first | lia | omega, fun p es n₁ H₁ hpo hne hen hpH p₁ hn₁ t₁ e₁ => ?_⟩
  have hle := hpo.len
  have hlp : 0 < es.length := List.length_pos_iff.mpr hne
  refine O_listD p₁ fun c H₂ hc h₂ e₂ => ?_
  rw [kvs_names] at h₂
  have hct : c ≠ t := Ne.symm (ne_of t₁ hc)
  have hpt : p ≠ t := fun e => by rw [e, t₁] at p₁; cases p₁
  refine U_draw ⟨xs, t, _, n₁, rfl, hx, e₂.at t₁, by first | lia | omega, by decide, fun dn H₃ _ _ t₃ e₃ => ?_⟩
  have c₃ := e₃.at hct h₂
  have p₃ := e₃.at hpt (e₂.at p₁)
  clear e₃ h₂ e₂ p₁ t₁ e₁ hpH
  refine fun q H₄ hq h₄ e₄ => ?_
  have hqt : q ≠ t := Ne.symm (ne_of t₃ hq)
  generalize hns : es.map (·.1) = ns at c₃
  have hnl : ns.length = es.length := by rw [← hns, List.length_map]
  have hin : ∀ s ∈ ns, (dget es s).isSome = true := fun s hs => by
    rw [← hns] at hs
    obtain ⟨x, hx, rfl⟩ := List.mem_map.mp hs
    rw [dget_of_mem hpo.nodup hx]; rfl
  refine O_lenL (e₄.at c₃) ?_
  rw [List.length_map]
  refine O_range (by first | lia | omega) ?_
  refine forR (n := ns.length) (fun j m H' => Ex4 fun (fs : Pr) (rw : Str → List Rw) (n' : Nat) (x : Option PV × Option PV × Option PV) => An9 (m = [some (.fls xs), some (.obj t), some (.obj p), some (.obj c), some (.int dn), some (.obj q), x.1, x.2.1, x.2.2]) (POk fs) (0 < j → fs ≠ []) (fs.length ≤ j) (RowsP 200000 H' fs rw) (n' ≤ n + 10001 + 5000 * j) (H' t = some (.tape n')) (H' q = some (.dict (kvsP fs))) (ExtB t H₃ H')) ?_ ?_ _ _ ⟨[], fun _ => [], n₁ + 1, (none, none, none), rfl, ⟨.nil, fun _ h => (nomatch h), fun _ h => (nomatch h), Nat.zero_le _⟩, fun h => absurd h (Nat.lt_irrefl _), Nat.le_refl _, fun _ h => (nomatch h), by first | lia | omega, e₄.at t₃, h₄, e₄.toB t⟩
  · rintro m H' ⟨fs, rw', n', x, rfl, hfo, hfn, hfl, hra, hn', t', q', x'⟩
    exact hQ q fs rw' n' H' ⟨q', hfo, hfn (by first | lia | omega), hra⟩ (by first | lia | omega) t'
  · rintro j m H' hj ⟨fs, rw', n', ⟨x6, x7, x8⟩, rfl, hfo, hfn, hfl, hra, hn', t', q', x'⟩ K hK
    have c' := x'.at hct c₃
    have p' := x'.at hpt p₃
    clear hfn
    refine W_cut (fun m H'' => m = [some (.fls xs), some (.obj t), some (.obj p), some (.obj c), some (.int dn), some (.obj q), some (.int j), some (.obj c), x8] ∧ H'' = H') (fun K hK => hK _ _ ⟨rfl, rfl⟩) ?_
    rintro m H' ⟨rfl, rfl⟩
    refine W_cut (fun m H'' => Ex2 fun (sa : Addr) (ss : List Str) => An3 (m = [some (.fls xs), some (.obj t), some (.obj p), some (.obj c), some (.int dn), some (.obj q), some (.int j), some (.obj sa), x8]) (NamesAt H'' sa es ss) (Ext H' H'')) ?_ ?_
    · intro K hK
      refine O_ite (fun _ => ?_) (fun _ => ?_)
      · refine O_fromL c' fun d H₆ hd h₆ e₆ => ?_
        rw [← List.map_drop] at h₆
        exact hK _ _ ⟨d, _, rfl, ⟨h₆, fun s hs => hin s (List.mem_of_mem_drop hs), by rw [List.length_drop]; first | lia | omega⟩, e₆⟩
      · exact hK _ _ ⟨c, ns, rfl, ⟨c', hin, by first | lia | omega⟩, Ext.refl _⟩
    rintro m H₅ ⟨sa, ss, rfl, na, e₅⟩
    have c₅ := e₅.at c'
    have gj := get_str hj
    have hnmS := hin ns[j] (List.getElem_mem hj)
    generalize ns[j] = nm at gj hnmS
    refine O_subL c₅ gj ?_
    obtain ⟨⟨i, o, zz⟩, hb⟩ := Option.isSome_iff_exists.mp hnmS
    have hbo : BOk (i, o, zz) := hpo.blks _ (dget_mem hb)
    have hnm := hpo.name _ (dget_mem hb)
    have gb : dget (kvsP es) nm = some (blk (i, o, zz)) := by rw [dget_blk, hb]; rfl
    refine U_goodrows ⟨xs, t, p, sa, n', es, ss, nm, rfl, hx, e₅.at t', by first | lia | omega, e₅.at p', hpo, hen, na, hnmS, fun ra rs n₆ H₆ hrs hn₆ hra₆ ra₆ t₆ e₆ => ?_⟩
    have c₆ := e₆.at hct c₅
    have p₆ := e₆.at hpt (e₅.at p')
    have q₆ := e₆.at hqt (e₅.at q')
    refine O_subL c₆ gj ?_
    refine O_subD p₆ gb ?_
    refine O_subL c₆ gj ?_
    refine O_subD p₆ gb ?_
    refine O_subL c₆ gj ?_
    refine O_storeD q₆ (by rw [kvsP_len]; first | lia | omega) fun H₇ h₇ e₇ => ?_
    have hraq : ra ≠ q := Ne.symm (ne_of (e₅.at q') hra₆)
    refine hK _ _ ⟨dset fs nm (i, o, [.obj ra]), fun s => if s = nm then rs else rw' s, n₆, (_, _, _), rfl, hfo.dset hnm hbo (by first | lia | omega), fun _ => dset_ne, Nat.le_trans dset_len (Nat.succ_le_succ hfl), ?_, by first | lia | omega, e₇.at (Ne.symm hqt) t₆, ?_, ?_⟩
    · exact ((((hra.ext e₅).step (e₅.at t') e₆).stepD q₆ e₇).put hrs (e₇.at hraq ra₆) hfo.nodup)
    · rw [h₇]; exact congrArg some (congrArg AObj.dict (dset_blk fs nm (i, o, [.obj ra])))
    · exact ExtB.over hq ((x'.trans (e₅.toB t)).trans e₆) e₇
end Mine
end
section
open PySem PySem.W PySem.Calls PyProof.Rows
namespace Mine
set_option autoImplicit false

theorem cut_le {s : Str} {l : List Nat} (h : l.length ≤ s.length) : (⟨l.toArray⟩ : Str).length ≤ s.length := by
  show l.toArray.size ≤ s.length
  simpa using h
theorem cps_len (s : Str) : s.cps.toList.length = s.length := by simp [Str.length]
theorem toS_le (s : Str) (k : Int) : (⟨(s.cps.toList.take (cutAt s.length k)).toArray⟩ : Str).length ≤ s.length := cut_le (by rw [List.length_take, cps_len]; first | lia | omega)
theorem fromS_le (s : Str) (k : Int) : (⟨(s.cps.toList.drop (cutAt s.length k)).toArray⟩ : Str).length ≤ s.length := cut_le (by rw [List.length_drop, cps_len]; first | lia | omega)
theorem rawrow_ok : Ver spRawRow B_law_raw_row N_law_raw_row 3 := by
  intro ps H Q X h
  have hL : LIM = 1048576 := rfl
  obtain ⟨xs, t, a, n, ns, rfl, hx, ht, hn, ha, hne, hnl, hns, hQ⟩ := h
  have hB1 : (2 : Nat) ^ 55 + 1000 ≤ 2 ^ 57 := by decide
  have hB2 : (2 : Nat) ^ 57 ≤ 2 ^ 59 := by decide
  have hat : a ≠ t := fun e => by rw [e, ht] at ha; cases ha
  have hlp := lenNE hne
  refine ⟨rfl, ?_⟩
  refine U_draw ⟨xs, t, _, n, rfl, hx, ht, by first | decide | lia | omega, by first | decide | lia | omega, fun way H₁ _ _ t₁ e₁ => ?_⟩
  refine O_ite (fun _ => ?_) (fun _ => ?_)
  · refine U_plain ⟨xs, t, n + 1, rfl, hx, t₁, by first | decide | lia | omega, fun w n' H₂ hw hn' t₂ e₂ => ?_⟩
    exact hQ (.pl w) n' H₂ hw (by first | decide | lia | omega) t₂ (e₁.trans e₂)
  · have a₁ := e₁.at hat ha
    refine O_lenL a₁ ?_
    refine U_draw ⟨xs, t, _, n + 1, rfl, hx, t₁, by first | decide | lia | omega, by simp; first | lia | omega, fun r H₂ r0 r1 t₂ e₂ => ?_⟩
    have a₂ := e₂.at hat a₁
    obtain ⟨one, hone, gone⟩ := names_at (ns := ns) r0 (by simpa using r1)
    refine O_subL a₂ gone ?_
    have hol := hns one hone
    refine O_lenS (by first | decide | lia | omega) ?_
    refine U_draw ⟨xs, t, _, n + 2, rfl, hx, t₂, by first | decide | lia | omega, by first | decide | lia | omega, fun s H₃ s0 s1 t₃ e₃ => ?_⟩
    have a₃ := e₃.at hat a₂
    refine O_toS (by first | decide | lia | omega) ?_
    have hl1 := toS_le one s
    have hl2 := fromS_le one (s + 1)
    have hq1 : Str.length "?" = 1 := by decide +kernel
    refine O_addS (by rw [hq1]; first | lia | omega) ?_
    refine O_fromS (by first | decide | lia | omega) ?_
    refine O_addS (by rw [str_len_append, hq1]; first | lia | omega) ?_
    refine fun d H₄ hd h₄ e₄ => ?_
    refine O_addL (e₄.at a₃) h₄ (by simp; first | lia | omega) fun f H₅ hf h₅ e₅ => ?_
    have x₅ : ExtB t H H₅ := (((e₁.trans e₂).trans e₃).trans (e₄.toB t)).trans (e₅.toB t)
    have t₅ := e₅.at (e₄.at t₃)
    have f₅ : ∃ ms : List Str, H₅ f = some (.list (ms.map .str)) ∧ 0 < ms.length := ⟨_, h₅.trans (by rw [show [PV.str _] = List.map PV.str [_] from rfl, ← List.map_append]), by simp⟩
    clear h₅
    obtain ⟨ms, h₅, hml⟩ := f₅
    have hft : f ≠ t := fun e => by rw [e, t₅] at h₅; cases h₅
    refine O_lenL h₅ ?_
    refine U_draw ⟨xs, t, _, n + 3, rfl, hx, t₅, by first | decide | lia | omega, by simp; first | lia | omega, fun r' H₆ r0' r1' t₆ e₆ => ?_⟩
    have f₆ := e₆.at hft h₅
    obtain ⟨two, _, gtwo⟩ := names_at (ns := ms) r0' (by simpa using r1')
    refine O_subL f₆ gtwo ?_
    refine O_ite (fun _ => ?_) (fun _ => ?_)
    · exact hQ (.call two) _ H₆ trivial (by first | decide | lia | omega) t₆ (x₅.trans e₆)
    · refine O_lenL f₆ ?_
      refine U_draw ⟨xs, t, _, n + 4, rfl, hx, t₆, by first | decide | lia | omega, by simp; first | lia | omega, fun r'' H₇ r0'' r1'' t₇ e₇ => ?_⟩
      have f₇ := e₇.at hft f₆
      obtain ⟨thr, _, gthr⟩ := names_at (ns := ms) r0'' (by simpa using r1'')
      refine O_subL f₇ gthr ?_
      exact hQ (.iff two thr) _ H₇ trivial (by first | decide | lia | omega) t₇ ((x₅.trans e₆).trans e₇)
end Mine
end
section
open PySem PySem.W PySem.Calls PyProof.Rows
namespace Mine
set_option autoImplicit false

theorem rows_take (rs : List Rw) (k : Nat) : (rowsPV rs).take k = rowsPV (rs.take k) := by unfold rowsPV; rw [List.map_take]
theorem rows_drop (rs : List Rw) (k : Nat) : (rowsPV rs).drop k = rowsPV (rs.drop k) := by unfold rowsPV; rw [List.map_drop]
theorem dset_len_in {α : Type} {es : List (Str × α)} {k : Str} {v : α} (h : k ∈ es.map (·.1)) : (dset es k v).length = es.length := by
  obtain ⟨q, hq, e⟩ := List.mem_map.mp h
  unfold dset
  rw [if_pos (List.any_eq_true.mpr ⟨q, hq, by simpa using e⟩)]; simp
theorem POk.dsetI {es : Pr} (h : POk es) {k : Str} {b : Bl} (hk : k ∈ es.map (·.1)) (hb : BOk b) : POk (Mine.dset es k b) := by
  refine ⟨dset_nodup h.nodup, fun p hp => ?_, fun p hp => ?_, by rw [dset_len_in hk]; exact h.len⟩
  · rcases dset_mem hp with hp | rfl
    · exact h.name p hp
    · obtain ⟨q, hq, e⟩ := List.mem_map.mp hk
      have := h.name q hq
      rw [e] at this; exact this
  · rcases dset_mem hp with hp | rfl
    · exact h.blks p hp
    · exact hb

theorem RowsP.weak {N M : Nat} {H : AHeap} {es : Pr} {rw' : Str → List Rw} (h : RowsP N H es rw') (hm : N ≤ M) : RowsP M H es rw' := fun q hq => ⟨⟨(h q hq).1.1, Nat.le_trans (h q hq).1.2 hm⟩, (h q hq).2⟩
theorem drop_le {α : Type} (l : List α) (k : Nat) : (l.drop k).length ≤ l.length := by rw [List.length_drop]; exact Nat.sub_le _ _
set_option maxRecDepth 10000 in
set_option maxHeartbeats 1000000 in
theorem spoilt_ok : Ver spSpoilt B_law_spoilt N_law_spoilt 3 := by
  intro ps H Q X h
  have hL : LIM = 1048576 := rfl
  obtain ⟨xs, t, p, n, es, rw', rfl, hx, ht, hn, ⟨hp, hpo, hne, hra⟩, hQ⟩ := h
  have hB : (2 : Nat) ^ 52 + 1000 ≤ 2 ^ 55 := by decide
  have hB1 : (2 : Nat) ^ 55 ≤ 2 ^ 57 := by decide
  have hB2 : (2 : Nat) ^ 57 ≤ 2 ^ 59 := by decide
  have hpt : p ≠ t := fun e => by rw [e, ht] at hp; cases hp
  have hle := hpo.len
  have hlp : 0 < es.length := List.length_pos_iff.mpr hne
  refine ⟨rfl, ?_⟩
  refine O_listD hp fun c H₁ hc h₁ e₁ => ?_
  rw [kvs_names] at h₁
  have hct : c ≠ t := Ne.symm (ne_of ht hc)
  refine O_lenL h₁ ?_
  rw [List.length_map, List.length_map]
  refine U_draw ⟨xs, t, _, n, rfl, hx, e₁.at ht, by first | lia | omega, by first | lia | omega, fun r H₂ r0 r1 t₂ e₂ => ?_⟩
  have c₂ := e₂.at hct h₁
  obtain ⟨nm, hnm, gnm⟩ := names_at (ns := es.map (·.1)) r0 (by rw [List.length_map]; exact r1)
  refine O_subL c₂ gnm ?_
  obtain ⟨⟨nm', i, o, zz⟩, hqm, hqe⟩ := List.mem_map.mp hnm
  replace hqe : nm' = nm := hqe
  subst hqe
  have hbo : BOk (i, o, zz) := hpo.blks _ hqm
  obtain ⟨⟨hro, hrl⟩, ra, hz, ra₀⟩ := hra _ hqm
  replace hz : zz = [.obj ra] := hz
  subst hz
  have gb : dget (kvsP es) nm' = some (blk (i, o, [.obj ra])) := by rw [dget_blk, dget_of_mem hpo.nodup hqm]; rfl
  refine O_subD (e₂.at hpt (e₁.at hp)) gb ?_
  refine ⟨rfl, ?_⟩
  replace hro : ∀ r ∈ rw' nm', r.ok := hro
  replace hrl : (rw' nm').length ≤ 200000 := hrl
  replace ra₀ : H ra = some (.list (rowsPV (rw' nm'))) := ra₀
  generalize rw' nm' = rs at hro hrl ra₀
  have hrat : ra ≠ t := fun e => by rw [e, ht] at ra₀; cases ra₀
  refine O_lenL (e₂.at hrat (e₁.at ra₀)) ?_
  refine U_draw ⟨xs, t, _, n + 1, rfl, hx, t₂, by first | lia | omega, by rw [rowsPV_len]; first | lia | omega, fun pl H₃ pl0 pl1 t₃ e₃ => ?_⟩
  refine U_draw ⟨xs, t, _, n + 2, rfl, hx, t₃, by first | lia | omega, by decide, fun way H₄ w0 w1 t₄ e₄ => ?_⟩
  have x₄ : ExtB t H H₄ := (((e₁.toB t).trans e₂).trans e₃).trans e₄
  have c₄ := e₄.at hct (e₃.at hct c₂)
  have ra₄ := x₄.at hrat ra₀
  clear pl0 pl1 t₃ t₂ e₄ e₃ e₂ e₁ c₂ h₁ r0 r1 gnm
  have hnok : ∀ s ∈ es.map (·.1), 0 < s.length ∧ s.length ≤ 200 := fun s hs => by
    obtain ⟨q, hq, rfl⟩ := List.mem_map.mp hs; exact hpo.name q hq
  have htake : ∀ k, (∀ r ∈ rs.take k, r.ok) ∧ (rs.take k).length ≤ 200000 := fun k => ⟨fun r hr => hro r (List.mem_of_mem_take hr), Nat.le_trans (take_le _ _) hrl⟩
  have hdrop : ∀ k, (∀ r ∈ rs.drop k, r.ok) ∧ (rs.drop k).length ≤ 200000 := fun k => ⟨fun r hr => hro r (List.mem_of_mem_drop hr), Nat.le_trans (drop_le _ _) hrl⟩
  have hle9 : (kvsP es).length < LIM := by rw [kvsP_len]; first | lia | omega
  have fin : ∀ (i' o' : List Str) (a : Addr) (rs' : List Rw) (n' : Nat) (H₈ : AHeap), BOk (i', o', [.obj a]) → RsOk 450000 rs' → n' ≤ n + 1000 → H₈ a = some (.list (rowsPV rs')) → H₈ t = some (.tape n') → ExtB t H H₈ →
      StoreW (fun H => Q (.str nm') H) H₈ (.obj p) (.str nm') (blk (i', o', [.obj a])) := fun i' o' a rs' n' H₈ b1 b2 b3 b4 b5 b6 => by
    have p₈ := b6.at hpt hp
    refine O_storeD p₈ hle9 fun H₉ b7 b8 => ?_
    refine hQ (dset es nm' (i', o', [.obj a])) (fun s => if s = nm' then rs' else rw' s) nm' n' H₉ ⟨by rw [b7, dset_blk], hpo.dsetI hnm b1, dset_ne, ?_⟩ (List.mem_map.mpr ⟨_, dget_mem (dget_dset (es := es) (k := nm') nm' |>.trans (if_pos rfl)), rfl⟩) b3 (b8.at (Ne.symm hpt) b5)
    exact (((hra.weak (by decide)).step ht b6).stepD p₈ b8).put b2 (b8.at (by rintro rfl; rw [p₈] at b4; cases b4) b4) hpo.nodup
  have hway : way < 2 ∨ way = 2 ∨ way = 3 ∨ way = 4 ∨ way = 5 := by first | lia | omega
  have raw : ∀ (d : Addr) (k : Int) (H₅ : AHeap) (us : List Rw) (KQ : Post), RsOk 200000 us → H₅ d = some (.list (rowsPV us)) → H₄ d = none → Ext H₄ H₅ → (∀ (w : Addr) (n₆ : Nat) (rs' : List Rw) (H₁₀ : AHeap), RsOk 450000 rs' → n₆ ≤ n + 1000 → H₁₀ w = some (.list (rowsPV rs')) → H₁₀ t = some (.tape n₆) → ExtB t H H₁₀ → KQ (.obj w) H₁₀) →
      g01.C "_law_raw_row" [.fls xs, .obj t, .obj c] H₅ (fun v H => alloc (.list [v]) (fun v H => BinW (fun v H => FromW (fun w H => binW .Add v w KQ H) H (.obj ra) (.int k)) H .Add (.obj d) v) H) (fun c H => X c H) := fun d k H₅ us KQ hu h₅ hd e₅ hK => by
    have hdt : d ≠ t := Ne.symm (ne_of t₄ hd)
    refine U_rawrow ⟨xs, t, c, n + 3, es.map (·.1), rfl, hx, e₅.at t₄, by first | lia | omega, e₅.at c₄, fun q => hne (List.map_eq_nil_iff.mp q), by rw [List.length_map]; exact hle, hnok, fun q n₆ H₆ hq hn₆ t₆ e₆ => ?_⟩
    refine fun f H₇ hf h₇ e₇ => ?_
    have x₇ : ExtB t H H₇ := ((x₄.trans (e₅.toB t)).trans e₆).trans (e₇.toB t)
    have hul := hu.2
    refine O_addL (e₇.at (e₆.at hdt h₅)) h₇ (by rw [rowsPV_len, List.length_singleton]; first | lia | omega) fun g H₈ hg h₈ e₈ => ?_
    refine O_fromL (e₈.at (x₇.at hrat ra₀)) fun g' H₉ hg' h₉ e₉ => ?_
    rw [rows_drop] at h₉
    generalize cutAt _ _ = k' at h₉
    have hdl := hdrop k'
    refine O_addL (e₉.at h₈) h₉ (by rw [List.length_append, rowsPV_len, rowsPV_len, List.length_singleton]; first | lia | omega) fun w H₁₀ hw h₁₀ e₁₀ => ?_
    have e8 := (e₈.trans e₉).trans e₁₀
    refine hK w n₆ (us ++ [q] ++ rs.drop k') H₁₀ ⟨ok_app (ok_app hu.1 (ok_one hq)) hdl.1, by rw [List.length_append, List.length_append, List.length_singleton]; first | lia | omega⟩ (by first | lia | omega) (by rw [h₁₀, rowsPV_append, rowsPV_append]; rfl) (e8.at (e₇.at t₆)) (x₇.trans (e8.toB t))
  rcases hway with hlt | rfl | rfl | rfl | rfl
  · refine I_pos (by simpa using hlt) ?_
    refine O_toL ra₄ fun d H₅ hd h₅ e₅ => ?_
    rw [rows_take] at h₅
    refine raw d (pl + 1) H₅ _ _ ⟨(htake _).1, (htake _).2⟩ h₅ hd e₅ fun w n₆ rs' H₁₀ k1 k2 k3 k4 k5 => ?_
    refine I_neg (by simp; first | lia | omega) ?_
    refine I_neg (by simp; first | lia | omega) ?_
    refine I_neg (by simp; first | lia | omega) ?_
    refine I_neg (by simp; first | lia | omega) ?_
    exact fin i o w rs' n₆ H₁₀ hbo k1 k2 k3 k4 k5
  · refine O_toL ra₄ fun d H₅ hd h₅ e₅ => ?_
    rw [rows_take] at h₅
    refine raw d pl H₅ _ _ ⟨(htake _).1, (htake _).2⟩ h₅ hd e₅ fun w n₆ rs' H₁₀ k1 k2 k3 k4 k5 => ?_
    exact fin i o w rs' n₆ H₁₀ hbo k1 k2 k3 k4 k5
  · refine O_toL ra₄ fun d H₅ hd h₅ e₅ => ?_
    rw [rows_take] at h₅
    refine O_fromL (e₅.at ra₄) fun g' H₉ hg' h₉ e₉ => ?_
    rw [rows_drop] at h₉
    generalize cutAt _ _ = k1 at h₅ h₉
    generalize cutAt _ _ = k2 at h₉
    have q1 := htake k1
    have q2 := hdrop k2
    refine O_addL (e₉.at h₅) h₉ (by rw [rowsPV_len, rowsPV_len]; first | lia | omega) fun w H₁₀ hw h₁₀ e₁₀ => ?_
    have e8 := (e₅.trans e₉).trans e₁₀
    exact fin i o w _ (n + 3) H₁₀ hbo ⟨ok_app q1.1 q2.1, by rw [List.length_append]; first | lia | omega⟩ (by first | lia | omega) (by rw [h₁₀, rowsPV_append]) (e8.at t₄) (x₄.trans (e8.toB t))
  · refine U_kindst ⟨xs, t, n + 3, rfl, hx, t₄, by first | lia | omega, fun ks n₅ H₅ kl kk hn₅ t₅ e₅ => ?_⟩
    exact fin i ks ra rs n₅ H₅ ⟨hbo.1, kk, hbo.2.2.1, kl⟩ ⟨hro, by first | lia | omega⟩ (by first | lia | omega) ((x₄.trans e₅).at hrat ra₀) t₅ (x₄.trans e₅)
  · refine U_kindst ⟨xs, t, n + 3, rfl, hx, t₄, by first | lia | omega, fun ks n₅ H₅ kl kk hn₅ t₅ e₅ => ?_⟩
    exact fin ks o ra rs n₅ H₅ ⟨kk, hbo.2.1, kl, hbo.2.2.2⟩ ⟨hro, by first | lia | omega⟩ (by first | lia | omega) ((x₄.trans e₅).at hrat ra₀) t₅ (x₄.trans e₅)
end Mine
end
section
open PySem PySem.W PySem.Calls PyProof.Rows
namespace Mine
set_option autoImplicit false

theorem prj_mem {es fs : Pr} (h : fs.map prj = es.map prj) {q : Str × Bl} (hq : q ∈ fs) : ∃ q' ∈ es, q'.1 = q.1 ∧ q'.2.1 = q.2.1 ∧ q'.2.2.1 = q.2.2.1 := by
  have : prj q ∈ es.map prj := by rw [← h]; exact List.mem_map_of_mem hq
  obtain ⟨q', h1, h2⟩ := List.mem_map.mp this
  unfold prj at h2
  simp only [Prod.mk.injEq] at h2
  exact ⟨q', h1, h2.1, h2.2.1, h2.2.2⟩
theorem prj_fst {es fs : Pr} (h : fs.map prj = es.map prj) : fs.map (·.1) = es.map (·.1) := by
  have := congrArg (List.map (fun x => x.1)) h
  rw [List.map_map, List.map_map] at this; exact this
theorem POk.of_prj {es fs : Pr} (h : fs.map prj = es.map prj) (k : POk es) : POk fs := by
  refine ⟨by rw [prj_fst h]; exact k.nodup, fun q hq => ?_, fun q hq => ?_, by have := congrArg List.length h; simp at this; rw [this]; exact k.len⟩
  · obtain ⟨q', h1, h2, _⟩ := prj_mem h hq
    rw [← h2]; exact k.name q' h1
  · obtain ⟨q', h1, _, h3, h4⟩ := prj_mem h hq
    have := k.blks q' h1
    unfold BOk at this ⊢
    rw [h3, h4] at this; exact this
theorem dset_new {α : Type} {es : List (Str × α)} {k : Str} {v : α} (h : k ∉ es.map (·.1)) : dset es k v = es ++ [(k, v)] := by
  unfold dset
  rw [if_neg]
  intro q
  obtain ⟨p, hp, e⟩ := List.any_eq_true.mp q
  exact h (List.mem_map.mpr ⟨p, hp, by simpa using e⟩)
theorem kvsP_app (a b : Pr) : kvsP (a ++ b) = kvsP a ++ kvsP b := by unfold kvsP; rw [List.map_append]
set_option maxHeartbeats 1000000 in
theorem lcopy_ok : Ver spCopy B_law_copy N_law_copy 1 := by
  intro ps H Q X h
  have hL : LIM = 1048576 := rfl
  obtain ⟨p, es, rw', rfl, ⟨hp, hpo, hne, hra⟩, hQ⟩ := h
  have hle := hpo.len
  refine ⟨rfl, ?_⟩
  refine fun q H₁ hq h₁ e₁ => ?_
  refine O_listD (e₁.at hp) fun c H₂ hc h₂ e₂ => ?_
  rw [kvs_names] at h₂
  have hqc : c ≠ q := Ne.symm (ne_of h₁ hc)
  have hpq : p ≠ q := ne_of hp hq
  refine O_itL h₂ ?_
  refine forW_ind (fun rest m H' => Ex4 fun (us vs fs : Pr) (x2 : Option PV) => An8 (es = us ++ vs) (rest = (vs.map (·.1)).map .str) (m = [some (.obj p), some (.obj q), x2]) (fs.map prj = us.map prj) (RowsP 450000 H' fs rw') (H' q = some (.dict (kvsP fs))) (ExtB q H₂ H') (Ext H H')) ?_ ?_ _ _ _
    ⟨[], es, [], none, rfl, rfl, rfl, rfl, fun _ h => (nomatch h), e₂.at h₁, fun _ _ _ h => h, e₁.trans e₂⟩
  · rintro m H' ⟨us, vs, fs, x2, hs, hr', rfl, hf, hra', q', x', e'⟩
    have : vs = [] := by cases vs with | nil => rfl | cons _ _ => cases hr'
    subst this
    rw [List.append_nil] at hs
    subst hs
    exact ⟨x'.at hqc h₂, hQ q fs H' hq ⟨q', hpo.of_prj hf, fun h => hne (List.map_eq_nil_iff.mp (by rw [← hf, h]; rfl)), hra'⟩ hf e'⟩
  · rintro y ys m H' ⟨us, vs, fs, x2, hs, hr', rfl, hf, hra', q', x', e'⟩
    cases vs with
    | nil => cases hr'
    | cons b vs =>
    obtain ⟨nm, i, o, zz⟩ := b
    cases hr'
    refine ⟨x'.at hqc h₂, fun K hK => ?_⟩
    have hbm : (nm, i, o, zz) ∈ es := by rw [hs]; exact List.mem_append.mpr (.inr (List.mem_cons_self ..))
    obtain ⟨hrs, ra, hz, ra₀⟩ := hra _ hbm
    replace hz : zz = [.obj ra] := hz
    subst hz
    have gb : dget (kvsP es) nm = some (blk (i, o, [.obj ra])) := by rw [dget_blk, dget_of_mem hpo.nodup hbm]; rfl
    have p' := e'.at hp
    refine O_subD p' gb ?_
    refine O_subD p' gb ?_
    refine O_subD p' gb ?_
    refine O_listL (e'.at ra₀) fun d H₃ hd h₃ e₃ => ?_
    have hul : us.length < 100 := by have := congrArg List.length hs; rw [List.length_append, List.length_cons] at this; first | lia | omega
    have hfl : fs.length = us.length := by have := congrArg List.length hf; rwa [List.length_map, List.length_map] at this
    refine O_storeD (e₃.at q') (by rw [kvsP_len]; first | lia | omega) fun H₄ h₄ e₄ => ?_
    have hnk : nm ∉ fs.map (·.1) := by
      rw [prj_fst hf]
      have hnd := hpo.nodup
      rw [hs, List.map_append] at hnd
      exact fun hm => (List.nodup_append.mp hnd).2.2 _ hm _ (List.mem_cons_self ..) rfl
    have hdq : d ≠ q := Ne.symm (ne_of q' hd)
    refine hK _ _ ⟨us ++ [(nm, i, o, [.obj ra])], vs, fs ++ [(nm, i, o, [.obj d])], _, by rw [hs]; simp, rfl, rfl, by rw [List.map_append, List.map_append, hf]; rfl, ?_, ?_, ?_, ExtB.fresh hq (e'.trans e₃) e₄⟩
    · intro z hz
      rcases List.mem_append.mp hz with hz | hz
      · exact ((hra'.ext e₃).stepD (e₃.at q') e₄) z hz
      · rw [List.mem_singleton.mp hz]
        exact ⟨hrs, d, rfl, e₄.at hdq h₃⟩
    · rw [h₄]
      have := dset_blk fs nm (i, o, [.obj d])
      rw [dset_new hnk] at this
      exact congrArg some (congrArg AObj.dict this)
    · exact fun x v hx h => e₄.at hx (e₃.at (x'.at hx h))
theorem atoms_same {H : AHeap} {n : Nat} : ∀ {l : List PV}, (∀ v ∈ l, (∃ s, v = .str s) ∨ ∃ i, v = .int i) → EqL H n l l true
  | [], _ => .nil
  | v :: l, h => by
    have r := atoms_same (H := H) (n := n) (l := l) fun x hx => h x (List.mem_cons_of_mem _ hx)
    rcases h v (List.mem_cons_self ..) with ⟨s, rfl⟩ | ⟨i, rfl⟩
    · have := EqL.c (EqV.str (n := n) s s) r; simpa using this
    · have := EqL.c (EqV.int (n := n) i i) r; simpa using this
theorem row_atoms (r : Rw) : ∀ v ∈ r.row, (∃ s, v = PV.str s) ∨ ∃ i, v = .int i := by
  have s1 : ∀ (s : Str) (v : PV), v ∈ [PV.str s] → (∃ s, v = PV.str s) ∨ ∃ i, v = .int i := fun s v h => .inl ⟨s, List.mem_singleton.mp h⟩
  cases r with
  | call n => intro v hv; simp [Rw.row] at hv; rcases hv with rfl | rfl <;> exact .inl ⟨_, rfl⟩
  | iff n m => intro v hv; simp [Rw.row] at hv; rcases hv with rfl | rfl | rfl <;> exact .inl ⟨_, rfl⟩
  | pl w =>
    cases w with
    | num i => intro v hv; simp [Rw.row, W.row] at hv; rcases hv with rfl | rfl; exact .inl ⟨_, rfl⟩; exact .inr ⟨_, rfl⟩
    | text s => intro v hv; simp [Rw.row, W.row] at hv; rcases hv with rfl | rfl <;> exact .inl ⟨_, rfl⟩
    | copy n => intro v hv; simp [Rw.row, W.row] at hv; rcases hv with rfl | rfl; exact .inl ⟨_, rfl⟩; exact .inr ⟨_, rfl⟩
    | _ => exact s1 _
theorem rows_same {H : AHeap} {n : Nat} : ∀ rs : List Rw, EqL H (n + 1) (rowsPV rs) (rowsPV rs) true
  | [] => .nil
  | r :: rs => EqL.c (EqV.tup (atoms_same (row_atoms r))) (rows_same rs)
theorem strs_same {H : AHeap} {n : Nat} (ks : List Str) : EqL H n (ks.map .str) (ks.map .str) true := by
  have := EqL.strs (H := H) (n := n) ks ks
  rwa [decide_eq_true rfl] at this
theorem prog_same {H : AHeap} {es fs : Pr} {N : Nat} {rw' : Str → List Rw} (hf : fs.map prj = es.map prj) (hn : (es.map (·.1)).Nodup) (he : RowsP N H es rw') (hr : RowsP N H fs rw') : ∀ es' : Pr, (∀ q ∈ es', q ∈ es) → EqD H (kvsP fs) (kvsP es') true
  | [], _ => .nil
  | (nm, i, o, zz) :: es', hs => by
    have hq := hs _ (List.mem_cons_self ..)
    have hpm : prj (nm, i, o, zz) ∈ fs.map prj := by rw [hf]; exact List.mem_map_of_mem hq
    obtain ⟨⟨nm', i', o', z'⟩, hm, hp⟩ := List.mem_map.mp hpm
    unfold prj at hp
    simp only [Prod.mk.injEq] at hp
    obtain ⟨rfl, rfl, rfl⟩ := hp
    have hfn : (fs.map (·.1)).Nodup := by rw [prj_fst hf]; exact hn
    have hg := dget_of_mem hfn hm
    obtain ⟨_, a, ha, ha'⟩ := he _ hq
    obtain ⟨_, b, hb, hb'⟩ := hr _ hm
    replace ha : zz = [.obj a] := ha
    replace hb : z' = [.obj b] := hb
    subst ha hb
    have ev : EqV H 40 (blk (i', o', [.obj a])) (blk (i', o', [.obj b])) true :=
      EqV.tup (n := 39) (EqL.c (EqV.tup (n := 38) (strs_same i')) (EqL.c (EqV.tup (n := 38) (strs_same o')) (EqL.c (EqV.list (n := 38) ha' hb' (rows_same _)) EqL.nil)))
    exact EqD.c (a := true) (b := true) (by rw [dget_blk, hg]; rfl) ev (prog_same hf hn he hr es' fun q hq => hs q (List.mem_cons_of_mem _ hq))

theorem Pg.find {N : Nat} {H : AHeap} {p : Addr} {es : Pr} {rw' : Str → List Rw} (h : Pg N H p es rw') {n : Str} (hn : n ∈ nmsP es) : ∃ i o a, dget (kvsP es) n = some (blk (i, o, [.obj a])) ∧ H a = some (.list (rowsPV (rw' n))) ∧ RsOk N (rw' n) := by
  obtain ⟨⟨nm, i, o, zz⟩, hq, rfl⟩ := List.mem_map.mp hn
  obtain ⟨hr, a, hz, ha⟩ := h.rows _ hq
  replace hz : zz = [.obj a] := hz
  subst hz
  exact ⟨i, o, a, by rw [dget_blk, dget_of_mem h.ok.nodup hq]; rfl, ha, hr⟩
theorem Pg.has {N : Nat} {H : AHeap} {p : Addr} {es : Pr} {rw' : Str → List Rw} (h : Pg N H p es rw') {n : Str} (hn : n ∈ nmsP es) : hasKey (kvsP es) n = true := by
  obtain ⟨i, o, a, h1, _⟩ := h.find hn
  unfold hasKey; rw [h1]; rfl
theorem key_no {es : Pr} {n : Str} (hn : n ∉ nmsP es) : hasKey (kvsP es) n = false := by
  rw [hasKey_blk]
  cases h : dget es n with
  | none => rfl
  | some b => exact absurd (List.mem_map.mpr ⟨_, dget_mem h, rfl⟩) hn
end Mine
end
section
open PySem PySem.W PySem.Calls PyProof.Rows
namespace Mine
set_option autoImplicit false

theorem need_ok : Ver spNeed B_need N_need 2 := by
  intro ps H Q X h
  obtain ⟨a, st, k, rfl, ha, h⟩ := h
  refine ⟨rfl, ?_⟩
  refine O_lenL ha ?_
  refine O_ite (fun hk => ?_) (fun hk => ?_)
  · rw [if_pos (of_decide_eq_true hk)] at h
    exact h
  · rw [if_neg (fun q => hk (decide_eq_true q))] at h
    exact h
theorem kinds_ok : Ver spKinds B_kinds_of N_kinds_of 1 := by
  intro ps H Q X h
  have hL : LIM = 1048576 := rfl
  obtain ⟨a, st, rfl, ha, hst, hl, hQ⟩ := h
  refine ⟨rfl, ?_⟩
  refine fun c H₁ hc h₁ e₁ => ?_
  refine O_itL (e₁.at ha) ?_
  refine forW_ind (fun rest m H' => Ex2 fun (done : List PV) (x : Option PV) => An4 (st = done ++ rest) (Ext H H') (H' c = some (.list ((done.map kindS).map .str))) (m = [some (.obj a), some (.obj c), x])) ?_ ?_ _ _ _ ⟨[], none, rfl, e₁, h₁, rfl⟩
  · rintro m H' ⟨done, x2, hd, e, h', rfl⟩
    rw [List.append_nil] at hd
    subst hd
    refine ⟨e.at ha, ?_⟩
    refine O_tupL h' ?_
    exact hQ _ e
  · rintro v rest m H' ⟨done, x2, hd, e, h', rfl⟩
    refine ⟨e.at ha, fun K hK => ?_⟩
    have hlen : ((done.map kindS).map PV.str).length < LIM := by have := congrArg List.length hd; rw [List.length_append, List.length_cons] at this; rw [List.length_map, List.length_map]; first | lia | omega
    have fin : MethW (fun _ H => K [some (.obj a), some (.obj c), some v] H) H' .append (.obj c) [.str (kindS v)] := O_append h' hlen fun H₂ h₂ e₂ => hK _ _ ⟨done ++ [v], some v, by rw [hd, List.append_assoc]; rfl, ExtB.fresh hc e e₂, by rw [h₂, List.map_append, List.map_append]; rfl, rfl⟩
    rcases hst v (by rw [hd]; exact List.mem_append.mpr (.inr (List.mem_cons_self ..))) with ⟨i, rfl, _⟩ | ⟨s, rfl, _⟩
    · exact O_recv h' rfl fin
    · exact O_recv h' rfl fin
theorem okv_int {i : Int} (h : Okv (.int i)) : 0 ≤ i ∧ i < 1000000000 := by
  rcases h with ⟨j, h, h'⟩ | ⟨s, h, _⟩
  · cases h; exact h'
  · cases h
theorem okv_str {s : Str} (h : Okv (.str s)) : s.length ≤ 60 := by
  rcases h with ⟨j, h, _⟩ | ⟨u, h, h'⟩
  · cases h
  · cases h; exact h'
theorem reck_ok : Ver spReck B_reckoned N_reckoned 2 := by
  intro ps H Q X h
  have hL : LIM = 1048576 := rfl
  have hB' : 1000000000 ≤ (2 : Nat) ^ 60 := by decide
  obtain ⟨w, a, vs, v, rfl, ha, hok, hc, hQ⟩ := h
  refine ⟨rfl, ?_⟩
  have o0 : ∀ x l, vs = x :: l → Okv x := fun x l e => hok x (by rw [e]; exact List.mem_cons_self ..)
  cases hc with
  | add i j =>
    refine O_subL ha rfl ?_
    refine O_subL ha rfl ?_
    refine O_glob G_bound ?_
    exact hQ
  | mul i j =>
    have := okv_int (o0 _ _ rfl)
    refine O_subL ha rfl ?_
    refine O_subL ha rfl ?_
    refine O_mulI (.inl (by first | lia | omega)) ?_
    refine O_glob G_bound ?_
    exact hQ
  | less i j =>
    refine O_subL ha rfl ?_
    refine O_subL ha rfl ?_
    rw [show (if i < j then (1 : Int) else 0) = if decide (i < j) = true then 1 else 0 by by_cases q : i < j <;> simp [q]] at hQ
    exact hQ
  | join s u =>
    have h1 := okv_str (o0 _ _ rfl)
    have h2 := okv_str (hok (.str u) (List.mem_cons_of_mem _ (List.mem_cons_self ..)))
    refine O_subL ha rfl ?_
    refine O_subL ha rfl ?_
    refine O_addS (by first | lia | omega) ?_
    refine O_glob G_longest ?_
    refine O_toS (by rw [str_len_append]; first | lia | omega) ?_
    exact hQ
  | long s =>
    have h1 := okv_str (o0 _ _ rfl)
    refine O_subL ha rfl ?_
    refine O_lenS (by first | lia | omega) ?_
    exact hQ
  | «show» i =>
    have h1 := okv_int (o0 _ _ rfl)
    have h2 : 1000000000 ≤ (10 : Nat) ^ 18 := by decide
    refine O_subL ha rfl ?_
    refine O_strI (by first | lia | omega) ?_
    exact hQ
theorem tk_get {w : W} {ts : List Str} (ht : takesS w = some ts) : dget (takes01.map fun e => (e.1, PV.tup (e.2.map .str))) (wd w) = some (.tup (ts.map .str)) := by
  cases w <;> cases ht <;> kernel_rfl
theorem wants_eq {w : W} {ts : List Str} (h : takesS w = some ts) : wantedS w = ts := by cases w <;> cases h <;> rfl
theorem Cal.takes {w : W} {vs : List PV} {v : PV} (h : Cal w vs v) : takesS w = some (vs.map kindS) := by cases h <;> rfl
theorem cut_at {α : Type} {xs ys : List α} {i : Int} (hi : i = xs.length) : (xs ++ ys).take (cutAt (xs ++ ys).length i) = xs ∧ (xs ++ ys).drop (cutAt (xs ++ ys).length i) = ys := by
  rw [cut_nat hi (by rw [List.length_append]; exact Nat.le_add_right _ _), List.take_left, List.drop_left]; exact ⟨rfl, rfl⟩
/-- what a row that takes finds -/
theorem Res.inv {w : W} {ts : List Str} {st : List PV} {o : Except Nat (List PV)} (ht : takesS w = some ts) (h : Res w st o) : (st.length < ts.length ∧ o = .error 1) ∨ ∃ pre vs, st = pre ++ vs ∧ vs.length = ts.length ∧ ((vs.map kindS ≠ ts ∧ o = .error 2) ∨ ∃ v, vs.map kindS = ts ∧ Cal w vs v ∧ o = .ok (pre ++ [v])) := by
  cases h with
  | few h => rw [wants_eq ht] at h; exact .inl ⟨h, rfl⟩
  | kind st vs ht' hl hne => rw [ht] at ht'; cases ht'; exact .inr ⟨st, vs, rfl, hl, .inl ⟨hne, rfl⟩⟩
  | @cal _ vs v st h =>
    have := h.takes
    rw [ht] at this
    cases this
    exact .inr ⟨st, vs, rfl, (List.length_map ..).symm, .inr ⟨v, rfl, h, rfl⟩⟩
  | _ => cases ht
theorem W.not_plain {w : W} {ts : List Str} (ht : takesS w = some ts) : (wd w == ("num" : Str)) = false ∧ (wd w == ("text" : Str)) = false ∧ (wd w == ("copy" : Str)) = false ∧ (wd w == ("swap" : Str)) = false ∧ (wd w == ("drop" : Str)) = false := by
  cases w <;> cases ht <;> exact ⟨by kernel_rfl, by kernel_rfl, by kernel_rfl, by kernel_rfl, by kernel_rfl⟩
section
variable {a : Addr} {st : List PV} {w : W} {o : Except Nat (List PV)} {H : AHeap} {Q : Post} {X : XPost}
theorem done_takes {ts : List Str} (ht : takesS w = some ts) (ha : H a = some (.list st)) (hst : StOk 900 st) (hr : Res w st o)
    (hres : match o with | .ok ys => ∀ c H', H c = none → H' c = some (.list ys) → Ext H H' → Q (.obj c) H' | .error e => ∀ H', Ext H H' → X e H') :
    awpSs g01 B_done (fun _ H => Q .none H) Q (fun c _ H => X c H) (initL N_done 2 [.obj a, .tup w.row]) H := by
  have hL : LIM = 1048576 := rfl
  obtain ⟨n1, n2, n3, n4, n5⟩ := W.not_plain ht
  refine O_subT w.head ?_
  refine O_lenL ha ?_
  refine I_neg (by rw [n1]; decide) ?_
  refine I_neg (by rw [n2]; decide) ?_
  refine I_neg (by rw [n3]; decide) ?_
  refine I_neg (by rw [n4]; decide) ?_
  refine I_neg (by rw [n5]; decide) ?_
  refine O_glob G_takes ?_
  refine O_subF (tk_get ht) ?_
  refine U_need ⟨a, st, _, rfl, ha, ?_⟩
  rw [List.length_map]
  rcases hr.inv ht with ⟨hlt, rfl⟩ | ⟨pre, vs, rfl, hv, hor⟩
  · rw [if_pos (by first | lia | omega)]
    exact hres _ (Ext.refl H)
  obtain ⟨hok, hlen⟩ := hst
  rw [List.length_append] at hlen
  rw [if_neg (by rw [List.length_append]; first | lia | omega)]
  have ok : ∀ v ∈ vs, Okv v := fun v hvm => hok v (List.mem_append.mpr (.inr hvm))
  have hcut : (((pre ++ vs).length : Int) - ((ts.map PV.str).length : Int)) = pre.length := by
    rw [List.length_map, List.length_append]; first | lia | omega
  refine O_fromL ha fun c H₁ hc h₁ e₁ => ?_
  rw [(cut_at hcut).2] at h₁
  refine O_listL h₁ fun d H₂ hd h₂ e₂ => ?_
  refine U_kinds ⟨d, vs, rfl, h₂, ok, by first | lia | omega, fun H₃ e₃ => ?_⟩
  have e13 := (e₁.trans e₂).trans e₃
  refine O_neT (eq_strs (vs.map kindS) ts) ?_
  rcases hor with ⟨hne, rfl⟩ | ⟨v, hek, hcc, rfl⟩
  · refine I_pos (by rw [decide_eq_false hne]; rfl) ?_
    exact hres _ e13
  · refine I_neg (by rw [decide_eq_true hek]; decide) ?_
    refine O_toL (e13.at ha) fun f H₄ hf h₄ e₄ => ?_
    rw [(cut_at hcut).1] at h₄
    refine O_listL h₄ fun g5 H₅ hg h₅ e₅ => ?_
    have e35 := e₄.trans e₅
    refine U_reck ⟨w, d, vs, v, rfl, (e₃.trans e35).at h₂, ok, hcc, ?_⟩
    refine fun b H₆ hb h₆ e₆ => ?_
    refine O_addL (e₆.at h₅) h₆ (by rw [List.length_singleton]; first | lia | omega) fun z H₇ hz h₇ e₇ => ?_
    exact hres _ _ (e13.back (e35.back (e₆.back hz))) h₇ (((e13.trans e35).trans e₆).trans e₇)
end
theorem at_len {α : Type} {xs ys : List α} {x : α} {i : Int} (hi : i = xs.length) : itemAt (xs ++ x :: ys) i = some x := itemAt_nat hi (by rw [List.getElem?_append_right (Nat.le_refl _), Nat.sub_self]; rfl)
set_option maxHeartbeats 1000000 in
theorem done_ok : Ver spDone B_done N_done 2 := by
  intro ps H Q X h
  have hL : LIM = 1048576 := rfl
  obtain ⟨a, st, w, o, rfl, hw, ha, hst, hr, hres⟩ := h
  refine ⟨rfl, ?_⟩
  have hlen := hst.len
  have push : ∀ (x : PV), (∀ c H', H c = none → H' c = some (.list (st ++ [x])) → Ext H H' → Q (.obj c) H') → BltW (fun v H => alloc (.list [x]) (fun w H => binW .Add v w Q H) H) H .list [.obj a] := fun x hx => by
    refine O_listL ha fun c H₁ hc h₁ e₁ => ?_
    refine fun d H₂ hd h₂ e₂ => ?_
    refine O_addL (e₂.at h₁) h₂ (by rw [List.length_singleton]; first | lia | omega) fun b H₃ hb h₃ e₃ => ?_
    exact hx _ _ ((e₁.trans e₂).back hb) h₃ ((e₁.trans e₂).trans e₃)
  have hr₀ := hr
  cases hr with
  | num i st =>
    refine O_lenL ha ?_
    exact push _ hres
  | text i st =>
    refine O_lenL ha ?_
    exact push _ hres
  | @copy n pre b v hb =>
    refine O_lenL ha ?_
    refine U_need ⟨a, _, _, rfl, ha, ?_⟩
    have hl : (pre ++ v :: b).length = pre.length + (n + 1) := by rw [List.length_append, List.length_cons, hb]
    rw [if_neg (by rw [hl]; first | lia | omega)]
    refine O_listL ha fun c H₁ hc h₁ e₁ => ?_
    refine O_subL (e₁.at ha) (at_len (by rw [hl]; first | lia | omega)) ?_
    refine fun d H₂ hd h₂ e₂ => ?_
    refine O_addL (e₂.at h₁) h₂ (by rw [List.length_singleton]; first | lia | omega) fun b H₃ hb h₃ e₃ => ?_
    exact hres _ _ ((e₁.trans e₂).back hb) h₃ ((e₁.trans e₂).trans e₃)
  | swap pre x y =>
    refine O_lenL ha ?_
    refine U_need ⟨a, _, _, rfl, ha, ?_⟩
    have hl : (pre ++ [x, y]).length = pre.length + 2 := List.length_append ..
    rw [if_neg (by rw [hl]; first | lia | omega)]
    refine O_toL ha fun c H₁ hc h₁ e₁ => ?_
    rw [(cut_at (by rw [hl]; first | lia | omega)).1] at h₁
    refine O_listL h₁ fun d H₂ hd h₂ e₂ => ?_
    have e12 := e₁.trans e₂
    refine O_subL (e12.at ha) (x := y) (by rw [show pre ++ [x, y] = pre ++ [x] ++ [y] by rw [List.append_assoc]; rfl]; exact at_len (by rw [List.length_append, List.length_append]; show ((pre.length + 1 + 1 : Nat) : Int) - 1 = ((pre.length + 1 : Nat) : Int); first | lia | omega)) ?_
    refine O_subL (e12.at ha) (at_len (by rw [hl]; first | lia | omega)) ?_
    refine fun f H₃ hf h₃ e₃ => ?_
    refine O_addL (e₃.at h₂) h₃ (by show _ + 2 ≤ _; first | lia | omega) fun b H₄ hb h₄ e₄ => ?_
    exact hres _ _ ((e12.trans e₃).back hb) h₄ ((e12.trans e₃).trans e₄)
  | drop pre x =>
    refine O_lenL ha ?_
    refine U_need ⟨a, _, _, rfl, ha, ?_⟩
    have hl : (pre ++ [x]).length = pre.length + 1 := List.length_append ..
    rw [if_neg (by rw [hl]; first | lia | omega)]
    refine O_toL ha fun c H₁ hc h₁ e₁ => ?_
    rw [(cut_at (by rw [hl]; first | lia | omega)).1] at h₁
    refine O_listL h₁ fun d H₂ hd h₂ e₂ => ?_
    exact hres _ _ (e₁.back hd) h₂ (e₁.trans e₂)
  | cal pre h => exact done_takes h.takes ha hst hr₀ hres
  | kind pre vs ht => exact done_takes ht ha hst hr₀ hres
  | few h =>
    cases w with
    | num i => cases h
    | text i => cases h
    | copy n =>
      rw [wanted_copy] at h
      refine O_lenL ha ?_
      exact U_need ⟨a, st, _, rfl, ha, by rw [if_pos (by first | lia | omega)]; exact hres _ (Ext.refl H)⟩
    | swap =>
      replace h : st.length < 2 := h
      refine O_lenL ha ?_
      exact U_need ⟨a, st, _, rfl, ha, by rw [if_pos (by first | lia | omega)]; exact hres _ (Ext.refl H)⟩
    | drop =>
      replace h : st.length < 1 := h
      refine O_lenL ha ?_
      exact U_need ⟨a, st, _, rfl, ha, by rw [if_pos (by first | lia | omega)]; exact hres _ (Ext.refl H)⟩
    | _ => exact done_takes rfl ha hst hr₀ hres
end Mine
end
section
open PySem PySem.W PySem.Calls PyProof.Rows
namespace Mine
set_option autoImplicit false

theorem lreck_ok : Ver spLReck B_law_reckoned N_law_reckoned 3 := by
  intro ps H Q X h
  have hL : LIM = 1048576 := rfl
  have hB' : 1000000000 ≤ (2 : Nat) ^ 60 := by decide
  obtain ⟨w, x, y, v, rfl, ox, oy, hc, hQ⟩ := h
  refine ⟨rfl, ?_⟩
  cases hc with
  | add i j =>
    refine O_powI ?_
    exact hQ
  | mul i j =>
    have := okv_int ox
    refine O_mulI (.inl (by first | lia | omega)) ?_
    refine O_powI ?_
    exact hQ
  | less i j =>
    rw [show (if i < j then (1 : Int) else 0) = if decide (i < j) = true then 1 else 0 by by_cases q : i < j <;> simp [q]] at hQ
    exact hQ
  | join s u =>
    have h1 := okv_str ox
    have h2 := okv_str oy
    refine O_addS (by first | lia | omega) ?_
    refine O_toS (by rw [str_len_append]; first | lia | omega) ?_
    exact hQ
theorem lkinds_ok : Ver spLKinds B_law_kinds_of N_law_kinds_of 1 := by
  intro ps H Q X h
  obtain ⟨a, st, rfl, ha, hst, hl, hQ⟩ := h
  refine ⟨rfl, ?_⟩
  refine O_itL ha ?_
  refine compW_ind (fun rest acc H' => Ex1 fun (done : List PV) => An3 (st = done ++ rest) (Ext H H') (acc = (done.map kindS).map .str)) ?_ ?_ _ _ _ ⟨[], rfl, Ext.refl _, rfl⟩
  · rintro acc H' ⟨done, hd, e, rfl⟩
    rw [List.append_nil] at hd
    subst hd
    refine ⟨e.at ha, ?_⟩
    refine fun c H₁ hc h₁ e₁ => ?_
    exact hQ c H₁ (e.back hc) h₁ (e.trans e₁)
  · rintro v rest acc H' ⟨done, hd, e, rfl⟩
    refine ⟨e.at ha, fun K hK => ?_⟩
    have fin : ∀ H₁, Ext H' H₁ → K [.str (kindS v)] H₁ := fun H₁ e₁ => hK _ _ ⟨done ++ [v], by rw [hd, List.append_assoc]; rfl, e.trans e₁, by rw [List.map_append, List.map_append]; rfl⟩
    rcases hst v (by rw [hd]; exact List.mem_append.mpr (.inr (List.mem_cons_self ..))) with ⟨i, rfl, _⟩ | ⟨s, rfl, _⟩
    · refine fun c H₁ hc h₁ e₁ => ?_
      refine O_subL h₁ rfl ?_
      exact fin H₁ e₁
    · refine fun c H₁ hc h₁ e₁ => ?_
      refine O_subL h₁ rfl ?_
      exact fin H₁ e₁
set_option maxHeartbeats 1000000 in
theorem lbehind_ok : Ver spLBeh B_law_behind N_law_behind 2 := by
  intro ps H Q X h
  have hL : LIM = 1048576 := rfl
  obtain ⟨a, st, ys, w, rfl, hw, ha, ⟨hok, hlen⟩, hr, hres⟩ := h
  refine ⟨rfl, ?_⟩
  refine O_listL ha fun c H₁ hc h₁ e₁ => ?_
  have app : ∀ (zs : List PV) (x : PV) (H' : AHeap), zs.length ≤ 900 → ys = zs ++ [x] → H' c = some (.list zs) → Ext H H' → RecvW (MethW (fun _ H => Q (.obj c) H) H' .append (.obj c) [x]) H' .append (.obj c) := fun zs x H' hz hy h' e' => by
    refine O_recv h' rfl ?_
    refine O_append h' (by first | lia | omega) fun H₂ h₂ e₂ => ?_
    exact hres c H₂ hc (by rw [hy]; exact h₂) (ExtB.fresh hc e' e₂)
  have popped : ∀ {H' H'' : AHeap}, Ext H H' → ExtB c H' H'' → Ext H H'' := fun e e' => ExtB.fresh hc e e'
  generalize ho : Except.ok ys = o at hr
  cases hr with
  | num i st => cases ho; exact app st _ H₁ hlen rfl h₁ e₁
  | text i st => cases ho; exact app st _ H₁ hlen rfl h₁ e₁
  | few => cases ho
  | kind => cases ho
  | @copy n pre b v hb =>
    cases ho
    have hl : (pre ++ v :: b).length = pre.length + (n + 1) := by rw [List.length_append, List.length_cons, hb]
    refine O_recv h₁ rfl ?_
    refine O_lenL (e₁.at ha) ?_
    refine O_subL (e₁.at ha) (at_len (by rw [hl]; first | lia | omega)) ?_
    refine O_append h₁ (by first | lia | omega) fun H₂ h₂ e₂ => ?_
    exact hres c H₂ hc h₂ (popped e₁ e₂)
  | swap pre x y =>
    cases ho
    rw [show pre ++ [x, y] = (pre ++ [x]) ++ [y] by rw [List.append_assoc]; rfl] at h₁
    refine O_recv h₁ rfl ?_
    refine O_pop h₁ fun H₂ h₂ e₂ => ?_
    have e2 := popped e₁ e₂
    refine O_recv h₂ rfl ?_
    refine O_lenL h₂ ?_
    have hl : (pre ++ [x]).length = pre.length + 1 := List.length_append ..
    rw [List.length_append] at hlen
    rw [hl]
    refine MethW.insert c _ _ _ h₂ (by first | lia | omega) (by rw [hl]; first | lia | omega) (by rw [hl]; first | lia | omega) fun H₃ h₃ e₃ => ?_
    refine hres c H₃ hc ?_ (popped e2 e₃)
    rw [h₃, show (((pre.length + 1 : Nat) : Int) - 1).toNat = pre.length by first | lia | omega, List.take_left, List.drop_left]
  | drop pre x =>
    cases ho
    refine O_recv h₁ rfl ?_
    refine O_pop h₁ fun H₂ h₂ e₂ => ?_
    exact hres c H₂ hc h₂ (popped e₁ e₂)
  | @cal w vs v pre h =>
    cases ho
    have hv : ∀ x ∈ vs, Okv x := fun x hx => hok x (List.mem_append.mpr (.inr hx))
    have hpl : pre.length ≤ 900 := Nat.le_trans (by rw [List.length_append]; exact Nat.le_add_right _ _) hlen
    have two : ∀ (x y : PV), vs = [x, y] → RecvW (MethW (fun top H => RecvW (RecvW (MethW (fun low H => g01.C "_law_reckoned" [.tup w.row, low, top] H (fun v H => MethW (fun _ H => Q (.obj c) H) H .append (.obj c) [v]) fun e H => X e H) H .pop (.obj c) []) H .pop (.obj c)) H .append (.obj c)) H₁ .pop (.obj c) []) H₁ .pop (.obj c) := fun x y hvs => by
      subst hvs
      rw [show pre ++ [x, y] = (pre ++ [x]) ++ [y] by rw [List.append_assoc]; rfl] at h₁
      refine O_recv h₁ rfl ?_
      refine O_pop h₁ fun H₂ h₂ e₂ => ?_
      refine O_recv h₂ rfl ?_
      refine O_recv h₂ rfl ?_
      refine O_pop h₂ fun H₃ h₃ e₃ => ?_
      refine U_lreck ⟨w, x, y, v, rfl, hv x (List.mem_cons_self ..), hv y (List.mem_cons_of_mem _ (List.mem_cons_self ..)), h, ?_⟩
      refine O_append h₃ (by first | lia | omega) fun H₄ h₄ e₄ => ?_
      exact hres c H₄ hc h₄ (popped (popped (popped e₁ e₂) e₃) e₄)
    cases h with
    | long s =>
      have hs := okv_str (hv _ (List.mem_cons_self ..))
      refine O_recv h₁ rfl ?_
      refine O_pop h₁ fun H₂ h₂ e₂ => ?_
      refine O_recv h₂ rfl ?_
      refine O_lenS (by first | lia | omega) ?_
      refine O_append h₂ (by first | lia | omega) fun H₃ h₃ e₃ => ?_
      exact hres c H₃ hc h₃ (popped (popped e₁ e₂) e₃)
    | «show» s =>
      have hs := okv_int (hv _ (List.mem_cons_self ..))
      have h2 : 1000000000 ≤ (10 : Nat) ^ 18 := by decide
      refine O_recv h₁ rfl ?_
      refine O_pop h₁ fun H₂ h₂ e₂ => ?_
      refine O_recv h₂ rfl ?_
      refine O_strI (by first | lia | omega) ?_
      refine O_append h₂ (by first | lia | omega) fun H₃ h₃ e₃ => ?_
      exact hres c H₃ hc h₃ (popped (popped e₁ e₂) e₃)
    | add => exact two _ _ rfl
    | mul => exact two _ _ rfl
    | less => exact two _ _ rfl
    | join => exact two _ _ rfl
end Mine
end
section
open PySem PySem.W PySem.Calls PyProof.Rows
namespace Mine
set_option autoImplicit false

theorem zip_any : ∀ {ts us : List Str}, us.length = ts.length → (∀ s ∈ ts, s ≠ ("" : Str)) → (ts.zip us).any (fun p => !(p.1 == ("" : Str)) && !(p.1 == p.2)) = !decide (us = ts)
  | [], [], _, _ => rfl
  | [], _ :: _, h, _ => by simp at h
  | _ :: _, [], h, _ => by simp at h
  | t :: ts, u :: us, h, hn => by
    have ih := zip_any (ts := ts) (us := us) (by simpa using h) fun s hs => hn s (List.mem_cons_of_mem _ hs)
    have ht := hn t (List.mem_cons_self ..)
    rw [List.zip_cons_cons, List.any_cons, ih]
    by_cases q : t = u
    · subst q
      simp
    · have q' : ¬ (u = t) := fun e => q e.symm
      simp [ht, q, q']
theorem lack_take {pre us ws : List Str} (h : us.length = ws.length) : lackS (pre ++ us) ws = if (ws.zip us).any (fun p => !(p.1 == ("" : Str)) && !(p.1 == p.2)) then ("kind" : Str) else ("" : Str) := by
  unfold lackS
  rw [if_neg (by simp; first | lia | omega)]
  rw [show (pre ++ us).length - ws.length = pre.length by simp; first | lia | omega, List.drop_left]
theorem lack_few {ks ws : List Str} (h : ks.length < ws.length) : lackS ks ws = "empty" := by unfold lackS; rw [if_pos h]
theorem lack_free {ks : List Str} {n : Nat} (h : n ≤ ks.length) : lackS ks (List.replicate n "") = "" := by
  refine lack_none (by simpa using h) fun i x y hx _ => .inl ?_
  have := List.mem_of_getElem? hx
  exact (List.mem_replicate.mp this).2
theorem show_len {i : Int} (h0 : 0 ≤ i) (h1 : i < 1000000000) : (Str.ofString (toString i)).length ≤ 60 := by
  obtain ⟨n, rfl⟩ := Int.eq_ofNat_of_zero_le h0
  rw [Str.ofString_eq_toList]
  show (((toString (n : Int)).toList.map Char.toNat).toArray).size ≤ 60
  have e : toString (n : Int) = n.repr := rfl
  rw [e]
  simp only [List.size_toArray, List.length_map]
  have h2 : n.repr.length ≤ 60 := by
    rw [Nat.length_repr_le_iff (by first | lia | omega)]
    have : (10 : Nat) ^ 60 = 1000000000000000000000000000000000000000000000000000000000000 := by decide
    omega
  rw [String.length_toList]; exact h2
theorem cut60_len (s : Str) : (cut60 s).length ≤ 60 := by
  show (((s.cps.toList.take (cutAt s.length 60))).toArray).size ≤ 60
  have : cutAt s.length 60 ≤ 60 := by unfold cutAt; rw [if_pos (by first | lia | omega)]; omega
  simp; omega
theorem takes_ne {w : W} {ts : List Str} (ht : takesS w = some ts) : ∀ s ∈ ts, s ≠ ("" : Str) := by
  have h1 : ∀ s ∈ (["num", "num"] : List Str), s ≠ ("" : Str) := by decide +kernel
  have h2 : ∀ s ∈ (["text", "text"] : List Str), s ≠ ("" : Str) := by decide +kernel
  have h3 : ∀ s ∈ (["text"] : List Str), s ≠ ("" : Str) := by decide +kernel
  have h4 : ∀ s ∈ (["num"] : List Str), s ≠ ("" : Str) := by decide +kernel
  cases w <;> cases ht
  · exact h1
  · exact h1
  · exact h1
  · exact h2
  · exact h3
  · exact h4
noncomputable def wordR : Except Nat (List PV) → Str
  | .ok _ => ""
  | .error e => wordE e
theorem lack_res {w : W} {st : List PV} {o : Except Nat (List PV)} (h : Res w st o) : lackS (st.map kindS) (wantedS w) = wordR o := by
  cases h with
  | num i st => exact lack_free (n := 0) (Nat.zero_le _)
  | text s st => exact lack_free (n := 0) (Nat.zero_le _)
  | @copy n a b v hb => exact lack_free (n := n + 1) (by rw [List.length_map, List.length_append, List.length_cons, hb]; exact Nat.le_add_left _ _)
  | swap st x y => exact lack_free (n := 2) (by rw [List.length_map, List.length_append]; exact Nat.le_add_left _ _)
  | drop st x => exact lack_free (n := 1) (by rw [List.length_map, List.length_append]; exact Nat.le_add_left _ _)
  | @cal w vs v st h =>
    rw [List.map_append, wants_eq h.takes, lack_take rfl, zip_any rfl (takes_ne h.takes), decide_eq_true rfl]; rfl
  | few h => exact lack_few (by rw [List.length_map]; exact h)
  | kind st vs ht hl hne =>
    rw [List.map_append, wants_eq ht, lack_take (by rw [List.length_map]; exact hl), zip_any (by rw [List.length_map]; exact hl) (takes_ne ht), decide_eq_false hne]; rfl
theorem Cal.ex {w : W} {ts : List Str} {vs : List PV} (ht : takesS w = some ts) (hk : vs.map kindS = ts) (ok : ∀ v ∈ vs, Okv v) : ∃ v, Cal w vs v := by
  have one : ∀ s : Str, vs.map kindS = [s] → ∃ x, vs = [x] ∧ kindS x = s ∧ Okv x := fun s h => by
    obtain ⟨x, rfl⟩ := rev_one (l := vs) (by have := congrArg List.length h; rwa [List.length_map] at this)
    exact ⟨x, rfl, (List.cons.inj h).1, ok x (List.mem_cons_self ..)⟩
  have two : ∀ s : Str, vs.map kindS = [s, s] → ∃ x y, vs = [x, y] ∧ kindS x = s ∧ kindS y = s ∧ Okv x ∧ Okv y := fun s h => by
    obtain ⟨x, y, rfl⟩ := rev_two (l := vs) (by have := congrArg List.length h; rwa [List.length_map] at this)
    exact ⟨x, y, rfl, (List.cons.inj h).1, (List.cons.inj (List.cons.inj h).2).1, ok x (List.mem_cons_self ..), ok y (List.mem_cons_of_mem _ (List.mem_cons_self ..))⟩
  cases w <;> cases ht
  · obtain ⟨x, y, rfl, h1, h2, o1, o2⟩ := two _ hk
    obtain ⟨i, rfl, _⟩ := okv_num o1 h1
    obtain ⟨j, rfl, _⟩ := okv_num o2 h2
    exact ⟨_, .add i j⟩
  · obtain ⟨x, y, rfl, h1, h2, o1, o2⟩ := two _ hk
    obtain ⟨i, rfl, _⟩ := okv_num o1 h1
    obtain ⟨j, rfl, _⟩ := okv_num o2 h2
    exact ⟨_, .mul i j⟩
  · obtain ⟨x, y, rfl, h1, h2, o1, o2⟩ := two _ hk
    obtain ⟨i, rfl, _⟩ := okv_num o1 h1
    obtain ⟨j, rfl, _⟩ := okv_num o2 h2
    exact ⟨_, .less i j⟩
  · obtain ⟨x, y, rfl, h1, h2, o1, o2⟩ := two _ hk
    obtain ⟨i, rfl, _⟩ := okv_text o1 h1
    obtain ⟨j, rfl, _⟩ := okv_text o2 h2
    exact ⟨_, .join i j⟩
  · obtain ⟨x, rfl, h1, o1⟩ := one _ hk
    obtain ⟨i, rfl, _⟩ := okv_text o1 h1
    exact ⟨_, .long i⟩
  · obtain ⟨x, rfl, h1, o1⟩ := one _ hk
    obtain ⟨i, rfl, _⟩ := okv_num o1 h1
    exact ⟨_, .show i⟩
theorem Res.total (w : W) {st : List PV} (ok : ∀ v ∈ st, Okv v) : ∃ o, Res w st o := by
  by_cases hl : st.length < (wantedS w).length
  · exact ⟨_, .few hl⟩
  replace hl := Nat.not_lt.mp hl
  have tk : ∀ ts, takesS w = some ts → ∃ o, Res w st o := fun ts ht => by
    rw [wants_eq ht] at hl
    obtain ⟨pre, vs, rfl, hv⟩ := split_atG hl
    by_cases hk : vs.map kindS = ts
    · obtain ⟨v, hv⟩ := Cal.ex ht hk fun v h => ok v (List.mem_append.mpr (.inr h))
      exact ⟨_, .cal pre hv⟩
    · exact ⟨_, .kind pre vs ht hv hk⟩
  cases w with
  | num i => exact ⟨_, .num i st⟩
  | text s => exact ⟨_, .text s st⟩
  | copy n =>
    rw [wanted_copy] at hl
    obtain ⟨pre, vs, rfl, hv⟩ := split_atG hl
    cases vs with
    | nil => cases hv
    | cons v b => exact ⟨_, .copy pre b v (Nat.succ.inj hv)⟩
  | swap =>
    obtain ⟨pre, vs, rfl, hv⟩ := split_atG hl
    obtain ⟨x, y, rfl⟩ := rev_two hv
    exact ⟨_, .swap pre x y⟩
  | drop =>
    obtain ⟨pre, vs, rfl, hv⟩ := split_atG hl
    obtain ⟨x, rfl⟩ := rev_one hv
    exact ⟨_, .drop pre x⟩
  | _ => exact tk _ rfl
theorem StOk.app {m : Nat} {st : List PV} {v : PV} (h : StOk m st) (hv : Okv v) : StOk (m + 1) (st ++ [v]) := ⟨fun x hx => by
  rcases List.mem_append.mp hx with hx | hx
  · exact h.ok x hx
  · rw [List.mem_singleton.mp hx]; exact hv, by rw [List.length_append]; exact Nat.succ_le_succ h.len⟩
theorem StOk.pre {m : Nat} {a b : List PV} (h : StOk m (a ++ b)) : StOk m a := ⟨fun x hx => h.ok x (List.mem_append.mpr (.inl hx)), Nat.le_trans (by rw [List.length_append]; exact Nat.le_add_right _ _) h.len⟩
theorem Cal.okv {w : W} {vs : List PV} {v : PV} (h : Cal w vs v) (ok : ∀ x ∈ vs, Okv x) : Okv v := by
  have md : ∀ a : Int, Okv (.int (a % 1000000000)) := fun a => .inl ⟨_, rfl, mod_lt (by decide)⟩
  cases h with
  | add a b => exact md _
  | mul a b => exact md _
  | less a b => exact .inl ⟨_, rfl, by split <;> decide⟩
  | join a b => exact .inr ⟨_, rfl, cut60_len _⟩
  | long s =>
    have := okv_str (ok _ (List.mem_cons_self ..))
    exact .inl ⟨_, rfl, by first | lia | omega, by first | lia | omega⟩
  | «show» i =>
    have := okv_int (ok _ (List.mem_cons_self ..))
    exact .inr ⟨_, rfl, show_len this.1 this.2⟩
theorem Res.okv {w : W} {st ys : List PV} {m : Nat} (h : Res w st (.ok ys)) (hw : w.ok) (hs : StOk m st) : StOk (m + 1) ys := by
  generalize ho : Except.ok ys = o at h
  cases h with
  | num i st => cases ho; exact hs.app (.inl ⟨i, rfl, hw⟩)
  | text s st => cases ho; exact hs.app (.inr ⟨s, rfl, hw⟩)
  | copy a b v hb => cases ho; exact hs.app (hs.ok v (List.mem_append.mpr (.inr (List.mem_cons_self ..))))
  | swap st x y =>
    cases ho
    refine ⟨fun v hv => hs.ok v ?_, Nat.le_succ_of_le (by have := hs.len; rw [List.length_append] at this ⊢; exact this)⟩
    rcases List.mem_append.mp hv with hv | hv
    · exact List.mem_append.mpr (.inl hv)
    · refine List.mem_append.mpr (.inr ?_)
      rcases List.mem_cons.mp hv with rfl | hv
      · exact List.mem_cons_of_mem _ (List.mem_cons_self ..)
      · rw [List.mem_singleton.mp hv]; exact List.mem_cons_self ..
  | drop st x => cases ho; exact ⟨hs.pre.ok, Nat.le_succ_of_le hs.pre.len⟩
  | cal st h => cases ho; exact hs.pre.app (h.okv fun x hx => hs.ok x (List.mem_append.mpr (.inr hx)))
  | few => cases ho
  | kind => cases ho
/-! frames -/
section
variable {rw' : Str → List Rw} {fs : Frs} {f : Str × Nat}
theorem setl_nil : setl rw' [] = [] := rfl
theorem setl_fin (h : fin rw' f = true) : setl rw' (fs ++ [f]) = setl rw' fs := by
  unfold setl
  rw [List.reverse_append]
  show ((f :: fs.reverse).dropWhile (fin rw')).reverse = _
  rw [List.dropWhile_cons_of_pos h]
theorem setl_stop (h : fin rw' f = false) : setl rw' (fs ++ [f]) = fs ++ [f] := by
  unfold setl
  rw [List.reverse_append]
  show ((f :: fs.reverse).dropWhile (fin rw')).reverse = _
  rw [List.dropWhile_cons_of_neg (by rw [h]; decide), List.reverse_cons, List.reverse_reverse]
structure FrI (ns : List Str) (rw : Str → List Rw) (m : Nat) (fr : Frs) : Prop where
  names : ∀ f ∈ fr, f.1 ∈ ns ∧ f.2 ≤ (rw f.1).length
  len : fr.length ≤ m
theorem FrI.setl {ns : List Str} {m : Nat} (h : FrI ns rw' m fs) : FrI ns rw' m (Mine.setl rw' fs) ∧ ∀ pre f, Mine.setl rw' fs = pre ++ [f] → fin rw' f = false := by
  induction hl : fs.length generalizing fs with
  | zero => rw [List.length_eq_zero_iff.mp hl]; exact ⟨⟨fun _ h => (nomatch h), Nat.zero_le _⟩, fun pre f q => by cases pre <;> cases q⟩
  | succ k ih =>
    rcases List.eq_nil_or_concat fs with rfl | ⟨gs, g, rfl⟩
    · cases hl
    rw [List.concat_eq_append] at *
    cases hf : fin rw' g with
    | true =>
      rw [setl_fin hf]
      have hl' : gs.length = k := by rw [List.length_append] at hl; exact Nat.succ.inj hl
      exact ih ⟨fun f hf => h.names f (List.mem_append.mpr (.inl hf)), Nat.le_trans (by rw [List.length_append]; exact Nat.le_add_right _ _) h.len⟩ hl'
    | false =>
      rw [setl_stop hf]
      refine ⟨h, fun pre f q => ?_⟩
      have := (List.append_inj' q rfl).2
      cases this
      exact hf
end
end Mine
end
section
open PySem PySem.W PySem.Calls PyProof.Rows
namespace Mine
set_option autoImplicit false

set_option maxHeartbeats 1000000 in
theorem alike_ok : Ver spAlike B_law_alike N_law_alike 2 := by
  intro ps H Q X h
  have hL : LIM = 1048576 := rfl
  obtain ⟨a, b, vs, rfl, ha, hb, ⟨hv, hl⟩, hQ⟩ := h
  refine ⟨rfl, ?_⟩
  refine O_isL ha rfl ?_
  refine O_lenL ha ?_
  refine O_lenL hb ?_
  refine I_neg (by rw [beq_self_eq_true]; decide) ?_
  refine O_lenL hb ?_
  refine O_range (by first | lia | omega) ?_
  refine forR (fun j m H' => Ex1 fun (x : Option PV) => An2 (m = [some (.obj a), some (.obj b), x]) (H' = H)) ?_ ?_ _ _ ⟨none, rfl, rfl⟩
  · rintro m H' ⟨x, rfl, rfl⟩
    have : EqT H' (.obj a) (.obj b) true := .val (.list (n := 39) ha hb (atoms_same fun v h => by
      rcases hv v h with ⟨i, rfl, _⟩ | ⟨s, rfl, _⟩
      · exact .inr ⟨_, rfl⟩
      · exact .inl ⟨_, rfl⟩))
    exact CmpW.eq this hQ
  · rintro j m H' hj ⟨x, rfl, rfl⟩ K hK
    rw [Int.toNat_natCast] at hj
    have g : vs[j]? = some vs[j] := List.getElem?_eq_getElem hj
    have hok := hv _ (List.getElem_mem hj)
    generalize vs[j] = v at g hok
    have g1 : itemAt vs (j : Int) = some v := itemAt_nat rfl g
    refine O_subL hb g1 ?_
    rcases hok with ⟨i, rfl, _⟩ | ⟨s, rfl, _⟩
    · refine O_subL ha g1 ?_
      refine CmpW.ne (.val (EqV.bool false false)) ?_
      refine O_subL hb g1 ?_
      refine O_subL ha g1 ?_
      refine O_subL ha g1 ?_
      exact hK _ _ ⟨_, rfl, rfl⟩
    · refine O_subL ha g1 ?_
      refine CmpW.ne (.val (EqV.bool true true)) ?_
      refine O_subL hb g1 ?_
      exact hK _ _ ⟨_, rfl, rfl⟩
theorem pick6 {r : Int} (r0 : 0 ≤ r) (r1 : r < 6) : ∃ i : Int, itemAt [PV.int 0, PV.int 0, PV.int 0, PV.int 0, PV.int 0, PV.int 60] r = some (.int i) ∧ 0 ≤ i ∧ i ≤ 60 := by
  have : r = 0 ∨ r = 1 ∨ r = 2 ∨ r = 3 ∨ r = 4 ∨ r = 5 := by first | lia | omega
  rcases this with rfl | rfl | rfl | rfl | rfl | rfl
  · exact ⟨0, rfl, by decide, by decide⟩
  · exact ⟨0, rfl, by decide, by decide⟩
  · exact ⟨0, rfl, by decide, by decide⟩
  · exact ⟨0, rfl, by decide, by decide⟩
  · exact ⟨0, rfl, by decide, by decide⟩
  · exact ⟨60, rfl, by decide, by decide⟩
theorem comp_vals {src : AHeap → Prop} {el : PV → (List PV → AHeap → Prop) → AHeap → Prop} {Q : List PV → AHeap → Prop} {H : AHeap} {t : Addr} (hs : ∀ H', ExtB t H H' → src H') : ∀ {ss : List Str} {vs : List PV} {H₁ : AHeap} {k n : Nat},
    (∀ s ∈ ss, ∀ k H', k ≤ n → H' t = some (.tape k) → ∀ K : List PV → AHeap → Prop, (∀ v H'', Okv v → H'' t = some (.tape (k + 2)) → ExtB t H' H'' → K [v] H'') → el (.str s) K H') →
    (∀ vs' H' k, (∀ v ∈ vs', Okv v) → vs'.length = vs.length + ss.length → k ≤ n → H' t = some (.tape k) → ExtB t H H' → Q vs' H') → (∀ v ∈ vs, Okv v) → k + 2 * ss.length ≤ n → H₁ t = some (.tape k) → ExtB t H H₁ → compW src el Q (ss.map .str) vs H₁
  | [], vs, H₁, k, n, hel, hQ, h1, h3, h4, h5 => ⟨hs _ h5, hQ vs H₁ k h1 rfl h3 h4 h5⟩
  | s :: ss, vs, H₁, k, n, hel, hQ, h1, h3, h4, h5 => by
    rw [List.length_cons] at h3
    refine ⟨hs _ h5, hel s (List.mem_cons_self ..) k H₁ (by first | lia | omega) h4 _ fun v H₂ hv t₂ e₂ => ?_⟩
    refine comp_vals hs (n := n) (fun s hs => hel s (List.mem_cons_of_mem _ hs)) (fun vs' H' k hv' hl hk ht he => hQ vs' H' k hv' (by rw [hl, List.length_append, List.length_singleton, List.length_cons]; first | lia | omega) hk ht he) (fun x hx => ?_) (by first | lia | omega) t₂ (h5.trans e₂)
    rcases List.mem_append.mp hx with hx | hx
    · exact h1 x hx
    · rw [List.mem_singleton.mp hx]; exact hv
set_option maxHeartbeats 1000000 in
theorem ontop_ok : Ver spOnTop B_law_on_top N_law_on_top 3 := by
  intro ps H Q X h
  have hL : LIM = 1048576 := rfl
  obtain ⟨xs, t, n, ks, rfl, hx, ht, hn, hkl, hQ⟩ := h
  have hB : (2 : Nat) ^ 51 + 1000 ≤ 2 ^ 58 := by decide
  have hB1 : (2 : Nat) ^ 58 ≤ 2 ^ 59 := by decide
  refine ⟨rfl, ?_⟩
  refine U_draw ⟨xs, t, _, n, rfl, hx, ht, by first | lia | omega, by decide, fun a H₁ a0 a1 t₁ e₁ => ?_⟩
  refine fun z H₂ hz h₂ e₂ => ?_
  refine U_draw ⟨xs, t, _, n + 1, rfl, hx, e₂.at t₁, by first | lia | omega, by decide, fun c H₃ c0 c1 t₃ e₃ => ?_⟩
  obtain ⟨i, hi, i0, i1⟩ := pick6 c0 c1
  refine O_subL (e₃.at (Ne.symm (ne_of t₁ hz)) h₂) hi ?_
  have x₃ : ExtB t H H₃ := (e₁.trans (e₂.toB t)).trans e₃
  clear h₂ e₂ e₃ hz e₁ t₁ hi c0 c1
  refine fun b H₄ hb h₄ e₄ => ?_
  have hbt : b ≠ t := Ne.symm (ne_of t₃ hb)
  have hbH : H b = none := fresh_of x₃ t₃ hb
  refine O_range (by first | lia | omega) ?_
  refine forR (fun j m H' => Ex3 fun (vs : List PV) (n' : Nat) (x : Option PV) => An7 (m = [some (.fls xs), some (.obj t), some (.tup (ks.map .str)), some (.int (a + i)), some (.obj b), x, none]) (vs.length = j) (∀ v ∈ vs, Okv v) (H' b = some (.list vs)) (n' ≤ n + 2 + 3 * j) (H' t = some (.tape n')) (ExtB t H H')) ?_ ?_ _ _
    ⟨[], n + 2, none, rfl, rfl, fun _ h => (nomatch h), h₄, by first | lia | omega, e₄.at t₃, x₃.trans (e₄.toB t)⟩
  · rintro m H₅ ⟨vs, n', x, rfl, hvl, hv, b₅, hn', t₅, x₅⟩
    have hj : vs.length ≤ 63 := by rw [hvl]; first | lia | omega
    replace hn' : n' ≤ n + 200 := by first | lia | omega
    refine comp_vals (t := t) (H := H₅) (n := n + 400) (fun _ _ => trivial) (fun s hs k H' hk t' K hK => ?_) (fun vs' H' k hv' hl hk t' e' => ?_) (fun _ h => (nomatch h)) (by first | lia | omega) t₅ (fun _ _ _ h => h)
    · exact U_value ⟨xs, t, s, k, rfl, hx, t', by first | lia | omega, fun v H'' hv _ t'' e'' => hK v H'' hv t'' e''⟩
    · rw [List.length_nil, Nat.zero_add] at hl
      refine fun c H₆ hc h₆ e₆ => ?_
      refine O_addL (e₆.at (e'.at hbt b₅)) h₆ (by first | lia | omega) fun d H₇ hd h₇ e₇ => ?_
      have x₆ := (x₅.trans e').trans (e₆.toB t)
      refine hQ d (vs ++ vs') k H₇ ⟨fun v h => ?_, by rw [List.length_append]; first | lia | omega⟩ (by first | lia | omega) (fresh_of x₆ (e₆.at t') hd) h₇ (e₇.at (e₆.at t')) (x₆.trans (e₇.toB t))
      rcases List.mem_append.mp h with h | h
      · exact hv v h
      · exact hv' v h
  · rintro j m H₅ hj ⟨vs, n', x, rfl, hvl, hv, b₅, hn', t₅, x₅⟩ K hK
    have hj2 : j ≤ 63 := by first | lia | omega
    refine O_recv b₅ rfl ?_
    refine fun z H₆ hz h₆ e₆ => ?_
    refine U_draw ⟨xs, t, _, n', rfl, hx, e₆.at t₅, by first | lia | omega, by decide, fun y H₇ y0 y1 t₇ e₇ => ?_⟩
    obtain ⟨s, hs, _⟩ := kind_ne y0 y1
    refine O_subL (e₇.at (Ne.symm (ne_of t₅ hz)) h₆) hs ?_
    refine U_value ⟨xs, t, s, n' + 1, rfl, hx, t₇, by first | lia | omega, fun v H₈ hv' _ t₈ e₈ => ?_⟩
    refine O_append (e₈.at hbt (e₇.at hbt (e₆.at b₅))) (by rw [hvl]; first | lia | omega) fun H₉ h₉ e₉ => ?_
    refine hK _ _ ⟨vs ++ [v], n' + 3, _, rfl, by rw [List.length_append, hvl]; rfl, fun w hw => ?_, h₉, by first | lia | omega, e₉.at (Ne.symm hbt) t₈, ExtB.over hbH (((x₅.trans (e₆.toB t)).trans e₇).trans e₈) e₉⟩
    rcases List.mem_append.mp hw with hw | hw
    · exact hv w hw
    · rw [List.mem_singleton.mp hw]; exact hv'
end Mine
end
section
open PySem PySem.W PySem.Calls PyProof.Rows
namespace Mine
set_option autoImplicit false

theorem MA_p (p s f : Addr) : dget (MA p s f) "program" = some (.obj p) := by kernel_rfl
theorem MA_s (p s f : Addr) : dget (MA p s f) "stack" = some (.obj s) := by kernel_rfl
theorem MA_f (p s f : Addr) : dget (MA p s f) "frames" = some (.obj f) := by kernel_rfl
theorem MA_over (p s f : Addr) : dget (MA p s f) "over" = none := by kernel_rfl
theorem MA_step (p s f : Addr) : dget (MA p s f) "step" = none := by kernel_rfl
theorem MA_settle (p s f : Addr) : dget (MA p s f) "settle" = none := by kernel_rfl
theorem MA_goal (p s f : Addr) : dget (MA p s f) "goal_of" = none := by kernel_rfl
theorem MA_fs (p s f f' : Addr) : dset (MA p s f) "frames" (.obj f') = MA p s f' := by kernel_rfl
theorem MA_ss (p s f s' : Addr) : dset (MA p s f) "stack" (.obj s') = MA p s' f := by kernel_rfl
theorem last_at {α : Type} (xs : List α) (x : α) : itemAt (xs ++ [x]) (-1) = some x := by
  unfold itemAt
  rw [if_neg (by decide), if_pos (by rw [List.length_append, List.length_singleton]; first | lia | omega), List.length_append, List.length_singleton, show ((-1 : Int) + ((xs.length + 1 : Nat) : Int)).toNat = xs.length by first | lia | omega]
  simp
theorem cut_last {α : Type} (xs : List α) (x : α) : (xs ++ [x]).take (cutAt (xs ++ [x]).length (-1)) = xs := by
  unfold cutAt
  rw [if_neg (by decide), List.length_append, List.length_singleton, show ((-1 : Int) + ((xs.length + 1 : Nat) : Int)).toNat = xs.length by first | lia | omega]
  simp
theorem fr_app (a b : Frs) : frPV (a ++ b) = frPV a ++ frPV b := by unfold frPV; rw [List.map_append]
theorem fr_one (f : Str × Nat) : frPV [f] = [.tup [.str f.1, .int f.2]] := rfl
theorem over_ok : Ver spOver B_Machine_over N_Machine_over 1 := by
  intro ps H Q X h
  obtain ⟨F, a, d, p, st, fr, rfl, ⟨sA, fA, ha, hd, hs, hf, hF⟩, hQ⟩ := h
  refine ⟨rfl, ?_⟩
  refine O_attr ha hd (MA_f ..) ?_
  refine O_lenL hf ?_
  have : (((frPV fr).length : Int) == 0) = fr.isEmpty := by
    cases fr with
    | nil => rfl
    | cons f fr => rfl
  rw [← this] at hQ
  exact hQ
theorem Pg.stepA {N : Nat} {H H' : AHeap} {p d : Addr} {kvs' : List (Str × PV)} {es : Pr} {rw' : Str → List Rw} (h : Pg N H p es rw') (hd : H d = some (.attrs kvs')) (e : ExtB d H H') : Pg N H' p es rw' :=
  ⟨e.at (fun q => by have h1 := h.ha; rw [q, hd] at h1; cases h1) h.ha, h.ok, h.ne, fun q hq => let ⟨h1, a, h2, h3⟩ := h.rows q hq; ⟨h1, a, h2, e.at (fun q => by rw [q, hd] at h3; cases h3) h3⟩⟩
theorem fr_len (fr : Frs) : (frPV fr).length = fr.length := by unfold frPV; rw [List.length_map]
theorem FrOk.pre {ns : List Str} {a b : Frs} (h : FrOk ns (a ++ b)) : FrOk ns a := ⟨fun f hf => h.names f (List.mem_append.mpr (.inl hf)), Nat.le_trans (by rw [List.length_append]; exact Nat.le_add_right _ _) h.len⟩
section
variable {H : AHeap} {p : Addr} {es : Pr} {rw' : Str → List Rw} {fs : Frs} {f : Str × Nat}
theorem top_at (hp : Pg 450000 H p es rw') (hn : ∀ g ∈ fs ++ [f], g.1 ∈ nmsP es) : ∃ i o b, dget (kvsP es) f.1 = some (blk (i, o, [.obj b])) ∧ H b = some (.list (rowsPV (rw' f.1))) ∧ itemAt (frPV (fs ++ [f])) (-1) = some (.tup [.str f.1, .int f.2]) ∧ decide ((0 : Int) < ((frPV (fs ++ [f])).length : Int)) = true := by
  obtain ⟨i, o, b, h1, h2, _⟩ := hp.find (hn f (List.mem_append.mpr (.inr (List.mem_singleton.mpr rfl))))
  exact ⟨i, o, b, h1, h2, by rw [fr_app, fr_one]; exact last_at _ _, decide_eq_true (by rw [fr_len, List.length_append]; show (0 : Int) < ((fs.length + 1 : Nat) : Int); first | lia | omega)⟩
theorem fin_eq (f : Str × Nat) : ((f.2 : Int) == ((rowsPV (rw' f.1)).length : Int)) = fin rw' f := by
  unfold fin
  rw [rowsPV_len, Bool.eq_iff_iff, beq_iff_eq, beq_iff_eq]
  exact Int.ofNat_inj
end
set_option maxHeartbeats 1000000 in
theorem settle_ok : Ver spSettle B_Machine_settle N_Machine_settle 1 := by
  intro ps H Q X h
  obtain ⟨F, a, d, p, st, fr, es, rw', rfl, hm, hp, hn, hQ⟩ := h
  refine ⟨rfl, ?_⟩
  obtain ⟨o₀, hd₀⟩ : ∃ o, H d = some (.attrs o) := by obtain ⟨_, _, _, hd, _⟩ := hm; exact ⟨_, hd⟩
  refine ⟨fun z m H' => Ex1 fun (gs : Frs) => An6 (z = gs.length) (m = [some (.obj a)]) (Mch H' F a d p st gs) (∀ g ∈ gs, g.1 ∈ nmsP es) (setl rw' gs = setl rw' fr) (ExtB d H H'), ⟨_, fr, rfl, rfl, hm, hn, rfl, fun _ _ _ h => h⟩, ?_⟩
  clear hn hm
  rintro z m H' ⟨gs, rfl, rfl, ⟨sA, fA, ha, hd, hs, hf, hF⟩, hn, hse, e'⟩
  have hp' := hp.stepA hd₀ e'
  refine O_attr ha hd (MA_f ..) ?_
  refine O_lenL hf ?_
  rcases List.eq_nil_or_concat gs with rfl | ⟨fs, f, rfl⟩
  · exact hQ H' (by rw [← hse]; exact ⟨sA, fA, ha, hd, hs, hf, hF⟩) e'
  rw [List.concat_eq_append] at *
  obtain ⟨i, o, b, h1, h2, h3, h4⟩ := top_at hp' hn
  refine I_pos h4 ?_
  refine O_attr ha hd (MA_f ..) ?_
  refine O_subL hf h3 ?_
  refine O_attr ha hd (MA_p ..) ?_
  refine O_attr ha hd (MA_f ..) ?_
  refine O_subL hf h3 ?_
  refine O_subD hp'.ha h1 ?_
  refine O_lenL h2 ?_
  cases hfi : fin rw' f with
  | false =>
    refine I_neg (by rw [fin_eq, hfi]; decide) ?_
    refine hQ H' ?_ e'
    rw [← hse, setl_stop hfi]
    exact ⟨sA, fA, ha, hd, hs, hf, hF⟩
  | true =>
    refine I_pos (by rw [fin_eq, hfi]) ?_
    refine O_attr ha hd (MA_f ..) ?_
    refine O_toL hf fun c H₁ hc h₁ e₁ => ?_
    rw [fr_app, fr_one, cut_last] at h₁
    refine O_sattr (e₁.at ha) (e₁.at hd) (Nat.le_of_ble_eq_true rfl) fun H₂ h₂ e₂ => ?_
    rw [MA_fs] at h₂
    have hne : ∀ {x : Addr} {o : AObj}, H' x = some o → (∀ k, o ≠ .attrs k) → x ≠ d := fun h n q => by rw [q, hd] at h; exact n _ (Option.some.inj h).symm
    exact ⟨fs.length, by rw [List.length_append]; exact Nat.lt_succ_self _, fs, rfl, rfl, ⟨sA, c, e₂.at (hne ha (fun _ q => nomatch q)) (e₁.at ha), h₂, e₂.at (hne hs (fun _ q => nomatch q)) (e₁.at hs), e₂.at (Ne.symm (ne_of hd hc)) h₁, hF⟩, fun g hg => hn g (List.mem_append.mpr (.inl hg)), by rw [← hse, setl_fin hfi], fun x v hx h => e₂.at hx (e₁.at (e'.at hx h))⟩
theorem left_ok : Ver spLeft B_law_left N_law_left 2 := by
  intro ps H Q X h
  obtain ⟨p, a, fr, es, rw', rfl, ha, hp, hn, hQ⟩ := h
  refine ⟨rfl, ?_⟩
  refine O_listL ha fun c H₁ hc h₁ e₁ => ?_
  refine ⟨fun z m H' => Ex2 fun (gs : Frs) (c : Addr) => An7 (z = gs.length) (m = [some (.obj p), some (.obj a), some (.obj c)]) (H' c = some (.list (frPV gs))) (H c = none) (∀ g ∈ gs, g.1 ∈ nmsP es) (setl rw' gs = setl rw' fr) (Ext H H'), ⟨_, fr, c, rfl, rfl, h₁, hc, hn, rfl, e₁⟩, ?_⟩
  clear hn h₁ e₁ hc c
  rintro z m H' ⟨gs, c, rfl, rfl, hf, hc, hn, hse, e'⟩
  have hp' := hp.ext e'
  refine O_lenL hf ?_
  rcases List.eq_nil_or_concat gs with rfl | ⟨fs, f, rfl⟩
  · exact hQ c H' hc (by rw [← hse]; exact hf) e'
  rw [List.concat_eq_append] at *
  obtain ⟨i, o, b, h1, h2, h3, h4⟩ := top_at hp' hn
  refine I_pos h4 ?_
  refine O_subL hf h3 ?_
  refine O_subL hf h3 ?_
  refine O_subD hp'.ha h1 ?_
  refine O_lenL h2 ?_
  cases hfi : fin rw' f with
  | false =>
    refine I_neg (by rw [fin_eq, hfi]; decide) ?_
    exact hQ c H' hc (by rw [← hse, setl_stop hfi]; exact hf) e'
  | true =>
    refine I_pos (by rw [fin_eq, hfi]) ?_
    refine O_toL hf fun c' H₁ hc' h₁ e₁ => ?_
    rw [fr_app, fr_one, cut_last] at h₁
    exact ⟨fs.length, by rw [List.length_append]; exact Nat.lt_succ_self _, fs, c', rfl, rfl, h₁, e'.back hc', fun g hg => hn g (List.mem_append.mpr (.inl hg)), by rw [← hse, setl_fin hfi], e'.trans e₁⟩
theorem init_ok : Ver spInit B_Machine___init__ N_Machine___init__ 4 := by
  intro ps H Q X h
  obtain ⟨F, a, d, p, s, n, st, es, rw', rfl, ha, hd, hp, hF, hs, hQ, hX⟩ := h
  refine ⟨rfl, ?_⟩
  have had : a ≠ d := fun q => by rw [q, hd] at ha; cases ha
  have hsd : s ≠ d := fun q => by rw [q, hd] at hs; cases hs
  refine O_niD hp.ha ?_
  by_cases hn : n ∈ nmsP es
  · rw [hp.has hn]
    refine O_sattr ha hd (Nat.le_of_ble_eq_true rfl) fun H₁ h₁ e₁ => ?_
    refine O_listL (e₁.at hsd hs) fun c H₂ hc h₂ e₂ => ?_
    have hcd : c ≠ d := Ne.symm (ne_of h₁ hc)
    refine O_sattr (e₂.at (e₁.at had ha)) (e₂.at h₁) (Nat.le_of_ble_eq_true rfl) fun H₃ h₃ e₃ => ?_
    refine fun f H₄ hf h₄ e₄ => ?_
    have hfd : f ≠ d := Ne.symm (ne_of h₃ hf)
    have a₄ := e₄.at (e₃.at had (e₂.at (e₁.at had ha)))
    refine O_sattr a₄ (e₄.at h₃) (Nat.le_of_ble_eq_true rfl) fun H₅ h₅ e₅ => ?_
    have hma : H₅ d = some (.attrs (MA p c f)) := by rw [h₅]; exact congrArg (fun x => some (AObj.attrs x)) (by kernel_rfl)
    have x₅ : ExtB d H H₅ := fun x v hx h => e₅.at hx (e₄.at (e₃.at hx (e₂.at (e₁.at hx h))))
    have a₅ := x₅.at had ha
    refine O_umeth a₅ hma (MA_settle ..) ?_
    refine U_settle ⟨F, a, d, p, st, [(n, 0)], es, rw', rfl, ⟨c, f, a₅, hma, e₅.at hcd (e₄.at (e₃.at hcd h₂)), e₅.at hfd h₄, hF c (by cases q : H c with | none => rfl | some o => rw [e₁.at hcd q] at hc; cases hc)⟩, hp.stepA hd x₅, fun x hx => by rw [List.mem_singleton.mp hx]; exact hn, fun H₆ hm e₆ => ?_⟩
    exact hQ hn H₆ hm (fun x v hx h => e₆.at hx (x₅.at hx h))
  · rw [key_no hn]
    exact hX hn
theorem last_one {α : Type} (xs : List α) (x : α) : (xs ++ [x]).drop (cutAt (xs ++ [x]).length (-1)) = [x] := by
  unfold cutAt
  rw [if_neg (by decide), List.length_append, List.length_singleton, show ((-1 : Int) + ((xs.length + 1 : Nat) : Int)).toNat = xs.length by first | lia | omega]
  exact List.drop_left
set_option maxHeartbeats 1000000 in
theorem goalof_ok : Ver spGoalOf B_Machine_goal_of N_Machine_goal_of 2 := by
  intro ps H Q X h
  obtain ⟨F, a, d, p, r, st, fr, es, rw', o, rfl, ⟨sA, fA, ha, hd, hs, hf, hF⟩, hp, he, hst, hnp, hQ⟩ := h
  refine ⟨rfl, ?_⟩
  cases he with
  | pl => exact absurd rfl (hnp _)
  | plE => exact absurd rfl (hnp _)
  | call hn =>
    refine O_attr ha hd (MA_p ..) ?_
    refine O_niD hp.ha ?_
    rw [hp.has hn]
    exact hQ _ H rfl (Ext.refl _)
  | callN hn =>
    refine O_attr ha hd (MA_p ..) ?_
    refine O_niD hp.ha ?_
    rw [key_no hn]
    exact hQ H (Ext.refl _)
  | if0 =>
    refine O_attr ha hd (MA_s ..) ?_
    refine O_lenL hs ?_
    exact hQ H (Ext.refl _)
  | @ifT n m s pre =>
    refine O_attr ha hd (MA_s ..) ?_
    refine O_lenL hs ?_
    refine I_neg (by rw [List.length_append]; show ¬ (((pre.length + 1 : Nat) : Int) == 0) = true; rw [beq_iff_eq]; first | lia | omega) ?_
    refine O_attr ha hd (MA_s ..) ?_
    refine O_fromL hs fun c H₁ hc h₁ e₁ => ?_
    rw [last_one] at h₁
    refine U_kinds ⟨c, _, rfl, h₁, fun v hv => hst.ok v (List.mem_append.mpr (.inr hv)), Nat.le_of_ble_eq_true rfl, fun H₂ e₂ => ?_⟩
    refine O_neT (eq_strs ["text"] ["num"]) ?_
    refine I_pos (by decide +kernel) ?_
    exact hQ H₂ (e₁.trans e₂)
  | @ifG n m i pre hg =>
    have hQ' : ∀ (g : Str) H', [((if i = 0 then m else n : Str), 0)] = [(g, 0)] → Ext H H' → Q (.str g) H' := hQ
    clear hQ
    refine O_attr ha hd (MA_s ..) ?_
    refine O_lenL hs ?_
    refine I_neg (by rw [List.length_append]; show ¬ (((pre.length + 1 : Nat) : Int) == 0) = true; rw [beq_iff_eq]; first | lia | omega) ?_
    refine O_attr ha hd (MA_s ..) ?_
    refine O_fromL hs fun c H₁ hc h₁ e₁ => ?_
    rw [last_one] at h₁
    refine U_kinds ⟨c, _, rfl, h₁, fun v hv => hst.ok v (List.mem_append.mpr (.inr hv)), Nat.le_of_ble_eq_true rfl, fun H₂ e₂ => ?_⟩
    refine O_neT (eq_strs ["num"] ["num"]) ?_
    refine I_neg (by decide +kernel) ?_
    have e12 := e₁.trans e₂
    refine O_attr (e12.at ha) (e12.at hd) (MA_s ..) ?_
    refine O_subL (e12.at hs) (last_at _ _) ?_
    refine O_ite (fun h => ?_) (fun h => ?_)
    · rw [if_pos (by simpa using h)] at hg hQ'
      refine O_attr (e12.at ha) (e12.at hd) (MA_p ..) ?_
      refine O_niD (e12.at hp.ha) ?_
      rw [hp.has hg]
      exact hQ' _ H₂ rfl e12
    · rw [if_neg (by simpa using h)] at hg hQ'
      refine O_attr (e12.at ha) (e12.at hd) (MA_p ..) ?_
      refine O_niD (e12.at hp.ha) ?_
      rw [hp.has hg]
      exact hQ' _ H₂ rfl e12
  | @ifN n m i pre hg =>
    refine O_attr ha hd (MA_s ..) ?_
    refine O_lenL hs ?_
    refine I_neg (by rw [List.length_append]; show ¬ (((pre.length + 1 : Nat) : Int) == 0) = true; rw [beq_iff_eq]; first | lia | omega) ?_
    refine O_attr ha hd (MA_s ..) ?_
    refine O_fromL hs fun c H₁ hc h₁ e₁ => ?_
    rw [last_one] at h₁
    refine U_kinds ⟨c, _, rfl, h₁, fun v hv => hst.ok v (List.mem_append.mpr (.inr hv)), Nat.le_of_ble_eq_true rfl, fun H₂ e₂ => ?_⟩
    refine O_neT (eq_strs ["num"] ["num"]) ?_
    refine I_neg (by decide +kernel) ?_
    have e12 := e₁.trans e₂
    refine O_attr (e12.at ha) (e12.at hd) (MA_s ..) ?_
    refine O_subL (e12.at hs) (last_at _ _) ?_
    refine O_ite (fun h => ?_) (fun h => ?_)
    · rw [if_pos (by simpa using h)] at hg
      refine O_attr (e12.at ha) (e12.at hd) (MA_p ..) ?_
      refine O_niD (e12.at hp.ha) ?_
      rw [key_no hg]
      exact hQ H₂ e12
    · rw [if_neg (by simpa using h)] at hg
      refine O_attr (e12.at ha) (e12.at hd) (MA_p ..) ?_
      refine O_niD (e12.at hp.ha) ?_
      rw [key_no hg]
      exact hQ H₂ e12
end Mine
end
section
open PySem PySem.W PySem.Calls PyProof.Rows
namespace Mine
set_option autoImplicit false

set_option maxHeartbeats 1000000 in
theorem step_ok : Ver spStep B_Machine_step N_Machine_step 1 := by
  intro ps H Q X h
  have hL : LIM = 1048576 := rfl
  refine ⟨by cases h with | over F a d p st a0 => rw [a0]; rfl | mk F a d p st fr es rw' o a0 => rw [a0]; rfl, ?_⟩
  cases h with
  | over F a d p st a0 hm hQ =>
    subst a0
    have hm₀ := hm
    obtain ⟨sA, fA, ha, hd, hs, hf, hFs⟩ := hm
    refine O_umeth ha hd (MA_over ..) ?_
    refine U_over ⟨_, a, d, p, st, [], rfl, hm₀, ?_⟩
    exact hQ
  | mk F a d p st fr es rw' o a0 hm hF hp hfr hst hstp hQ =>
  subst a0
  have hm₀ := hm
  obtain ⟨sA, fA, ha, hd, hs, hf, hFs⟩ := hm
  refine O_umeth ha hd (MA_over ..) ?_
  refine U_over ⟨_, a, d, p, st, fr, rfl, hm₀, ?_⟩
  obtain ⟨pre, n, k, r, oe, rfl, hr, he, hQ'⟩ : ∃ pre n k r, ∃ oe : Except Nat (List PV × Frs), fr = pre ++ [(n, k)] ∧ (rw' n)[k]? = some r ∧ Eff (nmsP es) r st oe ∧ (match oe with | .ok (st', more) => ∀ H', Mch H' F a d p st' (setl rw' (pre ++ [(n, k + 1)] ++ more)) → ExtB d H H' → Q .none H' | .error e => ∀ H', Ext H H' → X e H') := by
    cases hstp with
    | @ok pre more n k r st st' hr he => exact ⟨pre, n, k, r, _, rfl, hr, he, hQ⟩
    | @err pre n k r st e hr he => exact ⟨pre, n, k, r, _, rfl, hr, he, hQ⟩
  clear hstp hQ
  rw [show (pre ++ [(n, k)]).isEmpty = false by cases pre <;> rfl]
  obtain ⟨i, o', b, h1, h2, hla, _⟩ := top_at hp hfr.names
  obtain ⟨_, _, _, _, _, hro⟩ := hp.find (hfr.names (n, k) (List.mem_append.mpr (.inr (List.mem_singleton.mpr rfl))))
  have hrok := hro.1 r (List.mem_of_getElem? hr)
  clear hro
  refine O_attr ha hd (MA_f ..) ?_
  refine O_subL hf hla ?_
  refine O_attr ha hd (MA_f ..) ?_
  refine O_subL hf hla ?_
  refine O_attr ha hd (MA_p ..) ?_
  refine O_subD hp.ha h1 ?_
  refine O_subL h2 (itemAt_nat rfl (show (rowsPV (rw' n))[k]? = some (.tup r.row) by unfold rowsPV; rw [List.getElem?_map, hr]; rfl)) ?_
  refine O_attr ha hd (MA_s ..) ?_
  refine fun mo H₁ hmo h₁ e₁ => ?_
  have hm₁ : Mch H₁ F a d p st (pre ++ [(n, k)]) := ⟨sA, fA, e₁.at ha, e₁.at hd, e₁.at hs, e₁.at hf, hFs⟩
  refine W_cut (fun m H' => Ex4 fun (s₁ m₁ : Addr) (st' : List PV) (more : Frs) => An8 (F s₁) (m = [some (.obj a), some (.str n), some (.int k), some (.tup r.row), some (.obj s₁), some (.obj m₁)]) (H' s₁ = some (.list st')) (H' m₁ = some (.list (frPV more))) (more.length ≤ 1) (∀ f ∈ more, f.1 ∈ nmsP es) (∀ H', Mch H' F a d p st' (setl rw' (pre ++ [(n, k + 1)] ++ more)) → ExtB d H H' → Q .none H') (Ext H H')) ?_ ?_
  · intro K hK
    cases he with
    | @pl w st ys hres =>
      refine O_subT w.head ?_
      refine I_neg (by rw [w.plain.1]; decide) ?_
      refine O_subT w.head ?_
      refine I_neg (by rw [w.plain.2]; decide) ?_
      exact U_done ⟨sA, _, w, _, rfl, hrok, e₁.at hs, hst, hres, fun c H' hc h' e' => hK _ _ ⟨c, mo, ys, [], hF c (e₁.back hc), rfl, h', e'.at h₁, Nat.zero_le _, fun _ h => (nomatch h), hQ', e₁.trans e'⟩⟩
    | @plE w st e hres =>
      refine O_subT w.head ?_
      refine I_neg (by rw [w.plain.1]; decide) ?_
      refine O_subT w.head ?_
      refine I_neg (by rw [w.plain.2]; decide) ?_
      exact U_done ⟨sA, _, w, _, rfl, hrok, e₁.at hs, hst, hres, fun H' e' => hQ' H' (e₁.trans e')⟩
    | @call n' st₀ hg =>
      refine O_umeth (e₁.at ha) (e₁.at hd) (MA_goal ..) ?_
      refine U_goalof ⟨_, a, d, p, _, st, _, es, rw', _, rfl, hm₁, hp.ext e₁, .call hg, hst, (fun _ q => nomatch q), fun g H₂ hg' e₂ => ?_⟩
      cases hg'
      refine fun m₁ H₃ hm' h₃ e₃ => ?_
      exact hK _ _ ⟨sA, m₁, st, [(n', 0)], hFs, rfl, e₃.at (e₂.at (e₁.at hs)), h₃, Nat.le_refl _, fun f hf => by rw [List.mem_singleton.mp hf]; exact hg, hQ', (e₁.trans e₂).trans e₃⟩
    | callN hg =>
      refine O_umeth (e₁.at ha) (e₁.at hd) (MA_goal ..) ?_
      exact U_goalof ⟨_, a, d, p, _, st, _, es, rw', _, rfl, hm₁, hp.ext e₁, .callN hg, hst, (fun _ q => nomatch q), fun H₂ e₂ => hQ' H₂ (e₁.trans e₂)⟩
    | if0 =>
      refine O_umeth (e₁.at ha) (e₁.at hd) (MA_goal ..) ?_
      exact U_goalof ⟨_, a, d, p, _, [], _, es, rw', _, rfl, hm₁, hp.ext e₁, .if0, hst, (fun _ q => nomatch q), fun H₂ e₂ => hQ' H₂ (e₁.trans e₂)⟩
    | ifT =>
      refine O_umeth (e₁.at ha) (e₁.at hd) (MA_goal ..) ?_
      exact U_goalof ⟨_, a, d, p, _, _, _, es, rw', _, rfl, hm₁, hp.ext e₁, .ifT, hst, (fun _ q => nomatch q), fun H₂ e₂ => hQ' H₂ (e₁.trans e₂)⟩
    | ifN hg =>
      refine O_umeth (e₁.at ha) (e₁.at hd) (MA_goal ..) ?_
      exact U_goalof ⟨_, a, d, p, _, _, _, es, rw', _, rfl, hm₁, hp.ext e₁, .ifN hg, hst, (fun _ q => nomatch q), fun H₂ e₂ => hQ' H₂ (e₁.trans e₂)⟩
    | @ifG n' m' i' pre' hg =>
      refine O_umeth (e₁.at ha) (e₁.at hd) (MA_goal ..) ?_
      refine U_goalof ⟨_, a, d, p, _, _, _, es, rw', _, rfl, hm₁, hp.ext e₁, .ifG hg, hst, (fun _ q => nomatch q), fun g H₂ hg' e₂ => ?_⟩
      have hgg : (if i' = 0 then m' else n') = g := congrArg Prod.fst (List.cons.inj hg').1
      refine fun m₁ H₃ hm' h₃ e₃ => ?_
      have e13 := (e₁.trans e₂).trans e₃
      refine O_toL (e13.at hs) fun s₁ H₄ hs₁ h₄ e₄ => ?_
      rw [cut_last] at h₄
      rw [← hgg] at h₃
      exact hK _ _ ⟨s₁, m₁, pre', [(if i' = 0 then m' else n', 0)], hF s₁ (e13.back hs₁), rfl, h₄, e₄.at h₃, Nat.le_refl 1, fun f hf => by rw [List.mem_singleton.mp hf]; exact hg, hQ', e13.trans e₄⟩
  clear hQ' he hm₁ h₁ e₁ hmo
  rintro m H₂ ⟨s₁, m₁, st', more, hF₁, rfl, hs₁, hm₁, hml, hmn, hQ, e₂⟩
  have hd₂ := e₂.at hd
  have ne_d : ∀ {x : Addr} {xs : List PV}, H₂ x = some (.list xs) → x ≠ d := fun h q => by rw [q, hd₂] at h; cases h
  have had : a ≠ d := fun q => by rw [q, hd] at ha; cases ha
  refine O_sattr (e₂.at ha) hd₂ (Nat.le_of_ble_eq_true rfl) fun H₃ h₃ e₃ => ?_
  rw [MA_ss] at h₃
  have a₃ := e₃.at had (e₂.at ha)
  have f₃ := e₃.at (ne_d (e₂.at hf)) (e₂.at hf)
  refine O_attr a₃ h₃ (MA_f ..) ?_
  refine O_toL f₃ fun c H₄ hc h₄ e₄ => ?_
  rw [fr_app, fr_one, cut_last] at h₄
  refine fun c₂ H₅ hc₂ h₅ e₅ => ?_
  have hfl : (frPV pre).length ≤ 1000 := by rw [fr_len]; exact hfr.pre.len
  have hml' : (frPV more).length ≤ 1 := by rw [fr_len]; exact hml
  refine O_addL (e₅.at h₄) h₅ (by rw [List.length_singleton]; first | lia | omega) fun c₃ H₆ hc₃ h₆ e₆ => ?_
  have m₃ := e₃.at (ne_d hm₁) hm₁
  refine O_addL h₆ (e₆.at (e₅.at (e₄.at m₃))) (by rw [List.length_append, List.length_singleton]; first | lia | omega) fun c₄ H₇ hc₄ h₇ e₇ => ?_
  have e37 : Ext H₃ H₇ := (((e₄.trans e₅).trans e₆).trans e₇)
  refine O_sattr (e37.at a₃) (e37.at h₃) (Nat.le_of_ble_eq_true rfl) fun H₈ h₈ e₈ => ?_
  rw [MA_fs] at h₈
  have x₈ : ExtB d H H₈ := fun x v hx h => e₈.at hx (e37.at (e₃.at hx (e₂.at h)))
  have a₈ := x₈.at had ha
  have s₈ := e₈.at (ne_d hs₁) (e37.at (e₃.at (ne_d hs₁) hs₁))
  have c₈ : H₈ c₄ = some (.list (frPV (pre ++ [(n, k + 1)] ++ more))) := by
    rw [fr_app, fr_app, fr_one]
    exact e₈.at (fun q => by rw [q, e37.at h₃] at h₇; cases h₇) h₇
  refine O_umeth a₈ h₈ (MA_settle ..) ?_
  refine U_settle ⟨F, a, d, p, st', _, es, rw', rfl, ⟨s₁, c₄, a₈, h₈, s₈, c₈, hF₁⟩, hp.stepA hd x₈, fun x hx => ?_, fun H₉ hm₉ e₉ => hQ H₉ hm₉ fun x v hx h => e₉.at hx (x₈.at hx h)⟩
  rcases List.mem_append.mp hx with hx | hx
  · rcases List.mem_append.mp hx with hx | hx
    · exact hfr.names x (List.mem_append.mpr (.inl hx))
    · rw [List.mem_singleton.mp hx]; exact hfr.names (n, k) (List.mem_append.mpr (.inr (List.mem_singleton.mpr rfl)))
  · exact hmn x hx
end Mine
end
section
open PySem PySem.W PySem.Calls PyProof.Rows
namespace Mine
set_option autoImplicit false

theorem wordE_ne (e : Nat) : (!(wordE e == ("" : Str))) = true := by
  unfold wordE
  split <;> decide +kernel
theorem kinds_last (pre : List PV) (v : PV) : (pre ++ [v]).map kindS = pre.map kindS ++ [kindS v] := by rw [List.map_append]; rfl
theorem lack_str (pre : List PV) (s : Str) : lackS ((pre ++ [PV.str s]).map kindS) ["num"] = "kind" := by
  rw [kinds_last]
  exact (lack_take (us := ["text"]) (ws := ["num"]) rfl).trans (if_pos (by decide +kernel))
theorem lack_int (pre : List PV) (i : Int) : lackS ((pre ++ [PV.int i]).map kindS) ["num"] = "" := by
  rw [kinds_last]
  exact (lack_take (us := ["num"]) (ws := ["num"]) rfl).trans (if_neg (by decide +kernel))
set_option maxHeartbeats 2000000 in
theorem stepped_ok : Ver spStepped B_law_stepped N_law_stepped 3 := by
  intro ps H Q X h
  have hL : LIM = 1048576 := rfl
  obtain ⟨p, s, f, st, fr, es, rw', o, rfl, hs, hf, hp, hfr, hst, hstp, hQ⟩ := h
  refine ⟨rfl, ?_⟩
  obtain ⟨pre, n, k, r, oe, rfl, hr, he, hQ'⟩ : ∃ pre n k r, ∃ oe : Except Nat (List PV × Frs), fr = pre ++ [(n, k)] ∧ (rw' n)[k]? = some r ∧ Eff (nmsP es) r st oe ∧ (match oe with | .ok (st', more) => ∀ (s' f' : Addr) H', H' s' = some (.list st') → H' f' = some (.list (frPV (setl rw' (pre ++ [(n, k + 1)] ++ more)))) → Ext H H' → Q (.tup [.str "", .obj s', .obj f']) H' | .error e => ∀ H', Ext H H' → Q (.tup [.str (wordE e), .obj s, .obj f]) H') := by
    cases hstp with
    | @ok pre more n k r st st' hr he => exact ⟨pre, n, k, r, _, rfl, hr, he, hQ⟩
    | @err pre n k r st e hr he => exact ⟨pre, n, k, r, _, rfl, hr, he, hQ⟩
  clear hstp hQ
  obtain ⟨i, o', b, h1, h2, hla, _⟩ := top_at hp hfr.names
  have hnn := hfr.names (n, k) (List.mem_append.mpr (.inr (List.mem_singleton.mpr rfl)))
  obtain ⟨_, _, _, _, _, hro⟩ := hp.find hnn
  have hrok := hro.1 r (List.mem_of_getElem? hr)
  clear hro
  refine O_subL hf hla ?_
  refine ⟨rfl, ?_⟩
  refine O_subD hp.ha h1 ?_
  refine O_subL h2 (itemAt_nat rfl (show (rowsPV (rw' n))[k]? = some (.tup r.row) by unfold rowsPV; rw [List.getElem?_map, hr]; rfl)) ?_
  refine O_toL hf fun c H₁ hc h₁ e₁ => ?_
  rw [fr_app, fr_one, cut_last] at h₁
  refine fun c₂ H₂ hc₂ h₂ e₂ => ?_
  have hfl : (frPV pre).length ≤ 1000 := by rw [fr_len]; exact hfr.pre.len
  refine O_addL (e₂.at h₁) h₂ (by rw [List.length_singleton]; first | lia | omega) fun mv H₃ hmv h₃ e₃ => ?_
  have e13 := (e₁.trans e₂).trans e₃
  have hmv' : H₃ mv = some (.list (frPV (pre ++ [(n, k + 1)]))) := by rw [fr_app, fr_one]; exact h₃
  have hnm : ∀ g ∈ pre ++ [(n, k + 1)], g.1 ∈ nmsP es := fun x hx => by
    rcases List.mem_append.mp hx with hx | hx
    · exact hfr.names x (List.mem_append.mpr (.inl hx))
    · rw [List.mem_singleton.mp hx]; exact hnn
  have hml : (frPV (pre ++ [(n, k + 1)])).length ≤ 1001 := by rw [fr_app, List.length_append, fr_one, List.length_singleton]; first | lia | omega
  clear hmv h₃ h₂ h₁ e₁ e₂ e₃ hc hc₂
  have goto : ∀ {g : Str} {s' : Addr} {st' : List PV} {H' : AHeap}, g ∈ nmsP es → H' s' = some (.list st') → Ext H₃ H' → (∀ (s' f' : Addr) H', H' s' = some (.list st') → H' f' = some (.list (frPV (setl rw' (pre ++ [(n, k + 1)] ++ [(g, 0)])))) → Ext H H' → Q (.tup [.str "", .obj s', .obj f']) H') →
      alloc (.list [.tup [.str g, .int 0]]) (fun w H => BinW (fun v H => g01.C "_law_left" [.obj p, v] H (fun v H => Q (.tup [.str "", .obj s', v]) H) fun c H => X c H) H .Add (.obj mv) w) H' := fun {g s' st' H'} hg hs' e' hq c H₅ hc h₅ e₅ => by
    refine O_addL ((e'.trans e₅).at hmv') h₅ (by rw [List.length_singleton]; first | lia | omega) fun c' H₆ hc' h₆ e₆ => ?_
    have h₆' : H₆ c' = some (.list (frPV (pre ++ [(n, k + 1)] ++ [(g, 0)]))) := by rw [fr_app, fr_one]; exact h₆
    have e36 := (e'.trans e₅).trans e₆
    refine U_left ⟨p, c', _, es, rw', rfl, h₆', hp.ext (e13.trans e36), fun x hx => ?_, fun c'' H₇ hc'' h₇ e₇ => hq s' c'' H₇ (e₇.at (e₆.at (e₅.at hs'))) h₇ ((e13.trans e36).trans e₇)⟩
    rcases List.mem_append.mp hx with hx | hx
    · exact hnm x hx
    · rw [List.mem_singleton.mp hx]; exact hg
  cases he with
  | @pl w st ys hres =>
    refine O_subT w.head ?_
    refine I_pos (by rw [w.plain.1]; rfl) ?_
    refine O_subT w.head ?_
    refine I_pos (by rw [w.plain.2]; rfl) ?_
    refine U_lkinds ⟨s, _, rfl, e13.at hs, hst.ok, Nat.le_trans hst.len (by decide), fun kd H₄ hkd h₄ e₄ => ?_⟩
    refine U_wanted ⟨w, rfl, hrok, fun wd' H₅ hwd h₅ e₅ => ?_⟩
    refine U_lack ⟨kd, wd', _, _, rfl, e₅.at h₄, h₅, by rw [List.length_map]; exact Nat.le_trans hst.len (by decide), Nat.le_trans (wanted_len hrok) (by decide), ?_⟩
    rw [lack_res hres]
    have e35 := e₄.trans e₅
    refine U_lbehind ⟨s, _, ys, w, rfl, hrok, (e13.trans e35).at hs, hst, hres, fun c H₆ hc h₆ e₆ => ?_⟩
    refine U_left ⟨p, mv, _, es, rw', rfl, (e35.trans e₆).at hmv', hp.ext ((e13.trans e35).trans e₆), hnm, fun c'' H₇ hc'' h₇ e₇ => ?_⟩
    exact hQ' c c'' H₇ (e₇.at h₆) (by rw [List.append_nil]; exact h₇) (((e13.trans e35).trans e₆).trans e₇)
  | @plE w st e hres =>
    refine O_subT w.head ?_
    refine I_pos (by rw [w.plain.1]; rfl) ?_
    refine O_subT w.head ?_
    refine I_pos (by rw [w.plain.2]; rfl) ?_
    refine U_lkinds ⟨s, _, rfl, e13.at hs, hst.ok, Nat.le_trans hst.len (by decide), fun kd H₄ hkd h₄ e₄ => ?_⟩
    refine U_wanted ⟨w, rfl, hrok, fun wd' H₅ hwd h₅ e₅ => ?_⟩
    refine U_lack ⟨kd, wd', _, _, rfl, e₅.at h₄, h₅, by rw [List.length_map]; exact Nat.le_trans hst.len (by decide), Nat.le_trans (wanted_len hrok) (by decide), ?_⟩
    rw [lack_res hres]
    refine I_pos (wordE_ne e) ?_
    exact hQ' H₅ (e13.trans (e₄.trans e₅))
  | call hg =>
    refine O_niD (e13.at hp.ha) ?_
    rw [hp.has hg]
    exact goto hg (e13.at hs) (Ext.refl _) hQ'
  | callN hg =>
    refine O_niD (e13.at hp.ha) ?_
    rw [key_no hg]
    exact hQ' H₃ e13
  | if0 =>
    refine U_lkinds ⟨s, _, rfl, e13.at hs, hst.ok, Nat.zero_le _, fun kd H₄ hkd h₄ e₄ => ?_⟩
    refine fun nu H₅ hnu h₅ e₅ => ?_
    refine U_lack ⟨kd, nu, [], ["num"], rfl, e₅.at h₄, h₅, Nat.zero_le _, by decide, ?_⟩
    rw [lack_few (by decide)]
    exact hQ' H₅ (e13.trans (e₄.trans e₅))
  | @ifT n' m' s' st' =>
    refine U_lkinds ⟨s, _, rfl, e13.at hs, hst.ok, Nat.le_trans hst.len (by decide), fun kd H₄ hkd h₄ e₄ => ?_⟩
    refine fun nu H₅ hnu h₅ e₅ => ?_
    refine U_lack ⟨kd, nu, _, ["num"], rfl, e₅.at h₄, h₅, by rw [List.length_map]; exact Nat.le_trans hst.len (by decide), by decide, ?_⟩
    rw [lack_str]
    exact hQ' H₅ (e13.trans (e₄.trans e₅))
  | @ifG n' m' i' st' hg =>
    refine U_lkinds ⟨s, _, rfl, e13.at hs, hst.ok, Nat.le_trans hst.len (by decide), fun kd H₄ hkd h₄ e₄ => ?_⟩
    refine fun nu H₅ hnu h₅ e₅ => ?_
    refine U_lack ⟨kd, nu, _, ["num"], rfl, e₅.at h₄, h₅, by rw [List.length_map]; exact Nat.le_trans hst.len (by decide), by decide, ?_⟩
    rw [lack_int]
    have e35 := e₄.trans e₅
    refine O_toL ((e13.trans e35).at hs) fun s₂ H₆ hs₂ h₆ e₆ => ?_
    rw [cut_last] at h₆
    have e36 := e35.trans e₆
    refine O_subL ((e13.trans e36).at hs) (last_at _ _) ?_
    have hQ2 : ∀ (s' f' : Addr) H', H' s' = some (.list st') → H' f' = some (.list (frPV (setl rw' (pre ++ [(n, k + 1)] ++ [((if i' = 0 then m' else n' : Str), 0)])))) → Ext H H' → Q (.tup [.str "", .obj s', .obj f']) H' := hQ'
    clear hQ'
    refine O_ite (fun h => ?_) (fun h => ?_)
    · rw [if_pos (by simpa using h)] at hg hQ2
      refine O_niD ((e13.trans e36).at hp.ha) ?_
      rw [hp.has hg]
      exact goto hg h₆ e36 hQ2
    · rw [if_neg (by simpa using h)] at hg hQ2
      refine O_niD ((e13.trans e36).at hp.ha) ?_
      rw [hp.has hg]
      exact goto hg h₆ e36 hQ2
  | @ifN n' m' i' st' hg =>
    refine U_lkinds ⟨s, _, rfl, e13.at hs, hst.ok, Nat.le_trans hst.len (by decide), fun kd H₄ hkd h₄ e₄ => ?_⟩
    refine fun nu H₅ hnu h₅ e₅ => ?_
    refine U_lack ⟨kd, nu, _, ["num"], rfl, e₅.at h₄, h₅, by rw [List.length_map]; exact Nat.le_trans hst.len (by decide), by decide, ?_⟩
    rw [lack_int]
    have e35 := e₄.trans e₅
    refine O_toL ((e13.trans e35).at hs) fun s₂ H₆ hs₂ h₆ e₆ => ?_
    have e36 := e35.trans e₆
    refine O_subL ((e13.trans e36).at hs) (last_at _ _) ?_
    refine O_ite (fun h => ?_) (fun h => ?_)
    · rw [if_pos (by simpa using h)] at hg
      refine O_niD ((e13.trans e36).at hp.ha) ?_
      rw [key_no hg]
      exact hQ' H₆ (e13.trans e36)
    · rw [if_neg (by simpa using h)] at hg
      refine O_niD ((e13.trans e36).at hp.ha) ?_
      rw [key_no hg]
      exact hQ' H₆ (e13.trans e36)
end Mine
end
section
open PySem PySem.W PySem.Calls PyProof.Rows
namespace Mine
set_option autoImplicit false

section
variable {ns : List Str} {rw' : Str → List Rw}
theorem Res.err {w : W} {st : List PV} {e : Nat} (h : Res w st (.error e)) : e = 1 ∨ e = 2 := by
  cases h with
  | few => exact .inl rfl
  | kind => exact .inr rfl
theorem Eff.err {r : Rw} {st : List PV} {e : Nat} (h : Eff ns r st (.error e)) : e = 1 ∨ e = 2 ∨ e = 3 := by
  cases h with
  | plE h => exact h.err.elim .inl fun h => .inr (.inl h)
  | callN => exact .inr (.inr rfl)
  | if0 => exact .inl rfl
  | ifT => exact .inr (.inl rfl)
  | ifN => exact .inr (.inr rfl)
theorem Stp.err' {st : List PV} {fr : Frs} {e : Nat} (h : Stp ns rw' st fr (.error e)) : e = 1 ∨ e = 2 ∨ e = 3 := by
  cases h with
  | err _ he => exact he.err
theorem Rn.err' {m k : Nat} {st st' : List PV} {fr : Frs} {e : Nat} (h : Rn ns rw' m st fr (some e) st' k) : e = 1 ∨ e = 2 ∨ e = 3 ∨ e = 5 := by
  generalize hw : some e = w at h
  induction h with
  | over => cases hw
  | dry => cases hw; exact .inr (.inr (.inr rfl))
  | err h =>
    cases hw
    rcases h.err' with h | h | h
    · exact .inl h
    · exact .inr (.inl h)
    · exact .inr (.inr (.inl h))
  | step _ _ ih => exact ih hw
theorem Rnm.err {m k : Nat} {n : Str} {st st' : List PV} {e : Nat} (h : Rnm ns rw' m n st (some e) st' k) : e = 1 ∨ e = 2 ∨ e = 3 ∨ e = 5 := by
  cases h with
  | no => exact .inr (.inr (.inl rfl))
  | go _ t => exact t.err'
theorem Stp.keep {st st' : List PV} {fr fr' : Frs} {m j : Nat} (h : Stp ns rw' st fr (.ok (st', fr'))) (hf : FrI ns rw' m fr) (hs : StOk j st) (hr : ∀ n ∈ ns, ∀ r ∈ rw' n, r.ok) : FrI ns rw' (m + 1) fr' ∧ StOk (j + 1) st' ∧ ∀ pre f, fr' = pre ++ [f] → fin rw' f = false := by
  cases h with
  | @ok pre more n k r _ _ hr' he =>
    have hk := (List.getElem?_eq_some_iff.mp hr').1
    have hn := hf.names (n, k) (List.mem_append.mpr (.inr (List.mem_singleton.mpr rfl)))
    have hrok := hr n hn.1 r (List.mem_of_getElem? hr')
    have up : ∀ {s : List PV}, StOk j s → StOk (j + 1) s := fun h => ⟨h.ok, Nat.le_succ_of_le h.len⟩
    have key : StOk (j + 1) st' ∧ more.length ≤ 1 ∧ ∀ f ∈ more, f.1 ∈ ns ∧ f.2 = 0 := by
      cases he with
      | pl h => exact ⟨h.okv hrok hs, Nat.zero_le _, fun _ h => (nomatch h)⟩
      | call h => exact ⟨up hs, Nat.le_refl _, fun f hf => by rw [List.mem_singleton.mp hf]; exact ⟨h, rfl⟩⟩
      | ifG h => exact ⟨up hs.pre, Nat.le_refl _, fun f hf => by rw [List.mem_singleton.mp hf]; exact ⟨h, rfl⟩⟩
    have hI : FrI ns rw' (m + 1) (pre ++ [(n, k + 1)] ++ more) := by
      refine ⟨fun f hf' => ?_, ?_⟩
      · rcases List.mem_append.mp hf' with hf' | hf'
        · rcases List.mem_append.mp hf' with hf' | hf'
          · exact hf.names f (List.mem_append.mpr (.inl hf'))
          · rw [List.mem_singleton.mp hf']; exact ⟨hn.1, hk⟩
        · have := key.2.2 f hf'
          exact ⟨this.1, by rw [this.2]; exact Nat.zero_le _⟩
      · have h1 := hf.len
        have h2 := key.2.1
        rw [List.length_append, List.length_singleton] at h1
        rw [List.length_append, List.length_append, List.length_singleton]; first | lia | omega
    exact ⟨hI.setl.1, key.1, hI.setl.2⟩
theorem Eff.total (r : Rw) {st : List PV} (ok : ∀ v ∈ st, Okv v) : ∃ o, Eff ns r st o := by
  cases r with
  | pl w =>
    obtain ⟨o, h⟩ := Res.total w ok
    cases o with
    | ok ys => exact ⟨_, .pl h⟩
    | error e => exact ⟨_, .plE h⟩
  | call n =>
    by_cases h : n ∈ ns
    · exact ⟨_, .call h⟩
    · exact ⟨_, .callN h⟩
  | iff n m =>
    rcases List.eq_nil_or_concat st with rfl | ⟨pre, v, rfl⟩
    · exact ⟨_, .if0⟩
    rw [List.concat_eq_append] at *
    rcases ok v (List.mem_append.mpr (.inr (List.mem_singleton.mpr rfl))) with ⟨i, rfl, _⟩ | ⟨s, rfl, _⟩
    · by_cases h : (if i = 0 then m else n) ∈ ns
      · exact ⟨_, .ifG h⟩
      · exact ⟨_, .ifN h⟩
    · exact ⟨_, .ifT⟩
theorem Stp.total {st : List PV} {fr : Frs} {m : Nat} (hf : FrI ns rw' m fr) (ht : ∀ pre f, fr = pre ++ [f] → fin rw' f = false) (ok : ∀ v ∈ st, Okv v) (hne : fr ≠ []) : ∃ o, Stp ns rw' st fr o := by
  rcases List.eq_nil_or_concat fr with rfl | ⟨pre, ⟨n, k⟩, rfl⟩
  · exact absurd rfl hne
  rw [List.concat_eq_append] at *
  have hn := hf.names (n, k) (List.mem_append.mpr (.inr (List.mem_singleton.mpr rfl)))
  have h2 := ht pre (n, k) rfl
  unfold fin at h2
  have hk : k < (rw' n).length := Nat.lt_of_le_of_ne hn.2 (by simpa using h2)
  have hr := List.getElem?_eq_getElem hk
  obtain ⟨o, he⟩ := Eff.total (ns := ns) (rw' n)[k] ok
  cases o with
  | ok x => exact ⟨_, .ok hr he⟩
  | error e => exact ⟨_, .err hr he⟩
theorem Rn.total (hr : ∀ n ∈ ns, ∀ r ∈ rw' n, r.ok) : ∀ (m : Nat) {st : List PV} {fr : Frs} {a b : Nat}, FrI ns rw' a fr → (∀ pre f, fr = pre ++ [f] → fin rw' f = false) → StOk b st → ∃ w st' k, Rn ns rw' m st fr w st' k
  | 0, st, fr, a, b, hf, ht, hs => by
    by_cases h : fr = []
    · subst h; exact ⟨_, _, _, .over 0 st⟩
    · exact ⟨_, _, _, .dry h⟩
  | m + 1, st, fr, a, b, hf, ht, hs => by
    by_cases h : fr = []
    · subst h; exact ⟨_, _, _, .over (m + 1) st⟩
    obtain ⟨o, ho⟩ := Stp.total hf ht hs.ok h
    cases o with
    | error e => exact ⟨_, _, _, .err ho⟩
    | ok x =>
      obtain ⟨h1, h2, h3⟩ := ho.keep hf hs hr
      obtain ⟨w, st', k, t⟩ := Rn.total hr m h1 h3 h2
      exact ⟨_, _, _, .step ho t⟩
theorem FrI.start {n : Str} (hn : n ∈ ns) : FrI ns rw' 1 (Mine.setl rw' [(n, 0)]) ∧ ∀ pre f, Mine.setl rw' [(n, 0)] = pre ++ [f] → fin rw' f = false :=
  FrI.setl (fs := [(n, 0)]) ⟨fun f hf => by rw [List.mem_singleton.mp hf]; exact ⟨hn, Nat.zero_le _⟩, Nat.le_refl _⟩
theorem Rnm.total (hr : ∀ n ∈ ns, ∀ r ∈ rw' n, r.ok) (m : Nat) (n : Str) {st : List PV} {b : Nat} (hs : StOk b st) : ∃ w st' k, Rnm ns rw' m n st w st' k := by
  by_cases hn : n ∈ ns
  · obtain ⟨w, st', k, t⟩ := Rn.total hr m (FrI.start hn).1 (FrI.start hn).2 hs
    exact ⟨w, st', k, .go hn t⟩
  · exact ⟨_, _, _, .no hn⟩
theorem Rn.keep (hr : ∀ n ∈ ns, ∀ r ∈ rw' n, r.ok) {m k : Nat} {st st' : List PV} {fr : Frs} {w : Option Nat} (h : Rn ns rw' m st fr w st' k) : ∀ {a b : Nat}, FrI ns rw' a fr → StOk b st → k ≤ m ∧ StOk (b + m) st' := by
  induction h with
  | over m st => exact fun _ hs => ⟨Nat.zero_le _, hs.ok, Nat.le_trans hs.len (Nat.le_add_right _ _)⟩
  | dry => exact fun _ hs => ⟨Nat.zero_le _, hs⟩
  | err => exact fun _ hs => ⟨Nat.zero_le _, hs.ok, Nat.le_trans hs.len (Nat.le_add_right _ _)⟩
  | @step m k st st' st'' fr fr' w h t ih =>
    intro a b hf hs
    obtain ⟨h1, h2, _⟩ := h.keep hf hs hr
    have := ih h1 h2
    exact ⟨Nat.succ_le_succ this.1, this.2.ok, by have := this.2.len; first | lia | omega⟩
end
theorem Pg.rok {N : Nat} {H : AHeap} {p : Addr} {es : Pr} {rw' : Str → List Rw} (h : Pg N H p es rw') : ∀ n ∈ nmsP es, ∀ r ∈ rw' n, r.ok := fun n hn => by
  obtain ⟨_, _, _, _, _, h'⟩ := h.find hn
  exact h'.1
end Mine
end
section
open PySem PySem.W PySem.Calls PyProof.Rows
namespace Mine
set_option autoImplicit false

theorem FrI.ok {ns : List Str} {rw' : Str → List Rw} {m : Nat} {fr : Frs} (h : FrI ns rw' m fr) (hm : m ≤ 1000) : FrOk ns fr := ⟨fun f hf => (h.names f hf).1, Nat.le_trans h.len hm⟩
theorem StOk.up {m j : Nat} {st : List PV} (h : StOk m st) (hm : m ≤ j) : StOk j st := ⟨h.ok, Nat.le_trans h.len hm⟩
theorem Stp.ne {ns : List Str} {rw' : Str → List Rw} {st : List PV} {fr : Frs} {o : Except Nat (List PV × Frs)} (h : Stp ns rw' st fr o) : fr.isEmpty = false := by
  cases h with
  | @ok pre => cases pre <;> rfl
  | @err pre => cases pre <;> rfl
theorem fr_pos {fr : Frs} (h : fr.isEmpty = false) : decide ((0 : Int) < ((frPV fr).length : Int)) = true := by
  cases fr with
  | nil => cases h
  | cons f fr => exact decide_eq_true (by rw [fr_len, List.length_cons]; first | lia | omega)
set_option maxHeartbeats 1000000 in
theorem run_ok : Ver spRun B_run N_run 4 := by
  intro ps H Q X h
  obtain ⟨p, s, n, st, st', fuel, w, k, es, rw', rfl, hp, hs, hst, hfu, hrn, hQ, hX⟩ := h
  refine ⟨rfl, ?_⟩
  refine fun a d H₁ ha hd h₁ h₁' e₁ => ?_
  refine U_init ⟨fun c => H c = none, a, d, p, s, n, st, es, rw', rfl, h₁, h₁', hp.ext e₁, fun c hc => e₁.back hc, e₁.at hs, fun hn H₂ hm₂ e₂ => ⟨rfl, ?_⟩, fun hn => ?_⟩
  rotate_left
  · cases hrn with
    | no => exact hX 3 rfl H₁ e₁
    | go h => exact absurd h hn
  have hrn' : Rn (nmsP es) rw' fuel st (setl rw' [(n, 0)]) w st' k := by cases hrn with | no h => exact absurd hn h | go _ t => exact t
  have hI := (FrI.start (rw' := rw') hn).1
  refine ⟨fun z m H' => Ex4 fun (i j k : Nat) (y : List PV × Frs) => An9 (z = j) (i + j = fuel) (m = [some (.obj p), some (.str n), some (.obj s), some (.int fuel), some (.obj a), some (.int i)]) (Mch H' (fun c => H c = none) a d p y.1 y.2) (Rn (nmsP es) rw' j y.1 y.2 w st' k) (FrI (nmsP es) rw' (1 + i) y.2) (StOk (400 + i) y.1) (ExtB d H₁ H') (Ext H H'),
    ⟨_, 0, fuel, k, (st, setl rw' [(n, 0)]), rfl, Nat.zero_add _, rfl, hm₂, hrn', hI, hst, e₂, ExtB.fresh hd e₁ e₂⟩, ?_⟩
  clear hrn hrn' hI hm₂ e₂ hst k
  rintro z m H' ⟨i, j, k, ⟨st₁, fr₁⟩, rfl, hij, rfl, hm, hrn, hI, hst, x', e'⟩
  have hm₀ := hm
  obtain ⟨sA, fA, ha', hd', hs', hf', hF⟩ := hm
  refine O_umeth ha' hd' (MA_over ..) ?_
  refine U_over ⟨_, a, d, p, st₁, fr₁, rfl, hm₀, ?_⟩
  have hp' := (hp.ext e₁).stepA h₁' x'
  have hF' : ∀ c, H' c = none → H c = none := fun c hc => e'.back hc
  replace hI : FrI (nmsP es) rw' (1 + i) fr₁ := hI
  replace hst : StOk (400 + i) st₁ := hst
  replace hrn : Rn (nmsP es) rw' z st₁ fr₁ w st' k := hrn
  cases hrn with
  | over =>
    refine O_attr ha' hd' (MA_s ..) ?_
    exact hQ rfl sA H' hF hs' e'
  | dry hne =>
    rw [show fr₁.isEmpty = false by cases fr₁ with | nil => exact absurd rfl hne | cons => rfl]
    refine I_pos (by rw [show i = fuel from hij]; exact beq_self_eq_true _) ?_
    exact hX 5 rfl H' e'
  | @err j _ _ e h =>
    rw [h.ne]
    refine I_neg (by rw [beq_iff_eq]; first | lia | omega) ?_
    refine O_umeth ha' hd' (MA_step ..) ?_
    exact U_step (.mk _ a d p st' fr₁ es rw' _ rfl hm₀ hF' hp' (hI.ok (by first | lia | omega)) (hst.up (by first | lia | omega)) h fun H₃ e₃ => hX e rfl H₃ (e'.trans e₃))
  | @step j k _ st₂ _ _ fr₂ _ h t =>
    rw [h.ne]
    refine I_neg (by rw [beq_iff_eq]; first | lia | omega) ?_
    refine O_umeth ha' hd' (MA_step ..) ?_
    obtain ⟨k1, k2, _⟩ := h.keep hI hst hp.rok
    exact U_step (.mk _ a d p st₁ fr₁ es rw' _ rfl hm₀ hF' hp' (hI.ok (by first | lia | omega)) (hst.up (by first | lia | omega)) h fun H₃ hm₃ e₃ => ⟨j, Nat.lt_succ_self _, i + 1, j, k, (st₂, fr₂), rfl, by first | lia | omega, rfl, hm₃, t, k1, k2, fun x v hx h => e₃.at hx (x'.at hx h), ExtB.fresh hd e' e₃⟩)
set_option maxHeartbeats 1000000 in
theorem way_ok : Ver spWay B_law_way N_law_way 4 := by
  intro ps H Q X h
  obtain ⟨p, s, n, st, st', fuel, w, k, es, rw', rfl, hp, hs, hst, hfu, hrn, hQ⟩ := h
  refine ⟨rfl, ?_⟩
  refine O_niD hp.ha ?_
  cases hrn with
  | no hn =>
    rw [key_no hn]
    exact hQ s H hs (Ext.refl _)
  | go hn hrn =>
  rw [hp.has hn]
  refine fun c H₁ hc h₁ e₁ => ?_
  refine U_left ⟨p, c, [(n, 0)], es, rw', rfl, h₁, hp.ext e₁, fun f hf => by rw [List.mem_singleton.mp hf]; exact hn, fun f H₂ hf h₂ e₂ => ?_⟩
  have hI := (FrI.start (rw' := rw') hn).1
  have e12 := e₁.trans e₂
  refine ⟨fun z m H' => Ex6 fun (i j k' : Nat) (y : List PV × Frs) (a : Addr × Addr) (x : Option PV) => An10 (z = j) (i + j = fuel) (i + k' = k) (m = [some (.obj p), some (.str n), some (.obj a.1), some (.int fuel), some (.obj a.2), some (.int i), x]) (H' a.1 = some (.list y.1)) (H' a.2 = some (.list (frPV y.2))) (Rn (nmsP es) rw' j y.1 y.2 w st' k') (FrI (nmsP es) rw' (1 + i) y.2) (StOk (400 + i) y.1) (Ext H H'),
    ⟨_, 0, fuel, k, (st, setl rw' [(n, 0)]), (s, f), none, rfl, Nat.zero_add _, Nat.zero_add _, rfl, e12.at hs, h₂, hrn, hI, hst, e12⟩, ?_⟩
  clear hrn hI hst h₂ e12 e₁ e₂ h₁ hs hc hf
  rintro z m H' ⟨i, j, k', ⟨st₁, fr₁⟩, ⟨s₁, f₁⟩, x, rfl, hij, hik, rfl, hs₁, hf₁, hrn, hI, hst, e'⟩
  replace hs₁ : H' s₁ = some (.list st₁) := hs₁
  replace hf₁ : H' f₁ = some (.list (frPV fr₁)) := hf₁
  replace hI : FrI (nmsP es) rw' (1 + i) fr₁ := hI
  replace hst : StOk (400 + i) st₁ := hst
  refine O_lenL hf₁ ?_
  replace hrn : Rn (nmsP es) rw' z st₁ fr₁ w st' k' := hrn
  have hk : (k : Int) = (i : Int) + (k' : Int) := by first | lia | omega
  cases hrn with
  | over =>
    refine O_lenL hf₁ ?_
    rw [show i = k from hik]
    exact hQ s₁ H' hs₁ e'
  | dry hne =>
    have hem : fr₁.isEmpty = false := by cases fr₁ with | nil => exact absurd rfl hne | cons => rfl
    refine I_pos (fr_pos hem) ?_
    refine I_neg (by rw [decide_eq_true_eq]; first | lia | omega) ?_
    refine O_lenL hf₁ ?_
    refine I_pos (fr_pos hem) ?_
    rw [show i = k from hik]
    exact hQ s₁ H' hs₁ e'
  | @err j _ _ e h =>
    refine I_pos (fr_pos h.ne) ?_
    refine I_pos (by rw [decide_eq_true_eq]; first | lia | omega) ?_
    refine U_stepped ⟨p, s₁, f₁, st', fr₁, es, rw', _, rfl, hs₁, hf₁, hp.ext e', hI.ok (by first | lia | omega), hst.up (by first | lia | omega), h, fun H₃ e₃ => ?_⟩
    refine ⟨rfl, ?_⟩
    refine I_pos (wordE_ne e) ?_
    rw [show i = k from hik]
    exact hQ s₁ H₃ (e₃.at hs₁) (e'.trans e₃)
  | @step j k₂ _ st₂ _ _ fr₂ _ h t =>
    refine I_pos (fr_pos h.ne) ?_
    refine I_pos (by rw [decide_eq_true_eq]; first | lia | omega) ?_
    obtain ⟨k1, k2, _⟩ := h.keep hI hst hp.rok
    refine U_stepped ⟨p, s₁, f₁, st₁, fr₁, es, rw', _, rfl, hs₁, hf₁, hp.ext e', hI.ok (by first | lia | omega), hst.up (by first | lia | omega), h, fun s₂ f₂ H₃ h₃ h₃' e₃ => ?_⟩
    refine ⟨rfl, ?_⟩
    exact ⟨j, Nat.lt_succ_self _, i + 1, j, k₂, (st₂, fr₂), (s₂, f₂), _, rfl, by first | lia | omega, by first | lia | omega, rfl, h₃, h₃', t, k1, k2, e'.trans e₃⟩
theorem lrun_ok : Ver spLRun B_law_run N_law_run 4 := by
  intro ps H Q X h
  obtain ⟨p, s, n, st, st', fuel, w, k, es, rw', rfl, hp, hs, hst, hfu, hrn, hQ, hX⟩ := h
  refine ⟨rfl, ?_⟩
  refine U_run ⟨p, s, n, st, st', fuel, w, k, es, rw', rfl, hp, hs, hst, hfu, hrn, hQ, fun e he H' e' => ?_⟩
  have hq := hX e he H' e'
  rw [he] at hrn
  rcases hrn.err with rfl | rfl | rfl | rfl <;> exact hq
theorem O_count {H : AHeap} {Q : Post} {a : Addr} {bs : List Bool} {b : Bool} (ha : H a = some (.list (bs.map .bool))) (h : Q (.int (bs.count b)) H) : MethW Q H .count (.obj a) [.bool b] := .count a bs b ha h
theorem lany_ok : Ver spAny B_law_any N_law_any 4 := by
  intro ps H Q X h
  obtain ⟨p, s, n, st, st', fuel, w, k, es, rw', rfl, hp, hs, hst, hfu, hrn, e, rfl, hQ⟩ := h
  refine ⟨rfl, ?_⟩
  refine U_run ⟨p, s, n, st, st', fuel, _, k, es, rw', rfl, hp, hs, hst, hfu, hrn, (fun q => nomatch q), fun e he H₁ e₁ => ?_⟩
  cases he
  have hL : LIM = 1048576 := rfl
  rcases hrn.err with rfl | rfl | rfl | rfl
  · refine fun c H₂ hc h₂ e₂ => ?_
    refine fun d H₃ hd h₃ e₃ => ?_
    refine O_addL (e₃.at h₂) h₃ (by show 3 + 2 ≤ _; first | lia | omega) fun f H₄ hf h₄ e₄ => ?_
    refine O_recv h₄ rfl ?_
    refine O_count (bs := [true, false, false, false, false]) h₄ ?_
    exact hQ H₄
  · refine fun c H₂ hc h₂ e₂ => ?_
    refine fun d H₃ hd h₃ e₃ => ?_
    refine O_addL (e₃.at h₂) h₃ (by show 3 + 2 ≤ _; first | lia | omega) fun f H₄ hf h₄ e₄ => ?_
    refine O_recv h₄ rfl ?_
    refine O_count (bs := [false, true, false, false, false]) h₄ ?_
    exact hQ H₄
  · refine fun c H₂ hc h₂ e₂ => ?_
    refine fun d H₃ hd h₃ e₃ => ?_
    refine O_addL (e₃.at h₂) h₃ (by show 3 + 2 ≤ _; first | lia | omega) fun f H₄ hf h₄ e₄ => ?_
    refine O_recv h₄ rfl ?_
    refine O_count (bs := [false, false, true, false, false]) h₄ ?_
    exact hQ H₄
  · refine fun c H₂ hc h₂ e₂ => ?_
    refine fun d H₃ hd h₃ e₃ => ?_
    refine O_addL (e₃.at h₂) h₃ (by show 3 + 2 ≤ _; first | lia | omega) fun f H₄ hf h₄ e₄ => ?_
    refine O_recv h₄ rfl ?_
    refine O_count (bs := [false, false, false, false, true]) h₄ ?_
    exact hQ H₄
end Mine
end
section
open PySem PySem.W PySem.Calls PyProof.Rows
namespace Mine
set_option autoImplicit false

theorem Pg.weak {N M : Nat} {H : AHeap} {p : Addr} {es : Pr} {rw' : Str → List Rw} (h : Pg N H p es rw') (hm : N ≤ M) : Pg M H p es rw' := ⟨h.ha, h.ok, h.ne, h.rows.weak hm⟩
theorem Pg.tape {N n : Nat} {H H' : AHeap} {p t : Addr} {es : Pr} {rw' : Str → List Rw} (h : Pg N H p es rw') (ht : H t = some (.tape n)) (e : ExtB t H H') : Pg N H' p es rw' := ⟨e.at (fun q => by have := h.ha; rw [q, ht] at this; cases this) h.ha, h.ok, h.ne, h.rows.step ht e⟩
theorem StOk.drop {m : Nat} {st : List PV} (h : StOk m st) (k : Nat) : StOk m (st.drop k) := ⟨fun v hv => h.ok v (List.mem_of_mem_drop hv), Nat.le_trans (drop_le _ _) h.len⟩
theorem Rnm.keep {ns : List Str} {rw' : Str → List Rw} {m k b : Nat} {n : Str} {st st' : List PV} {w : Option Nat} (h : Rnm ns rw' m n st w st' k) (hr : ∀ n ∈ ns, ∀ r ∈ rw' n, r.ok) (hs : StOk b st) : k ≤ m ∧ StOk (b + m) st' := by
  cases h with
  | no => exact ⟨Nat.zero_le _, hs.up (Nat.le_add_right _ _)⟩
  | go hn t => exact t.keep hr (FrI.start hn).1 hs
theorem max_fuel (k : Nat) (hk : k ≤ 40) (j : Int) (j0 : 0 ≤ j) : ∃ f : Nat, (if (0 : Int) < (k : Int) - j then (k : Int) - j else 0) = f ∧ f ≤ 40 := by
  split
  · exact ⟨((k : Int) - j).toNat, by first | lia | omega, by first | lia | omega⟩
  · exact ⟨0, rfl, Nat.zero_le _⟩
set_option maxRecDepth 10000 in
set_option maxHeartbeats 4000000 in
theorem law_ok : Ver spLaw B_law N_law 1 := by
  intro ps H Q X' h
  have hL : LIM = 1048576 := rfl
  obtain ⟨xs, rfl, hx, hQ⟩ := h
  refine ⟨rfl, ?_⟩
  refine fun t H₁ ht h₁ e₁ => ?_
  refine U_draw ⟨xs, t, _, 0, rfl, hx, h₁, by decide, by decide, fun fu H₂ f0 f1 t₂ e₂ => ?_⟩
  obtain ⟨fu, rfl⟩ := Int.eq_ofNat_of_zero_le f0
  refine U_draw ⟨xs, t, _, 1, rfl, hx, t₂, by decide, by decide, fun just H₃ j0 j1 t₃ e₃ => ?_⟩
  refine U_goodprogram ⟨xs, t, 2, rfl, hx, t₃, by decide, fun p es rw' n H₄ hp hn t₄ => ?_⟩
  clear t₃ e₃ t₂ e₂ h₁ e₁ ht f0 H₁ H₂ H₃
  refine O_listD hp.ha fun c H₅ hc h₅ e₅ => ?_
  rw [kvs_names] at h₅
  refine U_draw ⟨xs, t, _, n, rfl, hx, e₅.at t₄, nb hn (by decide) _ (by decide), by decide, fun r H₆ r0 r1 t₆ e₆ => ?_⟩
  have p₆ := (hp.ext e₅).tape (e₅.at t₄) e₆
  refine O_lenD p₆.ha ?_
  rw [kvsP_len]
  have hlp : 0 < (es.length : Int) := by have := List.length_pos_iff.mpr hp.ne; first | lia | omega
  refine O_modI hlp ?_
  have hm := mod_lt (a := r) hlp
  obtain ⟨nm, hnm, gnm⟩ := names_at (ns := es.map (·.1)) hm.1 (by rw [List.length_map]; exact hm.2)
  refine O_subL (e₆.at (Ne.symm (ne_of t₄ hc)) h₅) gnm ?_
  clear gnm hm hlp e₆ r0 r1 h₅ e₅ hc hp t₄
  refine W_cut (fun m H' => Ex4 fun (nm : Str) (es : Pr) (rw' : Str → List Rw) (n : Nat) => An5 (m = [some (.fls xs), some (.obj t), some (.int fu), some (.int just), some (.obj p), some (.str nm), none, none, none, none, none, none, none]) (Pg 450000 H' p es rw') (nm ∈ nmsP es) (n ≤ 1002010) (H' t = some (.tape n))) ?_ ?_
  · intro K hK
    refine U_draw ⟨xs, t, _, n + 1, rfl, hx, t₆, nb (Nat.succ_le_succ hn) (by decide) _ (by decide), by decide, fun r' H₇ _ _ t₇ e₇ => ?_⟩
    have p₇ := p₆.tape t₆ e₇
    refine O_ite (fun _ => ?_) (fun _ => ?_)
    · refine U_spoilt ⟨xs, t, p, n + 2, es, rw', rfl, hx, t₇, Nat.lt_of_le_of_lt (Nat.add_le_add_right hn 2) (by decide), p₇, fun es' rw'' nm' n' H₈ p₈ hn₈ hl t₈ => ?_⟩
      exact hK _ _ ⟨nm', es', rw'', n', rfl, p₈, hn₈, by first | lia | omega, t₈⟩
    · exact hK _ _ ⟨nm, es, rw', n + 2, rfl, p₇.weak (by decide), hnm, by first | lia | omega, t₇⟩
  clear p₆ hnm t₆ hn n nm es rw' H₄ H₅ H₆
  rintro m H₁ ⟨nm, es, rw', n, rfl, hp, hnm, hn, t₁⟩
  obtain ⟨⟨nm', i, o, zz⟩, hq, rfl⟩ := List.mem_map.mp hnm
  have hbo : BOk (i, o, zz) := hp.ok.blks _ hq
  have hnl := hp.ok.name _ hq
  replace hnl : nm'.length ≤ 200 := hnl.2
  refine O_subD hp.ha (x := blk (i, o, zz)) (by rw [dget_blk, dget_of_mem hp.ok.nodup hq]; rfl) ?_
  refine U_ontop ⟨xs, t, n, i, rfl, hx, t₁, Nat.lt_of_le_of_lt hn (by decide), hbo.2.2.1, fun sa st n₂ H₂ hst hn₂ hsa h₂ t₂ e₂ => ?_⟩
  replace hp := hp.tape t₁ e₂
  have hst' : sa ≠ t := Ne.symm (ne_of t₁ hsa)
  clear e₂ t₁ hsa hbo hq hnm
  replace hn₂ : n₂ ≤ 1003010 := by first | lia | omega
  refine W_cut (fun m H' => Ex3 fun (sa : Addr) (st : List PV) (n : Nat) => An6 (m = [some (.fls xs), some (.obj t), some (.int fu), some (.int just), some (.obj p), some (.str nm'), some (.obj sa), none, none, none, none, none, none]) (StOk 200 st) (H' sa = some (.list st)) (n ≤ 1003020) (H' t = some (.tape n)) (Pg 450000 H' p es rw')) ?_ ?_
  · intro K hK
    refine U_draw ⟨xs, t, _, n₂, rfl, hx, t₂, nb hn₂ (by decide) _ (by decide), by decide, fun r H₃ _ _ t₃ e₃ => ?_⟩
    have p₃ := hp.tape t₂ e₃
    have s₃ := e₃.at hst' h₂
    refine O_ite (fun _ => ?_) (fun _ => ?_)
    · refine U_draw ⟨xs, t, _, n₂ + 1, rfl, hx, t₃, nb (Nat.succ_le_succ hn₂) (by decide) _ (by decide), by decide, fun r' H₄ _ _ t₄ e₄ => ?_⟩
      refine O_lenL (e₄.at hst' s₃) ?_
      refine O_modI (by first | lia | omega) ?_
      refine O_fromL (e₄.at hst' s₃) fun c H₅ hc h₅ e₅ => ?_
      exact hK _ _ ⟨c, _, n₂ + 2, rfl, hst.drop _, h₅, by first | lia | omega, e₅.at t₄, (p₃.tape t₃ e₄).ext e₅⟩
    · exact hK _ _ ⟨sa, st, n₂ + 1, rfl, hst, s₃, by first | lia | omega, t₃, p₃⟩
  clear hp t₂ h₂ hst hst' hn₂ n₂ st sa H₁ H₂ hn n
  rintro m H₁ ⟨sa, st, n, rfl, hst, h₁, hn, t₁, hp⟩
  have hst' : sa ≠ t := fun e => by rw [e, t₁] at h₁; cases h₁
  refine W_cut (fun m H' => Ex1 fun (nm : Str) => An3 (m = [some (.fls xs), some (.obj t), some (.int fu), some (.int just), some (.obj p), some (.str nm), some (.obj sa), none, none, none, none, none, none]) (H' sa = some (.list st)) (Pg 450000 H' p es rw')) ?_ ?_
  · intro K hK
    refine U_draw ⟨xs, t, _, n, rfl, hx, t₁, nb hn (by decide) _ (by decide), by decide, fun r H₂ _ _ t₂ e₂ => ?_⟩
    have q1 : Str.length "?" = 1 := by decide +kernel
    refine O_ite (fun _ => ?_) (fun _ => ?_)
    · refine O_addS (by first | lia | omega) ?_
      exact hK _ _ ⟨_, rfl, e₂.at hst' h₁, hp.tape t₁ e₂⟩
    · exact hK _ _ ⟨_, rfl, e₂.at hst' h₁, hp.tape t₁ e₂⟩
  clear hp h₁ hst' t₁ hn n H₁ hnl nm'
  rintro m H₁ ⟨nm, rfl, h₁, hp⟩
  refine U_copy ⟨p, es, rw', rfl, hp, fun q fs H₂ hq hfs hpj e₂ => ?_⟩
  replace hp := hp.ext e₂
  replace h₁ := e₂.at h₁
  have hns : nmsP fs = nmsP es := prj_fst hpj
  clear hq e₂ H₁
  have hrok := hp.rok
  have hst4 : StOk 400 st := hst.up (by decide)
  refine W_cut (fun m H' => Ex1 fun (fu : Nat) => An4 (m = [some (.fls xs), some (.obj t), some (.int fu), some (.int just), some (.obj p), some (.str nm), some (.obj sa), some (.obj q), none, none, none, none, none]) (fu ≤ 40) (Ext H₂ H') True) ?_ ?_
  · intro K hK
    refine O_ite (fun _ => ?_) (fun _ => ?_)
    · refine O_listL h₁ fun c H₃ hc h₃ e₃ => ?_
      obtain ⟨w, st', k, hr⟩ := Rnm.total hrok 40 nm hst4
      have hk := (hr.keep hrok hst4).1
      rw [← hns] at hr
      refine U_way ⟨q, c, nm, st, st', 40, w, k, fs, rw', rfl, hfs.ext e₃, h₃, hst4, by decide, hr, fun c' H₄ h₄ e₄ => ?_⟩
      obtain ⟨f, hf, hf'⟩ := max_fuel k hk just j0
      refine hK _ _ ⟨f, ?_, hf', e₃.trans e₄, trivial⟩
      rw [← hf]; rfl
    · exact hK _ _ ⟨fu, rfl, by first | lia | omega, Ext.refl _, trivial⟩
  rintro m H₃ ⟨fu', rfl, hfu, e₃, _⟩
  replace hp := hp.ext e₃
  replace hfs := hfs.ext e₃
  replace h₁ := e₃.at h₁
  clear e₃ H₂ f1 fu j0 j1
  obtain ⟨w, st', k, hr⟩ := Rnm.total hrok fu' nm hst4
  have hk := (hr.keep hrok hst4).2
  refine O_listL h₁ fun c H₄ hc h₄ e₄ => ?_
  refine U_way ⟨q, c, nm, st, st', fu', w, k, fs, rw', rfl, hfs.ext e₄, h₄, hst4, by first | lia | omega, by rw [hns]; exact hr, fun due H₅ h₅ e₅ => ?_⟩
  refine ⟨rfl, ?_⟩
  have e35 := e₄.trans e₅
  refine O_listL (e35.at h₁) fun hand H₆ hh h₆ e₆ => ?_
  have e36 := e35.trans e₆
  replace hp := hp.ext e36
  replace hfs := hfs.ext e36
  replace h₁ := e36.at h₁
  replace h₅ := e₆.at h₅
  clear e36 e35 e₆ e₅ e₄ hc h₄ hh
  have hlen : (kvsP es).length = (kvsP fs).length := by have := congrArg List.length hpj; rw [List.length_map, List.length_map] at this; rw [kvsP_len, kvsP_len, this]
  have heq : ∀ {H' : AHeap}, Ext H₆ H' → EqT H' (.obj p) (.obj q) true := fun e => .dict (e.at hp.ha) (e.at hfs.ha) hlen (prog_same hpj hp.ok.nodup (hp.rows.ext e) (hfs.rows.ext e) es fun q h => h)
  have hst1 : StOk 1000 st := hst.up (by decide)
  refine U_lrun ⟨p, hand, nm, st, st', fu', w, k, es, rw', rfl, hp, h₆, hst4, by first | lia | omega, hr, fun hw c' H₇ hc' h₇ e₇ => ?_, fun e hw H₇ e₇ => ?_⟩
  · subst hw
    refine O_neT (heq e₇) ?_
    refine U_alike ⟨hand, sa, st, rfl, e₇.at h₆, e₇.at h₁, hst1, ?_⟩
    refine U_alike ⟨c', due, st', rfl, h₇, e₇.at h₅, hk.up (by first | lia | omega), ?_⟩
    refine O_recv h₇ rfl ?_
    refine O_append h₇ (by have := hk.len; first | lia | omega) fun H₈ h₈ e₈ => ?_
    exact U_alike ⟨hand, sa, st, rfl, e₈.at (ne_of h₆ hc') (e₇.at h₆), e₈.at (ne_of h₁ hc') (e₇.at h₁), hst1, hQ H₈⟩
  · subst hw
    refine O_neT (heq e₇) ?_
    refine U_alike ⟨hand, sa, st, rfl, e₇.at h₆, e₇.at h₁, hst1, ?_⟩
    refine I_pos (wordE_ne e) ?_
    refine I_pos (beq_self_eq_true (wordE e)) ?_
    exact U_lany ⟨p, hand, nm, st, st', fu', _, k, es, rw', rfl, hp.ext e₇, e₇.at h₆, hst4, by first | lia | omega, hr, e, rfl, hQ⟩
end Mine
end
section
open PySem PySem.W PySem.Calls PyProof.Rows
namespace Mine
set_option autoImplicit false
set_option maxRecDepth 100000
section
variable {prog : Program} {w : World} {B : Heap} {mg mb : Str → Option Value} {loose : List Str} {mean : ExcName → Option Value}
noncomputable def cxL (prog : Program) (w : World) (B : Heap) (C : Addr) (mN : Str → Option Value) : Cx := { prog := prog, w := w, B := B, cls := fun c => csL[c]?, icls := some C, mN := mN, ga := mainGlobals, ba := builtinsNs }
theorem ci_BOUND (P : Params) : intChk (_root_.Mine.hd.heap_39 P) "BOUND" 1000000000 = true := by kernel_rfl
theorem ci_LONGEST (P : Params) : intChk (_root_.Mine.hd.heap_39 P) "LONGEST" 60 = true := by kernel_rfl
theorem cr_TAKES (P : Params) : kmg (_root_.Mine.hd.heap_39 P) "TAKES" = some (.ref (refAt (_root_.Mine.hd.heap_39 P) "TAKES")) := by kernel_rfl
theorem cl_TAKES (P : Params) : (_root_.Mine.hd.heap_39 P).lookup (refAt (_root_.Mine.hd.heap_39 P) "TAKES") = some { cls := .type "dict", data := .dict (entV P (dictL (_root_.Mine.hd.heap_39 P) (refAt (_root_.Mine.hd.heap_39 P) "TAKES"))) (dictEp (_root_.Mine.hd.heap_39 P) (refAt (_root_.Mine.hd.heap_39 P) "TAKES")) } := by kernel_rfl
theorem ck_TAKES (P : Params) : (dictL (_root_.Mine.hd.heap_39 P) (refAt (_root_.Mine.hd.heap_39 P) "TAKES")).map (·.1) = (takes01.map fun e => (e.1, PV.tup (e.2.map .str))).map (·.1) := by kernel_rfl
theorem cn_TAKES : ((takes01.map fun e => (e.1, PV.tup (e.2.map .str))).map (·.1)).Nodup := by decide +kernel
theorem cv_TAKES (P : Params) : (((dictL (_root_.Mine.hd.heap_39 P) (refAt (_root_.Mine.hd.heap_39 P) "TAKES")).zip (takes01.map fun e => (e.1, PV.tup (e.2.map .str)))).all fun e => valChk (_root_.Mine.hd.heap_39 P) e.1.2.2 e.2.2) = true := by kernel_rfl
theorem cokL {C N : Addr} {mN : Str → Option Value} (X : (_root_.Mine.hd.heap_39 w.params).In B) (T : Top _root_.Mine.hd.view_39 loose mean mg mb B) (hC : mg "Machine" = some (.ref C)) (P : PlainAt B clsM C N mN) : Cok (cxL prog w B C mN) g01 [] mg mb 0 := by
  have hmg := kmg_eq X (k1 _) T.g
  refine cok_base (K := _root_.Mine.hd.heap_39 w.params) (cs := csL) X (k1 _) T rfl rfl rfl (k3 _) (k4 _) (k5 _) k6 ⟨C, N, rfl, hC, P.cls, fun x hx => P.quiet x (List.contains_iff_mem.mp (List.all_eq_true.mp clsM_hid x hx))⟩ fun x q h => ?_
  have hx := lookup_mem (l := cons01) (by delta g01 k01 at h; exact h)
  simp only [cons01, List.mem_cons, List.not_mem_nil, or_false, Prod.mk.injEq] at hx
  rcases hx with ⟨rfl, rfl⟩ | ⟨rfl, rfl⟩ | ⟨rfl, rfl⟩
  · exact fdt_ofV (cx := cxL prog w B C mN) X hmg (cr_TAKES _) (cl_TAKES _) (ck_TAKES _) cn_TAKES (cv_TAKES _) fun _ _ e => e
  · exact int_of hmg (ci_BOUND _)
  · exact int_of hmg (ci_LONGEST _)
theorem c_of {f : Str} {sp : Sp} (hl : sps.lookup f = some sp) {ps : List PV} {H : AHeap} {Q : Post} {X : XPost} (h : g01.C f ps H Q X) : sp ps H Q X := by
  delta g01 c01 at h
  replace h : ((sps.lookup f).getD fun _ _ _ _ => False) ps H Q X := h
  rw [hl] at h; exact h
inductive Fns : List FnE → Prop
  | nil : Fns []
  | fn {e : FnE} {r : List FnE} (t : Fns r) (hm : isMeth e.f = false) (hr : RecC _root_.Mine.hd.view_39 e.f e.body e.nm e.sc e.np) (sp : Sp) (hl : sps.lookup e.f = some sp) (v : Ver sp e.body e.nm e.np) : Fns (e :: r)
  | me {e : FnE} {r : List FnE} (t : Fns r) (q : Str) (hq : (q, e.f) ∈ mtab) (hr : RecM clsM q e.body e.nm e.sc e.np) (sp : Sp) (hl : sps.lookup e.f = some sp) (v : Ver sp e.body e.nm e.np) : Fns (e :: r)
theorem Fns.cok {C N : Addr} {mN : Str → Option Value} (T : Top _root_.Mine.hd.view_39 loose mean mg mb B) (P : PlainAt B clsM C N mN) (c0 : Cok (cxL prog w B C mN) g01 [] mg mb 0) {es : List FnE} (h : Fns es) (hc : fnsChk es = true) : Cok (cxL prog w B C mN) g01 (es.map (·.f)) mg mb es.length := by
  induction h with
  | nil => exact c0
  | fn t hm hr sp hl v ih =>
    obtain ⟨h1, h2⟩ := Bool.and_eq_true_iff.mp hc
    obtain ⟨d, hd, n1, b1, s1, a1⟩ := hr
    exact (ih h2).addT hm T rfl rfl hd n1 b1 s1 a1 h1 (fun h => v (c_of hl h))
  | me t q hq hr sp hl v ih =>
    obtain ⟨h1, h2⟩ := Bool.and_eq_true_iff.mp hc
    obtain ⟨d, hd, n1, b1, s1, a1⟩ := hr
    exact (ih h2).addM P T.nolimit rfl rfl hq hd n1 b1 s1 a1 h1 (fun h => v (c_of hl h))
noncomputable def fns0 : List FnE := ⟨"need", N_need, 2, 2, S_need, B_need⟩ :: ⟨"_law_copy", N_law_copy, 1, 3, S_law_copy, B_law_copy⟩ :: ⟨"_law_spoilt", N_law_spoilt, 3, 10, S_law_spoilt, B_law_spoilt⟩ :: ⟨"_law_raw_row", N_law_raw_row, 3, 7, S_law_raw_row, B_law_raw_row⟩ :: ⟨"_law_good_program", N_law_good_program, 2, 9, S_law_good_program, B_law_good_program⟩ :: ⟨"_law_good_rows", N_law_good_rows, 5, 13, S_law_good_rows, B_law_good_rows⟩ :: ⟨"_law_fitting", N_law_fitting, 5, 6, S_law_fitting, B_law_fitting⟩ :: ⟨"_law_choice", N_law_choice, 5, 9, S_law_choice, B_law_choice⟩ :: ⟨"_law_pushes", N_law_pushes, 3, 3, S_law_pushes, B_law_pushes⟩ :: ⟨"_law_told", N_law_told, 2, 6, S_law_told, B_law_told⟩ :: ⟨"_law_kinds", N_law_kinds, 2, 2, S_law_kinds, B_law_kinds⟩ :: ⟨"_law_plain_row", N_law_plain_row, 2, 4, S_law_plain_row, B_law_plain_row⟩ :: ⟨"_law_next", N_law_next, 3, 4, S_law_next, B_law_next⟩ :: ⟨"_law_called", N_law_called, 3, 5, S_law_called, B_law_called⟩ :: ⟨"_law_plainly", N_law_plainly, 2, 3, S_law_plainly, B_law_plainly⟩ :: ⟨"_law_lack", N_law_lack, 2, 4, S_law_lack, B_law_lack⟩ :: ⟨"_law_wanted", N_law_wanted, 1, 3, S_law_wanted, B_law_wanted⟩ :: ⟨"_law_value", N_law_value, 3, 5, S_law_value, B_law_value⟩ :: ⟨"_law_words", N_law_words, 2, 3, S_law_words, B_law_words⟩ :: ⟨"_law_draw", N_law_draw, 3, 5, S_law_draw, B_law_draw⟩ :: []
theorem fnsOk0 : Fns fns0 := .fn (.fn (.fn (.fn (.fn (.fn (.fn (.fn (.fn (.fn (.fn (.fn (.fn (.fn (.fn (.fn (.fn (.fn (.fn (.fn (Fns.nil) (by kernel_rfl) R_law_draw spDraw (by kernel_rfl) draw_ok) (by kernel_rfl) R_law_words spWords (by kernel_rfl) words_ok) (by kernel_rfl) R_law_value spValue (by kernel_rfl) value_ok) (by kernel_rfl) R_law_wanted spWanted (by kernel_rfl) wanted_ok) (by kernel_rfl) R_law_lack spLack (by kernel_rfl) lack_ok) (by kernel_rfl) R_law_plainly spPlainly (by kernel_rfl) plainly_ok) (by kernel_rfl) R_law_called spLCalled (by kernel_rfl) lcalled_ok) (by kernel_rfl) R_law_next spNext (by kernel_rfl) lnext_ok) (by kernel_rfl) R_law_plain_row spPlain (by kernel_rfl) plain_ok) (by kernel_rfl) R_law_kinds spKindsT (by kernel_rfl) kindst_ok) (by kernel_rfl) R_law_told spTold (by kernel_rfl) ltold_ok) (by kernel_rfl) R_law_pushes spPushes (by kernel_rfl) pushes_ok) (by kernel_rfl) R_law_choice spChoice (by kernel_rfl) choice_ok) (by kernel_rfl) R_law_fitting spFitting (by kernel_rfl) fitting_ok) (by kernel_rfl) R_law_good_rows spGoodRows (by kernel_rfl) goodrows_ok) (by kernel_rfl) R_law_good_program spGoodProgram (by kernel_rfl) goodprogram_ok) (by kernel_rfl) R_law_raw_row spRawRow (by kernel_rfl) rawrow_ok) (by kernel_rfl) R_law_spoilt spSpoilt (by kernel_rfl) spoilt_ok) (by kernel_rfl) R_law_copy spCopy (by kernel_rfl) lcopy_ok) (by kernel_rfl) R_need spNeed (by kernel_rfl) need_ok
noncomputable def fns1 : List FnE := ⟨"_law_any", N_law_any, 4, 6, S_law_any, B_law_any⟩ :: ⟨"_law_run", N_law_run, 4, 4, S_law_run, B_law_run⟩ :: ⟨"_law_way", N_law_way, 4, 7, S_law_way, B_law_way⟩ :: ⟨"_law_on_top", N_law_on_top, 3, 6, S_law_on_top, B_law_on_top⟩ :: ⟨"_law_alike", N_law_alike, 2, 3, S_law_alike, B_law_alike⟩ :: ⟨"_law_stepped", N_law_stepped, 3, 10, S_law_stepped, B_law_stepped⟩ :: ⟨"_law_left", N_law_left, 2, 3, S_law_left, B_law_left⟩ :: ⟨"_law_kinds_of", N_law_kinds_of, 1, 1, S_law_kinds_of, B_law_kinds_of⟩ :: ⟨"_law_behind", N_law_behind, 2, 4, S_law_behind, B_law_behind⟩ :: ⟨"_law_reckoned", N_law_reckoned, 3, 3, S_law_reckoned, B_law_reckoned⟩ :: ⟨"run", N_run, 4, 6, S_run, B_run⟩ :: ⟨"Machine.step", N_Machine_step, 1, 6, S_Machine_step, B_Machine_step⟩ :: ⟨"Machine.goal_of", N_Machine_goal_of, 2, 3, S_Machine_goal_of, B_Machine_goal_of⟩ :: ⟨"Machine.over", N_Machine_over, 1, 1, S_Machine_over, B_Machine_over⟩ :: ⟨"Machine.__init__", N_Machine___init__, 4, 4, S_Machine___init__, B_Machine___init__⟩ :: ⟨"Machine.settle", N_Machine_settle, 1, 1, S_Machine_settle, B_Machine_settle⟩ :: ⟨"done", N_done, 2, 6, S_done, B_done⟩ :: ⟨"reckoned", N_reckoned, 2, 2, S_reckoned, B_reckoned⟩ :: ⟨"kinds_of", N_kinds_of, 1, 3, S_kinds_of, B_kinds_of⟩ :: fns0
theorem fnsOk1 : Fns fns1 := .fn (.fn (.fn (.fn (.fn (.fn (.fn (.fn (.fn (.fn (.fn (.me (.me (.me (.me (.me (.fn (.fn (.fn (fnsOk0) (by kernel_rfl) R_kinds_of spKinds (by kernel_rfl) kinds_ok) (by kernel_rfl) R_reckoned spReck (by kernel_rfl) reck_ok) (by kernel_rfl) R_done spDone (by kernel_rfl) done_ok) "settle" (by decide +kernel) R_Machine_settle spSettle (by kernel_rfl) settle_ok) "__init__" (by decide +kernel) R_Machine___init__ spInit (by kernel_rfl) init_ok) "over" (by decide +kernel) R_Machine_over spOver (by kernel_rfl) over_ok) "goal_of" (by decide +kernel) R_Machine_goal_of spGoalOf (by kernel_rfl) goalof_ok) "step" (by decide +kernel) R_Machine_step spStep (by kernel_rfl) step_ok) (by kernel_rfl) R_run spRun (by kernel_rfl) run_ok) (by kernel_rfl) R_law_reckoned spLReck (by kernel_rfl) lreck_ok) (by kernel_rfl) R_law_behind spLBeh (by kernel_rfl) lbehind_ok) (by kernel_rfl) R_law_kinds_of spLKinds (by kernel_rfl) lkinds_ok) (by kernel_rfl) R_law_left spLeft (by kernel_rfl) left_ok) (by kernel_rfl) R_law_stepped spStepped (by kernel_rfl) stepped_ok) (by kernel_rfl) R_law_alike spAlike (by kernel_rfl) alike_ok) (by kernel_rfl) R_law_on_top spOnTop (by kernel_rfl) ontop_ok) (by kernel_rfl) R_law_way spWay (by kernel_rfl) way_ok) (by kernel_rfl) R_law_run spLRun (by kernel_rfl) lrun_ok) (by kernel_rfl) R_law_any spAny (by kernel_rfl) lany_ok
theorem fnsC : fnsChk fns1 = true := by kernel_rfl
theorem fc_law : fnChk (fns1.map (·.f)) N_law 1 13 S_law B_law = true := by kernel_rfl
theorem finL {s : Shared} (X : (_root_.Mine.hd.heap_39 w.params).In s.heap) (T : Top _root_.Mine.hd.view_39 loose mean mg mb s.heap) (TE : TopE _root_.Mine.hd.view_39 (looseW _root_.Mine.hd.view_39 _root_.Mine.hd.loos) mg s.heap) {fa l : Addr} {items : Array Value} {ns : List Int} (hmg : mg "law" = some (.ref fa)) (il : s.heap.IsList l items) (ia : IntsAre items.toList ns) (hl : ns.length ≤ 100)
    {R : Result → Shared → Prop} (hR : ∀ h' tk, (∀ b o, s.heap.get? b = some o → h'.get? b = some o) → R (.ok (.ret (.bool true))) { s with heap := h', toks := tk }) : codeAny (model prog w) callerA (.call (.ref fa) ⟨[.ref l], []⟩) R s := by
  obtain ⟨d, hd, n1, b1, s1, a1⟩ := R_law
  have hL : LIM = 1048576 := rfl
  obtain ⟨C, N, mN, hC, P⟩ := TE clsM0 clsM_mem
  rw [clsM_name] at hC
  exact law_top (cx := cxL prog w s.heap C mN) (fnsOk1.cok T P (cokL X T hC P) fnsC) T rfl rfl hd n1 b1 s1 a1 fc_law rfl hmg il ia (Nat.le_trans hl (by decide)) (by decide) (fun {Q} hQ => (law_ok (ps := [.fls ns]) (H := fun _ => none) (Q := Q) (X := fun _ _ => False) ⟨ns, rfl, hl, hQ⟩).2) hR
end
end Mine
end
open PySem PySem.W PyProof.Rows
set_option maxRecDepth 100000
set_option maxHeartbeats 8000000
theorem PySem.Challenge.cw_uf030026_08_holds : PySem.Challenge.rw_uf030026_08.Holds := by
  w_on
  refine holds_law (by kernel_rfl) fun said => ?_
  refine holds_open (q := Mine.hd.view_39) (loose := Mine.hd.loos) (Xt := Mine.hd.xt) (XP := XL Mine.hd.view_39 []) (Yf := Mine.hd.hook.obs) (Ya := Mine.hd.hook.val) (YP := Mine.hd.hook.says) Mine.hd.left (Hook.of Mine.hd.hook) (Hook.keeps Mine.hd.hook) (fun s e => xl_of s (Bool.and_eq_true_iff.mp e).1) XL.keeps (by rfl) (by rfl) (by rfl) (fun s e => recFacts_of (Bool.and_eq_true_iff.mp e).2) (by rfl) (by assumption) (by decide +kernel) ⟨rfl, rfl, rfl, rfl, rfl, by decide +kernel⟩ ?hw ?hc
  case hw => w_witness2
  case hc =>
    intro w s₀ s₁ mg mb G Y fa o pm cd doc dV kV ho hd hcd hD hmg hg args vals as hpre hlay hrd hwl hlo
    have KX := kIn_of Y
    refine Ground.open G ?_
    intro T B D TE TW
    wrow_args hpre hlay hrd hwl hlo
    all_goals (
      first | refine callC_kw (enter_call ?_) | refine enter_call ?_ | refine callC_kw (enter_callW ?_) | refine enter_callW ?_ | w_how
      )
    refine Mine.finL KX T TE hmg (by assumption) (by assumption) (by omega) fun h' tk hk => GoodW.toG ⟨.inl ⟨_, _, _, rfl, ?_, .bool true, ?_, ?_⟩, hk, rfl, hg⟩
    · intro cls; rfl
    · kernel_rfl
    · intro h; exact ⟨List.nodup_nil, fun a ha => nomatch ha⟩
