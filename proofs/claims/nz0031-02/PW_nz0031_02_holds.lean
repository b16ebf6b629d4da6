import PyProof.Rows.All
import Wide.All
import OpenK.AllK
import Wide.FinOn
import PySem.Challenge.RW_nz0031_02
open PySem PySem.W PySem.Calls PySem.Spec PyProof.Rows
set_option Elab.async false
set_option maxRecDepth 100000
set_option linter.all false
namespace Mine
local macro_rules | `(tactic| walk_at "call ref") => `(tactic| k_extra "w call ref")
local macro_rules | `(tactic| k_inst) => `(tactic| k_extra "w k_inst")
local macro_rules | `(tactic| walk_at "setAttr ref") => `(tactic| k_extra "w setAttr ref")
local macro_rules | `(tactic| walk_at "getMethod ref") => `(tactic| k_extra "w getMethod ref")
local macro_rules | `(tactic| walk_at "callWith ref") => `(tactic| k_extra "w callWith ref")
local macro_rules | `(tactic| walk_at "And") => `(tactic| k_extra "w And")
local macro_rules | `(tactic| walk_at "exec Try") => `(tactic| k_extra "w exec Try")
local macro_rules | `(tactic| walk_at "exec Raise some none") => `(tactic| k_extra "w exec Raise some none")
local macro_rules | `(tactic| walk_at "binaryOp FloorDiv int int") => `(tactic| k_extra "w binaryOp FloorDiv int int")
local macro_rules | `(tactic| walk_at "Exists") => `(tactic| k_extra "w Exists")
local macro_rules | `(tactic| walk_at "leaving ref") => `(tactic| k_extra "w leaving ref")
local macro_rules | `(tactic| walk_at "eval Call") => `(tactic| k_extra "w eval Call")
local macro_rules | `(tactic| walk_at "call builtin:list.append") => `(tactic| k_extra "w call builtin:list.append")
local macro_rules | `(tactic| walk_at "subscriptTail Name UnaryOp ref int") => `(tactic| k_extra "w subscriptTail Name UnaryOp ref int")
local macro_rules | `(tactic| walk_at "exec For Name Call cons nil") => `(tactic| k_extra "w exec For Name Call cons nil")
local macro_rules | `(tactic| walk_at "binaryOp Mult int int") => `(tactic| k_extra "w binaryOp Mult int int")
local macro_rules | `(tactic| walk_at "subscriptTail Name Constant ref int") => `(tactic| k_extra "w subscriptTail Name Constant ref int")
local macro_rules | `(tactic| walk_at "subscriptTail Attribute Name Subscript ref str") => `(tactic| k_extra "w subscriptTail Attribute Name Subscript ref str")
local macro_rules | `(tactic| walk_at "compareOp In str ref") => `(tactic| k_extra "w compareOp In str ref")
local macro_rules | `(tactic| walk_at "compareOp NotIn str ref") => `(tactic| k_extra "w compareOp NotIn str ref")
local macro_rules | `(tactic| walk_at "compareOp Eq str str") => `(tactic| k_extra "w compareOp Eq str str")
local macro_rules | `(tactic| walk_at "eval Name") => `(tactic| k_extra "w eval Name")
local macro_rules | `(tactic| walk_at "eval Dict") => `(tactic| k_extra "w eval Dict")
local macro_rules | `(tactic| k_ne) => `(tactic| k_extra "w k_ne")
local macro_rules | `(tactic| walk_at "subscriptTail Tuple cons Call ref int") => `(tactic| k_extra "w subscriptTail Tuple cons Call ref int")
local macro_rules | `(tactic| walk_at "eval IfExp Call Tuple Tuple") => `(tactic| k_extra "w eval IfExp Call Tuple Tuple")
local macro_rules | `(tactic| walk_at "call type:int cons nil") => `(tactic| k_extra "w call type:int cons nil")
local macro_rules | `(tactic| walk_at "subscriptTail Name Slice ref ref") => `(tactic| k_extra "w subscriptTail Name Slice ref ref")
-- part Sd
theorem said0 : PySem.Challenge.rw_nz0031_02.wellSaid = true := by kernel_rfl
theorem prom0 : PySem.Challenge.rw_nz0031_02.row.prog.bare := ⟨rfl, rfl, rfl, rfl, rfl, by decide +kernel⟩

-- part Base3
noncomputable def o_2 (P : Params) : Obj := ⟨Value.none, none, (Data.dict (List.toArray [⟨(PyData.keyHash P (Str.ofString "type.__subclasses__.Exception.0")), (Value.str (Str.ofString "type.__subclasses__.Exception.0") 269), (Value.int 75 0)⟩, ⟨(PyData.keyHash P (Str.ofString "type.__subclasses__.Exception.n")), (Value.str (Str.ofString "type.__subclasses__.Exception.n") 270), (Value.int 1 0)⟩]) 2), (List.toArray [])⟩
noncomputable def o_3 (P : Params) : Obj := ⟨(Value.type "dict"), none, (Data.dict (List.toArray [⟨(PyData.keyHash P (Str.ofString "__name__")), (Value.str (Str.ofString "__name__") 165), (Value.str (Str.ofString "law_nz0031_02") 722)⟩, ⟨(PyData.keyHash P (Str.ofString "__doc__")), (Value.str (Str.ofString "__doc__") 166), Value.none⟩, ⟨(PyData.keyHash P (Str.ofString "__package__")), (Value.str (Str.ofString "__package__") 167), Value.none⟩, ⟨(PyData.keyHash P (Str.ofString "__loader__")), (Value.str (Str.ofString "__loader__") 168), (Value.builtin "__main__.__loader__#opaque")⟩, ⟨(PyData.keyHash P (Str.ofString "__spec__")), (Value.str (Str.ofString "__spec__") 169), Value.none⟩, ⟨(PyData.keyHash P (Str.ofString "__annotations__")), (Value.str (Str.ofString "__annotations__") 170), (Value.ref 6)⟩, ⟨(PyData.keyHash P (Str.ofString "__builtins__")), (Value.str (Str.ofString "__builtins__") 171), (Value.ref 4)⟩, ⟨(PyData.keyHash P (Str.ofString "__file__")), (Value.str (Str.ofString "__file__") 173), (Value.str (Str.ofString "/claim/cut.py") 172)⟩, ⟨(PyData.keyHash P (Str.ofString "__cached__")), (Value.str (Str.ofString "__cached__") 174), Value.none⟩, ⟨(PyData.keyHash P (Str.ofString "range_of")), (Value.str (Str.ofString "range_of") 196), (Value.ref 21)⟩, ⟨(PyData.keyHash P (Str.ofString "put_behind")), (Value.str (Str.ofString "put_behind") 205), (Value.ref 28)⟩, ⟨(PyData.keyHash P (Str.ofString "from_values")), (Value.str (Str.ofString "from_values") 214), (Value.ref 35)⟩, ⟨(PyData.keyHash P (Str.ofString "next_from")), (Value.str (Str.ofString "next_from") 224), (Value.ref 42)⟩, ⟨(PyData.keyHash P (Str.ofString "has")), (Value.str (Str.ofString "has") 232), (Value.ref 49)⟩, ⟨(PyData.keyHash P (Str.ofString "FdError")), (Value.str (Str.ofString "FdError") 272), (Value.ref 75)⟩, ⟨(PyData.keyHash P (Str.ofString "SpotFault")), (Value.str (Str.ofString "SpotFault") 307), (Value.ref 104)⟩, ⟨(PyData.keyHash P (Str.ofString "EvalFault")), (Value.str (Str.ofString "EvalFault") 323), (Value.ref 116)⟩, ⟨(PyData.keyHash P (Str.ofString "LimitFault")), (Value.str (Str.ofString "LimitFault") 339), (Value.ref 128)⟩, ⟨(PyData.keyHash P (Str.ofString "MOST_VALUES")), (Value.str (Str.ofString "MOST_VALUES") 343), (Value.int 100000 342)⟩, ⟨(PyData.keyHash P (Str.ofString "MOST_POWER")), (Value.str (Str.ofString "MOST_POWER") 345), (Value.int 1000 344)⟩, ⟨(PyData.keyHash P (Str.ofString "MOST_SHOWN")), (Value.str (Str.ofString "MOST_SHOWN") 347), (Value.int 1000 346)⟩, ⟨(PyData.keyHash P (Str.ofString "is_array")), (Value.str (Str.ofString "is_array") 354), (Value.ref 137)⟩, ⟨(PyData.keyHash P (Str.ofString "is_set")), (Value.str (Str.ofString "is_set") 361), (Value.ref 144)⟩, ⟨(PyData.keyHash P (Str.ofString "number_of")), (Value.str (Str.ofString "number_of") 369), (Value.ref 151)⟩, ⟨(PyData.keyHash P (Str.ofString "truth_of")), (Value.str (Str.ofString "truth_of") 377), (Value.ref 158)⟩, ⟨(PyData.keyHash P (Str.ofString "text_of")), (Value.str (Str.ofString "text_of") 385), (Value.ref 165)⟩, ⟨(PyData.keyHash P (Str.ofString "set_of")), (Value.str (Str.ofString "set_of") 393), (Value.ref 172)⟩, ⟨(PyData.keyHash P (Str.ofString "list_of")), (Value.str (Str.ofString "list_of") 401), (Value.ref 179)⟩, ⟨(PyData.keyHash P (Str.ofString "elements_of")), (Value.str (Str.ofString "elements_of") 409), (Value.ref 186)⟩, ⟨(PyData.keyHash P (Str.ofString "row_of")), (Value.str (Str.ofString "row_of") 416), (Value.ref 193)⟩, ⟨(PyData.keyHash P (Str.ofString "span")), (Value.str (Str.ofString "span") 424), (Value.ref 200)⟩, ⟨(PyData.keyHash P (Str.ofString "quotient")), (Value.str (Str.ofString "quotient") 434), (Value.ref 207)⟩, ⟨(PyData.keyHash P (Str.ofString "within_figures")), (Value.str (Str.ofString "within_figures") 441), (Value.ref 214)⟩, ⟨(PyData.keyHash P (Str.ofString "power")), (Value.str (Str.ofString "power") 452), (Value.ref 221)⟩, ⟨(PyData.keyHash P (Str.ofString "are_same")), (Value.str (Str.ofString "are_same") 458), (Value.ref 226)⟩, ⟨(PyData.keyHash P (Str.ofString "are_compared")), (Value.str (Str.ofString "are_compared") 468), (Value.ref 233)⟩, ⟨(PyData.keyHash P (Str.ofString "joined_sets")), (Value.str (Str.ofString "joined_sets") 474), (Value.ref 238)⟩, ⟨(PyData.keyHash P (Str.ofString "reckoned")), (Value.str (Str.ofString "reckoned") 484), (Value.ref 245)⟩, ⟨(PyData.keyHash P (Str.ofString "show_text")), (Value.str (Str.ofString "show_text") 490), (Value.ref 250)⟩, ⟨(PyData.keyHash P (Str.ofString "folded")), (Value.str (Str.ofString "folded") 496), (Value.ref 255)⟩, ⟨(PyData.keyHash P (Str.ofString "FOLDING")), (Value.str (Str.ofString "FOLDING") 505), (Value.ref 256)⟩, ⟨(PyData.keyHash P (Str.ofString "scopes_of")), (Value.str (Str.ofString "scopes_of") 511), (Value.ref 261)⟩, ⟨(PyData.keyHash P (Str.ofString "Evaluator")), (Value.str (Str.ofString "Evaluator") 667), (Value.ref 356)⟩, ⟨(PyData.keyHash P (Str.ofString "fitted_one")), (Value.str (Str.ofString "fitted_one") 673), (Value.ref 365)⟩, ⟨(PyData.keyHash P (Str.ofString "called")), (Value.str (Str.ofString "called") 679), (Value.ref 370)⟩, ⟨(PyData.keyHash P (Str.ofString "alone")), (Value.str (Str.ofString "alone") 688), (Value.ref 377)⟩, ⟨(PyData.keyHash P (Str.ofString "of_value")), (Value.str (Str.ofString "of_value") 694), (Value.ref 382)⟩, ⟨(PyData.keyHash P (Str.ofString "indexes_of")), (Value.str (Str.ofString "indexes_of") 704), (Value.ref 389)⟩, ⟨(PyData.keyHash P (Str.ofString "indexed")), (Value.str (Str.ofString "indexed") 710), (Value.ref 394)⟩, ⟨(PyData.keyHash P (Str.ofString "united")), (Value.str (Str.ofString "united") 721), (Value.ref 401)⟩, ⟨(PyData.keyHash P (Str.ofString "_law_draw")), (Value.str (Str.ofString "_law_draw") 733), (Value.ref 408)⟩, ⟨(PyData.keyHash P (Str.ofString "_law_heard")), (Value.str (Str.ofString "_law_heard") 741), (Value.ref 415)⟩, ⟨(PyData.keyHash P (Str.ofString "_law_number")), (Value.str (Str.ofString "_law_number") 750), (Value.ref 422)⟩, ⟨(PyData.keyHash P (Str.ofString "_law_pair")), (Value.str (Str.ofString "_law_pair") 758), (Value.ref 429)⟩, ⟨(PyData.keyHash P (Str.ofString "_law_times")), (Value.str (Str.ofString "_law_times") 769), (Value.ref 436)⟩, ⟨(PyData.keyHash P (Str.ofString "_law_parted")), (Value.str (Str.ofString "_law_parted") 780), (Value.ref 443)⟩, ⟨(PyData.keyHash P (Str.ofString "_law_power")), (Value.str (Str.ofString "_law_power") 790), (Value.ref 450)⟩, ⟨(PyData.keyHash P (Str.ofString "_law_due")), (Value.str (Str.ofString "_law_due") 799), (Value.ref 457)⟩, ⟨(PyData.keyHash P (Str.ofString "_law_node_right")), (Value.str (Str.ofString "_law_node_right") 816), (Value.ref 464)⟩, ⟨(PyData.keyHash P (Str.ofString "law")), (Value.str (Str.ofString "law") 829), (Value.ref 471)⟩]) 60), (List.toArray [])⟩
noncomputable def o_11 (_P : Params) : Obj := ⟨(Value.type "tuple"), none, (Data.seq (List.toArray []) 0), (List.toArray [])⟩
noncomputable def o_12 (_P : Params) : Obj := ⟨Value.none, none, (Data.fields (List.toArray [(Value.int 2 0), (Value.int 0 0), (Value.ref 20), (Value.int 4 0), (Value.int 0 0), (Value.ref 27), (Value.int 10 0), (Value.int 0 0), (Value.ref 34), (Value.int 15 0), (Value.int 0 0), (Value.ref 41), (Value.int 20 0), (Value.int 0 0), (Value.ref 48), (Value.int 23 0), (Value.int 0 0), (Value.ref 56), (Value.int 31 0), (Value.int 0 0), (Value.ref 85), (Value.int 39 0), (Value.int 0 0), (Value.ref 112), (Value.int 41 0), (Value.int 0 0), (Value.ref 124), (Value.int 47 0), (Value.int 0 0), (Value.ref 136), (Value.int 49 0), (Value.int 0 0), (Value.ref 143), (Value.int 51 0), (Value.int 0 0), (Value.ref 150), (Value.int 55 0), (Value.int 0 0), (Value.ref 157), (Value.int 59 0), (Value.int 0 0), (Value.ref 164), (Value.int 63 0), (Value.int 0 0), (Value.ref 171), (Value.int 67 0), (Value.int 0 0), (Value.ref 178), (Value.int 71 0), (Value.int 0 0), (Value.ref 185), (Value.int 73 0), (Value.int 0 0), (Value.ref 192), (Value.int 75 0), (Value.int 0 0), (Value.ref 199), (Value.int 79 0), (Value.int 0 0), (Value.ref 206), (Value.int 84 0), (Value.int 0 0), (Value.ref 213), (Value.int 88 0), (Value.int 0 0), (Value.ref 220), (Value.int 97 0), (Value.int 0 0), (Value.ref 225), (Value.int 103 0), (Value.int 0 0), (Value.ref 232), (Value.int 115 0), (Value.int 0 0), (Value.ref 237), (Value.int 123 0), (Value.int 0 0), (Value.ref 244), (Value.int 135 0), (Value.int 0 0), (Value.ref 249), (Value.int 147 0), (Value.int 0 0), (Value.ref 254), (Value.int 167 0), (Value.int 0 0), (Value.ref 260), (Value.int 183 0), (Value.int 0 0), (Value.ref 267), (Value.int 335 0), (Value.int 0 0), (Value.ref 364), (Value.int 344 0), (Value.int 0 0), (Value.ref 369), (Value.int 368 0), (Value.int 0 0), (Value.ref 376), (Value.int 372 0), (Value.int 0 0), (Value.ref 381), (Value.int 391 0), (Value.int 0 0), (Value.ref 388), (Value.int 397 0), (Value.int 0 0), (Value.ref 393), (Value.int 411 0), (Value.int 0 0), (Value.ref 400), (Value.int 419 0), (Value.int 0 0), (Value.ref 407), (Value.int 425 0), (Value.int 0 0), (Value.ref 414), (Value.int 430 0), (Value.int 0 0), (Value.ref 421), (Value.int 438 0), (Value.int 0 0), (Value.ref 428), (Value.int 444 0), (Value.int 0 0), (Value.ref 435), (Value.int 451 0), (Value.int 0 0), (Value.ref 442), (Value.int 461 0), (Value.int 0 0), (Value.ref 449), (Value.int 472 0), (Value.int 0 0), (Value.ref 456), (Value.int 480 0), (Value.int 0 0), (Value.ref 463), (Value.int 493 0), (Value.int 0 0), (Value.ref 470)])), (List.toArray [])⟩
noncomputable def o_13 (_P : Params) : Obj := ⟨(Value.type "code"), none, (Data.fields (List.toArray [(Value.str (Str.ofString "<module>") 182), (Value.str (Str.ofString "<module>") 183), (Value.str (Str.ofString "/claim/cut.py") 184), (Value.int 1 0), (Value.int 0 0), (Value.int 0 0), (Value.int 0 0), (Value.int 0 0), (Value.ref 11), (Value.bool false), (Value.int 181 0), (Value.ref 12), Value.none, Value.none, Value.none, Value.none, (Value.int 185 0), (Value.int 1 0), (Value.str (Str.ofString "/claim/cut.py") 186)])), (List.toArray [])⟩
noncomputable def o_14 (_P : Params) : Obj := ⟨(Value.type "frame"), none, Data.plain, (List.toArray [(some (Value.ref 13)), (some (Value.ref 3)), (some (Value.ref 3)), none, (some (Value.str (Str.ofString "__main__") 164)), none, (some (Value.ref 0))])⟩
noncomputable def o_15 (_P : Params) : Obj := ⟨(Value.type "tuple"), none, (Data.seq (List.toArray []) 0), (List.toArray [])⟩
noncomputable def o_16 (_P : Params) : Obj := ⟨Value.none, none, (Data.fields (List.toArray [])), (List.toArray [])⟩
noncomputable def o_17 (_P : Params) : Obj := ⟨(Value.type "tuple"), none, (Data.seq (List.toArray [(Value.str (Str.ofString "low") 192), (Value.str (Str.ofString "high") 193)]) 0), (List.toArray [])⟩
noncomputable def o_18 (_P : Params) : Obj := ⟨(Value.type "tuple"), none, (Data.seq (List.toArray []) 0), (List.toArray [])⟩
noncomputable def o_20 (_P : Params) : Obj := ⟨(Value.type "code"), none, (Data.fields (List.toArray [(Value.str (Str.ofString "range_of") 189), (Value.str (Str.ofString "range_of") 190), (Value.str (Str.ofString "/claim/cut.py") 191), (Value.int 2 0), (Value.int 2 0), (Value.int 0 0), (Value.int 0 0), (Value.int 3 0), (Value.ref 15), (Value.bool true), (Value.int 181 0), (Value.ref 16), Value.none, (Value.ref 17), (Value.ref 18), (Value.ref 19), (Value.int 194 0), (Value.int 2 0), (Value.str (Str.ofString "/claim/cut.py") 195)])), (List.toArray [])⟩
noncomputable def o_22 (_P : Params) : Obj := ⟨(Value.type "tuple"), none, (Data.seq (List.toArray []) 0), (List.toArray [])⟩
noncomputable def o_23 (_P : Params) : Obj := ⟨Value.none, none, (Data.fields (List.toArray [])), (List.toArray [])⟩
noncomputable def o_24 (_P : Params) : Obj := ⟨(Value.type "tuple"), none, (Data.seq (List.toArray [(Value.str (Str.ofString "found") 200), (Value.str (Str.ofString "low") 201), (Value.str (Str.ofString "high") 202)]) 0), (List.toArray [])⟩
noncomputable def o_25 (_P : Params) : Obj := ⟨(Value.type "tuple"), none, (Data.seq (List.toArray []) 0), (List.toArray [])⟩
noncomputable def o_27 (_P : Params) : Obj := ⟨(Value.type "code"), none, (Data.fields (List.toArray [(Value.str (Str.ofString "put_behind") 197), (Value.str (Str.ofString "put_behind") 198), (Value.str (Str.ofString "/claim/cut.py") 199), (Value.int 4 0), (Value.int 3 0), (Value.int 0 0), (Value.int 0 0), (Value.int 3 0), (Value.ref 22), (Value.bool true), (Value.int 181 0), (Value.ref 23), Value.none, (Value.ref 24), (Value.ref 25), (Value.ref 26), (Value.int 203 0), (Value.int 4 0), (Value.str (Str.ofString "/claim/cut.py") 204)])), (List.toArray [])⟩
noncomputable def o_29 (_P : Params) : Obj := ⟨(Value.type "tuple"), none, (Data.seq (List.toArray []) 0), (List.toArray [])⟩
noncomputable def o_30 (_P : Params) : Obj := ⟨Value.none, none, (Data.fields (List.toArray [])), (List.toArray [])⟩
noncomputable def o_31 (_P : Params) : Obj := ⟨(Value.type "tuple"), none, (Data.seq (List.toArray [(Value.str (Str.ofString "numbers") 209), (Value.str (Str.ofString "found") 210), (Value.str (Str.ofString "v") 211)]) 0), (List.toArray [])⟩
noncomputable def o_32 (_P : Params) : Obj := ⟨(Value.type "tuple"), none, (Data.seq (List.toArray []) 0), (List.toArray [])⟩
noncomputable def o_34 (_P : Params) : Obj := ⟨(Value.type "code"), none, (Data.fields (List.toArray [(Value.str (Str.ofString "from_values") 206), (Value.str (Str.ofString "from_values") 207), (Value.str (Str.ofString "/claim/cut.py") 208), (Value.int 10 0), (Value.int 1 0), (Value.int 0 0), (Value.int 0 0), (Value.int 3 0), (Value.ref 29), (Value.bool true), (Value.int 181 0), (Value.ref 30), Value.none, (Value.ref 31), (Value.ref 32), (Value.ref 33), (Value.int 212 0), (Value.int 10 0), (Value.str (Str.ofString "/claim/cut.py") 213)])), (List.toArray [])⟩
noncomputable def o_36 (_P : Params) : Obj := ⟨(Value.type "tuple"), none, (Data.seq (List.toArray []) 0), (List.toArray [])⟩
noncomputable def o_37 (_P : Params) : Obj := ⟨Value.none, none, (Data.fields (List.toArray [])), (List.toArray [])⟩
noncomputable def o_38 (_P : Params) : Obj := ⟨(Value.type "tuple"), none, (Data.seq (List.toArray [(Value.str (Str.ofString "d") 218), (Value.str (Str.ofString "v") 219), (Value.str (Str.ofString "low") 220), (Value.str (Str.ofString "high") 221)]) 0), (List.toArray [])⟩
noncomputable def o_39 (_P : Params) : Obj := ⟨(Value.type "tuple"), none, (Data.seq (List.toArray []) 0), (List.toArray [])⟩
noncomputable def o_41 (_P : Params) : Obj := ⟨(Value.type "code"), none, (Data.fields (List.toArray [(Value.str (Str.ofString "next_from") 215), (Value.str (Str.ofString "next_from") 216), (Value.str (Str.ofString "/claim/cut.py") 217), (Value.int 15 0), (Value.int 2 0), (Value.int 0 0), (Value.int 0 0), (Value.int 3 0), (Value.ref 36), (Value.bool true), (Value.int 181 0), (Value.ref 37), Value.none, (Value.ref 38), (Value.ref 39), (Value.ref 40), (Value.int 222 0), (Value.int 15 0), (Value.str (Str.ofString "/claim/cut.py") 223)])), (List.toArray [])⟩
noncomputable def o_43 (_P : Params) : Obj := ⟨(Value.type "tuple"), none, (Data.seq (List.toArray []) 0), (List.toArray [])⟩
noncomputable def o_44 (_P : Params) : Obj := ⟨Value.none, none, (Data.fields (List.toArray [])), (List.toArray [])⟩
noncomputable def o_45 (_P : Params) : Obj := ⟨(Value.type "tuple"), none, (Data.seq (List.toArray [(Value.str (Str.ofString "d") 228), (Value.str (Str.ofString "v") 229)]) 0), (List.toArray [])⟩
noncomputable def o_46 (_P : Params) : Obj := ⟨(Value.type "tuple"), none, (Data.seq (List.toArray []) 0), (List.toArray [])⟩
noncomputable def o_48 (_P : Params) : Obj := ⟨(Value.type "code"), none, (Data.fields (List.toArray [(Value.str (Str.ofString "has") 225), (Value.str (Str.ofString "has") 226), (Value.str (Str.ofString "/claim/cut.py") 227), (Value.int 20 0), (Value.int 2 0), (Value.int 0 0), (Value.int 0 0), (Value.int 3 0), (Value.ref 43), (Value.bool true), (Value.int 181 0), (Value.ref 44), Value.none, (Value.ref 45), (Value.ref 46), (Value.ref 47), (Value.int 230 0), (Value.int 20 0), (Value.str (Str.ofString "/claim/cut.py") 231)])), (List.toArray [])⟩
noncomputable def o_50 (_P : Params) : Obj := ⟨(Value.type "tuple"), none, (Data.seq (List.toArray [(Value.type "Exception")]) 0), (List.toArray [])⟩
noncomputable def o_53 (_P : Params) : Obj := ⟨(Value.type "cell"), none, (Data.cell (some (Value.ref 75))), (List.toArray [])⟩
noncomputable def o_58 (_P : Params) : Obj := ⟨(Value.type "tuple"), none, (Data.seq (List.toArray [(Value.ref 53)]) 0), (List.toArray [])⟩
noncomputable def o_59 (_P : Params) : Obj := ⟨(Value.type "tuple"), none, (Data.seq (List.toArray [(Value.str (Str.ofString "__class__") 250)]) 0), (List.toArray [])⟩
noncomputable def o_60 (_P : Params) : Obj := ⟨Value.none, none, (Data.fields (List.toArray [])), (List.toArray [])⟩
noncomputable def o_61 (_P : Params) : Obj := ⟨(Value.type "tuple"), none, (Data.seq (List.toArray [(Value.str (Str.ofString "self") 251), (Value.str (Str.ofString "what") 252)]) 0), (List.toArray [])⟩
noncomputable def o_62 (_P : Params) : Obj := ⟨(Value.type "tuple"), none, (Data.seq (List.toArray []) 0), (List.toArray [])⟩
noncomputable def o_64 (_P : Params) : Obj := ⟨(Value.type "code"), none, (Data.fields (List.toArray [(Value.str (Str.ofString "__init__") 247), (Value.str (Str.ofString "FdError.__init__") 248), (Value.str (Str.ofString "/claim/cut.py") 249), (Value.int 25 0), (Value.int 2 0), (Value.int 0 0), (Value.int 0 0), (Value.int 3 0), (Value.ref 59), (Value.bool true), (Value.int 181 0), (Value.ref 60), Value.none, (Value.ref 61), (Value.ref 62), (Value.ref 63), (Value.int 253 0), (Value.int 25 0), (Value.str (Str.ofString "/claim/cut.py") 254)])), (List.toArray [])⟩
noncomputable def o_65 (_P : Params) : Obj := ⟨(Value.type "function"), none, (Data.func ⟨(Str.ofString "__init__"), (Str.ofString "FdError.__init__"), ⟨[], [⟨(Str.ofString "self"), none, ⟨25, 17, 25, 21⟩⟩, ⟨(Str.ofString "what"), none, ⟨25, 23, 25, 27⟩⟩], none, [], [], none, []⟩, (FuncBody.stmts [(Stmt.Expr (Expr.Call (Expr.Attribute (Expr.Call (Expr.Name (Str.ofString "super") ⟨26, 8, 26, 13⟩) [] [] ⟨26, 8, 26, 15⟩) (Str.ofString "__init__") ⟨26, 8, 26, 24⟩) [(Expr.Name (Str.ofString "what") ⟨26, 25, 26, 29⟩)] [] ⟨26, 8, 26, 30⟩) ⟨26, 8, 26, 30⟩), (Stmt.Assign [(Expr.Attribute (Expr.Name (Str.ofString "self") ⟨27, 8, 27, 12⟩) (Str.ofString "what") ⟨27, 8, 27, 17⟩)] (Expr.Name (Str.ofString "what") ⟨27, 20, 27, 24⟩) ⟨27, 8, 27, 24⟩)]), ⟨ScopeKind.function, [((Str.ofString "self"), NameKind.local), ((Str.ofString "what"), NameKind.local), ((Str.ofString "__class__"), NameKind.free), ((Str.ofString "super"), NameKind.globalImplicit)], false, false, []⟩, 3, [((Str.ofString "__class__"), 53)], Value.none, Value.none, Value.none, (Value.str (Str.ofString "fdsolve.errors") 233), none, (Value.ref 64), (Value.ref 58), 0⟩), (List.toArray [])⟩
noncomputable def o_66 (_P : Params) : Obj := ⟨(Value.type "tuple"), none, (Data.seq (List.toArray []) 0), (List.toArray [])⟩
noncomputable def o_67 (_P : Params) : Obj := ⟨Value.none, none, (Data.fields (List.toArray [])), (List.toArray [])⟩
noncomputable def o_68 (_P : Params) : Obj := ⟨(Value.type "tuple"), none, (Data.seq (List.toArray [(Value.str (Str.ofString "self") 259)]) 0), (List.toArray [])⟩
noncomputable def o_69 (_P : Params) : Obj := ⟨(Value.type "tuple"), none, (Data.seq (List.toArray []) 0), (List.toArray [])⟩
noncomputable def o_71 (_P : Params) : Obj := ⟨(Value.type "code"), none, (Data.fields (List.toArray [(Value.str (Str.ofString "told") 256), (Value.str (Str.ofString "FdError.told") 257), (Value.str (Str.ofString "/claim/cut.py") 258), (Value.int 29 0), (Value.int 1 0), (Value.int 0 0), (Value.int 0 0), (Value.int 3 0), (Value.ref 66), (Value.bool true), (Value.int 181 0), (Value.ref 67), Value.none, (Value.ref 68), (Value.ref 69), (Value.ref 70), (Value.int 260 0), (Value.int 29 0), (Value.str (Str.ofString "/claim/cut.py") 261)])), (List.toArray [])⟩
noncomputable def o_73 (_P : Params) : Obj := ⟨(Value.type "tuple"), none, (Data.seq (List.toArray [(Value.str (Str.ofString "what") 263)]) 0), (List.toArray [])⟩
noncomputable def o_74 (P : Params) : Obj := ⟨(Value.type "dict"), none, (Data.dict (List.toArray [⟨(PyData.keyHash P (Str.ofString "__module__")), (Value.str (Str.ofString "__module__") 242), (Value.str (Str.ofString "fdsolve.errors") 233)⟩, ⟨(PyData.keyHash P (Str.ofString "__firstlineno__")), (Value.str (Str.ofString "__firstlineno__") 246), (Value.int 23 245)⟩, ⟨(PyData.keyHash P (Str.ofString "__init__")), (Value.str (Str.ofString "__init__") 255), (Value.ref 65)⟩, ⟨(PyData.keyHash P (Str.ofString "told")), (Value.str (Str.ofString "told") 262), (Value.ref 72)⟩, ⟨(PyData.keyHash P (Str.ofString "__static_attributes__")), (Value.str (Str.ofString "__static_attributes__") 264), (Value.ref 73)⟩, ⟨(PyData.keyHash P (Str.ofString "__weakref__")), (Value.str (Str.ofString "__weakref__") 267), (Value.ref 76)⟩, ⟨(PyData.keyHash P (Str.ofString "__doc__")), (Value.str (Str.ofString "__doc__") 268), Value.none⟩]) 4), (List.toArray [])⟩
noncomputable def o_75 (_P : Params) : Obj := ⟨(Value.type "type"), none, (Data.cls ⟨(Str.ofString "FdError"), [(Value.type "Exception")], [(Value.ref 75), (Value.type "Exception"), (Value.type "BaseException"), (Value.type "object")], 74, (Str.ofString "FdError"), true, [], [(Value.ref 104), (Value.ref 128)], false, none, false⟩), (List.toArray [(some (Value.ref 50)), none, (some (Value.str (Str.ofString "FdError") 235)), (some (Value.str (Str.ofString "FdError") 243)), (some (Value.builtin "Exception.__new__")), (some (Value.bool true))])⟩
noncomputable def o_76 (_P : Params) : Obj := ⟨(Value.type "getset_descriptor"), none, (Data.fields (List.toArray [(Value.str (Str.ofString "__weakref__") 266), (Value.ref 75), (Value.builtin "ExceptionGroup.__weakref__"), Value.none])), (List.toArray [])⟩
noncomputable def o_79 (_P : Params) : Obj := ⟨(Value.type "tuple"), none, (Data.seq (List.toArray [(Value.ref 75)]) 0), (List.toArray [])⟩
noncomputable def o_82 (_P : Params) : Obj := ⟨(Value.type "cell"), none, (Data.cell (some (Value.ref 104))), (List.toArray [])⟩
noncomputable def o_87 (_P : Params) : Obj := ⟨(Value.type "tuple"), none, (Data.seq (List.toArray [(Value.ref 82)]) 0), (List.toArray [])⟩
noncomputable def o_88 (_P : Params) : Obj := ⟨(Value.type "tuple"), none, (Data.seq (List.toArray [(Value.str (Str.ofString "__class__") 288)]) 0), (List.toArray [])⟩
noncomputable def o_89 (_P : Params) : Obj := ⟨Value.none, none, (Data.fields (List.toArray [])), (List.toArray [])⟩
noncomputable def o_90 (_P : Params) : Obj := ⟨(Value.type "tuple"), none, (Data.seq (List.toArray [(Value.str (Str.ofString "self") 289), (Value.str (Str.ofString "what") 290), (Value.str (Str.ofString "spot") 291)]) 0), (List.toArray [])⟩
noncomputable def o_91 (_P : Params) : Obj := ⟨(Value.type "tuple"), none, (Data.seq (List.toArray []) 0), (List.toArray [])⟩
noncomputable def o_93 (_P : Params) : Obj := ⟨(Value.type "code"), none, (Data.fields (List.toArray [(Value.str (Str.ofString "__init__") 285), (Value.str (Str.ofString "SpotFault.__init__") 286), (Value.str (Str.ofString "/claim/cut.py") 287), (Value.int 33 0), (Value.int 3 0), (Value.int 0 0), (Value.int 0 0), (Value.int 3 0), (Value.ref 88), (Value.bool true), (Value.int 181 0), (Value.ref 89), Value.none, (Value.ref 90), (Value.ref 91), (Value.ref 92), (Value.int 292 0), (Value.int 33 0), (Value.str (Str.ofString "/claim/cut.py") 293)])), (List.toArray [])⟩
noncomputable def o_94 (_P : Params) : Obj := ⟨(Value.type "function"), none, (Data.func ⟨(Str.ofString "__init__"), (Str.ofString "SpotFault.__init__"), ⟨[], [⟨(Str.ofString "self"), none, ⟨33, 17, 33, 21⟩⟩, ⟨(Str.ofString "what"), none, ⟨33, 23, 33, 27⟩⟩, ⟨(Str.ofString "spot"), none, ⟨33, 29, 33, 33⟩⟩], none, [], [], none, []⟩, (FuncBody.stmts [(Stmt.Expr (Expr.Call (Expr.Attribute (Expr.Call (Expr.Name (Str.ofString "super") ⟨34, 8, 34, 13⟩) [] [] ⟨34, 8, 34, 15⟩) (Str.ofString "__init__") ⟨34, 8, 34, 24⟩) [(Expr.Name (Str.ofString "what") ⟨34, 25, 34, 29⟩)] [] ⟨34, 8, 34, 30⟩) ⟨34, 8, 34, 30⟩), (Stmt.Assign [(Expr.Attribute (Expr.Name (Str.ofString "self") ⟨35, 8, 35, 12⟩) (Str.ofString "spot") ⟨35, 8, 35, 17⟩)] (Expr.Name (Str.ofString "spot") ⟨35, 20, 35, 24⟩) ⟨35, 8, 35, 24⟩)]), ⟨ScopeKind.function, [((Str.ofString "self"), NameKind.local), ((Str.ofString "what"), NameKind.local), ((Str.ofString "spot"), NameKind.local), ((Str.ofString "__class__"), NameKind.free), ((Str.ofString "super"), NameKind.globalImplicit)], false, false, []⟩, 3, [((Str.ofString "__class__"), 82)], Value.none, Value.none, Value.none, (Value.str (Str.ofString "fdsolve.errors") 233), none, (Value.ref 93), (Value.ref 87), 0⟩), (List.toArray [])⟩
noncomputable def o_95 (_P : Params) : Obj := ⟨(Value.type "tuple"), none, (Data.seq (List.toArray []) 0), (List.toArray [])⟩
noncomputable def o_96 (_P : Params) : Obj := ⟨Value.none, none, (Data.fields (List.toArray [])), (List.toArray [])⟩
noncomputable def o_97 (_P : Params) : Obj := ⟨(Value.type "tuple"), none, (Data.seq (List.toArray [(Value.str (Str.ofString "self") 298)]) 0), (List.toArray [])⟩
noncomputable def o_98 (_P : Params) : Obj := ⟨(Value.type "tuple"), none, (Data.seq (List.toArray []) 0), (List.toArray [])⟩
noncomputable def o_100 (_P : Params) : Obj := ⟨(Value.type "code"), none, (Data.fields (List.toArray [(Value.str (Str.ofString "told") 295), (Value.str (Str.ofString "SpotFault.told") 296), (Value.str (Str.ofString "/claim/cut.py") 297), (Value.int 37 0), (Value.int 1 0), (Value.int 0 0), (Value.int 0 0), (Value.int 3 0), (Value.ref 95), (Value.bool true), (Value.int 181 0), (Value.ref 96), Value.none, (Value.ref 97), (Value.ref 98), (Value.ref 99), (Value.int 299 0), (Value.int 37 0), (Value.str (Str.ofString "/claim/cut.py") 300)])), (List.toArray [])⟩
noncomputable def o_102 (_P : Params) : Obj := ⟨(Value.type "tuple"), none, (Data.seq (List.toArray [(Value.str (Str.ofString "spot") 302)]) 0), (List.toArray [])⟩
noncomputable def o_103 (P : Params) : Obj := ⟨(Value.type "dict"), none, (Data.dict (List.toArray [⟨(PyData.keyHash P (Str.ofString "__module__")), (Value.str (Str.ofString "__module__") 280), (Value.str (Str.ofString "fdsolve.errors") 233)⟩, ⟨(PyData.keyHash P (Str.ofString "__firstlineno__")), (Value.str (Str.ofString "__firstlineno__") 284), (Value.int 31 283)⟩, ⟨(PyData.keyHash P (Str.ofString "__init__")), (Value.str (Str.ofString "__init__") 294), (Value.ref 94)⟩, ⟨(PyData.keyHash P (Str.ofString "told")), (Value.str (Str.ofString "told") 301), (Value.ref 101)⟩, ⟨(PyData.keyHash P (Str.ofString "__static_attributes__")), (Value.str (Str.ofString "__static_attributes__") 303), (Value.ref 102)⟩, ⟨(PyData.keyHash P (Str.ofString "__doc__")), (Value.str (Str.ofString "__doc__") 305), Value.none⟩]) 3), (List.toArray [])⟩
noncomputable def o_104 (_P : Params) : Obj := ⟨(Value.type "type"), none, (Data.cls ⟨(Str.ofString "SpotFault"), [(Value.ref 75)], [(Value.ref 104), (Value.ref 75), (Value.type "Exception"), (Value.type "BaseException"), (Value.type "object")], 103, (Str.ofString "SpotFault"), true, [], [(Value.ref 116)], false, none, false⟩), (List.toArray [(some (Value.ref 79)), none, (some (Value.str (Str.ofString "SpotFault") 273)), (some (Value.str (Str.ofString "SpotFault") 281)), (some (Value.builtin "Exception.__new__")), (some (Value.bool true))])⟩
noncomputable def o_107 (_P : Params) : Obj := ⟨(Value.type "tuple"), none, (Data.seq (List.toArray [(Value.ref 104)]) 0), (List.toArray [])⟩
noncomputable def o_114 (_P : Params) : Obj := ⟨(Value.type "tuple"), none, (Data.seq (List.toArray []) 0), (List.toArray [])⟩
noncomputable def o_115 (P : Params) : Obj := ⟨(Value.type "dict"), none, (Data.dict (List.toArray [⟨(PyData.keyHash P (Str.ofString "__module__")), (Value.str (Str.ofString "__module__") 315), (Value.str (Str.ofString "fdsolve.errors") 233)⟩, ⟨(PyData.keyHash P (Str.ofString "__firstlineno__")), (Value.str (Str.ofString "__firstlineno__") 319), (Value.int 39 318)⟩, ⟨(PyData.keyHash P (Str.ofString "__static_attributes__")), (Value.str (Str.ofString "__static_attributes__") 320), (Value.ref 114)⟩, ⟨(PyData.keyHash P (Str.ofString "__doc__")), (Value.str (Str.ofString "__doc__") 321), Value.none⟩]) 2), (List.toArray [])⟩
noncomputable def o_116 (_P : Params) : Obj := ⟨(Value.type "type"), none, (Data.cls ⟨(Str.ofString "EvalFault"), [(Value.ref 104)], [(Value.ref 116), (Value.ref 104), (Value.ref 75), (Value.type "Exception"), (Value.type "BaseException"), (Value.type "object")], 115, (Str.ofString "EvalFault"), true, [], [], false, none, false⟩), (List.toArray [(some (Value.ref 107)), none, (some (Value.str (Str.ofString "EvalFault") 308)), (some (Value.str (Str.ofString "EvalFault") 316)), (some (Value.builtin "Exception.__new__")), (some (Value.bool true))])⟩
noncomputable def o_119 (_P : Params) : Obj := ⟨(Value.type "tuple"), none, (Data.seq (List.toArray [(Value.ref 75)]) 0), (List.toArray [])⟩
noncomputable def o_126 (_P : Params) : Obj := ⟨(Value.type "tuple"), none, (Data.seq (List.toArray []) 0), (List.toArray [])⟩
noncomputable def o_127 (P : Params) : Obj := ⟨(Value.type "dict"), none, (Data.dict (List.toArray [⟨(PyData.keyHash P (Str.ofString "__module__")), (Value.str (Str.ofString "__module__") 331), (Value.str (Str.ofString "fdsolve.errors") 233)⟩, ⟨(PyData.keyHash P (Str.ofString "__firstlineno__")), (Value.str (Str.ofString "__firstlineno__") 335), (Value.int 41 334)⟩, ⟨(PyData.keyHash P (Str.ofString "__static_attributes__")), (Value.str (Str.ofString "__static_attributes__") 336), (Value.ref 126)⟩, ⟨(PyData.keyHash P (Str.ofString "__doc__")), (Value.str (Str.ofString "__doc__") 337), Value.none⟩]) 2), (List.toArray [])⟩
noncomputable def o_128 (_P : Params) : Obj := ⟨(Value.type "type"), none, (Data.cls ⟨(Str.ofString "LimitFault"), [(Value.ref 75)], [(Value.ref 128), (Value.ref 75), (Value.type "Exception"), (Value.type "BaseException"), (Value.type "object")], 127, (Str.ofString "LimitFault"), true, [], [], false, none, false⟩), (List.toArray [(some (Value.ref 119)), none, (some (Value.str (Str.ofString "LimitFault") 324)), (some (Value.str (Str.ofString "LimitFault") 332)), (some (Value.builtin "Exception.__new__")), (some (Value.bool true))])⟩
noncomputable def o_131 (_P : Params) : Obj := ⟨(Value.type "tuple"), none, (Data.seq (List.toArray []) 0), (List.toArray [])⟩
noncomputable def o_132 (_P : Params) : Obj := ⟨Value.none, none, (Data.fields (List.toArray [])), (List.toArray [])⟩
noncomputable def o_133 (_P : Params) : Obj := ⟨(Value.type "tuple"), none, (Data.seq (List.toArray [(Value.str (Str.ofString "value") 351)]) 0), (List.toArray [])⟩
noncomputable def o_134 (_P : Params) : Obj := ⟨(Value.type "tuple"), none, (Data.seq (List.toArray []) 0), (List.toArray [])⟩
noncomputable def o_136 (_P : Params) : Obj := ⟨(Value.type "code"), none, (Data.fields (List.toArray [(Value.str (Str.ofString "is_array") 348), (Value.str (Str.ofString "is_array") 349), (Value.str (Str.ofString "/claim/cut.py") 350), (Value.int 47 0), (Value.int 1 0), (Value.int 0 0), (Value.int 0 0), (Value.int 3 0), (Value.ref 131), (Value.bool true), (Value.int 181 0), (Value.ref 132), Value.none, (Value.ref 133), (Value.ref 134), (Value.ref 135), (Value.int 352 0), (Value.int 47 0), (Value.str (Str.ofString "/claim/cut.py") 353)])), (List.toArray [])⟩
noncomputable def o_138 (_P : Params) : Obj := ⟨(Value.type "tuple"), none, (Data.seq (List.toArray []) 0), (List.toArray [])⟩
noncomputable def o_139 (_P : Params) : Obj := ⟨Value.none, none, (Data.fields (List.toArray [])), (List.toArray [])⟩
noncomputable def o_140 (_P : Params) : Obj := ⟨(Value.type "tuple"), none, (Data.seq (List.toArray [(Value.str (Str.ofString "value") 358)]) 0), (List.toArray [])⟩
noncomputable def o_141 (_P : Params) : Obj := ⟨(Value.type "tuple"), none, (Data.seq (List.toArray []) 0), (List.toArray [])⟩
noncomputable def o_143 (_P : Params) : Obj := ⟨(Value.type "code"), none, (Data.fields (List.toArray [(Value.str (Str.ofString "is_set") 355), (Value.str (Str.ofString "is_set") 356), (Value.str (Str.ofString "/claim/cut.py") 357), (Value.int 49 0), (Value.int 1 0), (Value.int 0 0), (Value.int 0 0), (Value.int 3 0), (Value.ref 138), (Value.bool true), (Value.int 181 0), (Value.ref 139), Value.none, (Value.ref 140), (Value.ref 141), (Value.ref 142), (Value.int 359 0), (Value.int 49 0), (Value.str (Str.ofString "/claim/cut.py") 360)])), (List.toArray [])⟩
noncomputable def o_145 (_P : Params) : Obj := ⟨(Value.type "tuple"), none, (Data.seq (List.toArray []) 0), (List.toArray [])⟩
noncomputable def o_146 (_P : Params) : Obj := ⟨Value.none, none, (Data.fields (List.toArray [])), (List.toArray [])⟩
noncomputable def o_147 (_P : Params) : Obj := ⟨(Value.type "tuple"), none, (Data.seq (List.toArray [(Value.str (Str.ofString "value") 365), (Value.str (Str.ofString "spot") 366)]) 0), (List.toArray [])⟩
noncomputable def o_148 (_P : Params) : Obj := ⟨(Value.type "tuple"), none, (Data.seq (List.toArray []) 0), (List.toArray [])⟩
noncomputable def o_150 (_P : Params) : Obj := ⟨(Value.type "code"), none, (Data.fields (List.toArray [(Value.str (Str.ofString "number_of") 362), (Value.str (Str.ofString "number_of") 363), (Value.str (Str.ofString "/claim/cut.py") 364), (Value.int 51 0), (Value.int 2 0), (Value.int 0 0), (Value.int 0 0), (Value.int 3 0), (Value.ref 145), (Value.bool true), (Value.int 181 0), (Value.ref 146), Value.none, (Value.ref 147), (Value.ref 148), (Value.ref 149), (Value.int 367 0), (Value.int 51 0), (Value.str (Str.ofString "/claim/cut.py") 368)])), (List.toArray [])⟩
noncomputable def o_151 (_P : Params) : Obj := ⟨(Value.type "function"), none, (Data.func ⟨(Str.ofString "number_of"), (Str.ofString "number_of"), ⟨[], [⟨(Str.ofString "value"), none, ⟨51, 14, 51, 19⟩⟩, ⟨(Str.ofString "spot"), none, ⟨51, 21, 51, 25⟩⟩], none, [], [], none, []⟩, (FuncBody.stmts [(Stmt.If (Expr.Call (Expr.Name (Str.ofString "isinstance") ⟨52, 7, 52, 17⟩) [(Expr.Name (Str.ofString "value") ⟨52, 18, 52, 23⟩), (Expr.Name (Str.ofString "int") ⟨52, 25, 52, 28⟩)] [] ⟨52, 7, 52, 29⟩) [(Stmt.Return (some (Expr.Call (Expr.Name (Str.ofString "int") ⟨53, 15, 53, 18⟩) [(Expr.Name (Str.ofString "value") ⟨53, 19, 53, 24⟩)] [] ⟨53, 15, 53, 25⟩)) ⟨53, 8, 53, 25⟩)] [] ⟨52, 4, 53, 25⟩), (Stmt.Raise (some (Expr.Call (Expr.Name (Str.ofString "EvalFault") ⟨54, 10, 54, 19⟩) [(Expr.Constant (Const.str (Str.ofString "a number is wanted")) 0 ⟨54, 20, 54, 40⟩), (Expr.Name (Str.ofString "spot") ⟨54, 42, 54, 46⟩)] [] ⟨54, 10, 54, 47⟩)) none ⟨54, 4, 54, 47⟩)]), ⟨ScopeKind.function, [((Str.ofString "value"), NameKind.local), ((Str.ofString "spot"), NameKind.local), ((Str.ofString "isinstance"), NameKind.globalImplicit), ((Str.ofString "int"), NameKind.globalImplicit), ((Str.ofString "EvalFault"), NameKind.globalImplicit)], false, false, []⟩, 3, [], Value.none, Value.none, Value.none, (Value.str (Str.ofString "fdsolve.values") 340), none, (Value.ref 150), Value.none, 0⟩), (List.toArray [])⟩
noncomputable def o_152 (_P : Params) : Obj := ⟨(Value.type "tuple"), none, (Data.seq (List.toArray []) 0), (List.toArray [])⟩
noncomputable def o_153 (_P : Params) : Obj := ⟨Value.none, none, (Data.fields (List.toArray [])), (List.toArray [])⟩
noncomputable def o_154 (_P : Params) : Obj := ⟨(Value.type "tuple"), none, (Data.seq (List.toArray [(Value.str (Str.ofString "value") 373), (Value.str (Str.ofString "spot") 374)]) 0), (List.toArray [])⟩
noncomputable def o_155 (_P : Params) : Obj := ⟨(Value.type "tuple"), none, (Data.seq (List.toArray []) 0), (List.toArray [])⟩
noncomputable def o_157 (_P : Params) : Obj := ⟨(Value.type "code"), none, (Data.fields (List.toArray [(Value.str (Str.ofString "truth_of") 370), (Value.str (Str.ofString "truth_of") 371), (Value.str (Str.ofString "/claim/cut.py") 372), (Value.int 55 0), (Value.int 2 0), (Value.int 0 0), (Value.int 0 0), (Value.int 3 0), (Value.ref 152), (Value.bool true), (Value.int 181 0), (Value.ref 153), Value.none, (Value.ref 154), (Value.ref 155), (Value.ref 156), (Value.int 375 0), (Value.int 55 0), (Value.str (Str.ofString "/claim/cut.py") 376)])), (List.toArray [])⟩
noncomputable def o_159 (_P : Params) : Obj := ⟨(Value.type "tuple"), none, (Data.seq (List.toArray []) 0), (List.toArray [])⟩
noncomputable def o_160 (_P : Params) : Obj := ⟨Value.none, none, (Data.fields (List.toArray [])), (List.toArray [])⟩
noncomputable def o_161 (_P : Params) : Obj := ⟨(Value.type "tuple"), none, (Data.seq (List.toArray [(Value.str (Str.ofString "value") 381), (Value.str (Str.ofString "spot") 382)]) 0), (List.toArray [])⟩
noncomputable def o_162 (_P : Params) : Obj := ⟨(Value.type "tuple"), none, (Data.seq (List.toArray []) 0), (List.toArray [])⟩
noncomputable def o_164 (_P : Params) : Obj := ⟨(Value.type "code"), none, (Data.fields (List.toArray [(Value.str (Str.ofString "text_of") 378), (Value.str (Str.ofString "text_of") 379), (Value.str (Str.ofString "/claim/cut.py") 380), (Value.int 59 0), (Value.int 2 0), (Value.int 0 0), (Value.int 0 0), (Value.int 3 0), (Value.ref 159), (Value.bool true), (Value.int 181 0), (Value.ref 160), Value.none, (Value.ref 161), (Value.ref 162), (Value.ref 163), (Value.int 383 0), (Value.int 59 0), (Value.str (Str.ofString "/claim/cut.py") 384)])), (List.toArray [])⟩
noncomputable def o_166 (_P : Params) : Obj := ⟨(Value.type "tuple"), none, (Data.seq (List.toArray []) 0), (List.toArray [])⟩
noncomputable def o_167 (_P : Params) : Obj := ⟨Value.none, none, (Data.fields (List.toArray [])), (List.toArray [])⟩
noncomputable def o_168 (_P : Params) : Obj := ⟨(Value.type "tuple"), none, (Data.seq (List.toArray [(Value.str (Str.ofString "value") 389), (Value.str (Str.ofString "spot") 390)]) 0), (List.toArray [])⟩
noncomputable def o_169 (_P : Params) : Obj := ⟨(Value.type "tuple"), none, (Data.seq (List.toArray []) 0), (List.toArray [])⟩
noncomputable def o_171 (_P : Params) : Obj := ⟨(Value.type "code"), none, (Data.fields (List.toArray [(Value.str (Str.ofString "set_of") 386), (Value.str (Str.ofString "set_of") 387), (Value.str (Str.ofString "/claim/cut.py") 388), (Value.int 63 0), (Value.int 2 0), (Value.int 0 0), (Value.int 0 0), (Value.int 3 0), (Value.ref 166), (Value.bool true), (Value.int 181 0), (Value.ref 167), Value.none, (Value.ref 168), (Value.ref 169), (Value.ref 170), (Value.int 391 0), (Value.int 63 0), (Value.str (Str.ofString "/claim/cut.py") 392)])), (List.toArray [])⟩
noncomputable def o_173 (_P : Params) : Obj := ⟨(Value.type "tuple"), none, (Data.seq (List.toArray []) 0), (List.toArray [])⟩
noncomputable def o_174 (_P : Params) : Obj := ⟨Value.none, none, (Data.fields (List.toArray [])), (List.toArray [])⟩
noncomputable def o_175 (_P : Params) : Obj := ⟨(Value.type "tuple"), none, (Data.seq (List.toArray [(Value.str (Str.ofString "value") 397), (Value.str (Str.ofString "spot") 398)]) 0), (List.toArray [])⟩
noncomputable def o_176 (_P : Params) : Obj := ⟨(Value.type "tuple"), none, (Data.seq (List.toArray []) 0), (List.toArray [])⟩
noncomputable def o_178 (_P : Params) : Obj := ⟨(Value.type "code"), none, (Data.fields (List.toArray [(Value.str (Str.ofString "list_of") 394), (Value.str (Str.ofString "list_of") 395), (Value.str (Str.ofString "/claim/cut.py") 396), (Value.int 67 0), (Value.int 2 0), (Value.int 0 0), (Value.int 0 0), (Value.int 3 0), (Value.ref 173), (Value.bool true), (Value.int 181 0), (Value.ref 174), Value.none, (Value.ref 175), (Value.ref 176), (Value.ref 177), (Value.int 399 0), (Value.int 67 0), (Value.str (Str.ofString "/claim/cut.py") 400)])), (List.toArray [])⟩
noncomputable def o_180 (_P : Params) : Obj := ⟨(Value.type "tuple"), none, (Data.seq (List.toArray []) 0), (List.toArray [])⟩
noncomputable def o_181 (_P : Params) : Obj := ⟨Value.none, none, (Data.fields (List.toArray [])), (List.toArray [])⟩
noncomputable def o_182 (_P : Params) : Obj := ⟨(Value.type "tuple"), none, (Data.seq (List.toArray [(Value.str (Str.ofString "value") 405), (Value.str (Str.ofString "spot") 406)]) 0), (List.toArray [])⟩
noncomputable def o_183 (_P : Params) : Obj := ⟨(Value.type "tuple"), none, (Data.seq (List.toArray []) 0), (List.toArray [])⟩
noncomputable def o_185 (_P : Params) : Obj := ⟨(Value.type "code"), none, (Data.fields (List.toArray [(Value.str (Str.ofString "elements_of") 402), (Value.str (Str.ofString "elements_of") 403), (Value.str (Str.ofString "/claim/cut.py") 404), (Value.int 71 0), (Value.int 2 0), (Value.int 0 0), (Value.int 0 0), (Value.int 3 0), (Value.ref 180), (Value.bool true), (Value.int 181 0), (Value.ref 181), Value.none, (Value.ref 182), (Value.ref 183), (Value.ref 184), (Value.int 407 0), (Value.int 71 0), (Value.str (Str.ofString "/claim/cut.py") 408)])), (List.toArray [])⟩
noncomputable def o_187 (_P : Params) : Obj := ⟨(Value.type "tuple"), none, (Data.seq (List.toArray []) 0), (List.toArray [])⟩
noncomputable def o_188 (_P : Params) : Obj := ⟨Value.none, none, (Data.fields (List.toArray [])), (List.toArray [])⟩
noncomputable def o_189 (_P : Params) : Obj := ⟨(Value.type "tuple"), none, (Data.seq (List.toArray [(Value.str (Str.ofString "some") 413)]) 0), (List.toArray [])⟩
noncomputable def o_190 (_P : Params) : Obj := ⟨(Value.type "tuple"), none, (Data.seq (List.toArray []) 0), (List.toArray [])⟩
noncomputable def o_192 (_P : Params) : Obj := ⟨(Value.type "code"), none, (Data.fields (List.toArray [(Value.str (Str.ofString "row_of") 410), (Value.str (Str.ofString "row_of") 411), (Value.str (Str.ofString "/claim/cut.py") 412), (Value.int 73 0), (Value.int 1 0), (Value.int 0 0), (Value.int 0 0), (Value.int 3 0), (Value.ref 187), (Value.bool true), (Value.int 181 0), (Value.ref 188), Value.none, (Value.ref 189), (Value.ref 190), (Value.ref 191), (Value.int 414 0), (Value.int 73 0), (Value.str (Str.ofString "/claim/cut.py") 415)])), (List.toArray [])⟩
noncomputable def o_194 (_P : Params) : Obj := ⟨(Value.type "tuple"), none, (Data.seq (List.toArray []) 0), (List.toArray [])⟩
noncomputable def o_195 (_P : Params) : Obj := ⟨Value.none, none, (Data.fields (List.toArray [])), (List.toArray [])⟩
noncomputable def o_196 (_P : Params) : Obj := ⟨(Value.type "tuple"), none, (Data.seq (List.toArray [(Value.str (Str.ofString "low") 420), (Value.str (Str.ofString "high") 421)]) 0), (List.toArray [])⟩
noncomputable def o_197 (_P : Params) : Obj := ⟨(Value.type "tuple"), none, (Data.seq (List.toArray []) 0), (List.toArray [])⟩
noncomputable def o_199 (_P : Params) : Obj := ⟨(Value.type "code"), none, (Data.fields (List.toArray [(Value.str (Str.ofString "span") 417), (Value.str (Str.ofString "span") 418), (Value.str (Str.ofString "/claim/cut.py") 419), (Value.int 75 0), (Value.int 2 0), (Value.int 0 0), (Value.int 0 0), (Value.int 3 0), (Value.ref 194), (Value.bool true), (Value.int 181 0), (Value.ref 195), Value.none, (Value.ref 196), (Value.ref 197), (Value.ref 198), (Value.int 422 0), (Value.int 75 0), (Value.str (Str.ofString "/claim/cut.py") 423)])), (List.toArray [])⟩
noncomputable def o_201 (_P : Params) : Obj := ⟨(Value.type "tuple"), none, (Data.seq (List.toArray []) 0), (List.toArray [])⟩
noncomputable def o_202 (_P : Params) : Obj := ⟨Value.none, none, (Data.fields (List.toArray [])), (List.toArray [])⟩
noncomputable def o_203 (_P : Params) : Obj := ⟨(Value.type "tuple"), none, (Data.seq (List.toArray [(Value.str (Str.ofString "a") 428), (Value.str (Str.ofString "b") 429), (Value.str (Str.ofString "spot") 430), (Value.str (Str.ofString "found") 431)]) 0), (List.toArray [])⟩
noncomputable def o_204 (_P : Params) : Obj := ⟨(Value.type "tuple"), none, (Data.seq (List.toArray []) 0), (List.toArray [])⟩
noncomputable def o_206 (_P : Params) : Obj := ⟨(Value.type "code"), none, (Data.fields (List.toArray [(Value.str (Str.ofString "quotient") 425), (Value.str (Str.ofString "quotient") 426), (Value.str (Str.ofString "/claim/cut.py") 427), (Value.int 79 0), (Value.int 3 0), (Value.int 0 0), (Value.int 0 0), (Value.int 3 0), (Value.ref 201), (Value.bool true), (Value.int 181 0), (Value.ref 202), Value.none, (Value.ref 203), (Value.ref 204), (Value.ref 205), (Value.int 432 0), (Value.int 79 0), (Value.str (Str.ofString "/claim/cut.py") 433)])), (List.toArray [])⟩
noncomputable def o_207 (_P : Params) : Obj := ⟨(Value.type "function"), none, (Data.func ⟨(Str.ofString "quotient"), (Str.ofString "quotient"), ⟨[], [⟨(Str.ofString "a"), none, ⟨79, 13, 79, 14⟩⟩, ⟨(Str.ofString "b"), none, ⟨79, 16, 79, 17⟩⟩, ⟨(Str.ofString "spot"), none, ⟨79, 19, 79, 23⟩⟩], none, [], [], none, []⟩, (FuncBody.stmts [(Stmt.If (Expr.Compare (Expr.Name (Str.ofString "b") ⟨80, 7, 80, 8⟩) [CmpOp.Eq] [(Expr.Constant (Const.int 0) 0 ⟨80, 12, 80, 13⟩)] ⟨80, 7, 80, 13⟩) [(Stmt.Raise (some (Expr.Call (Expr.Name (Str.ofString "EvalFault") ⟨81, 14, 81, 23⟩) [(Expr.Constant (Const.str (Str.ofString "nothing is divided by 0")) 0 ⟨81, 24, 81, 49⟩), (Expr.Name (Str.ofString "spot") ⟨81, 51, 81, 55⟩)] [] ⟨81, 14, 81, 56⟩)) none ⟨81, 8, 81, 56⟩)] [] ⟨80, 4, 81, 56⟩), (Stmt.Assign [(Expr.Name (Str.ofString "found") ⟨82, 4, 82, 9⟩)] (Expr.BinOp (Expr.Call (Expr.Name (Str.ofString "abs") ⟨82, 12, 82, 15⟩) [(Expr.Name (Str.ofString "a") ⟨82, 16, 82, 17⟩)] [] ⟨82, 12, 82, 18⟩) Operator.FloorDiv (Expr.Call (Expr.Name (Str.ofString "abs") ⟨82, 22, 82, 25⟩) [(Expr.Name (Str.ofString "b") ⟨82, 26, 82, 27⟩)] [] ⟨82, 22, 82, 28⟩) ⟨82, 12, 82, 28⟩) ⟨82, 4, 82, 28⟩), (Stmt.Return (some (Expr.IfExp (Expr.Compare (Expr.Compare (Expr.Name (Str.ofString "a") ⟨83, 21, 83, 22⟩) [CmpOp.Lt] [(Expr.Constant (Const.int 0) 0 ⟨83, 25, 83, 26⟩)] ⟨83, 21, 83, 26⟩) [CmpOp.Eq] [(Expr.Compare (Expr.Name (Str.ofString "b") ⟨83, 32, 83, 33⟩) [CmpOp.Lt] [(Expr.Constant (Const.int 0) 0 ⟨83, 36, 83, 37⟩)] ⟨83, 32, 83, 37⟩)] ⟨83, 20, 83, 38⟩) (Expr.Name (Str.ofString "found") ⟨83, 11, 83, 16⟩) (Expr.UnaryOp UnaryOp.USub (Expr.Name (Str.ofString "found") ⟨83, 45, 83, 50⟩) ⟨83, 44, 83, 50⟩) ⟨83, 11, 83, 50⟩)) ⟨83, 4, 83, 50⟩)]), ⟨ScopeKind.function, [((Str.ofString "a"), NameKind.local), ((Str.ofString "b"), NameKind.local), ((Str.ofString "spot"), NameKind.local), ((Str.ofString "found"), NameKind.local), ((Str.ofString "EvalFault"), NameKind.globalImplicit), ((Str.ofString "abs"), NameKind.globalImplicit)], false, false, []⟩, 3, [], Value.none, Value.none, Value.none, (Value.str (Str.ofString "fdsolve.values") 340), none, (Value.ref 206), Value.none, 0⟩), (List.toArray [])⟩
noncomputable def o_208 (_P : Params) : Obj := ⟨(Value.type "tuple"), none, (Data.seq (List.toArray []) 0), (List.toArray [])⟩
noncomputable def o_209 (_P : Params) : Obj := ⟨Value.none, none, (Data.fields (List.toArray [])), (List.toArray [])⟩
noncomputable def o_210 (_P : Params) : Obj := ⟨(Value.type "tuple"), none, (Data.seq (List.toArray [(Value.str (Str.ofString "number") 438)]) 0), (List.toArray [])⟩
noncomputable def o_211 (_P : Params) : Obj := ⟨(Value.type "tuple"), none, (Data.seq (List.toArray []) 0), (List.toArray [])⟩
noncomputable def o_213 (_P : Params) : Obj := ⟨(Value.type "code"), none, (Data.fields (List.toArray [(Value.str (Str.ofString "within_figures") 435), (Value.str (Str.ofString "within_figures") 436), (Value.str (Str.ofString "/claim/cut.py") 437), (Value.int 84 0), (Value.int 1 0), (Value.int 0 0), (Value.int 0 0), (Value.int 3 0), (Value.ref 208), (Value.bool true), (Value.int 181 0), (Value.ref 209), Value.none, (Value.ref 210), (Value.ref 211), (Value.ref 212), (Value.int 439 0), (Value.int 84 0), (Value.str (Str.ofString "/claim/cut.py") 440)])), (List.toArray [])⟩
noncomputable def o_214 (_P : Params) : Obj := ⟨(Value.type "function"), none, (Data.func ⟨(Str.ofString "within_figures"), (Str.ofString "within_figures"), ⟨[], [⟨(Str.ofString "number"), none, ⟨84, 19, 84, 25⟩⟩], none, [], [], none, []⟩, (FuncBody.stmts [(Stmt.If (Expr.Compare (Expr.Call (Expr.Name (Str.ofString "abs") ⟨85, 7, 85, 10⟩) [(Expr.Name (Str.ofString "number") ⟨85, 11, 85, 17⟩)] [] ⟨85, 7, 85, 18⟩) [CmpOp.GtE] [(Expr.BinOp (Expr.Constant (Const.int 10) 0 ⟨85, 22, 85, 24⟩) Operator.Pow (Expr.Name (Str.ofString "MOST_SHOWN") ⟨85, 28, 85, 38⟩) ⟨85, 22, 85, 38⟩)] ⟨85, 7, 85, 38⟩) [(Stmt.Raise (some (Expr.Call (Expr.Name (Str.ofString "LimitFault") ⟨86, 14, 86, 24⟩) [(Expr.JoinedStr [(Expr.Constant (Const.str (Str.ofString "a number has at most ")) 0 ⟨86, 27, 86, 48⟩), (Expr.FormattedValue (Expr.Name (Str.ofString "MOST_SHOWN") ⟨86, 49, 86, 59⟩) (-1) none ⟨86, 48, 86, 60⟩), (Expr.Constant (Const.str (Str.ofString " figures")) 0 ⟨86, 60, 86, 68⟩)] ⟨86, 25, 86, 69⟩)] [] ⟨86, 14, 86, 70⟩)) none ⟨86, 8, 86, 70⟩)] [] ⟨85, 4, 86, 70⟩), (Stmt.Return (some (Expr.Name (Str.ofString "number") ⟨87, 11, 87, 17⟩)) ⟨87, 4, 87, 17⟩)]), ⟨ScopeKind.function, [((Str.ofString "number"), NameKind.local), ((Str.ofString "abs"), NameKind.globalImplicit), ((Str.ofString "MOST_SHOWN"), NameKind.globalImplicit), ((Str.ofString "LimitFault"), NameKind.globalImplicit)], false, false, []⟩, 3, [], Value.none, Value.none, Value.none, (Value.str (Str.ofString "fdsolve.values") 340), none, (Value.ref 213), Value.none, 0⟩), (List.toArray [])⟩
noncomputable def o_215 (_P : Params) : Obj := ⟨(Value.type "tuple"), none, (Data.seq (List.toArray []) 0), (List.toArray [])⟩
noncomputable def o_216 (_P : Params) : Obj := ⟨Value.none, none, (Data.fields (List.toArray [])), (List.toArray [])⟩
noncomputable def o_217 (_P : Params) : Obj := ⟨(Value.type "tuple"), none, (Data.seq (List.toArray [(Value.str (Str.ofString "base") 445), (Value.str (Str.ofString "many") 446), (Value.str (Str.ofString "spot") 447), (Value.str (Str.ofString "found") 448), (Value.str (Str.ofString "turn") 449)]) 0), (List.toArray [])⟩
noncomputable def o_218 (_P : Params) : Obj := ⟨(Value.type "tuple"), none, (Data.seq (List.toArray []) 0), (List.toArray [])⟩
noncomputable def o_220 (_P : Params) : Obj := ⟨(Value.type "code"), none, (Data.fields (List.toArray [(Value.str (Str.ofString "power") 442), (Value.str (Str.ofString "power") 443), (Value.str (Str.ofString "/claim/cut.py") 444), (Value.int 88 0), (Value.int 3 0), (Value.int 0 0), (Value.int 0 0), (Value.int 3 0), (Value.ref 215), (Value.bool true), (Value.int 181 0), (Value.ref 216), Value.none, (Value.ref 217), (Value.ref 218), (Value.ref 219), (Value.int 450 0), (Value.int 88 0), (Value.str (Str.ofString "/claim/cut.py") 451)])), (List.toArray [])⟩
noncomputable def o_221 (_P : Params) : Obj := ⟨(Value.type "function"), none, (Data.func ⟨(Str.ofString "power"), (Str.ofString "power"), ⟨[], [⟨(Str.ofString "base"), none, ⟨88, 10, 88, 14⟩⟩, ⟨(Str.ofString "many"), none, ⟨88, 16, 88, 20⟩⟩, ⟨(Str.ofString "spot"), none, ⟨88, 22, 88, 26⟩⟩], none, [], [], none, []⟩, (FuncBody.stmts [(Stmt.If (Expr.BoolOp BoolOp.And [(Expr.Compare (Expr.Call (Expr.Name (Str.ofString "abs") ⟨89, 7, 89, 10⟩) [(Expr.Name (Str.ofString "many") ⟨89, 11, 89, 15⟩)] [] ⟨89, 7, 89, 16⟩) [CmpOp.Gt] [(Expr.Name (Str.ofString "MOST_POWER") ⟨89, 19, 89, 29⟩)] ⟨89, 7, 89, 29⟩), (Expr.Compare (Expr.Call (Expr.Name (Str.ofString "abs") ⟨89, 34, 89, 37⟩) [(Expr.Name (Str.ofString "base") ⟨89, 38, 89, 42⟩)] [] ⟨89, 34, 89, 43⟩) [CmpOp.Gt] [(Expr.Constant (Const.int 1) 0 ⟨89, 46, 89, 47⟩)] ⟨89, 34, 89, 47⟩)] ⟨89, 7, 89, 47⟩) [(Stmt.Raise (some (Expr.Call (Expr.Name (Str.ofString "LimitFault") ⟨90, 14, 90, 24⟩) [(Expr.JoinedStr [(Expr.Constant (Const.str (Str.ofString "a power is at most ")) 0 ⟨90, 27, 90, 46⟩), (Expr.FormattedValue (Expr.Name (Str.ofString "MOST_POWER") ⟨90, 47, 90, 57⟩) (-1) none ⟨90, 46, 90, 58⟩)] ⟨90, 25, 90, 59⟩)] [] ⟨90, 14, 90, 60⟩)) none ⟨90, 8, 90, 60⟩)] [] ⟨89, 4, 90, 60⟩), (Stmt.If (Expr.Compare (Expr.Name (Str.ofString "many") ⟨91, 7, 91, 11⟩) [CmpOp.Lt] [(Expr.Constant (Const.int 0) 0 ⟨91, 14, 91, 15⟩)] ⟨91, 7, 91, 15⟩) [(Stmt.Return (some (Expr.Call (Expr.Name (Str.ofString "quotient") ⟨92, 15, 92, 23⟩) [(Expr.Constant (Const.int 1) 0 ⟨92, 24, 92, 25⟩), (Expr.IfExp (Expr.Compare (Expr.BinOp (Expr.Name (Str.ofString "many") ⟨92, 35, 92, 39⟩) Operator.Mod (Expr.Constant (Const.int 2) 0 ⟨92, 42, 92, 43⟩) ⟨92, 35, 92, 43⟩) [CmpOp.Eq] [(Expr.Constant (Const.int 1) 0 ⟨92, 47, 92, 48⟩)] ⟨92, 35, 92, 48⟩) (Expr.Name (Str.ofString "base") ⟨92, 27, 92, 31⟩) (Expr.BinOp (Expr.Name (Str.ofString "base") ⟨92, 54, 92, 58⟩) Operator.Mult (Expr.Name (Str.ofString "base") ⟨92, 61, 92, 65⟩) ⟨92, 54, 92, 65⟩) ⟨92, 27, 92, 65⟩), (Expr.Name (Str.ofString "spot") ⟨92, 67, 92, 71⟩)] [] ⟨92, 15, 92, 72⟩)) ⟨92, 8, 92, 72⟩)] [] ⟨91, 4, 92, 72⟩), (Stmt.Assign [(Expr.Name (Str.ofString "found") ⟨93, 4, 93, 9⟩)] (Expr.Constant (Const.int 1) 0 ⟨93, 12, 93, 13⟩) ⟨93, 4, 93, 13⟩), (Stmt.For (Expr.Name (Str.ofString "turn") ⟨94, 8, 94, 12⟩) (Expr.Call (Expr.Name (Str.ofString "range") ⟨94, 16, 94, 21⟩) [(Expr.IfExp (Expr.Compare (Expr.Call (Expr.Name (Str.ofString "abs") ⟨94, 30, 94, 33⟩) [(Expr.Name (Str.ofString "base") ⟨94, 34, 94, 38⟩)] [] ⟨94, 30, 94, 39⟩) [CmpOp.Gt] [(Expr.Constant (Const.int 1) 0 ⟨94, 42, 94, 43⟩)] ⟨94, 30, 94, 43⟩) (Expr.Name (Str.ofString "many") ⟨94, 22, 94, 26⟩) (Expr.Call (Expr.Name (Str.ofString "min") ⟨94, 49, 94, 52⟩) [(Expr.Name (Str.ofString "many") ⟨94, 53, 94, 57⟩), (Expr.BinOp (Expr.Constant (Const.int 2) 0 ⟨94, 59, 94, 60⟩) Operator.Sub (Expr.BinOp (Expr.Name (Str.ofString "many") ⟨94, 63, 94, 67⟩) Operator.Mod (Expr.Constant (Const.int 2) 0 ⟨94, 70, 94, 71⟩) ⟨94, 63, 94, 71⟩) ⟨94, 59, 94, 71⟩)] [] ⟨94, 49, 94, 72⟩) ⟨94, 22, 94, 72⟩)] [] ⟨94, 16, 94, 73⟩) [(Stmt.Assign [(Expr.Name (Str.ofString "found") ⟨95, 8, 95, 13⟩)] (Expr.Call (Expr.Name (Str.ofString "within_figures") ⟨95, 16, 95, 30⟩) [(Expr.BinOp (Expr.Name (Str.ofString "found") ⟨95, 31, 95, 36⟩) Operator.Mult (Expr.Name (Str.ofString "base") ⟨95, 39, 95, 43⟩) ⟨95, 31, 95, 43⟩)] [] ⟨95, 16, 95, 44⟩) ⟨95, 8, 95, 44⟩)] [] ⟨94, 4, 95, 44⟩), (Stmt.Return (some (Expr.Name (Str.ofString "found") ⟨96, 11, 96, 16⟩)) ⟨96, 4, 96, 16⟩)]), ⟨ScopeKind.function, [((Str.ofString "base"), NameKind.local), ((Str.ofString "many"), NameKind.local), ((Str.ofString "spot"), NameKind.local), ((Str.ofString "found"), NameKind.local), ((Str.ofString "turn"), NameKind.local), ((Str.ofString "abs"), NameKind.globalImplicit), ((Str.ofString "MOST_POWER"), NameKind.globalImplicit), ((Str.ofString "LimitFault"), NameKind.globalImplicit), ((Str.ofString "quotient"), NameKind.globalImplicit), ((Str.ofString "range"), NameKind.globalImplicit), ((Str.ofString "min"), NameKind.globalImplicit), ((Str.ofString "within_figures"), NameKind.globalImplicit)], false, false, []⟩, 3, [], Value.none, Value.none, Value.none, (Value.str (Str.ofString "fdsolve.values") 340), none, (Value.ref 220), Value.none, 0⟩), (List.toArray [])⟩
noncomputable def o_222 (_P : Params) : Obj := ⟨(Value.type "tuple"), none, (Data.seq (List.toArray []) 0), (List.toArray [])⟩
noncomputable def o_223 (_P : Params) : Obj := ⟨Value.none, none, (Data.fields (List.toArray [])), (List.toArray [])⟩
noncomputable def o_225 (_P : Params) : Obj := ⟨(Value.type "code"), none, (Data.fields (List.toArray [(Value.str (Str.ofString "are_same") 453), (Value.str (Str.ofString "are_same") 454), (Value.str (Str.ofString "/claim/cut.py") 455), (Value.int 97 0), (Value.int 2 0), (Value.int 0 0), (Value.int 0 0), (Value.int 3 0), (Value.ref 222), (Value.bool true), (Value.int 181 0), (Value.ref 223), Value.none, Value.none, Value.none, (Value.ref 224), (Value.int 456 0), (Value.int 97 0), (Value.str (Str.ofString "/claim/cut.py") 457)])), (List.toArray [])⟩
noncomputable def o_227 (_P : Params) : Obj := ⟨(Value.type "tuple"), none, (Data.seq (List.toArray []) 0), (List.toArray [])⟩
noncomputable def o_228 (_P : Params) : Obj := ⟨Value.none, none, (Data.fields (List.toArray [])), (List.toArray [])⟩
noncomputable def o_229 (_P : Params) : Obj := ⟨(Value.type "tuple"), none, (Data.seq (List.toArray [(Value.str (Str.ofString "sign") 462), (Value.str (Str.ofString "a") 463), (Value.str (Str.ofString "b") 464), (Value.str (Str.ofString "spot") 465)]) 0), (List.toArray [])⟩
noncomputable def o_230 (_P : Params) : Obj := ⟨(Value.type "tuple"), none, (Data.seq (List.toArray []) 0), (List.toArray [])⟩
noncomputable def o_232 (_P : Params) : Obj := ⟨(Value.type "code"), none, (Data.fields (List.toArray [(Value.str (Str.ofString "are_compared") 459), (Value.str (Str.ofString "are_compared") 460), (Value.str (Str.ofString "/claim/cut.py") 461), (Value.int 103 0), (Value.int 4 0), (Value.int 0 0), (Value.int 0 0), (Value.int 3 0), (Value.ref 227), (Value.bool true), (Value.int 181 0), (Value.ref 228), Value.none, (Value.ref 229), (Value.ref 230), (Value.ref 231), (Value.int 466 0), (Value.int 103 0), (Value.str (Str.ofString "/claim/cut.py") 467)])), (List.toArray [])⟩
noncomputable def o_234 (_P : Params) : Obj := ⟨(Value.type "tuple"), none, (Data.seq (List.toArray []) 0), (List.toArray [])⟩
noncomputable def o_235 (_P : Params) : Obj := ⟨Value.none, none, (Data.fields (List.toArray [])), (List.toArray [])⟩
noncomputable def o_237 (_P : Params) : Obj := ⟨(Value.type "code"), none, (Data.fields (List.toArray [(Value.str (Str.ofString "joined_sets") 469), (Value.str (Str.ofString "joined_sets") 470), (Value.str (Str.ofString "/claim/cut.py") 471), (Value.int 115 0), (Value.int 3 0), (Value.int 0 0), (Value.int 0 0), (Value.int 3 0), (Value.ref 234), (Value.bool true), (Value.int 181 0), (Value.ref 235), Value.none, Value.none, Value.none, (Value.ref 236), (Value.int 472 0), (Value.int 115 0), (Value.str (Str.ofString "/claim/cut.py") 473)])), (List.toArray [])⟩
noncomputable def o_239 (_P : Params) : Obj := ⟨(Value.type "tuple"), none, (Data.seq (List.toArray []) 0), (List.toArray [])⟩
noncomputable def o_240 (_P : Params) : Obj := ⟨Value.none, none, (Data.fields (List.toArray [])), (List.toArray [])⟩
noncomputable def o_241 (_P : Params) : Obj := ⟨(Value.type "tuple"), none, (Data.seq (List.toArray [(Value.str (Str.ofString "sign") 478), (Value.str (Str.ofString "a") 479), (Value.str (Str.ofString "b") 480), (Value.str (Str.ofString "spot") 481)]) 0), (List.toArray [])⟩
noncomputable def o_242 (_P : Params) : Obj := ⟨(Value.type "tuple"), none, (Data.seq (List.toArray []) 0), (List.toArray [])⟩
noncomputable def o_244 (_P : Params) : Obj := ⟨(Value.type "code"), none, (Data.fields (List.toArray [(Value.str (Str.ofString "reckoned") 475), (Value.str (Str.ofString "reckoned") 476), (Value.str (Str.ofString "/claim/cut.py") 477), (Value.int 123 0), (Value.int 4 0), (Value.int 0 0), (Value.int 0 0), (Value.int 3 0), (Value.ref 239), (Value.bool true), (Value.int 181 0), (Value.ref 240), Value.none, (Value.ref 241), (Value.ref 242), (Value.ref 243), (Value.int 482 0), (Value.int 123 0), (Value.str (Str.ofString "/claim/cut.py") 483)])), (List.toArray [])⟩
noncomputable def o_245 (_P : Params) : Obj := ⟨(Value.type "function"), none, (Data.func ⟨(Str.ofString "reckoned"), (Str.ofString "reckoned"), ⟨[], [⟨(Str.ofString "sign"), none, ⟨123, 13, 123, 17⟩⟩, ⟨(Str.ofString "a"), none, ⟨123, 19, 123, 20⟩⟩, ⟨(Str.ofString "b"), none, ⟨123, 22, 123, 23⟩⟩, ⟨(Str.ofString "spot"), none, ⟨123, 25, 123, 29⟩⟩], none, [], [], none, []⟩, (FuncBody.stmts [(Stmt.If (Expr.Compare (Expr.Name (Str.ofString "sign") ⟨124, 7, 124, 11⟩) [CmpOp.Eq] [(Expr.Constant (Const.str (Str.ofString "+")) 0 ⟨124, 15, 124, 18⟩)] ⟨124, 7, 124, 18⟩) [(Stmt.Return (some (Expr.Call (Expr.Name (Str.ofString "within_figures") ⟨125, 15, 125, 29⟩) [(Expr.BinOp (Expr.Name (Str.ofString "a") ⟨125, 30, 125, 31⟩) Operator.Add (Expr.Name (Str.ofString "b") ⟨125, 34, 125, 35⟩) ⟨125, 30, 125, 35⟩)] [] ⟨125, 15, 125, 36⟩)) ⟨125, 8, 125, 36⟩)] [] ⟨124, 4, 125, 36⟩), (Stmt.If (Expr.Compare (Expr.Name (Str.ofString "sign") ⟨126, 7, 126, 11⟩) [CmpOp.Eq] [(Expr.Constant (Const.str (Str.ofString "-")) 0 ⟨126, 15, 126, 18⟩)] ⟨126, 7, 126, 18⟩) [(Stmt.Return (some (Expr.Call (Expr.Name (Str.ofString "within_figures") ⟨127, 15, 127, 29⟩) [(Expr.BinOp (Expr.Name (Str.ofString "a") ⟨127, 30, 127, 31⟩) Operator.Sub (Expr.Name (Str.ofString "b") ⟨127, 34, 127, 35⟩) ⟨127, 30, 127, 35⟩)] [] ⟨127, 15, 127, 36⟩)) ⟨127, 8, 127, 36⟩)] [] ⟨126, 4, 127, 36⟩), (Stmt.If (Expr.Compare (Expr.Name (Str.ofString "sign") ⟨128, 7, 128, 11⟩) [CmpOp.Eq] [(Expr.Constant (Const.str (Str.ofString "*")) 0 ⟨128, 15, 128, 18⟩)] ⟨128, 7, 128, 18⟩) [(Stmt.Return (some (Expr.Call (Expr.Name (Str.ofString "within_figures") ⟨129, 15, 129, 29⟩) [(Expr.BinOp (Expr.Name (Str.ofString "a") ⟨129, 30, 129, 31⟩) Operator.Mult (Expr.Name (Str.ofString "b") ⟨129, 34, 129, 35⟩) ⟨129, 30, 129, 35⟩)] [] ⟨129, 15, 129, 36⟩)) ⟨129, 8, 129, 36⟩)] [] ⟨128, 4, 129, 36⟩), (Stmt.If (Expr.Compare (Expr.Name (Str.ofString "sign") ⟨130, 7, 130, 11⟩) [CmpOp.Eq] [(Expr.Constant (Const.str (Str.ofString "div")) 0 ⟨130, 15, 130, 20⟩)] ⟨130, 7, 130, 20⟩) [(Stmt.Return (some (Expr.Call (Expr.Name (Str.ofString "quotient") ⟨131, 15, 131, 23⟩) [(Expr.Name (Str.ofString "a") ⟨131, 24, 131, 25⟩), (Expr.Name (Str.ofString "b") ⟨131, 27, 131, 28⟩), (Expr.Name (Str.ofString "spot") ⟨131, 30, 131, 34⟩)] [] ⟨131, 15, 131, 35⟩)) ⟨131, 8, 131, 35⟩)] [] ⟨130, 4, 131, 35⟩), (Stmt.If (Expr.Compare (Expr.Name (Str.ofString "sign") ⟨132, 7, 132, 11⟩) [CmpOp.Eq] [(Expr.Constant (Const.str (Str.ofString "mod")) 0 ⟨132, 15, 132, 20⟩)] ⟨132, 7, 132, 20⟩) [(Stmt.Return (some (Expr.BinOp (Expr.Name (Str.ofString "a") ⟨133, 15, 133, 16⟩) Operator.Sub (Expr.BinOp (Expr.Name (Str.ofString "b") ⟨133, 19, 133, 20⟩) Operator.Mult (Expr.Call (Expr.Name (Str.ofString "quotient") ⟨133, 23, 133, 31⟩) [(Expr.Name (Str.ofString "a") ⟨133, 32, 133, 33⟩), (Expr.Name (Str.ofString "b") ⟨133, 35, 133, 36⟩), (Expr.Name (Str.ofString "spot") ⟨133, 38, 133, 42⟩)] [] ⟨133, 23, 133, 43⟩) ⟨133, 19, 133, 43⟩) ⟨133, 15, 133, 43⟩)) ⟨133, 8, 133, 43⟩)] [] ⟨132, 4, 133, 43⟩), (Stmt.Return (some (Expr.Call (Expr.Name (Str.ofString "power") ⟨134, 11, 134, 16⟩) [(Expr.Name (Str.ofString "a") ⟨134, 17, 134, 18⟩), (Expr.Name (Str.ofString "b") ⟨134, 20, 134, 21⟩), (Expr.Name (Str.ofString "spot") ⟨134, 23, 134, 27⟩)] [] ⟨134, 11, 134, 28⟩)) ⟨134, 4, 134, 28⟩)]), ⟨ScopeKind.function, [((Str.ofString "sign"), NameKind.local), ((Str.ofString "a"), NameKind.local), ((Str.ofString "b"), NameKind.local), ((Str.ofString "spot"), NameKind.local), ((Str.ofString "within_figures"), NameKind.globalImplicit), ((Str.ofString "quotient"), NameKind.globalImplicit), ((Str.ofString "power"), NameKind.globalImplicit)], false, false, []⟩, 3, [], Value.none, Value.none, Value.none, (Value.str (Str.ofString "fdsolve.values") 340), none, (Value.ref 244), Value.none, 0⟩), (List.toArray [])⟩
noncomputable def o_246 (_P : Params) : Obj := ⟨(Value.type "tuple"), none, (Data.seq (List.toArray []) 0), (List.toArray [])⟩
noncomputable def o_247 (_P : Params) : Obj := ⟨Value.none, none, (Data.fields (List.toArray [])), (List.toArray [])⟩
noncomputable def o_249 (_P : Params) : Obj := ⟨(Value.type "code"), none, (Data.fields (List.toArray [(Value.str (Str.ofString "show_text") 485), (Value.str (Str.ofString "show_text") 486), (Value.str (Str.ofString "/claim/cut.py") 487), (Value.int 135 0), (Value.int 1 0), (Value.int 0 0), (Value.int 0 0), (Value.int 3 0), (Value.ref 246), (Value.bool true), (Value.int 181 0), (Value.ref 247), Value.none, Value.none, Value.none, (Value.ref 248), (Value.int 488 0), (Value.int 135 0), (Value.str (Str.ofString "/claim/cut.py") 489)])), (List.toArray [])⟩
noncomputable def o_251 (_P : Params) : Obj := ⟨(Value.type "tuple"), none, (Data.seq (List.toArray []) 0), (List.toArray [])⟩
noncomputable def o_252 (_P : Params) : Obj := ⟨Value.none, none, (Data.fields (List.toArray [])), (List.toArray [])⟩
noncomputable def o_254 (_P : Params) : Obj := ⟨(Value.type "code"), none, (Data.fields (List.toArray [(Value.str (Str.ofString "folded") 491), (Value.str (Str.ofString "folded") 492), (Value.str (Str.ofString "/claim/cut.py") 493), (Value.int 147 0), (Value.int 3 0), (Value.int 0 0), (Value.int 0 0), (Value.int 3 0), (Value.ref 251), (Value.bool true), (Value.int 181 0), (Value.ref 252), Value.none, Value.none, Value.none, (Value.ref 253), (Value.int 494 0), (Value.int 147 0), (Value.str (Str.ofString "/claim/cut.py") 495)])), (List.toArray [])⟩
noncomputable def o_256 (_P : Params) : Obj := ⟨(Value.type "tuple"), none, (Data.seq (List.toArray [(Value.str (Str.ofString "forall") 497), (Value.str (Str.ofString "exists") 498), (Value.str (Str.ofString "xorall") 499), (Value.str (Str.ofString "iffall") 500), (Value.str (Str.ofString "sum") 501), (Value.str (Str.ofString "product") 502), (Value.str (Str.ofString "min") 503), (Value.str (Str.ofString "max") 504)]) 0), (List.toArray [])⟩
noncomputable def o_257 (_P : Params) : Obj := ⟨(Value.type "tuple"), none, (Data.seq (List.toArray []) 0), (List.toArray [])⟩
noncomputable def o_258 (_P : Params) : Obj := ⟨Value.none, none, (Data.fields (List.toArray [])), (List.toArray [])⟩
noncomputable def o_260 (_P : Params) : Obj := ⟨(Value.type "code"), none, (Data.fields (List.toArray [(Value.str (Str.ofString "scopes_of") 506), (Value.str (Str.ofString "scopes_of") 507), (Value.str (Str.ofString "/claim/cut.py") 508), (Value.int 167 0), (Value.int 3 0), (Value.int 0 0), (Value.int 0 0), (Value.int 3 0), (Value.ref 257), (Value.bool true), (Value.int 181 0), (Value.ref 258), Value.none, Value.none, Value.none, (Value.ref 259), (Value.int 509 0), (Value.int 167 0), (Value.str (Str.ofString "/claim/cut.py") 510)])), (List.toArray [])⟩
noncomputable def o_269 (_P : Params) : Obj := ⟨(Value.type "tuple"), none, (Data.seq (List.toArray []) 0), (List.toArray [])⟩
noncomputable def o_270 (_P : Params) : Obj := ⟨Value.none, none, (Data.fields (List.toArray [])), (List.toArray [])⟩
noncomputable def o_271 (_P : Params) : Obj := ⟨(Value.type "tuple"), none, (Data.seq (List.toArray [(Value.str (Str.ofString "self") 527), (Value.str (Str.ofString "scope") 528)]) 0), (List.toArray [])⟩
noncomputable def o_272 (_P : Params) : Obj := ⟨(Value.type "tuple"), none, (Data.seq (List.toArray []) 0), (List.toArray [])⟩
noncomputable def o_274 (_P : Params) : Obj := ⟨(Value.type "code"), none, (Data.fields (List.toArray [(Value.str (Str.ofString "__init__") 524), (Value.str (Str.ofString "Evaluator.__init__") 525), (Value.str (Str.ofString "/claim/cut.py") 526), (Value.int 185 0), (Value.int 2 0), (Value.int 0 0), (Value.int 0 0), (Value.int 3 0), (Value.ref 269), (Value.bool true), (Value.int 181 0), (Value.ref 270), Value.none, (Value.ref 271), (Value.ref 272), (Value.ref 273), (Value.int 529 0), (Value.int 185 0), (Value.str (Str.ofString "/claim/cut.py") 530)])), (List.toArray [])⟩
noncomputable def o_275 (_P : Params) : Obj := ⟨(Value.type "function"), none, (Data.func ⟨(Str.ofString "__init__"), (Str.ofString "Evaluator.__init__"), ⟨[], [⟨(Str.ofString "self"), none, ⟨185, 17, 185, 21⟩⟩, ⟨(Str.ofString "scope"), none, ⟨185, 23, 185, 28⟩⟩], none, [], [], none, []⟩, (FuncBody.stmts [(Stmt.Assign [(Expr.Attribute (Expr.Name (Str.ofString "self") ⟨186, 8, 186, 12⟩) (Str.ofString "scope") ⟨186, 8, 186, 18⟩)] (Expr.Name (Str.ofString "scope") ⟨186, 21, 186, 26⟩) ⟨186, 8, 186, 26⟩)]), ⟨ScopeKind.function, [((Str.ofString "self"), NameKind.local), ((Str.ofString "scope"), NameKind.local)], false, false, []⟩, 3, [], Value.none, Value.none, Value.none, (Value.str (Str.ofString "fdsolve.values") 340), none, (Value.ref 274), Value.none, 0⟩), (List.toArray [])⟩
noncomputable def o_276 (_P : Params) : Obj := ⟨(Value.type "tuple"), none, (Data.seq (List.toArray []) 0), (List.toArray [])⟩
noncomputable def o_277 (_P : Params) : Obj := ⟨Value.none, none, (Data.fields (List.toArray [])), (List.toArray [])⟩
noncomputable def o_278 (_P : Params) : Obj := ⟨(Value.type "tuple"), none, (Data.seq (List.toArray [(Value.str (Str.ofString "self") 535), (Value.str (Str.ofString "node") 536), (Value.str (Str.ofString "op") 537), (Value.str (Str.ofString "spot") 538)]) 0), (List.toArray [])⟩
noncomputable def o_279 (_P : Params) : Obj := ⟨(Value.type "tuple"), none, (Data.seq (List.toArray []) 0), (List.toArray [])⟩
noncomputable def o_281 (_P : Params) : Obj := ⟨(Value.type "code"), none, (Data.fields (List.toArray [(Value.str (Str.ofString "value_of") 532), (Value.str (Str.ofString "Evaluator.value_of") 533), (Value.str (Str.ofString "/claim/cut.py") 534), (Value.int 188 0), (Value.int 2 0), (Value.int 0 0), (Value.int 0 0), (Value.int 3 0), (Value.ref 276), (Value.bool true), (Value.int 181 0), (Value.ref 277), Value.none, (Value.ref 278), (Value.ref 279), (Value.ref 280), (Value.int 539 0), (Value.int 188 0), (Value.str (Str.ofString "/claim/cut.py") 540)])), (List.toArray [])⟩
noncomputable def o_282 (_P : Params) : Obj := ⟨(Value.type "function"), none, (Data.func ⟨(Str.ofString "value_of"), (Str.ofString "Evaluator.value_of"), ⟨[], [⟨(Str.ofString "self"), none, ⟨188, 17, 188, 21⟩⟩, ⟨(Str.ofString "node"), none, ⟨188, 23, 188, 27⟩⟩], none, [], [], none, []⟩, (FuncBody.stmts [(Stmt.Assign [(Expr.Tuple [(Expr.Name (Str.ofString "op") ⟨189, 8, 189, 10⟩), (Expr.Name (Str.ofString "spot") ⟨189, 12, 189, 16⟩)] 0 ⟨189, 8, 189, 16⟩)] (Expr.Tuple [(Expr.Subscript (Expr.Name (Str.ofString "node") ⟨189, 20, 189, 24⟩) (Expr.Constant (Const.int 0) 0 ⟨189, 25, 189, 26⟩) ⟨189, 20, 189, 27⟩), (Expr.Subscript (Expr.Name (Str.ofString "node") ⟨189, 29, 189, 33⟩) (Expr.Constant (Const.int 1) 0 ⟨189, 34, 189, 35⟩) ⟨189, 29, 189, 36⟩)] 0 ⟨189, 19, 189, 37⟩) ⟨189, 8, 189, 37⟩), (Stmt.If (Expr.Compare (Expr.Name (Str.ofString "op") ⟨190, 11, 190, 13⟩) [CmpOp.In] [(Expr.Tuple [(Expr.Constant (Const.str (Str.ofString "int")) 0 ⟨190, 18, 190, 23⟩), (Expr.Constant (Const.str (Str.ofString "bool")) 0 ⟨190, 25, 190, 31⟩), (Expr.Constant (Const.str (Str.ofString "str")) 0 ⟨190, 33, 190, 38⟩)] 0 ⟨190, 17, 190, 39⟩)] ⟨190, 11, 190, 39⟩) [(Stmt.Return (some (Expr.Subscript (Expr.Name (Str.ofString "node") ⟨191, 19, 191, 23⟩) (Expr.Constant (Const.int 2) 0 ⟨191, 24, 191, 25⟩) ⟨191, 19, 191, 26⟩)) ⟨191, 12, 191, 26⟩)] [] ⟨190, 8, 191, 26⟩), (Stmt.If (Expr.Compare (Expr.Name (Str.ofString "op") ⟨192, 11, 192, 13⟩) [CmpOp.Eq] [(Expr.Constant (Const.str (Str.ofString "name")) 0 ⟨192, 17, 192, 23⟩)] ⟨192, 11, 192, 23⟩) [(Stmt.If (Expr.Compare (Expr.Subscript (Expr.Name (Str.ofString "node") ⟨193, 15, 193, 19⟩) (Expr.Constant (Const.int 2) 0 ⟨193, 20, 193, 21⟩) ⟨193, 15, 193, 22⟩) [CmpOp.NotIn] [(Expr.Attribute (Expr.Name (Str.ofString "self") ⟨193, 30, 193, 34⟩) (Str.ofString "scope") ⟨193, 30, 193, 40⟩)] ⟨193, 15, 193, 40⟩) [(Stmt.Raise (some (Expr.Call (Expr.Name (Str.ofString "EvalFault") ⟨194, 22, 194, 31⟩) [(Expr.JoinedStr [(Expr.FormattedValue (Expr.Subscript (Expr.Name (Str.ofString "node") ⟨194, 35, 194, 39⟩) (Expr.Constant (Const.int 2) 0 ⟨194, 40, 194, 41⟩) ⟨194, 35, 194, 42⟩) (-1) none ⟨194, 34, 194, 43⟩), (Expr.Constant (Const.str (Str.ofString " has no value")) 0 ⟨194, 43, 194, 56⟩)] ⟨194, 32, 194, 57⟩), (Expr.Name (Str.ofString "spot") ⟨194, 59, 194, 63⟩)] [] ⟨194, 22, 194, 64⟩)) none ⟨194, 16, 194, 64⟩)] [] ⟨193, 12, 194, 64⟩), (Stmt.Return (some (Expr.Subscript (Expr.Attribute (Expr.Name (Str.ofString "self") ⟨195, 19, 195, 23⟩) (Str.ofString "scope") ⟨195, 19, 195, 29⟩) (Expr.Subscript (Expr.Name (Str.ofString "node") ⟨195, 30, 195, 34⟩) (Expr.Constant (Const.int 2) 0 ⟨195, 35, 195, 36⟩) ⟨195, 30, 195, 37⟩) ⟨195, 19, 195, 38⟩)) ⟨195, 12, 195, 38⟩)] [] ⟨192, 8, 195, 38⟩), (Stmt.If (Expr.Compare (Expr.Name (Str.ofString "op") ⟨196, 11, 196, 13⟩) [CmpOp.Eq] [(Expr.Constant (Const.str (Str.ofString "bin")) 0 ⟨196, 17, 196, 22⟩)] ⟨196, 11, 196, 22⟩) [(Stmt.Return (some (Expr.Call (Expr.Attribute (Expr.Name (Str.ofString "self") ⟨197, 19, 197, 23⟩) (Str.ofString "of_two") ⟨197, 19, 197, 30⟩) [(Expr.Subscript (Expr.Name (Str.ofString "node") ⟨197, 31, 197, 35⟩) (Expr.Constant (Const.int 2) 0 ⟨197, 36, 197, 37⟩) ⟨197, 31, 197, 38⟩), (Expr.Subscript (Expr.Name (Str.ofString "node") ⟨197, 40, 197, 44⟩) (Expr.Constant (Const.int 3) 0 ⟨197, 45, 197, 46⟩) ⟨197, 40, 197, 47⟩), (Expr.Subscript (Expr.Name (Str.ofString "node") ⟨197, 49, 197, 53⟩) (Expr.Constant (Const.int 4) 0 ⟨197, 54, 197, 55⟩) ⟨197, 49, 197, 56⟩), (Expr.Name (Str.ofString "spot") ⟨197, 58, 197, 62⟩)] [] ⟨197, 19, 197, 63⟩)) ⟨197, 12, 197, 63⟩)] [] ⟨196, 8, 197, 63⟩), (Stmt.If (Expr.Compare (Expr.Name (Str.ofString "op") ⟨198, 11, 198, 13⟩) [CmpOp.Eq] [(Expr.Constant (Const.str (Str.ofString "un")) 0 ⟨198, 17, 198, 21⟩)] ⟨198, 11, 198, 21⟩) [(Stmt.Return (some (Expr.Call (Expr.Attribute (Expr.Name (Str.ofString "self") ⟨199, 19, 199, 23⟩) (Str.ofString "of_one") ⟨199, 19, 199, 30⟩) [(Expr.Subscript (Expr.Name (Str.ofString "node") ⟨199, 31, 199, 35⟩) (Expr.Constant (Const.int 2) 0 ⟨199, 36, 199, 37⟩) ⟨199, 31, 199, 38⟩), (Expr.Subscript (Expr.Name (Str.ofString "node") ⟨199, 40, 199, 44⟩) (Expr.Constant (Const.int 3) 0 ⟨199, 45, 199, 46⟩) ⟨199, 40, 199, 47⟩), (Expr.Name (Str.ofString "spot") ⟨199, 49, 199, 53⟩)] [] ⟨199, 19, 199, 54⟩)) ⟨199, 12, 199, 54⟩)] [] ⟨198, 8, 199, 54⟩), (Stmt.If (Expr.Compare (Expr.Name (Str.ofString "op") ⟨200, 11, 200, 13⟩) [CmpOp.Eq] [(Expr.Constant (Const.str (Str.ofString "call")) 0 ⟨200, 17, 200, 23⟩)] ⟨200, 11, 200, 23⟩) [(Stmt.Return (some (Expr.Call (Expr.Name (Str.ofString "called") ⟨201, 19, 201, 25⟩) [(Expr.Subscript (Expr.Name (Str.ofString "node") ⟨201, 26, 201, 30⟩) (Expr.Constant (Const.int 2) 0 ⟨201, 31, 201, 32⟩) ⟨201, 26, 201, 33⟩), (Expr.Call (Expr.Attribute (Expr.Name (Str.ofString "self") ⟨201, 35, 201, 39⟩) (Str.ofString "values_of") ⟨201, 35, 201, 49⟩) [(Expr.Subscript (Expr.Name (Str.ofString "node") ⟨201, 50, 201, 54⟩) (Expr.Constant (Const.int 3) 0 ⟨201, 55, 201, 56⟩) ⟨201, 50, 201, 57⟩)] [] ⟨201, 35, 201, 58⟩), (Expr.Name (Str.ofString "spot") ⟨201, 60, 201, 64⟩)] [] ⟨201, 19, 201, 65⟩)) ⟨201, 12, 201, 65⟩)] [] ⟨200, 8, 201, 65⟩), (Stmt.If (Expr.Compare (Expr.Name (Str.ofString "op") ⟨202, 11, 202, 13⟩) [CmpOp.Eq] [(Expr.Constant (Const.str (Str.ofString "gen")) 0 ⟨202, 17, 202, 22⟩)] ⟨202, 11, 202, 22⟩) [(Stmt.Return (some (Expr.Call (Expr.Attribute (Expr.Name (Str.ofString "self") ⟨203, 19, 203, 23⟩) (Str.ofString "gathered") ⟨203, 19, 203, 32⟩) [(Expr.Name (Str.ofString "node") ⟨203, 33, 203, 37⟩)] [] ⟨203, 19, 203, 38⟩)) ⟨203, 12, 203, 38⟩)] [] ⟨202, 8, 203, 38⟩), (Stmt.If (Expr.Compare (Expr.Name (Str.ofString "op") ⟨204, 11, 204, 13⟩) [CmpOp.Eq] [(Expr.Constant (Const.str (Str.ofString "index")) 0 ⟨204, 17, 204, 24⟩)] ⟨204, 11, 204, 24⟩) [(Stmt.Return (some (Expr.Call (Expr.Attribute (Expr.Name (Str.ofString "self") ⟨205, 19, 205, 23⟩) (Str.ofString "element") ⟨205, 19, 205, 31⟩) [(Expr.Name (Str.ofString "node") ⟨205, 32, 205, 36⟩)] [] ⟨205, 19, 205, 37⟩)) ⟨205, 12, 205, 37⟩)] [] ⟨204, 8, 205, 37⟩), (Stmt.If (Expr.Compare (Expr.Name (Str.ofString "op") ⟨206, 11, 206, 13⟩) [CmpOp.Eq] [(Expr.Constant (Const.str (Str.ofString "if")) 0 ⟨206, 17, 206, 21⟩)] ⟨206, 11, 206, 21⟩) [(Stmt.Return (some (Expr.Call (Expr.Attribute (Expr.Name (Str.ofString "self") ⟨207, 19, 207, 23⟩) (Str.ofString "chosen") ⟨207, 19, 207, 30⟩) [(Expr.Name (Str.ofString "node") ⟨207, 31, 207, 35⟩)] [] ⟨207, 19, 207, 36⟩)) ⟨207, 12, 207, 36⟩)] [] ⟨206, 8, 207, 36⟩), (Stmt.If (Expr.Compare (Expr.Name (Str.ofString "op") ⟨208, 11, 208, 13⟩) [CmpOp.Eq] [(Expr.Constant (Const.str (Str.ofString "let")) 0 ⟨208, 17, 208, 22⟩)] ⟨208, 11, 208, 22⟩) [(Stmt.Return (some (Expr.Call (Expr.Attribute (Expr.Name (Str.ofString "self") ⟨209, 19, 209, 23⟩) (Str.ofString "within") ⟨209, 19, 209, 30⟩) [(Expr.Name (Str.ofString "node") ⟨209, 31, 209, 35⟩)] [] ⟨209, 19, 209, 36⟩)) ⟨209, 12, 209, 36⟩)] [] ⟨208, 8, 209, 36⟩), (Stmt.Return (some (Expr.Call (Expr.Attribute (Expr.Name (Str.ofString "self") ⟨210, 15, 210, 19⟩) (Str.ofString "built") ⟨210, 15, 210, 25⟩) [(Expr.Name (Str.ofString "op") ⟨210, 26, 210, 28⟩), (Expr.Name (Str.ofString "node") ⟨210, 30, 210, 34⟩), (Expr.Name (Str.ofString "spot") ⟨210, 36, 210, 40⟩)] [] ⟨210, 15, 210, 41⟩)) ⟨210, 8, 210, 41⟩)]), ⟨ScopeKind.function, [((Str.ofString "self"), NameKind.local), ((Str.ofString "node"), NameKind.local), ((Str.ofString "op"), NameKind.local), ((Str.ofString "spot"), NameKind.local), ((Str.ofString "EvalFault"), NameKind.globalImplicit), ((Str.ofString "called"), NameKind.globalImplicit)], false, false, []⟩, 3, [], Value.none, Value.none, Value.none, (Value.str (Str.ofString "fdsolve.values") 340), none, (Value.ref 281), Value.none, 0⟩), (List.toArray [])⟩
noncomputable def o_283 (_P : Params) : Obj := ⟨(Value.type "tuple"), none, (Data.seq (List.toArray []) 0), (List.toArray [])⟩
noncomputable def o_284 (_P : Params) : Obj := ⟨Value.none, none, (Data.fields (List.toArray [])), (List.toArray [])⟩
noncomputable def o_286 (_P : Params) : Obj := ⟨(Value.type "code"), none, (Data.fields (List.toArray [(Value.str (Str.ofString "values_of") 542), (Value.str (Str.ofString "Evaluator.values_of") 543), (Value.str (Str.ofString "/claim/cut.py") 544), (Value.int 212 0), (Value.int 2 0), (Value.int 0 0), (Value.int 0 0), (Value.int 3 0), (Value.ref 283), (Value.bool true), (Value.int 181 0), (Value.ref 284), Value.none, Value.none, Value.none, (Value.ref 285), (Value.int 545 0), (Value.int 212 0), (Value.str (Str.ofString "/claim/cut.py") 546)])), (List.toArray [])⟩
noncomputable def o_288 (_P : Params) : Obj := ⟨(Value.type "tuple"), none, (Data.seq (List.toArray []) 0), (List.toArray [])⟩
noncomputable def o_289 (_P : Params) : Obj := ⟨Value.none, none, (Data.fields (List.toArray [])), (List.toArray [])⟩
noncomputable def o_291 (_P : Params) : Obj := ⟨(Value.type "code"), none, (Data.fields (List.toArray [(Value.str (Str.ofString "built") 548), (Value.str (Str.ofString "Evaluator.built") 549), (Value.str (Str.ofString "/claim/cut.py") 550), (Value.int 215 0), (Value.int 4 0), (Value.int 0 0), (Value.int 0 0), (Value.int 3 0), (Value.ref 288), (Value.bool true), (Value.int 181 0), (Value.ref 289), Value.none, Value.none, Value.none, (Value.ref 290), (Value.int 551 0), (Value.int 215 0), (Value.str (Str.ofString "/claim/cut.py") 552)])), (List.toArray [])⟩
noncomputable def o_293 (_P : Params) : Obj := ⟨(Value.type "tuple"), none, (Data.seq (List.toArray []) 0), (List.toArray [])⟩
noncomputable def o_294 (_P : Params) : Obj := ⟨Value.none, none, (Data.fields (List.toArray [])), (List.toArray [])⟩
noncomputable def o_295 (_P : Params) : Obj := ⟨(Value.type "tuple"), none, (Data.seq (List.toArray [(Value.str (Str.ofString "self") 557), (Value.str (Str.ofString "node") 558), (Value.str (Str.ofString "name") 559), (Value.str (Str.ofString "spot") 560), (Value.str (Str.ofString "found") 561), (Value.str (Str.ofString "one") 562)]) 0), (List.toArray [])⟩
noncomputable def o_296 (_P : Params) : Obj := ⟨(Value.type "tuple"), none, (Data.seq (List.toArray []) 0), (List.toArray [])⟩
noncomputable def o_298 (_P : Params) : Obj := ⟨(Value.type "code"), none, (Data.fields (List.toArray [(Value.str (Str.ofString "gathered") 554), (Value.str (Str.ofString "Evaluator.gathered") 555), (Value.str (Str.ofString "/claim/cut.py") 556), (Value.int 236 0), (Value.int 2 0), (Value.int 0 0), (Value.int 0 0), (Value.int 3 0), (Value.ref 293), (Value.bool true), (Value.int 181 0), (Value.ref 294), Value.none, (Value.ref 295), (Value.ref 296), (Value.ref 297), (Value.int 563 0), (Value.int 236 0), (Value.str (Str.ofString "/claim/cut.py") 564)])), (List.toArray [])⟩
noncomputable def o_300 (_P : Params) : Obj := ⟨(Value.type "tuple"), none, (Data.seq (List.toArray []) 0), (List.toArray [])⟩
noncomputable def o_301 (_P : Params) : Obj := ⟨Value.none, none, (Data.fields (List.toArray [])), (List.toArray [])⟩
noncomputable def o_302 (_P : Params) : Obj := ⟨(Value.type "tuple"), none, (Data.seq (List.toArray [(Value.str (Str.ofString "self") 569), (Value.str (Str.ofString "sign") 570), (Value.str (Str.ofString "node") 571), (Value.str (Str.ofString "spot") 572), (Value.str (Str.ofString "value") 573)]) 0), (List.toArray [])⟩
noncomputable def o_303 (_P : Params) : Obj := ⟨(Value.type "tuple"), none, (Data.seq (List.toArray []) 0), (List.toArray [])⟩
noncomputable def o_305 (_P : Params) : Obj := ⟨(Value.type "code"), none, (Data.fields (List.toArray [(Value.str (Str.ofString "of_one") 566), (Value.str (Str.ofString "Evaluator.of_one") 567), (Value.str (Str.ofString "/claim/cut.py") 568), (Value.int 244 0), (Value.int 4 0), (Value.int 0 0), (Value.int 0 0), (Value.int 3 0), (Value.ref 300), (Value.bool true), (Value.int 181 0), (Value.ref 301), Value.none, (Value.ref 302), (Value.ref 303), (Value.ref 304), (Value.int 574 0), (Value.int 244 0), (Value.str (Str.ofString "/claim/cut.py") 575)])), (List.toArray [])⟩
noncomputable def o_306 (_P : Params) : Obj := ⟨(Value.type "function"), none, (Data.func ⟨(Str.ofString "of_one"), (Str.ofString "Evaluator.of_one"), ⟨[], [⟨(Str.ofString "self"), none, ⟨244, 15, 244, 19⟩⟩, ⟨(Str.ofString "sign"), none, ⟨244, 21, 244, 25⟩⟩, ⟨(Str.ofString "node"), none, ⟨244, 27, 244, 31⟩⟩, ⟨(Str.ofString "spot"), none, ⟨244, 33, 244, 37⟩⟩], none, [], [], none, []⟩, (FuncBody.stmts [(Stmt.Assign [(Expr.Name (Str.ofString "value") ⟨245, 8, 245, 13⟩)] (Expr.Call (Expr.Attribute (Expr.Name (Str.ofString "self") ⟨245, 16, 245, 20⟩) (Str.ofString "value_of") ⟨245, 16, 245, 29⟩) [(Expr.Name (Str.ofString "node") ⟨245, 30, 245, 34⟩)] [] ⟨245, 16, 245, 35⟩) ⟨245, 8, 245, 35⟩), (Stmt.If (Expr.Compare (Expr.Name (Str.ofString "sign") ⟨246, 11, 246, 15⟩) [CmpOp.Eq] [(Expr.Constant (Const.str (Str.ofString "not")) 0 ⟨246, 19, 246, 24⟩)] ⟨246, 11, 246, 24⟩) [(Stmt.Return (some (Expr.UnaryOp UnaryOp.Not (Expr.Call (Expr.Name (Str.ofString "truth_of") ⟨247, 23, 247, 31⟩) [(Expr.Name (Str.ofString "value") ⟨247, 32, 247, 37⟩), (Expr.Name (Str.ofString "spot") ⟨247, 39, 247, 43⟩)] [] ⟨247, 23, 247, 44⟩) ⟨247, 19, 247, 44⟩)) ⟨247, 12, 247, 44⟩)] [] ⟨246, 8, 247, 44⟩), (Stmt.Return (some (Expr.Call (Expr.Name (Str.ofString "within_figures") ⟨248, 15, 248, 29⟩) [(Expr.IfExp (Expr.Compare (Expr.Name (Str.ofString "sign") ⟨248, 57, 248, 61⟩) [CmpOp.Eq] [(Expr.Constant (Const.str (Str.ofString "-")) 0 ⟨248, 65, 248, 68⟩)] ⟨248, 57, 248, 68⟩) (Expr.UnaryOp UnaryOp.USub (Expr.Call (Expr.Name (Str.ofString "number_of") ⟨248, 31, 248, 40⟩) [(Expr.Name (Str.ofString "value") ⟨248, 41, 248, 46⟩), (Expr.Name (Str.ofString "spot") ⟨248, 48, 248, 52⟩)] [] ⟨248, 31, 248, 53⟩) ⟨248, 30, 248, 53⟩) (Expr.Call (Expr.Name (Str.ofString "number_of") ⟨248, 74, 248, 83⟩) [(Expr.Name (Str.ofString "value") ⟨248, 84, 248, 89⟩), (Expr.Name (Str.ofString "spot") ⟨248, 91, 248, 95⟩)] [] ⟨248, 74, 248, 96⟩) ⟨248, 30, 248, 96⟩)] [] ⟨248, 15, 248, 97⟩)) ⟨248, 8, 248, 97⟩)]), ⟨ScopeKind.function, [((Str.ofString "self"), NameKind.local), ((Str.ofString "sign"), NameKind.local), ((Str.ofString "node"), NameKind.local), ((Str.ofString "spot"), NameKind.local), ((Str.ofString "value"), NameKind.local), ((Str.ofString "truth_of"), NameKind.globalImplicit), ((Str.ofString "within_figures"), NameKind.globalImplicit), ((Str.ofString "number_of"), NameKind.globalImplicit)], false, false, []⟩, 3, [], Value.none, Value.none, Value.none, (Value.str (Str.ofString "fdsolve.values") 340), none, (Value.ref 305), Value.none, 0⟩), (List.toArray [])⟩
noncomputable def o_307 (_P : Params) : Obj := ⟨(Value.type "tuple"), none, (Data.seq (List.toArray []) 0), (List.toArray [])⟩
noncomputable def o_308 (_P : Params) : Obj := ⟨Value.none, none, (Data.fields (List.toArray [])), (List.toArray [])⟩
noncomputable def o_309 (_P : Params) : Obj := ⟨(Value.type "tuple"), none, (Data.seq (List.toArray [(Value.str (Str.ofString "self") 580), (Value.str (Str.ofString "sign") 581), (Value.str (Str.ofString "left") 582), (Value.str (Str.ofString "right") 583), (Value.str (Str.ofString "spot") 584), (Value.str (Str.ofString "a") 585), (Value.str (Str.ofString "b") 586), (Value.str (Str.ofString "few") 587), (Value.str (Str.ofString "many") 588)]) 0), (List.toArray [])⟩
noncomputable def o_310 (_P : Params) : Obj := ⟨(Value.type "tuple"), none, (Data.seq (List.toArray []) 0), (List.toArray [])⟩
noncomputable def o_312 (_P : Params) : Obj := ⟨(Value.type "code"), none, (Data.fields (List.toArray [(Value.str (Str.ofString "of_two") 577), (Value.str (Str.ofString "Evaluator.of_two") 578), (Value.str (Str.ofString "/claim/cut.py") 579), (Value.int 250 0), (Value.int 5 0), (Value.int 0 0), (Value.int 0 0), (Value.int 3 0), (Value.ref 307), (Value.bool true), (Value.int 181 0), (Value.ref 308), Value.none, (Value.ref 309), (Value.ref 310), (Value.ref 311), (Value.int 589 0), (Value.int 250 0), (Value.str (Str.ofString "/claim/cut.py") 590)])), (List.toArray [])⟩
noncomputable def o_313 (_P : Params) : Obj := ⟨(Value.type "function"), none, (Data.func ⟨(Str.ofString "of_two"), (Str.ofString "Evaluator.of_two"), ⟨[], [⟨(Str.ofString "self"), none, ⟨250, 15, 250, 19⟩⟩, ⟨(Str.ofString "sign"), none, ⟨250, 21, 250, 25⟩⟩, ⟨(Str.ofString "left"), none, ⟨250, 27, 250, 31⟩⟩, ⟨(Str.ofString "right"), none, ⟨250, 33, 250, 38⟩⟩, ⟨(Str.ofString "spot"), none, ⟨250, 40, 250, 44⟩⟩], none, [], [], none, []⟩, (FuncBody.stmts [(Stmt.Assign [(Expr.Name (Str.ofString "a") ⟨251, 8, 251, 9⟩)] (Expr.Call (Expr.Attribute (Expr.Name (Str.ofString "self") ⟨251, 12, 251, 16⟩) (Str.ofString "value_of") ⟨251, 12, 251, 25⟩) [(Expr.Name (Str.ofString "left") ⟨251, 26, 251, 30⟩)] [] ⟨251, 12, 251, 31⟩) ⟨251, 8, 251, 31⟩), (Stmt.If (Expr.Compare (Expr.Name (Str.ofString "sign") ⟨252, 11, 252, 15⟩) [CmpOp.In] [(Expr.Tuple [(Expr.Constant (Const.str (Str.ofString "/\\")) 0 ⟨252, 20, 252, 25⟩), (Expr.Constant (Const.str (Str.ofString "\\/")) 0 ⟨252, 27, 252, 32⟩), (Expr.Constant (Const.str (Str.ofString "->")) 0 ⟨252, 34, 252, 38⟩)] 0 ⟨252, 19, 252, 39⟩)] ⟨252, 11, 252, 39⟩) [(Stmt.If (Expr.Compare (Expr.Call (Expr.Name (Str.ofString "truth_of") ⟨253, 15, 253, 23⟩) [(Expr.Name (Str.ofString "a") ⟨253, 24, 253, 25⟩), (Expr.Name (Str.ofString "spot") ⟨253, 27, 253, 31⟩)] [] ⟨253, 15, 253, 32⟩) [CmpOp.Eq] [(Expr.Compare (Expr.Name (Str.ofString "sign") ⟨253, 37, 253, 41⟩) [CmpOp.Eq] [(Expr.Constant (Const.str (Str.ofString "\\/")) 0 ⟨253, 45, 253, 50⟩)] ⟨253, 37, 253, 50⟩)] ⟨253, 15, 253, 51⟩) [(Stmt.Return (some (Expr.Compare (Expr.Name (Str.ofString "sign") ⟨254, 23, 254, 27⟩) [CmpOp.NotEq] [(Expr.Constant (Const.str (Str.ofString "/\\")) 0 ⟨254, 31, 254, 36⟩)] ⟨254, 23, 254, 36⟩)) ⟨254, 16, 254, 36⟩)] [] ⟨253, 12, 254, 36⟩), (Stmt.Return (some (Expr.Call (Expr.Name (Str.ofString "truth_of") ⟨255, 19, 255, 27⟩) [(Expr.Call (Expr.Attribute (Expr.Name (Str.ofString "self") ⟨255, 28, 255, 32⟩) (Str.ofString "value_of") ⟨255, 28, 255, 41⟩) [(Expr.Name (Str.ofString "right") ⟨255, 42, 255, 47⟩)] [] ⟨255, 28, 255, 48⟩), (Expr.Name (Str.ofString "spot") ⟨255, 50, 255, 54⟩)] [] ⟨255, 19, 255, 55⟩)) ⟨255, 12, 255, 55⟩)] [] ⟨252, 8, 255, 55⟩), (Stmt.Assign [(Expr.Name (Str.ofString "b") ⟨256, 8, 256, 9⟩)] (Expr.Call (Expr.Attribute (Expr.Name (Str.ofString "self") ⟨256, 12, 256, 16⟩) (Str.ofString "value_of") ⟨256, 12, 256, 25⟩) [(Expr.Name (Str.ofString "right") ⟨256, 26, 256, 31⟩)] [] ⟨256, 12, 256, 32⟩) ⟨256, 8, 256, 32⟩), (Stmt.If (Expr.Compare (Expr.Name (Str.ofString "sign") ⟨257, 11, 257, 15⟩) [CmpOp.In] [(Expr.Tuple [(Expr.Constant (Const.str (Str.ofString "<")) 0 ⟨257, 20, 257, 23⟩), (Expr.Constant (Const.str (Str.ofString "<=")) 0 ⟨257, 25, 257, 29⟩), (Expr.Constant (Const.str (Str.ofString ">")) 0 ⟨257, 31, 257, 34⟩), (Expr.Constant (Const.str (Str.ofString ">=")) 0 ⟨257, 36, 257, 40⟩), (Expr.Constant (Const.str (Str.ofString "=")) 0 ⟨257, 42, 257, 45⟩), (Expr.Constant (Const.str (Str.ofString "==")) 0 ⟨257, 47, 257, 51⟩), (Expr.Constant (Const.str (Str.ofString "!=")) 0 ⟨257, 53, 257, 57⟩)] 0 ⟨257, 19, 257, 58⟩)] ⟨257, 11, 257, 58⟩) [(Stmt.Return (some (Expr.Call (Expr.Name (Str.ofString "are_compared") ⟨258, 19, 258, 31⟩) [(Expr.Name (Str.ofString "sign") ⟨258, 32, 258, 36⟩), (Expr.Name (Str.ofString "a") ⟨258, 38, 258, 39⟩), (Expr.Name (Str.ofString "b") ⟨258, 41, 258, 42⟩), (Expr.Name (Str.ofString "spot") ⟨258, 44, 258, 48⟩)] [] ⟨258, 19, 258, 49⟩)) ⟨258, 12, 258, 49⟩)] [] ⟨257, 8, 258, 49⟩), (Stmt.If (Expr.Compare (Expr.Name (Str.ofString "sign") ⟨259, 11, 259, 15⟩) [CmpOp.In] [(Expr.Tuple [(Expr.Constant (Const.str (Str.ofString "<->")) 0 ⟨259, 20, 259, 25⟩), (Expr.Constant (Const.str (Str.ofString "xor")) 0 ⟨259, 27, 259, 32⟩)] 0 ⟨259, 19, 259, 33⟩)] ⟨259, 11, 259, 33⟩) [(Stmt.Return (some (Expr.Compare (Expr.Compare (Expr.Call (Expr.Name (Str.ofString "truth_of") ⟨260, 20, 260, 28⟩) [(Expr.Name (Str.ofString "a") ⟨260, 29, 260, 30⟩), (Expr.Name (Str.ofString "spot") ⟨260, 32, 260, 36⟩)] [] ⟨260, 20, 260, 37⟩) [CmpOp.Eq] [(Expr.Call (Expr.Name (Str.ofString "truth_of") ⟨260, 41, 260, 49⟩) [(Expr.Name (Str.ofString "b") ⟨260, 50, 260, 51⟩), (Expr.Name (Str.ofString "spot") ⟨260, 53, 260, 57⟩)] [] ⟨260, 41, 260, 58⟩)] ⟨260, 20, 260, 58⟩) [CmpOp.Eq] [(Expr.Compare (Expr.Name (Str.ofString "sign") ⟨260, 64, 260, 68⟩) [CmpOp.Eq] [(Expr.Constant (Const.str (Str.ofString "<->")) 0 ⟨260, 72, 260, 77⟩)] ⟨260, 64, 260, 77⟩)] ⟨260, 19, 260, 78⟩)) ⟨260, 12, 260, 78⟩)] [] ⟨259, 8, 260, 78⟩), (Stmt.If (Expr.Compare (Expr.Name (Str.ofString "sign") ⟨261, 11, 261, 15⟩) [CmpOp.Eq] [(Expr.Constant (Const.str (Str.ofString "<-")) 0 ⟨261, 19, 261, 23⟩)] ⟨261, 11, 261, 23⟩) [(Stmt.Return (some (Expr.BoolOp BoolOp.Or [(Expr.Call (Expr.Name (Str.ofString "truth_of") ⟨262, 19, 262, 27⟩) [(Expr.Name (Str.ofString "a") ⟨262, 28, 262, 29⟩), (Expr.Name (Str.ofString "spot") ⟨262, 31, 262, 35⟩)] [] ⟨262, 19, 262, 36⟩), (Expr.UnaryOp UnaryOp.Not (Expr.Call (Expr.Name (Str.ofString "truth_of") ⟨262, 44, 262, 52⟩) [(Expr.Name (Str.ofString "b") ⟨262, 53, 262, 54⟩), (Expr.Name (Str.ofString "spot") ⟨262, 56, 262, 60⟩)] [] ⟨262, 44, 262, 61⟩) ⟨262, 40, 262, 61⟩)] ⟨262, 19, 262, 61⟩)) ⟨262, 12, 262, 61⟩)] [] ⟨261, 8, 262, 61⟩), (Stmt.If (Expr.Compare (Expr.Name (Str.ofString "sign") ⟨263, 11, 263, 15⟩) [CmpOp.Eq] [(Expr.Constant (Const.str (Str.ofString "in")) 0 ⟨263, 19, 263, 23⟩)] ⟨263, 11, 263, 23⟩) [(Stmt.Return (some (Expr.Compare (Expr.Call (Expr.Name (Str.ofString "number_of") ⟨264, 19, 264, 28⟩) [(Expr.Name (Str.ofString "a") ⟨264, 29, 264, 30⟩), (Expr.Name (Str.ofString "spot") ⟨264, 32, 264, 36⟩)] [] ⟨264, 19, 264, 37⟩) [CmpOp.In] [(Expr.Call (Expr.Name (Str.ofString "set_of") ⟨264, 41, 264, 47⟩) [(Expr.Name (Str.ofString "b") ⟨264, 48, 264, 49⟩), (Expr.Name (Str.ofString "spot") ⟨264, 51, 264, 55⟩)] [] ⟨264, 41, 264, 56⟩)] ⟨264, 19, 264, 56⟩)) ⟨264, 12, 264, 56⟩)] [] ⟨263, 8, 264, 56⟩), (Stmt.If (Expr.Compare (Expr.Name (Str.ofString "sign") ⟨265, 11, 265, 15⟩) [CmpOp.In] [(Expr.Tuple [(Expr.Constant (Const.str (Str.ofString "subset")) 0 ⟨265, 20, 265, 28⟩), (Expr.Constant (Const.str (Str.ofString "superset")) 0 ⟨265, 30, 265, 40⟩)] 0 ⟨265, 19, 265, 41⟩)] ⟨265, 11, 265, 41⟩) [(Stmt.Assign [(Expr.Tuple [(Expr.Name (Str.ofString "few") ⟨266, 12, 266, 15⟩), (Expr.Name (Str.ofString "many") ⟨266, 17, 266, 21⟩)] 0 ⟨266, 12, 266, 21⟩)] (Expr.IfExp (Expr.Compare (Expr.Name (Str.ofString "sign") ⟨266, 34, 266, 38⟩) [CmpOp.Eq] [(Expr.Constant (Const.str (Str.ofString "subset")) 0 ⟨266, 42, 266, 50⟩)] ⟨266, 34, 266, 50⟩) (Expr.Tuple [(Expr.Name (Str.ofString "a") ⟨266, 25, 266, 26⟩), (Expr.Name (Str.ofString "b") ⟨266, 28, 266, 29⟩)] 0 ⟨266, 24, 266, 30⟩) (Expr.Tuple [(Expr.Name (Str.ofString "b") ⟨266, 57, 266, 58⟩), (Expr.Name (Str.ofString "a") ⟨266, 60, 266, 61⟩)] 0 ⟨266, 56, 266, 62⟩) ⟨266, 24, 266, 62⟩) ⟨266, 12, 266, 62⟩), (Stmt.Return (some (Expr.Compare (Expr.Call (Expr.Name (Str.ofString "len") ⟨267, 19, 267, 22⟩) [(Expr.Call (Expr.Name (Str.ofString "joined_sets") ⟨267, 23, 267, 34⟩) [(Expr.Constant (Const.str (Str.ofString "diff")) 0 ⟨267, 35, 267, 41⟩), (Expr.Call (Expr.Name (Str.ofString "set_of") ⟨267, 43, 267, 49⟩) [(Expr.Name (Str.ofString "few") ⟨267, 50, 267, 53⟩), (Expr.Name (Str.ofString "spot") ⟨267, 55, 267, 59⟩)] [] ⟨267, 43, 267, 60⟩), (Expr.Call (Expr.Name (Str.ofString "set_of") ⟨267, 62, 267, 68⟩) [(Expr.Name (Str.ofString "many") ⟨267, 69, 267, 73⟩), (Expr.Name (Str.ofString "spot") ⟨267, 75, 267, 79⟩)] [] ⟨267, 62, 267, 80⟩)] [] ⟨267, 23, 267, 81⟩)] [] ⟨267, 19, 267, 82⟩) [CmpOp.Eq] [(Expr.Constant (Const.int 0) 0 ⟨267, 86, 267, 87⟩)] ⟨267, 19, 267, 87⟩)) ⟨267, 12, 267, 87⟩)] [] ⟨265, 8, 267, 87⟩), (Stmt.If (Expr.Compare (Expr.Name (Str.ofString "sign") ⟨268, 11, 268, 15⟩) [CmpOp.In] [(Expr.Tuple [(Expr.Constant (Const.str (Str.ofString "union")) 0 ⟨268, 20, 268, 27⟩), (Expr.Constant (Const.str (Str.ofString "diff")) 0 ⟨268, 29, 268, 35⟩), (Expr.Constant (Const.str (Str.ofString "symdiff")) 0 ⟨268, 37, 268, 46⟩), (Expr.Constant (Const.str (Str.ofString "intersect")) 0 ⟨268, 48, 268, 59⟩)] 0 ⟨268, 19, 268, 60⟩)] ⟨268, 11, 268, 60⟩) [(Stmt.Return (some (Expr.Call (Expr.Name (Str.ofString "joined_sets") ⟨269, 19, 269, 30⟩) [(Expr.Name (Str.ofString "sign") ⟨269, 31, 269, 35⟩), (Expr.Call (Expr.Name (Str.ofString "set_of") ⟨269, 37, 269, 43⟩) [(Expr.Name (Str.ofString "a") ⟨269, 44, 269, 45⟩), (Expr.Name (Str.ofString "spot") ⟨269, 47, 269, 51⟩)] [] ⟨269, 37, 269, 52⟩), (Expr.Call (Expr.Name (Str.ofString "set_of") ⟨269, 54, 269, 60⟩) [(Expr.Name (Str.ofString "b") ⟨269, 61, 269, 62⟩), (Expr.Name (Str.ofString "spot") ⟨269, 64, 269, 68⟩)] [] ⟨269, 54, 269, 69⟩)] [] ⟨269, 19, 269, 70⟩)) ⟨269, 12, 269, 70⟩)] [] ⟨268, 8, 269, 70⟩), (Stmt.If (Expr.Compare (Expr.Name (Str.ofString "sign") ⟨270, 11, 270, 15⟩) [CmpOp.Eq] [(Expr.Constant (Const.str (Str.ofString "++")) 0 ⟨270, 19, 270, 23⟩)] ⟨270, 11, 270, 23⟩) [(Stmt.Return (some (Expr.IfExp (Expr.Call (Expr.Name (Str.ofString "isinstance") ⟨271, 43, 271, 53⟩) [(Expr.Name (Str.ofString "a") ⟨271, 54, 271, 55⟩), (Expr.Name (Str.ofString "str") ⟨271, 57, 271, 60⟩)] [] ⟨271, 43, 271, 61⟩) (Expr.BinOp (Expr.Name (Str.ofString "a") ⟨271, 19, 271, 20⟩) Operator.Add (Expr.Call (Expr.Name (Str.ofString "text_of") ⟨271, 23, 271, 30⟩) [(Expr.Name (Str.ofString "b") ⟨271, 31, 271, 32⟩), (Expr.Name (Str.ofString "spot") ⟨271, 34, 271, 38⟩)] [] ⟨271, 23, 271, 39⟩) ⟨271, 19, 271, 39⟩) (Expr.Call (Expr.Name (Str.ofString "row_of") ⟨271, 67, 271, 73⟩) [(Expr.BinOp (Expr.Call (Expr.Name (Str.ofString "list_of") ⟨271, 74, 271, 81⟩) [(Expr.Name (Str.ofString "a") ⟨271, 82, 271, 83⟩), (Expr.Name (Str.ofString "spot") ⟨271, 85, 271, 89⟩)] [] ⟨271, 74, 271, 90⟩) Operator.Add (Expr.Call (Expr.Name (Str.ofString "list_of") ⟨271, 93, 271, 100⟩) [(Expr.Name (Str.ofString "b") ⟨271, 101, 271, 102⟩), (Expr.Name (Str.ofString "spot") ⟨271, 104, 271, 108⟩)] [] ⟨271, 93, 271, 109⟩) ⟨271, 74, 271, 109⟩)] [] ⟨271, 67, 271, 110⟩) ⟨271, 19, 271, 110⟩)) ⟨271, 12, 271, 110⟩)] [] ⟨270, 8, 271, 110⟩), (Stmt.If (Expr.Compare (Expr.Name (Str.ofString "sign") ⟨272, 11, 272, 15⟩) [CmpOp.NotIn] [(Expr.Tuple [(Expr.Constant (Const.str (Str.ofString "+")) 0 ⟨272, 24, 272, 27⟩), (Expr.Constant (Const.str (Str.ofString "-")) 0 ⟨272, 29, 272, 32⟩), (Expr.Constant (Const.str (Str.ofString "*")) 0 ⟨272, 34, 272, 37⟩), (Expr.Constant (Const.str (Str.ofString "div")) 0 ⟨272, 39, 272, 44⟩), (Expr.Constant (Const.str (Str.ofString "mod")) 0 ⟨272, 46, 272, 51⟩), (Expr.Constant (Const.str (Str.ofString "^")) 0 ⟨272, 53, 272, 56⟩)] 0 ⟨272, 23, 272, 57⟩)] ⟨272, 11, 272, 57⟩) [(Stmt.Raise (some (Expr.Call (Expr.Name (Str.ofString "EvalFault") ⟨273, 18, 273, 27⟩) [(Expr.JoinedStr [(Expr.FormattedValue (Expr.Name (Str.ofString "sign") ⟨273, 31, 273, 35⟩) (-1) none ⟨273, 30, 273, 36⟩), (Expr.Constant (Const.str (Str.ofString " has no value here")) 0 ⟨273, 36, 273, 54⟩)] ⟨273, 28, 273, 55⟩), (Expr.Name (Str.ofString "spot") ⟨273, 57, 273, 61⟩)] [] ⟨273, 18, 273, 62⟩)) none ⟨273, 12, 273, 62⟩)] [] ⟨272, 8, 273, 62⟩), (Stmt.Return (some (Expr.Call (Expr.Name (Str.ofString "reckoned") ⟨274, 15, 274, 23⟩) [(Expr.Name (Str.ofString "sign") ⟨274, 24, 274, 28⟩), (Expr.Call (Expr.Name (Str.ofString "number_of") ⟨274, 30, 274, 39⟩) [(Expr.Name (Str.ofString "a") ⟨274, 40, 274, 41⟩), (Expr.Name (Str.ofString "spot") ⟨274, 43, 274, 47⟩)] [] ⟨274, 30, 274, 48⟩), (Expr.Call (Expr.Name (Str.ofString "number_of") ⟨274, 50, 274, 59⟩) [(Expr.Name (Str.ofString "b") ⟨274, 60, 274, 61⟩), (Expr.Name (Str.ofString "spot") ⟨274, 63, 274, 67⟩)] [] ⟨274, 50, 274, 68⟩), (Expr.Name (Str.ofString "spot") ⟨274, 70, 274, 74⟩)] [] ⟨274, 15, 274, 75⟩)) ⟨274, 8, 274, 75⟩)]), ⟨ScopeKind.function, [((Str.ofString "self"), NameKind.local), ((Str.ofString "sign"), NameKind.local), ((Str.ofString "left"), NameKind.local), ((Str.ofString "right"), NameKind.local), ((Str.ofString "spot"), NameKind.local), ((Str.ofString "a"), NameKind.local), ((Str.ofString "b"), NameKind.local), ((Str.ofString "few"), NameKind.local), ((Str.ofString "many"), NameKind.local), ((Str.ofString "truth_of"), NameKind.globalImplicit), ((Str.ofString "are_compared"), NameKind.globalImplicit), ((Str.ofString "number_of"), NameKind.globalImplicit), ((Str.ofString "set_of"), NameKind.globalImplicit), ((Str.ofString "len"), NameKind.globalImplicit), ((Str.ofString "joined_sets"), NameKind.globalImplicit), ((Str.ofString "isinstance"), NameKind.globalImplicit), ((Str.ofString "str"), NameKind.globalImplicit), ((Str.ofString "text_of"), NameKind.globalImplicit), ((Str.ofString "row_of"), NameKind.globalImplicit), ((Str.ofString "list_of"), NameKind.globalImplicit), ((Str.ofString "EvalFault"), NameKind.globalImplicit), ((Str.ofString "reckoned"), NameKind.globalImplicit)], false, false, []⟩, 3, [], Value.none, Value.none, Value.none, (Value.str (Str.ofString "fdsolve.values") 340), none, (Value.ref 312), Value.none, 0⟩), (List.toArray [])⟩
noncomputable def o_314 (_P : Params) : Obj := ⟨(Value.type "tuple"), none, (Data.seq (List.toArray []) 0), (List.toArray [])⟩
noncomputable def o_315 (_P : Params) : Obj := ⟨Value.none, none, (Data.fields (List.toArray [])), (List.toArray [])⟩
noncomputable def o_316 (_P : Params) : Obj := ⟨(Value.type "tuple"), none, (Data.seq (List.toArray [(Value.str (Str.ofString "self") 595), (Value.str (Str.ofString "node") 596), (Value.str (Str.ofString "value") 597), (Value.str (Str.ofString "spot") 598), (Value.str (Str.ofString "some") 599), (Value.str (Str.ofString "place") 600), (Value.str (Str.ofString "low") 601), (Value.str (Str.ofString "high") 602), (Value.str (Str.ofString "one") 603), (Value.str (Str.ofString "index") 604)]) 0), (List.toArray [])⟩
noncomputable def o_317 (_P : Params) : Obj := ⟨(Value.type "tuple"), none, (Data.seq (List.toArray []) 0), (List.toArray [])⟩
noncomputable def o_319 (_P : Params) : Obj := ⟨(Value.type "code"), none, (Data.fields (List.toArray [(Value.str (Str.ofString "element") 592), (Value.str (Str.ofString "Evaluator.element") 593), (Value.str (Str.ofString "/claim/cut.py") 594), (Value.int 276 0), (Value.int 2 0), (Value.int 0 0), (Value.int 0 0), (Value.int 3 0), (Value.ref 314), (Value.bool true), (Value.int 181 0), (Value.ref 315), Value.none, (Value.ref 316), (Value.ref 317), (Value.ref 318), (Value.int 605 0), (Value.int 276 0), (Value.str (Str.ofString "/claim/cut.py") 606)])), (List.toArray [])⟩
noncomputable def o_321 (_P : Params) : Obj := ⟨(Value.type "tuple"), none, (Data.seq (List.toArray []) 0), (List.toArray [])⟩
noncomputable def o_322 (_P : Params) : Obj := ⟨Value.none, none, (Data.fields (List.toArray [])), (List.toArray [])⟩
noncomputable def o_323 (_P : Params) : Obj := ⟨(Value.type "tuple"), none, (Data.seq (List.toArray [(Value.str (Str.ofString "self") 611), (Value.str (Str.ofString "node") 612), (Value.str (Str.ofString "condition") 613), (Value.str (Str.ofString "value") 614)]) 0), (List.toArray [])⟩
noncomputable def o_324 (_P : Params) : Obj := ⟨(Value.type "tuple"), none, (Data.seq (List.toArray []) 0), (List.toArray [])⟩
noncomputable def o_326 (_P : Params) : Obj := ⟨(Value.type "code"), none, (Data.fields (List.toArray [(Value.str (Str.ofString "chosen") 608), (Value.str (Str.ofString "Evaluator.chosen") 609), (Value.str (Str.ofString "/claim/cut.py") 610), (Value.int 289 0), (Value.int 2 0), (Value.int 0 0), (Value.int 0 0), (Value.int 3 0), (Value.ref 321), (Value.bool true), (Value.int 181 0), (Value.ref 322), Value.none, (Value.ref 323), (Value.ref 324), (Value.ref 325), (Value.int 615 0), (Value.int 289 0), (Value.str (Str.ofString "/claim/cut.py") 616)])), (List.toArray [])⟩
noncomputable def o_328 (_P : Params) : Obj := ⟨(Value.type "tuple"), none, (Data.seq (List.toArray []) 0), (List.toArray [])⟩
noncomputable def o_329 (_P : Params) : Obj := ⟨Value.none, none, (Data.fields (List.toArray [])), (List.toArray [])⟩
noncomputable def o_330 (_P : Params) : Obj := ⟨(Value.type "tuple"), none, (Data.seq (List.toArray [(Value.str (Str.ofString "self") 621), (Value.str (Str.ofString "node") 622), (Value.str (Str.ofString "inner") 623), (Value.str (Str.ofString "item") 624)]) 0), (List.toArray [])⟩
noncomputable def o_331 (_P : Params) : Obj := ⟨(Value.type "tuple"), none, (Data.seq (List.toArray []) 0), (List.toArray [])⟩
noncomputable def o_333 (_P : Params) : Obj := ⟨(Value.type "code"), none, (Data.fields (List.toArray [(Value.str (Str.ofString "within") 618), (Value.str (Str.ofString "Evaluator.within") 619), (Value.str (Str.ofString "/claim/cut.py") 620), (Value.int 295 0), (Value.int 2 0), (Value.int 0 0), (Value.int 0 0), (Value.int 3 0), (Value.ref 328), (Value.bool true), (Value.int 181 0), (Value.ref 329), Value.none, (Value.ref 330), (Value.ref 331), (Value.ref 332), (Value.int 625 0), (Value.int 295 0), (Value.str (Str.ofString "/claim/cut.py") 626)])), (List.toArray [])⟩
noncomputable def o_335 (_P : Params) : Obj := ⟨(Value.type "tuple"), none, (Data.seq (List.toArray []) 0), (List.toArray [])⟩
noncomputable def o_336 (_P : Params) : Obj := ⟨Value.none, none, (Data.fields (List.toArray [])), (List.toArray [])⟩
noncomputable def o_337 (_P : Params) : Obj := ⟨(Value.type "tuple"), none, (Data.seq (List.toArray [(Value.str (Str.ofString "self") 631), (Value.str (Str.ofString "dims") 632), (Value.str (Str.ofString "value") 633), (Value.str (Str.ofString "spot") 634), (Value.str (Str.ofString "found") 635), (Value.str (Str.ofString "dim") 636), (Value.str (Str.ofString "low") 637), (Value.str (Str.ofString "high") 638), (Value.str (Str.ofString "some") 639)]) 0), (List.toArray [])⟩
noncomputable def o_338 (_P : Params) : Obj := ⟨(Value.type "tuple"), none, (Data.seq (List.toArray []) 0), (List.toArray [])⟩
noncomputable def o_340 (_P : Params) : Obj := ⟨(Value.type "code"), none, (Data.fields (List.toArray [(Value.str (Str.ofString "ranges_of") 628), (Value.str (Str.ofString "Evaluator.ranges_of") 629), (Value.str (Str.ofString "/claim/cut.py") 630), (Value.int 307 0), (Value.int 4 0), (Value.int 0 0), (Value.int 0 0), (Value.int 3 0), (Value.ref 335), (Value.bool true), (Value.int 181 0), (Value.ref 336), Value.none, (Value.ref 337), (Value.ref 338), (Value.ref 339), (Value.int 640 0), (Value.int 307 0), (Value.str (Str.ofString "/claim/cut.py") 641)])), (List.toArray [])⟩
noncomputable def o_342 (_P : Params) : Obj := ⟨(Value.type "tuple"), none, (Data.seq (List.toArray []) 0), (List.toArray [])⟩
noncomputable def o_343 (_P : Params) : Obj := ⟨Value.none, none, (Data.fields (List.toArray [])), (List.toArray [])⟩
noncomputable def o_344 (_P : Params) : Obj := ⟨(Value.type "tuple"), none, (Data.seq (List.toArray [(Value.str (Str.ofString "self") 646), (Value.str (Str.ofString "node") 647), (Value.str (Str.ofString "low") 648), (Value.str (Str.ofString "high") 649)]) 0), (List.toArray [])⟩
noncomputable def o_345 (_P : Params) : Obj := ⟨(Value.type "tuple"), none, (Data.seq (List.toArray []) 0), (List.toArray [])⟩
noncomputable def o_347 (_P : Params) : Obj := ⟨(Value.type "code"), none, (Data.fields (List.toArray [(Value.str (Str.ofString "domain_of") 643), (Value.str (Str.ofString "Evaluator.domain_of") 644), (Value.str (Str.ofString "/claim/cut.py") 645), (Value.int 322 0), (Value.int 2 0), (Value.int 0 0), (Value.int 0 0), (Value.int 3 0), (Value.ref 342), (Value.bool true), (Value.int 181 0), (Value.ref 343), Value.none, (Value.ref 344), (Value.ref 345), (Value.ref 346), (Value.int 650 0), (Value.int 322 0), (Value.str (Str.ofString "/claim/cut.py") 651)])), (List.toArray [])⟩
noncomputable def o_349 (_P : Params) : Obj := ⟨(Value.type "tuple"), none, (Data.seq (List.toArray []) 0), (List.toArray [])⟩
noncomputable def o_350 (_P : Params) : Obj := ⟨Value.none, none, (Data.fields (List.toArray [])), (List.toArray [])⟩
noncomputable def o_352 (_P : Params) : Obj := ⟨(Value.type "code"), none, (Data.fields (List.toArray [(Value.str (Str.ofString "fitted") 653), (Value.str (Str.ofString "Evaluator.fitted") 654), (Value.str (Str.ofString "/claim/cut.py") 655), (Value.int 328 0), (Value.int 4 0), (Value.int 0 0), (Value.int 0 0), (Value.int 3 0), (Value.ref 349), (Value.bool true), (Value.int 181 0), (Value.ref 350), Value.none, Value.none, Value.none, (Value.ref 351), (Value.int 656 0), (Value.int 328 0), (Value.str (Str.ofString "/claim/cut.py") 657)])), (List.toArray [])⟩
noncomputable def o_354 (_P : Params) : Obj := ⟨(Value.type "tuple"), none, (Data.seq (List.toArray [(Value.str (Str.ofString "scope") 659)]) 0), (List.toArray [])⟩
noncomputable def o_355 (P : Params) : Obj := ⟨(Value.type "dict"), none, (Data.dict (List.toArray [⟨(PyData.keyHash P (Str.ofString "__module__")), (Value.str (Str.ofString "__module__") 519), (Value.str (Str.ofString "fdsolve.values") 340)⟩, ⟨(PyData.keyHash P (Str.ofString "__firstlineno__")), (Value.str (Str.ofString "__firstlineno__") 523), (Value.int 183 522)⟩, ⟨(PyData.keyHash P (Str.ofString "__init__")), (Value.str (Str.ofString "__init__") 531), (Value.ref 275)⟩, ⟨(PyData.keyHash P (Str.ofString "value_of")), (Value.str (Str.ofString "value_of") 541), (Value.ref 282)⟩, ⟨(PyData.keyHash P (Str.ofString "values_of")), (Value.str (Str.ofString "values_of") 547), (Value.ref 287)⟩, ⟨(PyData.keyHash P (Str.ofString "built")), (Value.str (Str.ofString "built") 553), (Value.ref 292)⟩, ⟨(PyData.keyHash P (Str.ofString "gathered")), (Value.str (Str.ofString "gathered") 565), (Value.ref 299)⟩, ⟨(PyData.keyHash P (Str.ofString "of_one")), (Value.str (Str.ofString "of_one") 576), (Value.ref 306)⟩, ⟨(PyData.keyHash P (Str.ofString "of_two")), (Value.str (Str.ofString "of_two") 591), (Value.ref 313)⟩, ⟨(PyData.keyHash P (Str.ofString "element")), (Value.str (Str.ofString "element") 607), (Value.ref 320)⟩, ⟨(PyData.keyHash P (Str.ofString "chosen")), (Value.str (Str.ofString "chosen") 617), (Value.ref 327)⟩, ⟨(PyData.keyHash P (Str.ofString "within")), (Value.str (Str.ofString "within") 627), (Value.ref 334)⟩, ⟨(PyData.keyHash P (Str.ofString "ranges_of")), (Value.str (Str.ofString "ranges_of") 642), (Value.ref 341)⟩, ⟨(PyData.keyHash P (Str.ofString "domain_of")), (Value.str (Str.ofString "domain_of") 652), (Value.ref 348)⟩, ⟨(PyData.keyHash P (Str.ofString "fitted")), (Value.str (Str.ofString "fitted") 658), (Value.ref 353)⟩, ⟨(PyData.keyHash P (Str.ofString "__static_attributes__")), (Value.str (Str.ofString "__static_attributes__") 660), (Value.ref 354)⟩, ⟨(PyData.keyHash P (Str.ofString "__dict__")), (Value.str (Str.ofString "__dict__") 662), (Value.ref 357)⟩, ⟨(PyData.keyHash P (Str.ofString "__weakref__")), (Value.str (Str.ofString "__weakref__") 664), (Value.ref 358)⟩, ⟨(PyData.keyHash P (Str.ofString "__doc__")), (Value.str (Str.ofString "__doc__") 665), Value.none⟩]) 4), (List.toArray [])⟩
noncomputable def o_356 (_P : Params) : Obj := ⟨(Value.type "type"), none, (Data.cls ⟨(Str.ofString "Evaluator"), [(Value.type "object")], [(Value.ref 356), (Value.type "object")], 355, (Str.ofString "Evaluator"), true, [], [], false, none, false⟩), (List.toArray [none, none, (some (Value.str (Str.ofString "Evaluator") 512)), (some (Value.str (Str.ofString "Evaluator") 520)), (some (Value.builtin "object.__new__")), (some (Value.bool true))])⟩
noncomputable def o_357 (_P : Params) : Obj := ⟨(Value.type "getset_descriptor"), none, (Data.fields (List.toArray [(Value.str (Str.ofString "__dict__") 661), (Value.ref 356), (Value.builtin "function.__dict__"), (Value.builtin "function.__dict__#set")])), (List.toArray [])⟩
noncomputable def o_358 (_P : Params) : Obj := ⟨(Value.type "getset_descriptor"), none, (Data.fields (List.toArray [(Value.str (Str.ofString "__weakref__") 663), (Value.ref 356), (Value.builtin "ExceptionGroup.__weakref__"), Value.none])), (List.toArray [])⟩
noncomputable def o_361 (_P : Params) : Obj := ⟨(Value.type "tuple"), none, (Data.seq (List.toArray []) 0), (List.toArray [])⟩
noncomputable def o_362 (_P : Params) : Obj := ⟨Value.none, none, (Data.fields (List.toArray [])), (List.toArray [])⟩
noncomputable def o_364 (_P : Params) : Obj := ⟨(Value.type "code"), none, (Data.fields (List.toArray [(Value.str (Str.ofString "fitted_one") 668), (Value.str (Str.ofString "fitted_one") 669), (Value.str (Str.ofString "/claim/cut.py") 670), (Value.int 335 0), (Value.int 4 0), (Value.int 0 0), (Value.int 0 0), (Value.int 3 0), (Value.ref 361), (Value.bool true), (Value.int 181 0), (Value.ref 362), Value.none, Value.none, Value.none, (Value.ref 363), (Value.int 671 0), (Value.int 335 0), (Value.str (Str.ofString "/claim/cut.py") 672)])), (List.toArray [])⟩
noncomputable def o_366 (_P : Params) : Obj := ⟨(Value.type "tuple"), none, (Data.seq (List.toArray []) 0), (List.toArray [])⟩
noncomputable def o_367 (_P : Params) : Obj := ⟨Value.none, none, (Data.fields (List.toArray [])), (List.toArray [])⟩
noncomputable def o_369 (_P : Params) : Obj := ⟨(Value.type "code"), none, (Data.fields (List.toArray [(Value.str (Str.ofString "called") 674), (Value.str (Str.ofString "called") 675), (Value.str (Str.ofString "/claim/cut.py") 676), (Value.int 344 0), (Value.int 3 0), (Value.int 0 0), (Value.int 0 0), (Value.int 3 0), (Value.ref 366), (Value.bool true), (Value.int 181 0), (Value.ref 367), Value.none, Value.none, Value.none, (Value.ref 368), (Value.int 677 0), (Value.int 344 0), (Value.str (Str.ofString "/claim/cut.py") 678)])), (List.toArray [])⟩
noncomputable def o_371 (_P : Params) : Obj := ⟨(Value.type "tuple"), none, (Data.seq (List.toArray []) 0), (List.toArray [])⟩
noncomputable def o_372 (_P : Params) : Obj := ⟨Value.none, none, (Data.fields (List.toArray [])), (List.toArray [])⟩
noncomputable def o_373 (_P : Params) : Obj := ⟨(Value.type "tuple"), none, (Data.seq (List.toArray [(Value.str (Str.ofString "name") 683), (Value.str (Str.ofString "some") 684), (Value.str (Str.ofString "spot") 685)]) 0), (List.toArray [])⟩
noncomputable def o_374 (_P : Params) : Obj := ⟨(Value.type "tuple"), none, (Data.seq (List.toArray []) 0), (List.toArray [])⟩
noncomputable def o_376 (_P : Params) : Obj := ⟨(Value.type "code"), none, (Data.fields (List.toArray [(Value.str (Str.ofString "alone") 680), (Value.str (Str.ofString "alone") 681), (Value.str (Str.ofString "/claim/cut.py") 682), (Value.int 368 0), (Value.int 3 0), (Value.int 0 0), (Value.int 0 0), (Value.int 3 0), (Value.ref 371), (Value.bool true), (Value.int 181 0), (Value.ref 372), Value.none, (Value.ref 373), (Value.ref 374), (Value.ref 375), (Value.int 686 0), (Value.int 368 0), (Value.str (Str.ofString "/claim/cut.py") 687)])), (List.toArray [])⟩
noncomputable def o_378 (_P : Params) : Obj := ⟨(Value.type "tuple"), none, (Data.seq (List.toArray []) 0), (List.toArray [])⟩
noncomputable def o_379 (_P : Params) : Obj := ⟨Value.none, none, (Data.fields (List.toArray [])), (List.toArray [])⟩
noncomputable def o_381 (_P : Params) : Obj := ⟨(Value.type "code"), none, (Data.fields (List.toArray [(Value.str (Str.ofString "of_value") 689), (Value.str (Str.ofString "of_value") 690), (Value.str (Str.ofString "/claim/cut.py") 691), (Value.int 372 0), (Value.int 3 0), (Value.int 0 0), (Value.int 0 0), (Value.int 3 0), (Value.ref 378), (Value.bool true), (Value.int 181 0), (Value.ref 379), Value.none, Value.none, Value.none, (Value.ref 380), (Value.int 692 0), (Value.int 372 0), (Value.str (Str.ofString "/claim/cut.py") 693)])), (List.toArray [])⟩
noncomputable def o_383 (_P : Params) : Obj := ⟨(Value.type "tuple"), none, (Data.seq (List.toArray []) 0), (List.toArray [])⟩
noncomputable def o_384 (_P : Params) : Obj := ⟨Value.none, none, (Data.fields (List.toArray [])), (List.toArray [])⟩
noncomputable def o_385 (_P : Params) : Obj := ⟨(Value.type "tuple"), none, (Data.seq (List.toArray [(Value.str (Str.ofString "name") 698), (Value.str (Str.ofString "value") 699), (Value.str (Str.ofString "spot") 700), (Value.str (Str.ofString "place") 701)]) 0), (List.toArray [])⟩
noncomputable def o_386 (_P : Params) : Obj := ⟨(Value.type "tuple"), none, (Data.seq (List.toArray []) 0), (List.toArray [])⟩
noncomputable def o_388 (_P : Params) : Obj := ⟨(Value.type "code"), none, (Data.fields (List.toArray [(Value.str (Str.ofString "indexes_of") 695), (Value.str (Str.ofString "indexes_of") 696), (Value.str (Str.ofString "/claim/cut.py") 697), (Value.int 391 0), (Value.int 3 0), (Value.int 0 0), (Value.int 0 0), (Value.int 3 0), (Value.ref 383), (Value.bool true), (Value.int 181 0), (Value.ref 384), Value.none, (Value.ref 385), (Value.ref 386), (Value.ref 387), (Value.int 702 0), (Value.int 391 0), (Value.str (Str.ofString "/claim/cut.py") 703)])), (List.toArray [])⟩
noncomputable def o_390 (_P : Params) : Obj := ⟨(Value.type "tuple"), none, (Data.seq (List.toArray []) 0), (List.toArray [])⟩
noncomputable def o_391 (_P : Params) : Obj := ⟨Value.none, none, (Data.fields (List.toArray [])), (List.toArray [])⟩
noncomputable def o_393 (_P : Params) : Obj := ⟨(Value.type "code"), none, (Data.fields (List.toArray [(Value.str (Str.ofString "indexed") 705), (Value.str (Str.ofString "indexed") 706), (Value.str (Str.ofString "/claim/cut.py") 707), (Value.int 397 0), (Value.int 3 0), (Value.int 0 0), (Value.int 0 0), (Value.int 3 0), (Value.ref 390), (Value.bool true), (Value.int 181 0), (Value.ref 391), Value.none, Value.none, Value.none, (Value.ref 392), (Value.int 708 0), (Value.int 397 0), (Value.str (Str.ofString "/claim/cut.py") 709)])), (List.toArray [])⟩
noncomputable def o_395 (_P : Params) : Obj := ⟨(Value.type "tuple"), none, (Data.seq (List.toArray []) 0), (List.toArray [])⟩
noncomputable def o_396 (_P : Params) : Obj := ⟨Value.none, none, (Data.fields (List.toArray [])), (List.toArray [])⟩
noncomputable def o_397 (_P : Params) : Obj := ⟨(Value.type "tuple"), none, (Data.seq (List.toArray [(Value.str (Str.ofString "name") 714), (Value.str (Str.ofString "some") 715), (Value.str (Str.ofString "spot") 716), (Value.str (Str.ofString "found") 717), (Value.str (Str.ofString "one") 718)]) 0), (List.toArray [])⟩
noncomputable def o_398 (_P : Params) : Obj := ⟨(Value.type "tuple"), none, (Data.seq (List.toArray []) 0), (List.toArray [])⟩
noncomputable def o_400 (_P : Params) : Obj := ⟨(Value.type "code"), none, (Data.fields (List.toArray [(Value.str (Str.ofString "united") 711), (Value.str (Str.ofString "united") 712), (Value.str (Str.ofString "/claim/cut.py") 713), (Value.int 411 0), (Value.int 3 0), (Value.int 0 0), (Value.int 0 0), (Value.int 3 0), (Value.ref 395), (Value.bool true), (Value.int 181 0), (Value.ref 396), Value.none, (Value.ref 397), (Value.ref 398), (Value.ref 399), (Value.int 719 0), (Value.int 411 0), (Value.str (Str.ofString "/claim/cut.py") 720)])), (List.toArray [])⟩
noncomputable def o_402 (_P : Params) : Obj := ⟨(Value.type "tuple"), none, (Data.seq (List.toArray []) 0), (List.toArray [])⟩
noncomputable def o_403 (_P : Params) : Obj := ⟨Value.none, none, (Data.fields (List.toArray [])), (List.toArray [])⟩
noncomputable def o_404 (_P : Params) : Obj := ⟨(Value.type "tuple"), none, (Data.seq (List.toArray [(Value.str (Str.ofString "feed") 727), (Value.str (Str.ofString "wide") 728), (Value.str (Str.ofString "cells") 729), (Value.str (Str.ofString "spot") 730)]) 0), (List.toArray [])⟩
noncomputable def o_405 (_P : Params) : Obj := ⟨(Value.type "tuple"), none, (Data.seq (List.toArray []) 0), (List.toArray [])⟩
noncomputable def o_407 (_P : Params) : Obj := ⟨(Value.type "code"), none, (Data.fields (List.toArray [(Value.str (Str.ofString "_law_draw") 724), (Value.str (Str.ofString "_law_draw") 725), (Value.str (Str.ofString "/claim/cut.py") 726), (Value.int 419 0), (Value.int 2 0), (Value.int 0 0), (Value.int 0 0), (Value.int 3 0), (Value.ref 402), (Value.bool true), (Value.int 181 0), (Value.ref 403), Value.none, (Value.ref 404), (Value.ref 405), (Value.ref 406), (Value.int 731 0), (Value.int 419 0), (Value.str (Str.ofString "/claim/cut.py") 732)])), (List.toArray [])⟩
noncomputable def o_408 (_P : Params) : Obj := ⟨(Value.type "function"), none, (Data.func ⟨(Str.ofString "_law_draw"), (Str.ofString "_law_draw"), ⟨[], [⟨(Str.ofString "feed"), none, ⟨419, 14, 419, 18⟩⟩, ⟨(Str.ofString "wide"), none, ⟨419, 20, 419, 24⟩⟩], none, [], [], none, []⟩, (FuncBody.stmts [(Stmt.Assign [(Expr.Tuple [(Expr.Name (Str.ofString "cells") ⟨420, 4, 420, 9⟩), (Expr.Name (Str.ofString "spot") ⟨420, 11, 420, 15⟩)] 0 ⟨420, 4, 420, 15⟩)] (Expr.Tuple [(Expr.Subscript (Expr.Name (Str.ofString "feed") ⟨420, 19, 420, 23⟩) (Expr.Constant (Const.str (Str.ofString "cells")) 0 ⟨420, 24, 420, 31⟩) ⟨420, 19, 420, 32⟩), (Expr.Subscript (Expr.Name (Str.ofString "feed") ⟨420, 34, 420, 38⟩) (Expr.Constant (Const.str (Str.ofString "spot")) 0 ⟨420, 39, 420, 45⟩) ⟨420, 34, 420, 46⟩)] 0 ⟨420, 18, 420, 47⟩) ⟨420, 4, 420, 47⟩), (Stmt.Assign [(Expr.Subscript (Expr.Name (Str.ofString "feed") ⟨421, 4, 421, 8⟩) (Expr.Constant (Const.str (Str.ofString "spot")) 0 ⟨421, 9, 421, 15⟩) ⟨421, 4, 421, 16⟩)] (Expr.BinOp (Expr.Name (Str.ofString "spot") ⟨421, 19, 421, 23⟩) Operator.Add (Expr.Constant (Const.int 1) 0 ⟨421, 26, 421, 27⟩) ⟨421, 19, 421, 27⟩) ⟨421, 4, 421, 27⟩), (Stmt.If (Expr.Compare (Expr.Name (Str.ofString "spot") ⟨422, 7, 422, 11⟩) [CmpOp.Lt] [(Expr.Call (Expr.Name (Str.ofString "len") ⟨422, 14, 422, 17⟩) [(Expr.Name (Str.ofString "cells") ⟨422, 18, 422, 23⟩)] [] ⟨422, 14, 422, 24⟩)] ⟨422, 7, 422, 24⟩) [(Stmt.Return (some (Expr.BinOp (Expr.Call (Expr.Name (Str.ofString "int") ⟨423, 15, 423, 18⟩) [(Expr.Subscript (Expr.Name (Str.ofString "cells") ⟨423, 19, 423, 24⟩) (Expr.Name (Str.ofString "spot") ⟨423, 25, 423, 29⟩) ⟨423, 19, 423, 30⟩)] [] ⟨423, 15, 423, 31⟩) Operator.Mod (Expr.Name (Str.ofString "wide") ⟨423, 34, 423, 38⟩) ⟨423, 15, 423, 38⟩)) ⟨423, 8, 423, 38⟩)] [] ⟨422, 4, 423, 38⟩), (Stmt.Return (some (Expr.BinOp (Expr.BinOp (Expr.BinOp (Expr.BinOp (Expr.BinOp (Expr.BinOp (Expr.Constant (Const.int 3) 0 ⟨424, 12, 424, 13⟩) Operator.Mult (Expr.Name (Str.ofString "spot") ⟨424, 16, 424, 20⟩) ⟨424, 12, 424, 20⟩) Operator.Mult (Expr.Name (Str.ofString "spot") ⟨424, 23, 424, 27⟩) ⟨424, 12, 424, 27⟩) Operator.Add (Expr.BinOp (Expr.Constant (Const.int 7) 0 ⟨424, 30, 424, 31⟩) Operator.Mult (Expr.Name (Str.ofString "spot") ⟨424, 34, 424, 38⟩) ⟨424, 30, 424, 38⟩) ⟨424, 12, 424, 38⟩) Operator.Add (Expr.BinOp (Expr.Constant (Const.int 5) 0 ⟨424, 41, 424, 42⟩) Operator.Mult (Expr.Call (Expr.Name (Str.ofString "len") ⟨424, 45, 424, 48⟩) [(Expr.Name (Str.ofString "cells") ⟨424, 49, 424, 54⟩)] [] ⟨424, 45, 424, 55⟩) ⟨424, 41, 424, 55⟩) ⟨424, 12, 424, 55⟩) Operator.Mod (Expr.Constant (Const.int 97) 0 ⟨424, 59, 424, 61⟩) ⟨424, 11, 424, 61⟩) Operator.Mod (Expr.Name (Str.ofString "wide") ⟨424, 64, 424, 68⟩) ⟨424, 11, 424, 68⟩)) ⟨424, 4, 424, 68⟩)]), ⟨ScopeKind.function, [((Str.ofString "feed"), NameKind.local), ((Str.ofString "wide"), NameKind.local), ((Str.ofString "cells"), NameKind.local), ((Str.ofString "spot"), NameKind.local), ((Str.ofString "len"), NameKind.globalImplicit), ((Str.ofString "int"), NameKind.globalImplicit)], false, false, []⟩, 3, [], Value.none, Value.none, Value.none, (Value.str (Str.ofString "law_nz0031_02") 722), none, (Value.ref 407), Value.none, 0⟩), (List.toArray [])⟩
noncomputable def o_409 (_P : Params) : Obj := ⟨(Value.type "tuple"), none, (Data.seq (List.toArray []) 0), (List.toArray [])⟩
noncomputable def o_410 (_P : Params) : Obj := ⟨Value.none, none, (Data.fields (List.toArray [])), (List.toArray [])⟩
noncomputable def o_411 (_P : Params) : Obj := ⟨(Value.type "tuple"), none, (Data.seq (List.toArray [(Value.str (Str.ofString "call") 737), (Value.str (Str.ofString "fault") 738)]) 0), (List.toArray [])⟩
noncomputable def o_412 (_P : Params) : Obj := ⟨(Value.type "tuple"), none, (Data.seq (List.toArray []) 0), (List.toArray [])⟩
noncomputable def o_414 (_P : Params) : Obj := ⟨(Value.type "code"), none, (Data.fields (List.toArray [(Value.str (Str.ofString "_law_heard") 734), (Value.str (Str.ofString "_law_heard") 735), (Value.str (Str.ofString "/claim/cut.py") 736), (Value.int 425 0), (Value.int 1 0), (Value.int 0 0), (Value.int 0 0), (Value.int 3 0), (Value.ref 409), (Value.bool true), (Value.int 181 0), (Value.ref 410), Value.none, (Value.ref 411), (Value.ref 412), (Value.ref 413), (Value.int 739 0), (Value.int 425 0), (Value.str (Str.ofString "/claim/cut.py") 740)])), (List.toArray [])⟩
noncomputable def o_415 (_P : Params) : Obj := ⟨(Value.type "function"), none, (Data.func ⟨(Str.ofString "_law_heard"), (Str.ofString "_law_heard"), ⟨[], [⟨(Str.ofString "call"), none, ⟨425, 15, 425, 19⟩⟩], none, [], [], none, []⟩, (FuncBody.stmts [(Stmt.Try [(Stmt.Return (some (Expr.Call (Expr.Name (Str.ofString "call") ⟨427, 15, 427, 19⟩) [] [] ⟨427, 15, 427, 21⟩)) ⟨427, 8, 427, 21⟩)] [(ExceptHandler.ExceptHandler (some (Expr.Name (Str.ofString "EvalFault") ⟨428, 11, 428, 20⟩)) (some (Str.ofString "fault")) [(Stmt.Return (some (Expr.Tuple [(Expr.Constant (Const.str (Str.ofString "fault")) 0 ⟨429, 16, 429, 23⟩), (Expr.Attribute (Expr.Name (Str.ofString "fault") ⟨429, 25, 429, 30⟩) (Str.ofString "spot") ⟨429, 25, 429, 35⟩)] 0 ⟨429, 15, 429, 36⟩)) ⟨429, 8, 429, 36⟩)] ⟨428, 4, 429, 36⟩)] [] [] ⟨426, 4, 429, 36⟩)]), ⟨ScopeKind.function, [((Str.ofString "call"), NameKind.local), ((Str.ofString "fault"), NameKind.local), ((Str.ofString "EvalFault"), NameKind.globalImplicit)], false, false, []⟩, 3, [], Value.none, Value.none, Value.none, (Value.str (Str.ofString "law_nz0031_02") 722), none, (Value.ref 414), Value.none, 0⟩), (List.toArray [])⟩
noncomputable def o_416 (_P : Params) : Obj := ⟨(Value.type "tuple"), none, (Data.seq (List.toArray []) 0), (List.toArray [])⟩
noncomputable def o_417 (_P : Params) : Obj := ⟨Value.none, none, (Data.fields (List.toArray [])), (List.toArray [])⟩
noncomputable def o_418 (_P : Params) : Obj := ⟨(Value.type "tuple"), none, (Data.seq (List.toArray [(Value.str (Str.ofString "feed") 745), (Value.str (Str.ofString "kind") 746), (Value.str (Str.ofString "found") 747)]) 0), (List.toArray [])⟩
noncomputable def o_419 (_P : Params) : Obj := ⟨(Value.type "tuple"), none, (Data.seq (List.toArray []) 0), (List.toArray [])⟩
noncomputable def o_421 (_P : Params) : Obj := ⟨(Value.type "code"), none, (Data.fields (List.toArray [(Value.str (Str.ofString "_law_number") 742), (Value.str (Str.ofString "_law_number") 743), (Value.str (Str.ofString "/claim/cut.py") 744), (Value.int 430 0), (Value.int 1 0), (Value.int 0 0), (Value.int 0 0), (Value.int 3 0), (Value.ref 416), (Value.bool true), (Value.int 181 0), (Value.ref 417), Value.none, (Value.ref 418), (Value.ref 419), (Value.ref 420), (Value.int 748 0), (Value.int 430 0), (Value.str (Str.ofString "/claim/cut.py") 749)])), (List.toArray [])⟩
noncomputable def o_422 (_P : Params) : Obj := ⟨(Value.type "function"), none, (Data.func ⟨(Str.ofString "_law_number"), (Str.ofString "_law_number"), ⟨[], [⟨(Str.ofString "feed"), none, ⟨430, 16, 430, 20⟩⟩], none, [], [], none, []⟩, (FuncBody.stmts [(Stmt.Assign [(Expr.Name (Str.ofString "kind") ⟨431, 4, 431, 8⟩)] (Expr.Call (Expr.Name (Str.ofString "_law_draw") ⟨431, 11, 431, 20⟩) [(Expr.Name (Str.ofString "feed") ⟨431, 21, 431, 25⟩), (Expr.Constant (Const.int 4) 0 ⟨431, 27, 431, 28⟩)] [] ⟨431, 11, 431, 29⟩) ⟨431, 4, 431, 29⟩), (Stmt.If (Expr.Compare (Expr.Name (Str.ofString "kind") ⟨432, 7, 432, 11⟩) [CmpOp.Eq] [(Expr.Constant (Const.int 0) 0 ⟨432, 15, 432, 16⟩)] ⟨432, 7, 432, 16⟩) [(Stmt.Return (some (Expr.BinOp (Expr.Call (Expr.Name (Str.ofString "_law_draw") ⟨433, 15, 433, 24⟩) [(Expr.Name (Str.ofString "feed") ⟨433, 25, 433, 29⟩), (Expr.Constant (Const.int 19) 0 ⟨433, 31, 433, 33⟩)] [] ⟨433, 15, 433, 34⟩) Operator.Sub (Expr.Constant (Const.int 9) 0 ⟨433, 37, 433, 38⟩) ⟨433, 15, 433, 38⟩)) ⟨433, 8, 433, 38⟩)] [] ⟨432, 4, 433, 38⟩), (Stmt.If (Expr.Compare (Expr.Name (Str.ofString "kind") ⟨434, 7, 434, 11⟩) [CmpOp.Eq] [(Expr.Constant (Const.int 1) 0 ⟨434, 15, 434, 16⟩)] ⟨434, 7, 434, 16⟩) [(Stmt.Return (some (Expr.BinOp (Expr.Call (Expr.Name (Str.ofString "_law_draw") ⟨435, 15, 435, 24⟩) [(Expr.Name (Str.ofString "feed") ⟨435, 25, 435, 29⟩), (Expr.Constant (Const.int 2001) 0 ⟨435, 31, 435, 35⟩)] [] ⟨435, 15, 435, 36⟩) Operator.Sub (Expr.Constant (Const.int 1000) 0 ⟨435, 39, 435, 43⟩) ⟨435, 15, 435, 43⟩)) ⟨435, 8, 435, 43⟩)] [] ⟨434, 4, 435, 43⟩), (Stmt.Assign [(Expr.Name (Str.ofString "found") ⟨436, 4, 436, 9⟩)] (Expr.BinOp (Expr.BinOp (Expr.BinOp (Expr.Constant (Const.int 10) 0 ⟨436, 12, 436, 14⟩) Operator.Pow (Expr.BinOp (Expr.Constant (Const.int 1) 0 ⟨436, 19, 436, 20⟩) Operator.Add (Expr.Call (Expr.Name (Str.ofString "_law_draw") ⟨436, 23, 436, 32⟩) [(Expr.Name (Str.ofString "feed") ⟨436, 33, 436, 37⟩), (Expr.Constant (Const.int 24) 0 ⟨436, 39, 436, 41⟩)] [] ⟨436, 23, 436, 42⟩) ⟨436, 19, 436, 42⟩) ⟨436, 12, 436, 43⟩) Operator.Add (Expr.Call (Expr.Name (Str.ofString "_law_draw") ⟨436, 46, 436, 55⟩) [(Expr.Name (Str.ofString "feed") ⟨436, 56, 436, 60⟩), (Expr.Constant (Const.int 3) 0 ⟨436, 62, 436, 63⟩)] [] ⟨436, 46, 436, 64⟩) ⟨436, 12, 436, 64⟩) Operator.Sub (Expr.Constant (Const.int 1) 0 ⟨436, 67, 436, 68⟩) ⟨436, 12, 436, 68⟩) ⟨436, 4, 436, 68⟩), (Stmt.Return (some (Expr.IfExp (Expr.Compare (Expr.Call (Expr.Name (Str.ofString "_law_draw") ⟨437, 20, 437, 29⟩) [(Expr.Name (Str.ofString "feed") ⟨437, 30, 437, 34⟩), (Expr.Constant (Const.int 2) 0 ⟨437, 36, 437, 37⟩)] [] ⟨437, 20, 437, 38⟩) [CmpOp.Eq] [(Expr.Constant (Const.int 0) 0 ⟨437, 42, 437, 43⟩)] ⟨437, 20, 437, 43⟩) (Expr.Name (Str.ofString "found") ⟨437, 11, 437, 16⟩) (Expr.BinOp (Expr.Constant (Const.int 0) 0 ⟨437, 49, 437, 50⟩) Operator.Sub (Expr.Name (Str.ofString "found") ⟨437, 53, 437, 58⟩) ⟨437, 49, 437, 58⟩) ⟨437, 11, 437, 58⟩)) ⟨437, 4, 437, 58⟩)]), ⟨ScopeKind.function, [((Str.ofString "feed"), NameKind.local), ((Str.ofString "kind"), NameKind.local), ((Str.ofString "found"), NameKind.local), ((Str.ofString "_law_draw"), NameKind.globalImplicit)], false, false, []⟩, 3, [], Value.none, Value.none, Value.none, (Value.str (Str.ofString "law_nz0031_02") 722), none, (Value.ref 421), Value.none, 0⟩), (List.toArray [])⟩
noncomputable def o_423 (_P : Params) : Obj := ⟨(Value.type "tuple"), none, (Data.seq (List.toArray []) 0), (List.toArray [])⟩
noncomputable def o_424 (_P : Params) : Obj := ⟨Value.none, none, (Data.fields (List.toArray [])), (List.toArray [])⟩
noncomputable def o_425 (_P : Params) : Obj := ⟨(Value.type "tuple"), none, (Data.seq (List.toArray [(Value.str (Str.ofString "feed") 754), (Value.str (Str.ofString "sign") 755)]) 0), (List.toArray [])⟩
noncomputable def o_426 (_P : Params) : Obj := ⟨(Value.type "tuple"), none, (Data.seq (List.toArray []) 0), (List.toArray [])⟩
noncomputable def o_428 (_P : Params) : Obj := ⟨(Value.type "code"), none, (Data.fields (List.toArray [(Value.str (Str.ofString "_law_pair") 751), (Value.str (Str.ofString "_law_pair") 752), (Value.str (Str.ofString "/claim/cut.py") 753), (Value.int 438 0), (Value.int 2 0), (Value.int 0 0), (Value.int 0 0), (Value.int 3 0), (Value.ref 423), (Value.bool true), (Value.int 181 0), (Value.ref 424), Value.none, (Value.ref 425), (Value.ref 426), (Value.ref 427), (Value.int 756 0), (Value.int 438 0), (Value.str (Str.ofString "/claim/cut.py") 757)])), (List.toArray [])⟩
noncomputable def o_429 (_P : Params) : Obj := ⟨(Value.type "function"), none, (Data.func ⟨(Str.ofString "_law_pair"), (Str.ofString "_law_pair"), ⟨[], [⟨(Str.ofString "feed"), none, ⟨438, 14, 438, 18⟩⟩, ⟨(Str.ofString "sign"), none, ⟨438, 20, 438, 24⟩⟩], none, [], [], none, []⟩, (FuncBody.stmts [(Stmt.If (Expr.Compare (Expr.Name (Str.ofString "sign") ⟨439, 7, 439, 11⟩) [CmpOp.NotEq] [(Expr.Constant (Const.str (Str.ofString "^")) 0 ⟨439, 15, 439, 18⟩)] ⟨439, 7, 439, 18⟩) [(Stmt.Return (some (Expr.Tuple [(Expr.Call (Expr.Name (Str.ofString "_law_number") ⟨440, 16, 440, 27⟩) [(Expr.Name (Str.ofString "feed") ⟨440, 28, 440, 32⟩)] [] ⟨440, 16, 440, 33⟩), (Expr.Call (Expr.Name (Str.ofString "_law_number") ⟨440, 35, 440, 46⟩) [(Expr.Name (Str.ofString "feed") ⟨440, 47, 440, 51⟩)] [] ⟨440, 35, 440, 52⟩)] 0 ⟨440, 15, 440, 53⟩)) ⟨440, 8, 440, 53⟩)] [] ⟨439, 4, 440, 53⟩), (Stmt.If (Expr.Compare (Expr.Call (Expr.Name (Str.ofString "_law_draw") ⟨441, 7, 441, 16⟩) [(Expr.Name (Str.ofString "feed") ⟨441, 17, 441, 21⟩), (Expr.Constant (Const.int 3) 0 ⟨441, 23, 441, 24⟩)] [] ⟨441, 7, 441, 25⟩) [CmpOp.Eq] [(Expr.Constant (Const.int 0) 0 ⟨441, 29, 441, 30⟩)] ⟨441, 7, 441, 30⟩) [(Stmt.Return (some (Expr.Tuple [(Expr.BinOp (Expr.Call (Expr.Name (Str.ofString "_law_draw") ⟨442, 16, 442, 25⟩) [(Expr.Name (Str.ofString "feed") ⟨442, 26, 442, 30⟩), (Expr.Constant (Const.int 3) 0 ⟨442, 32, 442, 33⟩)] [] ⟨442, 16, 442, 34⟩) Operator.Sub (Expr.Constant (Const.int 1) 0 ⟨442, 37, 442, 38⟩) ⟨442, 16, 442, 38⟩), (Expr.Call (Expr.Name (Str.ofString "_law_number") ⟨442, 40, 442, 51⟩) [(Expr.Name (Str.ofString "feed") ⟨442, 52, 442, 56⟩)] [] ⟨442, 40, 442, 57⟩)] 0 ⟨442, 15, 442, 58⟩)) ⟨442, 8, 442, 58⟩)] [] ⟨441, 4, 442, 58⟩), (Stmt.Return (some (Expr.Tuple [(Expr.BinOp (Expr.Call (Expr.Name (Str.ofString "_law_draw") ⟨443, 12, 443, 21⟩) [(Expr.Name (Str.ofString "feed") ⟨443, 22, 443, 26⟩), (Expr.Constant (Const.int 23) 0 ⟨443, 28, 443, 30⟩)] [] ⟨443, 12, 443, 31⟩) Operator.Sub (Expr.Constant (Const.int 11) 0 ⟨443, 34, 443, 36⟩) ⟨443, 12, 443, 36⟩), (Expr.BinOp (Expr.Call (Expr.Name (Str.ofString "_law_draw") ⟨443, 38, 443, 47⟩) [(Expr.Name (Str.ofString "feed") ⟨443, 48, 443, 52⟩), (Expr.Constant (Const.int 16) 0 ⟨443, 54, 443, 56⟩)] [] ⟨443, 38, 443, 57⟩) Operator.Sub (Expr.Constant (Const.int 5) 0 ⟨443, 60, 443, 61⟩) ⟨443, 38, 443, 61⟩)] 0 ⟨443, 11, 443, 62⟩)) ⟨443, 4, 443, 62⟩)]), ⟨ScopeKind.function, [((Str.ofString "feed"), NameKind.local), ((Str.ofString "sign"), NameKind.local), ((Str.ofString "_law_number"), NameKind.globalImplicit), ((Str.ofString "_law_draw"), NameKind.globalImplicit)], false, false, []⟩, 3, [], Value.none, Value.none, Value.none, (Value.str (Str.ofString "law_nz0031_02") 722), none, (Value.ref 428), Value.none, 0⟩), (List.toArray [])⟩
noncomputable def o_430 (_P : Params) : Obj := ⟨(Value.type "tuple"), none, (Data.seq (List.toArray []) 0), (List.toArray [])⟩
noncomputable def o_431 (_P : Params) : Obj := ⟨Value.none, none, (Data.fields (List.toArray [])), (List.toArray [])⟩
noncomputable def o_432 (_P : Params) : Obj := ⟨(Value.type "tuple"), none, (Data.seq (List.toArray [(Value.str (Str.ofString "a") 762), (Value.str (Str.ofString "b") 763), (Value.str (Str.ofString "found") 764), (Value.str (Str.ofString "part") 765), (Value.str (Str.ofString "left") 766)]) 0), (List.toArray [])⟩
noncomputable def o_433 (_P : Params) : Obj := ⟨(Value.type "tuple"), none, (Data.seq (List.toArray []) 0), (List.toArray [])⟩
noncomputable def o_435 (_P : Params) : Obj := ⟨(Value.type "code"), none, (Data.fields (List.toArray [(Value.str (Str.ofString "_law_times") 759), (Value.str (Str.ofString "_law_times") 760), (Value.str (Str.ofString "/claim/cut.py") 761), (Value.int 444 0), (Value.int 2 0), (Value.int 0 0), (Value.int 0 0), (Value.int 3 0), (Value.ref 430), (Value.bool true), (Value.int 181 0), (Value.ref 431), Value.none, (Value.ref 432), (Value.ref 433), (Value.ref 434), (Value.int 767 0), (Value.int 444 0), (Value.str (Str.ofString "/claim/cut.py") 768)])), (List.toArray [])⟩
noncomputable def o_436 (_P : Params) : Obj := ⟨(Value.type "function"), none, (Data.func ⟨(Str.ofString "_law_times"), (Str.ofString "_law_times"), ⟨[], [⟨(Str.ofString "a"), none, ⟨444, 15, 444, 16⟩⟩, ⟨(Str.ofString "b"), none, ⟨444, 18, 444, 19⟩⟩], none, [], [], none, []⟩, (FuncBody.stmts [(Stmt.Assign [(Expr.Tuple [(Expr.Name (Str.ofString "found") ⟨445, 4, 445, 9⟩), (Expr.Name (Str.ofString "part") ⟨445, 11, 445, 15⟩), (Expr.Name (Str.ofString "left") ⟨445, 17, 445, 21⟩)] 0 ⟨445, 4, 445, 21⟩)] (Expr.Tuple [(Expr.Constant (Const.int 0) 0 ⟨445, 25, 445, 26⟩), (Expr.Call (Expr.Name (Str.ofString "abs") ⟨445, 28, 445, 31⟩) [(Expr.Name (Str.ofString "a") ⟨445, 32, 445, 33⟩)] [] ⟨445, 28, 445, 34⟩), (Expr.Call (Expr.Name (Str.ofString "abs") ⟨445, 36, 445, 39⟩) [(Expr.Name (Str.ofString "b") ⟨445, 40, 445, 41⟩)] [] ⟨445, 36, 445, 42⟩)] 0 ⟨445, 24, 445, 43⟩) ⟨445, 4, 445, 43⟩), (Stmt.While (Expr.Compare (Expr.Name (Str.ofString "left") ⟨446, 10, 446, 14⟩) [CmpOp.Gt] [(Expr.Constant (Const.int 0) 0 ⟨446, 17, 446, 18⟩)] ⟨446, 10, 446, 18⟩) [(Stmt.If (Expr.Compare (Expr.BinOp (Expr.Name (Str.ofString "left") ⟨447, 11, 447, 15⟩) Operator.Mod (Expr.Constant (Const.int 2) 0 ⟨447, 18, 447, 19⟩) ⟨447, 11, 447, 19⟩) [CmpOp.Eq] [(Expr.Constant (Const.int 1) 0 ⟨447, 23, 447, 24⟩)] ⟨447, 11, 447, 24⟩) [(Stmt.Assign [(Expr.Name (Str.ofString "found") ⟨448, 12, 448, 17⟩)] (Expr.BinOp (Expr.Name (Str.ofString "found") ⟨448, 20, 448, 25⟩) Operator.Add (Expr.Name (Str.ofString "part") ⟨448, 28, 448, 32⟩) ⟨448, 20, 448, 32⟩) ⟨448, 12, 448, 32⟩)] [] ⟨447, 8, 448, 32⟩), (Stmt.Assign [(Expr.Tuple [(Expr.Name (Str.ofString "part") ⟨449, 8, 449, 12⟩), (Expr.Name (Str.ofString "left") ⟨449, 14, 449, 18⟩)] 0 ⟨449, 8, 449, 18⟩)] (Expr.Tuple [(Expr.BinOp (Expr.Name (Str.ofString "part") ⟨449, 22, 449, 26⟩) Operator.Add (Expr.Name (Str.ofString "part") ⟨449, 29, 449, 33⟩) ⟨449, 22, 449, 33⟩), (Expr.BinOp (Expr.Name (Str.ofString "left") ⟨449, 35, 449, 39⟩) Operator.FloorDiv (Expr.Constant (Const.int 2) 0 ⟨449, 43, 449, 44⟩) ⟨449, 35, 449, 44⟩)] 0 ⟨449, 21, 449, 45⟩) ⟨449, 8, 449, 45⟩)] [] ⟨446, 4, 449, 45⟩), (Stmt.Return (some (Expr.IfExp (Expr.Compare (Expr.Compare (Expr.Name (Str.ofString "a") ⟨450, 21, 450, 22⟩) [CmpOp.Lt] [(Expr.Constant (Const.int 0) 0 ⟨450, 25, 450, 26⟩)] ⟨450, 21, 450, 26⟩) [CmpOp.Eq] [(Expr.Compare (Expr.Name (Str.ofString "b") ⟨450, 32, 450, 33⟩) [CmpOp.Lt] [(Expr.Constant (Const.int 0) 0 ⟨450, 36, 450, 37⟩)] ⟨450, 32, 450, 37⟩)] ⟨450, 20, 450, 38⟩) (Expr.Name (Str.ofString "found") ⟨450, 11, 450, 16⟩) (Expr.BinOp (Expr.Constant (Const.int 0) 0 ⟨450, 44, 450, 45⟩) Operator.Sub (Expr.Name (Str.ofString "found") ⟨450, 48, 450, 53⟩) ⟨450, 44, 450, 53⟩) ⟨450, 11, 450, 53⟩)) ⟨450, 4, 450, 53⟩)]), ⟨ScopeKind.function, [((Str.ofString "a"), NameKind.local), ((Str.ofString "b"), NameKind.local), ((Str.ofString "found"), NameKind.local), ((Str.ofString "part"), NameKind.local), ((Str.ofString "left"), NameKind.local), ((Str.ofString "abs"), NameKind.globalImplicit)], false, false, []⟩, 3, [], Value.none, Value.none, Value.none, (Value.str (Str.ofString "law_nz0031_02") 722), none, (Value.ref 435), Value.none, 0⟩), (List.toArray [])⟩
noncomputable def o_437 (_P : Params) : Obj := ⟨(Value.type "tuple"), none, (Data.seq (List.toArray []) 0), (List.toArray [])⟩
noncomputable def o_438 (_P : Params) : Obj := ⟨Value.none, none, (Data.fields (List.toArray [])), (List.toArray [])⟩
noncomputable def o_439 (_P : Params) : Obj := ⟨(Value.type "tuple"), none, (Data.seq (List.toArray [(Value.str (Str.ofString "a") 773), (Value.str (Str.ofString "b") 774), (Value.str (Str.ofString "row") 775), (Value.str (Str.ofString "left") 776), (Value.str (Str.ofString "found") 777)]) 0), (List.toArray [])⟩
noncomputable def o_440 (_P : Params) : Obj := ⟨(Value.type "tuple"), none, (Data.seq (List.toArray []) 0), (List.toArray [])⟩
noncomputable def o_442 (_P : Params) : Obj := ⟨(Value.type "code"), none, (Data.fields (List.toArray [(Value.str (Str.ofString "_law_parted") 770), (Value.str (Str.ofString "_law_parted") 771), (Value.str (Str.ofString "/claim/cut.py") 772), (Value.int 451 0), (Value.int 2 0), (Value.int 0 0), (Value.int 0 0), (Value.int 3 0), (Value.ref 437), (Value.bool true), (Value.int 181 0), (Value.ref 438), Value.none, (Value.ref 439), (Value.ref 440), (Value.ref 441), (Value.int 778 0), (Value.int 451 0), (Value.str (Str.ofString "/claim/cut.py") 779)])), (List.toArray [])⟩
noncomputable def o_443 (_P : Params) : Obj := ⟨(Value.type "function"), none, (Data.func ⟨(Str.ofString "_law_parted"), (Str.ofString "_law_parted"), ⟨[], [⟨(Str.ofString "a"), none, ⟨451, 16, 451, 17⟩⟩, ⟨(Str.ofString "b"), none, ⟨451, 19, 451, 20⟩⟩], none, [], [], none, []⟩, (FuncBody.stmts [(Stmt.Assign [(Expr.Tuple [(Expr.Name (Str.ofString "row") ⟨452, 4, 452, 7⟩), (Expr.Name (Str.ofString "left") ⟨452, 9, 452, 13⟩), (Expr.Name (Str.ofString "found") ⟨452, 15, 452, 20⟩)] 0 ⟨452, 4, 452, 20⟩)] (Expr.Tuple [(Expr.List [(Expr.Call (Expr.Name (Str.ofString "abs") ⟨452, 25, 452, 28⟩) [(Expr.Name (Str.ofString "b") ⟨452, 29, 452, 30⟩)] [] ⟨452, 25, 452, 31⟩)] ⟨452, 24, 452, 32⟩), (Expr.Call (Expr.Name (Str.ofString "abs") ⟨452, 34, 452, 37⟩) [(Expr.Name (Str.ofString "a") ⟨452, 38, 452, 39⟩)] [] ⟨452, 34, 452, 40⟩), (Expr.Constant (Const.int 0) 0 ⟨452, 42, 452, 43⟩)] 0 ⟨452, 23, 452, 44⟩) ⟨452, 4, 452, 44⟩), (Stmt.While (Expr.Compare (Expr.Subscript (Expr.Name (Str.ofString "row") ⟨453, 10, 453, 13⟩) (Expr.UnaryOp UnaryOp.USub (Expr.Constant (Const.int 1) 0 ⟨453, 15, 453, 16⟩) ⟨453, 14, 453, 16⟩) ⟨453, 10, 453, 17⟩) [CmpOp.LtE] [(Expr.Name (Str.ofString "left") ⟨453, 21, 453, 25⟩)] ⟨453, 10, 453, 25⟩) [(Stmt.Expr (Expr.Call (Expr.Attribute (Expr.Name (Str.ofString "row") ⟨454, 8, 454, 11⟩) (Str.ofString "append") ⟨454, 8, 454, 18⟩) [(Expr.BinOp (Expr.Subscript (Expr.Name (Str.ofString "row") ⟨454, 19, 454, 22⟩) (Expr.UnaryOp UnaryOp.USub (Expr.Constant (Const.int 1) 0 ⟨454, 24, 454, 25⟩) ⟨454, 23, 454, 25⟩) ⟨454, 19, 454, 26⟩) Operator.Add (Expr.Subscript (Expr.Name (Str.ofString "row") ⟨454, 29, 454, 32⟩) (Expr.UnaryOp UnaryOp.USub (Expr.Constant (Const.int 1) 0 ⟨454, 34, 454, 35⟩) ⟨454, 33, 454, 35⟩) ⟨454, 29, 454, 36⟩) ⟨454, 19, 454, 36⟩)] [] ⟨454, 8, 454, 37⟩) ⟨454, 8, 454, 37⟩)] [] ⟨453, 4, 454, 37⟩), (Stmt.While (Expr.Compare (Expr.Name (Str.ofString "row") ⟨455, 10, 455, 13⟩) [CmpOp.NotEq] [(Expr.List [] ⟨455, 17, 455, 19⟩)] ⟨455, 10, 455, 19⟩) [(Stmt.Assign [(Expr.Name (Str.ofString "found") ⟨456, 8, 456, 13⟩)] (Expr.BinOp (Expr.Name (Str.ofString "found") ⟨456, 16, 456, 21⟩) Operator.Add (Expr.Name (Str.ofString "found") ⟨456, 24, 456, 29⟩) ⟨456, 16, 456, 29⟩) ⟨456, 8, 456, 29⟩), (Stmt.If (Expr.Compare (Expr.Subscript (Expr.Name (Str.ofString "row") ⟨457, 11, 457, 14⟩) (Expr.UnaryOp UnaryOp.USub (Expr.Constant (Const.int 1) 0 ⟨457, 16, 457, 17⟩) ⟨457, 15, 457, 17⟩) ⟨457, 11, 457, 18⟩) [CmpOp.LtE] [(Expr.Name (Str.ofString "left") ⟨457, 22, 457, 26⟩)] ⟨457, 11, 457, 26⟩) [(Stmt.Assign [(Expr.Tuple [(Expr.Name (Str.ofString "left") ⟨458, 12, 458, 16⟩), (Expr.Name (Str.ofString "found") ⟨458, 18, 458, 23⟩)] 0 ⟨458, 12, 458, 23⟩)] (Expr.Tuple [(Expr.BinOp (Expr.Name (Str.ofString "left") ⟨458, 27, 458, 31⟩) Operator.Sub (Expr.Subscript (Expr.Name (Str.ofString "row") ⟨458, 34, 458, 37⟩) (Expr.UnaryOp UnaryOp.USub (Expr.Constant (Const.int 1) 0 ⟨458, 39, 458, 40⟩) ⟨458, 38, 458, 40⟩) ⟨458, 34, 458, 41⟩) ⟨458, 27, 458, 41⟩), (Expr.BinOp (Expr.Name (Str.ofString "found") ⟨458, 43, 458, 48⟩) Operator.Add (Expr.Constant (Const.int 1) 0 ⟨458, 51, 458, 52⟩) ⟨458, 43, 458, 52⟩)] 0 ⟨458, 26, 458, 53⟩) ⟨458, 12, 458, 53⟩)] [] ⟨457, 8, 458, 53⟩), (Stmt.Expr (Expr.Call (Expr.Attribute (Expr.Name (Str.ofString "row") ⟨459, 8, 459, 11⟩) (Str.ofString "pop") ⟨459, 8, 459, 15⟩) [] [] ⟨459, 8, 459, 17⟩) ⟨459, 8, 459, 17⟩)] [] ⟨455, 4, 459, 17⟩), (Stmt.Return (some (Expr.Tuple [(Expr.IfExp (Expr.Compare (Expr.Compare (Expr.Name (Str.ofString "a") ⟨460, 22, 460, 23⟩) [CmpOp.Lt] [(Expr.Constant (Const.int 0) 0 ⟨460, 26, 460, 27⟩)] ⟨460, 22, 460, 27⟩) [CmpOp.Eq] [(Expr.Compare (Expr.Name (Str.ofString "b") ⟨460, 33, 460, 34⟩) [CmpOp.Lt] [(Expr.Constant (Const.int 0) 0 ⟨460, 37, 460, 38⟩)] ⟨460, 33, 460, 38⟩)] ⟨460, 21, 460, 39⟩) (Expr.Name (Str.ofString "found") ⟨460, 12, 460, 17⟩) (Expr.BinOp (Expr.Constant (Const.int 0) 0 ⟨460, 45, 460, 46⟩) Operator.Sub (Expr.Name (Str.ofString "found") ⟨460, 49, 460, 54⟩) ⟨460, 45, 460, 54⟩) ⟨460, 12, 460, 54⟩), (Expr.IfExp (Expr.Compare (Expr.Name (Str.ofString "a") ⟨460, 68, 460, 69⟩) [CmpOp.Lt] [(Expr.Constant (Const.int 0) 0 ⟨460, 72, 460, 73⟩)] ⟨460, 68, 460, 73⟩) (Expr.BinOp (Expr.Constant (Const.int 0) 0 ⟨460, 56, 460, 57⟩) Operator.Sub (Expr.Name (Str.ofString "left") ⟨460, 60, 460, 64⟩) ⟨460, 56, 460, 64⟩) (Expr.Name (Str.ofString "left") ⟨460, 79, 460, 83⟩) ⟨460, 56, 460, 83⟩)] 0 ⟨460, 11, 460, 84⟩)) ⟨460, 4, 460, 84⟩)]), ⟨ScopeKind.function, [((Str.ofString "a"), NameKind.local), ((Str.ofString "b"), NameKind.local), ((Str.ofString "row"), NameKind.local), ((Str.ofString "left"), NameKind.local), ((Str.ofString "found"), NameKind.local), ((Str.ofString "abs"), NameKind.globalImplicit)], false, false, []⟩, 3, [], Value.none, Value.none, Value.none, (Value.str (Str.ofString "law_nz0031_02") 722), none, (Value.ref 442), Value.none, 0⟩), (List.toArray [])⟩
noncomputable def o_444 (_P : Params) : Obj := ⟨(Value.type "tuple"), none, (Data.seq (List.toArray []) 0), (List.toArray [])⟩
noncomputable def o_445 (_P : Params) : Obj := ⟨Value.none, none, (Data.fields (List.toArray [])), (List.toArray [])⟩
noncomputable def o_446 (_P : Params) : Obj := ⟨(Value.type "tuple"), none, (Data.seq (List.toArray [(Value.str (Str.ofString "a") 784), (Value.str (Str.ofString "b") 785), (Value.str (Str.ofString "found") 786), (Value.str (Str.ofString "step") 787)]) 0), (List.toArray [])⟩
noncomputable def o_447 (_P : Params) : Obj := ⟨(Value.type "tuple"), none, (Data.seq (List.toArray []) 0), (List.toArray [])⟩
noncomputable def o_449 (_P : Params) : Obj := ⟨(Value.type "code"), none, (Data.fields (List.toArray [(Value.str (Str.ofString "_law_power") 781), (Value.str (Str.ofString "_law_power") 782), (Value.str (Str.ofString "/claim/cut.py") 783), (Value.int 461 0), (Value.int 2 0), (Value.int 0 0), (Value.int 0 0), (Value.int 3 0), (Value.ref 444), (Value.bool true), (Value.int 181 0), (Value.ref 445), Value.none, (Value.ref 446), (Value.ref 447), (Value.ref 448), (Value.int 788 0), (Value.int 461 0), (Value.str (Str.ofString "/claim/cut.py") 789)])), (List.toArray [])⟩
noncomputable def o_450 (_P : Params) : Obj := ⟨(Value.type "function"), none, (Data.func ⟨(Str.ofString "_law_power"), (Str.ofString "_law_power"), ⟨[], [⟨(Str.ofString "a"), none, ⟨461, 15, 461, 16⟩⟩, ⟨(Str.ofString "b"), none, ⟨461, 18, 461, 19⟩⟩], none, [], [], none, []⟩, (FuncBody.stmts [(Stmt.If (Expr.Compare (Expr.Name (Str.ofString "a") ⟨462, 7, 462, 8⟩) [CmpOp.In] [(Expr.Tuple [(Expr.UnaryOp UnaryOp.USub (Expr.Constant (Const.int 1) 0 ⟨462, 14, 462, 15⟩) ⟨462, 13, 462, 15⟩), (Expr.Constant (Const.int 0) 0 ⟨462, 17, 462, 18⟩), (Expr.Constant (Const.int 1) 0 ⟨462, 20, 462, 21⟩)] 0 ⟨462, 12, 462, 22⟩)] ⟨462, 7, 462, 22⟩) [(Stmt.If (Expr.Compare (Expr.Name (Str.ofString "a") ⟨463, 11, 463, 12⟩) [CmpOp.Eq] [(Expr.Constant (Const.int 0) 0 ⟨463, 16, 463, 17⟩)] ⟨463, 11, 463, 17⟩) [(Stmt.Return (some (Expr.IfExp (Expr.Compare (Expr.Name (Str.ofString "b") ⟨464, 27, 464, 28⟩) [CmpOp.Lt] [(Expr.Constant (Const.int 0) 0 ⟨464, 31, 464, 32⟩)] ⟨464, 27, 464, 32⟩) (Expr.Constant Const.none 0 ⟨464, 19, 464, 23⟩) (Expr.IfExp (Expr.Compare (Expr.Name (Str.ofString "b") ⟨464, 43, 464, 44⟩) [CmpOp.Eq] [(Expr.Constant (Const.int 0) 0 ⟨464, 48, 464, 49⟩)] ⟨464, 43, 464, 49⟩) (Expr.Constant (Const.int 1) 0 ⟨464, 38, 464, 39⟩) (Expr.Constant (Const.int 0) 0 ⟨464, 55, 464, 56⟩) ⟨464, 38, 464, 56⟩) ⟨464, 19, 464, 56⟩)) ⟨464, 12, 464, 56⟩)] [] ⟨463, 8, 464, 56⟩), (Stmt.Return (some (Expr.IfExp (Expr.Compare (Expr.BinOp (Expr.Name (Str.ofString "b") ⟨465, 20, 465, 21⟩) Operator.Mod (Expr.Constant (Const.int 2) 0 ⟨465, 24, 465, 25⟩) ⟨465, 20, 465, 25⟩) [CmpOp.Eq] [(Expr.Constant (Const.int 1) 0 ⟨465, 29, 465, 30⟩)] ⟨465, 20, 465, 30⟩) (Expr.Name (Str.ofString "a") ⟨465, 15, 465, 16⟩) (Expr.Constant (Const.int 1) 0 ⟨465, 36, 465, 37⟩) ⟨465, 15, 465, 37⟩)) ⟨465, 8, 465, 37⟩)] [] ⟨462, 4, 465, 37⟩), (Stmt.If (Expr.Compare (Expr.Name (Str.ofString "b") ⟨466, 7, 466, 8⟩) [CmpOp.Lt] [(Expr.Constant (Const.int 0) 0 ⟨466, 11, 466, 12⟩)] ⟨466, 7, 466, 12⟩) [(Stmt.Return (some (Expr.Constant (Const.int 0) 0 ⟨467, 15, 467, 16⟩)) ⟨467, 8, 467, 16⟩)] [] ⟨466, 4, 467, 16⟩), (Stmt.Assign [(Expr.Name (Str.ofString "found") ⟨468, 4, 468, 9⟩)] (Expr.Constant (Const.int 1) 0 ⟨468, 12, 468, 13⟩) ⟨468, 4, 468, 13⟩), (Stmt.For (Expr.Name (Str.ofString "step") ⟨469, 8, 469, 12⟩) (Expr.Call (Expr.Name (Str.ofString "range") ⟨469, 16, 469, 21⟩) [(Expr.Name (Str.ofString "b") ⟨469, 22, 469, 23⟩)] [] ⟨469, 16, 469, 24⟩) [(Stmt.Assign [(Expr.Name (Str.ofString "found") ⟨470, 8, 470, 13⟩)] (Expr.Call (Expr.Name (Str.ofString "_law_times") ⟨470, 16, 470, 26⟩) [(Expr.Name (Str.ofString "found") ⟨470, 27, 470, 32⟩), (Expr.Name (Str.ofString "a") ⟨470, 34, 470, 35⟩)] [] ⟨470, 16, 470, 36⟩) ⟨470, 8, 470, 36⟩)] [] ⟨469, 4, 470, 36⟩), (Stmt.Return (some (Expr.Name (Str.ofString "found") ⟨471, 11, 471, 16⟩)) ⟨471, 4, 471, 16⟩)]), ⟨ScopeKind.function, [((Str.ofString "a"), NameKind.local), ((Str.ofString "b"), NameKind.local), ((Str.ofString "found"), NameKind.local), ((Str.ofString "step"), NameKind.local), ((Str.ofString "range"), NameKind.globalImplicit), ((Str.ofString "_law_times"), NameKind.globalImplicit)], false, false, []⟩, 3, [], Value.none, Value.none, Value.none, (Value.str (Str.ofString "law_nz0031_02") 722), none, (Value.ref 449), Value.none, 0⟩), (List.toArray [])⟩
noncomputable def o_451 (_P : Params) : Obj := ⟨(Value.type "tuple"), none, (Data.seq (List.toArray []) 0), (List.toArray [])⟩
noncomputable def o_452 (_P : Params) : Obj := ⟨Value.none, none, (Data.fields (List.toArray [])), (List.toArray [])⟩
noncomputable def o_453 (_P : Params) : Obj := ⟨(Value.type "tuple"), none, (Data.seq (List.toArray [(Value.str (Str.ofString "sign") 794), (Value.str (Str.ofString "a") 795), (Value.str (Str.ofString "b") 796)]) 0), (List.toArray [])⟩
noncomputable def o_454 (_P : Params) : Obj := ⟨(Value.type "tuple"), none, (Data.seq (List.toArray []) 0), (List.toArray [])⟩
noncomputable def o_456 (_P : Params) : Obj := ⟨(Value.type "code"), none, (Data.fields (List.toArray [(Value.str (Str.ofString "_law_due") 791), (Value.str (Str.ofString "_law_due") 792), (Value.str (Str.ofString "/claim/cut.py") 793), (Value.int 472 0), (Value.int 3 0), (Value.int 0 0), (Value.int 0 0), (Value.int 3 0), (Value.ref 451), (Value.bool true), (Value.int 181 0), (Value.ref 452), Value.none, (Value.ref 453), (Value.ref 454), (Value.ref 455), (Value.int 797 0), (Value.int 472 0), (Value.str (Str.ofString "/claim/cut.py") 798)])), (List.toArray [])⟩
noncomputable def o_457 (_P : Params) : Obj := ⟨(Value.type "function"), none, (Data.func ⟨(Str.ofString "_law_due"), (Str.ofString "_law_due"), ⟨[], [⟨(Str.ofString "sign"), none, ⟨472, 13, 472, 17⟩⟩, ⟨(Str.ofString "a"), none, ⟨472, 19, 472, 20⟩⟩, ⟨(Str.ofString "b"), none, ⟨472, 22, 472, 23⟩⟩], none, [], [], none, []⟩, (FuncBody.stmts [(Stmt.If (Expr.BoolOp BoolOp.Or [(Expr.Compare (Expr.Name (Str.ofString "sign") ⟨473, 7, 473, 11⟩) [CmpOp.Eq] [(Expr.Constant (Const.str (Str.ofString "+")) 0 ⟨473, 15, 473, 18⟩)] ⟨473, 7, 473, 18⟩), (Expr.Compare (Expr.Name (Str.ofString "sign") ⟨473, 22, 473, 26⟩) [CmpOp.Eq] [(Expr.Constant (Const.str (Str.ofString "-")) 0 ⟨473, 30, 473, 33⟩)] ⟨473, 22, 473, 33⟩)] ⟨473, 7, 473, 33⟩) [(Stmt.Return (some (Expr.IfExp (Expr.Compare (Expr.Name (Str.ofString "sign") ⟨474, 24, 474, 28⟩) [CmpOp.Eq] [(Expr.Constant (Const.str (Str.ofString "+")) 0 ⟨474, 32, 474, 35⟩)] ⟨474, 24, 474, 35⟩) (Expr.BinOp (Expr.Name (Str.ofString "a") ⟨474, 15, 474, 16⟩) Operator.Add (Expr.Name (Str.ofString "b") ⟨474, 19, 474, 20⟩) ⟨474, 15, 474, 20⟩) (Expr.BinOp (Expr.Name (Str.ofString "a") ⟨474, 41, 474, 42⟩) Operator.Add (Expr.BinOp (Expr.Constant (Const.int 0) 0 ⟨474, 46, 474, 47⟩) Operator.Sub (Expr.Name (Str.ofString "b") ⟨474, 50, 474, 51⟩) ⟨474, 46, 474, 51⟩) ⟨474, 41, 474, 52⟩) ⟨474, 15, 474, 52⟩)) ⟨474, 8, 474, 52⟩)] [] ⟨473, 4, 474, 52⟩), (Stmt.If (Expr.Compare (Expr.Name (Str.ofString "sign") ⟨475, 7, 475, 11⟩) [CmpOp.Eq] [(Expr.Constant (Const.str (Str.ofString "*")) 0 ⟨475, 15, 475, 18⟩)] ⟨475, 7, 475, 18⟩) [(Stmt.Return (some (Expr.Call (Expr.Name (Str.ofString "_law_times") ⟨476, 15, 476, 25⟩) [(Expr.Name (Str.ofString "a") ⟨476, 26, 476, 27⟩), (Expr.Name (Str.ofString "b") ⟨476, 29, 476, 30⟩)] [] ⟨476, 15, 476, 31⟩)) ⟨476, 8, 476, 31⟩)] [] ⟨475, 4, 476, 31⟩), (Stmt.If (Expr.Compare (Expr.Name (Str.ofString "sign") ⟨477, 7, 477, 11⟩) [CmpOp.Eq] [(Expr.Constant (Const.str (Str.ofString "^")) 0 ⟨477, 15, 477, 18⟩)] ⟨477, 7, 477, 18⟩) [(Stmt.Return (some (Expr.Call (Expr.Name (Str.ofString "_law_power") ⟨478, 15, 478, 25⟩) [(Expr.Name (Str.ofString "a") ⟨478, 26, 478, 27⟩), (Expr.Name (Str.ofString "b") ⟨478, 29, 478, 30⟩)] [] ⟨478, 15, 478, 31⟩)) ⟨478, 8, 478, 31⟩)] [] ⟨477, 4, 478, 31⟩), (Stmt.Return (some (Expr.IfExp (Expr.Compare (Expr.Name (Str.ofString "b") ⟨479, 19, 479, 20⟩) [CmpOp.Eq] [(Expr.Constant (Const.int 0) 0 ⟨479, 24, 479, 25⟩)] ⟨479, 19, 479, 25⟩) (Expr.Constant Const.none 0 ⟨479, 11, 479, 15⟩) (Expr.Subscript (Expr.Call (Expr.Name (Str.ofString "_law_parted") ⟨479, 31, 479, 42⟩) [(Expr.Name (Str.ofString "a") ⟨479, 43, 479, 44⟩), (Expr.Name (Str.ofString "b") ⟨479, 46, 479, 47⟩)] [] ⟨479, 31, 479, 48⟩) (Expr.IfExp (Expr.Compare (Expr.Name (Str.ofString "sign") ⟨479, 54, 479, 58⟩) [CmpOp.Eq] [(Expr.Constant (Const.str (Str.ofString "div")) 0 ⟨479, 62, 479, 67⟩)] ⟨479, 54, 479, 67⟩) (Expr.Constant (Const.int 0) 0 ⟨479, 49, 479, 50⟩) (Expr.Constant (Const.int 1) 0 ⟨479, 73, 479, 74⟩) ⟨479, 49, 479, 74⟩) ⟨479, 31, 479, 75⟩) ⟨479, 11, 479, 75⟩)) ⟨479, 4, 479, 75⟩)]), ⟨ScopeKind.function, [((Str.ofString "sign"), NameKind.local), ((Str.ofString "a"), NameKind.local), ((Str.ofString "b"), NameKind.local), ((Str.ofString "_law_times"), NameKind.globalImplicit), ((Str.ofString "_law_power"), NameKind.globalImplicit), ((Str.ofString "_law_parted"), NameKind.globalImplicit)], false, false, []⟩, 3, [], Value.none, Value.none, Value.none, (Value.str (Str.ofString "law_nz0031_02") 722), none, (Value.ref 456), Value.none, 0⟩), (List.toArray [])⟩
noncomputable def o_458 (_P : Params) : Obj := ⟨(Value.type "tuple"), none, (Data.seq (List.toArray []) 0), (List.toArray [])⟩
noncomputable def o_460 (_P : Params) : Obj := ⟨(Value.type "tuple"), none, (Data.seq (List.toArray [(Value.str (Str.ofString "feed") 803), (Value.str (Str.ofString "sign") 804), (Value.str (Str.ofString "a") 805), (Value.str (Str.ofString "b") 806), (Value.str (Str.ofString "late") 807), (Value.str (Str.ofString "third") 808), (Value.str (Str.ofString "inner") 809), (Value.str (Str.ofString "last") 810), (Value.str (Str.ofString "due") 811)]) 0), (List.toArray [])⟩
noncomputable def o_461 (_P : Params) : Obj := ⟨(Value.type "tuple"), none, (Data.seq (List.toArray [(Value.str (Str.ofString "a") 812), (Value.str (Str.ofString "whole") 813)]) 0), (List.toArray [])⟩
noncomputable def o_463 (_P : Params) : Obj := ⟨(Value.type "code"), none, (Data.fields (List.toArray [(Value.str (Str.ofString "_law_node_right") 800), (Value.str (Str.ofString "_law_node_right") 801), (Value.str (Str.ofString "/claim/cut.py") 802), (Value.int 480 0), (Value.int 4 0), (Value.int 0 0), (Value.int 0 0), (Value.int 3 0), (Value.ref 458), (Value.bool true), (Value.int 181 0), (Value.ref 459), Value.none, (Value.ref 460), (Value.ref 461), (Value.ref 462), (Value.int 814 0), (Value.int 480 0), (Value.str (Str.ofString "/claim/cut.py") 815)])), (List.toArray [])⟩
noncomputable def o_464 (_P : Params) : Obj := ⟨(Value.type "function"), none, (Data.func ⟨(Str.ofString "_law_node_right"), (Str.ofString "_law_node_right"), ⟨[], [⟨(Str.ofString "feed"), none, ⟨480, 20, 480, 24⟩⟩, ⟨(Str.ofString "sign"), none, ⟨480, 26, 480, 30⟩⟩, ⟨(Str.ofString "a"), none, ⟨480, 32, 480, 33⟩⟩, ⟨(Str.ofString "b"), none, ⟨480, 35, 480, 36⟩⟩], none, [], [], none, []⟩, (FuncBody.stmts [(Stmt.Assign [(Expr.Name (Str.ofString "late") ⟨481, 4, 481, 8⟩)] (Expr.Subscript (Expr.Tuple [(Expr.Constant (Const.str (Str.ofString "+")) 0 ⟨481, 12, 481, 15⟩), (Expr.Constant (Const.str (Str.ofString "-")) 0 ⟨481, 17, 481, 20⟩), (Expr.Constant (Const.str (Str.ofString "*")) 0 ⟨481, 22, 481, 25⟩), (Expr.Constant (Const.str (Str.ofString "div")) 0 ⟨481, 27, 481, 32⟩), (Expr.Constant (Const.str (Str.ofString "mod")) 0 ⟨481, 34, 481, 39⟩)] 0 ⟨481, 11, 481, 40⟩) (Expr.Call (Expr.Name (Str.ofString "_law_draw") ⟨481, 41, 481, 50⟩) [(Expr.Name (Str.ofString "feed") ⟨481, 51, 481, 55⟩), (Expr.Constant (Const.int 5) 0 ⟨481, 57, 481, 58⟩)] [] ⟨481, 41, 481, 59⟩) ⟨481, 11, 481, 60⟩) ⟨481, 4, 481, 60⟩), (Stmt.Assign [(Expr.Name (Str.ofString "third") ⟨482, 4, 482, 9⟩)] (Expr.Subscript (Expr.Tuple [(Expr.Call (Expr.Name (Str.ofString "_law_number") ⟨482, 13, 482, 24⟩) [(Expr.Name (Str.ofString "feed") ⟨482, 25, 482, 29⟩)] [] ⟨482, 13, 482, 30⟩), (Expr.Constant (Const.int 0) 0 ⟨482, 32, 482, 33⟩), (Expr.Constant (Const.int 1) 0 ⟨482, 35, 482, 36⟩), (Expr.Constant (Const.bool true) 0 ⟨482, 38, 482, 42⟩), (Expr.Constant (Const.bool false) 0 ⟨482, 44, 482, 49⟩)] 0 ⟨482, 12, 482, 50⟩) (Expr.Call (Expr.Name (Str.ofString "_law_draw") ⟨482, 51, 482, 60⟩) [(Expr.Name (Str.ofString "feed") ⟨482, 61, 482, 65⟩), (Expr.Constant (Const.int 5) 0 ⟨482, 67, 482, 68⟩)] [] ⟨482, 51, 482, 69⟩) ⟨482, 12, 482, 70⟩) ⟨482, 4, 482, 70⟩), (Stmt.Assign [(Expr.Name (Str.ofString "inner") ⟨483, 4, 483, 9⟩)] (Expr.Tuple [(Expr.Constant (Const.str (Str.ofString "bin")) 0 ⟨483, 13, 483, 18⟩), (Expr.Constant (Const.int 8) 0 ⟨483, 20, 483, 21⟩), (Expr.Name (Str.ofString "sign") ⟨483, 23, 483, 27⟩), (Expr.Tuple [(Expr.Constant (Const.str (Str.ofString "name")) 0 ⟨483, 30, 483, 36⟩), (Expr.Constant (Const.int 1) 0 ⟨483, 38, 483, 39⟩), (Expr.Constant (Const.str (Str.ofString "a")) 0 ⟨483, 41, 483, 44⟩)] 0 ⟨483, 29, 483, 45⟩), (Expr.Tuple [(Expr.Constant (Const.str (Str.ofString "int")) 0 ⟨483, 48, 483, 53⟩), (Expr.Constant (Const.int 2) 0 ⟨483, 55, 483, 56⟩), (Expr.Name (Str.ofString "b") ⟨483, 58, 483, 59⟩)] 0 ⟨483, 47, 483, 60⟩)] 0 ⟨483, 12, 483, 61⟩) ⟨483, 4, 483, 61⟩), (Stmt.Assign [(Expr.Name (Str.ofString "last") ⟨484, 4, 484, 8⟩)] (Expr.IfExp (Expr.Call (Expr.Name (Str.ofString "isinstance") ⟨484, 33, 484, 43⟩) [(Expr.Name (Str.ofString "third") ⟨484, 44, 484, 49⟩), (Expr.Name (Str.ofString "bool") ⟨484, 51, 484, 55⟩)] [] ⟨484, 33, 484, 56⟩) (Expr.Tuple [(Expr.Constant (Const.str (Str.ofString "bool")) 0 ⟨484, 12, 484, 18⟩), (Expr.Constant (Const.int 4) 0 ⟨484, 20, 484, 21⟩), (Expr.Name (Str.ofString "third") ⟨484, 23, 484, 28⟩)] 0 ⟨484, 11, 484, 29⟩) (Expr.Tuple [(Expr.Constant (Const.str (Str.ofString "int")) 0 ⟨484, 63, 484, 68⟩), (Expr.Constant (Const.int 4) 0 ⟨484, 70, 484, 71⟩), (Expr.Name (Str.ofString "third") ⟨484, 73, 484, 78⟩)] 0 ⟨484, 62, 484, 79⟩) ⟨484, 11, 484, 79⟩) ⟨484, 4, 484, 79⟩), (Stmt.Assign [(Expr.Name (Str.ofString "whole") ⟨485, 4, 485, 9⟩)] (Expr.Tuple [(Expr.Constant (Const.str (Str.ofString "un")) 0 ⟨485, 13, 485, 17⟩), (Expr.Constant (Const.int 5) 0 ⟨485, 19, 485, 20⟩), (Expr.Constant (Const.str (Str.ofString "-")) 0 ⟨485, 22, 485, 25⟩), (Expr.Tuple [(Expr.Constant (Const.str (Str.ofString "bin")) 0 ⟨485, 28, 485, 33⟩), (Expr.Constant (Const.int 3) 0 ⟨485, 35, 485, 36⟩), (Expr.Name (Str.ofString "late") ⟨485, 38, 485, 42⟩), (Expr.Name (Str.ofString "inner") ⟨485, 44, 485, 49⟩), (Expr.Name (Str.ofString "last") ⟨485, 51, 485, 55⟩)] 0 ⟨485, 27, 485, 56⟩)] 0 ⟨485, 12, 485, 57⟩) ⟨485, 4, 485, 57⟩), (Stmt.Assign [(Expr.Name (Str.ofString "due") ⟨486, 4, 486, 7⟩)] (Expr.Call (Expr.Name (Str.ofString "_law_due") ⟨486, 10, 486, 18⟩) [(Expr.Name (Str.ofString "sign") ⟨486, 19, 486, 23⟩), (Expr.Name (Str.ofString "a") ⟨486, 25, 486, 26⟩), (Expr.Name (Str.ofString "b") ⟨486, 28, 486, 29⟩)] [] ⟨486, 10, 486, 30⟩) ⟨486, 4, 486, 30⟩), (Stmt.If (Expr.Compare (Expr.Name (Str.ofString "due") ⟨487, 7, 487, 10⟩) [CmpOp.Is] [(Expr.Constant Const.none 0 ⟨487, 14, 487, 18⟩)] ⟨487, 7, 487, 18⟩) [(Stmt.Assign [(Expr.Name (Str.ofString "due") ⟨488, 8, 488, 11⟩)] (Expr.Tuple [(Expr.Constant (Const.str (Str.ofString "fault")) 0 ⟨488, 15, 488, 22⟩), (Expr.Constant (Const.int 8) 0 ⟨488, 24, 488, 25⟩)] 0 ⟨488, 14, 488, 26⟩) ⟨488, 8, 488, 26⟩)] [(Stmt.Assign [(Expr.Name (Str.ofString "due") ⟨490, 8, 490, 11⟩)] (Expr.Call (Expr.Name (Str.ofString "_law_due") ⟨490, 14, 490, 22⟩) [(Expr.Name (Str.ofString "late") ⟨490, 23, 490, 27⟩), (Expr.Name (Str.ofString "due") ⟨490, 29, 490, 32⟩), (Expr.Call (Expr.Name (Str.ofString "int") ⟨490, 34, 490, 37⟩) [(Expr.Name (Str.ofString "third") ⟨490, 38, 490, 43⟩)] [] ⟨490, 34, 490, 44⟩)] [] ⟨490, 14, 490, 45⟩) ⟨490, 8, 490, 45⟩), (Stmt.Assign [(Expr.Name (Str.ofString "due") ⟨491, 8, 491, 11⟩)] (Expr.IfExp (Expr.Compare (Expr.Name (Str.ofString "due") ⟨491, 30, 491, 33⟩) [CmpOp.Is] [(Expr.Constant Const.none 0 ⟨491, 37, 491, 41⟩)] ⟨491, 30, 491, 41⟩) (Expr.Tuple [(Expr.Constant (Const.str (Str.ofString "fault")) 0 ⟨491, 15, 491, 22⟩), (Expr.Constant (Const.int 3) 0 ⟨491, 24, 491, 25⟩)] 0 ⟨491, 14, 491, 26⟩) (Expr.BinOp (Expr.Constant (Const.int 0) 0 ⟨491, 47, 491, 48⟩) Operator.Sub (Expr.Name (Str.ofString "due") ⟨491, 51, 491, 54⟩) ⟨491, 47, 491, 54⟩) ⟨491, 14, 491, 54⟩) ⟨491, 8, 491, 54⟩)] ⟨487, 4, 491, 54⟩), (Stmt.Return (some (Expr.Compare (Expr.Call (Expr.Name (Str.ofString "_law_heard") ⟨492, 11, 492, 21⟩) [(Expr.Lambda ⟨[], [], none, [], [], none, []⟩ (Expr.Call (Expr.Attribute (Expr.Call (Expr.Name (Str.ofString "Evaluator") ⟨492, 30, 492, 39⟩) [(Expr.Dict [(some (Expr.Constant (Const.str (Str.ofString "a")) 0 ⟨492, 41, 492, 44⟩))] [(Expr.Name (Str.ofString "a") ⟨492, 46, 492, 47⟩)] ⟨492, 40, 492, 48⟩)] [] ⟨492, 30, 492, 49⟩) (Str.ofString "value_of") ⟨492, 30, 492, 58⟩) [(Expr.Name (Str.ofString "whole") ⟨492, 59, 492, 64⟩)] [] ⟨492, 30, 492, 65⟩) ⟨ScopeKind.function, [((Str.ofString "a"), NameKind.free), ((Str.ofString "whole"), NameKind.free), ((Str.ofString "Evaluator"), NameKind.globalImplicit)], false, false, []⟩ ⟨492, 22, 492, 65⟩)] [] ⟨492, 11, 492, 66⟩) [CmpOp.Eq] [(Expr.Name (Str.ofString "due") ⟨492, 70, 492, 73⟩)] ⟨492, 11, 492, 73⟩)) ⟨492, 4, 492, 73⟩)]), ⟨ScopeKind.function, [((Str.ofString "feed"), NameKind.local), ((Str.ofString "sign"), NameKind.local), ((Str.ofString "a"), NameKind.cell), ((Str.ofString "b"), NameKind.local), ((Str.ofString "late"), NameKind.local), ((Str.ofString "third"), NameKind.local), ((Str.ofString "inner"), NameKind.local), ((Str.ofString "last"), NameKind.local), ((Str.ofString "due"), NameKind.local), ((Str.ofString "whole"), NameKind.cell), ((Str.ofString "_law_draw"), NameKind.globalImplicit), ((Str.ofString "_law_number"), NameKind.globalImplicit), ((Str.ofString "isinstance"), NameKind.globalImplicit), ((Str.ofString "bool"), NameKind.globalImplicit), ((Str.ofString "_law_due"), NameKind.globalImplicit), ((Str.ofString "int"), NameKind.globalImplicit), ((Str.ofString "_law_heard"), NameKind.globalImplicit)], false, false, []⟩, 3, [], Value.none, Value.none, Value.none, (Value.str (Str.ofString "law_nz0031_02") 722), none, (Value.ref 463), Value.none, 0⟩), (List.toArray [])⟩
noncomputable def o_465 (_P : Params) : Obj := ⟨(Value.type "tuple"), none, (Data.seq (List.toArray []) 0), (List.toArray [])⟩
noncomputable def o_467 (_P : Params) : Obj := ⟨(Value.type "tuple"), none, (Data.seq (List.toArray [(Value.str (Str.ofString "script") 820), (Value.str (Str.ofString "feed") 821), (Value.str (Str.ofString "due") 822)]) 0), (List.toArray [])⟩
noncomputable def o_468 (_P : Params) : Obj := ⟨(Value.type "tuple"), none, (Data.seq (List.toArray [(Value.str (Str.ofString "a") 823), (Value.str (Str.ofString "b") 824), (Value.str (Str.ofString "lap") 825), (Value.str (Str.ofString "sign") 826)]) 0), (List.toArray [])⟩
noncomputable def o_470 (_P : Params) : Obj := ⟨(Value.type "code"), none, (Data.fields (List.toArray [(Value.str (Str.ofString "law") 817), (Value.str (Str.ofString "law") 818), (Value.str (Str.ofString "/claim/cut.py") 819), (Value.int 493 0), (Value.int 1 0), (Value.int 0 0), (Value.int 0 0), (Value.int 3 0), (Value.ref 465), (Value.bool true), (Value.int 181 0), (Value.ref 466), Value.none, (Value.ref 467), (Value.ref 468), (Value.ref 469), (Value.int 827 0), (Value.int 493 0), (Value.str (Str.ofString "/claim/cut.py") 828)])), (List.toArray [])⟩
noncomputable def o_471 (_P : Params) : Obj := ⟨(Value.type "function"), none, (Data.func ⟨(Str.ofString "law"), (Str.ofString "law"), ⟨[], [⟨(Str.ofString "script"), none, ⟨493, 8, 493, 14⟩⟩], none, [], [], none, []⟩, (FuncBody.stmts [(Stmt.Assign [(Expr.Name (Str.ofString "feed") ⟨494, 4, 494, 8⟩)] (Expr.Dict [(some (Expr.Constant (Const.str (Str.ofString "cells")) 0 ⟨494, 12, 494, 19⟩)), (some (Expr.Constant (Const.str (Str.ofString "spot")) 0 ⟨494, 40, 494, 46⟩))] [(Expr.Call (Expr.Name (Str.ofString "list") ⟨494, 21, 494, 25⟩) [(Expr.Subscript (Expr.Name (Str.ofString "script") ⟨494, 26, 494, 32⟩) (Expr.Slice none (some (Expr.Constant (Const.int 60) 0 ⟨494, 34, 494, 36⟩)) none ⟨494, 33, 494, 36⟩) ⟨494, 26, 494, 37⟩)] [] ⟨494, 21, 494, 38⟩), (Expr.Constant (Const.int 0) 0 ⟨494, 48, 494, 49⟩)] ⟨494, 11, 494, 50⟩) ⟨494, 4, 494, 50⟩), (Stmt.For (Expr.Name (Str.ofString "lap") ⟨495, 8, 495, 11⟩) (Expr.Call (Expr.Name (Str.ofString "range") ⟨495, 15, 495, 20⟩) [(Expr.Constant (Const.int 6) 0 ⟨495, 21, 495, 22⟩)] [] ⟨495, 15, 495, 23⟩) [(Stmt.Assign [(Expr.Name (Str.ofString "sign") ⟨496, 8, 496, 12⟩)] (Expr.Subscript (Expr.Tuple [(Expr.Constant (Const.str (Str.ofString "+")) 0 ⟨496, 16, 496, 19⟩), (Expr.Constant (Const.str (Str.ofString "-")) 0 ⟨496, 21, 496, 24⟩), (Expr.Constant (Const.str (Str.ofString "*")) 0 ⟨496, 26, 496, 29⟩), (Expr.Constant (Const.str (Str.ofString "div")) 0 ⟨496, 31, 496, 36⟩), (Expr.Constant (Const.str (Str.ofString "mod")) 0 ⟨496, 38, 496, 43⟩), (Expr.Constant (Const.str (Str.ofString "^")) 0 ⟨496, 45, 496, 48⟩)] 0 ⟨496, 15, 496, 49⟩) (Expr.Call (Expr.Name (Str.ofString "_law_draw") ⟨496, 50, 496, 59⟩) [(Expr.Name (Str.ofString "feed") ⟨496, 60, 496, 64⟩), (Expr.Constant (Const.int 6) 0 ⟨496, 66, 496, 67⟩)] [] ⟨496, 50, 496, 68⟩) ⟨496, 15, 496, 69⟩) ⟨496, 8, 496, 69⟩), (Stmt.Assign [(Expr.Tuple [(Expr.Name (Str.ofString "a") ⟨497, 8, 497, 9⟩), (Expr.Name (Str.ofString "b") ⟨497, 11, 497, 12⟩)] 0 ⟨497, 8, 497, 12⟩)] (Expr.Call (Expr.Name (Str.ofString "_law_pair") ⟨497, 15, 497, 24⟩) [(Expr.Name (Str.ofString "feed") ⟨497, 25, 497, 29⟩), (Expr.Name (Str.ofString "sign") ⟨497, 31, 497, 35⟩)] [] ⟨497, 15, 497, 36⟩) ⟨497, 8, 497, 36⟩), (Stmt.Assign [(Expr.Name (Str.ofString "due") ⟨498, 8, 498, 11⟩)] (Expr.Call (Expr.Name (Str.ofString "_law_due") ⟨498, 14, 498, 22⟩) [(Expr.Name (Str.ofString "sign") ⟨498, 23, 498, 27⟩), (Expr.Name (Str.ofString "a") ⟨498, 29, 498, 30⟩), (Expr.Name (Str.ofString "b") ⟨498, 32, 498, 33⟩)] [] ⟨498, 14, 498, 34⟩) ⟨498, 8, 498, 34⟩), (Stmt.If (Expr.Compare (Expr.Call (Expr.Name (Str.ofString "_law_heard") ⟨499, 11, 499, 21⟩) [(Expr.Lambda ⟨[], [], none, [], [], none, []⟩ (Expr.Call (Expr.Name (Str.ofString "reckoned") ⟨499, 30, 499, 38⟩) [(Expr.Name (Str.ofString "sign") ⟨499, 39, 499, 43⟩), (Expr.Name (Str.ofString "a") ⟨499, 45, 499, 46⟩), (Expr.Name (Str.ofString "b") ⟨499, 48, 499, 49⟩), (Expr.BinOp (Expr.Constant (Const.int 7) 0 ⟨499, 51, 499, 52⟩) Operator.Add (Expr.Name (Str.ofString "lap") ⟨499, 55, 499, 58⟩) ⟨499, 51, 499, 58⟩)] [] ⟨499, 30, 499, 59⟩) ⟨ScopeKind.function, [((Str.ofString "a"), NameKind.free), ((Str.ofString "b"), NameKind.free), ((Str.ofString "lap"), NameKind.free), ((Str.ofString "sign"), NameKind.free), ((Str.ofString "reckoned"), NameKind.globalImplicit)], false, false, []⟩ ⟨499, 22, 499, 59⟩)] [] ⟨499, 11, 499, 60⟩) [CmpOp.NotEq] [(Expr.IfExp (Expr.Compare (Expr.Name (Str.ofString "due") ⟨499, 87, 499, 90⟩) [CmpOp.Is] [(Expr.Constant Const.none 0 ⟨499, 94, 499, 98⟩)] ⟨499, 87, 499, 98⟩) (Expr.Tuple [(Expr.Constant (Const.str (Str.ofString "fault")) 0 ⟨499, 66, 499, 73⟩), (Expr.BinOp (Expr.Constant (Const.int 7) 0 ⟨499, 75, 499, 76⟩) Operator.Add (Expr.Name (Str.ofString "lap") ⟨499, 79, 499, 82⟩) ⟨499, 75, 499, 82⟩)] 0 ⟨499, 65, 499, 83⟩) (Expr.Name (Str.ofString "due") ⟨499, 104, 499, 107⟩) ⟨499, 65, 499, 107⟩)] ⟨499, 11, 499, 108⟩) [(Stmt.Return (some (Expr.Constant (Const.bool false) 0 ⟨500, 19, 500, 24⟩)) ⟨500, 12, 500, 24⟩)] [] ⟨499, 8, 500, 24⟩), (Stmt.Assign [(Expr.Name (Str.ofString "due") ⟨501, 8, 501, 11⟩)] (Expr.IfExp (Expr.Compare (Expr.Name (Str.ofString "b") ⟨501, 32, 501, 33⟩) [CmpOp.Eq] [(Expr.Constant (Const.int 0) 0 ⟨501, 37, 501, 38⟩)] ⟨501, 32, 501, 38⟩) (Expr.Tuple [(Expr.Constant (Const.str (Str.ofString "fault")) 0 ⟨501, 15, 501, 22⟩), (Expr.Name (Str.ofString "lap") ⟨501, 24, 501, 27⟩)] 0 ⟨501, 14, 501, 28⟩) (Expr.Subscript (Expr.Call (Expr.Name (Str.ofString "_law_parted") ⟨501, 44, 501, 55⟩) [(Expr.Name (Str.ofString "a") ⟨501, 56, 501, 57⟩), (Expr.Name (Str.ofString "b") ⟨501, 59, 501, 60⟩)] [] ⟨501, 44, 501, 61⟩) (Expr.Constant (Const.int 0) 0 ⟨501, 62, 501, 63⟩) ⟨501, 44, 501, 64⟩) ⟨501, 14, 501, 64⟩) ⟨501, 8, 501, 64⟩), (Stmt.If (Expr.BoolOp BoolOp.Or [(Expr.Compare (Expr.Call (Expr.Name (Str.ofString "_law_heard") ⟨502, 11, 502, 21⟩) [(Expr.Lambda ⟨[], [], none, [], [], none, []⟩ (Expr.Call (Expr.Name (Str.ofString "quotient") ⟨502, 30, 502, 38⟩) [(Expr.Name (Str.ofString "a") ⟨502, 39, 502, 40⟩), (Expr.Name (Str.ofString "b") ⟨502, 42, 502, 43⟩), (Expr.Name (Str.ofString "lap") ⟨502, 45, 502, 48⟩)] [] ⟨502, 30, 502, 49⟩) ⟨ScopeKind.function, [((Str.ofString "a"), NameKind.free), ((Str.ofString "b"), NameKind.free), ((Str.ofString "lap"), NameKind.free), ((Str.ofString "quotient"), NameKind.globalImplicit)], false, false, []⟩ ⟨502, 22, 502, 49⟩)] [] ⟨502, 11, 502, 50⟩) [CmpOp.NotEq] [(Expr.Name (Str.ofString "due") ⟨502, 54, 502, 57⟩)] ⟨502, 11, 502, 57⟩), (Expr.UnaryOp UnaryOp.Not (Expr.Call (Expr.Name (Str.ofString "_law_node_right") ⟨502, 65, 502, 80⟩) [(Expr.Name (Str.ofString "feed") ⟨502, 81, 502, 85⟩), (Expr.Name (Str.ofString "sign") ⟨502, 87, 502, 91⟩), (Expr.Name (Str.ofString "a") ⟨502, 93, 502, 94⟩), (Expr.Name (Str.ofString "b") ⟨502, 96, 502, 97⟩)] [] ⟨502, 65, 502, 98⟩) ⟨502, 61, 502, 98⟩)] ⟨502, 11, 502, 98⟩) [(Stmt.Return (some (Expr.Constant (Const.bool false) 0 ⟨503, 19, 503, 24⟩)) ⟨503, 12, 503, 24⟩)] [] ⟨502, 8, 503, 24⟩)] [] ⟨495, 4, 503, 24⟩), (Stmt.Return (some (Expr.Constant (Const.bool true) 0 ⟨504, 11, 504, 15⟩)) ⟨504, 4, 504, 15⟩)]), ⟨ScopeKind.function, [((Str.ofString "script"), NameKind.local), ((Str.ofString "feed"), NameKind.local), ((Str.ofString "due"), NameKind.local), ((Str.ofString "a"), NameKind.cell), ((Str.ofString "b"), NameKind.cell), ((Str.ofString "lap"), NameKind.cell), ((Str.ofString "sign"), NameKind.cell), ((Str.ofString "list"), NameKind.globalImplicit), ((Str.ofString "range"), NameKind.globalImplicit), ((Str.ofString "_law_draw"), NameKind.globalImplicit), ((Str.ofString "_law_pair"), NameKind.globalImplicit), ((Str.ofString "_law_due"), NameKind.globalImplicit), ((Str.ofString "_law_heard"), NameKind.globalImplicit), ((Str.ofString "_law_parted"), NameKind.globalImplicit), ((Str.ofString "_law_node_right"), NameKind.globalImplicit)], false, false, []⟩, 3, [], Value.none, Value.none, Value.none, (Value.str (Str.ofString "law_nz0031_02") 722), none, (Value.ref 470), Value.none, 0⟩), (List.toArray [])⟩
noncomputable def Kt (P : Params) : Frag := (nat_lit 0, boot_o_0 P) :: (nat_lit 1, boot_o_1 P) :: (nat_lit 2, o_2 P) :: (nat_lit 3, o_3 P) :: (nat_lit 4, boot_o_4 P) :: (nat_lit 5, boot_o_5 P) :: (nat_lit 6, boot_o_6 P) :: (nat_lit 7, boot_o_7 P) ::
  (nat_lit 8, boot_o_8 P) :: (nat_lit 9, boot_o_9 P) :: (nat_lit 10, boot_o_10 P) :: (nat_lit 11, o_11 P) :: (nat_lit 12, o_12 P) :: (nat_lit 13, o_13 P) :: (nat_lit 14, o_14 P) :: (nat_lit 15, o_15 P) ::
  (nat_lit 16, o_16 P) :: (nat_lit 17, o_17 P) :: (nat_lit 18, o_18 P) :: (nat_lit 20, o_20 P) :: (nat_lit 22, o_22 P) :: (nat_lit 23, o_23 P) :: (nat_lit 24, o_24 P) :: (nat_lit 25, o_25 P) ::
  (nat_lit 27, o_27 P) :: (nat_lit 29, o_29 P) :: (nat_lit 30, o_30 P) :: (nat_lit 31, o_31 P) :: (nat_lit 32, o_32 P) :: (nat_lit 34, o_34 P) :: (nat_lit 36, o_36 P) :: (nat_lit 37, o_37 P) ::
  (nat_lit 38, o_38 P) :: (nat_lit 39, o_39 P) :: (nat_lit 41, o_41 P) :: (nat_lit 43, o_43 P) :: (nat_lit 44, o_44 P) :: (nat_lit 45, o_45 P) :: (nat_lit 46, o_46 P) :: (nat_lit 48, o_48 P) ::
  (nat_lit 50, o_50 P) :: (nat_lit 53, o_53 P) :: (nat_lit 58, o_58 P) :: (nat_lit 59, o_59 P) :: (nat_lit 60, o_60 P) :: (nat_lit 61, o_61 P) :: (nat_lit 62, o_62 P) :: (nat_lit 64, o_64 P) ::
  (nat_lit 65, o_65 P) :: (nat_lit 66, o_66 P) :: (nat_lit 67, o_67 P) :: (nat_lit 68, o_68 P) :: (nat_lit 69, o_69 P) :: (nat_lit 71, o_71 P) :: (nat_lit 73, o_73 P) :: (nat_lit 74, o_74 P) ::
  (nat_lit 75, o_75 P) :: (nat_lit 76, o_76 P) :: (nat_lit 79, o_79 P) :: (nat_lit 82, o_82 P) :: (nat_lit 87, o_87 P) :: (nat_lit 88, o_88 P) :: (nat_lit 89, o_89 P) :: (nat_lit 90, o_90 P) ::
  (nat_lit 91, o_91 P) :: (nat_lit 93, o_93 P) :: (nat_lit 94, o_94 P) :: (nat_lit 95, o_95 P) :: (nat_lit 96, o_96 P) :: (nat_lit 97, o_97 P) :: (nat_lit 98, o_98 P) :: (nat_lit 100, o_100 P) ::
  (nat_lit 102, o_102 P) :: (nat_lit 103, o_103 P) :: (nat_lit 104, o_104 P) :: (nat_lit 107, o_107 P) :: (nat_lit 114, o_114 P) :: (nat_lit 115, o_115 P) :: (nat_lit 116, o_116 P) :: (nat_lit 119, o_119 P) ::
  (nat_lit 126, o_126 P) :: (nat_lit 127, o_127 P) :: (nat_lit 128, o_128 P) :: (nat_lit 131, o_131 P) :: (nat_lit 132, o_132 P) :: (nat_lit 133, o_133 P) :: (nat_lit 134, o_134 P) :: (nat_lit 136, o_136 P) ::
  (nat_lit 138, o_138 P) :: (nat_lit 139, o_139 P) :: (nat_lit 140, o_140 P) :: (nat_lit 141, o_141 P) :: (nat_lit 143, o_143 P) :: (nat_lit 145, o_145 P) :: (nat_lit 146, o_146 P) :: (nat_lit 147, o_147 P) ::
  (nat_lit 148, o_148 P) :: (nat_lit 150, o_150 P) :: (nat_lit 151, o_151 P) :: (nat_lit 152, o_152 P) :: (nat_lit 153, o_153 P) :: (nat_lit 154, o_154 P) :: (nat_lit 155, o_155 P) :: (nat_lit 157, o_157 P) ::
  (nat_lit 159, o_159 P) :: (nat_lit 160, o_160 P) :: (nat_lit 161, o_161 P) :: (nat_lit 162, o_162 P) :: (nat_lit 164, o_164 P) :: (nat_lit 166, o_166 P) :: (nat_lit 167, o_167 P) :: (nat_lit 168, o_168 P) ::
  (nat_lit 169, o_169 P) :: (nat_lit 171, o_171 P) :: (nat_lit 173, o_173 P) :: (nat_lit 174, o_174 P) :: (nat_lit 175, o_175 P) :: (nat_lit 176, o_176 P) :: (nat_lit 178, o_178 P) :: (nat_lit 180, o_180 P) ::
  (nat_lit 181, o_181 P) :: (nat_lit 182, o_182 P) :: (nat_lit 183, o_183 P) :: (nat_lit 185, o_185 P) :: (nat_lit 187, o_187 P) :: (nat_lit 188, o_188 P) :: (nat_lit 189, o_189 P) :: (nat_lit 190, o_190 P) ::
  (nat_lit 192, o_192 P) :: (nat_lit 194, o_194 P) :: (nat_lit 195, o_195 P) :: (nat_lit 196, o_196 P) :: (nat_lit 197, o_197 P) :: (nat_lit 199, o_199 P) :: (nat_lit 201, o_201 P) :: (nat_lit 202, o_202 P) ::
  (nat_lit 203, o_203 P) :: (nat_lit 204, o_204 P) :: (nat_lit 206, o_206 P) :: (nat_lit 207, o_207 P) :: (nat_lit 208, o_208 P) :: (nat_lit 209, o_209 P) :: (nat_lit 210, o_210 P) :: (nat_lit 211, o_211 P) ::
  (nat_lit 213, o_213 P) :: (nat_lit 214, o_214 P) :: (nat_lit 215, o_215 P) :: (nat_lit 216, o_216 P) :: (nat_lit 217, o_217 P) :: (nat_lit 218, o_218 P) :: (nat_lit 220, o_220 P) :: (nat_lit 221, o_221 P) ::
  (nat_lit 222, o_222 P) :: (nat_lit 223, o_223 P) :: (nat_lit 225, o_225 P) :: (nat_lit 227, o_227 P) :: (nat_lit 228, o_228 P) :: (nat_lit 229, o_229 P) :: (nat_lit 230, o_230 P) :: (nat_lit 232, o_232 P) ::
  (nat_lit 234, o_234 P) :: (nat_lit 235, o_235 P) :: (nat_lit 237, o_237 P) :: (nat_lit 239, o_239 P) :: (nat_lit 240, o_240 P) :: (nat_lit 241, o_241 P) :: (nat_lit 242, o_242 P) :: (nat_lit 244, o_244 P) ::
  (nat_lit 245, o_245 P) :: (nat_lit 246, o_246 P) :: (nat_lit 247, o_247 P) :: (nat_lit 249, o_249 P) :: (nat_lit 251, o_251 P) :: (nat_lit 252, o_252 P) :: (nat_lit 254, o_254 P) :: (nat_lit 256, o_256 P) ::
  (nat_lit 257, o_257 P) :: (nat_lit 258, o_258 P) :: (nat_lit 260, o_260 P) :: (nat_lit 269, o_269 P) :: (nat_lit 270, o_270 P) :: (nat_lit 271, o_271 P) :: (nat_lit 272, o_272 P) :: (nat_lit 274, o_274 P) ::
  (nat_lit 275, o_275 P) :: (nat_lit 276, o_276 P) :: (nat_lit 277, o_277 P) :: (nat_lit 278, o_278 P) :: (nat_lit 279, o_279 P) :: (nat_lit 281, o_281 P) :: (nat_lit 282, o_282 P) :: (nat_lit 283, o_283 P) ::
  (nat_lit 284, o_284 P) :: (nat_lit 286, o_286 P) :: (nat_lit 288, o_288 P) :: (nat_lit 289, o_289 P) :: (nat_lit 291, o_291 P) :: (nat_lit 293, o_293 P) :: (nat_lit 294, o_294 P) :: (nat_lit 295, o_295 P) ::
  (nat_lit 296, o_296 P) :: (nat_lit 298, o_298 P) :: (nat_lit 300, o_300 P) :: (nat_lit 301, o_301 P) :: (nat_lit 302, o_302 P) :: (nat_lit 303, o_303 P) :: (nat_lit 305, o_305 P) :: (nat_lit 306, o_306 P) ::
  (nat_lit 307, o_307 P) :: (nat_lit 308, o_308 P) :: (nat_lit 309, o_309 P) :: (nat_lit 310, o_310 P) :: (nat_lit 312, o_312 P) :: (nat_lit 313, o_313 P) :: (nat_lit 314, o_314 P) :: (nat_lit 315, o_315 P) ::
  (nat_lit 316, o_316 P) :: (nat_lit 317, o_317 P) :: (nat_lit 319, o_319 P) :: (nat_lit 321, o_321 P) :: (nat_lit 322, o_322 P) :: (nat_lit 323, o_323 P) :: (nat_lit 324, o_324 P) :: (nat_lit 326, o_326 P) ::
  (nat_lit 328, o_328 P) :: (nat_lit 329, o_329 P) :: (nat_lit 330, o_330 P) :: (nat_lit 331, o_331 P) :: (nat_lit 333, o_333 P) :: (nat_lit 335, o_335 P) :: (nat_lit 336, o_336 P) :: (nat_lit 337, o_337 P) ::
  (nat_lit 338, o_338 P) :: (nat_lit 340, o_340 P) :: (nat_lit 342, o_342 P) :: (nat_lit 343, o_343 P) :: (nat_lit 344, o_344 P) :: (nat_lit 345, o_345 P) :: (nat_lit 347, o_347 P) :: (nat_lit 349, o_349 P) ::
  (nat_lit 350, o_350 P) :: (nat_lit 352, o_352 P) :: (nat_lit 354, o_354 P) :: (nat_lit 355, o_355 P) :: (nat_lit 356, o_356 P) :: (nat_lit 357, o_357 P) :: (nat_lit 358, o_358 P) :: (nat_lit 361, o_361 P) ::
  (nat_lit 362, o_362 P) :: (nat_lit 364, o_364 P) :: (nat_lit 366, o_366 P) :: (nat_lit 367, o_367 P) :: (nat_lit 369, o_369 P) :: (nat_lit 371, o_371 P) :: (nat_lit 372, o_372 P) :: (nat_lit 373, o_373 P) ::
  (nat_lit 374, o_374 P) :: (nat_lit 376, o_376 P) :: (nat_lit 378, o_378 P) :: (nat_lit 379, o_379 P) :: (nat_lit 381, o_381 P) :: (nat_lit 383, o_383 P) :: (nat_lit 384, o_384 P) :: (nat_lit 385, o_385 P) ::
  (nat_lit 386, o_386 P) :: (nat_lit 388, o_388 P) :: (nat_lit 390, o_390 P) :: (nat_lit 391, o_391 P) :: (nat_lit 393, o_393 P) :: (nat_lit 395, o_395 P) :: (nat_lit 396, o_396 P) :: (nat_lit 397, o_397 P) ::
  (nat_lit 398, o_398 P) :: (nat_lit 400, o_400 P) :: (nat_lit 402, o_402 P) :: (nat_lit 403, o_403 P) :: (nat_lit 404, o_404 P) :: (nat_lit 405, o_405 P) :: (nat_lit 407, o_407 P) :: (nat_lit 408, o_408 P) ::
  (nat_lit 409, o_409 P) :: (nat_lit 410, o_410 P) :: (nat_lit 411, o_411 P) :: (nat_lit 412, o_412 P) :: (nat_lit 414, o_414 P) :: (nat_lit 415, o_415 P) :: (nat_lit 416, o_416 P) :: (nat_lit 417, o_417 P) ::
  (nat_lit 418, o_418 P) :: (nat_lit 419, o_419 P) :: (nat_lit 421, o_421 P) :: (nat_lit 422, o_422 P) :: (nat_lit 423, o_423 P) :: (nat_lit 424, o_424 P) :: (nat_lit 425, o_425 P) :: (nat_lit 426, o_426 P) ::
  (nat_lit 428, o_428 P) :: (nat_lit 429, o_429 P) :: (nat_lit 430, o_430 P) :: (nat_lit 431, o_431 P) :: (nat_lit 432, o_432 P) :: (nat_lit 433, o_433 P) :: (nat_lit 435, o_435 P) :: (nat_lit 436, o_436 P) ::
  (nat_lit 437, o_437 P) :: (nat_lit 438, o_438 P) :: (nat_lit 439, o_439 P) :: (nat_lit 440, o_440 P) :: (nat_lit 442, o_442 P) :: (nat_lit 443, o_443 P) :: (nat_lit 444, o_444 P) :: (nat_lit 445, o_445 P) ::
  (nat_lit 446, o_446 P) :: (nat_lit 447, o_447 P) :: (nat_lit 449, o_449 P) :: (nat_lit 450, o_450 P) :: (nat_lit 451, o_451 P) :: (nat_lit 452, o_452 P) :: (nat_lit 453, o_453 P) :: (nat_lit 454, o_454 P) ::
  (nat_lit 456, o_456 P) :: (nat_lit 457, o_457 P) :: (nat_lit 458, o_458 P) :: (nat_lit 460, o_460 P) :: (nat_lit 461, o_461 P) :: (nat_lit 463, o_463 P) :: (nat_lit 464, o_464 P) :: (nat_lit 465, o_465 P) ::
  (nat_lit 467, o_467 P) :: (nat_lit 468, o_468 P) :: (nat_lit 470, o_470 P) :: (nat_lit 471, o_471 P) :: []
def ads : List Nat := [0, 1, 2, 3, 4, 5, 6, 7, 8, 9, 10, 11, 12, 13, 14, 15, 16, 17, 18, 20, 22, 23, 24, 25, 27, 29, 30, 31, 32, 34, 36, 37, 38, 39, 41, 43, 44, 45, 46, 48, 50, 53, 58, 59, 60, 61, 62, 64, 65, 66, 67, 68, 69, 71, 73, 74, 75, 76, 79, 82, 87, 88, 89, 90, 91, 93, 94, 95, 96, 97, 98, 100, 102, 103, 104, 107, 114, 115, 116, 119, 126, 127, 128, 131, 132, 133, 134, 136, 138, 139, 140, 141, 143, 145, 146, 147, 148, 150, 151, 152, 153, 154, 155, 157, 159, 160, 161, 162, 164, 166, 167, 168, 169, 171, 173, 174, 175, 176, 178, 180, 181, 182, 183, 185, 187, 188, 189, 190, 192, 194, 195, 196, 197, 199, 201, 202, 203, 204, 206, 207, 208, 209, 210, 211, 213, 214, 215, 216, 217, 218, 220, 221, 222, 223, 225, 227, 228, 229, 230, 232, 234, 235, 237, 239, 240, 241, 242, 244, 245, 246, 247, 249, 251, 252, 254, 256, 257, 258, 260, 269, 270, 271, 272, 274, 275, 276, 277, 278, 279, 281, 282, 283, 284, 286, 288, 289, 291, 293, 294, 295, 296, 298, 300, 301, 302, 303, 305, 306, 307, 308, 309, 310, 312, 313, 314, 315, 316, 317, 319, 321, 322, 323, 324, 326, 328, 329, 330, 331, 333, 335, 336, 337, 338, 340, 342, 343, 344, 345, 347, 349, 350, 352, 354, 355, 356, 357, 358, 361, 362, 364, 366, 367, 369, 371, 372, 373, 374, 376, 378, 379, 381, 383, 384, 385, 386, 388, 390, 391, 393, 395, 396, 397, 398, 400, 402, 403, 404, 405, 407, 408, 409, 410, 411, 412, 414, 415, 416, 417, 418, 419, 421, 422, 423, 424, 425, 426, 428, 429, 430, 431, 432, 433, 435, 436, 437, 438, 439, 440, 442, 443, 444, 445, 446, 447, 449, 450, 451, 452, 453, 454, 456, 457, 458, 460, 461, 463, 464, 465, 467, 468, 470, 471]
noncomputable def K1 (P : Params) : Frag := (nat_lit 459, tabObj #[]) :: (nat_lit 466, tabObj #[]) :: Kt P
theorem K1_in {P : Params} {h : Heap} (X : (K1 P).In h) {h' : Heap} (hs : ∀ a o, a ∈ ads → h.get? a = some o → h'.get? a = some o) : (Kt P).In h' := by
  intro a o e
  have ha : a ∈ ads := by
    have hk : (Kt P).map (·.1) = ads := by kernel_rfl
    rw [← hk]
    clear X hs
    generalize Kt P = l at e
    induction l with
    | nil => cases e
    | cons q r ih =>
      rw [List.lookup_cons] at e
      cases hb : a == q.1 with
      | true => rw [List.map_cons, eq_of_beq hb]; exact .head _
      | false => rw [hb] at e; rw [List.map_cons]; exact .tail _ (ih e)
  refine hs a o ha (X a o ?_)
  have h9 : ∀ b ∈ ads, (b == 459) = false ∧ (b == 466) = false := by decide +kernel
  unfold K1
  rw [List.lookup_cons, (h9 a ha).1, List.lookup_cons, (h9 a ha).2]
  exact e

-- part Hd4
abbrev pw : Program := PySem.Challenge.pw_nz0031_02
def stAt (i : Nat) : Stmt := match pw.main.body[i]? with | some s => s | none => .Pass ⟨0, 0, 0, 0⟩
def meAt (i j : Nat) : Stmt := match stAt i with
  | .ClassDef (body := b) .. => (match b[j]? with | some s => s | none => .Pass ⟨0, 0, 0, 0⟩)
  | s => s
def dP : Stmt → Arguments
  | .FunctionDef (args := p) .. => p
  | _ => ⟨[], [], none, [], [], none, []⟩
def dB : Stmt → List Stmt
  | .FunctionDef (body := b) .. => b
  | _ => []
def dS : Stmt → Scope
  | .FunctionDef (scope := s) .. => s
  | _ => { kind := .function, names := [], isGenerator := false, isCoroutine := false }
noncomputable def ma_12 (_P : Params) : Obj := ⟨Value.none, none, (Data.fields (List.toArray [])), (List.toArray [])⟩
noncomputable def mb_3 (P : Params) : Obj := ⟨(Value.type "dict"), none, (Data.dict (List.toArray [⟨(PyData.keyHash P (Str.ofString "__name__")), (Value.str (Str.ofString "__name__") 165), (Value.str (Str.ofString "fdsolve.errors") 233)⟩, ⟨(PyData.keyHash P (Str.ofString "__doc__")), (Value.str (Str.ofString "__doc__") 166), Value.none⟩, ⟨(PyData.keyHash P (Str.ofString "__package__")), (Value.str (Str.ofString "__package__") 167), Value.none⟩, ⟨(PyData.keyHash P (Str.ofString "__loader__")), (Value.str (Str.ofString "__loader__") 168), (Value.builtin "__main__.__loader__#opaque")⟩, ⟨(PyData.keyHash P (Str.ofString "__spec__")), (Value.str (Str.ofString "__spec__") 169), Value.none⟩, ⟨(PyData.keyHash P (Str.ofString "__annotations__")), (Value.str (Str.ofString "__annotations__") 170), (Value.ref 6)⟩, ⟨(PyData.keyHash P (Str.ofString "__builtins__")), (Value.str (Str.ofString "__builtins__") 171), (Value.ref 4)⟩, ⟨(PyData.keyHash P (Str.ofString "__file__")), (Value.str (Str.ofString "__file__") 173), (Value.str (Str.ofString "/claim/cut.py") 172)⟩, ⟨(PyData.keyHash P (Str.ofString "__cached__")), (Value.str (Str.ofString "__cached__") 174), Value.none⟩, ⟨(PyData.keyHash P (Str.ofString "range_of")), (Value.str (Str.ofString "range_of") 196), (Value.ref 21)⟩, ⟨(PyData.keyHash P (Str.ofString "put_behind")), (Value.str (Str.ofString "put_behind") 205), (Value.ref 28)⟩, ⟨(PyData.keyHash P (Str.ofString "from_values")), (Value.str (Str.ofString "from_values") 214), (Value.ref 35)⟩, ⟨(PyData.keyHash P (Str.ofString "next_from")), (Value.str (Str.ofString "next_from") 224), (Value.ref 42)⟩, ⟨(PyData.keyHash P (Str.ofString "has")), (Value.str (Str.ofString "has") 232), (Value.ref 49)⟩, ⟨(PyData.keyHash P (Str.ofString "FdError")), (Value.str (Str.ofString "FdError") 272), (Value.ref 75)⟩, ⟨(PyData.keyHash P (Str.ofString "SpotFault")), (Value.str (Str.ofString "SpotFault") 307), (Value.ref 104)⟩, ⟨(PyData.keyHash P (Str.ofString "EvalFault")), (Value.str (Str.ofString "EvalFault") 323), (Value.ref 116)⟩, ⟨(PyData.keyHash P (Str.ofString "LimitFault")), (Value.str (Str.ofString "LimitFault") 339), (Value.ref 128)⟩]) 18), (List.toArray [])⟩
noncomputable def mb_12 (_P : Params) : Obj := ⟨Value.none, none, (Data.fields (List.toArray [(Value.int 2 0), (Value.int 0 0), (Value.ref 20), (Value.int 4 0), (Value.int 0 0), (Value.ref 27), (Value.int 10 0), (Value.int 0 0), (Value.ref 34), (Value.int 15 0), (Value.int 0 0), (Value.ref 41), (Value.int 20 0), (Value.int 0 0), (Value.ref 48), (Value.int 23 0), (Value.int 0 0), (Value.ref 56), (Value.int 31 0), (Value.int 0 0), (Value.ref 85), (Value.int 39 0), (Value.int 0 0), (Value.ref 112), (Value.int 41 0), (Value.int 0 0), (Value.ref 124)])), (List.toArray [])⟩
noncomputable def mb_19 (_P : Params) : Obj := ⟨Value.none, none, (Data.func ⟨(Str.ofString "range_of"), (Str.ofString "range_of"), (dP (stAt 1)), (FuncBody.stmts (dB (stAt 1))), (dS (stAt 1)), 0, [], Value.none, Value.none, Value.none, Value.none, none, Value.none, Value.none, 0⟩), (List.toArray [])⟩
noncomputable def mb_21 (_P : Params) : Obj := ⟨(Value.type "function"), none, (Data.func ⟨(Str.ofString "range_of"), (Str.ofString "range_of"), (dP (stAt 1)), (FuncBody.stmts (dB (stAt 1))), (dS (stAt 1)), 3, [], Value.none, Value.none, Value.none, (Value.str (Str.ofString "fdsolve.domains") 187), none, (Value.ref 20), Value.none, 0⟩), (List.toArray [])⟩
noncomputable def mb_26 (_P : Params) : Obj := ⟨Value.none, none, (Data.func ⟨(Str.ofString "put_behind"), (Str.ofString "put_behind"), (dP (stAt 2)), (FuncBody.stmts (dB (stAt 2))), (dS (stAt 2)), 0, [], Value.none, Value.none, Value.none, Value.none, none, Value.none, Value.none, 0⟩), (List.toArray [])⟩
noncomputable def mb_28 (_P : Params) : Obj := ⟨(Value.type "function"), none, (Data.func ⟨(Str.ofString "put_behind"), (Str.ofString "put_behind"), (dP (stAt 2)), (FuncBody.stmts (dB (stAt 2))), (dS (stAt 2)), 3, [], Value.none, Value.none, Value.none, (Value.str (Str.ofString "fdsolve.domains") 187), none, (Value.ref 27), Value.none, 0⟩), (List.toArray [])⟩
noncomputable def mb_33 (_P : Params) : Obj := ⟨Value.none, none, (Data.func ⟨(Str.ofString "from_values"), (Str.ofString "from_values"), (dP (stAt 3)), (FuncBody.stmts (dB (stAt 3))), (dS (stAt 3)), 0, [], Value.none, Value.none, Value.none, Value.none, none, Value.none, Value.none, 0⟩), (List.toArray [])⟩
noncomputable def mb_35 (_P : Params) : Obj := ⟨(Value.type "function"), none, (Data.func ⟨(Str.ofString "from_values"), (Str.ofString "from_values"), (dP (stAt 3)), (FuncBody.stmts (dB (stAt 3))), (dS (stAt 3)), 3, [], Value.none, Value.none, Value.none, (Value.str (Str.ofString "fdsolve.domains") 187), none, (Value.ref 34), Value.none, 0⟩), (List.toArray [])⟩
noncomputable def mb_40 (_P : Params) : Obj := ⟨Value.none, none, (Data.func ⟨(Str.ofString "next_from"), (Str.ofString "next_from"), (dP (stAt 4)), (FuncBody.stmts (dB (stAt 4))), (dS (stAt 4)), 0, [], Value.none, Value.none, Value.none, Value.none, none, Value.none, Value.none, 0⟩), (List.toArray [])⟩
noncomputable def mb_42 (_P : Params) : Obj := ⟨(Value.type "function"), none, (Data.func ⟨(Str.ofString "next_from"), (Str.ofString "next_from"), (dP (stAt 4)), (FuncBody.stmts (dB (stAt 4))), (dS (stAt 4)), 3, [], Value.none, Value.none, Value.none, (Value.str (Str.ofString "fdsolve.domains") 187), none, (Value.ref 41), Value.none, 0⟩), (List.toArray [])⟩
noncomputable def mb_47 (_P : Params) : Obj := ⟨Value.none, none, (Data.func ⟨(Str.ofString "has"), (Str.ofString "has"), (dP (stAt 5)), (FuncBody.stmts (dB (stAt 5))), (dS (stAt 5)), 0, [], Value.none, Value.none, Value.none, Value.none, none, Value.none, Value.none, 0⟩), (List.toArray [])⟩
noncomputable def mb_49 (_P : Params) : Obj := ⟨(Value.type "function"), none, (Data.func ⟨(Str.ofString "has"), (Str.ofString "has"), (dP (stAt 5)), (FuncBody.stmts (dB (stAt 5))), (dS (stAt 5)), 3, [], Value.none, Value.none, Value.none, (Value.str (Str.ofString "fdsolve.domains") 187), none, (Value.ref 48), Value.none, 0⟩), (List.toArray [])⟩
noncomputable def mb_51 (_P : Params) : Obj := ⟨(Value.type "builtin_function_or_method"), none, (Data.fields (List.toArray [(Value.builtin "type.__prepare__"), (Value.type "type")])), (List.toArray [])⟩
noncomputable def mb_52 (P : Params) : Obj := ⟨(Value.type "dict"), none, (Data.dict (List.toArray [⟨(PyData.keyHash P (Str.ofString "__module__")), (Value.str (Str.ofString "__module__") 242), (Value.str (Str.ofString "fdsolve.errors") 233)⟩, ⟨(PyData.keyHash P (Str.ofString "__qualname__")), (Value.str (Str.ofString "__qualname__") 244), (Value.str (Str.ofString "FdError") 243)⟩, ⟨(PyData.keyHash P (Str.ofString "__firstlineno__")), (Value.str (Str.ofString "__firstlineno__") 246), (Value.int 23 245)⟩, ⟨(PyData.keyHash P (Str.ofString "__init__")), (Value.str (Str.ofString "__init__") 255), (Value.ref 65)⟩, ⟨(PyData.keyHash P (Str.ofString "told")), (Value.str (Str.ofString "told") 262), (Value.ref 72)⟩, ⟨(PyData.keyHash P (Str.ofString "__static_attributes__")), (Value.str (Str.ofString "__static_attributes__") 264), (Value.ref 73)⟩, ⟨(PyData.keyHash P (Str.ofString "__classcell__")), (Value.str (Str.ofString "__classcell__") 265), (Value.ref 53)⟩]) 7), (List.toArray [])⟩
noncomputable def mb_54 (_P : Params) : Obj := ⟨(Value.type "tuple"), none, (Data.seq (List.toArray []) 0), (List.toArray [])⟩
noncomputable def mb_55 (_P : Params) : Obj := ⟨Value.none, none, (Data.fields (List.toArray [(Value.int 25 0), (Value.int 4 0), (Value.ref 64), (Value.int 29 0), (Value.int 4 0), (Value.ref 71)])), (List.toArray [])⟩
noncomputable def mb_56 (_P : Params) : Obj := ⟨(Value.type "code"), none, (Data.fields (List.toArray [(Value.str (Str.ofString "FdError") 237), (Value.str (Str.ofString "FdError") 238), (Value.str (Str.ofString "/claim/cut.py") 239), (Value.int 23 0), (Value.int 0 0), (Value.int 0 0), (Value.int 0 0), (Value.int 0 0), (Value.ref 54), (Value.bool false), (Value.int 181 0), (Value.ref 55), Value.none, Value.none, Value.none, Value.none, (Value.int 240 0), (Value.int 23 0), (Value.str (Str.ofString "/claim/cut.py") 241)])), (List.toArray [])⟩
noncomputable def mb_57 (_P : Params) : Obj := ⟨(Value.type "frame"), none, Data.plain, (List.toArray [(some (Value.ref 56)), (some (Value.ref 3)), (some (Value.ref 52)), none, (some (Value.str (Str.ofString "fdsolve.errors") 233)), none, (some (Value.ref 0))])⟩
noncomputable def mb_63 (_P : Params) : Obj := ⟨Value.none, none, (Data.func ⟨(Str.ofString "__init__"), (Str.ofString "FdError.__init__"), (dP (meAt 7 0)), (FuncBody.stmts (dB (meAt 7 0))), (dS (meAt 7 0)), 0, [], Value.none, Value.none, Value.none, Value.none, none, Value.none, Value.none, 0⟩), (List.toArray [])⟩
noncomputable def mb_65 (_P : Params) : Obj := ⟨(Value.type "function"), none, (Data.func ⟨(Str.ofString "__init__"), (Str.ofString "FdError.__init__"), (dP (meAt 7 0)), (FuncBody.stmts (dB (meAt 7 0))), (dS (meAt 7 0)), 3, [((Str.ofString "__class__"), 53)], Value.none, Value.none, Value.none, (Value.str (Str.ofString "fdsolve.errors") 233), none, (Value.ref 64), (Value.ref 58), 0⟩), (List.toArray [])⟩
noncomputable def mb_70 (_P : Params) : Obj := ⟨Value.none, none, (Data.func ⟨(Str.ofString "told"), (Str.ofString "FdError.told"), (dP (meAt 7 1)), (FuncBody.stmts (dB (meAt 7 1))), (dS (meAt 7 1)), 0, [], Value.none, Value.none, Value.none, Value.none, none, Value.none, Value.none, 0⟩), (List.toArray [])⟩
noncomputable def mb_72 (_P : Params) : Obj := ⟨(Value.type "function"), none, (Data.func ⟨(Str.ofString "told"), (Str.ofString "FdError.told"), (dP (meAt 7 1)), (FuncBody.stmts (dB (meAt 7 1))), (dS (meAt 7 1)), 3, [], Value.none, Value.none, Value.none, (Value.str (Str.ofString "fdsolve.errors") 233), none, (Value.ref 71), Value.none, 0⟩), (List.toArray [])⟩
noncomputable def mb_77 (_P : Params) : Obj := ⟨(Value.type "super"), none, (Data.fields (List.toArray [(Value.ref 75), (Value.ref 75), (Value.ref 75)])), (List.toArray [])⟩
noncomputable def mb_78 (_P : Params) : Obj := ⟨(Value.type "builtin_function_or_method"), none, (Data.fields (List.toArray [(Value.builtin "object.__init_subclass__"), (Value.ref 75)])), (List.toArray [])⟩
noncomputable def mb_80 (_P : Params) : Obj := ⟨(Value.type "builtin_function_or_method"), none, (Data.fields (List.toArray [(Value.builtin "type.__prepare__"), (Value.type "type")])), (List.toArray [])⟩
noncomputable def mb_81 (P : Params) : Obj := ⟨(Value.type "dict"), none, (Data.dict (List.toArray [⟨(PyData.keyHash P (Str.ofString "__module__")), (Value.str (Str.ofString "__module__") 280), (Value.str (Str.ofString "fdsolve.errors") 233)⟩, ⟨(PyData.keyHash P (Str.ofString "__qualname__")), (Value.str (Str.ofString "__qualname__") 282), (Value.str (Str.ofString "SpotFault") 281)⟩, ⟨(PyData.keyHash P (Str.ofString "__firstlineno__")), (Value.str (Str.ofString "__firstlineno__") 284), (Value.int 31 283)⟩, ⟨(PyData.keyHash P (Str.ofString "__init__")), (Value.str (Str.ofString "__init__") 294), (Value.ref 94)⟩, ⟨(PyData.keyHash P (Str.ofString "told")), (Value.str (Str.ofString "told") 301), (Value.ref 101)⟩, ⟨(PyData.keyHash P (Str.ofString "__static_attributes__")), (Value.str (Str.ofString "__static_attributes__") 303), (Value.ref 102)⟩, ⟨(PyData.keyHash P (Str.ofString "__classcell__")), (Value.str (Str.ofString "__classcell__") 304), (Value.ref 82)⟩]) 7), (List.toArray [])⟩
noncomputable def mb_83 (_P : Params) : Obj := ⟨(Value.type "tuple"), none, (Data.seq (List.toArray []) 0), (List.toArray [])⟩
noncomputable def mb_84 (_P : Params) : Obj := ⟨Value.none, none, (Data.fields (List.toArray [(Value.int 33 0), (Value.int 4 0), (Value.ref 93), (Value.int 37 0), (Value.int 4 0), (Value.ref 100)])), (List.toArray [])⟩
noncomputable def mb_85 (_P : Params) : Obj := ⟨(Value.type "code"), none, (Data.fields (List.toArray [(Value.str (Str.ofString "SpotFault") 275), (Value.str (Str.ofString "SpotFault") 276), (Value.str (Str.ofString "/claim/cut.py") 277), (Value.int 31 0), (Value.int 0 0), (Value.int 0 0), (Value.int 0 0), (Value.int 0 0), (Value.ref 83), (Value.bool false), (Value.int 181 0), (Value.ref 84), Value.none, Value.none, Value.none, Value.none, (Value.int 278 0), (Value.int 31 0), (Value.str (Str.ofString "/claim/cut.py") 279)])), (List.toArray [])⟩
noncomputable def mb_86 (_P : Params) : Obj := ⟨(Value.type "frame"), none, Data.plain, (List.toArray [(some (Value.ref 85)), (some (Value.ref 3)), (some (Value.ref 81)), none, (some (Value.str (Str.ofString "fdsolve.errors") 233)), none, (some (Value.ref 0))])⟩
noncomputable def mb_92 (_P : Params) : Obj := ⟨Value.none, none, (Data.func ⟨(Str.ofString "__init__"), (Str.ofString "SpotFault.__init__"), (dP (meAt 8 0)), (FuncBody.stmts (dB (meAt 8 0))), (dS (meAt 8 0)), 0, [], Value.none, Value.none, Value.none, Value.none, none, Value.none, Value.none, 0⟩), (List.toArray [])⟩
noncomputable def mb_94 (_P : Params) : Obj := ⟨(Value.type "function"), none, (Data.func ⟨(Str.ofString "__init__"), (Str.ofString "SpotFault.__init__"), (dP (meAt 8 0)), (FuncBody.stmts (dB (meAt 8 0))), (dS (meAt 8 0)), 3, [((Str.ofString "__class__"), 82)], Value.none, Value.none, Value.none, (Value.str (Str.ofString "fdsolve.errors") 233), none, (Value.ref 93), (Value.ref 87), 0⟩), (List.toArray [])⟩
noncomputable def mb_99 (_P : Params) : Obj := ⟨Value.none, none, (Data.func ⟨(Str.ofString "told"), (Str.ofString "SpotFault.told"), (dP (meAt 8 1)), (FuncBody.stmts (dB (meAt 8 1))), (dS (meAt 8 1)), 0, [], Value.none, Value.none, Value.none, Value.none, none, Value.none, Value.none, 0⟩), (List.toArray [])⟩
noncomputable def mb_101 (_P : Params) : Obj := ⟨(Value.type "function"), none, (Data.func ⟨(Str.ofString "told"), (Str.ofString "SpotFault.told"), (dP (meAt 8 1)), (FuncBody.stmts (dB (meAt 8 1))), (dS (meAt 8 1)), 3, [], Value.none, Value.none, Value.none, (Value.str (Str.ofString "fdsolve.errors") 233), none, (Value.ref 100), Value.none, 0⟩), (List.toArray [])⟩
noncomputable def mb_105 (_P : Params) : Obj := ⟨(Value.type "super"), none, (Data.fields (List.toArray [(Value.ref 104), (Value.ref 104), (Value.ref 104)])), (List.toArray [])⟩
noncomputable def mb_106 (_P : Params) : Obj := ⟨(Value.type "builtin_function_or_method"), none, (Data.fields (List.toArray [(Value.builtin "object.__init_subclass__"), (Value.ref 104)])), (List.toArray [])⟩
noncomputable def mb_108 (_P : Params) : Obj := ⟨(Value.type "builtin_function_or_method"), none, (Data.fields (List.toArray [(Value.builtin "type.__prepare__"), (Value.type "type")])), (List.toArray [])⟩
noncomputable def mb_109 (P : Params) : Obj := ⟨(Value.type "dict"), none, (Data.dict (List.toArray [⟨(PyData.keyHash P (Str.ofString "__module__")), (Value.str (Str.ofString "__module__") 315), (Value.str (Str.ofString "fdsolve.errors") 233)⟩, ⟨(PyData.keyHash P (Str.ofString "__qualname__")), (Value.str (Str.ofString "__qualname__") 317), (Value.str (Str.ofString "EvalFault") 316)⟩, ⟨(PyData.keyHash P (Str.ofString "__firstlineno__")), (Value.str (Str.ofString "__firstlineno__") 319), (Value.int 39 318)⟩, ⟨(PyData.keyHash P (Str.ofString "__static_attributes__")), (Value.str (Str.ofString "__static_attributes__") 320), (Value.ref 114)⟩]) 4), (List.toArray [])⟩
noncomputable def mb_110 (_P : Params) : Obj := ⟨(Value.type "tuple"), none, (Data.seq (List.toArray []) 0), (List.toArray [])⟩
noncomputable def mb_111 (_P : Params) : Obj := ⟨Value.none, none, (Data.fields (List.toArray [])), (List.toArray [])⟩
noncomputable def mb_112 (_P : Params) : Obj := ⟨(Value.type "code"), none, (Data.fields (List.toArray [(Value.str (Str.ofString "EvalFault") 310), (Value.str (Str.ofString "EvalFault") 311), (Value.str (Str.ofString "/claim/cut.py") 312), (Value.int 39 0), (Value.int 0 0), (Value.int 0 0), (Value.int 0 0), (Value.int 0 0), (Value.ref 110), (Value.bool false), (Value.int 181 0), (Value.ref 111), Value.none, Value.none, Value.none, Value.none, (Value.int 313 0), (Value.int 39 0), (Value.str (Str.ofString "/claim/cut.py") 314)])), (List.toArray [])⟩
noncomputable def mb_113 (_P : Params) : Obj := ⟨(Value.type "frame"), none, Data.plain, (List.toArray [(some (Value.ref 112)), (some (Value.ref 3)), (some (Value.ref 109)), none, (some (Value.str (Str.ofString "fdsolve.errors") 233)), none, (some (Value.ref 0))])⟩
noncomputable def mb_117 (_P : Params) : Obj := ⟨(Value.type "super"), none, (Data.fields (List.toArray [(Value.ref 116), (Value.ref 116), (Value.ref 116)])), (List.toArray [])⟩
noncomputable def mb_118 (_P : Params) : Obj := ⟨(Value.type "builtin_function_or_method"), none, (Data.fields (List.toArray [(Value.builtin "object.__init_subclass__"), (Value.ref 116)])), (List.toArray [])⟩
noncomputable def mb_120 (_P : Params) : Obj := ⟨(Value.type "builtin_function_or_method"), none, (Data.fields (List.toArray [(Value.builtin "type.__prepare__"), (Value.type "type")])), (List.toArray [])⟩
noncomputable def mb_121 (P : Params) : Obj := ⟨(Value.type "dict"), none, (Data.dict (List.toArray [⟨(PyData.keyHash P (Str.ofString "__module__")), (Value.str (Str.ofString "__module__") 331), (Value.str (Str.ofString "fdsolve.errors") 233)⟩, ⟨(PyData.keyHash P (Str.ofString "__qualname__")), (Value.str (Str.ofString "__qualname__") 333), (Value.str (Str.ofString "LimitFault") 332)⟩, ⟨(PyData.keyHash P (Str.ofString "__firstlineno__")), (Value.str (Str.ofString "__firstlineno__") 335), (Value.int 41 334)⟩, ⟨(PyData.keyHash P (Str.ofString "__static_attributes__")), (Value.str (Str.ofString "__static_attributes__") 336), (Value.ref 126)⟩]) 4), (List.toArray [])⟩
noncomputable def mb_122 (_P : Params) : Obj := ⟨(Value.type "tuple"), none, (Data.seq (List.toArray []) 0), (List.toArray [])⟩
noncomputable def mb_123 (_P : Params) : Obj := ⟨Value.none, none, (Data.fields (List.toArray [])), (List.toArray [])⟩
noncomputable def mb_124 (_P : Params) : Obj := ⟨(Value.type "code"), none, (Data.fields (List.toArray [(Value.str (Str.ofString "LimitFault") 326), (Value.str (Str.ofString "LimitFault") 327), (Value.str (Str.ofString "/claim/cut.py") 328), (Value.int 41 0), (Value.int 0 0), (Value.int 0 0), (Value.int 0 0), (Value.int 0 0), (Value.ref 122), (Value.bool false), (Value.int 181 0), (Value.ref 123), Value.none, Value.none, Value.none, Value.none, (Value.int 329 0), (Value.int 41 0), (Value.str (Str.ofString "/claim/cut.py") 330)])), (List.toArray [])⟩
noncomputable def mb_125 (_P : Params) : Obj := ⟨(Value.type "frame"), none, Data.plain, (List.toArray [(some (Value.ref 124)), (some (Value.ref 3)), (some (Value.ref 121)), none, (some (Value.str (Str.ofString "fdsolve.errors") 233)), none, (some (Value.ref 0))])⟩
noncomputable def mb_129 (_P : Params) : Obj := ⟨(Value.type "super"), none, (Data.fields (List.toArray [(Value.ref 128), (Value.ref 128), (Value.ref 128)])), (List.toArray [])⟩
noncomputable def mb_130 (_P : Params) : Obj := ⟨(Value.type "builtin_function_or_method"), none, (Data.fields (List.toArray [(Value.builtin "object.__init_subclass__"), (Value.ref 128)])), (List.toArray [])⟩
noncomputable def mc_3 (P : Params) : Obj := ⟨(Value.type "dict"), none, (Data.dict (List.toArray [⟨(PyData.keyHash P (Str.ofString "__name__")), (Value.str (Str.ofString "__name__") 165), (Value.str (Str.ofString "fdsolve.values") 340)⟩, ⟨(PyData.keyHash P (Str.ofString "__doc__")), (Value.str (Str.ofString "__doc__") 166), Value.none⟩, ⟨(PyData.keyHash P (Str.ofString "__package__")), (Value.str (Str.ofString "__package__") 167), Value.none⟩, ⟨(PyData.keyHash P (Str.ofString "__loader__")), (Value.str (Str.ofString "__loader__") 168), (Value.builtin "__main__.__loader__#opaque")⟩, ⟨(PyData.keyHash P (Str.ofString "__spec__")), (Value.str (Str.ofString "__spec__") 169), Value.none⟩, ⟨(PyData.keyHash P (Str.ofString "__annotations__")), (Value.str (Str.ofString "__annotations__") 170), (Value.ref 6)⟩, ⟨(PyData.keyHash P (Str.ofString "__builtins__")), (Value.str (Str.ofString "__builtins__") 171), (Value.ref 4)⟩, ⟨(PyData.keyHash P (Str.ofString "__file__")), (Value.str (Str.ofString "__file__") 173), (Value.str (Str.ofString "/claim/cut.py") 172)⟩, ⟨(PyData.keyHash P (Str.ofString "__cached__")), (Value.str (Str.ofString "__cached__") 174), Value.none⟩, ⟨(PyData.keyHash P (Str.ofString "range_of")), (Value.str (Str.ofString "range_of") 196), (Value.ref 21)⟩, ⟨(PyData.keyHash P (Str.ofString "put_behind")), (Value.str (Str.ofString "put_behind") 205), (Value.ref 28)⟩, ⟨(PyData.keyHash P (Str.ofString "from_values")), (Value.str (Str.ofString "from_values") 214), (Value.ref 35)⟩, ⟨(PyData.keyHash P (Str.ofString "next_from")), (Value.str (Str.ofString "next_from") 224), (Value.ref 42)⟩, ⟨(PyData.keyHash P (Str.ofString "has")), (Value.str (Str.ofString "has") 232), (Value.ref 49)⟩, ⟨(PyData.keyHash P (Str.ofString "FdError")), (Value.str (Str.ofString "FdError") 272), (Value.ref 75)⟩, ⟨(PyData.keyHash P (Str.ofString "SpotFault")), (Value.str (Str.ofString "SpotFault") 307), (Value.ref 104)⟩, ⟨(PyData.keyHash P (Str.ofString "EvalFault")), (Value.str (Str.ofString "EvalFault") 323), (Value.ref 116)⟩, ⟨(PyData.keyHash P (Str.ofString "LimitFault")), (Value.str (Str.ofString "LimitFault") 339), (Value.ref 128)⟩, ⟨(PyData.keyHash P (Str.ofString "MOST_VALUES")), (Value.str (Str.ofString "MOST_VALUES") 343), (Value.int 100000 342)⟩, ⟨(PyData.keyHash P (Str.ofString "MOST_POWER")), (Value.str (Str.ofString "MOST_POWER") 345), (Value.int 1000 344)⟩, ⟨(PyData.keyHash P (Str.ofString "MOST_SHOWN")), (Value.str (Str.ofString "MOST_SHOWN") 347), (Value.int 1000 346)⟩, ⟨(PyData.keyHash P (Str.ofString "is_array")), (Value.str (Str.ofString "is_array") 354), (Value.ref 137)⟩, ⟨(PyData.keyHash P (Str.ofString "is_set")), (Value.str (Str.ofString "is_set") 361), (Value.ref 144)⟩, ⟨(PyData.keyHash P (Str.ofString "number_of")), (Value.str (Str.ofString "number_of") 369), (Value.ref 151)⟩, ⟨(PyData.keyHash P (Str.ofString "truth_of")), (Value.str (Str.ofString "truth_of") 377), (Value.ref 158)⟩, ⟨(PyData.keyHash P (Str.ofString "text_of")), (Value.str (Str.ofString "text_of") 385), (Value.ref 165)⟩, ⟨(PyData.keyHash P (Str.ofString "set_of")), (Value.str (Str.ofString "set_of") 393), (Value.ref 172)⟩, ⟨(PyData.keyHash P (Str.ofString "list_of")), (Value.str (Str.ofString "list_of") 401), (Value.ref 179)⟩, ⟨(PyData.keyHash P (Str.ofString "elements_of")), (Value.str (Str.ofString "elements_of") 409), (Value.ref 186)⟩, ⟨(PyData.keyHash P (Str.ofString "row_of")), (Value.str (Str.ofString "row_of") 416), (Value.ref 193)⟩, ⟨(PyData.keyHash P (Str.ofString "span")), (Value.str (Str.ofString "span") 424), (Value.ref 200)⟩, ⟨(PyData.keyHash P (Str.ofString "quotient")), (Value.str (Str.ofString "quotient") 434), (Value.ref 207)⟩, ⟨(PyData.keyHash P (Str.ofString "within_figures")), (Value.str (Str.ofString "within_figures") 441), (Value.ref 214)⟩, ⟨(PyData.keyHash P (Str.ofString "power")), (Value.str (Str.ofString "power") 452), (Value.ref 221)⟩, ⟨(PyData.keyHash P (Str.ofString "are_same")), (Value.str (Str.ofString "are_same") 458), (Value.ref 226)⟩, ⟨(PyData.keyHash P (Str.ofString "are_compared")), (Value.str (Str.ofString "are_compared") 468), (Value.ref 233)⟩, ⟨(PyData.keyHash P (Str.ofString "joined_sets")), (Value.str (Str.ofString "joined_sets") 474), (Value.ref 238)⟩, ⟨(PyData.keyHash P (Str.ofString "reckoned")), (Value.str (Str.ofString "reckoned") 484), (Value.ref 245)⟩, ⟨(PyData.keyHash P (Str.ofString "show_text")), (Value.str (Str.ofString "show_text") 490), (Value.ref 250)⟩, ⟨(PyData.keyHash P (Str.ofString "folded")), (Value.str (Str.ofString "folded") 496), (Value.ref 255)⟩, ⟨(PyData.keyHash P (Str.ofString "FOLDING")), (Value.str (Str.ofString "FOLDING") 505), (Value.ref 256)⟩, ⟨(PyData.keyHash P (Str.ofString "scopes_of")), (Value.str (Str.ofString "scopes_of") 511), (Value.ref 261)⟩]) 42), (List.toArray [])⟩
noncomputable def mc_12 (_P : Params) : Obj := ⟨Value.none, none, (Data.fields (List.toArray [(Value.int 2 0), (Value.int 0 0), (Value.ref 20), (Value.int 4 0), (Value.int 0 0), (Value.ref 27), (Value.int 10 0), (Value.int 0 0), (Value.ref 34), (Value.int 15 0), (Value.int 0 0), (Value.ref 41), (Value.int 20 0), (Value.int 0 0), (Value.ref 48), (Value.int 23 0), (Value.int 0 0), (Value.ref 56), (Value.int 31 0), (Value.int 0 0), (Value.ref 85), (Value.int 39 0), (Value.int 0 0), (Value.ref 112), (Value.int 41 0), (Value.int 0 0), (Value.ref 124), (Value.int 47 0), (Value.int 0 0), (Value.ref 136), (Value.int 49 0), (Value.int 0 0), (Value.ref 143), (Value.int 51 0), (Value.int 0 0), (Value.ref 150), (Value.int 55 0), (Value.int 0 0), (Value.ref 157), (Value.int 59 0), (Value.int 0 0), (Value.ref 164), (Value.int 63 0), (Value.int 0 0), (Value.ref 171), (Value.int 67 0), (Value.int 0 0), (Value.ref 178), (Value.int 71 0), (Value.int 0 0), (Value.ref 185), (Value.int 73 0), (Value.int 0 0), (Value.ref 192), (Value.int 75 0), (Value.int 0 0), (Value.ref 199), (Value.int 79 0), (Value.int 0 0), (Value.ref 206), (Value.int 84 0), (Value.int 0 0), (Value.ref 213), (Value.int 88 0), (Value.int 0 0), (Value.ref 220), (Value.int 97 0), (Value.int 0 0), (Value.ref 225), (Value.int 103 0), (Value.int 0 0), (Value.ref 232), (Value.int 115 0), (Value.int 0 0), (Value.ref 237), (Value.int 123 0), (Value.int 0 0), (Value.ref 244), (Value.int 135 0), (Value.int 0 0), (Value.ref 249), (Value.int 147 0), (Value.int 0 0), (Value.ref 254), (Value.int 167 0), (Value.int 0 0), (Value.ref 260)])), (List.toArray [])⟩
noncomputable def mc_135 (_P : Params) : Obj := ⟨Value.none, none, (Data.func ⟨(Str.ofString "is_array"), (Str.ofString "is_array"), (dP (stAt 15)), (FuncBody.stmts (dB (stAt 15))), (dS (stAt 15)), 0, [], Value.none, Value.none, Value.none, Value.none, none, Value.none, Value.none, 0⟩), (List.toArray [])⟩
noncomputable def mc_137 (_P : Params) : Obj := ⟨(Value.type "function"), none, (Data.func ⟨(Str.ofString "is_array"), (Str.ofString "is_array"), (dP (stAt 15)), (FuncBody.stmts (dB (stAt 15))), (dS (stAt 15)), 3, [], Value.none, Value.none, Value.none, (Value.str (Str.ofString "fdsolve.values") 340), none, (Value.ref 136), Value.none, 0⟩), (List.toArray [])⟩
noncomputable def mc_142 (_P : Params) : Obj := ⟨Value.none, none, (Data.func ⟨(Str.ofString "is_set"), (Str.ofString "is_set"), (dP (stAt 16)), (FuncBody.stmts (dB (stAt 16))), (dS (stAt 16)), 0, [], Value.none, Value.none, Value.none, Value.none, none, Value.none, Value.none, 0⟩), (List.toArray [])⟩
noncomputable def mc_144 (_P : Params) : Obj := ⟨(Value.type "function"), none, (Data.func ⟨(Str.ofString "is_set"), (Str.ofString "is_set"), (dP (stAt 16)), (FuncBody.stmts (dB (stAt 16))), (dS (stAt 16)), 3, [], Value.none, Value.none, Value.none, (Value.str (Str.ofString "fdsolve.values") 340), none, (Value.ref 143), Value.none, 0⟩), (List.toArray [])⟩
noncomputable def mc_149 (_P : Params) : Obj := ⟨Value.none, none, (Data.func ⟨(Str.ofString "number_of"), (Str.ofString "number_of"), (dP (stAt 17)), (FuncBody.stmts (dB (stAt 17))), (dS (stAt 17)), 0, [], Value.none, Value.none, Value.none, Value.none, none, Value.none, Value.none, 0⟩), (List.toArray [])⟩
noncomputable def mc_151 (_P : Params) : Obj := ⟨(Value.type "function"), none, (Data.func ⟨(Str.ofString "number_of"), (Str.ofString "number_of"), (dP (stAt 17)), (FuncBody.stmts (dB (stAt 17))), (dS (stAt 17)), 3, [], Value.none, Value.none, Value.none, (Value.str (Str.ofString "fdsolve.values") 340), none, (Value.ref 150), Value.none, 0⟩), (List.toArray [])⟩
noncomputable def mc_156 (_P : Params) : Obj := ⟨Value.none, none, (Data.func ⟨(Str.ofString "truth_of"), (Str.ofString "truth_of"), (dP (stAt 18)), (FuncBody.stmts (dB (stAt 18))), (dS (stAt 18)), 0, [], Value.none, Value.none, Value.none, Value.none, none, Value.none, Value.none, 0⟩), (List.toArray [])⟩
noncomputable def mc_158 (_P : Params) : Obj := ⟨(Value.type "function"), none, (Data.func ⟨(Str.ofString "truth_of"), (Str.ofString "truth_of"), (dP (stAt 18)), (FuncBody.stmts (dB (stAt 18))), (dS (stAt 18)), 3, [], Value.none, Value.none, Value.none, (Value.str (Str.ofString "fdsolve.values") 340), none, (Value.ref 157), Value.none, 0⟩), (List.toArray [])⟩
noncomputable def mc_163 (_P : Params) : Obj := ⟨Value.none, none, (Data.func ⟨(Str.ofString "text_of"), (Str.ofString "text_of"), (dP (stAt 19)), (FuncBody.stmts (dB (stAt 19))), (dS (stAt 19)), 0, [], Value.none, Value.none, Value.none, Value.none, none, Value.none, Value.none, 0⟩), (List.toArray [])⟩
noncomputable def mc_165 (_P : Params) : Obj := ⟨(Value.type "function"), none, (Data.func ⟨(Str.ofString "text_of"), (Str.ofString "text_of"), (dP (stAt 19)), (FuncBody.stmts (dB (stAt 19))), (dS (stAt 19)), 3, [], Value.none, Value.none, Value.none, (Value.str (Str.ofString "fdsolve.values") 340), none, (Value.ref 164), Value.none, 0⟩), (List.toArray [])⟩
noncomputable def mc_170 (_P : Params) : Obj := ⟨Value.none, none, (Data.func ⟨(Str.ofString "set_of"), (Str.ofString "set_of"), (dP (stAt 20)), (FuncBody.stmts (dB (stAt 20))), (dS (stAt 20)), 0, [], Value.none, Value.none, Value.none, Value.none, none, Value.none, Value.none, 0⟩), (List.toArray [])⟩
noncomputable def mc_172 (_P : Params) : Obj := ⟨(Value.type "function"), none, (Data.func ⟨(Str.ofString "set_of"), (Str.ofString "set_of"), (dP (stAt 20)), (FuncBody.stmts (dB (stAt 20))), (dS (stAt 20)), 3, [], Value.none, Value.none, Value.none, (Value.str (Str.ofString "fdsolve.values") 340), none, (Value.ref 171), Value.none, 0⟩), (List.toArray [])⟩
noncomputable def mc_177 (_P : Params) : Obj := ⟨Value.none, none, (Data.func ⟨(Str.ofString "list_of"), (Str.ofString "list_of"), (dP (stAt 21)), (FuncBody.stmts (dB (stAt 21))), (dS (stAt 21)), 0, [], Value.none, Value.none, Value.none, Value.none, none, Value.none, Value.none, 0⟩), (List.toArray [])⟩
noncomputable def mc_179 (_P : Params) : Obj := ⟨(Value.type "function"), none, (Data.func ⟨(Str.ofString "list_of"), (Str.ofString "list_of"), (dP (stAt 21)), (FuncBody.stmts (dB (stAt 21))), (dS (stAt 21)), 3, [], Value.none, Value.none, Value.none, (Value.str (Str.ofString "fdsolve.values") 340), none, (Value.ref 178), Value.none, 0⟩), (List.toArray [])⟩
noncomputable def mc_184 (_P : Params) : Obj := ⟨Value.none, none, (Data.func ⟨(Str.ofString "elements_of"), (Str.ofString "elements_of"), (dP (stAt 22)), (FuncBody.stmts (dB (stAt 22))), (dS (stAt 22)), 0, [], Value.none, Value.none, Value.none, Value.none, none, Value.none, Value.none, 0⟩), (List.toArray [])⟩
noncomputable def mc_186 (_P : Params) : Obj := ⟨(Value.type "function"), none, (Data.func ⟨(Str.ofString "elements_of"), (Str.ofString "elements_of"), (dP (stAt 22)), (FuncBody.stmts (dB (stAt 22))), (dS (stAt 22)), 3, [], Value.none, Value.none, Value.none, (Value.str (Str.ofString "fdsolve.values") 340), none, (Value.ref 185), Value.none, 0⟩), (List.toArray [])⟩
noncomputable def mc_191 (_P : Params) : Obj := ⟨Value.none, none, (Data.func ⟨(Str.ofString "row_of"), (Str.ofString "row_of"), (dP (stAt 23)), (FuncBody.stmts (dB (stAt 23))), (dS (stAt 23)), 0, [], Value.none, Value.none, Value.none, Value.none, none, Value.none, Value.none, 0⟩), (List.toArray [])⟩
noncomputable def mc_193 (_P : Params) : Obj := ⟨(Value.type "function"), none, (Data.func ⟨(Str.ofString "row_of"), (Str.ofString "row_of"), (dP (stAt 23)), (FuncBody.stmts (dB (stAt 23))), (dS (stAt 23)), 3, [], Value.none, Value.none, Value.none, (Value.str (Str.ofString "fdsolve.values") 340), none, (Value.ref 192), Value.none, 0⟩), (List.toArray [])⟩
noncomputable def mc_198 (_P : Params) : Obj := ⟨Value.none, none, (Data.func ⟨(Str.ofString "span"), (Str.ofString "span"), (dP (stAt 24)), (FuncBody.stmts (dB (stAt 24))), (dS (stAt 24)), 0, [], Value.none, Value.none, Value.none, Value.none, none, Value.none, Value.none, 0⟩), (List.toArray [])⟩
noncomputable def mc_200 (_P : Params) : Obj := ⟨(Value.type "function"), none, (Data.func ⟨(Str.ofString "span"), (Str.ofString "span"), (dP (stAt 24)), (FuncBody.stmts (dB (stAt 24))), (dS (stAt 24)), 3, [], Value.none, Value.none, Value.none, (Value.str (Str.ofString "fdsolve.values") 340), none, (Value.ref 199), Value.none, 0⟩), (List.toArray [])⟩
noncomputable def mc_205 (_P : Params) : Obj := ⟨Value.none, none, (Data.func ⟨(Str.ofString "quotient"), (Str.ofString "quotient"), (dP (stAt 25)), (FuncBody.stmts (dB (stAt 25))), (dS (stAt 25)), 0, [], Value.none, Value.none, Value.none, Value.none, none, Value.none, Value.none, 0⟩), (List.toArray [])⟩
noncomputable def mc_207 (_P : Params) : Obj := ⟨(Value.type "function"), none, (Data.func ⟨(Str.ofString "quotient"), (Str.ofString "quotient"), (dP (stAt 25)), (FuncBody.stmts (dB (stAt 25))), (dS (stAt 25)), 3, [], Value.none, Value.none, Value.none, (Value.str (Str.ofString "fdsolve.values") 340), none, (Value.ref 206), Value.none, 0⟩), (List.toArray [])⟩
noncomputable def mc_212 (_P : Params) : Obj := ⟨Value.none, none, (Data.func ⟨(Str.ofString "within_figures"), (Str.ofString "within_figures"), (dP (stAt 26)), (FuncBody.stmts (dB (stAt 26))), (dS (stAt 26)), 0, [], Value.none, Value.none, Value.none, Value.none, none, Value.none, Value.none, 0⟩), (List.toArray [])⟩
noncomputable def mc_214 (_P : Params) : Obj := ⟨(Value.type "function"), none, (Data.func ⟨(Str.ofString "within_figures"), (Str.ofString "within_figures"), (dP (stAt 26)), (FuncBody.stmts (dB (stAt 26))), (dS (stAt 26)), 3, [], Value.none, Value.none, Value.none, (Value.str (Str.ofString "fdsolve.values") 340), none, (Value.ref 213), Value.none, 0⟩), (List.toArray [])⟩
noncomputable def mc_219 (_P : Params) : Obj := ⟨Value.none, none, (Data.func ⟨(Str.ofString "power"), (Str.ofString "power"), (dP (stAt 27)), (FuncBody.stmts (dB (stAt 27))), (dS (stAt 27)), 0, [], Value.none, Value.none, Value.none, Value.none, none, Value.none, Value.none, 0⟩), (List.toArray [])⟩
noncomputable def mc_221 (_P : Params) : Obj := ⟨(Value.type "function"), none, (Data.func ⟨(Str.ofString "power"), (Str.ofString "power"), (dP (stAt 27)), (FuncBody.stmts (dB (stAt 27))), (dS (stAt 27)), 3, [], Value.none, Value.none, Value.none, (Value.str (Str.ofString "fdsolve.values") 340), none, (Value.ref 220), Value.none, 0⟩), (List.toArray [])⟩
noncomputable def mc_224 (_P : Params) : Obj := ⟨Value.none, none, (Data.func ⟨(Str.ofString "are_same"), (Str.ofString "are_same"), (dP (stAt 28)), (FuncBody.stmts (dB (stAt 28))), (dS (stAt 28)), 0, [], Value.none, Value.none, Value.none, Value.none, none, Value.none, Value.none, 0⟩), (List.toArray [])⟩
noncomputable def mc_226 (_P : Params) : Obj := ⟨(Value.type "function"), none, (Data.func ⟨(Str.ofString "are_same"), (Str.ofString "are_same"), (dP (stAt 28)), (FuncBody.stmts (dB (stAt 28))), (dS (stAt 28)), 3, [], Value.none, Value.none, Value.none, (Value.str (Str.ofString "fdsolve.values") 340), none, (Value.ref 225), Value.none, 0⟩), (List.toArray [])⟩
noncomputable def mc_231 (_P : Params) : Obj := ⟨Value.none, none, (Data.func ⟨(Str.ofString "are_compared"), (Str.ofString "are_compared"), (dP (stAt 29)), (FuncBody.stmts (dB (stAt 29))), (dS (stAt 29)), 0, [], Value.none, Value.none, Value.none, Value.none, none, Value.none, Value.none, 0⟩), (List.toArray [])⟩
noncomputable def mc_233 (_P : Params) : Obj := ⟨(Value.type "function"), none, (Data.func ⟨(Str.ofString "are_compared"), (Str.ofString "are_compared"), (dP (stAt 29)), (FuncBody.stmts (dB (stAt 29))), (dS (stAt 29)), 3, [], Value.none, Value.none, Value.none, (Value.str (Str.ofString "fdsolve.values") 340), none, (Value.ref 232), Value.none, 0⟩), (List.toArray [])⟩
noncomputable def mc_236 (_P : Params) : Obj := ⟨Value.none, none, (Data.func ⟨(Str.ofString "joined_sets"), (Str.ofString "joined_sets"), (dP (stAt 30)), (FuncBody.stmts (dB (stAt 30))), (dS (stAt 30)), 0, [], Value.none, Value.none, Value.none, Value.none, none, Value.none, Value.none, 0⟩), (List.toArray [])⟩
noncomputable def mc_238 (_P : Params) : Obj := ⟨(Value.type "function"), none, (Data.func ⟨(Str.ofString "joined_sets"), (Str.ofString "joined_sets"), (dP (stAt 30)), (FuncBody.stmts (dB (stAt 30))), (dS (stAt 30)), 3, [], Value.none, Value.none, Value.none, (Value.str (Str.ofString "fdsolve.values") 340), none, (Value.ref 237), Value.none, 0⟩), (List.toArray [])⟩
noncomputable def mc_243 (_P : Params) : Obj := ⟨Value.none, none, (Data.func ⟨(Str.ofString "reckoned"), (Str.ofString "reckoned"), (dP (stAt 31)), (FuncBody.stmts (dB (stAt 31))), (dS (stAt 31)), 0, [], Value.none, Value.none, Value.none, Value.none, none, Value.none, Value.none, 0⟩), (List.toArray [])⟩
noncomputable def mc_245 (_P : Params) : Obj := ⟨(Value.type "function"), none, (Data.func ⟨(Str.ofString "reckoned"), (Str.ofString "reckoned"), (dP (stAt 31)), (FuncBody.stmts (dB (stAt 31))), (dS (stAt 31)), 3, [], Value.none, Value.none, Value.none, (Value.str (Str.ofString "fdsolve.values") 340), none, (Value.ref 244), Value.none, 0⟩), (List.toArray [])⟩
noncomputable def mc_248 (_P : Params) : Obj := ⟨Value.none, none, (Data.func ⟨(Str.ofString "show_text"), (Str.ofString "show_text"), (dP (stAt 32)), (FuncBody.stmts (dB (stAt 32))), (dS (stAt 32)), 0, [], Value.none, Value.none, Value.none, Value.none, none, Value.none, Value.none, 0⟩), (List.toArray [])⟩
noncomputable def mc_250 (_P : Params) : Obj := ⟨(Value.type "function"), none, (Data.func ⟨(Str.ofString "show_text"), (Str.ofString "show_text"), (dP (stAt 32)), (FuncBody.stmts (dB (stAt 32))), (dS (stAt 32)), 3, [], Value.none, Value.none, Value.none, (Value.str (Str.ofString "fdsolve.values") 340), none, (Value.ref 249), Value.none, 0⟩), (List.toArray [])⟩
noncomputable def mc_253 (_P : Params) : Obj := ⟨Value.none, none, (Data.func ⟨(Str.ofString "folded"), (Str.ofString "folded"), (dP (stAt 33)), (FuncBody.stmts (dB (stAt 33))), (dS (stAt 33)), 0, [], Value.none, Value.none, Value.none, Value.none, none, Value.none, Value.none, 0⟩), (List.toArray [])⟩
noncomputable def mc_255 (_P : Params) : Obj := ⟨(Value.type "function"), none, (Data.func ⟨(Str.ofString "folded"), (Str.ofString "folded"), (dP (stAt 33)), (FuncBody.stmts (dB (stAt 33))), (dS (stAt 33)), 3, [], Value.none, Value.none, Value.none, (Value.str (Str.ofString "fdsolve.values") 340), none, (Value.ref 254), Value.none, 0⟩), (List.toArray [])⟩
noncomputable def mc_259 (_P : Params) : Obj := ⟨Value.none, none, (Data.func ⟨(Str.ofString "scopes_of"), (Str.ofString "scopes_of"), (dP (stAt 35)), (FuncBody.stmts (dB (stAt 35))), (dS (stAt 35)), 0, [], Value.none, Value.none, Value.none, Value.none, none, Value.none, Value.none, 0⟩), (List.toArray [])⟩
noncomputable def mc_261 (_P : Params) : Obj := ⟨(Value.type "function"), none, (Data.func ⟨(Str.ofString "scopes_of"), (Str.ofString "scopes_of"), (dP (stAt 35)), (FuncBody.stmts (dB (stAt 35))), (dS (stAt 35)), 3, [], Value.none, Value.none, Value.none, (Value.str (Str.ofString "fdsolve.values") 340), none, (Value.ref 260), Value.none, 0⟩), (List.toArray [])⟩
noncomputable def md_3 (P : Params) : Obj := ⟨(Value.type "dict"), none, (Data.dict (List.toArray [⟨(PyData.keyHash P (Str.ofString "__name__")), (Value.str (Str.ofString "__name__") 165), (Value.str (Str.ofString "fdsolve.values") 340)⟩, ⟨(PyData.keyHash P (Str.ofString "__doc__")), (Value.str (Str.ofString "__doc__") 166), Value.none⟩, ⟨(PyData.keyHash P (Str.ofString "__package__")), (Value.str (Str.ofString "__package__") 167), Value.none⟩, ⟨(PyData.keyHash P (Str.ofString "__loader__")), (Value.str (Str.ofString "__loader__") 168), (Value.builtin "__main__.__loader__#opaque")⟩, ⟨(PyData.keyHash P (Str.ofString "__spec__")), (Value.str (Str.ofString "__spec__") 169), Value.none⟩, ⟨(PyData.keyHash P (Str.ofString "__annotations__")), (Value.str (Str.ofString "__annotations__") 170), (Value.ref 6)⟩, ⟨(PyData.keyHash P (Str.ofString "__builtins__")), (Value.str (Str.ofString "__builtins__") 171), (Value.ref 4)⟩, ⟨(PyData.keyHash P (Str.ofString "__file__")), (Value.str (Str.ofString "__file__") 173), (Value.str (Str.ofString "/claim/cut.py") 172)⟩, ⟨(PyData.keyHash P (Str.ofString "__cached__")), (Value.str (Str.ofString "__cached__") 174), Value.none⟩, ⟨(PyData.keyHash P (Str.ofString "range_of")), (Value.str (Str.ofString "range_of") 196), (Value.ref 21)⟩, ⟨(PyData.keyHash P (Str.ofString "put_behind")), (Value.str (Str.ofString "put_behind") 205), (Value.ref 28)⟩, ⟨(PyData.keyHash P (Str.ofString "from_values")), (Value.str (Str.ofString "from_values") 214), (Value.ref 35)⟩, ⟨(PyData.keyHash P (Str.ofString "next_from")), (Value.str (Str.ofString "next_from") 224), (Value.ref 42)⟩, ⟨(PyData.keyHash P (Str.ofString "has")), (Value.str (Str.ofString "has") 232), (Value.ref 49)⟩, ⟨(PyData.keyHash P (Str.ofString "FdError")), (Value.str (Str.ofString "FdError") 272), (Value.ref 75)⟩, ⟨(PyData.keyHash P (Str.ofString "SpotFault")), (Value.str (Str.ofString "SpotFault") 307), (Value.ref 104)⟩, ⟨(PyData.keyHash P (Str.ofString "EvalFault")), (Value.str (Str.ofString "EvalFault") 323), (Value.ref 116)⟩, ⟨(PyData.keyHash P (Str.ofString "LimitFault")), (Value.str (Str.ofString "LimitFault") 339), (Value.ref 128)⟩, ⟨(PyData.keyHash P (Str.ofString "MOST_VALUES")), (Value.str (Str.ofString "MOST_VALUES") 343), (Value.int 100000 342)⟩, ⟨(PyData.keyHash P (Str.ofString "MOST_POWER")), (Value.str (Str.ofString "MOST_POWER") 345), (Value.int 1000 344)⟩, ⟨(PyData.keyHash P (Str.ofString "MOST_SHOWN")), (Value.str (Str.ofString "MOST_SHOWN") 347), (Value.int 1000 346)⟩, ⟨(PyData.keyHash P (Str.ofString "is_array")), (Value.str (Str.ofString "is_array") 354), (Value.ref 137)⟩, ⟨(PyData.keyHash P (Str.ofString "is_set")), (Value.str (Str.ofString "is_set") 361), (Value.ref 144)⟩, ⟨(PyData.keyHash P (Str.ofString "number_of")), (Value.str (Str.ofString "number_of") 369), (Value.ref 151)⟩, ⟨(PyData.keyHash P (Str.ofString "truth_of")), (Value.str (Str.ofString "truth_of") 377), (Value.ref 158)⟩, ⟨(PyData.keyHash P (Str.ofString "text_of")), (Value.str (Str.ofString "text_of") 385), (Value.ref 165)⟩, ⟨(PyData.keyHash P (Str.ofString "set_of")), (Value.str (Str.ofString "set_of") 393), (Value.ref 172)⟩, ⟨(PyData.keyHash P (Str.ofString "list_of")), (Value.str (Str.ofString "list_of") 401), (Value.ref 179)⟩, ⟨(PyData.keyHash P (Str.ofString "elements_of")), (Value.str (Str.ofString "elements_of") 409), (Value.ref 186)⟩, ⟨(PyData.keyHash P (Str.ofString "row_of")), (Value.str (Str.ofString "row_of") 416), (Value.ref 193)⟩, ⟨(PyData.keyHash P (Str.ofString "span")), (Value.str (Str.ofString "span") 424), (Value.ref 200)⟩, ⟨(PyData.keyHash P (Str.ofString "quotient")), (Value.str (Str.ofString "quotient") 434), (Value.ref 207)⟩, ⟨(PyData.keyHash P (Str.ofString "within_figures")), (Value.str (Str.ofString "within_figures") 441), (Value.ref 214)⟩, ⟨(PyData.keyHash P (Str.ofString "power")), (Value.str (Str.ofString "power") 452), (Value.ref 221)⟩, ⟨(PyData.keyHash P (Str.ofString "are_same")), (Value.str (Str.ofString "are_same") 458), (Value.ref 226)⟩, ⟨(PyData.keyHash P (Str.ofString "are_compared")), (Value.str (Str.ofString "are_compared") 468), (Value.ref 233)⟩, ⟨(PyData.keyHash P (Str.ofString "joined_sets")), (Value.str (Str.ofString "joined_sets") 474), (Value.ref 238)⟩, ⟨(PyData.keyHash P (Str.ofString "reckoned")), (Value.str (Str.ofString "reckoned") 484), (Value.ref 245)⟩, ⟨(PyData.keyHash P (Str.ofString "show_text")), (Value.str (Str.ofString "show_text") 490), (Value.ref 250)⟩, ⟨(PyData.keyHash P (Str.ofString "folded")), (Value.str (Str.ofString "folded") 496), (Value.ref 255)⟩, ⟨(PyData.keyHash P (Str.ofString "FOLDING")), (Value.str (Str.ofString "FOLDING") 505), (Value.ref 256)⟩, ⟨(PyData.keyHash P (Str.ofString "scopes_of")), (Value.str (Str.ofString "scopes_of") 511), (Value.ref 261)⟩, ⟨(PyData.keyHash P (Str.ofString "Evaluator")), (Value.str (Str.ofString "Evaluator") 667), (Value.ref 356)⟩]) 43), (List.toArray [])⟩
noncomputable def md_12 (_P : Params) : Obj := ⟨Value.none, none, (Data.fields (List.toArray [(Value.int 2 0), (Value.int 0 0), (Value.ref 20), (Value.int 4 0), (Value.int 0 0), (Value.ref 27), (Value.int 10 0), (Value.int 0 0), (Value.ref 34), (Value.int 15 0), (Value.int 0 0), (Value.ref 41), (Value.int 20 0), (Value.int 0 0), (Value.ref 48), (Value.int 23 0), (Value.int 0 0), (Value.ref 56), (Value.int 31 0), (Value.int 0 0), (Value.ref 85), (Value.int 39 0), (Value.int 0 0), (Value.ref 112), (Value.int 41 0), (Value.int 0 0), (Value.ref 124), (Value.int 47 0), (Value.int 0 0), (Value.ref 136), (Value.int 49 0), (Value.int 0 0), (Value.ref 143), (Value.int 51 0), (Value.int 0 0), (Value.ref 150), (Value.int 55 0), (Value.int 0 0), (Value.ref 157), (Value.int 59 0), (Value.int 0 0), (Value.ref 164), (Value.int 63 0), (Value.int 0 0), (Value.ref 171), (Value.int 67 0), (Value.int 0 0), (Value.ref 178), (Value.int 71 0), (Value.int 0 0), (Value.ref 185), (Value.int 73 0), (Value.int 0 0), (Value.ref 192), (Value.int 75 0), (Value.int 0 0), (Value.ref 199), (Value.int 79 0), (Value.int 0 0), (Value.ref 206), (Value.int 84 0), (Value.int 0 0), (Value.ref 213), (Value.int 88 0), (Value.int 0 0), (Value.ref 220), (Value.int 97 0), (Value.int 0 0), (Value.ref 225), (Value.int 103 0), (Value.int 0 0), (Value.ref 232), (Value.int 115 0), (Value.int 0 0), (Value.ref 237), (Value.int 123 0), (Value.int 0 0), (Value.ref 244), (Value.int 135 0), (Value.int 0 0), (Value.ref 249), (Value.int 147 0), (Value.int 0 0), (Value.ref 254), (Value.int 167 0), (Value.int 0 0), (Value.ref 260), (Value.int 183 0), (Value.int 0 0), (Value.ref 267)])), (List.toArray [])⟩
noncomputable def md_262 (_P : Params) : Obj := ⟨(Value.type "tuple"), none, (Data.seq (List.toArray []) 0), (List.toArray [])⟩
noncomputable def md_263 (_P : Params) : Obj := ⟨(Value.type "builtin_function_or_method"), none, (Data.fields (List.toArray [(Value.builtin "type.__prepare__"), (Value.type "type")])), (List.toArray [])⟩
noncomputable def md_264 (P : Params) : Obj := ⟨(Value.type "dict"), none, (Data.dict (List.toArray [⟨(PyData.keyHash P (Str.ofString "__module__")), (Value.str (Str.ofString "__module__") 519), (Value.str (Str.ofString "fdsolve.values") 340)⟩, ⟨(PyData.keyHash P (Str.ofString "__qualname__")), (Value.str (Str.ofString "__qualname__") 521), (Value.str (Str.ofString "Evaluator") 520)⟩, ⟨(PyData.keyHash P (Str.ofString "__firstlineno__")), (Value.str (Str.ofString "__firstlineno__") 523), (Value.int 183 522)⟩, ⟨(PyData.keyHash P (Str.ofString "__init__")), (Value.str (Str.ofString "__init__") 531), (Value.ref 275)⟩, ⟨(PyData.keyHash P (Str.ofString "value_of")), (Value.str (Str.ofString "value_of") 541), (Value.ref 282)⟩, ⟨(PyData.keyHash P (Str.ofString "values_of")), (Value.str (Str.ofString "values_of") 547), (Value.ref 287)⟩, ⟨(PyData.keyHash P (Str.ofString "built")), (Value.str (Str.ofString "built") 553), (Value.ref 292)⟩, ⟨(PyData.keyHash P (Str.ofString "gathered")), (Value.str (Str.ofString "gathered") 565), (Value.ref 299)⟩, ⟨(PyData.keyHash P (Str.ofString "of_one")), (Value.str (Str.ofString "of_one") 576), (Value.ref 306)⟩, ⟨(PyData.keyHash P (Str.ofString "of_two")), (Value.str (Str.ofString "of_two") 591), (Value.ref 313)⟩, ⟨(PyData.keyHash P (Str.ofString "element")), (Value.str (Str.ofString "element") 607), (Value.ref 320)⟩, ⟨(PyData.keyHash P (Str.ofString "chosen")), (Value.str (Str.ofString "chosen") 617), (Value.ref 327)⟩, ⟨(PyData.keyHash P (Str.ofString "within")), (Value.str (Str.ofString "within") 627), (Value.ref 334)⟩, ⟨(PyData.keyHash P (Str.ofString "ranges_of")), (Value.str (Str.ofString "ranges_of") 642), (Value.ref 341)⟩, ⟨(PyData.keyHash P (Str.ofString "domain_of")), (Value.str (Str.ofString "domain_of") 652), (Value.ref 348)⟩, ⟨(PyData.keyHash P (Str.ofString "fitted")), (Value.str (Str.ofString "fitted") 658), (Value.ref 353)⟩, ⟨(PyData.keyHash P (Str.ofString "__static_attributes__")), (Value.str (Str.ofString "__static_attributes__") 660), (Value.ref 354)⟩]) 17), (List.toArray [])⟩
noncomputable def md_265 (_P : Params) : Obj := ⟨(Value.type "tuple"), none, (Data.seq (List.toArray []) 0), (List.toArray [])⟩
noncomputable def md_266 (_P : Params) : Obj := ⟨Value.none, none, (Data.fields (List.toArray [(Value.int 185 0), (Value.int 4 0), (Value.ref 274), (Value.int 188 0), (Value.int 4 0), (Value.ref 281), (Value.int 212 0), (Value.int 4 0), (Value.ref 286), (Value.int 215 0), (Value.int 4 0), (Value.ref 291), (Value.int 236 0), (Value.int 4 0), (Value.ref 298), (Value.int 244 0), (Value.int 4 0), (Value.ref 305), (Value.int 250 0), (Value.int 4 0), (Value.ref 312), (Value.int 276 0), (Value.int 4 0), (Value.ref 319), (Value.int 289 0), (Value.int 4 0), (Value.ref 326), (Value.int 295 0), (Value.int 4 0), (Value.ref 333), (Value.int 307 0), (Value.int 4 0), (Value.ref 340), (Value.int 322 0), (Value.int 4 0), (Value.ref 347), (Value.int 328 0), (Value.int 4 0), (Value.ref 352)])), (List.toArray [])⟩
noncomputable def md_267 (_P : Params) : Obj := ⟨(Value.type "code"), none, (Data.fields (List.toArray [(Value.str (Str.ofString "Evaluator") 514), (Value.str (Str.ofString "Evaluator") 515), (Value.str (Str.ofString "/claim/cut.py") 516), (Value.int 183 0), (Value.int 0 0), (Value.int 0 0), (Value.int 0 0), (Value.int 0 0), (Value.ref 265), (Value.bool false), (Value.int 181 0), (Value.ref 266), Value.none, Value.none, Value.none, Value.none, (Value.int 517 0), (Value.int 183 0), (Value.str (Str.ofString "/claim/cut.py") 518)])), (List.toArray [])⟩
noncomputable def md_268 (_P : Params) : Obj := ⟨(Value.type "frame"), none, Data.plain, (List.toArray [(some (Value.ref 267)), (some (Value.ref 3)), (some (Value.ref 264)), none, (some (Value.str (Str.ofString "fdsolve.values") 340)), none, (some (Value.ref 0))])⟩
noncomputable def md_273 (_P : Params) : Obj := ⟨Value.none, none, (Data.func ⟨(Str.ofString "__init__"), (Str.ofString "Evaluator.__init__"), (dP (meAt 36 0)), (FuncBody.stmts (dB (meAt 36 0))), (dS (meAt 36 0)), 0, [], Value.none, Value.none, Value.none, Value.none, none, Value.none, Value.none, 0⟩), (List.toArray [])⟩
noncomputable def md_275 (_P : Params) : Obj := ⟨(Value.type "function"), none, (Data.func ⟨(Str.ofString "__init__"), (Str.ofString "Evaluator.__init__"), (dP (meAt 36 0)), (FuncBody.stmts (dB (meAt 36 0))), (dS (meAt 36 0)), 3, [], Value.none, Value.none, Value.none, (Value.str (Str.ofString "fdsolve.values") 340), none, (Value.ref 274), Value.none, 0⟩), (List.toArray [])⟩
noncomputable def md_280 (_P : Params) : Obj := ⟨Value.none, none, (Data.func ⟨(Str.ofString "value_of"), (Str.ofString "Evaluator.value_of"), (dP (meAt 36 1)), (FuncBody.stmts (dB (meAt 36 1))), (dS (meAt 36 1)), 0, [], Value.none, Value.none, Value.none, Value.none, none, Value.none, Value.none, 0⟩), (List.toArray [])⟩
noncomputable def md_282 (_P : Params) : Obj := ⟨(Value.type "function"), none, (Data.func ⟨(Str.ofString "value_of"), (Str.ofString "Evaluator.value_of"), (dP (meAt 36 1)), (FuncBody.stmts (dB (meAt 36 1))), (dS (meAt 36 1)), 3, [], Value.none, Value.none, Value.none, (Value.str (Str.ofString "fdsolve.values") 340), none, (Value.ref 281), Value.none, 0⟩), (List.toArray [])⟩
noncomputable def md_285 (_P : Params) : Obj := ⟨Value.none, none, (Data.func ⟨(Str.ofString "values_of"), (Str.ofString "Evaluator.values_of"), (dP (meAt 36 2)), (FuncBody.stmts (dB (meAt 36 2))), (dS (meAt 36 2)), 0, [], Value.none, Value.none, Value.none, Value.none, none, Value.none, Value.none, 0⟩), (List.toArray [])⟩
noncomputable def md_287 (_P : Params) : Obj := ⟨(Value.type "function"), none, (Data.func ⟨(Str.ofString "values_of"), (Str.ofString "Evaluator.values_of"), (dP (meAt 36 2)), (FuncBody.stmts (dB (meAt 36 2))), (dS (meAt 36 2)), 3, [], Value.none, Value.none, Value.none, (Value.str (Str.ofString "fdsolve.values") 340), none, (Value.ref 286), Value.none, 0⟩), (List.toArray [])⟩
noncomputable def md_290 (_P : Params) : Obj := ⟨Value.none, none, (Data.func ⟨(Str.ofString "built"), (Str.ofString "Evaluator.built"), (dP (meAt 36 3)), (FuncBody.stmts (dB (meAt 36 3))), (dS (meAt 36 3)), 0, [], Value.none, Value.none, Value.none, Value.none, none, Value.none, Value.none, 0⟩), (List.toArray [])⟩
noncomputable def md_292 (_P : Params) : Obj := ⟨(Value.type "function"), none, (Data.func ⟨(Str.ofString "built"), (Str.ofString "Evaluator.built"), (dP (meAt 36 3)), (FuncBody.stmts (dB (meAt 36 3))), (dS (meAt 36 3)), 3, [], Value.none, Value.none, Value.none, (Value.str (Str.ofString "fdsolve.values") 340), none, (Value.ref 291), Value.none, 0⟩), (List.toArray [])⟩
noncomputable def md_297 (_P : Params) : Obj := ⟨Value.none, none, (Data.func ⟨(Str.ofString "gathered"), (Str.ofString "Evaluator.gathered"), (dP (meAt 36 4)), (FuncBody.stmts (dB (meAt 36 4))), (dS (meAt 36 4)), 0, [], Value.none, Value.none, Value.none, Value.none, none, Value.none, Value.none, 0⟩), (List.toArray [])⟩
noncomputable def md_299 (_P : Params) : Obj := ⟨(Value.type "function"), none, (Data.func ⟨(Str.ofString "gathered"), (Str.ofString "Evaluator.gathered"), (dP (meAt 36 4)), (FuncBody.stmts (dB (meAt 36 4))), (dS (meAt 36 4)), 3, [], Value.none, Value.none, Value.none, (Value.str (Str.ofString "fdsolve.values") 340), none, (Value.ref 298), Value.none, 0⟩), (List.toArray [])⟩
noncomputable def md_304 (_P : Params) : Obj := ⟨Value.none, none, (Data.func ⟨(Str.ofString "of_one"), (Str.ofString "Evaluator.of_one"), (dP (meAt 36 5)), (FuncBody.stmts (dB (meAt 36 5))), (dS (meAt 36 5)), 0, [], Value.none, Value.none, Value.none, Value.none, none, Value.none, Value.none, 0⟩), (List.toArray [])⟩
noncomputable def md_306 (_P : Params) : Obj := ⟨(Value.type "function"), none, (Data.func ⟨(Str.ofString "of_one"), (Str.ofString "Evaluator.of_one"), (dP (meAt 36 5)), (FuncBody.stmts (dB (meAt 36 5))), (dS (meAt 36 5)), 3, [], Value.none, Value.none, Value.none, (Value.str (Str.ofString "fdsolve.values") 340), none, (Value.ref 305), Value.none, 0⟩), (List.toArray [])⟩
noncomputable def md_311 (_P : Params) : Obj := ⟨Value.none, none, (Data.func ⟨(Str.ofString "of_two"), (Str.ofString "Evaluator.of_two"), (dP (meAt 36 6)), (FuncBody.stmts (dB (meAt 36 6))), (dS (meAt 36 6)), 0, [], Value.none, Value.none, Value.none, Value.none, none, Value.none, Value.none, 0⟩), (List.toArray [])⟩
noncomputable def md_313 (_P : Params) : Obj := ⟨(Value.type "function"), none, (Data.func ⟨(Str.ofString "of_two"), (Str.ofString "Evaluator.of_two"), (dP (meAt 36 6)), (FuncBody.stmts (dB (meAt 36 6))), (dS (meAt 36 6)), 3, [], Value.none, Value.none, Value.none, (Value.str (Str.ofString "fdsolve.values") 340), none, (Value.ref 312), Value.none, 0⟩), (List.toArray [])⟩
noncomputable def md_318 (_P : Params) : Obj := ⟨Value.none, none, (Data.func ⟨(Str.ofString "element"), (Str.ofString "Evaluator.element"), (dP (meAt 36 7)), (FuncBody.stmts (dB (meAt 36 7))), (dS (meAt 36 7)), 0, [], Value.none, Value.none, Value.none, Value.none, none, Value.none, Value.none, 0⟩), (List.toArray [])⟩
noncomputable def md_320 (_P : Params) : Obj := ⟨(Value.type "function"), none, (Data.func ⟨(Str.ofString "element"), (Str.ofString "Evaluator.element"), (dP (meAt 36 7)), (FuncBody.stmts (dB (meAt 36 7))), (dS (meAt 36 7)), 3, [], Value.none, Value.none, Value.none, (Value.str (Str.ofString "fdsolve.values") 340), none, (Value.ref 319), Value.none, 0⟩), (List.toArray [])⟩
noncomputable def md_325 (_P : Params) : Obj := ⟨Value.none, none, (Data.func ⟨(Str.ofString "chosen"), (Str.ofString "Evaluator.chosen"), (dP (meAt 36 8)), (FuncBody.stmts (dB (meAt 36 8))), (dS (meAt 36 8)), 0, [], Value.none, Value.none, Value.none, Value.none, none, Value.none, Value.none, 0⟩), (List.toArray [])⟩
noncomputable def md_327 (_P : Params) : Obj := ⟨(Value.type "function"), none, (Data.func ⟨(Str.ofString "chosen"), (Str.ofString "Evaluator.chosen"), (dP (meAt 36 8)), (FuncBody.stmts (dB (meAt 36 8))), (dS (meAt 36 8)), 3, [], Value.none, Value.none, Value.none, (Value.str (Str.ofString "fdsolve.values") 340), none, (Value.ref 326), Value.none, 0⟩), (List.toArray [])⟩
noncomputable def md_332 (_P : Params) : Obj := ⟨Value.none, none, (Data.func ⟨(Str.ofString "within"), (Str.ofString "Evaluator.within"), (dP (meAt 36 9)), (FuncBody.stmts (dB (meAt 36 9))), (dS (meAt 36 9)), 0, [], Value.none, Value.none, Value.none, Value.none, none, Value.none, Value.none, 0⟩), (List.toArray [])⟩
noncomputable def md_334 (_P : Params) : Obj := ⟨(Value.type "function"), none, (Data.func ⟨(Str.ofString "within"), (Str.ofString "Evaluator.within"), (dP (meAt 36 9)), (FuncBody.stmts (dB (meAt 36 9))), (dS (meAt 36 9)), 3, [], Value.none, Value.none, Value.none, (Value.str (Str.ofString "fdsolve.values") 340), none, (Value.ref 333), Value.none, 0⟩), (List.toArray [])⟩
noncomputable def md_339 (_P : Params) : Obj := ⟨Value.none, none, (Data.func ⟨(Str.ofString "ranges_of"), (Str.ofString "Evaluator.ranges_of"), (dP (meAt 36 10)), (FuncBody.stmts (dB (meAt 36 10))), (dS (meAt 36 10)), 0, [], Value.none, Value.none, Value.none, Value.none, none, Value.none, Value.none, 0⟩), (List.toArray [])⟩
noncomputable def md_341 (_P : Params) : Obj := ⟨(Value.type "function"), none, (Data.func ⟨(Str.ofString "ranges_of"), (Str.ofString "Evaluator.ranges_of"), (dP (meAt 36 10)), (FuncBody.stmts (dB (meAt 36 10))), (dS (meAt 36 10)), 3, [], Value.none, Value.none, Value.none, (Value.str (Str.ofString "fdsolve.values") 340), none, (Value.ref 340), Value.none, 0⟩), (List.toArray [])⟩
noncomputable def md_346 (_P : Params) : Obj := ⟨Value.none, none, (Data.func ⟨(Str.ofString "domain_of"), (Str.ofString "Evaluator.domain_of"), (dP (meAt 36 11)), (FuncBody.stmts (dB (meAt 36 11))), (dS (meAt 36 11)), 0, [], Value.none, Value.none, Value.none, Value.none, none, Value.none, Value.none, 0⟩), (List.toArray [])⟩
noncomputable def md_348 (_P : Params) : Obj := ⟨(Value.type "function"), none, (Data.func ⟨(Str.ofString "domain_of"), (Str.ofString "Evaluator.domain_of"), (dP (meAt 36 11)), (FuncBody.stmts (dB (meAt 36 11))), (dS (meAt 36 11)), 3, [], Value.none, Value.none, Value.none, (Value.str (Str.ofString "fdsolve.values") 340), none, (Value.ref 347), Value.none, 0⟩), (List.toArray [])⟩
noncomputable def md_351 (_P : Params) : Obj := ⟨Value.none, none, (Data.func ⟨(Str.ofString "fitted"), (Str.ofString "Evaluator.fitted"), (dP (meAt 36 12)), (FuncBody.stmts (dB (meAt 36 12))), (dS (meAt 36 12)), 0, [], Value.none, Value.none, Value.none, Value.none, none, Value.none, Value.none, 0⟩), (List.toArray [])⟩
noncomputable def md_353 (_P : Params) : Obj := ⟨(Value.type "function"), none, (Data.func ⟨(Str.ofString "fitted"), (Str.ofString "Evaluator.fitted"), (dP (meAt 36 12)), (FuncBody.stmts (dB (meAt 36 12))), (dS (meAt 36 12)), 3, [], Value.none, Value.none, Value.none, (Value.str (Str.ofString "fdsolve.values") 340), none, (Value.ref 352), Value.none, 0⟩), (List.toArray [])⟩
noncomputable def md_359 (_P : Params) : Obj := ⟨(Value.type "super"), none, (Data.fields (List.toArray [(Value.ref 356), (Value.ref 356), (Value.ref 356)])), (List.toArray [])⟩
noncomputable def md_360 (_P : Params) : Obj := ⟨(Value.type "builtin_function_or_method"), none, (Data.fields (List.toArray [(Value.builtin "object.__init_subclass__"), (Value.ref 356)])), (List.toArray [])⟩
noncomputable def me_363 (_P : Params) : Obj := ⟨Value.none, none, (Data.func ⟨(Str.ofString "fitted_one"), (Str.ofString "fitted_one"), (dP (stAt 37)), (FuncBody.stmts (dB (stAt 37))), (dS (stAt 37)), 0, [], Value.none, Value.none, Value.none, Value.none, none, Value.none, Value.none, 0⟩), (List.toArray [])⟩
noncomputable def me_365 (_P : Params) : Obj := ⟨(Value.type "function"), none, (Data.func ⟨(Str.ofString "fitted_one"), (Str.ofString "fitted_one"), (dP (stAt 37)), (FuncBody.stmts (dB (stAt 37))), (dS (stAt 37)), 3, [], Value.none, Value.none, Value.none, (Value.str (Str.ofString "fdsolve.values") 340), none, (Value.ref 364), Value.none, 0⟩), (List.toArray [])⟩
noncomputable def me_368 (_P : Params) : Obj := ⟨Value.none, none, (Data.func ⟨(Str.ofString "called"), (Str.ofString "called"), (dP (stAt 38)), (FuncBody.stmts (dB (stAt 38))), (dS (stAt 38)), 0, [], Value.none, Value.none, Value.none, Value.none, none, Value.none, Value.none, 0⟩), (List.toArray [])⟩
noncomputable def me_370 (_P : Params) : Obj := ⟨(Value.type "function"), none, (Data.func ⟨(Str.ofString "called"), (Str.ofString "called"), (dP (stAt 38)), (FuncBody.stmts (dB (stAt 38))), (dS (stAt 38)), 3, [], Value.none, Value.none, Value.none, (Value.str (Str.ofString "fdsolve.values") 340), none, (Value.ref 369), Value.none, 0⟩), (List.toArray [])⟩
noncomputable def me_375 (_P : Params) : Obj := ⟨Value.none, none, (Data.func ⟨(Str.ofString "alone"), (Str.ofString "alone"), (dP (stAt 39)), (FuncBody.stmts (dB (stAt 39))), (dS (stAt 39)), 0, [], Value.none, Value.none, Value.none, Value.none, none, Value.none, Value.none, 0⟩), (List.toArray [])⟩
noncomputable def me_377 (_P : Params) : Obj := ⟨(Value.type "function"), none, (Data.func ⟨(Str.ofString "alone"), (Str.ofString "alone"), (dP (stAt 39)), (FuncBody.stmts (dB (stAt 39))), (dS (stAt 39)), 3, [], Value.none, Value.none, Value.none, (Value.str (Str.ofString "fdsolve.values") 340), none, (Value.ref 376), Value.none, 0⟩), (List.toArray [])⟩
noncomputable def me_380 (_P : Params) : Obj := ⟨Value.none, none, (Data.func ⟨(Str.ofString "of_value"), (Str.ofString "of_value"), (dP (stAt 40)), (FuncBody.stmts (dB (stAt 40))), (dS (stAt 40)), 0, [], Value.none, Value.none, Value.none, Value.none, none, Value.none, Value.none, 0⟩), (List.toArray [])⟩
noncomputable def me_382 (_P : Params) : Obj := ⟨(Value.type "function"), none, (Data.func ⟨(Str.ofString "of_value"), (Str.ofString "of_value"), (dP (stAt 40)), (FuncBody.stmts (dB (stAt 40))), (dS (stAt 40)), 3, [], Value.none, Value.none, Value.none, (Value.str (Str.ofString "fdsolve.values") 340), none, (Value.ref 381), Value.none, 0⟩), (List.toArray [])⟩
noncomputable def me_387 (_P : Params) : Obj := ⟨Value.none, none, (Data.func ⟨(Str.ofString "indexes_of"), (Str.ofString "indexes_of"), (dP (stAt 41)), (FuncBody.stmts (dB (stAt 41))), (dS (stAt 41)), 0, [], Value.none, Value.none, Value.none, Value.none, none, Value.none, Value.none, 0⟩), (List.toArray [])⟩
noncomputable def me_389 (_P : Params) : Obj := ⟨(Value.type "function"), none, (Data.func ⟨(Str.ofString "indexes_of"), (Str.ofString "indexes_of"), (dP (stAt 41)), (FuncBody.stmts (dB (stAt 41))), (dS (stAt 41)), 3, [], Value.none, Value.none, Value.none, (Value.str (Str.ofString "fdsolve.values") 340), none, (Value.ref 388), Value.none, 0⟩), (List.toArray [])⟩
noncomputable def me_392 (_P : Params) : Obj := ⟨Value.none, none, (Data.func ⟨(Str.ofString "indexed"), (Str.ofString "indexed"), (dP (stAt 42)), (FuncBody.stmts (dB (stAt 42))), (dS (stAt 42)), 0, [], Value.none, Value.none, Value.none, Value.none, none, Value.none, Value.none, 0⟩), (List.toArray [])⟩
noncomputable def me_394 (_P : Params) : Obj := ⟨(Value.type "function"), none, (Data.func ⟨(Str.ofString "indexed"), (Str.ofString "indexed"), (dP (stAt 42)), (FuncBody.stmts (dB (stAt 42))), (dS (stAt 42)), 3, [], Value.none, Value.none, Value.none, (Value.str (Str.ofString "fdsolve.values") 340), none, (Value.ref 393), Value.none, 0⟩), (List.toArray [])⟩
noncomputable def me_399 (_P : Params) : Obj := ⟨Value.none, none, (Data.func ⟨(Str.ofString "united"), (Str.ofString "united"), (dP (stAt 43)), (FuncBody.stmts (dB (stAt 43))), (dS (stAt 43)), 0, [], Value.none, Value.none, Value.none, Value.none, none, Value.none, Value.none, 0⟩), (List.toArray [])⟩
noncomputable def me_401 (_P : Params) : Obj := ⟨(Value.type "function"), none, (Data.func ⟨(Str.ofString "united"), (Str.ofString "united"), (dP (stAt 43)), (FuncBody.stmts (dB (stAt 43))), (dS (stAt 43)), 3, [], Value.none, Value.none, Value.none, (Value.str (Str.ofString "fdsolve.values") 340), none, (Value.ref 400), Value.none, 0⟩), (List.toArray [])⟩
noncomputable def me_406 (_P : Params) : Obj := ⟨Value.none, none, (Data.func ⟨(Str.ofString "_law_draw"), (Str.ofString "_law_draw"), (dP (stAt 45)), (FuncBody.stmts (dB (stAt 45))), (dS (stAt 45)), 0, [], Value.none, Value.none, Value.none, Value.none, none, Value.none, Value.none, 0⟩), (List.toArray [])⟩
noncomputable def me_408 (_P : Params) : Obj := ⟨(Value.type "function"), none, (Data.func ⟨(Str.ofString "_law_draw"), (Str.ofString "_law_draw"), (dP (stAt 45)), (FuncBody.stmts (dB (stAt 45))), (dS (stAt 45)), 3, [], Value.none, Value.none, Value.none, (Value.str (Str.ofString "law_nz0031_02") 722), none, (Value.ref 407), Value.none, 0⟩), (List.toArray [])⟩
noncomputable def me_413 (_P : Params) : Obj := ⟨Value.none, none, (Data.func ⟨(Str.ofString "_law_heard"), (Str.ofString "_law_heard"), (dP (stAt 46)), (FuncBody.stmts (dB (stAt 46))), (dS (stAt 46)), 0, [], Value.none, Value.none, Value.none, Value.none, none, Value.none, Value.none, 0⟩), (List.toArray [])⟩
noncomputable def me_415 (_P : Params) : Obj := ⟨(Value.type "function"), none, (Data.func ⟨(Str.ofString "_law_heard"), (Str.ofString "_law_heard"), (dP (stAt 46)), (FuncBody.stmts (dB (stAt 46))), (dS (stAt 46)), 3, [], Value.none, Value.none, Value.none, (Value.str (Str.ofString "law_nz0031_02") 722), none, (Value.ref 414), Value.none, 0⟩), (List.toArray [])⟩
noncomputable def me_420 (_P : Params) : Obj := ⟨Value.none, none, (Data.func ⟨(Str.ofString "_law_number"), (Str.ofString "_law_number"), (dP (stAt 47)), (FuncBody.stmts (dB (stAt 47))), (dS (stAt 47)), 0, [], Value.none, Value.none, Value.none, Value.none, none, Value.none, Value.none, 0⟩), (List.toArray [])⟩
noncomputable def me_422 (_P : Params) : Obj := ⟨(Value.type "function"), none, (Data.func ⟨(Str.ofString "_law_number"), (Str.ofString "_law_number"), (dP (stAt 47)), (FuncBody.stmts (dB (stAt 47))), (dS (stAt 47)), 3, [], Value.none, Value.none, Value.none, (Value.str (Str.ofString "law_nz0031_02") 722), none, (Value.ref 421), Value.none, 0⟩), (List.toArray [])⟩
noncomputable def me_427 (_P : Params) : Obj := ⟨Value.none, none, (Data.func ⟨(Str.ofString "_law_pair"), (Str.ofString "_law_pair"), (dP (stAt 48)), (FuncBody.stmts (dB (stAt 48))), (dS (stAt 48)), 0, [], Value.none, Value.none, Value.none, Value.none, none, Value.none, Value.none, 0⟩), (List.toArray [])⟩
noncomputable def me_429 (_P : Params) : Obj := ⟨(Value.type "function"), none, (Data.func ⟨(Str.ofString "_law_pair"), (Str.ofString "_law_pair"), (dP (stAt 48)), (FuncBody.stmts (dB (stAt 48))), (dS (stAt 48)), 3, [], Value.none, Value.none, Value.none, (Value.str (Str.ofString "law_nz0031_02") 722), none, (Value.ref 428), Value.none, 0⟩), (List.toArray [])⟩
noncomputable def me_434 (_P : Params) : Obj := ⟨Value.none, none, (Data.func ⟨(Str.ofString "_law_times"), (Str.ofString "_law_times"), (dP (stAt 49)), (FuncBody.stmts (dB (stAt 49))), (dS (stAt 49)), 0, [], Value.none, Value.none, Value.none, Value.none, none, Value.none, Value.none, 0⟩), (List.toArray [])⟩
noncomputable def me_436 (_P : Params) : Obj := ⟨(Value.type "function"), none, (Data.func ⟨(Str.ofString "_law_times"), (Str.ofString "_law_times"), (dP (stAt 49)), (FuncBody.stmts (dB (stAt 49))), (dS (stAt 49)), 3, [], Value.none, Value.none, Value.none, (Value.str (Str.ofString "law_nz0031_02") 722), none, (Value.ref 435), Value.none, 0⟩), (List.toArray [])⟩
noncomputable def me_441 (_P : Params) : Obj := ⟨Value.none, none, (Data.func ⟨(Str.ofString "_law_parted"), (Str.ofString "_law_parted"), (dP (stAt 50)), (FuncBody.stmts (dB (stAt 50))), (dS (stAt 50)), 0, [], Value.none, Value.none, Value.none, Value.none, none, Value.none, Value.none, 0⟩), (List.toArray [])⟩
noncomputable def me_443 (_P : Params) : Obj := ⟨(Value.type "function"), none, (Data.func ⟨(Str.ofString "_law_parted"), (Str.ofString "_law_parted"), (dP (stAt 50)), (FuncBody.stmts (dB (stAt 50))), (dS (stAt 50)), 3, [], Value.none, Value.none, Value.none, (Value.str (Str.ofString "law_nz0031_02") 722), none, (Value.ref 442), Value.none, 0⟩), (List.toArray [])⟩
noncomputable def me_448 (_P : Params) : Obj := ⟨Value.none, none, (Data.func ⟨(Str.ofString "_law_power"), (Str.ofString "_law_power"), (dP (stAt 51)), (FuncBody.stmts (dB (stAt 51))), (dS (stAt 51)), 0, [], Value.none, Value.none, Value.none, Value.none, none, Value.none, Value.none, 0⟩), (List.toArray [])⟩
noncomputable def me_450 (_P : Params) : Obj := ⟨(Value.type "function"), none, (Data.func ⟨(Str.ofString "_law_power"), (Str.ofString "_law_power"), (dP (stAt 51)), (FuncBody.stmts (dB (stAt 51))), (dS (stAt 51)), 3, [], Value.none, Value.none, Value.none, (Value.str (Str.ofString "law_nz0031_02") 722), none, (Value.ref 449), Value.none, 0⟩), (List.toArray [])⟩
noncomputable def me_455 (_P : Params) : Obj := ⟨Value.none, none, (Data.func ⟨(Str.ofString "_law_due"), (Str.ofString "_law_due"), (dP (stAt 52)), (FuncBody.stmts (dB (stAt 52))), (dS (stAt 52)), 0, [], Value.none, Value.none, Value.none, Value.none, none, Value.none, Value.none, 0⟩), (List.toArray [])⟩
noncomputable def me_457 (_P : Params) : Obj := ⟨(Value.type "function"), none, (Data.func ⟨(Str.ofString "_law_due"), (Str.ofString "_law_due"), (dP (stAt 52)), (FuncBody.stmts (dB (stAt 52))), (dS (stAt 52)), 3, [], Value.none, Value.none, Value.none, (Value.str (Str.ofString "law_nz0031_02") 722), none, (Value.ref 456), Value.none, 0⟩), (List.toArray [])⟩
noncomputable def me_459 (_P : Params) : Obj := ⟨Value.none, none, (Data.fields (List.toArray [])), (List.toArray [])⟩
noncomputable def me_462 (_P : Params) : Obj := ⟨Value.none, none, (Data.func ⟨(Str.ofString "_law_node_right"), (Str.ofString "_law_node_right"), (dP (stAt 53)), (FuncBody.stmts (dB (stAt 53))), (dS (stAt 53)), 0, [], Value.none, Value.none, Value.none, Value.none, none, Value.none, Value.none, 0⟩), (List.toArray [])⟩
noncomputable def me_464 (_P : Params) : Obj := ⟨(Value.type "function"), none, (Data.func ⟨(Str.ofString "_law_node_right"), (Str.ofString "_law_node_right"), (dP (stAt 53)), (FuncBody.stmts (dB (stAt 53))), (dS (stAt 53)), 3, [], Value.none, Value.none, Value.none, (Value.str (Str.ofString "law_nz0031_02") 722), none, (Value.ref 463), Value.none, 0⟩), (List.toArray [])⟩
noncomputable def me_466 (_P : Params) : Obj := ⟨Value.none, none, (Data.fields (List.toArray [])), (List.toArray [])⟩
noncomputable def me_469 (_P : Params) : Obj := ⟨Value.none, none, (Data.func ⟨(Str.ofString "law"), (Str.ofString "law"), (dP (stAt 54)), (FuncBody.stmts (dB (stAt 54))), (dS (stAt 54)), 0, [], Value.none, Value.none, Value.none, Value.none, none, Value.none, Value.none, 0⟩), (List.toArray [])⟩
noncomputable def me_471 (_P : Params) : Obj := ⟨(Value.type "function"), none, (Data.func ⟨(Str.ofString "law"), (Str.ofString "law"), (dP (stAt 54)), (FuncBody.stmts (dB (stAt 54))), (dS (stAt 54)), 3, [], Value.none, Value.none, Value.none, (Value.str (Str.ofString "law_nz0031_02") 722), none, (Value.ref 470), Value.none, 0⟩), (List.toArray [])⟩
noncomputable def ha (P : Params) : Heap := ⟨⟨[boot_o_0 P, boot_o_1 P, boot_o_2 P, boot_o_3 P, boot_o_4 P, boot_o_5 P, boot_o_6 P, boot_o_7 P, boot_o_8 P, boot_o_9 P, boot_o_10 P, o_11 P, ma_12 P, o_13 P, o_14 P]⟩, ⟨[], [], [], 0, [], [], false, (List.toArray []), [], 0, false, false, false, 0, [2000, 10, 10], false, 0, true, [], [], 0, false⟩⟩
noncomputable def hb (P : Params) : Heap := ⟨⟨[boot_o_0 P, boot_o_1 P, o_2 P, mb_3 P, boot_o_4 P, boot_o_5 P, boot_o_6 P, boot_o_7 P, boot_o_8 P, boot_o_9 P, boot_o_10 P, o_11 P, mb_12 P, o_13 P, o_14 P, o_15 P, o_16 P, o_17 P, o_18 P, mb_19 P, o_20 P, mb_21 P, o_22 P, o_23 P, o_24 P, o_25 P, mb_26 P, o_27 P, mb_28 P, o_29 P, o_30 P, o_31 P, o_32 P, mb_33 P, o_34 P, mb_35 P, o_36 P, o_37 P, o_38 P, o_39 P, mb_40 P, o_41 P, mb_42 P, o_43 P, o_44 P, o_45 P, o_46 P, mb_47 P, o_48 P, mb_49 P, o_50 P, mb_51 P, mb_52 P, o_53 P, mb_54 P, mb_55 P, mb_56 P, mb_57 P, o_58 P, o_59 P, o_60 P, o_61 P, o_62 P, mb_63 P, o_64 P, mb_65 P, o_66 P, o_67 P, o_68 P, o_69 P, mb_70 P, o_71 P, mb_72 P, o_73 P, o_74 P, o_75 P, o_76 P, mb_77 P, mb_78 P, o_79 P, mb_80 P, mb_81 P, o_82 P, mb_83 P, mb_84 P, mb_85 P, mb_86 P, o_87 P, o_88 P, o_89 P, o_90 P, o_91 P, mb_92 P, o_93 P, mb_94 P, o_95 P, o_96 P, o_97 P, o_98 P, mb_99 P, o_100 P, mb_101 P, o_102 P, o_103 P, o_104 P, mb_105 P, mb_106 P, o_107 P, mb_108 P, mb_109 P, mb_110 P, mb_111 P, mb_112 P, mb_113 P, o_114 P, o_115 P, o_116 P, mb_117 P, mb_118 P, o_119 P, mb_120 P, mb_121 P, mb_122 P, mb_123 P, mb_124 P, mb_125 P, o_126 P, o_127 P, o_128 P, mb_129 P, mb_130 P]⟩, ⟨[], [], [], 0, [], [], false, (List.toArray []), [], 0, false, false, false, 0, [2000, 10, 10], false, 0, true, [], [], 0, false⟩⟩
noncomputable def hc (P : Params) : Heap := ⟨⟨[boot_o_0 P, boot_o_1 P, o_2 P, mc_3 P, boot_o_4 P, boot_o_5 P, boot_o_6 P, boot_o_7 P, boot_o_8 P, boot_o_9 P, boot_o_10 P, o_11 P, mc_12 P, o_13 P, o_14 P, o_15 P, o_16 P, o_17 P, o_18 P, mb_19 P, o_20 P, mb_21 P, o_22 P, o_23 P, o_24 P, o_25 P, mb_26 P, o_27 P, mb_28 P, o_29 P, o_30 P, o_31 P, o_32 P, mb_33 P, o_34 P, mb_35 P, o_36 P, o_37 P, o_38 P, o_39 P, mb_40 P, o_41 P, mb_42 P, o_43 P, o_44 P, o_45 P, o_46 P, mb_47 P, o_48 P, mb_49 P, o_50 P, mb_51 P, mb_52 P, o_53 P, mb_54 P, mb_55 P, mb_56 P, mb_57 P, o_58 P, o_59 P, o_60 P, o_61 P, o_62 P, mb_63 P, o_64 P, mb_65 P, o_66 P, o_67 P, o_68 P, o_69 P, mb_70 P, o_71 P, mb_72 P, o_73 P, o_74 P, o_75 P, o_76 P, mb_77 P, mb_78 P, o_79 P, mb_80 P, mb_81 P, o_82 P, mb_83 P, mb_84 P, mb_85 P, mb_86 P, o_87 P, o_88 P, o_89 P, o_90 P, o_91 P, mb_92 P, o_93 P, mb_94 P, o_95 P, o_96 P, o_97 P, o_98 P, mb_99 P, o_100 P, mb_101 P, o_102 P, o_103 P, o_104 P, mb_105 P, mb_106 P, o_107 P, mb_108 P, mb_109 P, mb_110 P, mb_111 P, mb_112 P, mb_113 P, o_114 P, o_115 P, o_116 P, mb_117 P, mb_118 P, o_119 P, mb_120 P, mb_121 P, mb_122 P, mb_123 P, mb_124 P, mb_125 P, o_126 P, o_127 P, o_128 P, mb_129 P, mb_130 P, o_131 P, o_132 P, o_133 P, o_134 P, mc_135 P, o_136 P, mc_137 P, o_138 P, o_139 P, o_140 P, o_141 P, mc_142 P, o_143 P, mc_144 P, o_145 P, o_146 P, o_147 P, o_148 P, mc_149 P, o_150 P, mc_151 P, o_152 P, o_153 P, o_154 P, o_155 P, mc_156 P, o_157 P, mc_158 P, o_159 P, o_160 P, o_161 P, o_162 P, mc_163 P, o_164 P, mc_165 P, o_166 P, o_167 P, o_168 P, o_169 P, mc_170 P, o_171 P, mc_172 P, o_173 P, o_174 P, o_175 P, o_176 P, mc_177 P, o_178 P, mc_179 P, o_180 P, o_181 P, o_182 P, o_183 P, mc_184 P, o_185 P, mc_186 P, o_187 P, o_188 P, o_189 P, o_190 P, mc_191 P, o_192 P, mc_193 P, o_194 P, o_195 P, o_196 P, o_197 P, mc_198 P, o_199 P, mc_200 P, o_201 P, o_202 P, o_203 P, o_204 P, mc_205 P, o_206 P, mc_207 P, o_208 P, o_209 P, o_210 P, o_211 P, mc_212 P, o_213 P, mc_214 P, o_215 P, o_216 P, o_217 P, o_218 P, mc_219 P, o_220 P, mc_221 P, o_222 P, o_223 P, mc_224 P, o_225 P, mc_226 P, o_227 P, o_228 P, o_229 P, o_230 P, mc_231 P, o_232 P, mc_233 P, o_234 P, o_235 P, mc_236 P, o_237 P, mc_238 P, o_239 P, o_240 P, o_241 P, o_242 P, mc_243 P, o_244 P, mc_245 P, o_246 P, o_247 P, mc_248 P, o_249 P, mc_250 P, o_251 P, o_252 P, mc_253 P, o_254 P, mc_255 P, o_256 P, o_257 P, o_258 P, mc_259 P, o_260 P, mc_261 P]⟩, ⟨[], [], [], 0, [], [], false, (List.toArray []), [], 0, false, false, false, 0, [2000, 10, 10], false, 0, true, [], [], 0, false⟩⟩
noncomputable def hd (P : Params) : Heap := ⟨⟨[boot_o_0 P, boot_o_1 P, o_2 P, md_3 P, boot_o_4 P, boot_o_5 P, boot_o_6 P, boot_o_7 P, boot_o_8 P, boot_o_9 P, boot_o_10 P, o_11 P, md_12 P, o_13 P, o_14 P, o_15 P, o_16 P, o_17 P, o_18 P, mb_19 P, o_20 P, mb_21 P, o_22 P, o_23 P, o_24 P, o_25 P, mb_26 P, o_27 P, mb_28 P, o_29 P, o_30 P, o_31 P, o_32 P, mb_33 P, o_34 P, mb_35 P, o_36 P, o_37 P, o_38 P, o_39 P, mb_40 P, o_41 P, mb_42 P, o_43 P, o_44 P, o_45 P, o_46 P, mb_47 P, o_48 P, mb_49 P, o_50 P, mb_51 P, mb_52 P, o_53 P, mb_54 P, mb_55 P, mb_56 P, mb_57 P, o_58 P, o_59 P, o_60 P, o_61 P, o_62 P, mb_63 P, o_64 P, mb_65 P, o_66 P, o_67 P, o_68 P, o_69 P, mb_70 P, o_71 P, mb_72 P, o_73 P, o_74 P, o_75 P, o_76 P, mb_77 P, mb_78 P, o_79 P, mb_80 P, mb_81 P, o_82 P, mb_83 P, mb_84 P, mb_85 P, mb_86 P, o_87 P, o_88 P, o_89 P, o_90 P, o_91 P, mb_92 P, o_93 P, mb_94 P, o_95 P, o_96 P, o_97 P, o_98 P, mb_99 P, o_100 P, mb_101 P, o_102 P, o_103 P, o_104 P, mb_105 P, mb_106 P, o_107 P, mb_108 P, mb_109 P, mb_110 P, mb_111 P, mb_112 P, mb_113 P, o_114 P, o_115 P, o_116 P, mb_117 P, mb_118 P, o_119 P, mb_120 P, mb_121 P, mb_122 P, mb_123 P, mb_124 P, mb_125 P, o_126 P, o_127 P, o_128 P, mb_129 P, mb_130 P, o_131 P, o_132 P, o_133 P, o_134 P, mc_135 P, o_136 P, mc_137 P, o_138 P, o_139 P, o_140 P, o_141 P, mc_142 P, o_143 P, mc_144 P, o_145 P, o_146 P, o_147 P, o_148 P, mc_149 P, o_150 P, mc_151 P, o_152 P, o_153 P, o_154 P, o_155 P, mc_156 P, o_157 P, mc_158 P, o_159 P, o_160 P, o_161 P, o_162 P, mc_163 P, o_164 P, mc_165 P, o_166 P, o_167 P, o_168 P, o_169 P, mc_170 P, o_171 P, mc_172 P, o_173 P, o_174 P, o_175 P, o_176 P, mc_177 P, o_178 P, mc_179 P, o_180 P, o_181 P, o_182 P, o_183 P, mc_184 P, o_185 P, mc_186 P, o_187 P, o_188 P, o_189 P, o_190 P, mc_191 P, o_192 P, mc_193 P, o_194 P, o_195 P, o_196 P, o_197 P, mc_198 P, o_199 P, mc_200 P, o_201 P, o_202 P, o_203 P, o_204 P, mc_205 P, o_206 P, mc_207 P, o_208 P, o_209 P, o_210 P, o_211 P, mc_212 P, o_213 P, mc_214 P, o_215 P, o_216 P, o_217 P, o_218 P, mc_219 P, o_220 P, mc_221 P, o_222 P, o_223 P, mc_224 P, o_225 P, mc_226 P, o_227 P, o_228 P, o_229 P, o_230 P, mc_231 P, o_232 P, mc_233 P, o_234 P, o_235 P, mc_236 P, o_237 P, mc_238 P, o_239 P, o_240 P, o_241 P, o_242 P, mc_243 P, o_244 P, mc_245 P, o_246 P, o_247 P, mc_248 P, o_249 P, mc_250 P, o_251 P, o_252 P, mc_253 P, o_254 P, mc_255 P, o_256 P, o_257 P, o_258 P, mc_259 P, o_260 P, mc_261 P, md_262 P, md_263 P, md_264 P, md_265 P, md_266 P, md_267 P, md_268 P, o_269 P, o_270 P, o_271 P, o_272 P, md_273 P, o_274 P, md_275 P, o_276 P, o_277 P, o_278 P, o_279 P, md_280 P, o_281 P, md_282 P, o_283 P, o_284 P, md_285 P, o_286 P, md_287 P, o_288 P, o_289 P, md_290 P, o_291 P, md_292 P, o_293 P, o_294 P, o_295 P, o_296 P, md_297 P, o_298 P, md_299 P, o_300 P, o_301 P, o_302 P, o_303 P, md_304 P, o_305 P, md_306 P, o_307 P, o_308 P, o_309 P, o_310 P, md_311 P, o_312 P, md_313 P, o_314 P, o_315 P, o_316 P, o_317 P, md_318 P, o_319 P, md_320 P, o_321 P, o_322 P, o_323 P, o_324 P, md_325 P, o_326 P, md_327 P, o_328 P, o_329 P, o_330 P, o_331 P, md_332 P, o_333 P, md_334 P, o_335 P, o_336 P, o_337 P, o_338 P, md_339 P, o_340 P, md_341 P, o_342 P, o_343 P, o_344 P, o_345 P, md_346 P, o_347 P, md_348 P, o_349 P, o_350 P, md_351 P, o_352 P, md_353 P, o_354 P, o_355 P, o_356 P, o_357 P, o_358 P, md_359 P, md_360 P]⟩, ⟨[], [], [], 0, [], [], false, (List.toArray []), [], 0, false, false, false, 0, [2000, 10, 10], false, 0, true, [], [], 0, false⟩⟩
noncomputable def he (P : Params) : Heap := ⟨⟨[boot_o_0 P, boot_o_1 P, o_2 P, o_3 P, boot_o_4 P, boot_o_5 P, boot_o_6 P, boot_o_7 P, boot_o_8 P, boot_o_9 P, boot_o_10 P, o_11 P, o_12 P, o_13 P, o_14 P, o_15 P, o_16 P, o_17 P, o_18 P, mb_19 P, o_20 P, mb_21 P, o_22 P, o_23 P, o_24 P, o_25 P, mb_26 P, o_27 P, mb_28 P, o_29 P, o_30 P, o_31 P, o_32 P, mb_33 P, o_34 P, mb_35 P, o_36 P, o_37 P, o_38 P, o_39 P, mb_40 P, o_41 P, mb_42 P, o_43 P, o_44 P, o_45 P, o_46 P, mb_47 P, o_48 P, mb_49 P, o_50 P, mb_51 P, mb_52 P, o_53 P, mb_54 P, mb_55 P, mb_56 P, mb_57 P, o_58 P, o_59 P, o_60 P, o_61 P, o_62 P, mb_63 P, o_64 P, mb_65 P, o_66 P, o_67 P, o_68 P, o_69 P, mb_70 P, o_71 P, mb_72 P, o_73 P, o_74 P, o_75 P, o_76 P, mb_77 P, mb_78 P, o_79 P, mb_80 P, mb_81 P, o_82 P, mb_83 P, mb_84 P, mb_85 P, mb_86 P, o_87 P, o_88 P, o_89 P, o_90 P, o_91 P, mb_92 P, o_93 P, mb_94 P, o_95 P, o_96 P, o_97 P, o_98 P, mb_99 P, o_100 P, mb_101 P, o_102 P, o_103 P, o_104 P, mb_105 P, mb_106 P, o_107 P, mb_108 P, mb_109 P, mb_110 P, mb_111 P, mb_112 P, mb_113 P, o_114 P, o_115 P, o_116 P, mb_117 P, mb_118 P, o_119 P, mb_120 P, mb_121 P, mb_122 P, mb_123 P, mb_124 P, mb_125 P, o_126 P, o_127 P, o_128 P, mb_129 P, mb_130 P, o_131 P, o_132 P, o_133 P, o_134 P, mc_135 P, o_136 P, mc_137 P, o_138 P, o_139 P, o_140 P, o_141 P, mc_142 P, o_143 P, mc_144 P, o_145 P, o_146 P, o_147 P, o_148 P, mc_149 P, o_150 P, mc_151 P, o_152 P, o_153 P, o_154 P, o_155 P, mc_156 P, o_157 P, mc_158 P, o_159 P, o_160 P, o_161 P, o_162 P, mc_163 P, o_164 P, mc_165 P, o_166 P, o_167 P, o_168 P, o_169 P, mc_170 P, o_171 P, mc_172 P, o_173 P, o_174 P, o_175 P, o_176 P, mc_177 P, o_178 P, mc_179 P, o_180 P, o_181 P, o_182 P, o_183 P, mc_184 P, o_185 P, mc_186 P, o_187 P, o_188 P, o_189 P, o_190 P, mc_191 P, o_192 P, mc_193 P, o_194 P, o_195 P, o_196 P, o_197 P, mc_198 P, o_199 P, mc_200 P, o_201 P, o_202 P, o_203 P, o_204 P, mc_205 P, o_206 P, mc_207 P, o_208 P, o_209 P, o_210 P, o_211 P, mc_212 P, o_213 P, mc_214 P, o_215 P, o_216 P, o_217 P, o_218 P, mc_219 P, o_220 P, mc_221 P, o_222 P, o_223 P, mc_224 P, o_225 P, mc_226 P, o_227 P, o_228 P, o_229 P, o_230 P, mc_231 P, o_232 P, mc_233 P, o_234 P, o_235 P, mc_236 P, o_237 P, mc_238 P, o_239 P, o_240 P, o_241 P, o_242 P, mc_243 P, o_244 P, mc_245 P, o_246 P, o_247 P, mc_248 P, o_249 P, mc_250 P, o_251 P, o_252 P, mc_253 P, o_254 P, mc_255 P, o_256 P, o_257 P, o_258 P, mc_259 P, o_260 P, mc_261 P, md_262 P, md_263 P, md_264 P, md_265 P, md_266 P, md_267 P, md_268 P, o_269 P, o_270 P, o_271 P, o_272 P, md_273 P, o_274 P, md_275 P, o_276 P, o_277 P, o_278 P, o_279 P, md_280 P, o_281 P, md_282 P, o_283 P, o_284 P, md_285 P, o_286 P, md_287 P, o_288 P, o_289 P, md_290 P, o_291 P, md_292 P, o_293 P, o_294 P, o_295 P, o_296 P, md_297 P, o_298 P, md_299 P, o_300 P, o_301 P, o_302 P, o_303 P, md_304 P, o_305 P, md_306 P, o_307 P, o_308 P, o_309 P, o_310 P, md_311 P, o_312 P, md_313 P, o_314 P, o_315 P, o_316 P, o_317 P, md_318 P, o_319 P, md_320 P, o_321 P, o_322 P, o_323 P, o_324 P, md_325 P, o_326 P, md_327 P, o_328 P, o_329 P, o_330 P, o_331 P, md_332 P, o_333 P, md_334 P, o_335 P, o_336 P, o_337 P, o_338 P, md_339 P, o_340 P, md_341 P, o_342 P, o_343 P, o_344 P, o_345 P, md_346 P, o_347 P, md_348 P, o_349 P, o_350 P, md_351 P, o_352 P, md_353 P, o_354 P, o_355 P, o_356 P, o_357 P, o_358 P, md_359 P, md_360 P, o_361 P, o_362 P, me_363 P, o_364 P, me_365 P, o_366 P, o_367 P, me_368 P, o_369 P, me_370 P, o_371 P, o_372 P, o_373 P, o_374 P, me_375 P, o_376 P, me_377 P, o_378 P, o_379 P, me_380 P, o_381 P, me_382 P, o_383 P, o_384 P, o_385 P, o_386 P, me_387 P, o_388 P, me_389 P, o_390 P, o_391 P, me_392 P, o_393 P, me_394 P, o_395 P, o_396 P, o_397 P, o_398 P, me_399 P, o_400 P, me_401 P, o_402 P, o_403 P, o_404 P, o_405 P, me_406 P, o_407 P, me_408 P, o_409 P, o_410 P, o_411 P, o_412 P, me_413 P, o_414 P, me_415 P, o_416 P, o_417 P, o_418 P, o_419 P, me_420 P, o_421 P, me_422 P, o_423 P, o_424 P, o_425 P, o_426 P, me_427 P, o_428 P, me_429 P, o_430 P, o_431 P, o_432 P, o_433 P, me_434 P, o_435 P, me_436 P, o_437 P, o_438 P, o_439 P, o_440 P, me_441 P, o_442 P, me_443 P, o_444 P, o_445 P, o_446 P, o_447 P, me_448 P, o_449 P, me_450 P, o_451 P, o_452 P, o_453 P, o_454 P, me_455 P, o_456 P, me_457 P, o_458 P, me_459 P, o_460 P, o_461 P, me_462 P, o_463 P, me_464 P, o_465 P, me_466 P, o_467 P, o_468 P, me_469 P, o_470 P, me_471 P]⟩, ⟨[], [], [], 0, [], [], false, (List.toArray []), [], 0, false, false, false, 0, [2000, 10, 10], false, 0, true, [], [], 0, false⟩⟩
noncomputable def hf (P : Params) : Heap := ⟨⟨[boot_o_0 P, boot_o_1 P, o_2 P, o_3 P, boot_o_4 P, boot_o_5 P, boot_o_6 P, boot_o_7 P, boot_o_8 P, boot_o_9 P, boot_o_10 P, o_11 P, o_12 P, o_13 P, o_14 P, o_15 P, o_16 P, o_17 P, o_18 P, mb_19 P, o_20 P, mb_21 P, o_22 P, o_23 P, o_24 P, o_25 P, mb_26 P, o_27 P, mb_28 P, o_29 P, o_30 P, o_31 P, o_32 P, mb_33 P, o_34 P, mb_35 P, o_36 P, o_37 P, o_38 P, o_39 P, mb_40 P, o_41 P, mb_42 P, o_43 P, o_44 P, o_45 P, o_46 P, mb_47 P, o_48 P, mb_49 P, o_50 P, mb_51 P, mb_52 P, o_53 P, mb_54 P, mb_55 P, mb_56 P, mb_57 P, o_58 P, o_59 P, o_60 P, o_61 P, o_62 P, mb_63 P, o_64 P, mb_65 P, o_66 P, o_67 P, o_68 P, o_69 P, mb_70 P, o_71 P, mb_72 P, o_73 P, o_74 P, o_75 P, o_76 P, mb_77 P, mb_78 P, o_79 P, mb_80 P, mb_81 P, o_82 P, mb_83 P, mb_84 P, mb_85 P, mb_86 P, o_87 P, o_88 P, o_89 P, o_90 P, o_91 P, mb_92 P, o_93 P, mb_94 P, o_95 P, o_96 P, o_97 P, o_98 P, mb_99 P, o_100 P, mb_101 P, o_102 P, o_103 P, o_104 P, mb_105 P, mb_106 P, o_107 P, mb_108 P, mb_109 P, mb_110 P, mb_111 P, mb_112 P, mb_113 P, o_114 P, o_115 P, o_116 P, mb_117 P, mb_118 P, o_119 P, mb_120 P, mb_121 P, mb_122 P, mb_123 P, mb_124 P, mb_125 P, o_126 P, o_127 P, o_128 P, mb_129 P, mb_130 P, o_131 P, o_132 P, o_133 P, o_134 P, mc_135 P, o_136 P, mc_137 P, o_138 P, o_139 P, o_140 P, o_141 P, mc_142 P, o_143 P, mc_144 P, o_145 P, o_146 P, o_147 P, o_148 P, mc_149 P, o_150 P, mc_151 P, o_152 P, o_153 P, o_154 P, o_155 P, mc_156 P, o_157 P, mc_158 P, o_159 P, o_160 P, o_161 P, o_162 P, mc_163 P, o_164 P, mc_165 P, o_166 P, o_167 P, o_168 P, o_169 P, mc_170 P, o_171 P, mc_172 P, o_173 P, o_174 P, o_175 P, o_176 P, mc_177 P, o_178 P, mc_179 P, o_180 P, o_181 P, o_182 P, o_183 P, mc_184 P, o_185 P, mc_186 P, o_187 P, o_188 P, o_189 P, o_190 P, mc_191 P, o_192 P, mc_193 P, o_194 P, o_195 P, o_196 P, o_197 P, mc_198 P, o_199 P, mc_200 P, o_201 P, o_202 P, o_203 P, o_204 P, mc_205 P, o_206 P, mc_207 P, o_208 P, o_209 P, o_210 P, o_211 P, mc_212 P, o_213 P, mc_214 P, o_215 P, o_216 P, o_217 P, o_218 P, mc_219 P, o_220 P, mc_221 P, o_222 P, o_223 P, mc_224 P, o_225 P, mc_226 P, o_227 P, o_228 P, o_229 P, o_230 P, mc_231 P, o_232 P, mc_233 P, o_234 P, o_235 P, mc_236 P, o_237 P, mc_238 P, o_239 P, o_240 P, o_241 P, o_242 P, mc_243 P, o_244 P, mc_245 P, o_246 P, o_247 P, mc_248 P, o_249 P, mc_250 P, o_251 P, o_252 P, mc_253 P, o_254 P, mc_255 P, o_256 P, o_257 P, o_258 P, mc_259 P, o_260 P, mc_261 P, md_262 P, md_263 P, md_264 P, md_265 P, md_266 P, md_267 P, md_268 P, o_269 P, o_270 P, o_271 P, o_272 P, md_273 P, o_274 P, md_275 P, o_276 P, o_277 P, o_278 P, o_279 P, md_280 P, o_281 P, md_282 P, o_283 P, o_284 P, md_285 P, o_286 P, md_287 P, o_288 P, o_289 P, md_290 P, o_291 P, md_292 P, o_293 P, o_294 P, o_295 P, o_296 P, md_297 P, o_298 P, md_299 P, o_300 P, o_301 P, o_302 P, o_303 P, md_304 P, o_305 P, md_306 P, o_307 P, o_308 P, o_309 P, o_310 P, md_311 P, o_312 P, md_313 P, o_314 P, o_315 P, o_316 P, o_317 P, md_318 P, o_319 P, md_320 P, o_321 P, o_322 P, o_323 P, o_324 P, md_325 P, o_326 P, md_327 P, o_328 P, o_329 P, o_330 P, o_331 P, md_332 P, o_333 P, md_334 P, o_335 P, o_336 P, o_337 P, o_338 P, md_339 P, o_340 P, md_341 P, o_342 P, o_343 P, o_344 P, o_345 P, md_346 P, o_347 P, md_348 P, o_349 P, o_350 P, md_351 P, o_352 P, md_353 P, o_354 P, o_355 P, o_356 P, o_357 P, o_358 P, md_359 P, md_360 P, o_361 P, o_362 P, me_363 P, o_364 P, me_365 P, o_366 P, o_367 P, me_368 P, o_369 P, me_370 P, o_371 P, o_372 P, o_373 P, o_374 P, me_375 P, o_376 P, me_377 P, o_378 P, o_379 P, me_380 P, o_381 P, me_382 P, o_383 P, o_384 P, o_385 P, o_386 P, me_387 P, o_388 P, me_389 P, o_390 P, o_391 P, me_392 P, o_393 P, me_394 P, o_395 P, o_396 P, o_397 P, o_398 P, me_399 P, o_400 P, me_401 P, o_402 P, o_403 P, o_404 P, o_405 P, me_406 P, o_407 P, me_408 P, o_409 P, o_410 P, o_411 P, o_412 P, me_413 P, o_414 P, me_415 P, o_416 P, o_417 P, o_418 P, o_419 P, me_420 P, o_421 P, me_422 P, o_423 P, o_424 P, o_425 P, o_426 P, me_427 P, o_428 P, me_429 P, o_430 P, o_431 P, o_432 P, o_433 P, me_434 P, o_435 P, me_436 P, o_437 P, o_438 P, o_439 P, o_440 P, me_441 P, o_442 P, me_443 P, o_444 P, o_445 P, o_446 P, o_447 P, me_448 P, o_449 P, me_450 P, o_451 P, o_452 P, o_453 P, o_454 P, me_455 P, o_456 P, me_457 P, o_458 P, me_459 P, o_460 P, o_461 P, me_462 P, o_463 P, me_464 P, o_465 P, me_466 P, o_467 P, o_468 P, me_469 P, o_470 P, me_471 P]⟩, ⟨[], [], [], 0, [], [], false, (List.toArray []), [], 0, false, false, false, 0, [2000, 10, 10], false, 0, true, [], [], 0, false⟩⟩

def env0 : Env := { scope := pw.main.scope, locals := mainNs, globals := mainNs, cells := [], code := .ref 13, frame := some 14 }
def l1 : List Stmt := pw.main.body.take 11
def l2 : List Stmt := (pw.main.body.drop 11).take 25
def l3 : List Stmt := (pw.main.body.drop 36).take 1
def l4 : List Stmt := pw.main.body.drop 37
abbrev bdy : List Stmt := l1 ++ (l2 ++ (l3 ++ (l4 ++ [])))
abbrev cB : Code := .body bdy env0
abbrev ann0 : Option Value := some (.ref 6)
abbrev q00 : Pos := ⟨0, 0, 0, 0⟩
noncomputable abbrev s0 (w : World) (os : OsState) : Shared := ⟨boot_heap w.params, Array.mk [], boot_drawn, boot_toks, os⟩
noncomputable abbrev sA (w : World) (os : OsState) : Shared := ⟨ha w.params, Array.mk [], boot_drawn, 187, os⟩
noncomputable abbrev sB (w : World) (os : OsState) : Shared := ⟨hb w.params, Array.mk [], boot_drawn, 340, os⟩
noncomputable abbrev sC (w : World) (os : OsState) : Shared := ⟨hc w.params, Array.mk [], boot_drawn, 512, os⟩
noncomputable abbrev sD (w : World) (os : OsState) : Shared := ⟨hd w.params, Array.mk [], boot_drawn, 668, os⟩
noncomputable abbrev sE (w : World) (os : OsState) : Shared := ⟨he w.params, Array.mk [], boot_drawn, 830, os⟩
noncomputable abbrev sF (w : World) (os : OsState) : Shared := ⟨hf w.params, Array.mk [], boot_drawn, 830, os⟩
theorem r0 (w : World) (os : OsState) : topGo treeTable pw w 11 ann0 12 (s0 w os) (topStub pw) = some (sA w os, ⟨denote treeTable cB, cB, q00, [topFrame q00]⟩) := by kernel_rfl
theorem r1 (w : World) (os : OsState) : segRun treeTable pw w 11 ann0 1 1 (sA w os) (blockOf bdy env0 cB q00 [topFrame q00]) = some (.next, sA w os, cB, q00) := by kernel_rfl
set_option maxHeartbeats 0 in
theorem r2 (w : World) (os : OsState) : segRun treeTable pw w 11 ann0 1 1181 (sA w os) (piecesOf l1 env0 cB ⟨0, 0, 0, 0⟩ [topFrame q00]) = some (.next, sB w os, cB, ⟨41, 0, 42, 8⟩) := by kernel_rfl
set_option maxHeartbeats 0 in
theorem r3 (w : World) (os : OsState) : segRun treeTable pw w 11 ann0 1 640 (sB w os) (piecesOf l2 env0 cB ⟨41, 0, 42, 8⟩ [topFrame q00]) = some (.next, sC w os, cB, ⟨167, 0, 182, 87⟩) := by kernel_rfl
set_option maxHeartbeats 0 in
theorem r4 (w : World) (os : OsState) : segRun treeTable pw w 11 ann0 1 632 (sC w os) (piecesOf l3 env0 cB ⟨167, 0, 182, 87⟩ [topFrame q00]) = some (.next, sD w os, cB, ⟨183, 0, 334, 56⟩) := by kernel_rfl
set_option maxHeartbeats 0 in
theorem r5 (w : World) (os : OsState) : segRun treeTable pw w 11 ann0 1 536 (sD w os) (piecesOf l4 env0 cB ⟨183, 0, 334, 56⟩ [topFrame q00]) = some (.next, sE w os, cB, ⟨493, 0, 504, 15⟩) := by kernel_rfl
theorem r6 (w : World) (os : OsState) : topRun treeTable pw w 11 ann0 2 (sE w os) ⟨doneF .next, cB, ⟨493, 0, 504, 15⟩, [topFrame q00]⟩ = some (sF w os) := by kernel_rfl
theorem run_all (w : World) (os : OsState) : topRun treeTable pw w 11 ann0 (12 + (1 + (1181 + (640 + (632 + (536 + 2)))))) (s0 w os) (topStub pw) = some (sF w os) :=
  go_top (r0 w os) (piece_block (r1 w os) (piece_app (r2 w os) (piece_app (r3 w os) (piece_app (r4 w os) (piece_app (r5 w os) (piece_nil (r6 w os)))))))

noncomputable def q0 : Program := view pw [54]
def loose0 : List Str := [Str.ofString "range_of", Str.ofString "put_behind", Str.ofString "from_values", Str.ofString "next_from", Str.ofString "has", Str.ofString "FdError", Str.ofString "SpotFault", Str.ofString "EvalFault", Str.ofString "LimitFault", Str.ofString "MOST_VALUES", Str.ofString "MOST_POWER", Str.ofString "MOST_SHOWN", Str.ofString "is_array", Str.ofString "is_set", Str.ofString "number_of", Str.ofString "truth_of", Str.ofString "text_of", Str.ofString "set_of", Str.ofString "list_of", Str.ofString "elements_of", Str.ofString "row_of", Str.ofString "span", Str.ofString "quotient", Str.ofString "within_figures", Str.ofString "power", Str.ofString "are_same", Str.ofString "are_compared", Str.ofString "joined_sets", Str.ofString "reckoned", Str.ofString "show_text", Str.ofString "folded", Str.ofString "FOLDING", Str.ofString "scopes_of", Str.ofString "Evaluator", Str.ofString "fitted_one", Str.ofString "called", Str.ofString "alone", Str.ofString "of_value", Str.ofString "indexes_of", Str.ofString "indexed", Str.ofString "united", Str.ofString "_law_draw", Str.ofString "_law_heard", Str.ofString "_law_number", Str.ofString "_law_pair", Str.ofString "_law_times", Str.ofString "_law_parted", Str.ofString "_law_power", Str.ofString "_law_due", Str.ofString "_law_node_right"]
def as1 : List Nat := 459 :: 466 :: ads
theorem bo : ∀ w : World, (fencedOpening treeTable pw w 6100).map (fun s => (s.heap, s.gens, s.drawn, s.toks)) = some (boot_heap w.params, Array.mk [], boot_drawn, boot_toks) :=
  boot_open rfl rfl fun _ => rfl
abbrev mods0 : List Str := importedModules pw.main.body
noncomputable abbrev Xt0 : Shared → Bool := fun s => xlAt q0 [] s && recOk [] s
abbrev Yf0 : Shared → List (Option Obj) := fun s => as1.map s.heap.get?
noncomputable abbrev Ya0 : World → List (Option Obj) := fun w => (K1 w.params).map fun p => some p.2
set_option maxHeartbeats 0 in
theorem k1 (w : World) (os : OsState) : (staticsOk mods0 (boot_heap w.params) (hf w.params) && namesBound pw (hf w.params) && gensDone (sF w os) && laidKept (boot_heap w.params) (hf w.params)) = true := by kernel_rfl
set_option maxHeartbeats 0 in
theorem k2 (w : World) (os : OsState) : openSeen q0 loose0 mods0 Xt0 true (sF w os) = openGood q0 loose0 := by kernel_rfl
set_option maxHeartbeats 0 in
theorem k3 (w : World) (os : OsState) : Yf0 (sF w os) = Ya0 w := by kernel_rfl
theorem size0 (w : World) : ((boot_heap w.params).isNs mainGlobals && (Array.mk [] : Array GenState).size == 0, (boot_heap w.params).objs.size, (boot_heap w.params).nsMap mainGlobals "__annotations__") = (true, 11, ann0) := by kernel_rfl
theorem left1 : LeftO pw q0 loose0 Xt0 Yf0 Ya0 6100 :=
  LeftO.of_pieces (H₀ := boot_heap) (H₁ := hf) bo size0 run_all rfl fun w => funext fun os => by
    show (_, _, _) = (_, _, _)
    rw [k1 w os, k2 w os, k3 w os]

-- part Ctr2

/-- the room that a contract of the n-th rank may count on -/
@[reducible] def Ak (n : Nat) (outer : List Env) : Around := { handled := none, depth := 900 - 6 * n, frames := some outer, guards := none, units := 9000 - 99 * n }

theorem wpAny_weak {α : Type} {M : Model} {A A' : Around} {t : Sem α} {Q : α → Shared → Prop} {E : Value → Shared → Prop} {s : Shared}
    (hh : A.handled = A'.handled) (hd : A.depth ≤ A'.depth) (hf : ∀ l, A'.frames = some l → A.frames = some l) (hg : ∀ l, A'.guards = some l → A.guards = some l) (hu : A.units ≤ A'.units)
    (h : wpAny M A' t Q E s) : wpAny M A t Q E s := fun Γ p hΓ =>
  h Γ p ⟨hΓ.1.trans hh, Nat.le_trans hΓ.2.1 hd, fun l e => hΓ.2.2.1 l (hf l e), fun l e => hΓ.2.2.2.1 l (hg l e), Nat.le_trans hΓ.2.2.2.2 hu⟩

theorem wpAny_ak {α : Type} {M : Model} {A : Around} {n : Nat} {outer : List Env} {t : Sem α} {Q : α → Shared → Prop} {E : Value → Shared → Prop} {s : Shared}
    (hh : A.handled = none) (hf : A.frames = some outer) (hd : A.depth ≤ 900 - 6 * n) (hu : A.units ≤ 9000 - 99 * n)
    (h : wpAny M (Ak n outer) t Q E s) : wpAny M A t Q E s :=
  wpAny_weak hh hd (fun l e => by cases e; exact hf) (fun l e => by cases e) hu h

/-- what is known of the base: the written part, the top's facts -/
structure Wd (w : World) (base : Heap) : Prop where
  K : (Kt w.params).In base
  top : ∃ p loose mean mg mb, Top p loose mean mg mb base

def Keep (ch : List Addr) (h h' : Heap) : Prop := ∀ b o, h.get? b = some o → b ∉ ch → h'.get? b = some o
theorem Keep.refl (ch : List Addr) (h : Heap) : Keep ch h h := fun _ _ e _ => e
theorem Keep.trans {ch : List Addr} {h₁ h₂ h₃ : Heap} (x : Keep ch h₁ h₂) (y : Keep ch h₂ h₃) : Keep ch h₁ h₃ := fun b o e n => y b o (x b o e n) n
theorem Keep.of_fr {ad : List Addr} {h h' : Heap} {L : Addr} {m : Str → Option Value} (F : Fr (hideAll h ad) L h' m) : Keep ad h h' := fun _ _ e n => F.keep _ _ (hideAll_get _ e n)

abbrev FrMap (m : Str → Option Value) (L : Addr) (h : Heap) : Prop := h.Ns L m

theorem Below.keep {A : Around} {base h h' : Heap} {outer : List Env} {ch : List Addr} (B : Below A base outer h) (k : Keep ch h h') (hb : ∀ a ∈ ch, base.get? a = none) (hf : ∀ a ∈ ch, a ∉ outer.filterMap (·.frame)) : Below A base outer h' := by
  refine ⟨B.stack, fun b o e => k b o (B.stays b o e) fun hm => (by rw [hb b hm] at e; cases e), ?_⟩
  have go : ∀ l : List Env, (∀ a ∈ ch, a ∉ l.filterMap (·.frame)) → h.FunFrames base l → h'.FunFrames base l := by
    intro l
    induction l with
    | nil => intro _ _; exact trivial
    | cons env r ih =>
      rintro hn ⟨h1, ⟨L, o, h2, h3, h4, h5⟩, h6⟩
      refine ⟨h1, ⟨L, o, h2, h3, k L o h4 fun hm => hn L hm ?_, h5⟩, ih (fun a ha hm => hn a ha ?_) h6⟩
      · rw [List.filterMap_cons, h2]; exact .head _
      · rw [List.filterMap_cons, h2]; exact .tail _ hm
  exact go outer hf B.frames

section
variable {w : World} {n : Nat} {outer : List Env} {base : Heap} {s : Shared} {R : Result → Shared → Prop} {f : Addr} {args : Args} {binds : List (Str × Value)}
  {name qual : Str} {params : Arguments} {body : List Stmt} {scope : Scope} {dV kV doc pm cdv ct oc : Value} {an od : Option Addr} {osl : Array (Option Value)}

/-- a def of the written part is entered; hid: the objects that it may turn -/
theorem enter (W : Wd w base) (B : Below (Ak n outer) base outer s.heap) (hid : List (Addr × Obj))
    (hN : ∀ p ∈ hid, s.heap.get? p.1 = some p.2 ∧ base.get? p.1 = none ∧ p.1 ∉ outer.filterMap (·.frame))
    (ho : (Kt w.params).lookup f = some ⟨oc, od, .func (fnOf name qual params body scope dV kV doc pm an cdv ct), osl⟩) (hcd : codeIn (Kt w.params) cdv qual = true)
    (hroom : (Ak n outer).depth < recursionLimit)
    (hbind : BindsTo s (fnOf name qual params body scope dV kV doc pm an cdv ct) args binds) (hloc : ∀ y ∈ binds, scope.names.lookup y.1 = some .local)
    (h : ∀ L h₁ p loose mean mg mb, Fr (hideAll s.heap (hid.map (·.1))) L h₁ (fun y => binds.reverse.lookup y) → News (hideAll s.heap (hid.map (·.1))) L h₁ hid → Below (Ak n outer) base outer (hideAll s.heap (hid.map (·.1))) →
      (Kt w.params).In (hideAll s.heap (hid.map (·.1))) → Top p loose mean mg mb (hideAll s.heap (hid.map (·.1))) → AllLt L hid → L = s.heap.objs.size →
      ∀ tk : Nat, wpAny (model PySem.Challenge.rw_nz0031_02.row.prog w) ((Ak n outer).deeper (envOf qual scope L f cdv)) (execs body (envOf qual scope L f cdv))
        (fun fl s' => R (.ok (.ret (match fl with | .ret v => v | _ => .none))) s')
        (fun e s' => wpAny (model PySem.Challenge.rw_nz0031_02.row.prog w) ((Ak n outer).deeper (envOf qual scope L f cdv)) (leaving (envOf qual scope L f cdv) e) (fun _ s'' => R (.error e) s'') (fun e' s'' => R (.error e') s'') s')
        { s with heap := h₁, toks := tk })
    (hcell : ∀ x ∈ scope.names, x.2 ≠ .cell) (hco : scope.isCoroutine = false) (hgen : scope.isGenerator = false) (hk : scope.kind = .function) :
    codeAny (model PySem.Challenge.rw_nz0031_02.row.prog w) (Ak n outer) (.call (.ref f) args) R s := by
  obtain ⟨WK, p, loose, mean, mg, mb, T⟩ := W
  have hb : base.StaysIn (hideAll s.heap (hid.map (·.1))) := fun b o e => hideAll_get _ (B.stays b o e) fun hm => by
    obtain ⟨q, hq, rfl⟩ := List.mem_map.mp hm
    rw [(hN q hq).2.1] at e; cases e
  have X₀ := WK.keeps B.stays
  have T₀ := T.keeps B.stays
  refine codeAny_call_def (fd := fnOf name qual params body scope dV kV doc pm an cdv ct) (body := body) (binds := binds) hroom (X₀ _ _ ho) rfl T₀.nolimit (codeRec_of X₀ hcd) rfl hbind hcell hloc (fun h₁ hns hk₁ => ?_) hco hgen hk
  refine h s.heap.objs.size h₁ p loose mean mg mb ⟨hns, fun b o e => hk₁ b o (of_hideAll _ e), Nat.le_of_eq (hideAll_size _ _)⟩
    (fun q hq => ⟨hk₁ _ _ (hN q hq).1, Nat.ne_of_lt (Heap.lt_size (hN q hq).1), hideAll_none _ (List.mem_map_of_mem hq)⟩)
    ⟨rfl, hb, funFrames_hideAll B.frames fun env he a ha hf => ?_⟩ (WK.keeps hb) (T.keeps hb) (allLt_of fun q hq => Heap.lt_size (hN q hq).1) rfl _
  obtain ⟨q, hq, rfl⟩ := List.mem_map.mp ha
  exact (hN q hq).2.2 (List.mem_filterMap.mpr ⟨env, he, hf⟩)
end

theorem call_retI {Q E : Value → Shared → Prop} {fl : Flow} {s : Shared} {v : Value} (h : fl = .ret v) (q : Q v s) :
    (match (Except.ok (Flow.ret (match fl with | .ret v => v | _ => .none)) : Result) with | .ok (.ret v) => Q v s | .ok _ => False | .error e => E e s) := by subst h; exact q
/-- the law's feed: the cells' list and the place -/
def FeedO (w : World) (o : Obj) (D : Addr) (k : Int) : Prop := ∃ t : Tok, Obj.IsDictOf (strKind PySem.Challenge.rw_nz0031_02.row.prog w) o [(Str.ofString "cells", Value.ref D), (Str.ofString "spot", Value.int k t)]
def CellsAt (h : Heap) (D : Addr) : Prop := ∃ (ws : List Value) (ns : List Int), h.IsList D ws.toArray ∧ IntsAre ws ns ∧ ns.length ≤ 60
theorem CellsAt.keep {h h' : Heap} {D : Addr} (x : CellsAt h D) (k : ∀ o, h.get? D = some o → h'.get? D = some o) : CellsAt h' D := by
  obtain ⟨ws, ns, ⟨o, h1, h2⟩, h3⟩ := x
  exact ⟨ws, ns, ⟨o, k o h1, h2⟩, h3⟩
theorem FeedO.ne {w : World} {h : Heap} {o : Obj} {fd D D' : Addr} {k : Int} (x : FeedO w o D' k) (ho : h.get? fd = some o) (c : CellsAt h D) : D ≠ fd := by
  rintro rfl
  obtain ⟨ws, ns, ⟨o2, h1, h2, n, h3⟩, _⟩ := c
  rw [ho] at h1; cases h1
  obtain ⟨_, es, ep, _, q, _⟩ := x
  rw [h3] at q; cases q

/-- a call that draws: it turns the feed alone; f: what it hands back (heap before, value, heap behind); c: the most draws -/
def DrawS (w : World) (n : Nat) (f : Addr) (mk : Addr → List Value) (c : Nat) (P : Heap → Value → Heap → Prop) : Prop :=
  ∀ (outer : List Env) (base : Heap) (s : Shared) (Q E : Value → Shared → Prop) (fd D : Addr) (o : Obj) (k : Int),
    Wd w base → Below (Ak n outer) base outer s.heap → s.heap.get? fd = some o → FeedO w o D k → base.get? fd = none → fd ∉ outer.filterMap (·.frame) → (fd == sysModules) = false → CellsAt s.heap D → 0 ≤ k → k + c ≤ 100000 →
    (∀ v h' tk o' k', P s.heap v h' → Keep [fd] s.heap h' → h'.get? fd = some o' → FeedO w o' D k' → k ≤ k' → k' ≤ k + c → Q v { s with heap := h', toks := tk }) →
    wpAny (model PySem.Challenge.rw_nz0031_02.row.prog w) (Ak n outer) (call (.ref f) (mk fd)) Q E s

def PInt (lo hi : Int) : Heap → Value → Heap → Prop := fun _ v _ => ∃ i t, v = Value.int i t ∧ lo ≤ i ∧ i ≤ hi

theorem below_at {A : Around} {n : Nat} {base g h : Heap} {outer : List Env} {env : Env} {L : Addr} {m : Str → Option Value} (B : Below A base outer g) (F : Fr g L h m) (hf : env.frame = some L) (hk : env.scope.kind = .function) :
    Below (Ak n (env :: outer)) base (env :: outer) h := by
  have x := pushX B F hf hk
  exact ⟨rfl, x.stays, x.frames⟩
theorem fr_keep {ch : List Addr} {g h h' : Heap} {L : Addr} {m : Str → Option Value} (F : Fr g L h m) (k : Keep ch h h') (hc : ∀ a ∈ ch, g.get? a = none ∧ a ≠ L) : Fr g L h' m := by
  obtain ⟨⟨o, es, ep, e, r⟩, kp, ab⟩ := F
  refine ⟨⟨o, es, ep, k _ _ e (fun hm => (hc L hm).2 rfl), r⟩, fun b ob e' => k b ob (kp b ob e') (fun hm => ?_), ab⟩
  rw [(hc b hm).1] at e'; cases e'
theorem news_updF {g h h' : Heap} {L fd : Addr} {o o' : Obj} {news : List (Addr × Obj)} {G : Obj → List (Addr × Obj)} (N : News g L h news) (U : UpdF fd o news G) (k : Keep [fd] h h') (ho' : h'.get? fd = some o') : News g L h' (G o') := by
  obtain ⟨pre, post, rfl, hG, h1, h2⟩ := U.split
  rw [hG]
  intro p hp
  rcases List.mem_append.mp hp with hp | hp
  · have n := N p (List.mem_append_left _ hp)
    exact ⟨k _ _ n.1 (by simpa using h1 p hp), n.2⟩
  · rcases List.mem_cons.mp hp with rfl | hp
    · have n := N (fd, o) (List.mem_append_right _ (.head _))
      exact ⟨ho', n.2⟩
    · have n := N p (List.mem_append_right _ (.tail _ hp))
      exact ⟨k _ _ n.1 (by simpa using h2 p hp), n.2⟩
theorem updF_mem {fd : Addr} {o : Obj} {news : List (Addr × Obj)} {G : Obj → List (Addr × Obj)} (U : UpdF fd o news G) : (fd, o) ∈ news := by
  obtain ⟨pre, post, rfl, _⟩ := U.split
  exact List.mem_append_right _ (.head _)

theorem DrawS.use {w : World} {n : Nat} {f : Addr} {mk : Addr → List Value} {c : Nat} {P : Heap → Value → Heap → Prop} (S : DrawS w n f mk c P)
    {A A₀ : Around} {env : Env} {outer : List Env} {base g : Heap} {s : Shared} {Q E : Value → Shared → Prop} {L fd D : Addr} {o : Obj} {k : Int} {m : Str → Option Value} {news : List (Addr × Obj)} {G : Obj → List (Addr × Obj)} {vs : List Value}
    (hvs : vs = mk fd) (hA : A.handled = none) (hfr : A.frames = some (env :: outer)) (hd : A.depth ≤ 900 - 6 * n) (hu : A.units ≤ 9000 - 99 * n)
    (W : Wd w base) (B : Below A₀ base outer g) (F : Fr g L s.heap m) (N : News g L s.heap news) (U : UpdF fd o news G) (hf : env.frame = some L) (hk : env.scope.kind = .function)
    (FO : FeedO w o D k) (hS : (fd == sysModules) = false) (C : CellsAt g D) (h0 : 0 ≤ k) (h1 : k + c ≤ 100000)
    (h : ∀ v h' tk o' k', P s.heap v h' → Fr g L h' m → News g L h' (G o') → Keep [fd] s.heap h' → FeedO w o' D k' → k ≤ k' → k' ≤ k + c → Q v { s with heap := h', toks := tk }) :
    wpAny (model PySem.Challenge.rw_nz0031_02.row.prog w) A (call (.ref f) vs) Q E s := by
  subst hvs
  have hm := N _ (updF_mem U)
  have hB := below_at (n := n) B F hf hk
  refine wpAny_ak hA hfr hd hu (S _ base s Q E fd D o k W hB hm.1 FO ?_ ?_ hS (C.keep fun o e => F.keep _ _ e) h0 h1 fun v h' tk o' k' hP hK ho' hF' l1 l2 =>
    h v h' tk o' k' hP (fr_keep F hK fun a ha => ?_) (news_updF N U hK ho') hK hF' l1 l2)
  · cases q : base.get? fd with
    | none => rfl
    | some ob => have := B.stays _ _ q; rw [hm.2.2] at this; cases this
  · intro hq
    rw [List.filterMap_cons, hf] at hq
    rcases List.mem_cons.mp hq with e | hq
    · exact hm.2.1 e
    · obtain ⟨_, ob, hob, _⟩ := B.frames.mem hq
      rw [hm.2.2] at hob; cases hob
  · rw [List.mem_singleton.mp ha]; exact ⟨hm.2.2, hm.2.1⟩

-- part L2a
theorem words_L2a_1 : True := by
  k_with_none
  k_with "m fill" => ((w_on; (have hfill : ∀ w : World, (Kt w.params).length = (Kt w.params).length ∧ PySem.Challenge.rw_nz0031_02.foot = PySem.Challenge.rw_nz0031_02.foot := by (k_fill; exact fun _ => ⟨rfl, rfl⟩)); clear hfill))
  k_with "m enterF" => ((
    (refine wpAny_call ?_);
    k_dflt (refine' enter ?kW ?kB [(_, _)] ?k0 ?ho ?hcd ?hroom ?hbind ?hloc ?_ ?c1 ?c2 ?c3 ?c4);
    (case kW => assumption);
    (case kB => assumption);
    (case k0 => (intro p hp; rw [List.mem_singleton.mp hp]; refine ⟨?_, ?_, ?_⟩ <;> assumption));
    (case ho => k_is);
    (case hcd => k_is);
    (case hroom => exact Nat.le_of_ble_eq_true rfl);
    (case hbind => exact BindsTo.of_eq rfl);
    (case hloc => exact locs rfl);
    (case c1 => decide);
    (case c2 => exact rfl);
    (case c3 => exact rfl);
    (case c4 => exact rfl);
    intro L h₁ p loose mean mg mb F N Bl X T lt eL tk;
    (dsimp only [List.map] at F N Bl X T);
    (try k_fold)))
  trivial
theorem fmod_lo {a b : Int} (h : 0 < b) : 0 ≤ a.fmod b := Int.fmod_nonneg_of_pos _ h
theorem fmod_hi {a b : Int} (h : 0 < b) : a.fmod b ≤ b - 1 := by have := Int.fmod_lt_of_pos a h; omega

set_option maxHeartbeats 8000000 in
theorem draw_ok (w : World) (wide : Int) (tw : Tok) (hw0 : 0 < wide) (hw1 : wide ≤ 10000) : DrawS w 10 408 (fun fd => [.ref fd, .int wide tw]) 1 (PInt 0 (wide - 1)) := by
  intro outer base s Q E fd D o k W B ho FO hb hf hS C hk0 hk1 hret
  have hne := FO.ne ho C
  have C2 : CellsAt (hideAll s.heap [fd]) D := C.keep fun _ e => hideAll_get _ e (by simp [hne])
  obtain ⟨t3, hd'⟩ := FO
  obtain ⟨ws, ns, hL, hI, hlen⟩ := C2
  clear C
  k_extra "m fill"
  w_strict (
    k_extra "m enterF"
    k_steps
    all_goals (repeat (first | k_unfold | dsimp only))
    all_goals (refine hret _ _ _ _ _ ⟨_, _, rfl, fmod_lo hw0, fmod_hi hw0⟩ (Keep.of_fr (by assumption)) (News.get (by assumption) (by k_mem)) ⟨_, by assumption⟩ (by omega) (by omega)))

theorem ten_lo {j i : Int} (h0 : 0 ≤ j) (h1 : j ≤ 24 - 1) (i0 : 0 ≤ i) (i1 : i ≤ 3 - 1) : -(10 ^ 24 + 1) ≤ 10 ^ (1 + j).toNat + i - 1 ∧ 10 ^ (1 + j).toNat + i - 1 ≤ 10 ^ 24 + 1 := by
  obtain ⟨n, hn⟩ : ∃ n : Nat, (1 + j).toNat = n ∧ n ≤ 24 := ⟨_, rfl, by omega⟩
  rw [hn.1]
  have h1 : (10 : Int) ^ n ≤ 10 ^ 24 := by
    have := Nat.pow_le_pow_right (n := 10) (by decide) hn.2
    exact_mod_cast this
  have h2 : (0 : Int) ≤ 10 ^ n := by
    have := Nat.zero_le (10 ^ n)
    exact_mod_cast this
  generalize (10 : Int) ^ n = x at *
  have h3 : (10 : Int) ^ 24 = 1000000000000000000000000 := by decide
  rw [h3] at *
  omega

theorem ten_neg {j i : Int} (h0 : 0 ≤ j) (h1 : j ≤ 24 - 1) (i0 : 0 ≤ i) (i1 : i ≤ 3 - 1) : -(10 ^ 24 + 1) ≤ 0 - (10 ^ (1 + j).toNat + i - 1) ∧ 0 - (10 ^ (1 + j).toNat + i - 1) ≤ 10 ^ 24 + 1 := by
  have h := ten_lo h0 h1 i0 i1
  generalize (10 : Int) ^ (1 + j).toNat + i - 1 = x at *
  omega

theorem words_L2a_2 : True := by
  k_with "w call ref" => ((k_here; k_dflt (refine' DrawS.use (draw_ok _ _ _ ?h0 ?h1) rfl rfl rfl ?hd ?hu ?W ?B ?F ?N ?U rfl rfl ?FO ?hS ?C ?k0 ?k1 ?_; (case h0 => decide); (case h1 => decide); (case hd => exact Nat.le_of_ble_eq_true rfl); (case hu => exact Nat.le_of_ble_eq_true rfl); (case W => k_asm); (case B => k_asm); (case F => k_asm); (case N => k_asm); (case U => k_updF); (case FO => k_asm); (case hS => k_asm); (case C => k_asm); (case k0 => omega); (case k1 => omega); k_whole; intro v' h' tk' o' k' P' F' N' K' O' l1' l2'; obtain ⟨i', t', e', b1', b2'⟩ := P'; subst e'; (try dsimp only at N'))))
  trivial
set_option maxHeartbeats 8000000 in
theorem number_ok (w : World) : DrawS w 12 422 (fun fd => [.ref fd]) 5 (PInt (-(10 ^ 24 + 1)) (10 ^ 24 + 1)) := by
  intro outer base s Q E fd D o k W B ho FO hb hf hS C hk0 hk1 hret
  have hne := FO.ne ho C
  k_extra "m fill"
  w_strict (
    k_extra "m enterF"
    (have C2 : CellsAt (hideAll s.heap [fd]) D := C.keep fun _ e => hideAll_get _ e (by simp [hne]))
    k_steps
    all_goals (repeat (first | k_unfold | dsimp only))
    all_goals (refine hret _ _ _ _ _ ⟨_, _, rfl, ?_, ?_⟩ (Keep.of_fr (by assumption)) (News.get (by assumption) (by k_mem)) (by assumption) (by omega) (by omega))
    all_goals (first
      | omega
      | exact (ten_lo (by assumption) (by assumption) (by assumption) (by assumption)).1
      | exact (ten_lo (by assumption) (by assumption) (by assumption) (by assumption)).2
      | exact (ten_neg (by assumption) (by assumption) (by assumption) (by assumption)).1
      | exact (ten_neg (by assumption) (by assumption) (by assumption) (by assumption)).2
      | skip))

-- part Exc
theorem words_Exc_3 : True := by
  k_with_none
  trivial

abbrev bmE : List Value := [.ref 104, .ref 75, .type "Exception", .type "BaseException", .type "object"]
abbrev excObj (tt : Addr) : Obj := { cls := .ref 116, data := .fields #[.ref tt, .none, .none, .none, .bool false, .none] }

theorem cls_E {w : World} {h : Heap} (X : (Kt w.params).In h) : ∃ nm q bs hdct sn sub ab col k0 k1 k2 k3 k5, h.get? 116 = some (excClassObj nm q 116 115 bs bmE hdct sn sub ab col none k0 k1 k2 k3 k5 "Exception.__new__") :=
  ⟨_, _, _, _, _, _, _, _, _, _, _, _, _, X 116 _ rfl⟩

section
variable {w : World} {A : Around} {E : Value → Shared → Prop} {h : Heap} {g : Array GenState} {d : Drawn} {t : Nat} {os : OsState}
theorem exc_check_new {rest : List Value} {Q : Unit → Shared → Prop} {M : Model} {bm : List Value} {newId inN : String} {bmN : List Value} (Fn : ExcBaseFacts "Exception" newId inN bmN) {nm q bs hdct sn sub ab col k0 k1 k2 k3 k5 C N}
    (hcont : (Value.ref C :: bm).contains (.type "Exception") = true) (hC : h.get? C = some (excClassObj nm q C N bs bm hdct sn sub ab col none k0 k1 k2 k3 k5 newId))
    (hq : Q () ⟨h, g, d, t, os⟩) : wpAny M A (checkBuiltinCall newId ⟨.ref C :: rest, []⟩) Q E ⟨h, g, d, t, os⟩ := by
  have hstar := Fn.noStar
  simp only [checkBuiltinCall, Fn.newKind, Fn.newSplit, Fn.newRow]
  repeat (first | refine wpAny_loadPart_at hC ?_ | (refine wpAny_isSubtype_exc hC ?_; rw [hcont]) | refine wpAny_staticBase_exc hC ?_ | refine wpAny_madeBy_exc hC ?_ | simp only [bne_self_eq_false, Bool.false_eq_true, if_false] | wp_step)
  exact hq
theorem exc_new {rest : List Value} {R : Result → Shared → Prop} {bm : List Value} {newId inN : String} {bmN : List Value} (Fn : ExcBaseFacts "Exception" newId inN bmN) {nm q bs hdct sn sub ab col k0 k1 k2 k3 k5 C N}
    (hcB : (Value.ref C :: bm).contains (.type "Exception") = true) (hcA : (Value.ref C :: bm).contains (.type "AttributeError") = false) (hcN : (Value.ref C :: bm).contains (.type "NameError") = false)
    (hC : h.get? C = some (excClassObj nm q C N bs bm hdct sn sub ab col none k0 k1 k2 k3 k5 newId))
    (hq : R (.ok (.ret (.ref (h.objs.size + 1)))) ⟨(h.push { cls := .type "tuple", data := .seq rest.toArray }).push
      { cls := .ref C, data := .fields #[.ref h.objs.size, .none, .none, .none, .bool false, .none] }, g, d, t, os⟩) (hrest : rest.length ≤ sizeLine) :
    codeAny (model PySem.Challenge.rw_nz0031_02.row.prog w) A (.builtin newId ⟨.ref C :: rest, []⟩) R ⟨h, g, d, t, os⟩ := by
  have hends := Fn.ends
  refine codeAny_builtinAt Fn.entry ?_
  unfold Builtin.«BaseException.__new__»
  refine PySem.wpAt_bind ?_
  show PySem.wpAt _ _ _ (stack >>= _) _ _ _
  refine PySem.wpAt_bind (PySem.wpAt_stack fun p below => PySem.wpAt_of_wpAny ?_)
  wp_walk
  refine PySem.wpAt_of_wpAny ?_
  rw [Fn.owner]
  repeat (first | with_reducible refine wpAny_madeHere_exc Fn.canon hC ?_ | with_reducible refine wpAny_loadPart_at hC ?_ | (with_reducible refine wpAny_isSubtype_exc hC ?_; first | rw [hcB] | rw [hcA] | rw [hcN]) | wp_step)
  show R _ _
  rw [Heap.size_push]
  exact hq
end
section
variable {w : World} {A : Around} {E : Value → Shared → Prop} {h : Heap} {g : Array GenState} {d : Drawn} {t : Nat} {os : OsState}
theorem exc_type_call {rest : List Value} {Q : PySem.Fin → Shared → Prop} (X : (Kt w.params).In h) (hrest : rest.length ≤ sizeLine)
    (hq : wpAny (model PySem.Challenge.rw_nz0031_02.row.prog w) A (call (.ref 94) (.ref (h.objs.size + 1) :: rest)) (fun r s' => r = .none ∧ Q (.done (.ret (.ref (h.objs.size + 1)))) s') E
      ⟨(h.push { cls := .type "tuple", data := .seq rest.toArray }).push (excObj h.objs.size), g, d, t, os⟩) :
    wpAny (model PySem.Challenge.rw_nz0031_02.row.prog w) A (Builtin.«type.__call__» ⟨.ref 116 :: rest, []⟩) Q E ⟨h, g, d, t, os⟩ := by
  obtain ⟨nm, q, bs, hdct, sn, sub, ab, col, k0, k1, k2, k3, k5, hC⟩ := cls_E X
  have Fn := PySem.F.excBase_Exception
  repeat (first | with_reducible refine wpAny_loadPart_at hC ?_ | with_reducible refine wpAny_madeBy_exc hC ?_ | wp_step)
  refine codeAny_call_builtin_code (Code.quiet_builtin _ Fn.quiet) (exc_check_new Fn (by decide) hC ?_)
  refine exc_new Fn (by decide) (by decide) (by decide) hC ?_ hrest
  show wpAny _ _ _ _ _ _
  have k1' : ∀ b o, h.get? b = some o → ((h.push { cls := .type "tuple", data := .seq rest.toArray }).push (excObj h.objs.size)).get? b = some o := fun b o e => Heap.get?_push_of_some _ (Heap.get?_push_of_some _ e)
  have hC₁ := k1' _ _ hC
  have X₁ := X.keeps k1'
  have hget : ((h.push { cls := .type "tuple", data := .seq rest.toArray }).push (excObj h.objs.size)).get? (h.objs.size + 1) = some (excObj h.objs.size) := by heap_get
  have hcC : (Value.ref 116 :: bmE).contains (.ref 116) = true := by simp
  unfold isInstance
  repeat (first | with_reducible refine wpAny_loadPart_at hget ?_ | (with_reducible refine wpAny_isSubtype_exc hC₁ ?_; rw [hcC]) | wp_step)
  show wpAny _ _ (typeLookup (.ref 116) "__init__") _ _ _
  refine Looks.at (looks_findIn X₁ (show findIn (Kt w.params) (.ref 116) "__init__" = some (some (.ref 94)) by kernel_rfl)) ?_
  dsimp only
  refine wpAny_holding (wpAny_bind (Looks.at (bind_fn X₁ _ (show typeIn (Kt w.params) (.ref 94) = some (.type "function") by kernel_rfl)) ?_))
  refine wpAny_bind (wpAny_mono hq (fun r s' hr => ?_) fun _ _ x => x)
  obtain ⟨rfl, hQ⟩ := hr
  wp_walk
  exact hQ
theorem exc_call {rest : List Value} {Q : Value → Shared → Prop} (X : (Kt w.params).In h) (hrest : rest.length ≤ sizeLine)
    (hq : wpAny (model PySem.Challenge.rw_nz0031_02.row.prog w) (A.under (.builtin "type.__call__" ⟨.ref 116 :: rest, []⟩)) (call (.ref 94) (.ref (h.objs.size + 1) :: rest)) (fun r s' => r = .none ∧ Q (.ref (h.objs.size + 1)) s') E
      ⟨(h.push { cls := .type "tuple", data := .seq rest.toArray }).push (excObj h.objs.size), g, d, t, os⟩) :
    wpAny (model PySem.Challenge.rw_nz0031_02.row.prog w) A (call (.ref 116) rest) Q E ⟨h, g, d, t, os⟩ := by
  obtain ⟨nm, q, bs, hdct, sn, sub, ab, col, k0, k1, k2, k3, k5, hC⟩ := cls_E X
  have f1 := tc_lookup
  have f2 := tc_bind (.ref 116)
  have hT : (⟨h, g, d, t, os⟩ : Shared).TypeIs (.ref 116) "type" := ⟨_, hC, rfl⟩
  refine wpAny_call (codeAny_of_tree ?_)
  show wpAny _ _ (callAny (.ref 116) _) _ _ _
  repeat (any_goals (first | assumption | with_reducible refine wpAny_loadPart_at hC ?_ | wp_step))
  refine ⟨rfl, ?_⟩
  refine codeAny_call_builtin_at (Code.quiet_builtin _ (by decide +kernel)) entry_typeCall (wpAny_check_type_call_sub hC (exc_type_call X hrest ?_))
  exact hq
end

-- part Exc2
theorem words_Exc2_4 : True := by
  k_with_none
  trivial
theorem slot_wd_get : Slot "wrapper_descriptor" "__get__" "wrapper_descriptor.__get__" :=
  .of (owner := "wrapper_descriptor") (n := "__get__") (by rw [typeLookup_type, builtinLookup_eq_fast]; kernel_rfl) (by decide +kernel) (by decide +kernel) (by decide +kernel)
    (by first | exact .inl (by decide +kernel) | exact .inr (by decide +kernel)) (by rw [isSubtype_type]; kernel_rfl)
theorem entry_wd_get : entryFor table "wrapper_descriptor.__get__" = some Builtin.«wrapper_descriptor.__get__» := entryFor_of_tree (by kernel_rfl)
theorem args_wd_get (a b c : Value) : argsOk "wrapper_descriptor.__get__" ⟨[a, b, c], []⟩ := by unfold argsOk; kernel_rfl
theorem id_init : (toString "Exception" ++ toString "." ++ toString (Str.ofString "__init__").toString) = "Exception.__init__" := by decide +kernel
theorem own_init : ".".intercalate ("Exception.__init__".cutAt '.').dropLast = "Exception" := by decide +kernel
theorem type_init : typeOf (.builtin "Exception.__init__") = pure (.type "wrapper_descriptor") := by show builtinType _ = _; rw [builtinType_eq_fast]; kernel_rfl
section
variable {w : World} {A : Around} {E : Value → Shared → Prop} {h : Heap} {g : Array GenState} {d : Drawn} {t : Nat} {os : OsState}
set_option maxHeartbeats 400000 in
theorem sup_ga {so x : Addr} {ox : Obj} {tk : Tok} {Q : PySem.Fin → Shared → Prop} (X : (Kt w.params).In h)
    (hso : h.get? so = some { cls := .type "super", dict := none, data := .fields #[.ref 75, .ref x, .ref 116], slots := #[] }) (hx : h.get? x = some ox) (hxc : ox.cls = .ref 116) (hxC : x ≠ 116)
    (hq : Q (.done (.ret (.ref h.objs.size))) ⟨h.push { cls := .type "method-wrapper", data := .fields #[.builtin "Exception.__init__", .ref x] }, g, d, t, os⟩) :
    wpAny (model PySem.Challenge.rw_nz0031_02.row.prog w) A (Builtin.«super.__getattribute__» ⟨[.ref so, .str (Str.ofString "__init__") tk], []⟩) Q E ⟨h, g, d, t, os⟩ := by
  obtain ⟨nm, q, bs, hdct, sn, sub, ab, col, k0, k1, k2, k3, k5, hC⟩ := cls_E X
  have hth : nsIn (Kt w.params) cStatics (Str.ofString "thirdparty.any") = some none := by kernel_rfl
  have hno : Looks (model PySem.Challenge.rw_nz0031_02.row.prog w) h (opaqueClassAbove (.ref 116)) none := looks_opaque X hth
  have hM : Looks (model PySem.Challenge.rw_nz0031_02.row.prog w) h (mroOf (.ref 116)) (.ref 116 :: bmE) := fun A Q E s k q => by
    obtain ⟨hh, g', d', t', os'⟩ := s
    exact wpAny_mroOf_exc (k _ _ hC) q
  have hf : alongIn (Kt w.params) (Str.ofString "__init__") [.type "Exception", .type "BaseException", .type "object"] = some (some (.builtin "Exception.__init__")) := by kernel_rfl
  have hl : ((Value.ref 116 :: bmE).dropWhile (· != .ref 75)).drop 1 = [.type "Exception", .type "BaseException", .type "object"] := by decide
  have hcE : (Value.ref 116 :: bmE).contains (.type "Exception") = true := by decide
  have hne : (Value.ref x == Value.ref 116) = false := by simp [hxC]
  have hTx : (⟨h, g, d, t, os⟩ : Shared).TypeIs (.ref 116) "type" := ⟨_, hC, rfl⟩
  have hdt : ({ cls := .type "super", dict := none, data := .fields #[.ref 75, .ref x, .ref 116], slots := #[] } : Obj).data = .fields #[.ref 75, .ref x, .ref 116] := rfl
  have f0 : (#[.ref 75, .ref x, .ref 116] : Array Value)[0]? = some (.ref 75) := rfl
  have f1 : (#[.ref 75, .ref x, .ref 116] : Array Value)[1]? = some (.ref x) := rfl
  have f2 : (#[.ref 75, .ref x, .ref 116] : Array Value)[2]? = some (.ref 116) := rfl
  have hn : ((Str.ofString "__init__") == ("__class__" : Str)) = false := by decide
  generalize Kt w.params = K0 at X hf hth
  unfold Builtin.«super.__getattribute__»
  repeat (first
    | (with_reducible refine wpAny_field hso hdt f0 ?_) | (with_reducible refine wpAny_field hso hdt f1 ?_) | (with_reducible refine wpAny_field hso hdt f2 ?_)
    | (with_reducible refine ks_wpAny_notOpaque hno ?_)
    | (with_reducible refine Looks.at hM ?_; rw [hl])
    | (with_reducible show wpAny _ _ (forIn _ _ _) _ _ _; refine ks_forIn_along (K := K0) (name := Str.ofString "__init__") (v := .builtin "Exception.__init__") X ?hb ?hk ?hq hf; (case hb => exact fun _ _ => rfl); (case hk => rfl))
    | (with_reducible refine ⟨_, rfl, ?_⟩)
    | (simp only [id_init])
    | (with_reducible refine wpAny_of_eq type_init ?_)
    | (with_reducible refine wpAny_bind (wpAny_of_eq type_init ?_))
    | (with_reducible refine wpAny_of_eq slot_wd_get.lookup ?_)
    | (with_reducible refine wpAny_call_entry slot_wd_get (T := "wrapper_descriptor") type_init entry_wd_get ?_ (args_wd_get _ _ _))
    | (simp only [hn, hne, Bool.or_false, Bool.false_eq_true, if_false])
    | wp_step
    | dsimp only)
  refine codeAny_call_builtin slot_wd_get.plain entry_wd_get (slot_wd_get.check _ _ _ _ _ _ _ _ type_init (args_wd_get _ _ _) ?_)
  unfold Builtin.«wrapper_descriptor.__get__»
  obtain ⟨oc, od, oda, osl⟩ := ox
  dsimp only at hxc
  subst hxc
  repeat (first
    | (with_reducible refine wpAny_loadPart_at hx ?_)
    | (with_reducible refine wpAny_loadPart_at hC ?_)
    | (with_reducible refine wpAny_isSubtype_exc hC ?_; rw [hcE])
    | (simp only [own_init])
    | wp_step)
  exact hq
theorem sup_get {so x : Addr} {ox : Obj} {pl : Sem Bool} {Q : Value × List Value → Shared → Prop} (X : (Kt w.params).In h)
    (hso : h.get? so = some { cls := .type "super", dict := none, data := .fields #[.ref 75, .ref x, .ref 116], slots := #[] }) (hx : h.get? x = some ox) (hxc : ox.cls = .ref 116) (hxC : x ≠ 116)
    (hq : Q (.ref h.objs.size, []) ⟨h.push { cls := .type "method-wrapper", data := .fields #[.builtin "Exception.__init__", .ref x] }, g, d, t + 1, os⟩) :
    wpAny (model PySem.Challenge.rw_nz0031_02.row.prog w) A (getMethod (.ref so) (Str.ofString "__init__") pl) Q E ⟨h, g, d, t, os⟩ := by
  have hlk := F.ks_slot_super_ga.lookup
  have hcan := F.ks_canon_super_ga
  have hT : ∀ t', (⟨h, g, d, t', os⟩ : Shared).TypeIs (.ref so) "super" := fun _ => ⟨_, hso, rfl⟩
  unfold getMethod
  refine wpAny_bind (wpAny_specialOf (hT _) hlk ?_)
  show wpAny _ _ (if (Manifest.canonical "super.__getattribute__" != "object.__getattribute__") = true then _ else _) _ _ _
  rw [if_pos hcan]
  unfold getAttr getAttrBy
  refine wpAny_bind (wpAny_bind (wpAny_mkText (wpAny_holding (wpAny_bind (wpAny_typeOf (hT _) (wpAny_bind (wpAny_of_eq hlk ?_)))))))
  show wpAny _ _ (getAttrByItsOwn (.ref so) (.str (Str.ofString "__init__") t) (.type "super") (.builtin "super.__getattribute__") true false) _ _ _
  unfold getAttrByItsOwn hookBefore callGetattribute boundAndCalled
  refine wpAny_bind (wpAny_of_eq (show (if onTheHeap (.type "super") then typeLookup (.type "super") "__getattr__" else pure none) = pure none from rfl) ?_)
  refine wpAny_bind (wpAny_attempt (wpAny_holding ?_))
  show wpAny _ _ (bindSpecial (.builtin "super.__getattribute__") (.ref so) >>= _) _ _ _
  refine wpAny_bind (wpAny_of_eq (F.ks_slot_super_ga.bind _) ?_)
  refine wpAny_mono (Q := fun v s' => v = .ref h.objs.size ∧ s' = ⟨h.push { cls := .type "method-wrapper", data := .fields #[.builtin "Exception.__init__", .ref x] }, g, d, t + 1, os⟩) (E := fun _ _ => False)
    (wpAny_call_entry F.ks_slot_super_ga (hT _) F.ks_entry_super_ga (sup_ga X hso hx hxc hxC ⟨_, rfl, rfl, rfl⟩) (F.ks_gaArgs_super _ _)) (fun v s' hv => ?_) fun _ _ z => z.elim
  obtain ⟨rfl, rfl⟩ := hv
  exact wpAny_pure (wpAny_pure hq)
theorem mw_code {b x tt : Addr} {v : Value} {R : Result → Shared → Prop} (X : (Kt w.params).In h) (hb : h.get? b = some { cls := .type "method-wrapper", data := .fields #[.builtin "Exception.__init__", .ref x] })
    (hx : h.get? x = some (excObj tt)) (hq : R (.ok (.ret .none)) ⟨(h.push { cls := .type "tuple", data := .seq #[v] }).update x (Obj.mapFields fun x => x.setIfInBounds 0 (.ref h.objs.size)), g, d, t, os⟩) :
    codeAny (model PySem.Challenge.rw_nz0031_02.row.prog w) A (.call (.ref b) ⟨[v], []⟩) R ⟨h, g, d, t, os⟩ := by
  obtain ⟨nm, q, bs, hdct, sn, sub, ab, col, k0, k1, k2, k3, k5, hC⟩ := cls_E X
  have Fn := PySem.F.excBase_Exception
  have hcE : (Value.ref 116 :: bmE).contains (.type "Exception") = true := by decide
  refine codeAny_of_tree ?_
  show wpAny _ _ (callAny (.ref b) _) _ _ _
  unfold callAny
  refine wpAny_bind (wpAny_load hb ?_)
  skip
  repeat (first
    | (with_reducible refine wpAny_loadPart_at hx ?_)
    | (with_reducible refine wpAny_loadPart_at hC ?_)
    | (with_reducible refine wpAny_isSubtype_exc hC ?_; rw [hcE])
    | wp_step)
  refine ⟨plainId_quiet Fn.init.plain _, codeAny_builtin Fn.initEntry ?_⟩
  show wpAny _ _ (Builtin.«BaseException.__init__» ⟨[.ref x, v], []⟩) _ _ _
  unfold Builtin.«BaseException.__init__»
  have hx2 : ∀ o, (h.push o).get? x = some (excObj tt) := fun o => Heap.get?_push_of_some o hx
  repeat (first
    | (with_reducible refine wpAny_loadPart_at (hx2 _) ?_)
    | wp_step)
  exact hq
end

-- part Exc3
section
open Builtin Builtin.ObjectAttr
theorem words_Exc3_5 : True := by
  k_with_none
  trivial
section
variable {w : World} {A : Around} {E : Value → Shared → Prop} {h : Heap} {g : Array GenState} {d : Drawn} {t : Nat} {os : OsState}
theorem refuse_exc (self : Value) : refuseLoop self "__setattr__" (.ref 116 :: bmE) = pure () := by
  rw [refuseLoop_ref, refuseLoop_ref, refuseLoop_ref]
  kernel_rfl
theorem osa_exc {x : Addr} {name : Str} {tk : Tok} {v : Value} {oe : Obj} {R : Result → Shared → Prop} (X : (Kt w.params).In h) (hx : h.get? x = some oe) (hc : oe.cls = .ref 116)
    (hn : findIn (Kt w.params) (.ref 116) name = some none)
    (hq : wpAny (model PySem.Challenge.rw_nz0031_02.row.prog w) A.in1 (storeInOwnDict (.ref x) (.ref 116) (.str name tk) name v false)
      (fun fin s' => match fin with | .done f => R (.ok f) s' | .again c' => c'.quiet = true ∧ codeAny (model PySem.Challenge.rw_nz0031_02.row.prog w) A c' R s') (fun e s' => R (.error e) s') ⟨h, g, d, t, os⟩) :
    codeAny (model PySem.Challenge.rw_nz0031_02.row.prog w) A (.call (.builtin "object.__setattr__") ⟨[.ref x, .str name tk, v], []⟩) R ⟨h, g, d, t, os⟩ := by
  obtain ⟨nm, q, bs, hdct, sn, sub, ab, col, k0, k1, k2, k3, k5, hC⟩ := cls_E X
  have SF := PySem.F.store_object
  obtain ⟨oc, od, oda, osl⟩ := oe
  dsimp only at hc
  subst hc
  have hcO : (Value.ref 116 :: bmE).contains (.type "object") = true := by decide
  have L1 : Looks (model PySem.Challenge.rw_nz0031_02.row.prog w) h (typeOf (.ref x)) (.ref 116) := fun A Q E s k q => wpAny_bind (wpAny_loadPart (k _ _ hx) (wpAny_pure q))
  have L2 : Looks (model PySem.Challenge.rw_nz0031_02.row.prog w) h (isSubtype (.ref 116) (.type "object")) true := fun A Q E s k q => by
    obtain ⟨hh, g', d', t', os'⟩ := s
    exact wpAny_isSubtype_exc (k _ _ hC) (by rw [hcO]; exact q)
  have hM : Looks (model PySem.Challenge.rw_nz0031_02.row.prog w) h (mroOf (.ref 116)) (.ref 116 :: bmE) := fun A Q E s k q => by
    obtain ⟨hh, g', d', t', os'⟩ := s
    exact wpAny_mroOf_exc (k _ _ hC) q
  refine codeAny_call_builtin SF.slot.plain SF.entry (@check_slot (model PySem.Challenge.rw_nz0031_02.row.prog w) _ _ ⟨h, g, d, t, os⟩ "object.__setattr__" "object" "__setattr__" (.ref x) [.str name tk, v] [] _ SF.kind SF.split (L1.andThen L2) (SF.args (.ref x) (.str name tk) v) ?_)
  rw [osa_eq, refuse_eq]
  refine wpAny_bind (wpAny_bind (L1.at (wpAny_bind (hM.at ?_))))
  rw [refuse_exc]
  refine wpAny_pure (wpAny_bind (L1.at (wpAny_bind (Looks.at (looks_findIn X hn) (wpAny_bind ?_)))))
  exact wpAny_pure hq
theorem inst_dict {x : Addr} {vs : Array Value} {sl : Array (Option Value)} {Q : Option Addr → Shared → Prop} {M : Model} (X : (Kt w.params).In h) (hx : h.get? x = some { cls := .ref 116, dict := none, data := .fields vs, slots := sl })
    (hq : Q (some h.objs.size) ⟨(h.push (dictOf [] 0)).update x (fun o => { o with dict := some h.objs.size }), g, d, t, os⟩) :
    wpAny M A (instanceDict x true) Q E ⟨h, g, d, t, os⟩ := by
  have hh : (clsIn (Kt w.params) 116).any (·.hasDict) = true := by kernel_rfl
  obtain ⟨cd, hc, hd'⟩ := any_some hh
  have hx2 : ∀ o, (h.push o).get? x = some { cls := .ref 116, dict := none, data := .fields vs, slots := sl } := fun o => Heap.get?_push_of_some o hx
  unfold instanceDict
  refine wpAny_bind (wpAny_loadPart hx ?_)
  dsimp only
  refine wpAny_bind (Looks.at (looks_clsIn X hc) ?_)
  rw [hd']
  repeat (first
    | (with_reducible refine wpAny_loadPart_at (hx2 _) ?_)
    | wp_step)
  exact hq
theorem store_dict {dd : Addr} {es : List DictEntry} {n : Nat} {name : Str} {tk : Tok} {v : Value} {Q : PySem.Fin → Shared → Prop} (hd : h.get? dd = some (dictOf es n)) (hk : (es.any (·.refKey)) = false) (hz : es.length ≤ 10)
    (hq : Q (.done (.ret .none)) ⟨h.update dd (Obj.putName name (PyData.keyHash w.params name) (.str name t) v), g, d, t + 1, os⟩) :
    wpAny (model PySem.Challenge.rw_nz0031_02.row.prog w) A (storeInDict dd (.str name tk) name v) Q E ⟨h, g, d, t, os⟩ := by
  have hf : (Obj.putName name (PyData.keyHash w.params name) (.str name t) v (dictOf es n)).isFreed = false := by rw [putName_dict]; rfl
  have hd2 := Heap.get?_update_self (Obj.putName name (PyData.keyHash w.params name) (.str name t) v) hd hf
  unfold storeInDict newKeyGuard
  refine wpAny_bind (wpAny_pure (wpAny_bind ?_))
  unfold nsSet
  refine wpAny_bind (wpAny_bind (wpAny_askSetting (wpAny_pure (wpAny_bind (wpAny_mkText (wpAny_bind (wpAny_loadPart hd ?_)))))))
  dsimp only
  have c : (!es.toArray.any (·.key.isStr name) && es.toArray.any (·.refKey)) = false := by
    rw [List.any_toArray, List.any_toArray, hk, Bool.and_false]
  rw [aRefKeyMayBeTheName_at, c]
  refine wpAny_updatePart hd ?_
  have hl : (putL name (PyData.keyHash w.params name) (.str name t) v es).length ≤ 11 := by
    have : ∀ es : List DictEntry, (putL name (PyData.keyHash w.params name) (.str name t) v es).length ≤ es.length + 1 := by
      intro es
      induction es with
      | nil => simp [putL]
      | cons e r ih => unfold putL; split <;> simp <;> omega
    have := this es
    omega
  refine wpAny_bind (wpAny_lookBehind hd2 (by rw [putName_dict]; exact pastItsLine_dict (by rw [List.size_toArray, sizeLine_eq]; omega)) ?_)
  exact wpAny_pure hq
end

end
-- part Exc4
section
open Builtin Builtin.ObjectAttr
theorem words_Exc4_6 : True := by
  k_with_none
  trivial
abbrev excD (dO : Option Addr) (vs : Array Value) : Obj := { cls := .ref 116, dict := dO, data := .fields vs }
section
variable {w : World} {A : Around} {E : Value → Shared → Prop} {s : Shared} {h₀ : Heap} {L x : Addr} {m : Str → Option Value} {news : List (Addr × Obj)} {G : Obj → List (Addr × Obj)} {vs : Array Value} {name : Str} {v : Value}
theorem setK1 {Q : Unit → Shared → Prop} (F : Fr h₀ L s.heap m) (N : News h₀ L s.heap news) (X₀ : (Kt w.params).In h₀) (U : UpdF x (excD none vs) news G) (hn : findIn (Kt w.params) (.ref 116) name = some none)
    (h : ∀ dd h' t, Fr h₀ L h' m → News h₀ L h' ((dd, dictOf [⟨PyData.keyHash w.params name, .str name t, v⟩] 1) :: G (excD (some dd) vs)) → (∀ p ∈ news, p.1 < dd) → Q () { s with heap := h', toks := s.toks + 1 + 1 }) :
    wpAny (model PySem.Challenge.rw_nz0031_02.row.prog w) A (setAttr (.ref x) name v) Q E s := by
  have X := X₀.keeps F.keep
  have hm := N _ (updF_mem U)
  have hs : findIn (Kt w.params) (.ref 116) "__setattr__" = some (some (.builtin "object.__setattr__")) := by kernel_rfl
  obtain ⟨hp, g, d, t, os⟩ := s
  refine set_plain X (⟨hm.1, rfl, rfl, trivial⟩ : InstAt _ x (excD none vs) 116 none) hs ?_
  refine osa_exc X hm.1 rfl hn ?_
  unfold storeInOwnDict
  refine wpAny_bind (wpAny_pure ?_)
  rw [if_neg (show ¬ ((Value.ref 116 == Value.type "module") = true) by decide)]
  refine wpAny_bind (inst_dict X hm.1 ?_)
  have F1 := F.push (dictOf [] 0)
  have N1 := News.push F N (dictOf [] 0)
  obtain ⟨pre, post, rfl, hG, h1, h2⟩ := U.split
  have lx : ∀ p ∈ pre ++ (x, excD none vs) :: post, p.1 < hp.objs.size := fun p hp' => Heap.lt_size (N p hp').1
  have hxd : x < hp.objs.size := lx _ (List.mem_append_right _ (.head _))
  have U2 := news_upd (pre := (hp.objs.size, dictOf [] 0) :: pre) (post := post) (d := x) (o := excD none vs) (f := fun o => { o with dict := some hp.objs.size }) F1 N1 (fun p hp' => by
    rcases List.mem_cons.mp hp' with rfl | hp'
    · exact Nat.ne_of_gt hxd
    · exact h1 p hp') h2 rfl rfl
  obtain ⟨F2, N2⟩ := U2
  have hd2 := (N2 (hp.objs.size, dictOf [] 0) (.head _)).1
  refine store_dict hd2 rfl (by decide) ?_
  have U3 := news_upd (pre := []) (post := pre ++ (x, excD (some hp.objs.size) vs) :: post) (d := hp.objs.size) (o := dictOf [] 0) (f := Obj.putName name (PyData.keyHash w.params name) (.str name (t + 1)) v) F2 N2 (fun _ h => nomatch h) (fun p hp' => by
    rcases List.mem_append.mp hp' with hp' | hp'
    · exact Nat.ne_of_lt (lx p (List.mem_append_left _ hp'))
    · rcases List.mem_cons.mp hp' with rfl | hp'
      · exact Nat.ne_of_lt hxd
      · exact Nat.ne_of_lt (lx p (List.mem_append_right _ (.tail _ hp')))) (putName_dict ..) rfl
  obtain ⟨F3, N3⟩ := U3
  refine h hp.objs.size _ (t + 1) F3 ?_ lx
  rw [hG]
  exact N3
theorem setK2 {Q : Unit → Shared → Prop} {dd : Addr} {es : List DictEntry} {n : Nat} (F : Fr h₀ L s.heap m) (N : News h₀ L s.heap news) (X₀ : (Kt w.params).In h₀) (hx : (x, excD (some dd) vs) ∈ news) (U : UpdF dd (dictOf es n) news G)
    (hn : findIn (Kt w.params) (.ref 116) name = some none) (hk : es.any (·.refKey) = false) (hz : es.length ≤ 10)
    (h : ∀ h' t, Fr h₀ L h' m → News h₀ L h' (G (dictOf (putL name (PyData.keyHash w.params name) (.str name t) v es) (putN name es n))) → Q () { s with heap := h', toks := s.toks + 1 + 1 }) :
    wpAny (model PySem.Challenge.rw_nz0031_02.row.prog w) A (setAttr (.ref x) name v) Q E s := by
  have X := X₀.keeps F.keep
  have hm := N _ hx
  have hd := N _ (updF_mem U)
  have hs : findIn (Kt w.params) (.ref 116) "__setattr__" = some (some (.builtin "object.__setattr__")) := by kernel_rfl
  have hh : (clsIn (Kt w.params) 116).any (·.hasDict) = true := by kernel_rfl
  obtain ⟨cd, hc, hd'⟩ := any_some hh
  obtain ⟨hp, g, d, t, os⟩ := s
  refine set_plain X (⟨hm.1, rfl, rfl, hd.1⟩ : InstAt _ x (excD (some dd) vs) 116 (some (dictOf es n))) hs ?_
  refine osa_exc X hm.1 rfl hn ?_
  unfold storeInOwnDict
  refine wpAny_bind (wpAny_pure ?_)
  rw [if_neg (show ¬ ((Value.ref 116 == Value.type "module") = true) by decide)]
  refine wpAny_bind ?_
  show wpAny _ _ (instanceDict x true) _ _ _
  unfold instanceDict
  refine wpAny_bind (wpAny_loadPart hm.1 ?_)
  dsimp only
  refine wpAny_bind (Looks.at (looks_clsIn X hc) ?_)
  rw [hd']
  refine wpAny_pure (a := some dd) ?_
  refine store_dict hd.1 hk hz ?_
  obtain ⟨pre, post, rfl, hG, h1, h2⟩ := U.split
  obtain ⟨F3, N3⟩ := news_upd (d := dd) (o := dictOf es n) (f := Obj.putName name (PyData.keyHash w.params name) (.str name (t + 1)) v) F N h1 h2 (putName_dict ..) rfl
  refine h _ (t + 1) F3 ?_
  rw [hG]
  exact N3
theorem supK {so : Addr} {pl : Sem Bool} {Q : Value × List Value → Shared → Prop} {tt : Addr} (F : Fr h₀ L s.heap m) (N : News h₀ L s.heap news) (X₀ : (Kt w.params).In h₀) (hso : (so, ks_superObj 75 x 116) ∈ news) (hx : (x, excObj tt) ∈ news)
    (h : ∀ q h', Fr h₀ L h' m → News h₀ L h' ((q, { cls := .type "method-wrapper", data := .fields #[.builtin "Exception.__init__", .ref x] }) :: news) → (∀ p ∈ news, p.1 < q) → Q (.ref q, []) { s with heap := h', toks := s.toks + 1 }) :
    wpAny (model PySem.Challenge.rw_nz0031_02.row.prog w) A (getMethod (.ref so) (Str.ofString "__init__") pl) Q E s := by
  have X := X₀.keeps F.keep
  have hxC : x ≠ 116 := by
    rintro rfl
    have h1 := (N _ hx).2.2
    obtain ⟨_, _, _, _, _, _, _, _, _, _, _, _, _, hC⟩ := cls_E X₀
    rw [h1] at hC; cases hC
  obtain ⟨hp, g, d, t, os⟩ := s
  refine sup_get X (N _ hso).1 (N _ hx).1 rfl hxC ?_
  exact h hp.objs.size _ (F.push _) (News.push F N _) fun p hp' => Heap.lt_size (N p hp').1
theorem mwK {b tt : Addr} {a : Value} {Q : Value → Shared → Prop} (F : Fr h₀ L s.heap m) (N : News h₀ L s.heap news) (X₀ : (Kt w.params).In h₀) (hb : (b, ({ cls := .type "method-wrapper", data := .fields #[.builtin "Exception.__init__", .ref x] } : Obj)) ∈ news) (U : UpdF x (excObj tt) news G)
    (h : ∀ t2 h', Fr h₀ L h' m → News h₀ L h' ((t2, { cls := .type "tuple", data := .seq #[a] }) :: G (excObj t2)) → (∀ p ∈ news, p.1 < t2) → Q .none { s with heap := h' }) :
    wpAny (model PySem.Challenge.rw_nz0031_02.row.prog w) A (call (.ref b) [a]) Q E s := by
  have X := X₀.keeps F.keep
  have hm := N _ (updF_mem U)
  have hbm := N _ hb
  obtain ⟨hp, g, d, t, os⟩ := s
  refine wpAny_call (mw_code X hbm.1 hm.1 ?_)
  have F1 := F.push { cls := .type "tuple", data := .seq #[a] }
  have N1 := News.push F N { cls := .type "tuple", data := .seq #[a] }
  obtain ⟨pre, post, rfl, hG, h1, h2⟩ := U.split
  have lx : ∀ p ∈ pre ++ (x, excObj tt) :: post, p.1 < hp.objs.size := fun p hp' => Heap.lt_size (N p hp').1
  have hxd : x < hp.objs.size := lx _ (List.mem_append_right _ (.head _))
  obtain ⟨F2, N2⟩ := news_upd (pre := (hp.objs.size, { cls := .type "tuple", data := .seq #[a] }) :: pre) (post := post) (d := x) (o := excObj tt) (o' := excObj hp.objs.size) (f := Obj.mapFields fun x => x.setIfInBounds 0 (.ref hp.objs.size)) F1 N1 (fun p hp' => by
    rcases List.mem_cons.mp hp' with rfl | hp'
    · exact Nat.ne_of_gt hxd
    · exact h1 p hp') h2 rfl rfl
  refine h hp.objs.size _ F2 ?_ lx
  rw [hG]
  exact N2
end

end
-- part Exc5
section
open Builtin Builtin.ObjectAttr
section
variable {w : World} {n : Nat} {outer : List Env} {base : Heap} {s : Shared} {R : Result → Shared → Prop} {f cc : Addr} {args : Args} {binds : List (Str × Value)}
  {name qual : Str} {params : Arguments} {body : List Stmt} {scope : Scope} {dV kV doc pm cdv ct oc : Value} {an od : Option Addr} {osl : Array (Option Value)}
theorem enterS (W : Wd w base) (B : Below (Ak n outer) base outer s.heap) (hid : List (Addr × Obj))
    (hN : ∀ p ∈ hid, s.heap.get? p.1 = some p.2 ∧ base.get? p.1 = none ∧ p.1 ∉ outer.filterMap (·.frame))
    (ho : (Kt w.params).lookup f = some ⟨oc, od, .func (ksFn name qual params body scope dV kV doc pm an cdv ct cc), osl⟩) (hcd : codeIn (Kt w.params) cdv qual = true)
    (hroom : (Ak n outer).depth < recursionLimit)
    (hbind : BindsTo s (ksFn name qual params body scope dV kV doc pm an cdv ct cc) args binds) (hloc : ∀ y ∈ binds, scope.names.lookup y.1 = some .local)
    (h : ∀ L h₁ p loose mean mg mb, Fr (hideAll s.heap (hid.map (·.1))) L h₁ (fun y => binds.reverse.lookup y) → News (hideAll s.heap (hid.map (·.1))) L h₁ hid → Below (Ak n outer) base outer (hideAll s.heap (hid.map (·.1))) →
      (Kt w.params).In (hideAll s.heap (hid.map (·.1))) → Top p loose mean mg mb (hideAll s.heap (hid.map (·.1))) → AllLt L hid → L = s.heap.objs.size →
      ∀ tk : Nat, PySem.wpAt (model PySem.Challenge.rw_nz0031_02.row.prog w) ((Ak n outer).deeper (ksEnv qual scope L f cdv cc)) (.func body (ksEnv qual scope L f cdv cc)) (execs body (ksEnv qual scope L f cdv cc))
        (fun fl s' => R (.ok (.ret (match fl with | .ret v => v | _ => .none))) s')
        (fun e s' => wpAny (model PySem.Challenge.rw_nz0031_02.row.prog w) ((Ak n outer).deeper (ksEnv qual scope L f cdv cc)) (leaving (ksEnv qual scope L f cdv cc) e) (fun _ s'' => R (.error e) s'') (fun e' s'' => R (.error e') s'') s')
        { s with heap := h₁, toks := tk })
    (hcell : ∀ x ∈ scope.names, x.2 ≠ .cell) (hco : scope.isCoroutine = false) (hgen : scope.isGenerator = false) (hk : scope.kind = .function) :
    codeAny (model PySem.Challenge.rw_nz0031_02.row.prog w) (Ak n outer) (.call (.ref f) args) R s := by
  obtain ⟨WK, p, loose, mean, mg, mb, T⟩ := W
  have hb : base.StaysIn (hideAll s.heap (hid.map (·.1))) := fun b o e => hideAll_get _ (B.stays b o e) fun hm => by
    obtain ⟨q, hq, rfl⟩ := List.mem_map.mp hm
    rw [(hN q hq).2.1] at e; cases e
  have X₀ := WK.keeps B.stays
  have T₀ := T.keeps B.stays
  refine ks_codeAny_call_defAt (fd := ksFn name qual params body scope dV kV doc pm an cdv ct cc) (body := body) (binds := binds) hroom (X₀ _ _ ho) rfl T₀.nolimit (codeRec_of X₀ hcd) rfl hbind hcell hloc (fun h₁ hns hk₁ => ?_) hco hgen hk
  refine h s.heap.objs.size h₁ p loose mean mg mb ⟨hns, fun b o e => hk₁ b o (of_hideAll _ e), Nat.le_of_eq (hideAll_size _ _)⟩
    (fun q hq => ⟨hk₁ _ _ (hN q hq).1, Nat.ne_of_lt (Heap.lt_size (hN q hq).1), hideAll_none _ (List.mem_map_of_mem hq)⟩)
    ⟨rfl, hb, funFrames_hideAll B.frames fun env he a ha hf => ?_⟩ (WK.keeps hb) (T.keeps hb) (allLt_of fun q hq => Heap.lt_size (hN q hq).1) rfl _
  obtain ⟨q, hq, rfl⟩ := List.mem_map.mp ha
  exact (hN q hq).2.2 (List.mem_filterMap.mpr ⟨env, he, hf⟩)
end
theorem exc_instN {h₀ h : Heap} {L x : Addr} {news : List (Addr × Obj)} {vs : Array Value} (N : News h₀ L h news) (hx : (x, excD none vs) ∈ news) : InstAt h x (excD none vs) 116 none := ⟨(N _ hx).1, rfl, rfl, trivial⟩
theorem fresh_of {h : Heap} {ads : List Addr} {a : Addr} (e : (hideAll h ads).get? a = none) (n : a ∉ ads) : h.get? a = none := by
  cases q : h.get? a with
  | none => rfl
  | some o => rw [hideAll_get _ q n] at e; cases e
abbrev mwObj (x : Addr) : Obj := { cls := .type "method-wrapper", data := .fields #[.builtin "Exception.__init__", .ref x] }
def MwP (q x : Addr) (h : Heap) : Prop := h.get? q = some (mwObj x)
section
variable {M : Model} {A : Around} {E : Value → Shared → Prop} {s : Shared} {env : Env} {pos : Pos} {Q : Value → Shared → Prop}
theorem callWith_MW {h₀ : Heap} {L : Addr} {news : List (Addr × Obj)} {q x : Addr} {first : List Value} {e : PySem.Expr} {rest : List PySem.Expr} (_N : News h₀ L s.heap news) (_q : (q, mwObj x) ∈ news) (h : wpAny M A (spliced (backTo pos (starEach (e :: rest) env))) (fun vs s₁ => MwP q x s₁.heap ∧ wpAny M A (call (.ref q) (first ++ vs)) Q E s₁) E s)
    (he : starEach (e :: rest) env = (false, eval e env) :: starEach rest env := by rfl) (hplain : (backTo pos (starEach rest env)).any (·.1) = false := by rfl) :
    wpAny M A (callWith pos (.ref q) first (backTo pos (starEach (e :: rest) env)) []) Q E s := by
  rw [he] at h ⊢
  exact callWith_of (P := MwP q x) (by show ((false || (backTo pos (starEach rest env)).any (·.1)) || false) = false; rw [hplain]; rfl)
    (fun h X => ⟨.machine, .inr (.inl rfl), (Looks.ld (part := none) X).andThen .now⟩) (evalArgs_plain h)
end
/-- the made object's dict tells the spot -/
def SpotD (h : Heap) (e : Addr) (dd : Addr) (sp : Int) : Prop :=
  ∃ hw tw vw hs ts t n, h.get? dd = some (dictOf [⟨hw, .str (Str.ofString "what") tw, vw⟩, ⟨hs, .str (Str.ofString "spot") ts, .int sp t⟩] n) ∧ ∃ vs, h.get? e = some (excD (some dd) vs) ∧ vs.size = 6 ∧ vs[1]? = some .none
theorem words_Exc5_7 : True := by
  k_with_none
  k_with "m fill" => ((w_on; (have hfill : ∀ w : World, (Kt w.params).length = (Kt w.params).length ∧ PySem.Challenge.rw_nz0031_02.foot = PySem.Challenge.rw_nz0031_02.foot := by (k_fill; exact fun _ => ⟨rfl, rfl⟩)); clear hfill))
  k_with "w k_inst" => (exact exc_instN (by k_asm) (by k_mem))
  k_with "w setAttr ref" => ((k_here; k_dflt (first
  | (refine' setK1 ?F ?N ?X ?U ?n ?_; (case F => k_asm); (case N => k_asm); (case X => k_asm); (case U => k_updF); (case n => kernel_rfl); intro dd' h' t' F' N' l1'; (try dsimp only at N'); (try k_lt l1'))
  | (refine' setK2 ?F ?N ?X ?hx ?U ?n ?hk ?hz ?_; (case F => k_asm); (case N => k_asm); (case X => k_asm); (case hx => k_mem); (case U => k_updF); (case n => kernel_rfl); (case hk => rfl); (case hz => exact Nat.le_of_ble_eq_true rfl); intro h' t' F' N'; (try dsimp only at N')))))
  k_with "w getMethod ref" => ((k_here; k_dflt (refine' supK ?F ?N ?X ?so ?hx ?_; (case F => k_asm); (case N => k_asm); (case X => k_asm); (case so => k_mem); (case hx => k_mem); intro q' h' F' N' l1'; (try k_lt l1'))))
  k_with "w callWith ref" => ((k_here; k_dflt (refine' callWith_MW ?N ?q ?_; (case N => k_asm); (case q => k_mem))))
  k_with "w And" => ((k_dflt (refine' And.intro (News.get ?N ?q : MwP _ _ _) ?_; (case N => k_asm); (case q => k_mem)); try dsimp only [List.nil_append, List.cons_append]))
  k_with "w call ref" => ((k_here; k_dflt (refine' mwK ?F ?N ?X ?b ?U ?_; (case F => k_asm); (case N => k_asm); (case X => k_asm); (case b => k_mem); (case U => k_updF); intro t2' h' F' N' l1'; (try dsimp only at N'); (try k_lt l1'))))
  trivial
set_option maxHeartbeats 8000000 in
theorem init_ok (w : World) (outer : List Env) (base : Heap) (s : Shared) (Q E : Value → Shared → Prop) (x tt : Addr) (what : Str) (sp : Int) (t1 t2 : Tok)
    (W : Wd w base) (B : Below (Ak 6 outer) base outer s.heap) (hx : s.heap.get? x = some (excObj tt)) (hb : base.get? x = none) (hf : x ∉ outer.filterMap (·.frame))
    (hret : ∀ h' tk dd, Keep [x] s.heap h' → s.heap.get? dd = none → SpotD h' x dd sp → Q .none { s with heap := h', toks := tk }) :
    wpAny (model PySem.Challenge.rw_nz0031_02.row.prog w) (Ak 6 outer) (call (.ref 94) [.ref x, .str what t1, .int sp t2]) Q E s := by
  k_extra "m fill"
  w_strict (
    (refine wpAny_call ?_);
    k_dflt (refine' enterS W B [(x, excObj tt)] ?k0 ?ho ?hcd ?hroom ?hbind ?hloc ?_ ?c1 ?c2 ?c3 ?c4);
    (case k0 => (intro p hp; rw [List.mem_singleton.mp hp]; exact ⟨hx, hb, hf⟩));
    (case ho => k_is);
    (case hcd => k_is);
    (case hroom => exact Nat.le_of_ble_eq_true rfl);
    (case hbind => exact BindsTo.of_eq rfl);
    (case hloc => exact locs rfl);
    (case c1 => decide);
    (case c2 => exact rfl);
    (case c3 => exact rfl);
    (case c4 => exact rfl);
    intro L h₁ p loose mean mg mb F N Bl X T lt eL tk;
    (dsimp only [List.map] at F N Bl X T);
    (try k_fold)
    k_steps
    all_goals (repeat (first | k_unfold | dsimp only))
    refine hret _ _ _ (Keep.of_fr (by assumption)) ?hd ⟨_, _, _, _, _, _, _, News.get (by assumption) (by k_mem), _, News.get (by assumption) (by k_mem), rfl, rfl⟩
    (case hd => exact fresh_of (News.fresh (by assumption) (by k_mem)) (by simp only [List.mem_singleton]; exact neN (by omega))))
theorem exc_ok (w : World) (outer : List Env) (base : Heap) (s : Shared) (Q E : Value → Shared → Prop) (what : Str) (sp : Int) (t1 t2 : Tok)
    (W : Wd w base) (B : Below (Ak 8 outer) base outer s.heap)
    (hret : ∀ e h' tk dd, Keep [] s.heap h' → s.heap.get? e = none → s.heap.get? dd = none → SpotD h' e dd sp → Q (.ref e) { s with heap := h', toks := tk }) :
    wpAny (model PySem.Challenge.rw_nz0031_02.row.prog w) (Ak 8 outer) (call (.ref 116) [.str what t1, .int sp t2]) Q E s := by
  obtain ⟨hp, g, d, t, os⟩ := s
  have X := W.K.keeps B.stays
  refine exc_call X (show 2 ≤ sizeLine by rw [sizeLine_eq]; decide) ?_
  have k1 : ∀ b o, hp.get? b = some o → ((hp.push { cls := .type "tuple", data := .seq [Value.str what t1, .int sp t2].toArray }).push (excObj hp.objs.size)).get? b = some o := fun b o e => Heap.get?_push_of_some _ (Heap.get?_push_of_some _ e)
  have n1 : hp.get? (hp.objs.size + 1) = none := Heap.get?_none_of_le (by omega)
  have nb : ∀ a, hp.get? a = none → base.get? a = none := fun a e => by
    cases q : base.get? a with
    | none => rfl
    | some o => have := B.stays _ _ q; rw [e] at this; cases this
  have nf : ∀ a, hp.get? a = none → a ∉ outer.filterMap (·.frame) := fun a e hm => by
    obtain ⟨_, o, ho, _⟩ := B.frames.mem hm
    rw [e] at ho; cases ho
  refine wpAny_ak rfl rfl (Nat.le_of_ble_eq_true rfl) (Nat.le_of_ble_eq_true rfl) (init_ok w outer base _ _ _ (hp.objs.size + 1) hp.objs.size what sp t1 t2 W ?_ (by heap_get) (nb _ n1) (nf _ n1) fun h' tk dd hk hdd hsp => ⟨rfl, ?_⟩)
  · exact Below.keep (ch := []) ⟨rfl, B.stays, B.frames⟩ (fun b o e _ => k1 b o e) (fun _ h => nomatch h) (fun _ h => nomatch h)
  · refine hret _ _ _ dd (fun b o e _ => hk _ _ (k1 _ _ e) (by simp only [List.mem_singleton]; intro q; rw [q, n1] at e; cases e)) n1 ?_ hsp
    cases q : hp.get? dd with
    | none => rfl
    | some o => rw [k1 _ _ q] at hdd; cases hdd

end
-- part Fly
theorem words_Fly_8 : True := by
  k_with_none
  trivial
abbrev FrOf (l : List Env) : List Addr := l.filterMap (·.frame)
structure RelS (fr : List Addr) (g h : Heap) : Prop where
  keep : ∀ b o, g.get? b = some o → b ∉ fr → h.get? b = some o
  slot : ∀ b o, g.get? b = some o → ∃ sl, h.get? b = some { o with slots := sl }
theorem RelS.refl (fr : List Addr) (g : Heap) : RelS fr g g := ⟨fun _ _ e _ => e, fun _ o e => ⟨o.slots, e⟩⟩
theorem RelS.trans {fr : List Addr} {g h k : Heap} (x : RelS fr g h) (y : RelS fr h k) : RelS fr g k :=
  ⟨fun b o e n => y.keep b o (x.keep b o e n) n, fun b o e => let ⟨_, e1⟩ := x.slot b o e; let ⟨sl, e2⟩ := y.slot b _ e1; ⟨sl, e2⟩⟩
theorem RelS.of_keep {fr : List Addr} {g h : Heap} (k : Keep [] g h) : RelS fr g h := ⟨fun b o e _ => k b o e (fun h => nomatch h), fun b o e => ⟨o.slots, k b o e (fun h => nomatch h)⟩⟩
theorem RelS.mono {fr fr' : List Addr} {g h : Heap} (x : RelS fr g h) (hs : ∀ b ∈ fr, (∃ o, g.get? b = some o) → b ∈ fr') : RelS fr' g h :=
  ⟨fun b o e n => x.keep b o e fun hm => n (hs b hm ⟨o, e⟩), x.slot⟩
theorem RelS.of_slots {fr : List Addr} {g h : Heap} (x : Heap.SlotsOnly fr g h) : RelS fr g h := ⟨fun b o e n => (x.2.1 b n).trans e, x.2.2⟩
theorem RelS.none {fr : List Addr} {g h : Heap} (x : RelS fr g h) {b : Addr} (e : h.get? b = none) : g.get? b = none := by
  cases q : g.get? b with
  | none => rfl
  | some o => obtain ⟨sl, e2⟩ := x.slot b o q; rw [e] at e2; cases e2

def Spot (h : Heap) (dd : Addr) (sp : Int) : Prop := ∃ hw tw vw hs ts t n sl, h.get? dd = some ⟨.type "dict", none, .dict [⟨hw, .str (Str.ofString "what") tw, vw⟩, ⟨hs, .str (Str.ofString "spot") ts, .int sp t⟩].toArray n, sl⟩
theorem Spot.up {h h' : Heap} {dd : Addr} {sp : Int} (x : Spot h dd sp) (k : h.UpToSlots h') : Spot h' dd sp := by
  obtain ⟨hw, tw, vw, hs, ts, t, n, sl, e⟩ := x
  obtain ⟨sl', e'⟩ := k _ _ e (fun vs q => by cases q)
  exact ⟨hw, tw, vw, hs, ts, t, n, sl', e'⟩

/-- an exception of the text's own that is not yet noted in a frame -/
def FlN (g h : Heap) (e dd : Addr) (sp : Int) : Prop :=
  g.get? e = none ∧ g.get? dd = none ∧ Spot h dd sp ∧ ∃ vs, h.get? e = some (excD (some dd) vs) ∧ vs.size = 6 ∧ vs[1]? = some .none
/-- .. that is noted -/
def FlT (g h : Heap) (e dd : Addr) (sp : Int) : Prop :=
  g.get? e = none ∧ g.get? dd = none ∧ Spot h dd sp ∧ ∃ vs T oT ts, h.get? e = some (excD (some dd) vs) ∧ vs.size = 6 ∧ vs[1]? = some (.ref T) ∧ T ≠ e ∧ g.get? T = none ∧ h.get? T = some oT ∧ oT.data = .fields ts ∧ 3 < ts.size

section
variable {M : Model} {A : Around} {E : Value → Shared → Prop} {s : Shared} {env : Env} {outer : List Env} {base g : Heap} {L e dd : Addr} {sp : Int}
theorem entry_ok {vs : Array Value} {head : Value} {hadNext : Bool} {Q : Unit → Shared → Prop} (hfr : A.frames = some (env :: outer)) (hf : env.frame = some L) (hl : s.heap.FunFrames base (env :: outer))
    (hr : RelS (FrOf outer) g s.heap) (hL : g.get? L = none) (hge : g.get? e = none) (hgd : g.get? dd = none) (hsp : Spot s.heap dd sp) (he : s.heap.get? e = some (excD (some dd) vs)) (hv : vs.size = 6)
    (hQ : ∀ h', RelS (FrOf outer) g h' → s.heap.UpToSlots h' → h'.FunFrames base (env :: outer) → FlT g h' e dd sp → Q () { s with heap := h' }) :
    wpAny M A (do let a ← frameOf env; let pl ← entryPlaceOf L hadNext; let b ← EntryCells.newEntry head a .none (rawInt L) .none pl; setField (.ref e) 1 b) Q E s := by
  have hene : e ∉ FrOf (env :: outer) := fun hm => by
    obtain ⟨_, o, ho, hnf⟩ := hl.mem hm
    rw [he] at ho; injection ho with ho; subst ho; exact hnf vs rfl
  have hLo : FrOf (env :: outer) = L :: FrOf outer := by unfold FrOf; rw [List.filterMap_cons, hf]
  refine wpAny_bind (wpAny_frameOf_fun hfr hl hf fun h₁ hs₁ => ?_)
  have hs₁' : Heap.SlotsOnly (FrOf (env :: outer)) s.heap h₁ := hs₁
  refine wpAny_bind (wpAny_entryPlaceOf fun pl hpl => ?_)
  unfold EntryCells.newEntry newFields
  refine wpAny_bind (wpAny_newObj_type ?_ (hpl.sizeOk5 _ _ _ _ _))
  have he₁ : h₁.get? e = some (excD (some dd) vs) := (hs₁'.2.1 e hene).trans he
  have r₁ : RelS (FrOf outer) g h₁ := ⟨fun b o e' n => (hs₁'.2.1 b (by
      rw [hLo]; intro hm
      rcases List.mem_cons.mp hm with rfl | hm
      · rw [hL] at e'; cases e'
      · exact n hm)).trans (hr.keep b o e' n), fun b o e' => let ⟨_, e1⟩ := hr.slot b o e'; let ⟨sl, e2⟩ := hs₁'.2.2 b _ e1; ⟨sl, e2⟩⟩
  generalize hob : ({ cls := Value.type "traceback", dict := none, data := Data.fields ([head, Value.ref L, Value.none, rawInt L, Value.none] ++ if pl.isEmpty then List.replicate 6 Value.none else pl).toArray } : Obj) = ob
  have hobf : ob.isFreed = false := by subst hob; rfl
  have he₂ : (h₁.push ob).get? e = some (excD (some dd) vs) := Heap.get?_push_of_some _ he₁
  have hTe : h₁.objs.size ≠ e := Nat.ne_of_gt (Heap.lt_size he₁)
  have hgT : g.get? h₁.objs.size = none := r₁.none (Heap.get?_none_of_le (Nat.le_refl _))
  have hu := fun b (hb : b ≠ e) => Heap.get?_update_other (h₁.push ob) (Obj.mapFields (·.setIfInBounds 1 (Value.ref h₁.objs.size))) (Ne.symm hb)
  have keep : ∀ b o, b ≠ e → h₁.get? b = some o → ((h₁.push ob).update e (Obj.mapFields (·.setIfInBounds 1 (Value.ref h₁.objs.size)))).get? b = some o := fun b o hb q => by
    rw [hu b hb]; exact Heap.get?_push_of_some _ q
  have up : s.heap.UpToSlots ((h₁.push ob).update e (Obj.mapFields (·.setIfInBounds 1 (Value.ref h₁.objs.size)))) := fun b o q hnf => by
    have hb : b ≠ e := fun z => by rw [z, he] at q; cases q; exact hnf vs rfl
    obtain ⟨sl, q2⟩ := hs₁'.2.2 b o q
    exact ⟨sl, keep b _ hb q2⟩
  refine wpAny_setField he₂ rfl (by omega) (hQ _ ⟨fun b o q n => keep b o (fun z => by rw [z, hge] at q; cases q) (r₁.keep b o q n), fun b o q => ?_⟩ up (hl.of_keeps fun b o q hnf => ?_) ?_)
  · obtain ⟨sl, q2⟩ := r₁.slot b o q
    exact ⟨sl, keep b _ (fun z => by rw [z, hge] at q; cases q) q2⟩
  · obtain ⟨sl, q2⟩ := up b o q hnf
    exact ⟨_, q2, rfl⟩
  · refine ⟨hge, hgd, ?_, vs.setIfInBounds 1 (.ref h₁.objs.size), h₁.objs.size, ob, _, ?_, ?_, ?_, hTe, hgT, ?_, by subst hob; rfl, ?_⟩
    · exact hsp.up up
    · exact Heap.get?_update_self _ he₂ rfl
    · simp [hv]
    · simp [hv]
    · rw [hu _ hTe]; exact Heap.get?_push_size _ hobf
    · subst hob; simp
theorem setFlight_ok {Q : Unit → Shared → Prop} {l : List Env} {fr : List Addr} (hl : s.heap.FunFrames base l) (hr : RelS fr g s.heap) (fl : FlT g s.heap e dd sp) (fo : Option Addr)
    (hQ : ∀ h', RelS fr g h' → s.heap.UpToSlots h' → h'.FunFrames base l → FlT g h' e dd sp → Q () { s with heap := h' }) : wpAny M A (setFlight (.ref e) fo) Q E s := by
  obtain ⟨hge, hgd, hsp, vs, T, oT, ts, he, hv, h1, hTe, hgT, hT, hdT, h3⟩ := fl
  have hu := fun (x : Value) b (hb : b ≠ T) => Heap.get?_update_other s.heap (Obj.mapFields (·.setIfInBounds 3 x)) (Ne.symm hb)
  unfold setFlight
  refine wpAny_bind (wpAny_field he rfl h1 ?_)
  rw [if_pos (show (Value.ref T != Value.none) = true from by simp)]
  have up : ∀ x, s.heap.UpToSlots (s.heap.update T (Obj.mapFields (·.setIfInBounds 3 x))) := fun x b o q hnf => ⟨o.slots, by rw [hu x b (fun z => by rw [z, hT] at q; cases q; exact hnf ts hdT)]; exact q⟩
  refine wpAny_setField hT hdT h3 (hQ _ ⟨fun b o q n => ?_, fun b o q => ?_⟩ (up _) (hl.of_keeps fun b o q hnf => let ⟨_, q2⟩ := up _ b o q hnf; ⟨_, q2, rfl⟩) ⟨hge, hgd, hsp.up (up _), vs, T, _, _, ?_, hv, h1, hTe, hgT, Heap.get?_update_self _ hT (Obj.isFreed_of_fields (Obj.data_mapFields hdT _)), Obj.data_mapFields hdT _, by simp [h3]⟩)
  · rw [hu _ b (fun z => by rw [z, hgT] at q; cases q)]; exact hr.keep b o q n
  · obtain ⟨sl, q2⟩ := hr.slot b o q
    exact ⟨sl, by rw [hu _ b (fun z => by rw [z, hgT] at q; cases q)]; exact q2⟩
  · rw [hu _ e (Ne.symm hTe)]; exact he
theorem noteFrame_ok {Q : Unit → Shared → Prop} (hfr : A.frames = some (env :: outer)) (hf : env.frame = some L) (hl : s.heap.FunFrames base (env :: outer))
    (hr : RelS (FrOf outer) g s.heap) (hL : g.get? L = none) (fl : FlN g s.heap e dd sp ∨ FlT g s.heap e dd sp)
    (hQ : ∀ h', RelS (FrOf outer) g h' → s.heap.UpToSlots h' → h'.FunFrames base (env :: outer) → FlT g h' e dd sp → Q () { s with heap := h' }) : wpAny M A (noteFrame (.ref e) env) Q E s := by
  unfold noteFrame
  simp only [hf]
  rcases fl with fl | fl
  · obtain ⟨hge, hgd, hsp, vs, he, hv, h1⟩ := fl
    refine wpAny_bind (wpAny_field he rfl h1 ?_)
    rw [if_neg (by decide)]
    exact entry_ok hfr hf hl hr hL hge hgd hsp he hv hQ
  · have fl' := fl
    obtain ⟨hge, hgd, hsp, vs, T, oT, ts, he, hv, h1, hTe, hgT, hT, hdT, h3⟩ := fl
    refine wpAny_bind (wpAny_field he rfl h1 ?_)
    rw [if_pos (show (Value.ref T != Value.none) = true from by simp)]
    obtain ⟨x3, hx3⟩ : ∃ x, ts[3]? = some x := ⟨_, Array.getElem?_eq_getElem h3⟩
    refine wpAny_bind (wpAny_field hT hdT hx3 ?_)
    by_cases hc : (x3 == rawInt L) = true
    · rw [if_pos hc]
      exact wpAny_pure (by have := hQ s.heap hr (Heap.UpToSlots.refl _) hl fl'; exact this)
    · rw [if_neg hc]
      have hu := fun (x : Value) b (hb : b ≠ T) => Heap.get?_update_other s.heap (Obj.mapFields (·.setIfInBounds 3 x)) (Ne.symm hb)
      have up : ∀ x, s.heap.UpToSlots (s.heap.update T (Obj.mapFields (·.setIfInBounds 3 x))) := fun x b o q hnf => ⟨o.slots, by rw [hu x b (fun z => by rw [z, hT] at q; cases q; exact hnf ts hdT)]; exact q⟩
      refine wpAny_bind (wpAny_setField hT hdT h3 ?_)
      refine entry_ok (vs := vs) hfr hf (hl.of_keeps fun b o q hnf => let ⟨_, q2⟩ := up _ b o q hnf; ⟨_, q2, rfl⟩) ⟨fun b o q n => ?_, fun b o q => ?_⟩ hL hge hgd (hsp.up (up _)) ?_ hv fun h' r u fr fl => hQ h' r ((up _).trans u) fr fl
      · rw [hu _ b (fun z => by rw [z, hgT] at q; cases q)]; exact hr.keep b o q n
      · obtain ⟨sl, q2⟩ := hr.slot b o q
        exact ⟨sl, by rw [hu _ b (fun z => by rw [z, hgT] at q; cases q)]; exact q2⟩
      · rw [hu _ e (Ne.symm hTe)]; exact he
theorem leaving_ok {Q : Unit → Shared → Prop} (hfr : A.frames = some (env :: outer)) (hf : env.frame = some L) (hl : s.heap.FunFrames base (env :: outer))
    (hr : RelS (FrOf outer) g s.heap) (hL : g.get? L = none) (fl : FlN g s.heap e dd sp ∨ FlT g s.heap e dd sp)
    (hQ : ∀ h', RelS (FrOf outer) g h' → s.heap.UpToSlots h' → h'.FunFrames base outer → FlT g h' e dd sp → Q () { s with heap := h' }) : wpAny M A (leaving env (.ref e)) Q E s := by
  unfold leaving
  refine wpAny_bind (noteFrame_ok hfr hf hl hr hL fl fun h' r u fr fl => ?_)
  refine setFlight_ok (l := env :: outer) fr r fl none fun h'' r' u' fr' fl' => ?_
  obtain ⟨_, _, k3⟩ := fr'
  exact hQ h'' r' (u.trans u') k3 fl'
end

-- part Heard
theorem words_Heard_9 : True := by
  k_with_none
  trivial
section
variable {w : World} {A : Around} {E : Value → Shared → Prop} {h : Heap} {g : Array GenState} {d : Drawn} {t : Nat} {os : OsState}
theorem cls_obj {w : World} {h : Heap} (X : (Kt w.params).In h) : ∃ dd cd sl, h.get? 116 = some ⟨.type "type", dd, .cls cd, sl⟩ := ⟨_, _, _, X 116 _ rfl⟩
theorem matches_own {e : Addr} {dO : Option Addr} {vs : Array Value} {Q : Bool → Shared → Prop} {M : Model} (X : (Kt w.params).In h) (he : h.get? e = some (excD dO vs)) (hq : Q true ⟨h, g, d, t, os⟩) :
    wpAny M A (excMatches (.ref e) (.ref 116)) Q E ⟨h, g, d, t, os⟩ := by
  obtain ⟨nm, q, bs, hdct, sn, sub, ab, col, k0, k1, k2, k3, k5, hC⟩ := cls_E X
  have hcB : (Value.ref 116 :: bmE).contains (.type "BaseException") = true := by decide
  have hcC : (Value.ref 116 :: bmE).contains (.ref 116) = true := by decide
  unfold excMatches
  repeat (first
    | (with_reducible refine wpAny_loadPart_at he ?_)
    | (with_reducible show wpAny _ _ (isSubtype _ (Value.type "tuple")) _ _ _; refine wpAny_of_eq tc_notTuple ?_)
    | (with_reducible refine wpAny_loadPart_at hC ?_)
    | (with_reducible refine wpAny_isSubtype_exc hC ?_; first | rw [hcB] | rw [hcC])
    | wp_step)
  exact hq
theorem ga_entry {e dd : Addr} {vs : Array Value} {sp : Int} {tk : Tok} {Q : PySem.Fin → Shared → Prop} (X : (Kt w.params).In h) (he : h.get? e = some (excD (some dd) vs)) (hsp : Spot h dd sp)
    (hq : ∀ tv, Q (.done (.ret (.int sp tv))) ⟨h, g, d, t, os⟩) : wpAny (model PySem.Challenge.rw_nz0031_02.row.prog w) A (Builtin.«object.__getattribute__» ⟨[.ref e, .str (Str.ofString "spot") tk], []⟩) Q E ⟨h, g, d, t, os⟩ := by
  obtain ⟨hw, tw, vw, hs, ts, tv, n, sl, hdd⟩ := hsp
  have hf : findObj (Kt w.params) 116 (some (⟨.type "dict", none, .dict [⟨hw, .str (Str.ofString "what") tw, vw⟩, ⟨hs, .str (Str.ofString "spot") ts, .int sp tv⟩].toArray n, sl⟩ : Obj)) (Str.ofString "spot") = some (.value (.int sp tv)) := by kernel_rfl
  have I : InstAt h e (excD (some dd) vs) 116 (some (⟨.type "dict", none, .dict [⟨hw, .str (Str.ofString "what") tw, vw⟩, ⟨hs, .str (Str.ofString "spot") ts, .int sp tv⟩].toArray n, sl⟩ : Obj)) := ⟨he, rfl, rfl, hdd⟩
  have L0 := I.type (M := model PySem.Challenge.rw_nz0031_02.row.prog w)
  have L1 := looks_find (M := model PySem.Challenge.rw_nz0031_02.row.prog w) X I hf
  refine wpAny_bind (wpAny_pure (wpAny_bind (wpAny_pure (wpAny_bind (L0.at (wpAny_bind (L1.at ?_)))))))
  exact wpAny_pure (hq tv)
theorem spot_attr {e dd : Addr} {vs : Array Value} {sp : Int} {expr : Bool} {Q : Value → Shared → Prop} (X : (Kt w.params).In h) (he : h.get? e = some (excD (some dd) vs)) (hsp : Spot h dd sp)
    (hq : ∀ tv, Q (.int sp tv) ⟨h, g, d, t + 1, os⟩) : wpAny (model PySem.Challenge.rw_nz0031_02.row.prog w) A (getAttr (.ref e) (Str.ofString "spot") expr) Q E ⟨h, g, d, t, os⟩ := by
  have FB := PySem.F.attrBase_Exception
  obtain ⟨nm, q, bs, hdct, sn, sub, ab, col, k0, k1, k2, k3, k5, hC⟩ := cls_E X
  have hga : findIn (Kt w.params) (.ref 116) "__getattribute__" = some (some (.builtin "BaseException.__getattribute__")) := by kernel_rfl
  have hgn : findIn (Kt w.params) (.ref 116) "__getattr__" = some none := by kernel_rfl
  have L0 : Looks (model PySem.Challenge.rw_nz0031_02.row.prog w) h (typeOf (.ref e)) (.ref 116) := (Looks.ld he).andThen .now
  have L1 := looks_findIn (M := model PySem.Challenge.rw_nz0031_02.row.prog w) X hga
  have L2 := looks_findIn (M := model PySem.Challenge.rw_nz0031_02.row.prog w) X hgn
  unfold getAttr getAttrBy
  refine wpAny_bind (wpAny_mkText (wpAny_holding (wpAny_bind (L0.at (wpAny_bind (L1.at ?_))))))
  show wpAny _ _ (getAttrByItsOwn (.ref e) (.str (Str.ofString "spot") t) (.ref 116) (.builtin "BaseException.__getattribute__") true expr) _ _ _
  unfold getAttrByItsOwn hookBefore callGetattribute boundAndCalled
  refine wpAny_bind (show wpAny _ _ (typeLookup (.ref 116) "__getattr__") _ _ _ from L2.at ?_)
  refine wpAny_bind (wpAny_attempt (wpAny_holding ?_))
  have hx0 : (expr && onTheHeap (Value.builtin "BaseException.__getattribute__")) = false := by cases expr <;> rfl
  rw [hx0]
  show wpAny _ _ (bindSpecial (.builtin "BaseException.__getattribute__") (.ref e) >>= _) _ _ _
  refine wpAny_bind (wpAny_of_eq (FB.ga.bind _) ?_)
  have hcB : (Value.ref 116 :: bmE).contains (.type "BaseException") = true := by decide
  have ha := F.args_bexc_ga (.ref e) (.str (Str.ofString "spot") t)
  have hk : builtinKind "BaseException.__getattribute__" = some .slot := by decide +kernel
  have hsplit : splitId "BaseException.__getattribute__" = some ("BaseException", "__getattribute__") := by decide +kernel
  have L3 : Looks (model PySem.Challenge.rw_nz0031_02.row.prog w) h (isSubtype (.ref 116) (.type "BaseException")) true := fun A Q E s k q => by
    obtain ⟨hh, g', d', t', os'⟩ := s
    exact wpAny_isSubtype_exc (k _ _ hC) (by rw [hcB]; exact q)
  show wpAny _ _ (call (.builtin "BaseException.__getattribute__") [.ref e, .str (Str.ofString "spot") t]) _ _ _
  refine wpAny_call ?_
  refine codeAny_call_builtin FB.ga.plain F.entry_bexc_ga (@check_slot (model PySem.Challenge.rw_nz0031_02.row.prog w) _ _ ⟨h, g, d, t + 1, os⟩ "BaseException.__getattribute__" "BaseException" "__getattribute__" (.ref e) [.str (Str.ofString "spot") t] [] _ hk hsplit (L0.andThen L3) ha ?_)
  refine ga_entry X he hsp fun tv => ?_
  show wpAny _ _ (handedOut (.int sp tv)) _ _ _
  rw [handedOut_of rfl]
  exact wpAny_pure (hq tv)
end

-- part Ari
theorem words_Ari_10 : True := by
  k_with_none
  trivial
theorem abs_if (x : Int) : (if x < 0 then -x else x) = (x.natAbs : Int) := by split <;> omega
theorem fdiv_nat (m n : Nat) : Int.fdiv (m : Int) (n : Int) = ((m / n : Nat) : Int) := by
  rw [Int.fdiv_eq_ediv_of_nonneg _ (Int.natCast_nonneg n)]; rfl
theorem tdiv_same {x y : Int} (h : (decide (x < 0) == decide (y < 0)) = true) : (if x < 0 then -x else x).fdiv (if y < 0 then -y else y) = x.tdiv y := by
  rw [abs_if, abs_if, fdiv_nat]
  cases x with
  | ofNat m => cases y with
    | ofNat n => rfl
    | negSucc n =>
      have h2 : Int.negSucc n < 0 := Int.negSucc_lt_zero n
      simp [h2] at h; omega
  | negSucc m => cases y with
    | ofNat n =>
      have h2 : Int.negSucc m < 0 := Int.negSucc_lt_zero m
      simp [h2] at h; omega
    | negSucc n => rfl
theorem tdiv_other {x y : Int} (h : (decide (x < 0) == decide (y < 0)) = false) : -((if x < 0 then -x else x).fdiv (if y < 0 then -y else y)) = x.tdiv y := by
  rw [abs_if, abs_if, fdiv_nat]
  cases x with
  | ofNat m => cases y with
    | ofNat n =>
      simp at h; omega
    | negSucc n => rfl
  | negSucc m => cases y with
    | ofNat n => rfl
    | negSucc n =>
      have h1 : Int.negSucc n < 0 := Int.negSucc_lt_zero n
      have h2 : Int.negSucc m < 0 := Int.negSucc_lt_zero m
      simp [h1, h2] at h
theorem mul_same {a b v : Int} (h : (decide (a < 0) == decide (b < 0)) = true) (e : v = (a.natAbs : Int) * b.natAbs) : v = a * b := by
  subst e
  by_cases h1 : a < 0 <;> by_cases h2 : b < 0 <;> simp [h1, h2] at h
  · rw [show (a.natAbs : Int) = -a by omega, show (b.natAbs : Int) = -b by omega, Int.neg_mul_neg]
  · rw [show (a.natAbs : Int) = a by omega, show (b.natAbs : Int) = b by omega]
theorem mul_other {a b v : Int} (h : (decide (a < 0) == decide (b < 0)) = false) (e : v = (a.natAbs : Int) * b.natAbs) : 0 - v = a * b := by
  subst e
  by_cases h1 : a < 0 <;> by_cases h2 : b < 0 <;> simp [h1, h2] at h
  · rw [show (a.natAbs : Int) = -a by omega, show (b.natAbs : Int) = b by omega, Int.neg_mul]; omega
  · rw [show (a.natAbs : Int) = a by omega, show (b.natAbs : Int) = -b by omega, Int.mul_neg]; omega

-- part Heard2
theorem matches_ownS {w : World} {A : Around} {E : Value → Shared → Prop} {s : Shared} {e : Addr} {dO : Option Addr} {vs : Array Value} {Q : Bool → Shared → Prop} {M : Model} (X : (Kt w.params).In s.heap) (he : s.heap.get? e = some (excD dO vs)) (hq : Q true s) :
    wpAny M A (excMatches (.ref e) (.ref 116)) Q E s := by obtain ⟨h, g, d, t, os⟩ := s; exact matches_own X he hq
theorem spot_attrS {w : World} {A : Around} {E : Value → Shared → Prop} {s : Shared} {h₀ : Heap} {L : Addr} {m : Str → Option Value} {news : List (Addr × Obj)} {e dd : Addr} {vs : Array Value} {hw hs : Int} {tw ts tv : Tok} {vw : Value} {n : Nat} {sl : Array (Option Value)} {sp : Int} {expr : Bool} {Q : Value → Shared → Prop}
    (F : Fr h₀ L s.heap m) (N : News h₀ L s.heap news) (X : (Kt w.params).In h₀) (he : (e, excD (some dd) vs) ∈ news) (hd : (dd, (⟨.type "dict", none, .dict [⟨hw, .str (Str.ofString "what") tw, vw⟩, ⟨hs, .str (Str.ofString "spot") ts, .int sp tv⟩].toArray n, sl⟩ : Obj)) ∈ news)
    (hq : ∀ tv, Q (.int sp tv) { s with toks := s.toks + 1 }) : wpAny (model PySem.Challenge.rw_nz0031_02.row.prog w) A (getAttr (.ref e) (Str.ofString "spot") expr) Q E s := by
  obtain ⟨h, g, d, t, os⟩ := s; exact spot_attr (X.keeps F.keep) (N _ he).1 ⟨_, _, _, _, _, _, _, _, (N _ hd).1⟩ hq
def FaultT (h : Heap) (tu : Addr) (sp : Int) : Prop := ∃ t1 t2, h.get? tu = some { cls := .type "tuple", data := .seq [.str (Str.ofString "fault") t1, .int sp t2].toArray }
/-- a piece of work that may be refused at a spot -/
def RaiseAt (w : World) (A : Around) (base : Heap) (outer : List Env) (h0 : Heap) (t : Sem Value) (okV : Value → Prop) (flt : Int → Prop) : Prop :=
  ∀ (Q E : Value → Shared → Prop) (s : Shared), Keep [] h0 s.heap → Below A base outer s.heap →
    (∀ v h' tk, okV v → Keep [] s.heap h' → Q v { s with heap := h', toks := tk }) →
    (∀ e dd sp h' tk, flt sp → RelS (FrOf outer) s.heap h' → s.heap.UpToSlots h' → h'.FunFrames base outer → FlT s.heap h' e dd sp → E (.ref e) { s with heap := h', toks := tk }) →
    wpAny (model PySem.Challenge.rw_nz0031_02.row.prog w) A t Q E s

theorem fn_keeper {M : Model} {h : Heap} {c : Addr} {fd : FuncData} {cl : Value} {dct : Option Addr} {sl : Array (Option Value)} (e : h.get? c = some ⟨cl, dct, .func fd, sl⟩) : Looks M h (keeperOf (.ref c)) .frame := (Looks.ld (part := none) e).andThen .now

/-- after an exception the ground is laid anew: the frames' slots may have been turned -/
theorem reground {A₀ : Around} {base g h₅ : Heap} {outer : List Env} {L : Addr} {m : Str → Option Value} (K : Below A₀ base outer g) (hns : h₅.Ns L m) (hab : g.objs.size ≤ L) (hr : RelS (FrOf outer) g h₅) :
    ∃ g', RelS (FrOf outer) g g' ∧ KtsTurn (FrOf outer) g g' ∧ Fr g' L h₅ m ∧ Below A₀ base outer g' := by
  obtain ⟨T, S⟩ := kts_turn_at (h := h₅) (fs := FrOf outer) (g := g)
    (fun b hb => by
      obtain ⟨_, o, ho, _⟩ := K.frames.mem hb
      exact ⟨o, ho⟩)
    (fun b o e nm => hr.keep b o e nm)
    (fun b o e hm => hr.slot b o e)
  refine ⟨_, ⟨T.other, fun b o e => T.up e⟩, T, ⟨hns, S, by rw [T.size]; exact hab⟩, ⟨K.stack, fun b o e => T.other b o (K.stays b o e) (fun hm => by
    rw [(K.frames.mem hm).1] at e
    cases e), K.frames.of_keeps fun b o e _ => ?_⟩⟩
  obtain ⟨sl, hs⟩ := T.up e
  exact ⟨_, hs, rfl⟩

theorem words_Heard2_11 : True := by
  k_with_none
  k_with "m fill" => ((w_on; (have hfill : ∀ w : World, (Kt w.params).length = (Kt w.params).length ∧ PySem.Challenge.rw_nz0031_02.foot = PySem.Challenge.rw_nz0031_02.foot := by (k_fill; exact fun _ => ⟨rfl, rfl⟩)); clear hfill))
  k_with "w exec Try" => ((k_here; k_dflt (refine' wpAny_Try_except ?_)))
  trivial
set_option maxHeartbeats 8000000 in
theorem heard_ok (w : World) (outer : List Env) (base : Heap) (s : Shared) (Q E : Value → Shared → Prop) (c : Addr) (fd : FuncData) (cl : Value) (dct : Option Addr) (sl : Array (Option Value)) (okV : Value → Prop) (flt : Int → Prop)
    (W : Wd w base) (B : Below (Ak 60 outer) base outer s.heap) (hc : s.heap.get? c = some ⟨cl, dct, .func fd, sl⟩)
    (hcall : ∀ env L, env.frame = some L → s.heap.get? L = none → RaiseAt w (Ak 58 (env :: outer)) base (env :: outer) s.heap (call (.ref c) []) okV flt)
    (hret : ∀ v h' tk, okV v → Keep [] s.heap h' → Q v { s with heap := h', toks := tk })
    (hret2 : ∀ tu h' tk sp, flt sp → RelS (FrOf outer) s.heap h' → h'.FunFrames base outer → s.heap.get? tu = none → FaultT h' tu sp → Q (.ref tu) { s with heap := h', toks := tk }) :
    wpAny (model PySem.Challenge.rw_nz0031_02.row.prog w) (Ak 60 outer) (call (.ref 415) [.ref c]) Q E s := by
  k_extra "m fill"
  w_strict (
    (refine wpAny_call ?_);
    k_dflt (refine' enter W B [] ?k0 ?ho ?hcd ?hroom ?hbind ?hloc ?_ ?c1 ?c2 ?c3 ?c4);
    (case k0 => exact fun _ h => nomatch h);
    (case ho => k_is);
    (case hcd => k_is);
    (case hroom => exact Nat.le_of_ble_eq_true rfl);
    (case hbind => exact BindsTo.of_eq rfl);
    (case hloc => exact locs rfl);
    (case c1 => decide);
    (case c2 => exact rfl);
    (case c3 => exact rfl);
    (case c4 => exact rfl);
    intro L h₁ p loose mean mg mb F N Bl X T lt eL tk;
    (dsimp only [List.map, hideAll] at F N Bl X T);
    (try k_fold)
    k_steps
    (refine callWith_of (P := fun h => h.get? c = some ⟨cl, dct, .func fd, sl⟩) rfl (fun h e => ⟨.frame, .inl rfl, fn_keeper e⟩) (evalArgs_nil3 ⟨F.keep _ _ hc, ?_⟩))
    (refine wpAny_ak rfl rfl (Nat.le_of_ble_eq_true rfl) (Nat.le_of_ble_eq_true rfl) (hcall _ _ rfl (kts_self F) _ _ _ (fun b o e _ => Fr.keep (by assumption) b o e) (below_at (by assumption) (by assumption) rfl rfl) (fun v h' tk okv hk => ?_) fun e dd sp h' tk hf hr hu hff fl => ?_))
    · (repeat (first | k_unfold | dsimp only))
      exact hret _ _ _ okv (fun b o e n => hk _ _ (F.keep _ _ e) n)
    · have hL : s.heap.get? L = none := kts_self F
      have hr0 : RelS (FrOf outer) s.heap h' := ⟨fun b o e' nm => hr.keep b o (F.keep b o e') (fun hm => by
          have hLo : ∀ env : Env, env.frame = some L → FrOf (env :: outer) = L :: FrOf outer := fun env hf => by unfold FrOf; rw [List.filterMap_cons, hf]
          rw [hLo _ rfl] at hm
          rcases List.mem_cons.mp hm with z | z
          · rw [z, hL] at e'; cases e'
          · exact nm z), fun b o e' => hr.slot b o (F.keep b o e')⟩
      have fl0 : FlT s.heap h' e dd sp := ⟨kts_none F.keep fl.1, kts_none F.keep fl.2.1, fl.2.2.1, let ⟨vs, T, oT, ts, a1, a2, a3, a4, a5, a6⟩ := fl.2.2.2; ⟨vs, T, oT, ts, a1, a2, a3, a4, kts_none F.keep a5, a6⟩⟩
      refine noteFrame_ok rfl rfl hff hr0 hL (.inr fl0) fun h2 r2 u2 f2 fl2 => ?_
      refine setFlight_ok (l := _ :: outer) f2 r2 fl2 none fun h3 r3 u3 f3 fl3 => ?_
      refine wpAny_handleBy_cons (codeAny_handlers_test ?_) (by intro q; cases q)
      obtain ⟨g2, rg2, T2, F2, B2⟩ := reground Bl (u3.ns (u2.ns (hu.ns F.ns))) F.above r3
      have X2 := W.K.keeps B2.stays
      obtain ⟨p2, loose2, mean2, mg2, mb2, Tp2⟩ := W.top
      have TT2 := Tp2.keeps B2.stays
      have F0 := F
      have Bl0 := Bl
      clear F N Bl X T
      k_steps
      have X3 := X2.keeps F2.keep
      obtain ⟨vs3, he3⟩ : ∃ vs3, h3.get? e = some (excD (some dd) vs3) := by obtain ⟨_, _, _, vs3, _, _, _, he3, _⟩ := fl3; exact ⟨vs3, he3⟩
      refine matches_ownS X3 he3 ?_
      show codeAny _ _ _ _ _
      refine codeAny_handlers_suite_as ?_
      refine setFlight_ok (l := _ :: outer) f3 r3 fl3 none fun h4 r4 u4 f4 fl4 => ?_
      obtain ⟨g4, rg4, T4, F4, B4⟩ := reground Bl0 (u4.ns (u3.ns (u2.ns (hu.ns F0.ns)))) F0.above r4
      have X4 := W.K.keeps B4.stays
      have TT4 := Tp2.keeps B4.stays
      clear F2 B2 X2 TT2 T2 rg2 X3
      obtain ⟨ge, gd, ⟨hw, tw, vw, hs, ts', tv, nn, sld, hdd⟩, vs4, T4', oT4, ts4, he4, _⟩ := fl4
      have N4 : News g4 L h4 [(e, excD (some dd) vs4), (dd, ⟨.type "dict", none, .dict [⟨hw, .str (Str.ofString "what") tw, vw⟩, ⟨hs, .str (Str.ofString "spot") ts', .int sp tv⟩].toArray nn, sld⟩)] := by
        obtain ⟨oL, _, _, hoL, _⟩ := F0.ns
        intro p hp
        rcases List.mem_cons.mp hp with rfl | hp
        · exact ⟨he4, (fun (z : e = L) => by have h9 : h₁.get? e = none := fl.1; rw [z, hoL] at h9; cases h9), T4.none_ _ ge⟩
        · rw [List.mem_singleton.mp hp]
          exact ⟨hdd, (fun (z : dd = L) => by have h9 : h₁.get? dd = none := fl.2.1; rw [z, hoL] at h9; cases h9), T4.none_ _ gd⟩
      k_steps
      k_here
      k_dflt (refine' spot_attrS ?F ?N X4 ?he ?hd ?_)
      (case F => k_asm)
      (case N => k_asm)
      (case he => k_mem)
      (case hd => k_mem)
      intro tv5
      k_steps
      (repeat (first | k_unfold | dsimp only))
      refine hret2 _ _ _ sp hf ⟨fun b o e n => Fr.keep (by assumption) _ _ (rg4.keep b o e n), fun b o e => let ⟨sl, q⟩ := rg4.slot b o e; ⟨sl, Fr.keep (by assumption) _ _ q⟩⟩ (B4.frames.of_keeps fun b o e _ => ⟨_, Fr.keep (by assumption) _ _ e, rfl⟩) (rg4.none (News.fresh (by assumption) (by k_mem))) ⟨_, _, News.get (by assumption) (by k_mem)⟩)

-- part Raise
def RaiseS (w : World) (n : Nat) (f : Addr) (vs : List Value) (okV : Value → Prop) (flt : Int → Prop) : Prop :=
  ∀ (outer : List Env) (base : Heap) (Q E : Value → Shared → Prop) (s : Shared), Wd w base → Below (Ak n outer) base outer s.heap →
    (∀ v h' tk, okV v → Keep [] s.heap h' → Q v { s with heap := h', toks := tk }) →
    (∀ e dd sp h' tk, flt sp → RelS (FrOf outer) s.heap h' → h'.FunFrames base outer → FlT s.heap h' e dd sp → E (.ref e) { s with heap := h', toks := tk }) →
    wpAny (model PySem.Challenge.rw_nz0031_02.row.prog w) (Ak n outer) (call (.ref f) vs) Q E s

theorem FlT.lower {g h h' : Heap} {e dd : Addr} {sp : Int} (k : ∀ b o, g.get? b = some o → h.get? b = some o) (fl : FlT h h' e dd sp) : FlT g h' e dd sp :=
  ⟨kts_none k fl.1, kts_none k fl.2.1, fl.2.2.1, let ⟨vs, T, oT, ts, a1, a2, a3, a4, a5, a6⟩ := fl.2.2.2; ⟨vs, T, oT, ts, a1, a2, a3, a4, kts_none k a5, a6⟩⟩
theorem relS_fr {g h : Heap} {fr : List Addr} {L : Addr} {m : Str → Option Value} (F : Fr g L h m) : RelS fr g h := ⟨fun b o e _ => F.keep b o e, fun b o e => ⟨o.slots, F.keep b o e⟩⟩
theorem relS_call {g h h' : Heap} {L : Addr} {m : Str → Option Value} {env : Env} {outer : List Env} (F : Fr g L h m) (hf : env.frame = some L) (r : RelS (FrOf (env :: outer)) h h') : RelS (FrOf outer) g h' := by
  have hL := kts_self F
  refine ⟨fun b o e nm => r.keep b o (F.keep b o e) fun hm => ?_, fun b o e => r.slot b o (F.keep b o e)⟩
  have hLo : FrOf (env :: outer) = L :: FrOf outer := by unfold FrOf; rw [List.filterMap_cons, hf]
  rw [hLo] at hm
  rcases List.mem_cons.mp hm with z | z
  · rw [z, hL] at e; cases e
  · exact nm z
theorem relS_ns {h h' : Heap} {L : Addr} {m : Str → Option Value} {fr : List Addr} (n : h.Ns L m) (r : RelS fr h h') : h'.Ns L m := by
  obtain ⟨o, es, ep, e1, e2⟩ := n
  obtain ⟨sl, e3⟩ := r.slot _ _ e1
  exact ⟨_, es, ep, e3, e2⟩

theorem RaiseS.use {w : World} {n : Nat} {f : Addr} {vs : List Value} {okV : Value → Prop} {flt : Int → Prop} (S : RaiseS w n f vs okV flt)
    {A A₀ : Around} {env : Env} {outer : List Env} {base g : Heap} {s : Shared} {Q E : Value → Shared → Prop} {L : Addr} {m : Str → Option Value} {news : List (Addr × Obj)} {vs' : List Value}
    (hvs : vs' = vs) (hA : A.handled = none) (hfr : A.frames = some (env :: outer)) (hd : A.depth ≤ 900 - 6 * n) (hu : A.units ≤ 9000 - 99 * n)
    (W : Wd w base) (B : Below A₀ base outer g) (F : Fr g L s.heap m) (N : News g L s.heap news) (hf : env.frame = some L) (hk : env.scope.kind = .function)
    (h : ∀ v h' tk, okV v → Fr g L h' m → News g L h' news → Q v { s with heap := h', toks := tk })
    (hx : ∀ e dd sp h' tk, flt sp → RelS (FrOf outer) g h' → h'.Ns L m → h'.FunFrames base (env :: outer) → FlT g h' e dd sp → E (.ref e) { s with heap := h', toks := tk }) :
    wpAny (model PySem.Challenge.rw_nz0031_02.row.prog w) A (call (.ref f) vs') Q E s := by
  subst hvs
  refine wpAny_ak hA hfr hd hu (S _ base Q E s W (below_at B F hf hk) (fun v h' tk o k => h v h' tk o (fr_keep F k fun _ h => nomatch h) (fun p hp => ⟨k _ _ (N p hp).1 (fun h => nomatch h), (N p hp).2⟩))
    fun e dd sp h' tk o r ff fl => hx e dd sp h' tk o (relS_call F hf r) (relS_ns F.ns r) ff (fl.lower F.keep))

theorem exc_use {w : World} {A A₀ : Around} {env : Env} {outer : List Env} {base g : Heap} {s : Shared} {Q E : Value → Shared → Prop} {L : Addr} {m : Str → Option Value} {what : Str} {sp : Int} {t1 t2 : Tok}
    (hA : A.handled = none) (hfr : A.frames = some (env :: outer)) (hd : A.depth ≤ 900 - 6 * 8) (hu : A.units ≤ 9000 - 99 * 8)
    (W : Wd w base) (B : Below A₀ base outer g) (F : Fr g L s.heap m) (hf : env.frame = some L) (hk : env.scope.kind = .function)
    (h : ∀ e dd h' tk, Fr g L h' m → FlN g h' e dd sp → Q (.ref e) { s with heap := h', toks := tk }) :
    wpAny (model PySem.Challenge.rw_nz0031_02.row.prog w) A (call (.ref 116) [.str what t1, .int sp t2]) Q E s := by
  refine wpAny_ak hA hfr hd hu (exc_ok w _ base s Q E what sp t1 t2 W (below_at B F hf hk) fun e h' tk dd k he hdd sd => h e dd h' tk (fr_keep F k fun _ h => nomatch h) ?_)
  obtain ⟨hw, tw, vw, hs, ts, t, n, hdo, vs, h1, h2, h3⟩ := sd
  exact ⟨kts_none F.keep he, kts_none F.keep hdd, ⟨hw, tw, vw, hs, ts, t, n, _, hdo⟩, vs, h1, h2, h3⟩

theorem raise_own {w : World} {A : Around} {env : Env} {s : Shared} {Q : Flow → Shared → Prop} {E : Value → Shared → Prop} {fn : Expr} {args : List Expr} {cpos pos : Pos} (hh : A.handled = none)
    (h : wpAny (model PySem.Challenge.rw_nz0031_02.row.prog w) A (eval (.Call fn args [] cpos) env) (fun v s₁ => ∃ g e dd sp, v = .ref e ∧ (Kt w.params).In s₁.heap ∧ FlN g s₁.heap e dd sp ∧ E (.ref e) s₁) E s) :
    wpAny (model PySem.Challenge.rw_nz0031_02.row.prog w) A (exec (.Raise (some (.Call fn args [] cpos)) none pos) env) Q E s := by
  have hcB : (Value.ref 116 :: bmE).contains (.type "BaseException") = true := by decide
  rw [arm_exec_Raise]
  simp only [evalOpt, Option.map]
  refine wpAny_bind (wpAny_standAt ?_)
  unfold raiseStmt
  refine wpAny_bind (wpAny_bind (wpAny_mono h (fun v s₁ h₁ => wpAny_bind (wpAny_standAt (wpAny_pure ?_))) fun _ _ x => x))
  obtain ⟨g, e, dd, sp, rfl, X, fl, hE⟩ := h₁
  obtain ⟨_, _, _, vs, he, _, h1⟩ := fl
  obtain ⟨nm, q, bs, hdct, sn, sub, ab, col, k0, k1, k2, k3, k5, hC⟩ := cls_E X
  obtain ⟨hp, g, d, tk, os⟩ := s₁
  repeat (first | with_reducible refine wpAny_loadPart_at he ?_ | with_reducible refine wpAny_loadPart_at hC ?_ | (with_reducible refine wpAny_isSubtype_exc hC ?_; rw [hcB]) | wp_step)
  rw [h1]
  refine wpAny_pure ?_
  rw [if_neg (by decide)]
  refine wpAny_pure ?_
  exact wpAny_raiseNew_none hh hE

theorem leave_own {w : World} {A : Around} {env : Env} {outer : List Env} {base g : Heap} {s : Shared} {Q : Unit → Shared → Prop} {E : Value → Shared → Prop} {L e dd : Addr} {sp : Int}
    (hfr : A.frames = some (env :: outer)) (hf : env.frame = some L) (hff : s.heap.FunFrames base (env :: outer)) (hr : RelS (FrOf outer) g s.heap) (hL : g.get? L = none) (fl : FlN g s.heap e dd sp ∨ FlT g s.heap e dd sp)
    (hQ : ∀ h' tk, RelS (FrOf outer) g h' → h'.FunFrames base outer → FlT g h' e dd sp → Q () { s with heap := h', toks := tk }) :
    wpAny (model PySem.Challenge.rw_nz0031_02.row.prog w) A (leaving env (.ref e)) Q E s :=
  leaving_ok hfr hf hff hr hL fl fun h' r _ ff fl => hQ h' s.toks r ff fl
theorem words_Raise_12 : True := by
  k_with_none
  k_with "m fill" => ((w_on; (have hfill : ∀ w : World, (Kt w.params).length = (Kt w.params).length ∧ PySem.Challenge.rw_nz0031_02.foot = PySem.Challenge.rw_nz0031_02.foot := by (k_fill; exact fun _ => ⟨rfl, rfl⟩)); clear hfill))
  k_with "m enter" => ((
    (refine wpAny_call ?_);
    k_dflt (refine' enter ?kW ?kB [] ?k0 ?ho ?hcd ?hroom ?hbind ?hloc ?_ ?c1 ?c2 ?c3 ?c4);
    (case kW => assumption);
    (case kB => assumption);
    (case k0 => exact fun _ h => nomatch h);
    (case ho => k_is);
    (case hcd => k_is);
    (case hroom => exact Nat.le_of_ble_eq_true rfl);
    (case hbind => exact BindsTo.of_eq rfl);
    (case hloc => exact locs rfl);
    (case c1 => decide);
    (case c2 => exact rfl);
    (case c3 => exact rfl);
    (case c4 => exact rfl);
    intro L h₁ p loose mean mg mb F N Bl X T lt eL tk;
    (dsimp only [List.map, hideAll] at F N Bl X T);
    (try k_fold)))
  k_with "w exec Raise some none" => ((k_here; k_dflt (refine' raise_own rfl ?_)))
  k_with "w call ref" => ((k_here; k_dflt (refine' exc_use rfl rfl ?hd ?hu ?W ?B ?F rfl rfl ?_; (case hd => exact Nat.le_of_ble_eq_true rfl); (case hu => exact Nat.le_of_ble_eq_true rfl); (case W => k_asm); (case B => k_asm); (case F => k_asm); k_whole; intro e' dd' h' tk' F' fl')))
  trivial
theorem small_log {b : Int} (h : b.natAbs < 10 ^ 60) : (if b < 0 then -b else b).natAbs.log2 < 9000 := by
  have e : (if b < 0 then -b else b).natAbs = b.natAbs := by split <;> omega
  rw [e]
  by_cases z : b.natAbs = 0
  · rw [z]; decide
  · refine (Nat.log2_lt z).mpr (Nat.lt_trans h ?_)
    exact Nat.lt_of_lt_of_le (by decide +kernel : 10 ^ 60 < 2 ^ 200) (Nat.pow_le_pow_right (by decide) (by decide))
theorem abs_ne {b : Int} (h : b ≠ 0) : (if b < 0 then -b else b) ≠ 0 := by split <;> omega
theorem words_Raise_13 : True := by
  k_with "w binaryOp FloorDiv int int" => ((k_here; (with_reducible refine floordiv_int (abs_ne (by assumption)) ?_ (Or.inl (PyProof.noPylong_of_log2 (small_log (by assumption)))))))
  trivial
theorem raise_end {w : World} {s : Shared} {g : Heap} {E : Value → Shared → Prop} {L e dd : Addr} {sp : Int} {m : Str → Option Value} (X : (Kt w.params).In g) (F : Fr g L s.heap m) (fl : FlN g s.heap e dd sp) (hE : E (.ref e) s) :
    ∃ g e' dd sp, Value.ref e = .ref e' ∧ (Kt w.params).In s.heap ∧ FlN g s.heap e' dd sp ∧ E (.ref e') s := ⟨g, e, dd, sp, rfl, X.keeps F.keep, fl, hE⟩
theorem words_Raise_14 : True := by
  k_with "w Exists" => ((k_dflt (refine' raise_end ?X ?F ?fl ?_; (case X => k_asm); (case F => k_asm); (case fl => k_asm))))
  trivial
theorem leave_new {w : World} {A A₀ : Around} {env : Env} {outer : List Env} {base g : Heap} {s : Shared} {Q : Unit → Shared → Prop} {E : Value → Shared → Prop} {L e dd : Addr} {sp : Int} {m : Str → Option Value}
    (B : Below A₀ base outer g) (F : Fr g L s.heap m) (hfr : A.frames = some (env :: outer)) (hf : env.frame = some L) (hk : env.scope.kind = .function) (fl : FlN g s.heap e dd sp)
    (hQ : ∀ h' tk, RelS (FrOf outer) g h' → h'.FunFrames base outer → FlT g h' e dd sp → Q () { s with heap := h', toks := tk }) :
    wpAny (model PySem.Challenge.rw_nz0031_02.row.prog w) A (leaving env (.ref e)) Q E s :=
  leave_own hfr hf (below_at (n := 0) B F hf hk).frames (relS_fr F) (kts_self F) (.inl fl) hQ
theorem words_Raise_15 : True := by
  k_with "w leaving ref" => ((k_here; k_dflt (first
  | (refine' leave_new ?B ?F rfl rfl rfl ?fl ?_; (case fl => k_asm); (case F => k_asm); (case B => k_asm); intro h9 tk9 r9 ff9 fl9)
  | (refine' leave_own rfl rfl ?ff ?rel ?hL (.inr ?fl) ?_; (case fl => k_asm); (case ff => k_asm); (case rel => k_asm); (case hL => k_asm); intro h9 tk9 r9 ff9 fl9))))
  trivial
set_option maxHeartbeats 8000000 in
theorem quotient_ok (w : World) (x y spot : Int) (ta tb ts : Tok) (hy : y.natAbs < 10 ^ 60) : RaiseS w 20 207 [.int x ta, .int y tb, .int spot ts] (fun v => y ≠ 0 ∧ ∃ t, v = .int (Int.tdiv x y) t) (fun sp => y = 0 ∧ sp = spot) := by
  intro outer base Q E s W B hret hflt
  k_extra "m fill"
  w_strict (
    k_extra "m enter"
    k_steps
    all_goals (repeat (first | k_unfold | dsimp only))
    · exact hflt _ _ _ _ _ ⟨by assumption, rfl⟩ (by assumption) (by assumption) (by assumption)
    · exact hret _ _ _ ⟨by assumption, _, by rw [tdiv_same (by assumption)]⟩ (Keep.of_fr (by assumption))
    · exact hret _ _ _ ⟨by assumption, _, by rw [tdiv_other (by assumption)]⟩ (Keep.of_fr (by assumption)))

-- part Ari2
theorem words_Ari2_16 : True := by
  k_with_none
  trivial
def powV (x y : Int) : Int := if 0 ≤ y then x ^ y.toNat else if y.fmod 2 = 1 then Int.tdiv 1 x else Int.tdiv 1 (x * x)
theorem pw_le {x : Int} {n b : Nat} (h : x.natAbs ≤ b) : (x ^ n * x).natAbs ≤ b ^ (n + 1) := by
  rw [← Int.pow_succ, Int.natAbs_pow]
  exact Nat.pow_le_pow_left h _
theorem pwb1 {x y f : Int} {n : Nat} (h : (x.natAbs ≤ 11 ∧ y.natAbs ≤ 11) ∨ (x.natAbs ≤ 1 ∧ y.natAbs < 10 ^ 30)) (hx : 1 < if x < 0 then -x else x) (kLt : n < (y - 0).toNat) (kInv : f = x ^ n) : (f * x).natAbs < 10 ^ 900 := by
  subst kInv
  have h1 : x.natAbs ≤ 11 := by omega
  have h2 : n + 1 ≤ 11 := by
    have : 1 < x.natAbs := by split at hx <;> omega
    omega
  exact Nat.lt_of_le_of_lt (Nat.le_trans (pw_le h1) (Nat.pow_le_pow_right (by decide) h2)) (Nat.lt_of_lt_of_le (by decide +kernel : 11 ^ 11 < 10 ^ 20) (Nat.pow_le_pow_right (by decide) (by decide)))
theorem pwb2 {x f : Int} {n : Nat} (hx : ¬ 1 < if x < 0 then -x else x) (kInv : f = x ^ n) : (f * x).natAbs < 10 ^ 900 := by
  subst kInv
  have h1 : x.natAbs ≤ 1 := by split at hx <;> omega
  refine Nat.lt_of_le_of_lt (pw_le h1) ?_
  rw [Nat.one_pow]
  exact Nat.lt_of_lt_of_le (by decide +kernel : 1 < 10 ^ 1) (Nat.pow_le_pow_right (by decide) (by decide))
theorem m1_even (k : Nat) : (-1 : Int) ^ (2 * k) = 1 := by
  rw [Int.pow_mul]; exact Int.one_pow
theorem m1_odd (k : Nat) : (-1 : Int) ^ (2 * k + 1) = -1 := by
  rw [Int.pow_succ, m1_even]; rfl
theorem unit_pow {x : Int} {n : Nat} (hx : ¬ 1 < if x < 0 then -x else x) (hn : 0 < n) : x ^ n = if n % 2 = 1 then x else x * x := by
  have h3 : x = 0 ∨ x = 1 ∨ x = -1 := by split at hx <;> omega
  rcases h3 with rfl | rfl | rfl
  · rw [Int.zero_pow (by omega)]; split <;> rfl
  · rw [Int.one_pow]; split <;> rfl
  · rcases Nat.mod_two_eq_zero_or_one n with h | h
    · rw [if_neg (by omega), show n = 2 * (n / 2) by omega, m1_even]; rfl
    · rw [if_pos h, show n = 2 * (n / 2) + 1 by omega, m1_odd]
theorem powV_nn {x y : Int} (h : 0 ≤ y) : powV x y = x ^ y.toNat := if_pos h
theorem pwe1 {x y f : Int} (hy : ¬ y < 0) (kInv : f = x ^ (rangeKs 0 (y - 0).toNat).length) : f = powV x y := by
  rw [kInv, rangeKs_length, powV_nn (by omega), Int.sub_zero]
theorem pwe2 {x y f : Int} (hy : ¬ y < 0) (hx : ¬ 1 < if x < 0 then -x else x) (kInv : f = x ^ (rangeKs 0 ((if 2 - y.fmod 2 < y then 2 - y.fmod 2 else y) - 0).toNat).length) : f = powV x y := by
  rw [kInv, rangeKs_length, powV_nn (by omega), Int.sub_zero]
  have h2 : y.fmod 2 = y % 2 := Int.fmod_eq_emod_of_nonneg _ (by decide)
  rw [h2]
  by_cases h0 : y = 0
  · subst h0; rfl
  · rw [unit_pow hx (by split <;> omega), unit_pow hx (by omega)]
    have : (if 2 - y % 2 < y then 2 - y % 2 else y).toNat % 2 = y.toNat % 2 := by split <;> omega
    rw [this]
theorem pv_odd {x y : Int} (h : y < 0) (h2 : y.fmod 2 = 1) : Int.tdiv 1 x = powV x y := by unfold powV; rw [if_neg (by omega), if_pos h2]
theorem pv_even {x y : Int} (h : y < 0) (h2 : y.fmod 2 ≠ 1) : Int.tdiv 1 (x * x) = powV x y := by unfold powV; rw [if_neg (by omega), if_neg h2]
theorem sq0 {x : Int} (h : x * x = 0) : x = 0 := by rcases Int.mul_eq_zero.mp h with h | h <;> exact h
theorem sq1 {x : Int} (h : x * x ≠ 0) : x ≠ 0 := fun z => h (by rw [z]; rfl)
theorem pw_small1 {x y : Int} (h : (x.natAbs ≤ 11 ∧ y.natAbs ≤ 11) ∨ (x.natAbs ≤ 1 ∧ y.natAbs < 10 ^ 30)) : x.natAbs < 10 ^ 60 := by omega
theorem pw_small2 {x y : Int} (h : (x.natAbs ≤ 11 ∧ y.natAbs ≤ 11) ∨ (x.natAbs ≤ 1 ∧ y.natAbs < 10 ^ 30)) : (x * x).natAbs < 10 ^ 60 := by
  rw [Int.natAbs_mul]
  have : x.natAbs ≤ 11 := by omega
  have := Nat.mul_le_mul this this
  omega
theorem pw_unit {x y : Int} (h : (x.natAbs ≤ 11 ∧ y.natAbs ≤ 11) ∨ (x.natAbs ≤ 1 ∧ y.natAbs < 10 ^ 30)) (hy : 1000 < if y < 0 then -y else y) : ¬ 1 < if x < 0 then -x else x := by
  have : 1000 < y.natAbs := by split at hy <;> omega
  split <;> omega
theorem pw_start {x : Int} : (1 : Int) = x ^ ([] : List Int).length := (Int.pow_zero x).symm
theorem pow_turn {x f k : Int} {l : List Int} (h : f = x ^ l.length) : f * x = x ^ (l ++ [k]).length := by rw [h, List.length_append, ← Int.pow_succ]; rfl

-- part Wf
theorem words_Wf_17 : True := by
  k_with_none
  k_with "m fill" => ((w_on; (have hfill : ∀ w : World, (Kt w.params).length = (Kt w.params).length ∧ PySem.Challenge.rw_nz0031_02.foot = PySem.Challenge.rw_nz0031_02.foot := by (k_fill; exact fun _ => ⟨rfl, rfl⟩)); clear hfill))
  k_with "m enter" => ((
    (refine wpAny_call ?_);
    k_dflt (refine' enter ?kW ?kB [] ?k0 ?ho ?hcd ?hroom ?hbind ?hloc ?_ ?c1 ?c2 ?c3 ?c4);
    (case kW => assumption);
    (case kB => assumption);
    (case k0 => exact fun _ h => nomatch h);
    (case ho => k_is);
    (case hcd => k_is);
    (case hroom => exact Nat.le_of_ble_eq_true rfl);
    (case hbind => exact BindsTo.of_eq rfl);
    (case hloc => exact locs rfl);
    (case c1 => decide);
    (case c2 => exact rfl);
    (case c3 => exact rfl);
    (case c4 => exact rfl);
    intro L h₁ p loose mean mg mb F N Bl X T lt eL tk;
    (dsimp only [List.map, hideAll] at F N Bl X T);
    (try k_fold)))
  trivial
theorem val_eq {a b : Int} {t : Tok} (h : a = b) : Value.int a t = Value.int b t := by rw [h]
theorem RaiseS.useI {w : World} {n : Nat} {f : Addr} {vs : List Value} {c d : Prop} {r spot : Int} (S : RaiseS w n f vs (fun v => c ∧ ∃ t, v = .int r t) (fun sp => d ∧ sp = spot))
    {A A₀ : Around} {env : Env} {outer : List Env} {base g : Heap} {s : Shared} {Q E : Value → Shared → Prop} {L : Addr} {m : Str → Option Value} {news : List (Addr × Obj)} {vs' : List Value}
    (hvs : vs' = vs) (hA : A.handled = none) (hfr : A.frames = some (env :: outer)) (hd : A.depth ≤ 900 - 6 * n) (hu : A.units ≤ 9000 - 99 * n)
    (W : Wd w base) (B : Below A₀ base outer g) (F : Fr g L s.heap m) (N : News g L s.heap news) (hf : env.frame = some L) (hk : env.scope.kind = .function)
    (h : ∀ t h' tk, c → Fr g L h' m → News g L h' news → Q (.int r t) { s with heap := h', toks := tk })
    (hx : ∀ e dd h' tk, d → RelS (FrOf outer) g h' → h'.Ns L m → h'.FunFrames base (env :: outer) → FlT g h' e dd spot → g.get? L = none → E (.ref e) { s with heap := h', toks := tk }) :
    wpAny (model PySem.Challenge.rw_nz0031_02.row.prog w) A (call (.ref f) vs') Q E s :=
  S.use hvs hA hfr hd hu W B F N hf hk (fun v h' tk o F' N' => by obtain ⟨hc, t, e⟩ := o; subst e; exact h t h' tk hc F' N')
    fun e dd sp h' tk o r n ff fl => by obtain ⟨hd, e2⟩ := o; subst e2; exact hx e dd h' tk hd r n ff fl (kts_self F)
theorem wf_no {x : Int} (h : x.natAbs < 10 ^ 900) (h2 : (10 : Int) ^ (1000 : Int).toNat ≤ (if x < 0 then -x else x)) : False := by
  have e : (if x < 0 then -x else x) = (x.natAbs : Int) := by split <;> omega
  rw [e] at h2
  have h3 : (10 : Int) ^ (1000 : Int).toNat = ((10 ^ 1000 : Nat) : Int) := by simp
  rw [h3] at h2
  have h4 : 10 ^ 1000 ≤ x.natAbs := by exact_mod_cast h2
  exact absurd (Nat.lt_of_lt_of_le h (Nat.pow_le_pow_right (by decide) (by decide))) (Nat.not_lt.mpr h4)
theorem words_Wf_18 : True := by
  k_with "w exec Raise some none" => (exact (wf_no (by assumption) (by assumption)).elim)
  trivial
set_option maxHeartbeats 8000000 in
theorem within_ok (w : World) (x : Int) (tx : Tok) (hx : x.natAbs < 10 ^ 900) : RaiseS w 20 214 [.int x tx] (fun v => True ∧ ∃ t, v = .int x t) (fun sp => False ∧ sp = 0) := by
  intro outer base Q E s W B hret hflt
  k_extra "m fill"
  w_strict (
    k_extra "m enter"
    k_steps
    all_goals (repeat (first | k_unfold | dsimp only))
    exact hret _ _ _ ⟨trivial, _, rfl⟩ (Keep.of_fr (by assumption)))
theorem words_Wf_19 : True := by
  k_with "w eval Call" => ((k_here; k_dflt (refine Call_ ?_)))
  k_with "w leaving ref" => ((k_here; k_dflt (first
  | (refine' leave_new ?B ?F rfl rfl rfl ?fl ?_; (case fl => k_asm); (case F => k_asm); (case B => k_asm); intro h9 tk9 r9 ff9 fl9)
  | (refine' leave_own rfl rfl ?ff ?rel ?hL (.inr ?fl) ?_; (case fl => assumption); (case ff => assumption); (case rel => assumption); (case hL => assumption); intro h9 tk9 r9 ff9 fl9))))
  k_with "m use" => (((case hd => exact Nat.le_of_ble_eq_true rfl); (case hu => exact Nat.le_of_ble_eq_true rfl); (case W => k_asm); (case B => k_asm); (case F => k_asm); (case N => k_asm); k_whole))
  k_with "w call ref" => ((k_here; k_dflt (first
  | (refine' RaiseS.useI (quotient_ok _ _ _ _ _ _ _ ?hx) rfl rfl rfl ?hd ?hu ?W ?B ?F ?N rfl rfl (fun t' h' tk' c' F' N' => ?_) (fun e' dd' h' tk' c' r' n' ff' fl' z' => ?_); (case hx => first | exact pw_small1 (by assumption) | exact pw_small2 (by assumption)); k_extra "m use")
  | (refine' RaiseS.useI (within_ok _ _ _ ?hx) rfl rfl rfl ?hd ?hu ?W ?B ?F ?N rfl rfl (fun t' h' tk' c' F' N' => ?_) (fun e' dd' h' tk' c' r' n' ff' fl' z' => c'.elim); (case hx => first | exact pwb1 (by assumption) (by assumption) (by assumption) (by assumption) | exact pwb2 (by assumption) (by assumption) | exact pwb2 (pw_unit (by assumption) (by assumption)) (by assumption)); k_extra "m use")
  )))
  trivial
set_option maxHeartbeats 8000000 in
theorem power_ok (w : World) (x y spot : Int) (tx ty ts : Tok) (h : (x.natAbs ≤ 11 ∧ y.natAbs ≤ 11) ∨ (x.natAbs ≤ 1 ∧ y.natAbs < 10 ^ 30)) :
    RaiseS w 22 221 [.int x tx, .int y ty, .int spot ts] (fun v => ¬ (y < 0 ∧ x = 0) ∧ ∃ t, v = .int (powV x y) t) (fun sp => (y < 0 ∧ x = 0) ∧ sp = spot) := by
  intro outer base Q E s W B hret hflt
  k_extra "m fill"
  w_strict (
    k_extra "m enter"
    k_with "state" => first | exact pw_start | exact pow_turn (by assumption)
    k_with "pyIter ref" => k_state (fun pre found => found = x ^ pre.length) "found"
    k_steps
    all_goals (repeat (first | k_unfold | dsimp only))
    all_goals first
      | exact hflt _ _ _ _ _ ⟨⟨by assumption, by assumption⟩, rfl⟩ (by assumption) (by assumption) (by assumption)
      | exact hflt _ _ _ _ _ ⟨⟨by assumption, sq0 (by assumption)⟩, rfl⟩ (by assumption) (by assumption) (by assumption)
      | exact hret _ _ _ ⟨fun z => absurd z.2 (by assumption), _, val_eq (pv_odd (by assumption) (by assumption))⟩ (Keep.of_fr (by assumption))
      | exact hret _ _ _ ⟨fun z => absurd z.2 (sq1 (by assumption)), _, val_eq (pv_even (by assumption) (by assumption))⟩ (Keep.of_fr (by assumption))
      | exact hret _ _ _ ⟨fun z => absurd z.1 (by assumption), _, val_eq (pwe1 (by assumption) (by assumption))⟩ (Keep.of_fr (by assumption))
      | exact hret _ _ _ ⟨fun z => absurd z.1 (by assumption), _, val_eq (pwe2 (by assumption) (by assumption) (by assumption))⟩ (Keep.of_fr (by assumption))
      | exact hret _ _ _ ⟨fun z => absurd z.1 (by assumption), _, val_eq (pwe2 (by assumption) (pw_unit (by assumption) (by assumption)) (by assumption))⟩ (Keep.of_fr (by assumption)))

-- part Tm
theorem words_Tm_20 : True := by
  k_with_none
  k_with "m fill" => ((w_on; (have hfill : ∀ w : World, (Kt w.params).length = (Kt w.params).length ∧ PySem.Challenge.rw_nz0031_02.foot = PySem.Challenge.rw_nz0031_02.foot := by (k_fill; exact fun _ => ⟨rfl, rfl⟩)); clear hfill))
  k_with "m enter" => ((
    (refine wpAny_call ?_);
    k_dflt (refine' enter ?kW ?kB [] ?k0 ?ho ?hcd ?hroom ?hbind ?hloc ?_ ?c1 ?c2 ?c3 ?c4);
    (case kW => assumption);
    (case kB => assumption);
    (case k0 => exact fun _ h => nomatch h);
    (case ho => k_is);
    (case hcd => k_is);
    (case hroom => exact Nat.le_of_ble_eq_true rfl);
    (case hbind => exact BindsTo.of_eq rfl);
    (case hloc => exact locs rfl);
    (case c1 => decide);
    (case c2 => exact rfl);
    (case c3 => exact rfl);
    (case c4 => exact rfl);
    intro L h₁ p loose mean mg mb F N Bl X T lt eL tk;
    (dsimp only [List.map, hideAll] at F N Bl X T);
    (try k_fold)))
  k_with "m use" => (((case hd => exact Nat.le_of_ble_eq_true rfl); (case hu => exact Nat.le_of_ble_eq_true rfl); (case W => k_asm); (case B => k_asm); (case F => k_asm); (case N => k_asm); k_whole))
  k_with "w leaving ref" => ((k_here; k_dflt (first
  | (refine' leave_new ?B ?F rfl rfl rfl ?fl ?_; (case fl => k_asm); (case F => k_asm); (case B => k_asm); intro h9 tk9 r9 ff9 fl9)
  | (refine' leave_own rfl rfl ?ff ?rel ?hL (.inr ?fl) ?_; (case fl => assumption); (case ff => assumption); (case rel => assumption); (case hL => assumption); intro h9 tk9 r9 ff9 fl9))))
  k_with "w exec Raise some none" => ((k_here; k_dflt (refine' raise_own rfl ?_)))
  k_with "w Exists" => ((k_dflt (refine' raise_end ?X ?F ?fl ?_; (case X => k_asm); (case F => k_asm); (case fl => k_asm))))
  trivial
theorem times_start (a b : Int) : 0 ≤ (if b < 0 then -b else b) ∧ 0 + (if a < 0 then -a else a) * (if b < 0 then -b else b) = (a.natAbs : Int) * b.natAbs := by
  have ha : (if a < 0 then -a else a) = (a.natAbs : Int) := by split <;> omega
  have hb : (if b < 0 then -b else b) = (b.natAbs : Int) := by split <;> omega
  rw [ha, hb]; constructor
  · omega
  · rw [Int.zero_add]
theorem half_odd {l : Int} (h2 : l.fmod 2 = 1) : l = 2 * (l.fdiv 2) + 1 := by
  have := Int.mul_fdiv_add_fmod l 2; omega
theorem half_even {l : Int} (h2 : ¬ l.fmod 2 = 1) : l = 2 * (l.fdiv 2) := by
  have := Int.mul_fdiv_add_fmod l 2
  have h3 : l.fmod 2 = l % 2 := Int.fmod_eq_emod_of_nonneg _ (by decide)
  omega
theorem half_lt {l : Int} (h : 0 < l) : (l.fdiv 2).toNat < l.toNat := by
  have := Int.mul_fdiv_add_fmod l 2
  have h3 : l.fmod 2 = l % 2 := Int.fmod_eq_emod_of_nonneg _ (by decide)
  omega
theorem times_odd {c f p l : Int} (h0 : 0 ≤ l) (h : f + p * l = c) (h2 : l.fmod 2 = 1) : 0 ≤ l.fdiv 2 ∧ (f + p) + (p + p) * (l.fdiv 2) = c := by
  have e := half_odd h2
  refine ⟨by omega, ?_⟩
  rw [← h]
  generalize l.fdiv 2 = k at e
  subst e
  rw [Int.add_mul, Int.mul_add, Int.mul_one, ← Int.mul_assoc, Int.mul_comm p 2, Int.two_mul, Int.add_mul]; omega
theorem times_even {c f p l : Int} (h0 : 0 ≤ l) (h : f + p * l = c) (h2 : ¬ l.fmod 2 = 1) : 0 ≤ l.fdiv 2 ∧ f + (p + p) * (l.fdiv 2) = c := by
  have e := half_even h2
  refine ⟨by omega, ?_⟩
  rw [← h]
  generalize l.fdiv 2 = k at e
  subst e
  rw [← Int.mul_assoc, Int.mul_comm p 2, Int.two_mul]

theorem times_end {f p l c : Int} (h : ¬ 0 < l) (h0 : 0 ≤ l) (e : f + p * l = c) : f = c := by
  have : l = 0 := by omega
  subst this; rw [Int.mul_zero, Int.add_zero] at e; exact e
theorem iret {w : World} {n : Nat} {outer : List Env} {s : Shared} {c : Prop} {r x : Int} {t : Tok} {Q : Value → Shared → Prop} {h' : Heap} {tk : Nat} (hret : ∀ v h' tk, (c ∧ ∃ t, v = .int r t) → Keep [] s.heap h' → Q v { s with heap := h', toks := tk })
    (e : x = r) (hc : c) (k : Keep [] s.heap h') : Q (.int x t) { s with heap := h', toks := tk } := hret _ _ _ ⟨hc, t, by rw [e]⟩ k
set_option maxHeartbeats 8000000 in
theorem times_ok (w : World) (a b : Int) (ta tb : Tok) : RaiseS w 20 436 [.int a ta, .int b tb] (fun v => True ∧ ∃ t, v = .int (a * b) t) (fun sp => False ∧ sp = 0) := by
  intro outer base Q E s W B hret hflt
  k_extra "m fill"
  w_strict (
    k_extra "m enter"
    (k_with "state" => first | exact times_start _ _ | exact times_odd (by assumption) (by assumption) (by assumption) | exact times_even (by assumption) (by assumption) (by assumption))
    (k_with "measure" => exact half_lt (by assumption))
    (k_with "exec While Compare cons nil" => k_while (fun _ found part left => 0 ≤ left ∧ found + part * left = (a.natAbs : Int) * b.natAbs) (fun _ _ _ left => left.toNat) "found" "part" "left")
    k_steps
    all_goals (repeat (first | k_unfold | dsimp only))
    all_goals first
      | exact hret _ _ _ ⟨trivial, _, val_eq (mul_same (by assumption) (times_end (by assumption) (by assumption) (by assumption)))⟩ (Keep.of_fr (by assumption))
      | exact hret _ _ _ ⟨trivial, _, val_eq (mul_other (by assumption) (times_end (by assumption) (by assumption) (by assumption)))⟩ (Keep.of_fr (by assumption)))

-- part AriP
theorem words_AriP_21 : True := by
  k_with_none
  trivial
def dbl (B : Int) (n : Nat) : List Int := (List.range n).map fun i => B * 2 ^ i
def Dbl (B : Int) (row : List Int) : Prop := row = dbl B row.length
def Par (B A found left : Int) (row : List Int) : Prop := Dbl B row ∧ 0 ≤ left ∧ left < B * 2 ^ row.length ∧ found * (B * 2 ^ row.length) + left = A
theorem dbl_len (B : Int) (n : Nat) : (dbl B n).length = n := by simp [dbl]
theorem dbl_succ (B : Int) (n : Nat) : dbl B (n + 1) = dbl B n ++ [B * 2 ^ n] := by simp [dbl, List.range_succ]
theorem dbl_start (B : Int) : Dbl B [B] := by
  show [B] = [B * 2 ^ 0]
  rw [Int.pow_zero, Int.mul_one]
theorem dbl_split {B : Int} {row : List Int} (h : Dbl B row) (h1 : 1 ≤ (row.length : Int)) : ∃ n, row.length = n + 1 ∧ row = dbl B n ++ [B * 2 ^ n] := by
  obtain ⟨n, hn⟩ : ∃ n, row.length = n + 1 := ⟨row.length - 1, by omega⟩
  refine ⟨n, hn, ?_⟩
  have := h
  unfold Dbl at this
  rw [hn, dbl_succ] at this
  exact this
theorem dbl_last {B : Int} {row : List Int} (h : Dbl B row) (h1 : 1 ≤ (row.length : Int)) : row.getD (-1 + (row.length : Int)).toNat 0 = B * 2 ^ (row.length - 1) := by
  obtain ⟨n, hn, hr⟩ := dbl_split h h1
  have e : (-1 + (row.length : Int)).toNat = n := by omega
  rw [e, hn, Nat.add_sub_cancel, hr, List.getD_eq_getElem?_getD, List.getElem?_append_right (by rw [dbl_len]; exact Nat.le_refl _), dbl_len, Nat.sub_self]
  rfl
theorem start1 (B : Int) : 1 ≤ (([B] : List Int).length : Int) ∧ ([B] : List Int).length ≤ 300 ∧ Dbl B [B] := ⟨by simp, by simp, dbl_start B⟩
theorem two_pow {n : Nat} : (2 : Int) ^ (n + 1) = 2 ^ n + 2 ^ n := by rw [Int.pow_succ]; omega
theorem pow_pos' (n : Nat) : (0 : Int) < 2 ^ n := by
  induction n with
  | zero => decide
  | succ n ih => rw [two_pow]; omega
theorem dbl_turn {B : Int} {row : List Int} (h : Dbl B row) (h1 : 1 ≤ (row.length : Int)) :
    Dbl B (row ++ [row.getD (-1 + (row.length : Int)).toNat 0 + row.getD (-1 + (row.length : Int)).toNat 0]) := by
  rw [dbl_last h h1]
  unfold Dbl at h ⊢
  rw [List.length_append, List.length_singleton, dbl_succ]
  obtain ⟨n, hn⟩ : ∃ n, row.length = n + 1 := ⟨row.length - 1, by omega⟩
  rw [← h, hn, Nat.add_sub_cancel, two_pow, Int.mul_add]
theorem lt_two_pow (n : Nat) : ((n + 1 : Nat) : Int) ≤ 2 ^ n := by
  induction n with
  | zero => decide
  | succ n ih => rw [two_pow]; have := pow_pos' n; omega
theorem last_le {B A : Int} {row : List Int} (hB : 0 < B) (h : Dbl B row) (h1 : 1 ≤ (row.length : Int)) (hl : row.getD (-1 + (row.length : Int)).toNat 0 ≤ A) : (2 : Int) ^ (row.length - 1) ≤ A := by
  rw [dbl_last h h1] at hl
  have := pow_pos' (row.length - 1)
  generalize (2 : Int) ^ (row.length - 1) = p at *
  have h2 : p * 1 ≤ p * B := Int.mul_le_mul_of_nonneg_left (by omega) (by omega)
  rw [Int.mul_comm p B] at h2
  omega
theorem abs_pos {b : Int} (hb : b ≠ 0) : 0 < (if b < 0 then -b else b) := by split <;> omega
theorem turn1 {a b : Int} {row : List Int} (hb : b ≠ 0) (ha : a.natAbs < 10 ^ 60) (h : Dbl (if b < 0 then -b else b) row) (h1 : 1 ≤ (row.length : Int)) (hl : row.getD (-1 + (row.length : Int)).toNat 0 ≤ (if a < 0 then -a else a)) :
    1 ≤ ((row ++ [row.getD (-1 + (row.length : Int)).toNat 0 + row.getD (-1 + (row.length : Int)).toNat 0]).length : Int) ∧
    (row ++ [row.getD (-1 + (row.length : Int)).toNat 0 + row.getD (-1 + (row.length : Int)).toNat 0]).length ≤ 300 ∧ Dbl (if b < 0 then -b else b) (row ++ [row.getD (-1 + (row.length : Int)).toNat 0 + row.getD (-1 + (row.length : Int)).toNat 0]) := by
  refine ⟨?_, ?_, dbl_turn h h1⟩
  · rw [List.length_append]; simp only [List.length_singleton]; omega
  · have h2 := last_le (abs_pos hb) h h1 hl
    rw [List.length_append, List.length_singleton]
    have h3 : (if a < 0 then -a else a) = (a.natAbs : Int) := abs_if a
    rw [h3] at h2
    by_cases hc : row.length ≤ 299
    · omega
    · exfalso
      have h4 : 2 ^ (row.length - 1) ≤ a.natAbs := by exact_mod_cast h2
      have h5 : 2 ^ 220 ≤ 2 ^ (row.length - 1) := Nat.pow_le_pow_right (by decide) (by omega)
      have h6 : 10 ^ 60 < 2 ^ 220 := by decide +kernel
      omega
theorem less1 {a b : Int} {row : List Int} {x : Int} (hb : b ≠ 0) (h : Dbl (if b < 0 then -b else b) row) (h1 : 1 ≤ (row.length : Int)) (hl : row.getD (-1 + (row.length : Int)).toNat 0 ≤ (if a < 0 then -a else a)) :
    (if a < 0 then -a else a).toNat + 1 - (row ++ [x]).length < (if a < 0 then -a else a).toNat + 1 - row.length := by
  have h2 := last_le (abs_pos hb) h h1 hl
  have h3 := lt_two_pow (row.length - 1)
  rw [List.length_append, List.length_singleton]
  generalize (if a < 0 then -a else a) = A at *
  omega
theorem start2 {a b : Int} {row : List Int} (hb : b ≠ 0) (hn : row.length ≤ 300) (h : Dbl (if b < 0 then -b else b) row) (h1 : 1 ≤ (row.length : Int)) (hl : ¬ row.getD (-1 + (row.length : Int)).toNat 0 ≤ (if a < 0 then -a else a)) :
    row.length ≤ 300 ∧ Par (if b < 0 then -b else b) (if a < 0 then -a else a) 0 (if a < 0 then -a else a) row := by
  refine ⟨hn, h, by split <;> omega, ?_, by rw [Int.zero_mul, Int.zero_add]⟩
  rw [dbl_last h h1] at hl
  have hB := abs_pos hb
  obtain ⟨n, hn⟩ : ∃ n, row.length = n + 1 := ⟨row.length - 1, by omega⟩
  rw [hn, Nat.add_sub_cancel] at hl
  rw [hn, two_pow, Int.mul_add]
  have := pow_pos' n
  have := Int.mul_pos hB this
  omega
theorem par_drop {B A f l : Int} {row : List Int} (h : Par B A f l row) (h1 : 1 ≤ (row.length : Int)) : ∃ n, row.length = n + 1 ∧ row.dropLast.length = n ∧ Dbl B row.dropLast ∧ row.getD (-1 + (row.length : Int)).toNat 0 = B * 2 ^ n ∧ B * 2 ^ row.length = B * 2 ^ n + B * 2 ^ n := by
  obtain ⟨n, hn, hr⟩ := dbl_split h.1 h1
  refine ⟨n, hn, by rw [List.length_dropLast, hn]; rfl, ?_, by rw [dbl_last h.1 h1, hn]; rfl, by rw [hn, two_pow, Int.mul_add]⟩
  rw [hr, List.dropLast_concat]
  unfold Dbl
  rw [dbl_len]
theorem turn2a {B A f l : Int} {row : List Int} (hn : row.length ≤ 300) (h : Par B A f l row) (h1 : 1 ≤ (row.length : Int)) (hl : row.getD (-1 + (row.length : Int)).toNat 0 ≤ l) :
    row.dropLast.length ≤ 300 ∧ Par B A (f + f + 1) (l - row.getD (-1 + (row.length : Int)).toNat 0) row.dropLast := by
  obtain ⟨n, e1, e2, e3, e4, e5⟩ := par_drop h h1
  obtain ⟨_, p1, p2, p3⟩ := h
  rw [e4] at hl ⊢
  rw [e5] at p2 p3
  refine ⟨by omega, e3, by omega, ?_, ?_⟩
  · rw [e2]; omega
  · rw [e2]
    generalize B * 2 ^ n = q at *
    rw [Int.mul_add] at p3
    rw [Int.add_mul, Int.add_mul, Int.one_mul]
    omega
theorem turn2b {B A f l : Int} {row : List Int} (hn : row.length ≤ 300) (h : Par B A f l row) (h1 : 1 ≤ (row.length : Int)) (hl : ¬ row.getD (-1 + (row.length : Int)).toNat 0 ≤ l) :
    row.dropLast.length ≤ 300 ∧ Par B A (f + f) l row.dropLast := by
  obtain ⟨n, e1, e2, e3, e4, e5⟩ := par_drop h h1
  obtain ⟨_, p1, p2, p3⟩ := h
  rw [e4] at hl
  rw [e5] at p2 p3
  refine ⟨by omega, e3, p1, ?_, ?_⟩
  · rw [e2]; omega
  · rw [e2]
    generalize B * 2 ^ n = q at *
    rw [Int.mul_add] at p3
    rw [Int.add_mul]
    omega
theorem less2 {row : List Int} (h1 : 1 ≤ (row.length : Int)) : row.dropLast.length < row.length := by rw [List.length_dropLast]; omega
theorem par_end {B A f l : Int} {row : List Int} (h : Par B A f l row) (hr : decide (row = []) = true) : 0 ≤ l ∧ l < B ∧ f * B + l = A := by
  have : row = [] := of_decide_eq_true hr
  subst this
  obtain ⟨_, p1, p2, p3⟩ := h
  simp only [List.length_nil, Int.pow_zero, Int.mul_one] at p2 p3
  exact ⟨p1, p2, p3⟩
theorem fdiv_is {a b e : Int} (h : 0 < b) (h1 : e * b ≤ a) (h2 : a < e * b + b) : a.fdiv b = e := by
  rw [Int.fdiv_eq_ediv_of_nonneg _ (by omega)]
  refine Int.le_antisymm ?_ ?_
  · have : a / b < e + 1 := Int.ediv_lt_of_lt_mul h (by rw [Int.add_mul, Int.one_mul]; exact h2)
    omega
  · exact Int.le_ediv_of_mul_le h h1
theorem fin_q {a b f l : Int} {row : List Int} (hb : b ≠ 0) (h : Par (if b < 0 then -b else b) (if a < 0 then -a else a) f l row) (hr : decide (row = []) = true) : (if a < 0 then -a else a).fdiv (if b < 0 then -b else b) = f := by
  obtain ⟨p1, p2, p3⟩ := par_end h hr
  exact fdiv_is (abs_pos hb) (by omega) (by omega)
theorem fin_same {a b f l : Int} {row : List Int} (hb : b ≠ 0) (h : Par (if b < 0 then -b else b) (if a < 0 then -a else a) f l row) (hr : decide (row = []) = true) (hs : (decide (a < 0) == decide (b < 0)) = true) : f = a.tdiv b := by
  rw [← tdiv_same hs, fin_q hb h hr]
theorem fin_other {a b f l : Int} {row : List Int} (hb : b ≠ 0) (h : Par (if b < 0 then -b else b) (if a < 0 then -a else a) f l row) (hr : decide (row = []) = true) (hs : (decide (a < 0) == decide (b < 0)) = false) : 0 - f = a.tdiv b := by
  rw [← tdiv_other hs, fin_q hb h hr, Int.zero_sub]
theorem fin_rest {a b f l : Int} {row : List Int} (hb : b ≠ 0) (h : Par (if b < 0 then -b else b) (if a < 0 then -a else a) f l row) (hr : decide (row = []) = true) : (if a < 0 then 0 - l else l) = a.tmod b := by
  obtain ⟨p1, p2, p3⟩ := par_end h hr
  have hd : a.tmod b = a - b * a.tdiv b := Int.tmod_def a b
  rw [hd]
  cases hs : (decide (a < 0) == decide (b < 0)) with
  | true =>
    rw [← fin_same hb h hr hs]
    by_cases h1 : a < 0 <;> by_cases h2 : b < 0 <;> simp [h1, h2] at hs p3 ⊢
    · rw [Int.mul_neg] at p3; rw [Int.mul_comm b f]; omega
    · rw [Int.mul_comm b f]; omega
  | false =>
    rw [← fin_other hb h hr hs]
    by_cases h1 : a < 0 <;> by_cases h2 : b < 0 <;> simp [h1, h2] at hs p3 ⊢
    · rw [Int.mul_neg, Int.mul_comm b f]; omega
    · rw [Int.mul_neg] at p3; rw [Int.mul_neg, Int.mul_comm b f]; omega
theorem fin_neg {a b f l : Int} {row : List Int} (hb : b ≠ 0) (h : Par (if b < 0 then -b else b) (if a < 0 then -a else a) f l row) (hr : decide (row = []) = true) (ha : a < 0) : 0 - l = a.tmod b := by
  rw [← fin_rest hb h hr, if_pos ha]
theorem fin_pos {a b f l : Int} {row : List Int} (hb : b ≠ 0) (h : Par (if b < 0 then -b else b) (if a < 0 then -a else a) f l row) (hr : decide (row = []) = true) (ha : ¬ a < 0) : l = a.tmod b := by
  rw [← fin_rest hb h hr, if_neg ha]

-- part Pt
theorem words_Pt_22 : True := by
  k_with_none
  k_with "m fill" => ((w_on; (have hfill : ∀ w : World, (Kt w.params).length = (Kt w.params).length ∧ PySem.Challenge.rw_nz0031_02.foot = PySem.Challenge.rw_nz0031_02.foot := by (k_fill; exact fun _ => ⟨rfl, rfl⟩)); clear hfill))
  k_with "m enter" => ((
    (refine wpAny_call ?_);
    k_dflt (refine' enter ?kW ?kB [] ?k0 ?ho ?hcd ?hroom ?hbind ?hloc ?_ ?c1 ?c2 ?c3 ?c4);
    (case kW => assumption);
    (case kB => assumption);
    (case k0 => exact fun _ h => nomatch h);
    (case ho => k_is);
    (case hcd => k_is);
    (case hroom => exact Nat.le_of_ble_eq_true rfl);
    (case hbind => exact BindsTo.of_eq rfl);
    (case hloc => exact locs rfl);
    (case c1 => decide);
    (case c2 => exact rfl);
    (case c3 => exact rfl);
    (case c4 => exact rfl);
    intro L h₁ p loose mean mg mb F N Bl X T lt eL tk;
    (dsimp only [List.map, hideAll] at F N Bl X T);
    (try k_fold)))
  k_with "m use" => (((case hd => exact Nat.le_of_ble_eq_true rfl); (case hu => exact Nat.le_of_ble_eq_true rfl); (case W => k_asm); (case B => k_asm); (case F => k_asm); (case N => k_asm); k_whole))
  k_with "w leaving ref" => ((k_here; k_dflt (first
  | (refine' leave_new ?B ?F rfl rfl rfl ?fl ?_; (case fl => k_asm); (case F => k_asm); (case B => k_asm); intro h9 tk9 r9 ff9 fl9)
  | (refine' leave_own rfl rfl ?ff ?rel ?hL (.inr ?fl) ?_; (case fl => assumption); (case ff => assumption); (case rel => assumption); (case hL => assumption); intro h9 tk9 r9 ff9 fl9))))
  k_with "w exec Raise some none" => ((k_here; k_dflt (refine' raise_own rfl ?_)))
  k_with "w Exists" => ((k_dflt (refine' raise_end ?X ?F ?fl ?_; (case X => k_asm); (case F => k_asm); (case fl => k_asm))))
  trivial
theorem ints_of {h₀ h : Heap} {L l D x t : _} {od : Obj} {rest : List (Addr × Obj)} {n : Nat} (_ : News h₀ L h ((D, od) :: (l, { cls := .type "list", data := .seq #[Value.int x t] n }) :: rest)) : IntsAre [Value.int x t] [x] := .cons _ _ .nil
theorem news_tail {h₀ h : Heap} {L : Addr} {p : Addr × Obj} {rest : List (Addr × Obj)} (N : News h₀ L h (p :: rest)) : News h₀ L h rest := fun q hq => N q (.tail _ hq)
def TupI (h : Heap) (tu : Addr) (x y : Int) : Prop := ∃ t1 t2, h.get? tu = some { cls := .type "tuple", data := .seq [.int x t1, .int y t2].toArray }
theorem small_list {vs : List Value} {ks : List Int} (h : IntsAre vs ks) (hl : ks.length ≤ 300) : vs.toArray.size ≤ sizeLine := by
  have := h.length
  rw [List.size_toArray, sizeLine_eq]; omega
theorem words_Pt_23 : True := by
  k_with "w call builtin:list.append" => ((k_here; k_dflt (refine' append_K ?k1 ?k2 ?k3 ?_ ?z; (case k1 => k_asm); (case k2 => k_asm); (case k3 => k_upd); (case z => exact small_list (by assumption) (by assumption)); k_whole); intro h' F' N'; (try k_sweep)))
  trivial
theorem len_pos {l : List Int} (h : decide (l = []) = false) : 1 ≤ (l.length : Int) := by
  cases l with
  | nil => simp at h
  | cons a l => simp only [List.length_cons]; omega
theorem words_Pt_24 : True := by
  k_with "w subscriptTail Name UnaryOp ref int" => ((k_here; (rename decide (_ = []) = false => hde); (have hle := len_pos hde); clear hde))
  trivial
theorem tupi_of {h₀ h : Heap} {L tu : Addr} {x y x' y' : Int} {t1 t2 : Tok} {news : List (Addr × Obj)} (N : News h₀ L h news) (m : (tu, ({ cls := .type "tuple", data := .seq [.int x t1, .int y t2].toArray } : Obj)) ∈ news) (ex : x = x') (ey : y = y') : TupI h tu x' y' := by
  subst ex; subst ey; exact ⟨_, _, (N _ m).1⟩
set_option maxHeartbeats 8000000 in
theorem parted_ok (w : World) (a b : Int) (ta tb : Tok) (hb : b ≠ 0) (ha : a.natAbs < 10 ^ 60) : ∀ (outer : List Env) (base : Heap) (Q E : Value → Shared → Prop) (s : Shared), Wd w base → Below (Ak 20 outer) base outer s.heap →
    (∀ tu h' tk, s.heap.get? tu = none → TupI h' tu (a.tdiv b) (a.tmod b) → Keep [] s.heap h' → Q (.ref tu) { s with heap := h', toks := tk }) →
    wpAny (model PySem.Challenge.rw_nz0031_02.row.prog w) (Ak 20 outer) (call (.ref 443) [.int a ta, .int b tb]) Q E s := by
  intro outer base Q E s W B hret
  k_extra "m fill"
  w_strict (
    k_extra "m enter"
    (k_with "state" => first
      | exact start1 _
      | exact turn1 hb ha (by assumption) (by assumption) (by assumption)
      | exact start2 hb (by assumption) (by assumption) (by assumption) (by assumption)
      | exact turn2a (by assumption) (by assumption) (by assumption) (by assumption)
      | exact turn2b (by assumption) (by assumption) (by assumption) (by assumption))
    (k_with "measure" => first | exact less2 (by assumption) | exact less1 hb (by assumption) (by assumption) (by assumption))
    (k_with "exec While Compare cons nil" => k_while (fun _ found left row => row.length ≤ 300 ∧ Par (if b < 0 then -b else b) (if a < 0 then -a else a) found left row) (fun _ _ _ row => row.length) "found" "left" "row")
    repeat' ((fail_if_success (with_reducible show wpAny _ _ (exec (Stmt.While _ _ _ _) _) _ _ _)); first | (k_unfold; (try dsimp only)) | (k_end; wrow_close) | walk1 | (dsimp only; walk1) | (leave1; walk_say "STEP leave1"; try dsimp only) | fail "no step")
    (rename News _ _ _ _ => nn)
    (have hints := ints_of nn)
    (k_while (fun _ row => 1 ≤ (row.length : Int) ∧ row.length ≤ 300 ∧ Dbl (if b < 0 then -b else b) row) (fun _ row => (if a < 0 then -a else a).toNat + 1 - row.length) "row")
    k_steps
    all_goals (dsimp (config := {zetaDelta := true}) only)
    all_goals (refine hret _ _ _ ?_ (tupi_of (by assumption) (by k_mem) ?_ ?_) ?_)
    all_goals first
      | exact News.fresh (by assumption) (by k_mem)
      | exact Keep.of_fr (by assumption)
      | exact fin_same hb (by assumption) (by assumption) (by assumption)
      | exact fin_other hb (by assumption) (by assumption) (by assumption)
      | exact fin_neg hb (by assumption) (by assumption) (by assumption)
      | exact fin_pos hb (by assumption) (by assumption) (by assumption))

-- part Dv
def OptV : Option Int → Value → Prop
  | none, v => v = .none
  | some r, v => ∃ t, v = .int r t
def powD (a b : Int) : Option Int := if a = 0 ∧ b < 0 then none else some (powV a b)
theorem words_Dv_25 : True := by
  k_with_none
  k_with "m fill" => ((w_on; (have hfill : ∀ w : World, (Kt w.params).length = (Kt w.params).length ∧ PySem.Challenge.rw_nz0031_02.foot = PySem.Challenge.rw_nz0031_02.foot := by (k_fill; exact fun _ => ⟨rfl, rfl⟩)); clear hfill))
  k_with "m enter" => ((
    (refine wpAny_call ?_);
    k_dflt (refine' enter ?kW ?kB [] ?k0 ?ho ?hcd ?hroom ?hbind ?hloc ?_ ?c1 ?c2 ?c3 ?c4);
    (case kW => assumption);
    (case kB => assumption);
    (case k0 => exact fun _ h => nomatch h);
    (case ho => k_is);
    (case hcd => k_is);
    (case hroom => exact Nat.le_of_ble_eq_true rfl);
    (case hbind => exact BindsTo.of_eq rfl);
    (case hloc => exact locs rfl);
    (case c1 => decide);
    (case c2 => exact rfl);
    (case c3 => exact rfl);
    (case c4 => exact rfl);
    intro L h₁ p loose mean mg mb F N Bl X T lt eL tk;
    (dsimp only [List.map, hideAll] at F N Bl X T);
    (try k_fold)))
  k_with "m use" => (((case hd => exact Nat.le_of_ble_eq_true rfl); (case hu => exact Nat.le_of_ble_eq_true rfl); (case W => k_asm); (case B => k_asm); (case F => k_asm); (case N => k_asm); k_whole))
  k_with "w leaving ref" => ((k_here; k_dflt (first
  | (refine' leave_new ?B ?F rfl rfl rfl ?fl ?_; (case fl => k_asm); (case F => k_asm); (case B => k_asm); intro h9 tk9 r9 ff9 fl9)
  | (refine' leave_own rfl rfl ?ff ?rel ?hL (.inr ?fl) ?_; (case fl => assumption); (case ff => assumption); (case rel => assumption); (case hL => assumption); intro h9 tk9 r9 ff9 fl9))))
  k_with "w exec Raise some none" => ((k_here; k_dflt (refine' raise_own rfl ?_)))
  k_with "w Exists" => ((k_dflt (refine' raise_end ?X ?F ?fl ?_; (case X => k_asm); (case F => k_asm); (case fl => k_asm))))
  k_with "w eval Call" => ((k_here; k_dflt (refine Call_ ?_)))
  k_with "w call ref" => ((k_here; k_dflt (first
  | (refine' RaiseS.useI (times_ok _ _ _ _ _) rfl rfl rfl ?hd ?hu ?W ?B ?F ?N rfl rfl (fun t' h' tk' c' F' N' => ?_) (fun e' dd' h' tk' c' r' n' ff' fl' z' => c'.elim); k_extra "m use"))))
  trivial
theorem in3 {x : Int} {b : Bool} (h : ([-1, 0, 1] : List Int).any (fun z => z == x) = b) : (x = -1 ∨ x = 0 ∨ x = 1) ↔ b = true := by
  subst h
  simp only [List.any_cons, List.any_nil, Bool.or_false, Bool.or_eq_true, beq_iff_eq]
  omega
theorem pw_y {x y : Int} (h : (x.natAbs ≤ 11 ∧ y.natAbs ≤ 11) ∨ (x.natAbs ≤ 1 ∧ y.natAbs < 10 ^ 30)) (h2 : ([-1, 0, 1] : List Int).any (fun z => z == x) = false) : y ≤ 11 := by
  have := in3 h2
  have : ¬ (x = -1 ∨ x = 0 ∨ x = 1) := fun z => by have := this.mp z; cases this
  omega
theorem words_Dv_26 : True := by
  k_with "w exec For Name Call cons nil" => ((k_here; (rename List.any _ _ = false => hde); (have hle := pw_y (by assumption) hde); clear hde))
  trivial
theorem pd0 {x y : Int} (hx : x = 0) (hy : y < 0) : OptV (powD x y) .none := by unfold powD; rw [if_pos ⟨hx, hy⟩]; rfl
theorem pdv {x y r : Int} {t : Tok} (h : ¬ (x = 0 ∧ y < 0)) (e : r = powV x y) : OptV (powD x y) (.int r t) := by unfold powD; rw [if_neg h]; exact ⟨t, by rw [e]⟩
theorem pv00 {x y : Int} (hx : x = 0) (hy : ¬ y < 0) (h0 : y = 0) : 1 = powV x y := by subst h0; rw [powV_nn (by omega)]; exact (Int.pow_zero x).symm
theorem pv01 {x y : Int} (hx : x = 0) (hy : ¬ y < 0) (h0 : y ≠ 0) : 0 = powV x y := by
  rw [powV_nn (by omega), hx, Int.zero_pow (by omega)]
theorem pvu {x y : Int} (h2 : ([-1, 0, 1] : List Int).any (fun z => z == x) = true) (hx : x ≠ 0) : (if y.fmod 2 = 1 then x else 1) = powV x y := by
  have h3 : x = 1 ∨ x = -1 := by have := (in3 h2).mpr rfl; omega
  have h4 : y.fmod 2 = y % 2 := Int.fmod_eq_emod_of_nonneg _ (by decide)
  by_cases hy : 0 ≤ y
  · rw [powV_nn hy]
    by_cases h0 : y = 0
    · subst h0; rw [if_neg (by decide)]; exact (Int.pow_zero x).symm
    · rw [unit_pow (by split <;> omega) (by omega), h4]
      have e : (y.toNat % 2 = 1) = (y % 2 = 1) := by apply propext; omega
      rw [show (if y.toNat % 2 = 1 then x else x * x) = (if y % 2 = 1 then x else x * x) by simp only [e]]
      rcases h3 with rfl | rfl <;> rfl
  · unfold powV
    rw [if_neg hy]
    rcases h3 with rfl | rfl <;> (split <;> rfl)
theorem pvu1 {x y : Int} (h2 : ([-1, 0, 1] : List Int).any (fun z => z == x) = true) (hx : x ≠ 0) (hy : y.fmod 2 = 1) : x = powV x y := by rw [← pvu h2 hx, if_pos hy]
theorem pvu2 {x y : Int} (h2 : ([-1, 0, 1] : List Int).any (fun z => z == x) = true) (hx : x ≠ 0) (hy : y.fmod 2 ≠ 1) : 1 = powV x y := by rw [← pvu h2 hx, if_neg hy]
theorem td1 {x : Int} (h : 1 < x.natAbs) : Int.tdiv 1 x = 0 := by
  cases x with
  | ofNat m =>
    show ((1 / m : Nat) : Int) = 0
    rw [Nat.div_eq_of_lt (by simpa using h)]; rfl
  | negSucc m =>
    show -((1 / (m + 1) : Nat) : Int) = 0
    rw [Nat.div_eq_of_lt (by simpa using h)]; rfl
theorem pvn {x y : Int} (h2 : ([-1, 0, 1] : List Int).any (fun z => z == x) = false) (hy : y < 0) : 0 = powV x y := by
  have := in3 h2
  have h3 : ¬ (x = -1 ∨ x = 0 ∨ x = 1) := fun z => by have := this.mp z; cases this
  unfold powV
  rw [if_neg (by omega)]
  split
  · rw [td1 (by omega)]
  · rw [td1]
    rw [Int.natAbs_mul]
    have h4 : 2 ≤ x.natAbs := by omega
    exact Nat.lt_of_lt_of_le (by decide : 1 < 2 * 2) (Nat.mul_le_mul h4 h4)
set_option maxHeartbeats 8000000 in
theorem lawpow_ok (w : World) (x y : Int) (tx ty : Tok) (h : (x.natAbs ≤ 11 ∧ y.natAbs ≤ 11) ∨ (x.natAbs ≤ 1 ∧ y.natAbs < 10 ^ 30)) :
    RaiseS w 22 450 [.int x tx, .int y ty] (OptV (powD x y)) (fun _ => False) := by
  intro outer base Q E s W B hret hflt
  k_extra "m fill"
  w_strict (
    k_extra "m enter"
    (k_with "state" => first | exact pw_start | exact pow_turn (by assumption))
    (k_with "pyIter ref" => k_state (fun pre found => found = x ^ pre.length) "found")
    k_steps
    all_goals (dsimp (config := {zetaDelta := true}) only)
    all_goals first
      | exact hret _ _ _ (pd0 (by assumption) (by assumption)) (Keep.of_fr (by assumption))
      | exact hret _ _ _ (pdv (fun z => absurd z.2 (by assumption)) (pv00 (by assumption) (by assumption) (by assumption))) (Keep.of_fr (by assumption))
      | exact hret _ _ _ (pdv (fun z => absurd z.2 (by assumption)) (pv01 (by assumption) (by assumption) (by assumption))) (Keep.of_fr (by assumption))
      | exact hret _ _ _ (pdv (fun z => absurd z.1 (by assumption)) (pvu1 (by assumption) (by assumption) (by assumption))) (Keep.of_fr (by assumption))
      | exact hret _ _ _ (pdv (fun z => absurd z.1 (by assumption)) (pvu2 (by assumption) (by assumption) (by assumption))) (Keep.of_fr (by assumption))
      | exact hret _ _ _ (pdv (fun z => absurd ((in3 (by assumption : List.any _ _ = false)).mp (.inr (.inl z.1))) (by decide)) (pvn (by assumption) (by assumption))) (Keep.of_fr (by assumption))
      | exact hret _ _ _ (pdv (fun z => absurd z.2 (by assumption)) (pwe1 (by assumption) (by assumption))) (Keep.of_fr (by assumption)))

-- part Du
def sgS : Nat → Str
  | 0 => Str.ofString "+"
  | 1 => Str.ofString "-"
  | 2 => Str.ofString "*"
  | 3 => Str.ofString "div"
  | 4 => Str.ofString "mod"
  | _ => Str.ofString "^"
def dueD (sg : Nat) (a b : Int) : Option Int :=
  if sg = 0 then some (a + b) else if sg = 1 then some (a - b) else if sg = 2 then some (a * b) else if sg = 3 then (if b = 0 then none else some (a.tdiv b)) else if sg = 4 then (if b = 0 then none else some (a.tmod b)) else powD a b
def Pre (sg : Nat) (a b : Int) : Prop := a.natAbs < 10 ^ 60 ∧ b.natAbs < 10 ^ 60 ∧ (sg = 5 → (a.natAbs ≤ 11 ∧ b.natAbs ≤ 11) ∨ (a.natAbs ≤ 1 ∧ b.natAbs < 10 ^ 30))
def AllNe (d : Addr) : List (Addr × Obj) → Prop
  | [] => True
  | p :: r => p.1 ≠ d ∧ AllNe d r
theorem allNe_of {h₀ h : Heap} {L d : Addr} (hd : h.get? d = none) : ∀ {news : List (Addr × Obj)}, News h₀ L h news → AllNe d news
  | [], _ => trivial
  | p :: r, N => ⟨(fun z => by have := (N p (.head _)).1; rw [z, hd] at this; cases this), allNe_of hd fun q hq => N q (.tail _ hq)⟩
theorem part_use {w : World} {a b : Int} {ta tb : Tok} (hb : b ≠ 0) (ha : a.natAbs < 10 ^ 60)
    {A A₀ : Around} {env : Env} {outer : List Env} {base g : Heap} {s : Shared} {Q E : Value → Shared → Prop} {L : Addr} {m : Str → Option Value} {news : List (Addr × Obj)}
    (hA : A.handled = none) (hfr : A.frames = some (env :: outer)) (hd : A.depth ≤ 900 - 6 * 20) (hu : A.units ≤ 9000 - 99 * 20)
    (W : Wd w base) (B : Below A₀ base outer g) (F : Fr g L s.heap m) (N : News g L s.heap news) (hf : env.frame = some L) (hk : env.scope.kind = .function)
    (h : ∀ tu t1 t2 h' tk, Fr g L h' m → News g L h' ((tu, { cls := .type "tuple", data := .seq [.int (a.tdiv b) t1, .int (a.tmod b) t2].toArray }) :: news) → AllNe tu news → Q (.ref tu) { s with heap := h', toks := tk }) :
    wpAny (model PySem.Challenge.rw_nz0031_02.row.prog w) A (call (.ref 443) [.int a ta, .int b tb]) Q E s := by
  refine wpAny_ak hA hfr hd hu (parted_ok w a b ta tb hb ha _ base Q E s W (below_at B F hf hk) fun tu h' tk hn ht k => ?_)
  obtain ⟨t1, t2, ht⟩ := ht
  have F' := fr_keep F k fun _ h => nomatch h
  have hL : tu ≠ L := by
    obtain ⟨o, _, _, e, _⟩ := F.ns
    rintro rfl
    rw [hn] at e; cases e
  refine h tu t1 t2 h' tk F' (fun p hp => ?_) ?_
  · rcases List.mem_cons.mp hp with rfl | hp
    · exact ⟨ht, hL, kts_none F.keep hn⟩
    · exact ⟨k _ _ (N p hp).1 (fun h => nomatch h), (N p hp).2⟩
  · exact allNe_of hn N
theorem words_Du_27 : True := by
  k_with_none
  k_with "m fill" => ((w_on; (have hfill : ∀ w : World, (Kt w.params).length = (Kt w.params).length ∧ PySem.Challenge.rw_nz0031_02.foot = PySem.Challenge.rw_nz0031_02.foot := by (k_fill; exact fun _ => ⟨rfl, rfl⟩)); clear hfill))
  k_with "m enter" => ((
    (refine wpAny_call ?_);
    k_dflt (refine' enter ?kW ?kB [] ?k0 ?ho ?hcd ?hroom ?hbind ?hloc ?_ ?c1 ?c2 ?c3 ?c4);
    (case kW => assumption);
    (case kB => assumption);
    (case k0 => exact fun _ h => nomatch h);
    (case ho => k_is);
    (case hcd => k_is);
    (case hroom => exact Nat.le_of_ble_eq_true rfl);
    (case hbind => exact BindsTo.of_eq rfl);
    (case hloc => exact locs rfl);
    (case c1 => decide);
    (case c2 => exact rfl);
    (case c3 => exact rfl);
    (case c4 => exact rfl);
    intro L h₁ p loose mean mg mb F N Bl X T lt eL tk;
    (dsimp only [List.map, hideAll] at F N Bl X T);
    (try k_fold)))
  k_with "m use" => (((case hd => exact Nat.le_of_ble_eq_true rfl); (case hu => exact Nat.le_of_ble_eq_true rfl); (case W => k_asm); (case B => k_asm); (case F => k_asm); (case N => k_asm); k_whole))
  k_with "w leaving ref" => ((k_here; k_dflt (first
  | (refine' leave_new ?B ?F rfl rfl rfl ?fl ?_; (case fl => k_asm); (case F => k_asm); (case B => k_asm); intro h9 tk9 r9 ff9 fl9)
  | (refine' leave_own rfl rfl ?ff ?rel ?hL (.inr ?fl) ?_; (case fl => assumption); (case ff => assumption); (case rel => assumption); (case hL => assumption); intro h9 tk9 r9 ff9 fl9))))
  k_with "w exec Raise some none" => ((k_here; k_dflt (refine' raise_own rfl ?_)))
  k_with "w Exists" => ((k_dflt (refine' raise_end ?X ?F ?fl ?_; (case X => k_asm); (case F => k_asm); (case fl => k_asm))))
  k_with "w eval Call" => ((k_here; k_dflt (refine Call_ ?_)))
  k_with "w call ref" => ((k_here; k_dflt (first
  | (refine' RaiseS.useI (times_ok _ _ _ _ _) rfl rfl rfl ?hd ?hu ?W ?B ?F ?N rfl rfl (fun t' h' tk' c' F' N' => ?_) (fun e' dd' h' tk' c' r' n' ff' fl' z' => c'.elim); k_extra "m use")
  | (refine' part_use ?hb ?ha rfl rfl ?hd ?hu ?W ?B ?F ?N rfl rfl (fun tu' t1' t2' h' tk' F' N' l' => ?_); (case hb => assumption); (case ha => assumption); k_extra "m use"; (try dsimp only [AllNe] at l'))
  | (refine' RaiseS.use (lawpow_ok _ _ _ _ _ ?hp) rfl rfl rfl ?hd ?hu ?W ?B ?F ?N rfl rfl (fun v' h' tk' c' F' N' => ?_) (fun e' dd' sp' h' tk' c' r' n' ff' fl' => c'.elim); (case hp => assumption); k_extra "m use"))))
  trivial
theorem pre5 {a b : Int} (h : Pre 5 a b) : (a.natAbs ≤ 11 ∧ b.natAbs ≤ 11) ∨ (a.natAbs ≤ 1 ∧ b.natAbs < 10 ^ 30) := h.2.2 rfl
theorem optv {o : Option Int} {r : Int} {t : Tok} (e : o = some r) : OptV o (.int r t) := by subst e; exact ⟨t, rfl⟩
theorem optn {o : Option Int} (e : o = none) : OptV o .none := by subst e; rfl
theorem due3 {a b : Int} (hb : b ≠ 0) : dueD 3 a b = some (a.tdiv b) := by simp [dueD, hb]
theorem due4 {a b : Int} (hb : b ≠ 0) : dueD 4 a b = some (a.tmod b) := by simp [dueD, hb]
theorem due3n {a b : Int} (hb : b = 0) : dueD 3 a b = none := by simp [dueD, hb]
theorem due4n {a b : Int} (hb : b = 0) : dueD 4 a b = none := by simp [dueD, hb]
theorem due1 {a b : Int} : dueD 1 a b = some (a + (0 - b)) := by
  show some (a - b) = _
  congr 1; omega
set_option maxHeartbeats 8000000 in
theorem due_ok (w : World) (sg : Nat) (hs : sg < 6) (x y : Int) (ts tx ty : Tok) (h : Pre sg x y) : RaiseS w 24 457 [.str (sgS sg) ts, .int x tx, .int y ty] (OptV (dueD sg x y)) (fun _ => False) := by
  have hx := h.1
  have h6 : sg = 0 ∨ sg = 1 ∨ sg = 2 ∨ sg = 3 ∨ sg = 4 ∨ sg = 5 := by omega
  rcases h6 with rfl | rfl | rfl | rfl | rfl | rfl
  all_goals (try have hp := pre5 h)
  all_goals (
    intro outer base Q E s W B hret hflt
    dsimp only [sgS]
    k_extra "m fill"
    w_strict (
      k_extra "m enter"
      k_steps
      all_goals (try dsimp (config := {zetaDelta := true}) only)
      all_goals first
        | exact hret _ _ _ (optv rfl) (Keep.of_fr (by assumption))
        | exact hret _ _ _ (optv due1) (Keep.of_fr (by assumption))
        | exact hret _ _ _ (optv (due3 (by assumption))) (Keep.of_fr (by assumption))
        | exact hret _ _ _ (optv (due4 (by assumption))) (Keep.of_fr (by assumption))
        | exact hret _ _ _ (optn (due3n (by assumption))) (Keep.of_fr (by assumption))
        | exact hret _ _ _ (optn (due4n (by assumption))) (Keep.of_fr (by assumption))
        | exact hret _ _ _ (by assumption) (Keep.of_fr (by assumption))))

-- part Rk
theorem wfa {x y : Int} (hx : x.natAbs < 10 ^ 60) (hy : y.natAbs < 10 ^ 60) : (x + y).natAbs < 10 ^ 900 := by
  have h1 : (x + y).natAbs < 10 ^ 61 := by omega
  exact Nat.lt_of_lt_of_le h1 (Nat.pow_le_pow_right (by decide) (by decide))
theorem wfs {x y : Int} (hx : x.natAbs < 10 ^ 60) (hy : y.natAbs < 10 ^ 60) : (x - y).natAbs < 10 ^ 900 := by
  have h1 : (x - y).natAbs < 10 ^ 61 := by omega
  exact Nat.lt_of_lt_of_le h1 (Nat.pow_le_pow_right (by decide) (by decide))
theorem wfm {x y : Int} (hx : x.natAbs < 10 ^ 60) (hy : y.natAbs < 10 ^ 60) : (x * y).natAbs < 10 ^ 900 := by
  rw [Int.natAbs_mul]
  have h1 : x.natAbs * y.natAbs ≤ 10 ^ 60 * 10 ^ 60 := Nat.mul_le_mul (Nat.le_of_lt hx) (Nat.le_of_lt hy)
  rw [← Nat.pow_add] at h1
  exact Nat.lt_of_le_of_lt h1 (Nat.pow_lt_pow_right (by decide) (by decide))
theorem rv {o : Option Int} {r : Int} {t : Tok} (e : o = some r) : ∃ r', o = some r' ∧ ∃ t', Value.int r t = .int r' t' := ⟨r, e, t, rfl⟩
theorem due4m {a b : Int} (hb : b ≠ 0) : dueD 4 a b = some (a - b * a.tdiv b) := by rw [due4 hb, Int.tmod_def]
theorem due5 {a b : Int} (h : ¬ (b < 0 ∧ a = 0)) : dueD 5 a b = some (powV a b) := by
  show powD a b = _
  unfold powD; rw [if_neg (fun z => h ⟨z.2, z.1⟩)]
theorem due5n {a b : Int} (h : b < 0 ∧ a = 0) : dueD 5 a b = none := by
  show powD a b = _
  unfold powD; rw [if_pos ⟨h.2, h.1⟩]
theorem bits60 {a : Int} (h : a.natAbs < 10 ^ 60) : Builtin.Int.intBits a ≤ 2 ^ 20 := by
  unfold Builtin.Int.intBits
  split
  · exact Nat.zero_le _
  · rename_i z
    have h0 : a.natAbs ≠ 0 := by simpa using z
    have : a.natAbs.log2 < 200 := (Nat.log2_lt h0).mpr (Nat.lt_trans h (by decide +kernel))
    have : (200 : Nat) ≤ 2 ^ 20 := by decide
    omega
theorem mulok {a b : Int} (ha : a.natAbs < 10 ^ 60) (hb : b.natAbs < 10 ^ 60) : IntMulOk a b := IntMulOk.of_bits (bits60 ha) (bits60 hb)
theorem td_small {a b : Int} (ha : a.natAbs < 10 ^ 60) : (a.tdiv b).natAbs < 10 ^ 60 := by
  rw [Int.natAbs_tdiv]; exact Nat.lt_of_le_of_lt (Nat.div_le_self _ _) ha
theorem words_Rk_28 : True := by
  k_with_none
  k_with "m fill" => ((w_on; (have hfill : ∀ w : World, (Kt w.params).length = (Kt w.params).length ∧ PySem.Challenge.rw_nz0031_02.foot = PySem.Challenge.rw_nz0031_02.foot := by (k_fill; exact fun _ => ⟨rfl, rfl⟩)); clear hfill))
  k_with "m enter" => ((
    (refine wpAny_call ?_);
    k_dflt (refine' enter ?kW ?kB [] ?k0 ?ho ?hcd ?hroom ?hbind ?hloc ?_ ?c1 ?c2 ?c3 ?c4);
    (case kW => assumption);
    (case kB => assumption);
    (case k0 => exact fun _ h => nomatch h);
    (case ho => k_is);
    (case hcd => k_is);
    (case hroom => exact Nat.le_of_ble_eq_true rfl);
    (case hbind => exact BindsTo.of_eq rfl);
    (case hloc => exact locs rfl);
    (case c1 => decide);
    (case c2 => exact rfl);
    (case c3 => exact rfl);
    (case c4 => exact rfl);
    intro L h₁ p loose mean mg mb F N Bl X T lt eL tk;
    (dsimp only [List.map, hideAll] at F N Bl X T);
    (try k_fold)))
  k_with "m use" => (((case hd => exact Nat.le_of_ble_eq_true rfl); (case hu => exact Nat.le_of_ble_eq_true rfl); (case W => k_asm); (case B => k_asm); (case F => k_asm); (case N => k_asm); k_whole))
  k_with "w leaving ref" => ((k_here; k_dflt (first
  | (refine' leave_new ?B ?F rfl rfl rfl ?fl ?_; (case fl => k_asm); (case F => k_asm); (case B => k_asm); intro h9 tk9 r9 ff9 fl9)
  | (refine' leave_own rfl rfl ?ff ?rel ?hL (.inr ?fl) ?_; (case fl => assumption); (case ff => assumption); (case rel => assumption); (case hL => assumption); intro h9 tk9 r9 ff9 fl9))))
  k_with "w exec Raise some none" => ((k_here; k_dflt (refine' raise_own rfl ?_)))
  k_with "w Exists" => ((k_dflt (refine' raise_end ?X ?F ?fl ?_; (case X => k_asm); (case F => k_asm); (case fl => k_asm))))
  k_with "w eval Call" => ((k_here; k_dflt (refine Call_ ?_)))
  k_with "w call ref" => ((k_here; k_dflt (first
  | (refine' RaiseS.useI (within_ok _ _ _ ?hx) rfl rfl rfl ?hd ?hu ?W ?B ?F ?N rfl rfl (fun t' h' tk' c' F' N' => ?_) (fun e' dd' h' tk' c' r' n' ff' fl' z' => c'.elim); (case hx => first | exact wfa (by assumption) (by assumption) | exact wfs (by assumption) (by assumption) | exact wfm (by assumption) (by assumption)); k_extra "m use")
  | (refine' RaiseS.useI (quotient_ok _ _ _ _ _ _ _ ?hx) rfl rfl rfl ?hd ?hu ?W ?B ?F ?N rfl rfl (fun t' h' tk' c' F' N' => ?_) (fun e' dd' h' tk' c' r' n' ff' fl' z' => ?_); (case hx => assumption); k_extra "m use")
  | (refine' RaiseS.useI (power_ok _ _ _ _ _ _ _ ?hx) rfl rfl rfl ?hd ?hu ?W ?B ?F ?N rfl rfl (fun t' h' tk' c' F' N' => ?_) (fun e' dd' h' tk' c' r' n' ff' fl' z' => ?_); (case hx => assumption); k_extra "m use"))))
  k_with "w binaryOp Mult int int" => ((k_here; k_dflt (first | refine mul_int ?_ (mulok (by assumption) (by assumption)) | refine mul_int ?_ (mulok (by assumption) (td_small (by assumption))))))
  trivial
set_option maxHeartbeats 8000000 in
theorem reckoned_ok (w : World) (sg : Nat) (hs : sg < 6) (x y spot : Int) (tg tx ty ts : Tok) (h : Pre sg x y) :
    RaiseS w 24 245 [.str (sgS sg) tg, .int x tx, .int y ty, .int spot ts] (fun v => ∃ r, dueD sg x y = some r ∧ ∃ t, v = .int r t) (fun sp => dueD sg x y = none ∧ sp = spot) := by
  have hx := h.1
  have hy := h.2.1
  have h6 : sg = 0 ∨ sg = 1 ∨ sg = 2 ∨ sg = 3 ∨ sg = 4 ∨ sg = 5 := by omega
  rcases h6 with rfl | rfl | rfl | rfl | rfl | rfl
  all_goals (try have hp := pre5 h)
  all_goals (
    intro outer base Q E s W B hret hflt
    dsimp only [sgS]
    k_extra "m fill"
    w_strict (
      k_extra "m enter"
      k_steps
      all_goals (try dsimp (config := {zetaDelta := true}) only)
      all_goals first
        | exact hret _ _ _ (rv rfl) (Keep.of_fr (by assumption))
        | exact hret _ _ _ (rv (due3 (by assumption))) (Keep.of_fr (by assumption))
        | exact hret _ _ _ (rv (due4m (by assumption))) (Keep.of_fr (by assumption))
        | exact hret _ _ _ (rv (due5 (by assumption))) (Keep.of_fr (by assumption))
        | exact hflt _ _ _ _ _ ⟨due3n (by assumption), rfl⟩ (by assumption) (by assumption) (by assumption)
        | exact hflt _ _ _ _ _ ⟨due4n (by assumption), rfl⟩ (by assumption) (by assumption) (by assumption)
        | exact hflt _ _ _ _ _ ⟨due5n (by assumption), rfl⟩ (by assumption) (by assumption) (by assumption)))

-- part Ev
theorem words_Ev_29 : True := by
  k_with_none
  trivial
/-- objects that stay, made behind the base -/
def Objs (base : Heap) (outer : List Env) (h : Heap) (objs : List (Addr × Obj)) : Prop := ∀ p ∈ objs, h.get? p.1 = some p.2 ∧ base.get? p.1 = none ∧ p.1 ∉ outer.filterMap (·.frame)
theorem Objs.on {base h0 h : Heap} {outer : List Env} {objs : List (Addr × Obj)} {L : Addr} {env : Env} (O : Objs base outer h0 objs) (K0 : ∀ b o, h0.get? b = some o → h.get? b = some o) (hL : h0.get? L = none) (hf : env.frame = some L) : Objs base (env :: outer) h objs := by
  intro p hp
  obtain ⟨a, b, c⟩ := O p hp
  refine ⟨K0 _ _ a, b, fun hm => ?_⟩
  rw [List.filterMap_cons, hf] at hm
  rcases List.mem_cons.mp hm with z | z
  · rw [z, hL] at a; cases a
  · exact c z
theorem keep0 {h0 h : Heap} {L : Addr} {m : Str → Option Value} {hid news : List (Addr × Obj)} (F : Fr (hideAll h0 (hid.map (·.1))) L h m) (N : News (hideAll h0 (hid.map (·.1))) L h news) (h1 : ∀ p ∈ hid, h0.get? p.1 = some p.2) (hm : ∀ p ∈ hid, p ∈ news) : ∀ b o, h0.get? b = some o → h.get? b = some o := by
  intro b o e
  by_cases hb : b ∈ hid.map (·.1)
  · obtain ⟨q, hq, rfl⟩ := List.mem_map.mp hb
    rw [h1 q hq] at e; cases e
    exact (N q (hm q hq)).1
  · exact F.keep _ _ (hideAll_get _ e hb)

def EvS (w : World) (base : Heap) (n : Nat) (self node : Addr) (objs : List (Addr × Obj)) (okV : Value → Prop) (flt : Int → Prop) : Prop :=
  ∀ (outer : List Env) (Q E : Value → Shared → Prop) (s : Shared), Below (Ak n outer) base outer s.heap → Objs base outer s.heap objs →
    (∀ v h' tk, okV v → Keep [] s.heap h' → Q v { s with heap := h', toks := tk }) →
    (∀ e dd sp h' tk, flt sp → RelS (FrOf outer) s.heap h' → h'.FunFrames base outer → FlT s.heap h' e dd sp → E (.ref e) { s with heap := h', toks := tk }) →
    wpAny (model PySem.Challenge.rw_nz0031_02.row.prog w) (Ak n outer) (call (.ref 282) [.ref self, .ref node]) Q E s
def OfS (w : World) (base : Heap) (n : Nat) (f : Addr) (vs : List Value) (objs : List (Addr × Obj)) (okV : Value → Prop) (flt : Int → Prop) : Prop :=
  ∀ (outer : List Env) (Q E : Value → Shared → Prop) (s : Shared), Below (Ak n outer) base outer s.heap → Objs base outer s.heap objs →
    (∀ v h' tk, okV v → Keep [] s.heap h' → Q v { s with heap := h', toks := tk }) →
    (∀ e dd sp h' tk, flt sp → RelS (FrOf outer) s.heap h' → h'.FunFrames base outer → FlT s.heap h' e dd sp → E (.ref e) { s with heap := h', toks := tk }) →
    wpAny (model PySem.Challenge.rw_nz0031_02.row.prog w) (Ak n outer) (call (.ref f) vs) Q E s

theorem OfS.use {w : World} {base : Heap} {n : Nat} {f : Addr} {vs : List Value} {objs : List (Addr × Obj)} {okV : Value → Prop} {flt : Int → Prop} (S : OfS w base n f vs objs okV flt)
    {A A₀ : Around} {env : Env} {outer : List Env} {h0 g : Heap} {s : Shared} {Q E : Value → Shared → Prop} {L : Addr} {m : Str → Option Value} {news : List (Addr × Obj)} {vs' : List Value}
    (hvs : vs' = vs) (hA : A.handled = none) (hfr : A.frames = some (env :: outer)) (hd : A.depth ≤ 900 - 6 * n) (hu : A.units ≤ 9000 - 99 * n)
    (O : Objs base outer h0 objs) (B : Below A₀ base outer g) (F : Fr g L s.heap m) (N : News g L s.heap news) (hL : h0.get? L = none) (K0 : ∀ b o, h0.get? b = some o → s.heap.get? b = some o) (hf : env.frame = some L) (hk : env.scope.kind = .function)
    (h : ∀ v h' tk, okV v → Fr g L h' m → News g L h' news → Q v { s with heap := h', toks := tk })
    (hx : ∀ e dd sp h' tk, flt sp → RelS (FrOf outer) h0 h' → h'.FunFrames base (env :: outer) → FlT h0 h' e dd sp → h0.get? L = none → E (.ref e) { s with heap := h', toks := tk }) :
    wpAny (model PySem.Challenge.rw_nz0031_02.row.prog w) A (call (.ref f) vs') Q E s := by
  subst hvs
  refine wpAny_ak hA hfr hd hu (S _ Q E s (below_at B F hf hk) (O.on K0 hL hf) (fun v h' tk o k => h v h' tk o (fr_keep F k fun _ h => nomatch h) (fun p hp => ⟨k _ _ (N p hp).1 (fun h => nomatch h), (N p hp).2⟩))
    fun e dd sp h' tk o r ff fl => hx e dd sp h' tk o ?_ ff (fl.lower K0) hL)
  refine ⟨fun b o e nm => r.keep b o (K0 b o e) fun hm => ?_, fun b o e => r.slot b o (K0 b o e)⟩
  have hLo : FrOf (env :: outer) = L :: FrOf outer := by unfold FrOf; rw [List.filterMap_cons, hf]
  rw [hLo] at hm
  rcases List.mem_cons.mp hm with z | z
  · rw [z, hL] at e; cases e
  · exact nm z
theorem RaiseS.of {w : World} {n : Nat} {f : Addr} {vs : List Value} {okV : Value → Prop} {flt : Int → Prop} {base : Heap} {objs : List (Addr × Obj)} (S : RaiseS w n f vs okV flt) (W : Wd w base) : OfS w base n f vs objs okV flt :=
  fun outer Q E s B _ h1 h2 => S outer base Q E s W B h1 h2

-- part Ev2
abbrev tupO (vs : List Value) : Obj := { cls := .type "tuple", data := .seq vs.toArray }
abbrev sdO (w : World) (dct : Addr) (ts : Tok) : Obj := dictOf [⟨PyData.keyHash w.params (Str.ofString "scope"), .str (Str.ofString "scope") ts, .ref dct⟩] 1
theorem keepH {h0 h : Heap} {L : Addr} {m : Str → Option Value} {base : Heap} {outer : List Env} {hid news : List (Addr × Obj)} (hN : ∀ p ∈ hid, h0.get? p.1 = some p.2 ∧ base.get? p.1 = none ∧ p.1 ∉ outer.filterMap (·.frame))
    (F : Fr (hideAll h0 (hid.map (·.1))) L h m) (N : News (hideAll h0 (hid.map (·.1))) L h news) (hm : ∀ p ∈ hid, p ∈ news) : Keep [] h0 h := fun b o e _ => keep0 F N (fun p hp => (hN p hp).1) hm b o e
theorem Objs.sub {base h : Heap} {outer : List Env} {objs : List (Addr × Obj)} (O : Objs base outer h objs) (hid : List (Addr × Obj)) (hs : ∀ p ∈ hid, p ∈ objs) : ∀ p ∈ hid, h.get? p.1 = some p.2 ∧ base.get? p.1 = none ∧ p.1 ∉ outer.filterMap (·.frame) := fun p hp => O p (hs p hp)
theorem words_Ev2_30 : True := by
  k_with_none
  k_with "m fill" => ((w_on; (have hfill : ∀ w : World, (Kt w.params).length = (Kt w.params).length ∧ PySem.Challenge.rw_nz0031_02.foot = PySem.Challenge.rw_nz0031_02.foot := by (k_fill; exact fun _ => ⟨rfl, rfl⟩)); clear hfill))
  k_with "m enter" => ((
    (refine wpAny_call ?_);
    k_dflt (refine' enter ?kW ?kB [] ?k0 ?ho ?hcd ?hroom ?hbind ?hloc ?_ ?c1 ?c2 ?c3 ?c4);
    (case kW => assumption);
    (case kB => assumption);
    (case k0 => exact fun _ h => nomatch h);
    (case ho => k_is);
    (case hcd => k_is);
    (case hroom => exact Nat.le_of_ble_eq_true rfl);
    (case hbind => exact BindsTo.of_eq rfl);
    (case hloc => exact locs rfl);
    (case c1 => decide);
    (case c2 => exact rfl);
    (case c3 => exact rfl);
    (case c4 => exact rfl);
    intro L h₁ p loose mean mg mb F N Bl X T lt eL tk;
    (dsimp only [List.map, hideAll] at F N Bl X T);
    (try k_fold)))
  k_with "m use" => (((case hd => exact Nat.le_of_ble_eq_true rfl); (case hu => exact Nat.le_of_ble_eq_true rfl); (case W => k_asm); (case B => k_asm); (case F => k_asm); (case N => k_asm); k_whole))
  k_with "w leaving ref" => ((k_here; k_dflt (first
  | (refine' leave_new ?B ?F rfl rfl rfl ?fl ?_; (case fl => k_asm); (case F => k_asm); (case B => k_asm); intro h9 tk9 r9 ff9 fl9)
  | (refine' leave_own rfl rfl ?ff ?rel ?hL (.inr ?fl) ?_; (case fl => assumption); (case ff => assumption); (case rel => assumption); (case hL => assumption); intro h9 tk9 r9 ff9 fl9))))
  k_with "w exec Raise some none" => ((k_here; k_dflt (refine' raise_own rfl ?_)))
  k_with "w Exists" => ((k_dflt (refine' raise_end ?X ?F ?fl ?_; (case X => k_asm); (case F => k_asm); (case fl => k_asm))))
  k_with "m enterH" => ((
    (refine wpAny_call ?_);
    k_dflt (refine' enter ?kW ?kB _ ?k0 ?ho ?hcd ?hroom ?hbind ?hloc ?_ ?c1 ?c2 ?c3 ?c4);
    (case k0 => assumption);
    (case kW => assumption);
    (case kB => assumption);
    (case ho => k_is);
    (case hcd => k_is);
    (case hroom => exact Nat.le_of_ble_eq_true rfl);
    (case hbind => exact BindsTo.of_eq rfl);
    (case hloc => exact locs rfl);
    (case c1 => decide);
    (case c2 => exact rfl);
    (case c3 => exact rfl);
    (case c4 => exact rfl);
    intro L h₁ p loose mean mg mb F N Bl X T lt eL tk;
    (dsimp only [List.map] at F N Bl X T);
    (try k_fold)))
  k_with "w subscriptTail Name Constant ref int" => ((k_here; (with_reducible show wpAny _ _ (subscriptTail _ _ (Value.ref _) (Value.int _ _)) _ _ _); k_dflt (refine' item_tupleT ?t ?a ?b ?c ?d ?_; (case t => exact News.isTup (by k_asm) (by k_mem)); (case a => decide); (case b => decide); (case c => rfl); (case d => rfl); k_whole)))
  k_with "w subscriptTail Attribute Name Subscript ref str" => ((k_here; (with_reducible show wpAny _ _ (subscriptTail _ _ (Value.ref _) (Value.str _ _)) _ _ _); k_dflt (refine' item_strTab ?T ?hl ?_; (case T => k_tabat); (case hl => rfl); k_whole); intro v' hv'; cases hv'))
  trivial
theorem look_a {x : Int} : (Spec.lookup (PyData.str (Str.ofString "a")) [(PyData.str (Str.ofString "a"), PyData.int x)]).isSome = true := rfl
theorem words_Ev2_31 : True := by
  k_with "w exec Raise some none" => ((k_here; exact absurd (Eq.trans (Eq.symm look_a) (by assumption)) (by decide)))
  k_with "m mems" => ((repeat (first | exact List.forall_mem_nil _ | refine List.forall_mem_cons.mpr ⟨by k_mem, ?_⟩)))
  trivial
set_option maxHeartbeats 8000000 in
theorem num_int_ok (w : World) (x spot : Int) (tx ts : Tok) : RaiseS w 20 151 [.int x tx, .int spot ts] (fun v => True ∧ ∃ t, v = .int x t) (fun sp => False ∧ sp = 0) := by
  intro outer base Q E s W B hret hflt
  k_extra "m fill"
  w_strict (
    k_extra "m enter"
    k_steps
    all_goals (try dsimp (config := {zetaDelta := true}) only)
    all_goals first
      | exact hret _ _ _ ⟨trivial, _, rfl⟩ (Keep.of_fr (by assumption)))
set_option maxHeartbeats 8000000 in
theorem num_bool_ok (w : World) (x : Bool) (spot : Int) (ts : Tok) : RaiseS w 20 151 [.bool x, .int spot ts] (fun v => True ∧ ∃ t, v = .int (if x then 1 else 0) t) (fun sp => False ∧ sp = 0) := by
  cases x
  all_goals (
    intro outer base Q E s W B hret hflt
    k_extra "m fill"
    w_strict (
      k_extra "m enter"
      k_steps
      all_goals (try dsimp (config := {zetaDelta := true}) only)
      all_goals first
        | exact hret _ _ _ ⟨trivial, _, rfl⟩ (Keep.of_fr (by assumption))))
set_option maxHeartbeats 8000000 in
theorem val_name_ok (w : World) (base : Heap) (W : Wd w base) (objs : List (Addr × Obj)) (self sd dct node : Addr) (oD : Obj) (ts t1 t2 t3 : Tok) (x sp : Int) (tx : Tok) (hD : Obj.IsDictOf (strKind PySem.Challenge.rw_nz0031_02.row.prog w) oD [(Str.ofString "a", Value.int x tx)]) (hS : (dct == sysModules) = false)
    (m1 : (self, instObj 356 sd) ∈ objs) (m2 : (sd, sdO w dct ts) ∈ objs) (m3 : (dct, oD) ∈ objs) (m4 : (node, tupO [.str (Str.ofString "name") t1, .int sp t2, .str (Str.ofString "a") t3]) ∈ objs) :
    OfS w base 26 282 [.ref self, .ref node] objs (fun v => True ∧ ∃ t, v = .int x t) (fun sp => False ∧ sp = 0) := by
  intro outer Q E s B O hret hflt
  have hN := O.sub [(self, instObj 356 sd), (sd, sdO w dct ts), (dct, oD), (node, tupO [.str (Str.ofString "name") t1, .int sp t2, .str (Str.ofString "a") t3])] (List.forall_mem_cons.mpr ⟨m1, List.forall_mem_cons.mpr ⟨m2, List.forall_mem_cons.mpr ⟨m3, List.forall_mem_cons.mpr ⟨m4, List.forall_mem_nil _⟩⟩⟩⟩)
  have hfl : PyProof.V.FlatPairs PyData.str [(Str.ofString "a", Value.int x tx)] [(.str (Str.ofString "a"), .int x)] := .cons (.int _ _) .nil
  k_extra "m fill"
  w_strict (
    k_extra "m enterH"
    k_steps
    all_goals (try dsimp (config := {zetaDelta := true}) only)
    all_goals first
      | exact hret _ _ _ ⟨trivial, _, rfl⟩ (keepH hN (by assumption) (by assumption) (by k_extra "m mems")))

-- part Ev3
theorem words_Ev3_32 : True := by
  k_with_none
  k_with "m fill" => ((w_on; (have hfill : ∀ w : World, (Kt w.params).length = (Kt w.params).length ∧ PySem.Challenge.rw_nz0031_02.foot = PySem.Challenge.rw_nz0031_02.foot := by (k_fill; exact fun _ => ⟨rfl, rfl⟩)); clear hfill))
  k_with "m enter" => ((
    (refine wpAny_call ?_);
    k_dflt (refine' enter ?kW ?kB [] ?k0 ?ho ?hcd ?hroom ?hbind ?hloc ?_ ?c1 ?c2 ?c3 ?c4);
    (case kW => assumption);
    (case kB => assumption);
    (case k0 => exact fun _ h => nomatch h);
    (case ho => k_is);
    (case hcd => k_is);
    (case hroom => exact Nat.le_of_ble_eq_true rfl);
    (case hbind => exact BindsTo.of_eq rfl);
    (case hloc => exact locs rfl);
    (case c1 => decide);
    (case c2 => exact rfl);
    (case c3 => exact rfl);
    (case c4 => exact rfl);
    intro L h₁ p loose mean mg mb F N Bl X T lt eL tk;
    (dsimp only [List.map, hideAll] at F N Bl X T);
    (try k_fold)))
  k_with "m use" => (((case hd => exact Nat.le_of_ble_eq_true rfl); (case hu => exact Nat.le_of_ble_eq_true rfl); (case W => k_asm); (case B => k_asm); (case F => k_asm); (case N => k_asm); k_whole))
  k_with "w leaving ref" => ((k_here; k_dflt (first
  | (refine' leave_new ?B ?F rfl rfl rfl ?fl ?_; (case fl => k_asm); (case F => k_asm); (case B => k_asm); intro h9 tk9 r9 ff9 fl9)
  | (refine' leave_own rfl rfl ?ff ?rel ?hL (.inr ?fl) ?_; (case fl => assumption); (case ff => assumption); (case rel => assumption); (case hL => assumption); intro h9 tk9 r9 ff9 fl9))))
  k_with "w exec Raise some none" => ((k_here; k_dflt (refine' raise_own rfl ?_)))
  k_with "w Exists" => ((k_dflt (refine' raise_end ?X ?F ?fl ?_; (case X => k_asm); (case F => k_asm); (case fl => k_asm))))
  k_with "m enterH" => ((
    (refine wpAny_call ?_);
    k_dflt (refine' enter ?kW ?kB _ ?k0 ?ho ?hcd ?hroom ?hbind ?hloc ?_ ?c1 ?c2 ?c3 ?c4);
    (case k0 => assumption);
    (case kW => assumption);
    (case kB => assumption);
    (case ho => k_is);
    (case hcd => k_is);
    (case hroom => exact Nat.le_of_ble_eq_true rfl);
    (case hbind => exact BindsTo.of_eq rfl);
    (case hloc => exact locs rfl);
    (case c1 => decide);
    (case c2 => exact rfl);
    (case c3 => exact rfl);
    (case c4 => exact rfl);
    intro L h₁ p loose mean mg mb F N Bl X T lt eL tk;
    (dsimp only [List.map] at F N Bl X T);
    (try k_fold)))
  k_with "w subscriptTail Name Constant ref int" => ((k_here; (with_reducible show wpAny _ _ (subscriptTail _ _ (Value.ref _) (Value.int _ _)) _ _ _); k_dflt (refine' item_tupleT ?t ?a ?b ?c ?d ?_; (case t => exact News.isTup (by k_asm) (by k_mem)); (case a => decide); (case b => decide); (case c => rfl); (case d => rfl); k_whole)))
  k_with "w subscriptTail Attribute Name Subscript ref str" => ((k_here; (with_reducible show wpAny _ _ (subscriptTail _ _ (Value.ref _) (Value.str _ _)) _ _ _); k_dflt (refine' item_strTab ?T ?hl ?_; (case T => k_tabat); (case hl => rfl); k_whole); intro v' hv'; cases hv'))
  k_with "m mems" => ((repeat (first | exact List.forall_mem_nil _ | refine List.forall_mem_cons.mpr ⟨by k_mem, ?_⟩)))
  k_with "w eval Call" => ((k_here; k_dflt (refine Call_ ?_)))
  trivial
set_option maxHeartbeats 8000000 in
theorem val_int_ok (w : World) (base : Heap) (W : Wd w base) (objs : List (Addr × Obj)) (self node : Addr) (t1 t2 : Tok) (x sp : Int) (tx : Tok)
    (m4 : (node, tupO [.str (Str.ofString "int") t1, .int sp t2, .int x tx]) ∈ objs) :
    OfS w base 26 282 [.ref self, .ref node] objs (fun v => v = .int x tx) (fun _ => False) := by
  intro outer Q E s B O hret hflt
  have hN := O.sub [(node, tupO [.str (Str.ofString "int") t1, .int sp t2, .int x tx])] (List.forall_mem_cons.mpr ⟨m4, List.forall_mem_nil _⟩)
  k_extra "m fill"
  w_strict (
    k_extra "m enterH"
    k_steps
    all_goals (try dsimp (config := {zetaDelta := true}) only)
    all_goals first
      | exact hret _ _ _ rfl (keepH hN (by assumption) (by assumption) (by k_extra "m mems")))
set_option maxHeartbeats 8000000 in
theorem val_bool_ok (w : World) (base : Heap) (W : Wd w base) (objs : List (Addr × Obj)) (self node : Addr) (t1 t2 : Tok) (x : Bool) (sp : Int)
    (m4 : (node, tupO [.str (Str.ofString "bool") t1, .int sp t2, .bool x]) ∈ objs) :
    OfS w base 26 282 [.ref self, .ref node] objs (fun v => v = .bool x) (fun _ => False) := by
  intro outer Q E s B O hret hflt
  have hN := O.sub [(node, tupO [.str (Str.ofString "bool") t1, .int sp t2, .bool x])] (List.forall_mem_cons.mpr ⟨m4, List.forall_mem_nil _⟩)
  k_extra "m fill"
  w_strict (
    k_extra "m enterH"
    k_steps
    all_goals (try dsimp (config := {zetaDelta := true}) only)
    all_goals first
      | exact hret _ _ _ rfl (keepH hN (by assumption) (by assumption) (by k_extra "m mems")))

-- part Ev4
def IntO (o : Option Int) (v : Value) : Prop := ∃ r, o = some r ∧ ∃ t, v = .int r t
def two (sg : Nat) (oa : Option Int) (b spot spA : Int) : Option Int × Int := match oa with
  | none => (none, spA)
  | some a => (dueD sg a b, spot)
theorem OfS.useO {w : World} {base : Heap} {n : Nat} {f : Addr} {vs : List Value} {objs : List (Addr × Obj)} {o : Option Int} {flt : Int → Prop} (S : OfS w base n f vs objs (IntO o) flt)
    {A A₀ : Around} {env : Env} {outer : List Env} {h0 g : Heap} {s : Shared} {Q E : Value → Shared → Prop} {L : Addr} {m : Str → Option Value} {news : List (Addr × Obj)} {vs' : List Value}
    (hvs : vs' = vs) (hA : A.handled = none) (hfr : A.frames = some (env :: outer)) (hd : A.depth ≤ 900 - 6 * n) (hu : A.units ≤ 9000 - 99 * n)
    (O : Objs base outer h0 objs) (B : Below A₀ base outer g) (F : Fr g L s.heap m) (N : News g L s.heap news) (hL : h0.get? L = none) (K0 : ∀ b o, h0.get? b = some o → s.heap.get? b = some o) (hf : env.frame = some L) (hk : env.scope.kind = .function)
    (h : ∀ r t h' tk, o = some r → Fr g L h' m → News g L h' news → Q (.int r t) { s with heap := h', toks := tk })
    (hx : ∀ e dd sp h' tk, flt sp → RelS (FrOf outer) h0 h' → h'.FunFrames base (env :: outer) → FlT h0 h' e dd sp → h0.get? L = none → E (.ref e) { s with heap := h', toks := tk }) :
    wpAny (model PySem.Challenge.rw_nz0031_02.row.prog w) A (call (.ref f) vs') Q E s :=
  S.use hvs hA hfr hd hu O B F N hL K0 hf hk (fun v h' tk ov F' N' => by obtain ⟨r, e1, t, e2⟩ := ov; subst e2; exact h r t h' tk e1 F' N') hx
theorem OfS.useV {w : World} {base : Heap} {n : Nat} {f : Addr} {vs : List Value} {objs : List (Addr × Obj)} {rv : Value} (S : OfS w base n f vs objs (fun v => v = rv) (fun _ => False))
    {A A₀ : Around} {env : Env} {outer : List Env} {h0 g : Heap} {s : Shared} {Q E : Value → Shared → Prop} {L : Addr} {m : Str → Option Value} {news : List (Addr × Obj)} {vs' : List Value}
    (hvs : vs' = vs) (hA : A.handled = none) (hfr : A.frames = some (env :: outer)) (hd : A.depth ≤ 900 - 6 * n) (hu : A.units ≤ 9000 - 99 * n)
    (O : Objs base outer h0 objs) (B : Below A₀ base outer g) (F : Fr g L s.heap m) (N : News g L s.heap news) (hL : h0.get? L = none) (K0 : ∀ b o, h0.get? b = some o → s.heap.get? b = some o) (hf : env.frame = some L) (hk : env.scope.kind = .function)
    (h : ∀ h' tk, Fr g L h' m → News g L h' news → Q rv { s with heap := h', toks := tk }) :
    wpAny (model PySem.Challenge.rw_nz0031_02.row.prog w) A (call (.ref f) vs') Q E s :=
  S.use hvs hA hfr hd hu O B F N hL K0 hf hk (fun v h' tk ov F' N' => by subst ov; exact h h' tk F' N') (fun _ _ _ _ _ f _ _ _ _ => f.elim)
theorem keepO {h0 h : Heap} {L : Addr} {m : Str → Option Value} {base : Heap} {outer : List Env} {hid news : List (Addr × Obj)} (hN : ∀ p ∈ hid, h0.get? p.1 = some p.2 ∧ base.get? p.1 = none ∧ p.1 ∉ outer.filterMap (·.frame))
    (F : Fr (hideAll h0 (hid.map (·.1))) L h m) (N : News (hideAll h0 (hid.map (·.1))) L h news) (hm : ∀ p ∈ hid, p ∈ news) : ∀ b o, h0.get? b = some o → h.get? b = some o := keep0 F N (fun p hp => (hN p hp).1) hm
theorem room_le {n : Nat} {outer : List Env} : (Ak n outer).depth < recursionLimit := Nat.lt_of_le_of_lt (Nat.sub_le 900 _) (Nat.le_of_ble_eq_true rfl)
theorem sg0 : sgS 0 = Str.ofString "+" := rfl
theorem sg1 : sgS 1 = Str.ofString "-" := rfl
theorem sg2 : sgS 2 = Str.ofString "*" := rfl
theorem sg3 : sgS 3 = Str.ofString "div" := rfl
theorem sg4 : sgS 4 = Str.ofString "mod" := rfl
theorem sg5 : sgS 5 = Str.ofString "^" := rfl
theorem reck_ok (w : World) (sg : Nat) (hs : sg < 6) (S : Str) (x y spot : Int) (tg tx ty ts : Tok) (h : Pre sg x y) (hS : S = sgS sg) :
    RaiseS w 24 245 [.str S tg, .int x tx, .int y ty, .int spot ts] (fun v => ∃ r, dueD sg x y = some r ∧ ∃ t, v = .int r t) (fun sp => dueD sg x y = none ∧ sp = spot) := by subst hS; exact reckoned_ok w sg hs x y spot tg tx ty ts h
theorem two_ret {sg : Nat} {oa : Option Int} {x y spot spA : Int} {v : Value} (e : oa = some x) (c : ∃ r, dueD sg x y = some r ∧ ∃ t, v = .int r t) : IntO (two sg oa y spot spA).1 v := by subst e; exact c
theorem two_flt1 {sg : Nat} {oa : Option Int} {y spot spA sp : Int} (c : oa = none ∧ sp = spA) : (two sg oa y spot spA).1 = none ∧ sp = (two sg oa y spot spA).2 := by obtain ⟨rfl, rfl⟩ := c; exact ⟨rfl, rfl⟩
theorem two_flt2 {sg : Nat} {oa : Option Int} {x y spot spA sp : Int} (e : oa = some x) (c : dueD sg x y = none ∧ sp = spot) : (two sg oa y spot spA).1 = none ∧ sp = (two sg oa y spot spA).2 := by subst e; exact c
theorem imp_pre {oa : Option Int} {sg : Nat} {x y : Int} (h : ∀ x, oa = some x → Pre sg x y) (e : oa = some x) : Pre sg x y := h x e
theorem self_none {h0 : Heap} {L : Addr} (e : L = h0.objs.size) : h0.get? L = none := Heap.get?_none_of_le (by rw [e]; exact Nat.le_refl _)
theorem in_sg {prog : Program} {w : World} {A : Around} {E : Value → Shared → Prop} {s : Shared} {t : Addr} {items : Array Value} {ys : List Str} {u : Tok} {Q : Value → Shared → Prop} {sg : Nat} (b : Bool) (hs : sg < 6) (ht : IsTup s.heap t items) (hi : StrsAre items.toList ys)
    (hb : ∀ k, k < 6 → (ys.any (· == sgS k)) = b) (h : Q (.bool b) s) : wpAny (model prog w) A (compareOp .In (.str (sgS sg) u) (.ref t)) Q E s :=
  in_tuple_strs ht hi (by rw [hb sg hs]; exact h)
theorem notin_sg {prog : Program} {w : World} {A : Around} {E : Value → Shared → Prop} {s : Shared} {t : Addr} {items : Array Value} {ys : List Str} {u : Tok} {Q : Value → Shared → Prop} {sg : Nat} (b : Bool) (hs : sg < 6) (ht : IsTup s.heap t items) (hi : StrsAre items.toList ys)
    (hb : ∀ k, k < 6 → (ys.any (· == sgS k)) = b) (h : Q (.bool (!b)) s) : wpAny (model prog w) A (compareOp .NotIn (.str (sgS sg) u) (.ref t)) Q E s :=
  notin_tuple_strs ht hi (by rw [hb sg hs]; exact h)
theorem eq_sg {prog : Program} {w : World} {A : Around} {E : Value → Shared → Prop} {s : Shared} {y : Str} {t u : Tok} {Q : Value → Shared → Prop} {sg : Nat} (hs : sg < 6)
    (hb : ∀ k, k < 6 → (sgS k == y) = false) (h : Q (.bool false) s) : wpAny (model prog w) A (compareOp .Eq (.str (sgS sg) t) (.str y u)) Q E s :=
  PyProof.Rows.eq_str (by rw [hb sg hs]; exact h)
theorem num_third (w : World) (rv : Value) (y spot : Int) (ts : Tok) (hrv : (∃ ty, rv = .int y ty) ∨ (∃ b : Bool, rv = .bool b ∧ y = if b then 1 else 0)) :
    RaiseS w 20 151 [rv, .int spot ts] (fun v => True ∧ ∃ t, v = .int y t) (fun sp => False ∧ sp = 0) := by
  rcases hrv with ⟨ty, rfl⟩ | ⟨b, rfl, rfl⟩
  · exact num_int_ok w y spot ty ts
  · exact num_bool_ok w b spot ts
theorem words_Ev4_33 : True := by
  k_with_none
  k_with "m fill" => ((w_on; (have hfill : ∀ w : World, (Kt w.params).length = (Kt w.params).length ∧ PySem.Challenge.rw_nz0031_02.foot = PySem.Challenge.rw_nz0031_02.foot := by (k_fill; exact fun _ => ⟨rfl, rfl⟩)); clear hfill))
  k_with "m enter" => ((
    (refine wpAny_call ?_);
    k_dflt (refine' enter ?kW ?kB [] ?k0 ?ho ?hcd ?hroom ?hbind ?hloc ?_ ?c1 ?c2 ?c3 ?c4);
    (case kW => assumption);
    (case kB => assumption);
    (case k0 => exact fun _ h => nomatch h);
    (case ho => k_is);
    (case hcd => k_is);
    (case hroom => first | exact Nat.le_of_ble_eq_true rfl | exact room_le);
    (case hbind => exact BindsTo.of_eq rfl);
    (case hloc => exact locs rfl);
    (case c1 => decide);
    (case c2 => exact rfl);
    (case c3 => exact rfl);
    (case c4 => exact rfl);
    intro L h₁ p loose mean mg mb F N Bl X T lt eL tk;
    (dsimp only [List.map, hideAll] at F N Bl X T);
    (try k_fold)))
  k_with "m use" => (((case hd => exact Nat.le_of_ble_eq_true rfl); (case hu => exact Nat.le_of_ble_eq_true rfl); (case W => k_asm); (case B => k_asm); (case F => k_asm); (case N => k_asm); k_whole))
  k_with "w leaving ref" => ((k_here; k_dflt (first
  | (refine' leave_new ?B ?F rfl rfl rfl ?fl ?_; (case fl => k_asm); (case F => k_asm); (case B => k_asm); intro h9 tk9 r9 ff9 fl9)
  | (refine' leave_own rfl rfl ?ff ?rel ?hL (.inr ?fl) ?_; (case fl => assumption); (case ff => assumption); (case rel => assumption); (case hL => assumption); intro h9 tk9 r9 ff9 fl9))))
  k_with "w exec Raise some none" => ((k_here; k_dflt (refine' raise_own rfl ?_)))
  k_with "w Exists" => ((k_dflt (refine' raise_end ?X ?F ?fl ?_; (case X => k_asm); (case F => k_asm); (case fl => k_asm))))
  k_with "m enterH" => ((
    (refine wpAny_call ?_);
    k_dflt (refine' enter ?kW ?kB _ ?k0 ?ho ?hcd ?hroom ?hbind ?hloc ?_ ?c1 ?c2 ?c3 ?c4);
    (case k0 => assumption);
    (case kW => assumption);
    (case kB => assumption);
    (case ho => k_is);
    (case hcd => k_is);
    (case hroom => first | exact Nat.le_of_ble_eq_true rfl | exact room_le);
    (case hbind => exact BindsTo.of_eq rfl);
    (case hloc => exact locs rfl);
    (case c1 => decide);
    (case c2 => exact rfl);
    (case c3 => exact rfl);
    (case c4 => exact rfl);
    intro L h₁ p loose mean mg mb F N Bl X T lt eL tk;
    (dsimp only [List.map] at F N Bl X T);
    (try k_fold)))
  k_with "w subscriptTail Name Constant ref int" => ((k_here; (with_reducible show wpAny _ _ (subscriptTail _ _ (Value.ref _) (Value.int _ _)) _ _ _); k_dflt (refine' item_tupleT ?t ?a ?b ?c ?d ?_; (case t => exact News.isTup (by k_asm) (by k_mem)); (case a => decide); (case b => decide); (case c => rfl); (case d => rfl); k_whole)))
  k_with "w subscriptTail Attribute Name Subscript ref str" => ((k_here; (with_reducible show wpAny _ _ (subscriptTail _ _ (Value.ref _) (Value.str _ _)) _ _ _); k_dflt (refine' item_strTab ?T ?hl ?_; (case T => k_tabat); (case hl => rfl); k_whole); intro v' hv'; cases hv'))
  k_with "m mems" => ((repeat (first | exact List.forall_mem_nil _ | refine List.forall_mem_cons.mpr ⟨by k_mem, ?_⟩)))
  k_with "w eval Call" => ((k_here; k_dflt (refine Call_ ?_)))
  k_with "m use2" => (((case hd => first | exact Nat.le_of_ble_eq_true rfl | (dsimp only [Around.deeper]; omega)); (case hu => first | exact Nat.le_of_ble_eq_true rfl | (dsimp only [Around.deeper]; omega)); (case W => k_asm); (case B => k_asm); (case F => k_asm); (case N => k_asm); k_whole))
  k_with "m useO" => (((case hd => first | exact Nat.le_of_ble_eq_true rfl | (dsimp only [Around.deeper]; omega)); (case hu => first | exact Nat.le_of_ble_eq_true rfl | (dsimp only [Around.deeper]; omega)); (case O => assumption); (case B => k_asm); (case F => k_asm); (case N => k_asm); (case hL => exact self_none (by assumption)); (case K0 => exact keepO (by assumption) (by assumption) (by assumption) (by k_extra "m mems")); k_whole))
  k_with "w call ref" => ((k_here; k_dflt (first
  | (refine' RaiseS.useI (num_int_ok _ _ _ _ _) rfl rfl rfl ?hd ?hu ?W ?B ?F ?N rfl rfl (fun t' h' tk' c' F' N' => ?_) (fun e' dd' h' tk' c' r' n' ff' fl' z' => c'.elim); k_extra "m use2")
  | (refine' RaiseS.useI (num_third _ _ _ _ _ ?hv) rfl rfl rfl ?hd ?hu ?W ?B ?F ?N rfl rfl (fun t' h' tk' c' F' N' => ?_) (fun e' dd' h' tk' c' r' n' ff' fl' z' => c'.elim); (case hv => assumption); k_extra "m use2")
  | (refine' OfS.useO ?S rfl rfl rfl ?hd ?hu ?O ?B ?F ?N ?hL ?K0 rfl rfl (fun r' t' h' tk' c' F' N' => ?_) (fun e' dd' sp' h' tk' c' r' ff' fl' z' => ?_); (case S => assumption); k_extra "m useO")
  | (refine' OfS.useV ?S rfl rfl rfl ?hd ?hu ?O ?B ?F ?N ?hL ?K0 rfl rfl (fun h' tk' F' N' => ?_); (case S => assumption); k_extra "m useO")
  | (refine' OfS.use (RaiseS.of (reckoned_ok _ _ ?h6 _ _ _ _ _ _ _ ?hp) ?W) rfl rfl rfl ?hd ?hu ?O ?B ?F ?N ?hL ?K0 rfl rfl (fun v' h' tk' c' F' N' => ?_) (fun e' dd' sp' h' tk' c' r' ff' fl' z' => ?_); (case W => k_asm); (case h6 => assumption); (case hp => exact imp_pre (by assumption) (by assumption)); k_extra "m useO"))))
  k_with "w compareOp In str ref" => ((k_here; k_dflt (refine' in_sg false ?hs ?k1 ?k2 ?hb ?_; (case hs => assumption); (case k1 => exact News.isTup (by k_asm) (by k_mem)); (case k2 => kde_strs); (case hb => decide +kernel); k_whole)))
  k_with "w compareOp NotIn str ref" => ((k_here; k_dflt (refine' notin_sg true ?hs ?k1 ?k2 ?hb ?_; (case hs => assumption); (case k1 => exact News.isTup (by k_asm) (by k_mem)); (case k2 => kde_strs); (case hb => decide +kernel); k_whole)))
  k_with "w compareOp Eq str str" => ((k_here; k_dflt (refine' eq_sg ?hs ?hb ?_; (case hs => assumption); (case hb => decide +kernel); k_whole)))
  trivial
set_option maxHeartbeats 8000000 in
theorem of_two_ok (w : World) (base : Heap) (W : Wd w base) (objs : List (Addr × Obj)) (self sd dct left right : Addr) (ts tg t1 : Tok) (n : Nat) (hn : 26 ≤ n ∧ n ≤ 40) (sg : Nat) (hs : sg < 6) (oa : Option Int) (y spot spA : Int) (rv : Value)
    (hrv : (∃ ty, rv = .int y ty) ∨ (∃ b : Bool, rv = .bool b ∧ y = if b then 1 else 0))
    (m1 : (self, instObj 356 sd) ∈ objs) (m2 : (sd, sdO w dct ts) ∈ objs)
    (hl : OfS w base n 282 [.ref self, .ref left] objs (IntO oa) (fun sp => oa = none ∧ sp = spA))
    (hr : OfS w base 26 282 [.ref self, .ref right] objs (fun v => v = rv) (fun _ => False))
    (hpre : ∀ x, oa = some x → Pre sg x y) :
    OfS w base (n + 2) 313 [.ref self, .str (sgS sg) tg, .ref left, .ref right, .int spot t1] objs (IntO (two sg oa y spot spA).1) (fun sp => (two sg oa y spot spA).1 = none ∧ sp = (two sg oa y spot spA).2) := by
  intro outer Q E s B O hret hflt
  have hN := O.sub [(self, instObj 356 sd), (sd, sdO w dct ts)] (List.forall_mem_cons.mpr ⟨m1, List.forall_mem_cons.mpr ⟨m2, List.forall_mem_nil _⟩⟩)
  all_goals (
    k_extra "m fill"
    w_strict (
      k_extra "m enterH"
      k_steps
      all_goals (try dsimp (config := {zetaDelta := true}) only)
      all_goals first
        | exact hret _ _ _ (two_ret (by assumption) (by assumption)) (keepH hN (by assumption) (by assumption) (by k_extra "m mems"))
        | exact hflt _ _ _ _ _ (two_flt1 (by assumption)) (by assumption) (by assumption) (by assumption)
        | exact hflt _ _ _ _ _ (two_flt2 (by assumption) (by assumption)) (by assumption) (by assumption) (by assumption)))

-- part Ev5
theorem neg900 {oa : Option Int} {r : Int} (h : ∀ r, oa = some r → r.natAbs < 10 ^ 900) (e : oa = some r) : (-r).natAbs < 10 ^ 900 := by rw [Int.natAbs_neg]; exact h r e
theorem neg_ret {oa : Option Int} {r : Int} {t : Tok} (e : oa = some r) : IntO (oa.map (fun r => -r)) (.int (-r) t) := by subst e; exact ⟨-r, rfl, t, rfl⟩
theorem words_Ev5_34 : True := by
  k_with_none
  k_with "m fill" => ((w_on; (have hfill : ∀ w : World, (Kt w.params).length = (Kt w.params).length ∧ PySem.Challenge.rw_nz0031_02.foot = PySem.Challenge.rw_nz0031_02.foot := by (k_fill; exact fun _ => ⟨rfl, rfl⟩)); clear hfill))
  k_with "m enter" => ((
    (refine wpAny_call ?_);
    k_dflt (refine' enter ?kW ?kB [] ?k0 ?ho ?hcd ?hroom ?hbind ?hloc ?_ ?c1 ?c2 ?c3 ?c4);
    (case kW => assumption);
    (case kB => assumption);
    (case k0 => exact fun _ h => nomatch h);
    (case ho => k_is);
    (case hcd => k_is);
    (case hroom => first | exact Nat.le_of_ble_eq_true rfl | exact room_le);
    (case hbind => exact BindsTo.of_eq rfl);
    (case hloc => exact locs rfl);
    (case c1 => decide);
    (case c2 => exact rfl);
    (case c3 => exact rfl);
    (case c4 => exact rfl);
    intro L h₁ p loose mean mg mb F N Bl X T lt eL tk;
    (dsimp only [List.map, hideAll] at F N Bl X T);
    (try k_fold)))
  k_with "m use" => (((case hd => exact Nat.le_of_ble_eq_true rfl); (case hu => exact Nat.le_of_ble_eq_true rfl); (case W => k_asm); (case B => k_asm); (case F => k_asm); (case N => k_asm); k_whole))
  k_with "w leaving ref" => ((k_here; k_dflt (first
  | (refine' leave_new ?B ?F rfl rfl rfl ?fl ?_; (case fl => k_asm); (case F => k_asm); (case B => k_asm); intro h9 tk9 r9 ff9 fl9)
  | (refine' leave_own rfl rfl ?ff ?rel ?hL (.inr ?fl) ?_; (case fl => assumption); (case ff => assumption); (case rel => assumption); (case hL => assumption); intro h9 tk9 r9 ff9 fl9))))
  k_with "w exec Raise some none" => ((k_here; k_dflt (refine' raise_own rfl ?_)))
  k_with "w Exists" => ((k_dflt (refine' raise_end ?X ?F ?fl ?_; (case X => k_asm); (case F => k_asm); (case fl => k_asm))))
  k_with "m enterH" => ((
    (refine wpAny_call ?_);
    k_dflt (refine' enter ?kW ?kB _ ?k0 ?ho ?hcd ?hroom ?hbind ?hloc ?_ ?c1 ?c2 ?c3 ?c4);
    (case k0 => assumption);
    (case kW => assumption);
    (case kB => assumption);
    (case ho => k_is);
    (case hcd => k_is);
    (case hroom => first | exact Nat.le_of_ble_eq_true rfl | exact room_le);
    (case hbind => exact BindsTo.of_eq rfl);
    (case hloc => exact locs rfl);
    (case c1 => decide);
    (case c2 => exact rfl);
    (case c3 => exact rfl);
    (case c4 => exact rfl);
    intro L h₁ p loose mean mg mb F N Bl X T lt eL tk;
    (dsimp only [List.map] at F N Bl X T);
    (try k_fold)))
  k_with "w subscriptTail Name Constant ref int" => ((k_here; (with_reducible show wpAny _ _ (subscriptTail _ _ (Value.ref _) (Value.int _ _)) _ _ _); k_dflt (refine' item_tupleT ?t ?a ?b ?c ?d ?_; (case t => exact News.isTup (by k_asm) (by k_mem)); (case a => decide); (case b => decide); (case c => rfl); (case d => rfl); k_whole)))
  k_with "w subscriptTail Attribute Name Subscript ref str" => ((k_here; (with_reducible show wpAny _ _ (subscriptTail _ _ (Value.ref _) (Value.str _ _)) _ _ _); k_dflt (refine' item_strTab ?T ?hl ?_; (case T => k_tabat); (case hl => rfl); k_whole); intro v' hv'; cases hv'))
  k_with "m mems" => ((repeat (first | exact List.forall_mem_nil _ | refine List.forall_mem_cons.mpr ⟨by k_mem, ?_⟩)))
  k_with "w eval Call" => ((k_here; k_dflt (refine Call_ ?_)))
  k_with "m use2" => (((case hd => first | exact Nat.le_of_ble_eq_true rfl | (dsimp only [Around.deeper]; omega)); (case hu => first | exact Nat.le_of_ble_eq_true rfl | (dsimp only [Around.deeper]; omega)); (case W => k_asm); (case B => k_asm); (case F => k_asm); (case N => k_asm); k_whole))
  k_with "m useO" => (((case hd => first | exact Nat.le_of_ble_eq_true rfl | (dsimp only [Around.deeper]; omega)); (case hu => first | exact Nat.le_of_ble_eq_true rfl | (dsimp only [Around.deeper]; omega)); (case O => assumption); (case B => k_asm); (case F => k_asm); (case N => k_asm); (case hL => exact self_none (by assumption)); (case K0 => exact keepO (by assumption) (by assumption) (by assumption) (by k_extra "m mems")); k_whole))
  k_with "w call ref" => ((k_here; k_dflt (first
  | (refine' RaiseS.useI (num_int_ok _ _ _ _ _) rfl rfl rfl ?hd ?hu ?W ?B ?F ?N rfl rfl (fun t' h' tk' c' F' N' => ?_) (fun e' dd' h' tk' c' r' n' ff' fl' z' => c'.elim); k_extra "m use2")
  | (refine' RaiseS.useI (num_bool_ok _ _ _ _) rfl rfl rfl ?hd ?hu ?W ?B ?F ?N rfl rfl (fun t' h' tk' c' F' N' => ?_) (fun e' dd' h' tk' c' r' n' ff' fl' z' => c'.elim); k_extra "m use2")
  | (refine' OfS.useO ?S rfl rfl rfl ?hd ?hu ?O ?B ?F ?N ?hL ?K0 rfl rfl (fun r' t' h' tk' c' F' N' => ?_) (fun e' dd' sp' h' tk' c' r' ff' fl' z' => ?_); (case S => assumption); k_extra "m useO")
  | (refine' RaiseS.useI (within_ok _ _ _ ?hx) rfl rfl rfl ?hd ?hu ?W ?B ?F ?N rfl rfl (fun t' h' tk' c' F' N' => ?_) (fun e' dd' h' tk' c' r' n' ff' fl' z' => c'.elim); (case hx => exact neg900 (by assumption) (by assumption)); k_extra "m use2")
  | (refine' OfS.use ?S rfl rfl rfl ?hd ?hu ?O ?B ?F ?N ?hL ?K0 rfl rfl (fun v' h' tk' c' F' N' => ?_) (fun e' dd' sp' h' tk' c' r' ff' fl' z' => ?_); (case S => assumption); k_extra "m useO")
  | (refine' OfS.useV ?S rfl rfl rfl ?hd ?hu ?O ?B ?F ?N ?hL ?K0 rfl rfl (fun h' tk' F' N' => ?_); (case S => assumption); k_extra "m useO")
  | (refine' OfS.use (RaiseS.of (reck_ok _ _ ?h6 _ _ _ _ _ _ _ _ ?hp ?hS) ?W) rfl rfl rfl ?hd ?hu ?O ?B ?F ?N ?hL ?K0 rfl rfl (fun v' h' tk' c' F' N' => ?_) (fun e' dd' sp' h' tk' c' r' ff' fl' z' => ?_); (case W => k_asm); (case hp => exact imp_pre (by assumption) (by assumption)); (case h6 => decide); (case hS => rfl); k_extra "m useO"))))
  trivial
set_option maxHeartbeats 8000000 in
theorem val_bin_ok (w : World) (base : Heap) (W : Wd w base) (objs : List (Addr × Obj)) (self sd dct left right node : Addr) (ts tg t0 t1 : Tok) (n : Nat) (hn : 26 ≤ n ∧ n ≤ 50) (S : Str) (spot : Int) (okV : Value → Prop) (flt : Int → Prop)
    (m1 : (self, instObj 356 sd) ∈ objs) (m2 : (sd, sdO w dct ts) ∈ objs) (m3 : (node, tupO [.str (Str.ofString "bin") t0, .int spot t1, .str S tg, .ref left, .ref right]) ∈ objs)
    (hof : OfS w base n 313 [.ref self, .str S tg, .ref left, .ref right, .int spot t1] objs okV flt) :
    OfS w base (n + 2) 282 [.ref self, .ref node] objs okV flt := by
  intro outer Q E s B O hret hflt
  have hN := O.sub [(self, instObj 356 sd), (sd, sdO w dct ts), (node, tupO [.str (Str.ofString "bin") t0, .int spot t1, .str S tg, .ref left, .ref right])] (List.forall_mem_cons.mpr ⟨m1, List.forall_mem_cons.mpr ⟨m2, List.forall_mem_cons.mpr ⟨m3, List.forall_mem_nil _⟩⟩⟩)
  k_extra "m fill"
  w_strict (
    k_extra "m enterH"
    k_steps
    all_goals (try dsimp (config := {zetaDelta := true}) only)
    all_goals first
      | exact hret _ _ _ (by assumption) (keepH hN (by assumption) (by assumption) (by k_extra "m mems"))
      | exact hflt _ _ _ _ _ (by assumption) (by assumption) (by assumption) (by assumption))
set_option maxHeartbeats 8000000 in
theorem of_one_ok (w : World) (base : Heap) (W : Wd w base) (objs : List (Addr × Obj)) (self sd dct node : Addr) (ts tg t1 : Tok) (n : Nat) (hn : 26 ≤ n ∧ n ≤ 50) (spot : Int) (oa : Option Int) (flt : Int → Prop)
    (m1 : (self, instObj 356 sd) ∈ objs) (m2 : (sd, sdO w dct ts) ∈ objs)
    (hl : OfS w base n 282 [.ref self, .ref node] objs (IntO oa) flt)
    (hb : ∀ r, oa = some r → r.natAbs < 10 ^ 900) :
    OfS w base (n + 2) 306 [.ref self, .str (Str.ofString "-") tg, .ref node, .int spot t1] objs (IntO (oa.map fun r => -r)) flt := by
  intro outer Q E s B O hret hflt
  have hN := O.sub [(self, instObj 356 sd), (sd, sdO w dct ts)] (List.forall_mem_cons.mpr ⟨m1, List.forall_mem_cons.mpr ⟨m2, List.forall_mem_nil _⟩⟩)
  k_extra "m fill"
  w_strict (
    k_extra "m enterH"
    k_steps
    all_goals (try dsimp (config := {zetaDelta := true}) only)
    all_goals first
      | exact hret _ _ _ (neg_ret (by assumption)) (keepH hN (by assumption) (by assumption) (by k_extra "m mems"))
      | exact hflt _ _ _ _ _ (by assumption) (by assumption) (by assumption) (by assumption))
set_option maxHeartbeats 8000000 in
theorem val_un_ok (w : World) (base : Heap) (W : Wd w base) (objs : List (Addr × Obj)) (self sd dct left node : Addr) (ts tg t0 t1 : Tok) (n : Nat) (hn : 26 ≤ n ∧ n ≤ 50) (S : Str) (spot : Int) (okV : Value → Prop) (flt : Int → Prop)
    (m1 : (self, instObj 356 sd) ∈ objs) (m2 : (sd, sdO w dct ts) ∈ objs) (m3 : (node, tupO [.str (Str.ofString "un") t0, .int spot t1, .str S tg, .ref left]) ∈ objs)
    (hof : OfS w base n 306 [.ref self, .str S tg, .ref left, .int spot t1] objs okV flt) :
    OfS w base (n + 2) 282 [.ref self, .ref node] objs okV flt := by
  intro outer Q E s B O hret hflt
  have hN := O.sub [(self, instObj 356 sd), (sd, sdO w dct ts), (node, tupO [.str (Str.ofString "un") t0, .int spot t1, .str S tg, .ref left])] (List.forall_mem_cons.mpr ⟨m1, List.forall_mem_cons.mpr ⟨m2, List.forall_mem_cons.mpr ⟨m3, List.forall_mem_nil _⟩⟩⟩)
  k_extra "m fill"
  w_strict (
    k_extra "m enterH"
    k_steps
    all_goals (try dsimp (config := {zetaDelta := true}) only)
    all_goals first
      | exact hret _ _ _ (by assumption) (keepH hN (by assumption) (by assumption) (by k_extra "m mems"))
      | exact hflt _ _ _ _ _ (by assumption) (by assumption) (by assumption) (by assumption))

-- part NR1
theorem words_NR1_35 : True := by
  k_with_none
  trivial
section
variable {w : World} {n : Nat} {outer : List Env} {base : Heap} {s : Shared} {R : Result → Shared → Prop} {f : Addr} {args : Args} {binds : List (Str × Value)}
  {name qual : Str} {params : Arguments} {body : List Stmt} {scope : Scope} {dV kV doc pm cdv ct oc : Value} {an od : Option Addr} {osl : Array (Option Value)}
theorem hid_ground (W : Wd w base) (B : Below (Ak n outer) base outer s.heap) (hid : List (Addr × Obj))
    (hN : ∀ p ∈ hid, s.heap.get? p.1 = some p.2 ∧ base.get? p.1 = none ∧ p.1 ∉ outer.filterMap (·.frame)) :
    base.StaysIn (hideAll s.heap (hid.map (·.1))) ∧ Below (Ak n outer) base outer (hideAll s.heap (hid.map (·.1))) := by
  have hb : base.StaysIn (hideAll s.heap (hid.map (·.1))) := fun b o e => hideAll_get _ (B.stays b o e) fun hm => by
    obtain ⟨q, hq, rfl⟩ := List.mem_map.mp hm
    rw [(hN q hq).2.1] at e; cases e
  refine ⟨hb, rfl, hb, funFrames_hideAll B.frames fun env he a ha hf => ?_⟩
  obtain ⟨q, hq, rfl⟩ := List.mem_map.mp ha
  exact (hN q hq).2.2 (List.mem_filterMap.mpr ⟨env, he, hf⟩)
/-- a def with cells is entered -/
theorem enterC (W : Wd w base) (B : Below (Ak n outer) base outer s.heap) (hid : List (Addr × Obj))
    (hN : ∀ p ∈ hid, s.heap.get? p.1 = some p.2 ∧ base.get? p.1 = none ∧ p.1 ∉ outer.filterMap (·.frame))
    (ho : (Kt w.params).lookup f = some ⟨oc, od, .func (fnX name qual params body scope [] dV kV doc pm an cdv ct), osl⟩) (hcd : codeIn (Kt w.params) cdv qual = true)
    (hroom : (Ak n outer).depth < recursionLimit)
    (hbind : BindsTo s (fnX name qual params body scope [] dV kV doc pm an cdv ct) args binds)
    (hkind : ∀ n, ∀ x ∈ binds, scope.names.lookup x.1 = some .local ∨ (scope.names.lookup x.1 = some .cell ∧ ((cellsFrom n scope.names []).lookup x.1).isSome = true))
    (hnd : ((cellsFrom 0 scope.names []).map (·.1)).Nodup)
    (h : ∀ L h₁ p loose mean mg mb cells, Fr (hideAll s.heap (hid.map (·.1))) L h₁ (bindL (envOfC qual scope L f cdv).kindOf binds fun _ => none) → News (hideAll s.heap (hid.map (·.1))) L h₁ (cells ++ hid) →
      CellsAre (bindC (envOfC qual scope L f cdv).kindOf binds fun _ => none) (cellsFrom (L + 1) scope.names []) cells → Below (Ak n outer) base outer (hideAll s.heap (hid.map (·.1))) →
      (Kt w.params).In (hideAll s.heap (hid.map (·.1))) → Top p loose mean mg mb (hideAll s.heap (hid.map (·.1))) → AllLt L hid → L = s.heap.objs.size →
      ∀ tk : Nat, wpAny (model PySem.Challenge.rw_nz0031_02.row.prog w) ((Ak n outer).deeper (envOfC qual scope L f cdv)) (execs body (envOfC qual scope L f cdv))
        (fun fl s' => R (.ok (.ret (match fl with | .ret v => v | _ => .none))) s')
        (fun e s' => wpAny (model PySem.Challenge.rw_nz0031_02.row.prog w) ((Ak n outer).deeper (envOfC qual scope L f cdv)) (leaving (envOfC qual scope L f cdv) e) (fun _ s'' => R (.error e) s'') (fun e' s'' => R (.error e') s'') s')
        { s with heap := h₁, toks := tk })
    (hco : scope.isCoroutine = false) (hgen : scope.isGenerator = false) (hk : scope.kind = .function) :
    codeAny (model PySem.Challenge.rw_nz0031_02.row.prog w) (Ak n outer) (.call (.ref f) args) R s := by
  obtain ⟨hb, B'⟩ := hid_ground W B hid hN
  obtain ⟨WK, p, loose, mean, mg, mb, T⟩ := W
  have X₀ := WK.keeps B.stays
  have T₀ := T.keeps B.stays
  refine codeAny_call_function hroom (X₀ _ _ ho) rfl hco hgen rfl (codeRec_of X₀ hcd) (hbind _ _ _ _ ?_)
  refine wpAny_newFunctionEnv_cells hk (hkind _) fun env' he s' x => ?_
  subst he
  refine ⟨(T₀.nolimit).keeps x.toInCall.keep, codeAny_func ?_⟩
  obtain ⟨h₁, tk, rfl, _⟩ := x.done
  have hk₁ := x.toInCall.keep
  obtain ⟨cells, NC, Y⟩ := Cl.news (h₀ := s.heap) (Nat.le_refl _) fun n c hm => ⟨x.cell n c (lookup_of_mem_nodup (cellsFrom_names scope.names 0 (s.heap.objs.size + 1) [] [] rfl ▸ hnd) hm), x.above n c hm⟩
  refine h s.heap.objs.size h₁ p loose mean mg mb cells ⟨x.toInCall.ns, fun b o e => hk₁ b o (of_hideAll _ e), Nat.le_of_eq (hideAll_size _ _)⟩ (fun q hq => ?_) Y B' (WK.keeps hb) (T.keeps hb) (allLt_of fun q hq => Heap.lt_size (hN q hq).1) rfl tk
  rcases List.mem_append.mp hq with hq | hq
  · refine ⟨(NC q hq).1, (NC q hq).2.1, ?_⟩
    cases e : (hideAll s.heap (hid.map (·.1))).get? q.1 with
    | none => rfl
    | some o => have := of_hideAll _ e; rw [(NC q hq).2.2] at this; cases this
  · exact ⟨hk₁ _ _ (hN q hq).1, Nat.ne_of_lt (Heap.lt_size (hN q hq).1), hideAll_none _ (List.mem_map_of_mem hq)⟩
/-- a lambda of the text is entered -/
theorem enterE {bodyE : Expr} {cl : List (Str × Addr)} {c' : Addr} {ctv : Value} (W : Wd w base) (B : Below (Ak n outer) base outer s.heap) (hid : List (Addr × Obj))
    (hN : ∀ p ∈ hid, s.heap.get? p.1 = some p.2 ∧ base.get? p.1 = none ∧ p.1 ∉ outer.filterMap (·.frame))
    (ho : s.heap.get? f = some (kla_obj name qual params bodyE scope cl pm c' ctv)) (hcd : s.heap.CodeRec (.ref c') qual)
    (hroom : (Ak n outer).depth < recursionLimit)
    (hbind : bindArgs (kla_fn name qual params bodyE scope cl pm (.ref c') ctv) args = pure binds) (hloc : ∀ y ∈ binds, scope.names.lookup y.1 = some .local)
    (h : ∀ L h₁ p loose mean mg mb, Fr (hideAll s.heap (hid.map (·.1))) L h₁ (fun y => binds.reverse.lookup y) → News (hideAll s.heap (hid.map (·.1))) L h₁ hid → Below (Ak n outer) base outer (hideAll s.heap (hid.map (·.1))) →
      (Kt w.params).In (hideAll s.heap (hid.map (·.1))) → Top p loose mean mg mb (hideAll s.heap (hid.map (·.1))) → AllLt L hid → L = s.heap.objs.size →
      ∀ tk : Nat, wpAny (model PySem.Challenge.rw_nz0031_02.row.prog w) ((Ak n outer).deeper (envX qual scope L f (.ref c') cl)) (eval bodyE (envX qual scope L f (.ref c') cl))
        (fun v s' => R (.ok (.ret v)) s')
        (fun e s' => wpAny (model PySem.Challenge.rw_nz0031_02.row.prog w) ((Ak n outer).deeper (envX qual scope L f (.ref c') cl)) (leaving (envX qual scope L f (.ref c') cl) e) (fun _ s'' => R (.error e) s'') (fun e' s'' => R (.error e') s'') s')
        { s with heap := h₁, toks := tk })
    (hcell : ∀ x ∈ scope.names, x.2 ≠ .cell) (hco : scope.isCoroutine = false) (hgen : scope.isGenerator = false) (hk : scope.kind = .function) :
    codeAny (model PySem.Challenge.rw_nz0031_02.row.prog w) (Ak n outer) (.call (.ref f) args) R s := by
  obtain ⟨hb, B'⟩ := hid_ground W B hid hN
  obtain ⟨WK, p, loose, mean, mg, mb, T⟩ := W
  have T₀ := T.keeps B.stays
  refine kla_callFunE hroom ho rfl hco hgen rfl hcd ?_
  rw [hbind]
  refine wpAny_pure (wpAny_newFunctionEnv hcell hloc (fun h₁ hns hsb => ⟨(T₀.nolimit).fresh _ hsb, ?_⟩) hk)
  show codeAny _ _ (.expr bodyE (envX qual scope s.heap.objs.size f (.ref c') cl)) _ _
  have hk₁ : ∀ b o, s.heap.get? b = some o → h₁.get? b = some o := fun b o e => hsb.extBut b o (Nat.ne_of_lt (Heap.lt_size e)) (Heap.get?_push_of_some _ e)
  exact kla_codeExpr (h s.heap.objs.size h₁ p loose mean mg mb ⟨hns, fun b o e => hk₁ b o (of_hideAll _ e), Nat.le_of_eq (hideAll_size _ _)⟩
    (fun q hq => ⟨hk₁ _ _ (hN q hq).1, Nat.ne_of_lt (Heap.lt_size (hN q hq).1), hideAll_none _ (List.mem_map_of_mem hq)⟩)
    B' (WK.keeps hb) (T.keeps hb) (allLt_of fun q hq => Heap.lt_size (hN q hq).1) rfl _)
end

-- part NR2
theorem words_NR2_36 : True := by
  k_with_none
  trivial
theorem objs_of_news {A₀ : Around} {base g h : Heap} {outer : List Env} {L : Addr} {news objs : List (Addr × Obj)} {env : Env} (B : Below A₀ base outer g) (N : News g L h news) (hf : env.frame = some L) (hm : ∀ p ∈ objs, p ∈ news) : Objs base (env :: outer) h objs := by
  intro p hp
  have n := N p (hm p hp)
  refine ⟨n.1, ?_, fun hq => ?_⟩
  · cases q : base.get? p.1 with
    | none => rfl
    | some o => have := B.stays _ _ q; rw [n.2.2] at this; cases this
  · rw [List.filterMap_cons, hf] at hq
    rcases List.mem_cons.mp hq with e | hq
    · exact n.2.1 e
    · obtain ⟨_, ob, hob, _⟩ := B.frames.mem hq
      rw [n.2.2] at hob; cases hob
theorem heard_use {w : World} {okV : Value → Prop} {flt : Int → Prop} {c : Addr} {fd : FuncData} {cl : Value} {dct : Option Addr} {sl : Array (Option Value)}
    {A A₀ : Around} {env : Env} {outer : List Env} {base g : Heap} {s : Shared} {Q E : Value → Shared → Prop} {L : Addr} {m : Str → Option Value} {news : List (Addr × Obj)}
    (hA : A.handled = none) (hfr : A.frames = some (env :: outer)) (hd : A.depth ≤ 900 - 6 * 60) (hu : A.units ≤ 9000 - 99 * 60)
    (W : Wd w base) (B : Below A₀ base outer g) (F : Fr g L s.heap m) (N : News g L s.heap news) (hf : env.frame = some L) (hk : env.scope.kind = .function)
    (hc : (c, (⟨cl, dct, .func fd, sl⟩ : Obj)) ∈ news)
    (hcall : ∀ env' L', env'.frame = some L' → s.heap.get? L' = none → RaiseAt w (Ak 58 (env' :: env :: outer)) base (env' :: env :: outer) s.heap (call (.ref c) []) okV flt)
    (h : ∀ v h' tk, okV v → Fr g L h' m → News g L h' news → Q v { s with heap := h', toks := tk })
    (hx : ∀ tu t1 t2 sp g' h' tk, flt sp → RelS (FrOf outer) g g' → Fr g' L h' m → News g' L h' ((tu, tupO [.str (Str.ofString "fault") t1, .int sp t2]) :: news) → AllNe tu news → Below A₀ base outer g' → Q (.ref tu) { s with heap := h', toks := tk }) :
    wpAny (model PySem.Challenge.rw_nz0031_02.row.prog w) A (call (.ref 415) [.ref c]) Q E s := by
  have hB := below_at (n := 60) B F hf hk
  refine wpAny_ak hA hfr hd hu (heard_ok w _ base s Q E c fd cl dct sl okV flt W hB (N _ hc).1 hcall
    (fun v h' tk o k => h v h' tk o (fr_keep F k fun _ h => nomatch h) (fun p hp => ⟨k _ _ (N p hp).1 (fun h => nomatch h), (N p hp).2⟩))
    fun tu h' tk sp o r ff hn ht => ?_)
  obtain ⟨t1, t2, ht⟩ := ht
  obtain ⟨g', rg, T, F', B'⟩ := reground B (relS_ns F.ns r) F.above (relS_call F hf r)
  have hL : tu ≠ L := by
    obtain ⟨o, _, _, e, _⟩ := F.ns
    rintro rfl
    rw [hn] at e; cases e
  refine hx tu t1 t2 sp g' h' tk o rg F' (fun p hp => ?_) (allNe_of hn N) B'
  rcases List.mem_cons.mp hp with rfl | hp
  · exact ⟨ht, hL, T.none_ _ (kts_none F.keep hn)⟩
  · have n := N p hp
    refine ⟨r.keep _ _ n.1 fun hm => ?_, n.2.1, T.none_ _ n.2.2⟩
    have hLo : FrOf (env :: outer) = L :: FrOf outer := by unfold FrOf; rw [List.filterMap_cons, hf]
    rw [hLo] at hm
    rcases List.mem_cons.mp hm with z | z
    · exact n.2.1 z
    · obtain ⟨_, ob, hob, _⟩ := B.frames.mem z
      rw [n.2.2] at hob; cases hob
def ThirdV (rv : Value) (y : Int) : Prop := (∃ ty, rv = .int y ty) ∨ (∃ b : Bool, rv = .bool b ∧ y = if b then 1 else 0)
section
variable {prog : Program} {w : World} {A : Around} {E : Value → Shared → Prop} {s : Shared} {Q : Value → Shared → Prop} {value slice : Expr} {t : Addr} {u : Tok}
theorem item_sg6 {i : Int} {t0 t1 t2 t3 t4 t5 : Tok} (ht : IsTup s.heap t [Value.str (Str.ofString "+") t0, .str (Str.ofString "-") t1, .str (Str.ofString "*") t2, .str (Str.ofString "div") t3, .str (Str.ofString "mod") t4, .str (Str.ofString "^") t5].toArray)
    (h0 : 0 ≤ i) (h1 : i ≤ 5) (h : ∀ t', Q (.str (sgS i.toNat) t') s)
    (hs : ∀ k u, subscripted slice false (.ref t) (.int k u) = operate [.ref t, .int k u] (getItem (.ref t) (.int k u)) := by intro _ _; with_unfolding_all rfl) :
    wpAny (model prog w) A (subscriptTail value slice (.ref t) (.int i u)) Q E s := by
  have h6 : i = 0 ∨ i = 1 ∨ i = 2 ∨ i = 3 ∨ i = 4 ∨ i = 5 := by omega
  rcases h6 with rfl | rfl | rfl | rfl | rfl | rfl <;> exact item_tupleT ht (by decide) (by decide) rfl rfl (h _) (hs _ _)
theorem item_sg5 {i : Int} {t0 t1 t2 t3 t4 : Tok} (ht : IsTup s.heap t [Value.str (Str.ofString "+") t0, .str (Str.ofString "-") t1, .str (Str.ofString "*") t2, .str (Str.ofString "div") t3, .str (Str.ofString "mod") t4].toArray)
    (h0 : 0 ≤ i) (h1 : i ≤ 4) (h : ∀ t', Q (.str (sgS i.toNat) t') s)
    (hs : ∀ k u, subscripted slice false (.ref t) (.int k u) = operate [.ref t, .int k u] (getItem (.ref t) (.int k u)) := by intro _ _; with_unfolding_all rfl) :
    wpAny (model prog w) A (subscriptTail value slice (.ref t) (.int i u)) Q E s := by
  have h6 : i = 0 ∨ i = 1 ∨ i = 2 ∨ i = 3 ∨ i = 4 := by omega
  rcases h6 with rfl | rfl | rfl | rfl | rfl <;> exact item_tupleT ht (by decide) (by decide) rfl rfl (h _) (hs _ _)
theorem item_third {i z : Int} {t0 t1 t2 : Tok} (ht : IsTup s.heap t [Value.int z t0, .int 0 t1, .int 1 t2, .bool true, .bool false].toArray)
    (h0 : 0 ≤ i) (h1 : i ≤ 4) (hz : -(10 ^ 24 + 1) ≤ z ∧ z ≤ 10 ^ 24 + 1) (h : ∀ rv y, ThirdV rv y → y.natAbs ≤ 10 ^ 24 + 1 → Q rv s)
    (hs : ∀ k u, subscripted slice false (.ref t) (.int k u) = operate [.ref t, .int k u] (getItem (.ref t) (.int k u)) := by intro _ _; with_unfolding_all rfl) :
    wpAny (model prog w) A (subscriptTail value slice (.ref t) (.int i u)) Q E s := by
  have h6 : i = 0 ∨ i = 1 ∨ i = 2 ∨ i = 3 ∨ i = 4 := by omega
  have e24 : (10 : Int) ^ 24 = 1000000000000000000000000 := by decide
  rw [e24] at hz
  have h24 : (10 : Nat) ^ 24 = 1000000000000000000000000 := by decide
  rcases h6 with rfl | rfl | rfl | rfl | rfl
  · exact item_tupleT ht (by decide) (by decide) rfl rfl (h _ z (.inl ⟨_, rfl⟩) (by rw [h24]; omega)) (hs _ _)
  · exact item_tupleT ht (by decide) (by decide) rfl rfl (h _ 0 (.inl ⟨_, rfl⟩) (by rw [h24]; omega)) (hs _ _)
  · exact item_tupleT ht (by decide) (by decide) rfl rfl (h _ 1 (.inl ⟨_, rfl⟩) (by rw [h24]; omega)) (hs _ _)
  · exact item_tupleT ht (by decide) (by decide) rfl rfl (h _ 1 (.inr ⟨true, rfl, rfl⟩) (by rw [h24]; omega)) (hs _ _)
  · exact item_tupleT ht (by decide) (by decide) rfl rfl (h _ 0 (.inr ⟨false, rfl, rfl⟩) (by rw [h24]; omega)) (hs _ _)
end

-- part Wh
theorem words_Wh_37 : True := by
  k_with_none
  trivial
theorem OfS.imp {w : World} {base : Heap} {n : Nat} {f : Addr} {vs : List Value} {objs : List (Addr × Obj)} {okV okV' : Value → Prop} {flt flt' : Int → Prop} (S : OfS w base n f vs objs okV flt) (h1 : ∀ v, okV v → okV' v) (h2 : ∀ sp, flt sp → flt' sp) : OfS w base n f vs objs okV' flt' :=
  fun outer Q E s B O hn hf => S outer Q E s B O (fun v h' tk o k => hn v h' tk (h1 v o) k) fun e dd sp h' tk o r ff fl => hf e dd sp h' tk (h2 sp o) r ff fl
theorem whole_ok (w : World) (base : Heap) (W : Wd w base) (objs : List (Addr × Obj)) (self sd dct whole bin inner nName nInt last : Addr) (oD : Obj)
    (ts t0 t1 t2 t3 t4 t5 t6 t7 t8 t9 u0 u1 u2 u3 u4 u5 : Tok) (sg late : Nat) (hs : sg < 6) (hl : late < 6) (a b y : Int) (ta tb : Tok) (rv : Value) (hrv : (∃ ty, rv = .int y ty) ∨ (∃ b : Bool, rv = .bool b ∧ y = if b then 1 else 0))
    (hD : Obj.IsDictOf (strKind PySem.Challenge.rw_nz0031_02.row.prog w) oD [(Str.ofString "a", Value.int a ta)]) (hS : (dct == sysModules) = false)
    (m1 : (self, instObj 356 sd) ∈ objs) (m2 : (sd, sdO w dct ts) ∈ objs) (m3 : (dct, oD) ∈ objs)
    (m4 : (whole, tupO [.str (Str.ofString "un") t0, .int 5 t1, .str (Str.ofString "-") t2, .ref bin]) ∈ objs)
    (m5 : (bin, tupO [.str (Str.ofString "bin") t3, .int 3 t4, .str (sgS late) t5, .ref inner, .ref last]) ∈ objs)
    (m6 : (inner, tupO [.str (Str.ofString "bin") t6, .int 8 t7, .str (sgS sg) t8, .ref nName, .ref nInt]) ∈ objs)
    (m7 : (nName, tupO [.str (Str.ofString "name") u0, .int 1 u1, .str (Str.ofString "a") u2]) ∈ objs)
    (m8 : (nInt, tupO [.str (Str.ofString "int") u3, .int 2 u4, .int b tb]) ∈ objs)
    (hr : OfS w base 26 282 [.ref self, .ref last] objs (fun v => v = rv) (fun _ => False))
    (hp1 : Pre sg a b) (hp2 : ∀ r, dueD sg a b = some r → Pre late r y) (hb : ∀ r, (two late (dueD sg a b) y 3 8).1 = some r → r.natAbs < 10 ^ 900) :
    OfS w base 38 282 [.ref self, .ref whole] objs (IntO ((two late (dueD sg a b) y 3 8).1.map fun r => -r)) (fun sp => (two late (dueD sg a b) y 3 8).1 = none ∧ sp = (two late (dueD sg a b) y 3 8).2) := by
  have e1 : OfS w base 26 282 [.ref self, .ref nName] objs (IntO (some a)) (fun sp => (some a : Option Int) = none ∧ sp = 0) :=
    (val_name_ok w base W objs self sd dct nName oD ts u0 u1 u2 a 1 ta hD hS m1 m2 m3 m7).imp (fun v h => ⟨a, rfl, h.2⟩) (fun _ h => h.1.elim)
  have e2 : OfS w base 26 282 [.ref self, .ref nInt] objs (fun v => v = .int b tb) (fun _ => False) := val_int_ok w base W objs self nInt u3 u4 b 2 tb m8
  have e3 := of_two_ok w base W objs self sd dct nName nInt ts t8 t7 26 (by omega) sg hs (some a) b 8 0 (.int b tb) (.inl ⟨tb, rfl⟩) m1 m2 e1 e2 (fun x hx => by cases hx; exact hp1)
  have e4 := val_bin_ok w base W objs self sd dct nName nInt inner ts t8 t6 t7 28 (by omega) (sgS sg) 8 _ _ m1 m2 m6 e3
  have e5 := of_two_ok w base W objs self sd dct inner last ts t5 t4 30 (by omega) late hl (dueD sg a b) y 3 8 rv hrv m1 m2 e4 hr hp2
  have e6 := val_bin_ok w base W objs self sd dct inner last bin ts t5 t3 t4 32 (by omega) (sgS late) 3 _ _ m1 m2 m5 e5
  have e7 := of_one_ok w base W objs self sd dct bin ts t2 t1 34 (by omega) 5 _ _ m1 m2 e6 hb
  exact val_un_ok w base W objs self sd dct bin whole ts t2 t0 t1 36 (by omega) (Str.ofString "-") 5 _ _ m1 m2 m4 e7

-- part Sm
theorem words_Sm_38 : True := by
  k_with_none
  trivial
def Pre2 (sg : Nat) (a b : Int) : Prop := a.natAbs ≤ 10 ^ 24 + 1 ∧ b.natAbs ≤ 10 ^ 24 + 1 ∧ (sg = 5 → (a.natAbs ≤ 11 ∧ b.natAbs ≤ 11) ∨ a.natAbs ≤ 1)
theorem pre_of {sg : Nat} {a b : Int} (h : Pre2 sg a b) : Pre sg a b := by
  have e : (10 : Nat) ^ 24 + 1 < 10 ^ 30 := by decide
  have e2 : (10 : Nat) ^ 30 < 10 ^ 60 := by decide
  refine ⟨by have := h.1; omega, by have := h.2.1; omega, fun hs => ?_⟩
  rcases h.2.2 hs with x | x
  · exact .inl x
  · exact .inr ⟨x, by have := h.2.1; omega⟩
theorem due_lt {sg : Nat} {a b : Int} {B C : Nat} (h5 : sg ≠ 5) (hs : sg < 6) (ha : a.natAbs ≤ B) (hb : b.natAbs ≤ B) (h2 : 2 * B ≤ C) (hm : B * B ≤ C) : ∀ r, dueD sg a b = some r → r.natAbs ≤ C := by
  intro r hr
  have h6 : sg = 0 ∨ sg = 1 ∨ sg = 2 ∨ sg = 3 ∨ sg = 4 := by omega
  rcases h6 with rfl | rfl | rfl | rfl | rfl
  · simp only [dueD, if_true] at hr; cases hr; omega
  · simp only [dueD, if_true, if_false, show ¬ (1 : Nat) = 0 by decide] at hr; cases hr; omega
  · simp only [dueD, if_true, if_false, show ¬ (2 : Nat) = 0 by decide, show ¬ (2 : Nat) = 1 by decide] at hr; cases hr
    rw [Int.natAbs_mul]
    exact Nat.le_trans (Nat.mul_le_mul ha hb) hm
  · simp only [dueD, if_true, if_false, show ¬ (3 : Nat) = 0 by decide, show ¬ (3 : Nat) = 1 by decide, show ¬ (3 : Nat) = 2 by decide] at hr
    split at hr
    · cases hr
    · cases hr
      rw [Int.natAbs_tdiv]
      exact Nat.le_trans (Nat.div_le_self a.natAbs b.natAbs) (by omega)
  · simp only [dueD, if_true, if_false, show ¬ (4 : Nat) = 0 by decide, show ¬ (4 : Nat) = 1 by decide, show ¬ (4 : Nat) = 2 by decide, show ¬ (4 : Nat) = 3 by decide] at hr
    split at hr
    · cases hr
    · cases hr
      rw [Int.natAbs_tmod]
      exact Nat.le_trans (Nat.mod_le a.natAbs b.natAbs) (by omega)
theorem pow_lt {a b r : Int} (h : (a.natAbs ≤ 11 ∧ b.natAbs ≤ 11) ∨ a.natAbs ≤ 1) (hr : dueD 5 a b = some r) : r.natAbs ≤ 11 ^ 11 := by
  simp only [dueD, powD, if_false, show ¬ (5 : Nat) = 0 by decide, show ¬ (5 : Nat) = 1 by decide, show ¬ (5 : Nat) = 2 by decide, show ¬ (5 : Nat) = 3 by decide, show ¬ (5 : Nat) = 4 by decide] at hr
  split at hr
  · cases hr
  · cases hr
    have t : ∀ x : Int, (Int.tdiv 1 x).natAbs ≤ 11 ^ 11 := fun x => by
      rw [Int.natAbs_tdiv]
      exact Nat.le_trans (Nat.div_le_self (1 : Int).natAbs x.natAbs) (by decide)
    unfold powV
    split
    · rw [Int.natAbs_pow]
      rcases h with ⟨h1, h2⟩ | h1
      · exact Nat.le_trans (Nat.pow_le_pow_left h1 _) (Nat.pow_le_pow_right (by decide) (by omega))
      · refine Nat.le_trans (Nat.pow_le_pow_left h1 _) ?_
        rw [Nat.one_pow]; decide
    · split
      · exact t _
      · exact t _
theorem inner_lt {sg : Nat} {a b r : Int} (hs : sg < 6) (h : Pre2 sg a b) (hr : dueD sg a b = some r) : r.natAbs ≤ 10 ^ 49 := by
  by_cases h5 : sg = 5
  · subst h5
    exact Nat.le_trans (pow_lt (h.2.2 rfl) hr) (by decide)
  · exact due_lt h5 hs h.1 h.2.1 (by decide) (by decide) r hr
theorem pre_late {sg late : Nat} {a b y : Int} (hs : sg < 6) (hl : late < 5) (h : Pre2 sg a b) (hy : y.natAbs ≤ 10 ^ 24 + 1) : ∀ r, dueD sg a b = some r → Pre late r y := by
  intro r hr
  have := inner_lt hs h hr
  have e : (10 : Nat) ^ 49 < 10 ^ 60 := by decide
  have e2 : (10 : Nat) ^ 24 + 1 < 10 ^ 60 := by decide
  exact ⟨by omega, by omega, fun z => absurd z (by omega)⟩
theorem out_lt {sg late : Nat} {a b y : Int} (hs : sg < 6) (hl : late < 5) (h : Pre2 sg a b) (hy : y.natAbs ≤ 10 ^ 24 + 1) : ∀ r, (two late (dueD sg a b) y 3 8).1 = some r → r.natAbs < 10 ^ 900 := by
  intro r hr
  cases hd : dueD sg a b with
  | none => rw [hd] at hr; cases hr
  | some q =>
    rw [hd] at hr
    have h1 := inner_lt hs h hd
    have e2 : (10 : Nat) ^ 24 + 1 ≤ 10 ^ 49 := by decide
    have := due_lt (B := 10 ^ 49) (C := 10 ^ 100) (show late ≠ 5 by omega) (by omega) h1 (by omega) (by decide) (by decide) r hr
    exact Nat.lt_of_le_of_lt this (Nat.pow_lt_pow_right (by decide) (by decide))

-- part Pr
def PPair (sg : Nat) : Heap → Value → Heap → Prop := fun h v h' => ∃ tu a b ta tb, v = Value.ref tu ∧ h.get? tu = none ∧ h'.get? tu = some (tupO [.int a ta, .int b tb]) ∧ Pre2 sg a b
theorem pre2_num {sg : Nat} {a b : Int} (h5 : sg ≠ 5) (a0 : -(10 ^ 24 + 1) ≤ a) (a1 : a ≤ 10 ^ 24 + 1) (b0 : -(10 ^ 24 + 1) ≤ b) (b1 : b ≤ 10 ^ 24 + 1) : Pre2 sg a b := by
  have e24 : (10 : Int) ^ 24 = 1000000000000000000000000 := by decide
  rw [e24] at *
  have h24 : (10 : Nat) ^ 24 = 1000000000000000000000000 := by decide
  refine ⟨by rw [h24]; omega, by rw [h24]; omega, fun z => absurd z h5⟩
theorem pre2_one {a b : Int} (a0 : 0 ≤ a) (a1 : a ≤ 3 - 1) (b0 : -(10 ^ 24 + 1) ≤ b) (b1 : b ≤ 10 ^ 24 + 1) : Pre2 5 (a - 1) b := by
  have e24 : (10 : Int) ^ 24 = 1000000000000000000000000 := by decide
  rw [e24] at *
  have h24 : (10 : Nat) ^ 24 = 1000000000000000000000000 := by decide
  refine ⟨by rw [h24]; omega, by rw [h24]; omega, fun _ => .inr (by omega)⟩
theorem pre2_two {a b : Int} (a0 : 0 ≤ a) (a1 : a ≤ 23 - 1) (b0 : 0 ≤ b) (b1 : b ≤ 16 - 1) : Pre2 5 (a - 11) (b - 5) := by
  have h24 : (10 : Nat) ^ 24 = 1000000000000000000000000 := by decide
  refine ⟨by rw [h24]; omega, by rw [h24]; omega, fun _ => .inl (by omega)⟩
theorem pair_end {w : World} {sg : Nat} {s : Shared} {Q : Value → Shared → Prop} {fd D L tu : Addr} {k : Int} {h : Heap} {m : Str → Option Value} {news : List (Addr × Obj)} {o' : Obj} {k' a b : Int} {ta tb : Tok} {tk : Nat}
    (hret : ∀ v h' tk o' k', PPair sg s.heap v h' → Keep [fd] s.heap h' → h'.get? fd = some o' → FeedO w o' D k' → k ≤ k' → k' ≤ k + 10 → Q v { s with heap := h', toks := tk })
    (F : Fr (hideAll s.heap [fd]) L h m) (N : News (hideAll s.heap [fd]) L h news) (m1 : (tu, tupO [.int a ta, .int b tb]) ∈ news) (m2 : (fd, o') ∈ news) (ne : fd < tu) (O : FeedO w o' D k') (l1 : k ≤ k') (l2 : k' ≤ k + 10) (P : Pre2 sg a b) :
    Q (.ref tu) { s with heap := h, toks := tk } := by
  refine hret _ _ _ o' k' ⟨tu, a, b, ta, tb, rfl, ?_, (N _ m1).1, P⟩ (Keep.of_fr F) (N _ m2).1 O l1 l2
  cases e : s.heap.get? tu with
  | none => rfl
  | some ob =>
    have := hideAll_get [fd] e (fun z => by rw [List.mem_singleton.mp z] at ne; exact Nat.lt_irrefl _ ne)
    rw [(N _ m1).2.2] at this; cases this
theorem bne_no {q c : Str} (h : q ≠ c) (e : (q != c) = false) : False := h (by simpa using e)
theorem words_Pr_39 : True := by
  k_with_none
  k_with "m fill" => ((w_on; (have hfill : ∀ w : World, (Kt w.params).length = (Kt w.params).length ∧ PySem.Challenge.rw_nz0031_02.foot = PySem.Challenge.rw_nz0031_02.foot := by (k_fill; exact fun _ => ⟨rfl, rfl⟩)); clear hfill))
  k_with "m enterF" => ((
    (refine wpAny_call ?_);
    k_dflt (refine' enter ?kW ?kB [(_, _)] ?k0 ?ho ?hcd ?hroom ?hbind ?hloc ?_ ?c1 ?c2 ?c3 ?c4);
    (case kW => assumption);
    (case kB => assumption);
    (case k0 => (intro p hp; rw [List.mem_singleton.mp hp]; refine ⟨?_, ?_, ?_⟩ <;> assumption));
    (case ho => k_is);
    (case hcd => k_is);
    (case hroom => exact Nat.le_of_ble_eq_true rfl);
    (case hbind => exact BindsTo.of_eq rfl);
    (case hloc => exact locs rfl);
    (case c1 => decide);
    (case c2 => exact rfl);
    (case c3 => exact rfl);
    (case c4 => exact rfl);
    intro L h₁ p loose mean mg mb F N Bl X T lt eL tk;
    (dsimp only [List.map] at F N Bl X T);
    (try k_fold)))
  k_with "m usd" => (((case hd => exact Nat.le_of_ble_eq_true rfl); (case hu => exact Nat.le_of_ble_eq_true rfl); (case W => k_asm); (case B => k_asm); (case F => k_asm); (case N => k_asm); (case U => k_updF); (case FO => k_asm); (case hS => k_asm); (case C => k_asm); (case k0 => omega); (case k1 => omega); k_whole; intro v' h' tk' o' k' P' F' N' K' O' l1' l2'; obtain ⟨i', t', e', b1', b2'⟩ := P'; subst e'; (try dsimp only at N')))
  k_with "w eval Call" => ((k_here; k_dflt (refine Call_ ?_)))
  k_with "w call ref" => ((k_here; k_dflt (first
  | (refine' DrawS.use (draw_ok _ _ _ ?h0 ?h1) rfl rfl rfl ?hd ?hu ?W ?B ?F ?N ?U rfl rfl ?FO ?hS ?C ?k0 ?k1 ?_; (case h0 => decide); (case h1 => decide); k_extra "m usd")
  | (refine' DrawS.use (number_ok _) rfl rfl rfl ?hd ?hu ?W ?B ?F ?N ?U rfl rfl ?FO ?hS ?C ?k0 ?k1 ?_; k_extra "m usd"))))
  trivial
set_option maxHeartbeats 8000000 in
theorem pair_ok (w : World) (sg : Nat) (hs : sg < 6) (tg : Tok) : DrawS w 14 429 (fun fd => [.ref fd, .str (sgS sg) tg]) 10 (PPair sg) := by
  intro outer base s Q E fd D o k W B ho FO hb hf hS C hk0 hk1 hret
  have hne := FO.ne ho C
  have hx : (sg = 5 ∧ sgS sg = Str.ofString "^") ∨ (sg ≠ 5 ∧ sgS sg ≠ Str.ofString "^") := by
    have h6 : sg = 0 ∨ sg = 1 ∨ sg = 2 ∨ sg = 3 ∨ sg = 4 ∨ sg = 5 := by omega
    rcases h6 with rfl | rfl | rfl | rfl | rfl | rfl
    · exact .inr ⟨by decide, by decide +kernel⟩
    · exact .inr ⟨by decide, by decide +kernel⟩
    · exact .inr ⟨by decide, by decide +kernel⟩
    · exact .inr ⟨by decide, by decide +kernel⟩
    · exact .inr ⟨by decide, by decide +kernel⟩
    · exact .inl ⟨rfl, rfl⟩
  rcases hx with ⟨rfl, hx⟩ | ⟨hx, hx2⟩
  · rw [hx]
    k_extra "m fill"
    w_strict (
      k_extra "m enterF"
      (have C2 : CellsAt (hideAll s.heap [fd]) D := C.keep fun _ e => hideAll_get _ e (by simp [hne]))
      k_steps
      all_goals (repeat (first | k_unfold | dsimp only))
      all_goals first
        | exact pair_end hret (by assumption) (by assumption) (by k_mem) (by k_mem) (by assumption) (by assumption) (by omega) (by omega) (pre2_one (by assumption) (by assumption) (by assumption) (by assumption))
        | exact pair_end hret (by assumption) (by assumption) (by k_mem) (by k_mem) (by assumption) (by assumption) (by omega) (by omega) (pre2_two (by assumption) (by assumption) (by assumption) (by assumption))
        | exact (bne_no (by assumption) (by assumption)).elim)
  · generalize sgS sg = q at *
    k_extra "m fill"
    w_strict (
      k_extra "m enterF"
      (have C2 : CellsAt (hideAll s.heap [fd]) D := C.keep fun _ e => hideAll_get _ e (by simp [hne]))
      k_steps
      all_goals (repeat (first | k_unfold | dsimp only))
      all_goals first
        | exact pair_end hret (by assumption) (by assumption) (by k_mem) (by k_mem) (by assumption) (by assumption) (by omega) (by omega) (pre2_num (by assumption) (by assumption) (by assumption) (by assumption) (by assumption))
        | exact (bne_no (by assumption) (by assumption)).elim)

-- part NC
def lamR : Stmt → Option (Arguments × Expr × Scope)
  | .Return (some (.Compare (.Call _ (.Lambda p b s _ :: _) _ _) _ _ _)) _ => some (p, b, s)
  | _ => none
noncomputable def lamLast (w : World) (f : Addr) : Option (Arguments × Expr × Scope) :=
  match (Kt w.params).lookup f with
  | some o => match o.data with
    | .func fd => match fd.body with
      | .stmts b => b.getLast?.bind lamR
      | _ => none
    | _ => none
  | none => none
theorem up_of {fr : List Addr} {g h : Heap} (r : RelS fr g h) : g.UpToSlots h := fun b o e _ => r.slot b o e
theorem OfS.useN {w : World} {base : Heap} {n : Nat} {f : Addr} {vs : List Value} {objs : List (Addr × Obj)} {okV : Value → Prop} {flt : Int → Prop} (S : OfS w base n f vs objs okV flt)
    {A A₀ : Around} {env : Env} {outer : List Env} {h0 g : Heap} {s : Shared} {Q E : Value → Shared → Prop} {L : Addr} {m : Str → Option Value} {news : List (Addr × Obj)} {vs' : List Value}
    (hvs : vs' = vs) (hA : A.handled = none) (hfr : A.frames = some (env :: outer)) (hd : A.depth ≤ 900 - 6 * n) (hu : A.units ≤ 9000 - 99 * n)
    (hm : ∀ p ∈ objs, p ∈ news) (B : Below A₀ base outer g) (F : Fr g L s.heap m) (N : News g L s.heap news) (hL : h0.get? L = none) (K0 : ∀ b o, h0.get? b = some o → s.heap.get? b = some o) (hf : env.frame = some L) (hk : env.scope.kind = .function)
    (h : ∀ v h' tk, okV v → Keep [] s.heap h' → Q v { s with heap := h', toks := tk })
    (hx : ∀ e dd sp h' tk, flt sp → RelS (FrOf outer) h0 h' → h'.FunFrames base (env :: outer) → FlT h0 h' e dd sp → h0.get? L = none → E (.ref e) { s with heap := h', toks := tk }) :
    wpAny (model PySem.Challenge.rw_nz0031_02.row.prog w) A (call (.ref f) vs') Q E s := by
  subst hvs
  refine wpAny_ak hA hfr hd hu (S _ Q E s (below_at B F hf hk) (objs_of_news B N hf hm) (fun v h' tk o k => h v h' tk o k)
    fun e dd sp h' tk o r ff fl => hx e dd sp h' tk o ?_ ff (fl.lower K0) hL)
  refine ⟨fun b o e nm => r.keep b o (K0 b o e) fun hm => ?_, fun b o e => r.slot b o (K0 b o e)⟩
  have hLo : FrOf (env :: outer) = L :: FrOf outer := by unfold FrOf; rw [List.filterMap_cons, hf]
  rw [hLo] at hm
  rcases List.mem_cons.mp hm with z | z
  · rw [z, hL] at e; cases e
  · exact nm z
/-- the last of the whole node: an int or a bool -/
theorem last_ok (w : World) (base : Heap) (W : Wd w base) (objs : List (Addr × Obj)) (self last : Addr) (lk : Str) (t7 t8 : Tok) (rv : Value) (y : Int) (hrv : ThirdV rv y)
    (hlk : (lk = Str.ofString "int" ∧ ∃ ty, rv = .int y ty) ∨ (lk = Str.ofString "bool" ∧ ∃ b, rv = .bool b)) (m : (last, tupO [.str lk t7, .int 4 t8, rv]) ∈ objs) :
    OfS w base 26 282 [.ref self, .ref last] objs (fun v => v = rv) (fun _ => False) := by
  rcases hlk with ⟨rfl, ty, rfl⟩ | ⟨rfl, b, rfl⟩
  · exact val_int_ok w base W objs self last t7 t8 y 4 ty m
  · exact val_bool_ok w base W objs self last t7 t8 b 4 m
theorem whole_use {w : World} {base : Heap} {objs : List (Addr × Obj)} {self sd dct whole bin inner nName nInt last : Addr} {oD : Obj} {lk : Str}
    {ts t0 t1 t2 t3 t4 t5 t6 t7 t8 t9 u0 u1 u2 u3 u4 t10 ta tb : Tok} {sg late : Nat} {a b y : Int} {rv : Value} (W : Wd w base) (hs : sg < 6) (hl : late < 5) (hrv : ThirdV rv y) (hp : Pre2 sg a b) (hy : y.natAbs ≤ 10 ^ 24 + 1)
    (hlk : (lk = Str.ofString "int" ∧ ∃ ty, rv = .int y ty) ∨ (lk = Str.ofString "bool" ∧ ∃ b, rv = .bool b))
    (hD : Obj.IsDictOf (strKind PySem.Challenge.rw_nz0031_02.row.prog w) oD [(Str.ofString "a", Value.int a ta)]) (hS : (dct == sysModules) = false)
    (m1 : (self, instObj 356 sd) ∈ objs) (m2 : (sd, sdO w dct ts) ∈ objs) (m3 : (dct, oD) ∈ objs)
    (m4 : (whole, tupO [.str (Str.ofString "un") t0, .int 5 t1, .str (Str.ofString "-") t2, .ref bin]) ∈ objs)
    (m5 : (bin, tupO [.str (Str.ofString "bin") t3, .int 3 t4, .str (sgS late) t5, .ref inner, .ref last]) ∈ objs)
    (m6 : (inner, tupO [.str (Str.ofString "bin") t6, .int 8 t7, .str (sgS sg) t8, .ref nName, .ref nInt]) ∈ objs)
    (m7 : (nName, tupO [.str (Str.ofString "name") u0, .int 1 u1, .str (Str.ofString "a") u2]) ∈ objs)
    (m8 : (nInt, tupO [.str (Str.ofString "int") u3, .int 2 u4, .int b tb]) ∈ objs)
    (m9 : (last, tupO [.str lk t9, .int 4 t10, rv]) ∈ objs) :
    OfS w base 38 282 [.ref self, .ref whole] objs (IntO ((two late (dueD sg a b) y 3 8).1.map fun r => -r)) (fun sp => (two late (dueD sg a b) y 3 8).1 = none ∧ sp = (two late (dueD sg a b) y 3 8).2) :=
  whole_ok w base W objs self sd dct whole bin inner nName nInt last oD ts t0 t1 t2 t3 t4 t5 t6 t7 t8 ts u0 u1 u2 u3 u4 u4 sg late hs (by omega) a b y ta tb rv hrv hD hS m1 m2 m3 m4 m5 m6 m7 m8
    (last_ok w base W objs self last lk t9 t10 rv y hrv hlk m9) (pre_of hp) (pre_late hs hl hp hy) (out_lt hs hl hp hy)
theorem words_NC_40 : True := by
  k_with_none
  k_with "m fill" => ((w_on; (have hfill : ∀ w : World, (Kt w.params).length = (Kt w.params).length ∧ PySem.Challenge.rw_nz0031_02.foot = PySem.Challenge.rw_nz0031_02.foot := by (k_fill; exact fun _ => ⟨rfl, rfl⟩)); clear hfill))
  k_with "m enter" => ((
    (refine wpAny_call ?_);
    k_dflt (refine' enter ?kW ?kB [] ?k0 ?ho ?hcd ?hroom ?hbind ?hloc ?_ ?c1 ?c2 ?c3 ?c4);
    (case kW => assumption);
    (case kB => assumption);
    (case k0 => exact fun _ h => nomatch h);
    (case ho => k_is);
    (case hcd => k_is);
    (case hroom => exact Nat.le_of_ble_eq_true rfl);
    (case hbind => exact BindsTo.of_eq rfl);
    (case hloc => exact locs rfl);
    (case c1 => decide);
    (case c2 => exact rfl);
    (case c3 => exact rfl);
    (case c4 => exact rfl);
    intro L h₁ p loose mean mg mb F N Bl X T lt eL tk;
    (dsimp only [List.map, hideAll] at F N Bl X T);
    (try k_fold)))
  k_with "m use" => (((case hd => exact Nat.le_of_ble_eq_true rfl); (case hu => exact Nat.le_of_ble_eq_true rfl); (case W => k_asm); (case B => k_asm); (case F => k_asm); (case N => k_asm); k_whole))
  k_with "w leaving ref" => ((k_here; k_dflt (first
  | (refine' leave_new ?B ?F rfl rfl rfl ?fl ?_; (case fl => k_asm); (case F => k_asm); (case B => k_asm); intro h9 tk9 r9 ff9 fl9)
  | (refine' leave_own rfl rfl ?ff ?rel ?hL (.inr ?fl) ?_; (case fl => assumption); (case ff => assumption); (case rel => assumption); (case hL => assumption); intro h9 tk9 r9 ff9 fl9))))
  k_with "w exec Raise some none" => ((k_here; k_dflt (refine' raise_own rfl ?_)))
  k_with "w Exists" => ((k_dflt (refine' raise_end ?X ?F ?fl ?_; (case X => k_asm); (case F => k_asm); (case fl => k_asm))))
  k_with "m enterH" => ((
    (refine wpAny_call ?_);
    k_dflt (refine' enter ?kW ?kB _ ?k0 ?ho ?hcd ?hroom ?hbind ?hloc ?_ ?c1 ?c2 ?c3 ?c4);
    (case k0 => assumption);
    (case kW => assumption);
    (case kB => assumption);
    (case ho => k_is);
    (case hcd => k_is);
    (case hroom => exact Nat.le_of_ble_eq_true rfl);
    (case hbind => exact BindsTo.of_eq rfl);
    (case hloc => exact locs rfl);
    (case c1 => decide);
    (case c2 => exact rfl);
    (case c3 => exact rfl);
    (case c4 => exact rfl);
    intro L h₁ p loose mean mg mb F N Bl X T lt eL tk;
    (dsimp only [List.map] at F N Bl X T);
    (try k_fold)))
  k_with "w subscriptTail Name Constant ref int" => ((k_here; (with_reducible show wpAny _ _ (subscriptTail _ _ (Value.ref _) (Value.int _ _)) _ _ _); k_dflt (refine' item_tupleT ?t ?a ?b ?c ?d ?_; (case t => exact News.isTup (by k_asm) (by k_mem)); (case a => decide); (case b => decide); (case c => rfl); (case d => rfl); k_whole)))
  k_with "w subscriptTail Attribute Name Subscript ref str" => ((k_here; (with_reducible show wpAny _ _ (subscriptTail _ _ (Value.ref _) (Value.str _ _)) _ _ _); k_dflt (refine' item_strTab ?T ?hl ?_; (case T => k_tabat); (case hl => rfl); k_whole); intro v' hv'; cases hv'))
  k_with "m mems" => ((repeat (first | exact List.forall_mem_nil _ | refine List.forall_mem_cons.mpr ⟨by k_mem, ?_⟩)))
  k_with "w eval Call" => ((k_here; k_dflt (refine Call_ ?_)))
  k_with "w eval Name" => ((k_here; (with_reducible show wpAny _ _ (eval (Expr.Name _ _) (envX _ _ _ _ _ _)) _ _ _); k_dflt (refine' nameX_F ?N ?c ?m ?d ?_ ?a ?b; (case c => first | assumption | rfl); (case a => rfl); (case b => rfl); (case N => k_asm); (case m => k_mem); (case d => k_asm); k_whole)))
  k_with "w eval Dict" => ((k_here; k_dflt (refine' kdn_str ?q ?F ?N ?b ?a ?l ?e ?n ?_; (case q => rfl); (case a => rfl); (case l => rfl); (case F => k_asm); (case N => k_asm); (case b => exact Top.nolimit (by k_asm)); (case e => exact List.cons_ne_nil _ _); (case n => exact Nat.le_of_ble_eq_true rfl)); intro d' h' o' F' N' l1 lo' hd'; (try k_lt l1)))
  k_with "w call ref" => ((k_here; k_dflt (first
  | (refine' OfS.useN (whole_use ?W ?hs ?hl ?hrv ?hp ?hy ?hlk ?hD ?hS ?m1 ?m2 ?m3 ?m4 ?m5 ?m6 ?m7 ?m8 ?m9) rfl rfl rfl ?hd ?hu (fun _ h => h) ?B ?F ?N ?hL ?K0 rfl rfl (fun v' h' tk' c' k' => ?_) (fun e' dd' sp' h' tk' c' r' ff' fl' z' => ?_);
      (case W => k_asm); (case F => k_asm); (case N => k_asm); (case B => k_asm); (case hs => assumption); (case hl => assumption); (case hrv => assumption); (case hp => assumption); (case hy => assumption); (case hlk => assumption); (case m1 => k_mem); (case m2 => k_mem); (case m3 => k_mem); (case m4 => k_mem); (case m5 => k_mem); (case m6 => k_mem); (case m7 => k_mem); (case m8 => k_mem); (case m9 => k_mem); (case hD => assumption); (case hS => assumption); (case hd => exact Nat.le_of_ble_eq_true rfl); (case hu => exact Nat.le_of_ble_eq_true rfl); (case hL => exact self_none (by assumption)); (case K0 => exact keepO (by assumption) (by assumption) (by assumption) (by k_extra "m mems")); k_whole))))
  trivial
set_option maxHeartbeats 8000000 in
theorem node_call (w : World) (outer : List Env) (base h0 : Heap) (W : Wd w base) (f c' ca cw whole bin inner nName nInt last : Addr) (oa ow : Obj) (name qual lk : Str) (p : Arguments) (bd : Expr) (sc : Scope) (cl : List (Str × Addr)) (pm ctv : Value)
    (t0 t1 t2 t3 t4 t5 t6 t7 t8 t9 t10 u0 u1 u2 u3 u4 ta tb : Tok) (sg late : Nat) (hs : sg < 6) (hl : late < 5) (a b y : Int) (rv : Value) (hrv : ThirdV rv y) (hp : Pre2 sg a b) (hy : y.natAbs ≤ 10 ^ 24 + 1)
    (hlam : lamLast w 464 = some (p, bd, sc)) (hca : cl.lookup (Str.ofString "a") = some ca) (hcw : cl.lookup (Str.ofString "whole") = some cw)
    (O : Objs base outer h0 [(f, kla_obj name qual p bd sc cl pm c' ctv), (ca, oa), (cw, ow),
      (whole, tupO [.str (Str.ofString "un") t0, .int 5 t1, .str (Str.ofString "-") t2, .ref bin]),
      (bin, tupO [.str (Str.ofString "bin") t3, .int 3 t4, .str (sgS late) t5, .ref inner, .ref last]),
      (inner, tupO [.str (Str.ofString "bin") t6, .int 8 t7, .str (sgS sg) t8, .ref nName, .ref nInt]),
      (nName, tupO [.str (Str.ofString "name") u0, .int 1 u1, .str (Str.ofString "a") u2]),
      (nInt, tupO [.str (Str.ofString "int") u3, .int 2 u4, .int b tb]),
      (last, tupO [.str lk t9, .int 4 t10, rv])])
    (hda : oa.data = .cell (some (.int a ta))) (hdw : ow.data = .cell (some (.ref whole))) (hcr : h0.CodeRec (.ref c') qual)
    (hlk : (lk = Str.ofString "int" ∧ ∃ ty, rv = .int y ty) ∨ (lk = Str.ofString "bool" ∧ ∃ b, rv = .bool b)) :
    RaiseAt w (Ak 58 outer) base outer h0 (call (.ref f) []) (IntO ((two late (dueD sg a b) y 3 8).1.map fun r => -r)) (fun sp => (two late (dueD sg a b) y 3 8).1 = none ∧ sp = (two late (dueD sg a b) y 3 8).2) := by
  intro Q E s K0 B hret hflt
  have hN : ∀ (q : Addr × Obj), q ∈ _ → s.heap.get? q.1 = some q.2 ∧ base.get? q.1 = none ∧ q.1 ∉ outer.filterMap (·.frame) := fun (q : Addr × Obj) hq => ⟨K0 q.1 q.2 (O q hq).1 (fun h => nomatch h), (O q hq).2⟩
  have hcr' : s.heap.CodeRec (.ref c') qual := by
    obtain ⟨c, oc, vs, t, e1, e2, e3, e4⟩ := hcr
    exact ⟨c, oc, vs, t, e1, K0 _ _ e2 (fun h => nomatch h), e3, e4⟩
  clear O K0 hcr
  have hlam2 : some (_, _, _) = some (p, bd, sc) := hlam
  clear hlam
  cases hlam2
  k_extra "m fill"
  w_strict (
    (refine wpAny_call ?_);
    k_dflt (refine' enterE W B _ hN ?ho hcr' ?hroom ?hbind ?hloc ?_ ?c1 ?c2 ?c3 ?c4);
    (case ho => exact (hN _ (List.mem_cons_self ..)).1);
    (case hroom => exact Nat.le_of_ble_eq_true rfl);
    (case hbind => exact rfl);
    (case hloc => exact fun _ h => nomatch h);
    (case c1 => decide);
    (case c2 => exact rfl);
    (case c3 => exact rfl);
    (case c4 => exact rfl);
    intro L h₁ p loose mean mg mb F N Bl X T lt eL tk;
    (dsimp only [List.map] at F N Bl X T);
    (try k_fold);
    k_steps
    all_goals (repeat (first | k_unfold | dsimp only))
    all_goals first
      | exact hret _ _ _ (by assumption) (Keep.trans (fun b o e _ => keepO hN (by assumption) (by assumption) (by k_extra "m mems") b o e) (by assumption))
      | exact hflt _ _ _ _ _ (by assumption) (by assumption) (up_of (by assumption)) (by assumption) (by assumption))

-- part NR4
theorem words_NR4_41 : True := by
  k_with_none
  trivial
theorem RaiseAt.imp {w : World} {A : Around} {base : Heap} {outer : List Env} {h0 : Heap} {t : Sem Value} {okV okV' : Value → Prop} {flt flt' : Int → Prop} (S : RaiseAt w A base outer h0 t okV flt) (h1 : ∀ v, okV v → okV' v) (h2 : ∀ sp, flt sp → flt' sp) : RaiseAt w A base outer h0 t okV' flt' :=
  fun Q E s K B hn hf => S Q E s K B (fun v h' tk o k => hn v h' tk (h1 v o) k) fun e dd sp h' tk o r u ff fl => hf e dd sp h' tk (h2 sp o) r u ff fl
abbrev qualN : Str := Str.ofString "_law_node_right" ++ ".<locals>." ++ "<lambda>"
/-- the code table of the maker of one lambda -/
def Tab1 (h : Heap) (ps : Array Value) : Prop := ps = #[] ∨ ∃ c', ps = #[rawInt 492, rawInt 22, .ref c'] ∧ h.CodeRec (.ref c') qualN
theorem rec_relS {fr : List Addr} {g h : Heap} {v : Value} {q : Str} (x : g.CodeRec v q) (r : RelS fr g h) : h.CodeRec v q := by
  obtain ⟨c, o, vs, t, e1, e2, e3, e4⟩ := x
  obtain ⟨sl, e5⟩ := r.slot _ _ e2
  exact ⟨c, _, vs, t, e1, e5, e3, e4⟩
theorem two0 {late : Nat} {oa : Option Int} {y : Int} (h : oa = none) : two late oa y 3 8 = (none, 8) := by subst h; rfl
theorem two1 {late : Nat} {oa : Option Int} {r y : Int} (h : oa = some r) (h2 : dueD late r y = none) : two late oa y 3 8 = (none, 3) := by subst h; simp only [two, h2]
theorem two2 {late : Nat} {oa : Option Int} {r q y : Int} (h : oa = some r) (h2 : dueD late r y = some q) : two late oa y 3 8 = (some q, 3) := by subst h; simp only [two, h2]

section
variable {w : World} {A A₀ : Around} {env : Env} {outer : List Env} {base g : Heap} {s : Shared} {Q E : Value → Shared → Prop} {L : Addr} {m : Str → Option Value} {news : List (Addr × Obj)}
theorem due_use {sg : Nat} {x y : Int} {ts tx ty : Tok} (hs : sg < 6) (hp : Pre sg x y)
    (hA : A.handled = none) (hfr : A.frames = some (env :: outer)) (hd : A.depth ≤ 900 - 6 * 24) (hu : A.units ≤ 9000 - 99 * 24)
    (W : Wd w base) (B : Below A₀ base outer g) (F : Fr g L s.heap m) (N : News g L s.heap news) (hf : env.frame = some L) (hk : env.scope.kind = .function)
    (h1 : ∀ h' tk, dueD sg x y = none → Fr g L h' m → News g L h' news → Q .none { s with heap := h', toks := tk })
    (h2 : ∀ r t h' tk, dueD sg x y = some r → Fr g L h' m → News g L h' news → Q (.int r t) { s with heap := h', toks := tk }) :
    wpAny (model PySem.Challenge.rw_nz0031_02.row.prog w) A (call (.ref 457) [.str (sgS sg) ts, .int x tx, .int y ty]) Q E s :=
  RaiseS.use (due_ok w sg hs x y ts tx ty hp) rfl hA hfr hd hu W B F N hf hk (fun v h' tk o F' N' => by
    cases q : dueD sg x y with
    | none => rw [q] at o; cases (show v = .none from o); exact h1 h' tk q F' N'
    | some r => rw [q] at o; obtain ⟨t, e⟩ := (show ∃ t, v = .int r t from o); subst e; exact h2 r t h' tk q F' N') (fun _ _ _ _ _ f _ _ _ _ => f.elim)

variable {okV : Value → Prop} {flt : Int → Prop} {c c' ca cw whole bin inner nName nInt last : Addr} {oa ow : Obj} {name qual lk : Str} {p : Arguments} {bd : Expr} {sc : Scope} {cl : List (Str × Addr)} {pm ctv : Value}
    {t0 t1 t2 t3 t4 t5 t6 t7 t8 t9 t10 u0 u1 u2 u3 u4 ta tb : Tok} {sg late : Nat} {a b y : Int} {rv : Value}
theorem heard_node (hs : sg < 6) (hl : late < 5) (hrv : ThirdV rv y) (hp : Pre2 sg a b) (hy : y.natAbs ≤ 10 ^ 24 + 1)
    (hi1 : ∀ v, IntO ((two late (dueD sg a b) y 3 8).1.map fun r => -r) v → okV v) (hi2 : ∀ sp, ((two late (dueD sg a b) y 3 8).1 = none ∧ sp = (two late (dueD sg a b) y 3 8).2) → flt sp)
    (hA : A.handled = none) (hfr : A.frames = some (env :: outer)) (hd : A.depth ≤ 900 - 6 * 60) (hu : A.units ≤ 9000 - 99 * 60)
    (W : Wd w base) (B : Below A₀ base outer g) (F : Fr g L s.heap m) (N : News g L s.heap news) (hf : env.frame = some L) (hk : env.scope.kind = .function)
    (hc : (c, kla_obj name qual p bd sc cl pm c' ctv) ∈ news)
    (hlam : lamLast w 464 = some (p, bd, sc)) (hca : cl.lookup (Str.ofString "a") = some ca) (hcw : cl.lookup (Str.ofString "whole") = some cw)
    (m1 : (ca, oa) ∈ news) (m2 : (cw, ow) ∈ news)
    (m3 : (whole, tupO [.str (Str.ofString "un") t0, .int 5 t1, .str (Str.ofString "-") t2, .ref bin]) ∈ news)
    (m4 : (bin, tupO [.str (Str.ofString "bin") t3, .int 3 t4, .str (sgS late) t5, .ref inner, .ref last]) ∈ news)
    (m5 : (inner, tupO [.str (Str.ofString "bin") t6, .int 8 t7, .str (sgS sg) t8, .ref nName, .ref nInt]) ∈ news)
    (m6 : (nName, tupO [.str (Str.ofString "name") u0, .int 1 u1, .str (Str.ofString "a") u2]) ∈ news)
    (m7 : (nInt, tupO [.str (Str.ofString "int") u3, .int 2 u4, .int b tb]) ∈ news)
    (m8 : (last, tupO [.str lk t9, .int 4 t10, rv]) ∈ news)
    (hda : oa.data = .cell (some (.int a ta))) (hdw : ow.data = .cell (some (.ref whole))) (hcr : s.heap.CodeRec (.ref c') qual)
    (hlk : (lk = Str.ofString "int" ∧ ∃ ty, rv = .int y ty) ∨ (lk = Str.ofString "bool" ∧ ∃ b, rv = .bool b))
    (h : ∀ v h' tk, okV v → Fr g L h' m → News g L h' news → Q v { s with heap := h', toks := tk })
    (hx : ∀ tu t1 t2 sp g' h' tk, flt sp → RelS (FrOf outer) g g' → Fr g' L h' m → News g' L h' ((tu, tupO [.str (Str.ofString "fault") t1, .int sp t2]) :: news) → AllNe tu news → Below A₀ base outer g' → Q (.ref tu) { s with heap := h', toks := tk }) :
    wpAny (model PySem.Challenge.rw_nz0031_02.row.prog w) A (call (.ref 415) [.ref c]) Q E s :=
  heard_use hA hfr hd hu W B F N hf hk hc (fun env' L' he hL =>
    (node_call w (env' :: env :: outer) base s.heap W c c' ca cw whole bin inner nName nInt last oa ow name qual lk p bd sc cl pm ctv t0 t1 t2 t3 t4 t5 t6 t7 t8 t9 t10 u0 u1 u2 u3 u4 ta tb sg late hs hl a b y rv hrv hp hy hlam hca hcw
      (Objs.on (objs_of_news B N hf (List.forall_mem_cons.mpr ⟨hc, List.forall_mem_cons.mpr ⟨m1, List.forall_mem_cons.mpr ⟨m2, List.forall_mem_cons.mpr ⟨m3, List.forall_mem_cons.mpr ⟨m4, List.forall_mem_cons.mpr ⟨m5, List.forall_mem_cons.mpr ⟨m6, List.forall_mem_cons.mpr ⟨m7, List.forall_mem_cons.mpr ⟨m8, List.forall_mem_nil _⟩⟩⟩⟩⟩⟩⟩⟩⟩)) (fun _ _ e => e) hL he)
      hda hdw hcr hlk).imp hi1 hi2) h hx
end

-- part NR5
theorem words_NR5_42 : True := by
  k_with_none
  trivial
section
variable {prog : Program} {w : World} {A : Around} {E : Value → Shared → Prop} {s : Shared} {Q : Value → Shared → Prop} {value slice : Expr} {t : Addr} {u : Tok}
theorem item_late {i : Int} {t0 t1 t2 t3 t4 : Tok} (ht : IsTup s.heap t [Value.str (Str.ofString "+") t0, .str (Str.ofString "-") t1, .str (Str.ofString "*") t2, .str (Str.ofString "div") t3, .str (Str.ofString "mod") t4].toArray)
    (h0 : 0 ≤ i) (h1 : i ≤ 5 - 1) (h : ∀ (late : Nat) t', late < 5 → Q (.str (sgS late) t') s)
    (hs : ∀ k u, subscripted slice false (.ref t) (.int k u) = operate [.ref t, .int k u] (getItem (.ref t) (.int k u)) := by intro _ _; with_unfolding_all rfl) :
    wpAny (model prog w) A (subscriptTail value slice (.ref t) (.int i u)) Q E s :=
  item_sg5 ht h0 (by omega) (fun t' => h i.toNat t' (by omega)) hs
end
theorem third_cases {rv : Value} {y : Int} (h : ThirdV rv y) : (∃ ty, rv = .int y ty) ∨ (rv = .bool true ∧ y = 1) ∨ (rv = .bool false ∧ y = 0) := by
  rcases h with h | ⟨b, h1, h2⟩
  · exact .inl h
  · cases b
    · exact .inr (.inr ⟨h1, h2⟩)
    · exact .inr (.inl ⟨h1, h2⟩)
theorem thirdI {y : Int} {ty : Tok} : ThirdV (.int y ty) y := .inl ⟨ty, rfl⟩
theorem thirdT : ThirdV (.bool true) 1 := .inr ⟨true, rfl, rfl⟩
theorem thirdF : ThirdV (.bool false) 0 := .inr ⟨false, rfl, rfl⟩
section
variable {w : World} {A A₀ : Around} {env : Env} {outer : List Env} {base g : Heap} {s : Shared} {Q E : Value → Shared → Prop} {L : Addr} {m : Str → Option Value} {news : List (Addr × Obj)}
variable {c c' ca cw whole bin inner nName nInt last : Addr} {oa ow : Obj} {name qual lk : Str} {p : Arguments} {bd : Expr} {sc : Scope} {cl : List (Str × Addr)} {pm ctv : Value}
    {t0 t1 t2 t3 t4 t5 t6 t7 t8 t9 t10 u0 u1 u2 u3 u4 ta tb : Tok} {sg late : Nat} {a b y : Int} {rv : Value}
/-- the node is refused at a known spot -/
theorem heard_nodeF {sp0 : Int} (hs : sg < 6) (hl : late < 5) (hrv : ThirdV rv y) (hp : Pre2 sg a b) (hy : y.natAbs ≤ 10 ^ 24 + 1) (h2 : two late (dueD sg a b) y 3 8 = (none, sp0))
    (hA : A.handled = none) (hfr : A.frames = some (env :: outer)) (hd : A.depth ≤ 900 - 6 * 60) (hu : A.units ≤ 9000 - 99 * 60)
    (W : Wd w base) (B : Below A₀ base outer g) (F : Fr g L s.heap m) (N : News g L s.heap news) (hf : env.frame = some L) (hk : env.scope.kind = .function)
    (hc : (c, kla_obj name qual p bd sc cl pm c' ctv) ∈ news)
    (hlam : lamLast w 464 = some (p, bd, sc)) (hca : cl.lookup (Str.ofString "a") = some ca) (hcw : cl.lookup (Str.ofString "whole") = some cw)
    (m1 : (ca, oa) ∈ news) (m2 : (cw, ow) ∈ news)
    (hda : oa.data = .cell (some (.int a ta))) (hdw : ow.data = .cell (some (.ref whole)))
    (m3 : (whole, tupO [.str (Str.ofString "un") t0, .int 5 t1, .str (Str.ofString "-") t2, .ref bin]) ∈ news)
    (m4 : (bin, tupO [.str (Str.ofString "bin") t3, .int 3 t4, .str (sgS late) t5, .ref inner, .ref last]) ∈ news)
    (m5 : (inner, tupO [.str (Str.ofString "bin") t6, .int 8 t7, .str (sgS sg) t8, .ref nName, .ref nInt]) ∈ news)
    (m6 : (nName, tupO [.str (Str.ofString "name") u0, .int 1 u1, .str (Str.ofString "a") u2]) ∈ news)
    (m7 : (nInt, tupO [.str (Str.ofString "int") u3, .int 2 u4, .int b tb]) ∈ news)
    (m8 : (last, tupO [.str lk t9, .int 4 t10, rv]) ∈ news)
    (hcr : s.heap.CodeRec (.ref c') qual)
    (hlk : (lk = Str.ofString "int" ∧ ∃ ty, rv = .int y ty) ∨ (lk = Str.ofString "bool" ∧ ∃ b, rv = .bool b))
    (hx : ∀ tu t1 t2 g' h' tk, RelS (FrOf outer) g g' → Fr g' L h' m → News g' L h' ((tu, tupO [.str (Str.ofString "fault") t1, .int sp0 t2]) :: news) → AllNe tu news → Below A₀ base outer g' → (Kt w.params).In g' → (∃ p loose mean mg mb, Top p loose mean mg mb g') → Q (.ref tu) { s with heap := h', toks := tk }) :
    wpAny (model PySem.Challenge.rw_nz0031_02.row.prog w) A (call (.ref 415) [.ref c]) Q E s :=
  heard_node (okV := fun _ => False) (flt := fun sp => sp = sp0) hs hl hrv hp hy (fun v h => by obtain ⟨r, e, _⟩ := h; rw [h2] at e; cases e) (fun sp h => by rw [h2] at h; exact h.2)
    hA hfr hd hu W B F N hf hk hc hlam hca hcw m1 m2 m3 m4 m5 m6 m7 m8 hda hdw hcr hlk (fun _ _ _ f _ _ => f.elim)
    (fun tu t1 t2 sp g' h' tk e r F' N' l B' => by subst e; exact hx tu t1 t2 g' h' tk r F' N' l B' (W.K.keeps B'.stays) (let ⟨p, lo, me, mg, mb, T⟩ := W.top; ⟨p, lo, me, mg, mb, T.keeps B'.stays⟩))
/-- the node has a value -/
theorem heard_nodeI {q sp0 : Int} (hs : sg < 6) (hl : late < 5) (hrv : ThirdV rv y) (hp : Pre2 sg a b) (hy : y.natAbs ≤ 10 ^ 24 + 1) (h2 : two late (dueD sg a b) y 3 8 = (some q, sp0))
    (hA : A.handled = none) (hfr : A.frames = some (env :: outer)) (hd : A.depth ≤ 900 - 6 * 60) (hu : A.units ≤ 9000 - 99 * 60)
    (W : Wd w base) (B : Below A₀ base outer g) (F : Fr g L s.heap m) (N : News g L s.heap news) (hf : env.frame = some L) (hk : env.scope.kind = .function)
    (hc : (c, kla_obj name qual p bd sc cl pm c' ctv) ∈ news)
    (hlam : lamLast w 464 = some (p, bd, sc)) (hca : cl.lookup (Str.ofString "a") = some ca) (hcw : cl.lookup (Str.ofString "whole") = some cw)
    (m1 : (ca, oa) ∈ news) (m2 : (cw, ow) ∈ news)
    (hda : oa.data = .cell (some (.int a ta))) (hdw : ow.data = .cell (some (.ref whole)))
    (m3 : (whole, tupO [.str (Str.ofString "un") t0, .int 5 t1, .str (Str.ofString "-") t2, .ref bin]) ∈ news)
    (m4 : (bin, tupO [.str (Str.ofString "bin") t3, .int 3 t4, .str (sgS late) t5, .ref inner, .ref last]) ∈ news)
    (m5 : (inner, tupO [.str (Str.ofString "bin") t6, .int 8 t7, .str (sgS sg) t8, .ref nName, .ref nInt]) ∈ news)
    (m6 : (nName, tupO [.str (Str.ofString "name") u0, .int 1 u1, .str (Str.ofString "a") u2]) ∈ news)
    (m7 : (nInt, tupO [.str (Str.ofString "int") u3, .int 2 u4, .int b tb]) ∈ news)
    (m8 : (last, tupO [.str lk t9, .int 4 t10, rv]) ∈ news)
    (hcr : s.heap.CodeRec (.ref c') qual)
    (hlk : (lk = Str.ofString "int" ∧ ∃ ty, rv = .int y ty) ∨ (lk = Str.ofString "bool" ∧ ∃ b, rv = .bool b))
    (h : ∀ t h' tk, Fr g L h' m → News g L h' news → Q (.int (-q) t) { s with heap := h', toks := tk }) :
    wpAny (model PySem.Challenge.rw_nz0031_02.row.prog w) A (call (.ref 415) [.ref c]) Q E s :=
  heard_node (okV := fun v => ∃ t, v = .int (-q) t) (flt := fun _ => False) hs hl hrv hp hy (fun v h => by obtain ⟨r, e, t, e2⟩ := h; rw [h2] at e; cases e; exact ⟨t, e2⟩) (fun sp h => by rw [h2] at h; cases h.1)
    hA hfr hd hu W B F N hf hk hc hlam hca hcw m1 m2 m3 m4 m5 m6 m7 m8 hda hdw hcr hlk (fun v h' tk e F' N' => by obtain ⟨t, e⟩ := e; subst e; exact h t h' tk F' N')
    (fun _ _ _ _ _ _ _ f _ _ _ _ _ => f.elim)
end

-- part NR5b
noncomputable def scOf (w : World) (f : Addr) : Option Scope :=
  match (Kt w.params).lookup f with
  | some o => match o.data with
    | .func fd => some fd.scope
    | _ => none
  | none => none
def ThirdIs (m : Str → Option Value) (rv : Value) : Prop := m (Str.ofString "third") = some rv
theorem int_third {prog : Program} {w : World} {A : Around} {E : Value → Shared → Prop} {s : Shared} {Q : Value → Shared → Prop} {rv : Value} {y : Int} (hrv : ThirdV rv y) (h : ∀ t tk, Q (.int y t) { s with toks := tk }) :
    wpAny (model prog w) A (call (.type "int") [rv]) Q E s := by
  rcases third_cases hrv with ⟨ty, rfl⟩ | ⟨rfl, rfl⟩ | ⟨rfl, rfl⟩
  · exact PySem.call_int_int (h ty s.toks)
  · exact PySem.call_int_bool (b := true) (h s.toks (s.toks + 1))
  · exact PySem.call_int_bool (b := false) (h s.toks (s.toks + 1))
abbrev ifLast : Expr := .IfExp (.Call (.Name (Str.ofString "isinstance") ⟨484, 33, 484, 43⟩) [.Name (Str.ofString "third") ⟨484, 44, 484, 49⟩, .Name (Str.ofString "bool") ⟨484, 51, 484, 55⟩] [] ⟨484, 33, 484, 56⟩)
  (.Tuple [.Constant (.str (Str.ofString "bool")) 0 ⟨484, 12, 484, 18⟩, .Constant (.int 4) 0 ⟨484, 20, 484, 21⟩, .Name (Str.ofString "third") ⟨484, 23, 484, 28⟩] 0 ⟨484, 11, 484, 29⟩)
  (.Tuple [.Constant (.str (Str.ofString "int")) 0 ⟨484, 63, 484, 68⟩, .Constant (.int 4) 0 ⟨484, 70, 484, 71⟩, .Name (Str.ofString "third") ⟨484, 73, 484, 78⟩] 0 ⟨484, 62, 484, 79⟩) ⟨484, 11, 484, 79⟩
theorem words_NR5b_43 : True := by
  k_with_none
  k_with "m fill" => ((w_on; (have hfill : ∀ w : World, (Kt w.params).length = (Kt w.params).length ∧ PySem.Challenge.rw_nz0031_02.foot = PySem.Challenge.rw_nz0031_02.foot := by (k_fill; exact fun _ => ⟨rfl, rfl⟩)); clear hfill))
  k_with "m enter" => ((
    (refine wpAny_call ?_);
    k_dflt (refine' enter ?kW ?kB [] ?k0 ?ho ?hcd ?hroom ?hbind ?hloc ?_ ?c1 ?c2 ?c3 ?c4);
    (case kW => assumption);
    (case kB => assumption);
    (case k0 => exact fun _ h => nomatch h);
    (case ho => k_is);
    (case hcd => k_is);
    (case hroom => exact Nat.le_of_ble_eq_true rfl);
    (case hbind => exact BindsTo.of_eq rfl);
    (case hloc => exact locs rfl);
    (case c1 => decide);
    (case c2 => exact rfl);
    (case c3 => exact rfl);
    (case c4 => exact rfl);
    intro L h₁ p loose mean mg mb F N Bl X T lt eL tk;
    (dsimp only [List.map, hideAll] at F N Bl X T);
    (try k_fold)))
  k_with "m use" => (((case hd => exact Nat.le_of_ble_eq_true rfl); (case hu => exact Nat.le_of_ble_eq_true rfl); (case W => k_asm); (case B => k_asm); (case F => k_asm); (case N => k_asm); k_whole))
  k_with "w leaving ref" => ((k_here; k_dflt (first
  | (refine' leave_new ?B ?F rfl rfl rfl ?fl ?_; (case fl => k_asm); (case F => k_asm); (case B => k_asm); intro h9 tk9 r9 ff9 fl9)
  | (refine' leave_own rfl rfl ?ff ?rel ?hL (.inr ?fl) ?_; (case fl => assumption); (case ff => assumption); (case rel => assumption); (case hL => assumption); intro h9 tk9 r9 ff9 fl9))))
  k_with "w exec Raise some none" => ((k_here; k_dflt (refine' raise_own rfl ?_)))
  k_with "w Exists" => ((k_dflt (refine' raise_end ?X ?F ?fl ?_; (case X => k_asm); (case F => k_asm); (case fl => k_asm))))
  k_with "m enterH" => ((
    (refine wpAny_call ?_);
    k_dflt (refine' enter ?kW ?kB _ ?k0 ?ho ?hcd ?hroom ?hbind ?hloc ?_ ?c1 ?c2 ?c3 ?c4);
    (case k0 => assumption);
    (case kW => assumption);
    (case kB => assumption);
    (case ho => k_is);
    (case hcd => k_is);
    (case hroom => exact Nat.le_of_ble_eq_true rfl);
    (case hbind => exact BindsTo.of_eq rfl);
    (case hloc => exact locs rfl);
    (case c1 => decide);
    (case c2 => exact rfl);
    (case c3 => exact rfl);
    (case c4 => exact rfl);
    intro L h₁ p loose mean mg mb F N Bl X T lt eL tk;
    (dsimp only [List.map] at F N Bl X T);
    (try k_fold)))
  k_with "w subscriptTail Name Constant ref int" => ((k_here; (with_reducible show wpAny _ _ (subscriptTail _ _ (Value.ref _) (Value.int _ _)) _ _ _); k_dflt (refine' item_tupleT ?t ?a ?b ?c ?d ?_; (case t => exact News.isTup (by k_asm) (by k_mem)); (case a => decide); (case b => decide); (case c => rfl); (case d => rfl); k_whole)))
  k_with "w subscriptTail Attribute Name Subscript ref str" => ((k_here; (with_reducible show wpAny _ _ (subscriptTail _ _ (Value.ref _) (Value.str _ _)) _ _ _); k_dflt (refine' item_strTab ?T ?hl ?_; (case T => k_tabat); (case hl => rfl); k_whole); intro v' hv'; cases hv'))
  k_with "m mems" => ((repeat (first | exact List.forall_mem_nil _ | refine List.forall_mem_cons.mpr ⟨by k_mem, ?_⟩)))
  k_with "w eval Call" => ((k_here; k_dflt (refine Call_ ?_)))
  k_with "w eval Name" => ((k_here; (rename ThirdIs _ _ => hTh); k_dflt (refine' nameX_L ?F ?v ?_ ?a ?b; (case a => rfl); (case b => rfl); (case F => k_asm); (case v => exact hTh); k_whole)))
  trivial
set_option maxHeartbeats 8000000 in
theorem last_eval {w : World} {A A₀ : Around} {base g : Heap} {outer : List Env} {s : Shared} {Q E : Value → Shared → Prop} {L : Addr} {m : Str → Option Value} {news : List (Addr × Obj)} {sc : Scope} {rv : Value} {y : Int} {p : Program} {loose : List Str} {mean : ExcName → Option Value} {mg mb : Str → Option Value}
    (hsc : scOf w 464 = some sc) (B : Below A₀ base outer g) (X : (Kt w.params).In g) (T : Top p loose mean mg mb g) (F : Fr g L s.heap m) (N : News g L s.heap news) (hm : ThirdIs m rv) (hrv : ThirdV rv y)
    (h : ∀ tu lk t9 t10 h' tk, ((lk = Str.ofString "int" ∧ ∃ ty, rv = .int y ty) ∨ (lk = Str.ofString "bool" ∧ ∃ b, rv = .bool b)) → Fr g L h' m → News g L h' ((tu, tupO [.str lk t9, .int 4 t10, rv]) :: news) → (∀ p ∈ news, p.1 < tu) → Q (.ref tu) { s with heap := h', toks := tk }) :
    wpAny (model PySem.Challenge.rw_nz0031_02.row.prog w) A (eval ifLast (envOfC (Str.ofString "_law_node_right") sc L 464 (.ref 463))) Q E s := by
  have hsc2 : some _ = some sc := hsc
  clear hsc
  cases hsc2
  rcases third_cases hrv with ⟨ty, rfl⟩ | ⟨rfl, rfl⟩ | ⟨rfl, rfl⟩
  all_goals (
    k_extra "m fill"
    w_strict (
      k_steps
      all_goals (repeat (first | k_unfold | dsimp only))
      all_goals first
        | exact h _ _ _ _ _ _ (.inl ⟨rfl, _, rfl⟩) (by assumption) (by assumption) (by assumption)
        | exact h _ _ _ _ _ _ (.inr ⟨rfl, _, rfl⟩) (by assumption) (by assumption) (by assumption)))

-- part NR6
theorem words_NR6_44 : True := by
  k_with_none
  k_with "m fill" => ((w_on; (have hfill : ∀ w : World, (Kt w.params).length = (Kt w.params).length ∧ PySem.Challenge.rw_nz0031_02.foot = PySem.Challenge.rw_nz0031_02.foot := by (k_fill; exact fun _ => ⟨rfl, rfl⟩)); clear hfill))
  k_with "m enter" => ((
    (refine wpAny_call ?_);
    k_dflt (refine' enter ?kW ?kB [] ?k0 ?ho ?hcd ?hroom ?hbind ?hloc ?_ ?c1 ?c2 ?c3 ?c4);
    (case kW => assumption);
    (case kB => assumption);
    (case k0 => exact fun _ h => nomatch h);
    (case ho => k_is);
    (case hcd => k_is);
    (case hroom => exact Nat.le_of_ble_eq_true rfl);
    (case hbind => exact BindsTo.of_eq rfl);
    (case hloc => exact locs rfl);
    (case c1 => decide);
    (case c2 => exact rfl);
    (case c3 => exact rfl);
    (case c4 => exact rfl);
    intro L h₁ p loose mean mg mb F N Bl X T lt eL tk;
    (dsimp only [List.map, hideAll] at F N Bl X T);
    (try k_fold)))
  k_with "m use" => (((case hd => exact Nat.le_of_ble_eq_true rfl); (case hu => exact Nat.le_of_ble_eq_true rfl); (case W => k_asm); (case B => k_asm); (case F => k_asm); (case N => k_asm); k_whole))
  k_with "w leaving ref" => ((k_here; k_dflt (first
  | (refine' leave_new ?B ?F rfl rfl rfl ?fl ?_; (case fl => k_asm); (case F => k_asm); (case B => k_asm); intro h9 tk9 r9 ff9 fl9)
  | (refine' leave_own rfl rfl ?ff ?rel ?hL (.inr ?fl) ?_; (case fl => assumption); (case ff => assumption); (case rel => assumption); (case hL => assumption); intro h9 tk9 r9 ff9 fl9))))
  k_with "w exec Raise some none" => ((k_here; k_dflt (refine' raise_own rfl ?_)))
  k_with "w Exists" => ((k_dflt (refine' raise_end ?X ?F ?fl ?_; (case X => k_asm); (case F => k_asm); (case fl => k_asm))))
  k_with "m enterH" => ((
    (refine wpAny_call ?_);
    k_dflt (refine' enter ?kW ?kB _ ?k0 ?ho ?hcd ?hroom ?hbind ?hloc ?_ ?c1 ?c2 ?c3 ?c4);
    (case k0 => assumption);
    (case kW => assumption);
    (case kB => assumption);
    (case ho => k_is);
    (case hcd => k_is);
    (case hroom => exact Nat.le_of_ble_eq_true rfl);
    (case hbind => exact BindsTo.of_eq rfl);
    (case hloc => exact locs rfl);
    (case c1 => decide);
    (case c2 => exact rfl);
    (case c3 => exact rfl);
    (case c4 => exact rfl);
    intro L h₁ p loose mean mg mb F N Bl X T lt eL tk;
    (dsimp only [List.map] at F N Bl X T);
    (try k_fold)))
  k_with "w subscriptTail Name Constant ref int" => ((k_here; (with_reducible show wpAny _ _ (subscriptTail _ _ (Value.ref _) (Value.int _ _)) _ _ _); k_dflt (refine' item_tupleT ?t ?a ?b ?c ?d ?_; (case t => exact News.isTup (by k_asm) (by k_mem)); (case a => decide); (case b => decide); (case c => rfl); (case d => rfl); k_whole)))
  k_with "w subscriptTail Attribute Name Subscript ref str" => ((k_here; (with_reducible show wpAny _ _ (subscriptTail _ _ (Value.ref _) (Value.str _ _)) _ _ _); k_dflt (refine' item_strTab ?T ?hl ?_; (case T => k_tabat); (case hl => rfl); k_whole); intro v' hv'; cases hv'))
  k_with "m mems" => ((repeat (first | exact List.forall_mem_nil _ | refine List.forall_mem_cons.mpr ⟨by k_mem, ?_⟩)))
  k_with "w eval Call" => ((k_here; k_dflt (refine Call_ ?_)))
  k_with "m pr" => ((first | assumption | exact And.right (by first | assumption | exact And.right (by first | assumption | exact And.right (by first | assumption | exact And.right (by first | assumption | exact And.right (by first | assumption | exact And.right (by first | assumption | exact And.right (by first | assumption | exact And.right (by first | assumption | exact And.right (by first | assumption | exact And.right (by first | assumption | exact And.right (by first | assumption | exact And.right (by first | assumption | exact And.right (by first | assumption | exact And.right (by assumption))))))))))))))))
  k_with "w k_ne" => ((refine neN ?_; (try dsimp only); (first | (with_reducible exact Nat.ne_of_lt (by k_extra "m pr")) | (with_reducible exact Nat.ne_of_gt (by k_extra "m pr")) | (with_reducible exact Ne.symm (by k_extra "m pr")) | (with_reducible k_extra "m pr") | (with_reducible exact Nat.ne_of_lt (And.left (by k_extra "m pr"))) | (with_reducible exact Nat.ne_of_gt (And.left (by k_extra "m pr"))) | (with_reducible exact Ne.symm (And.left (by k_extra "m pr"))) | (with_reducible exact And.left (by k_extra "m pr")) | omega)))
  k_with "m usd" => (((case hd => exact Nat.le_of_ble_eq_true rfl); (case hu => exact Nat.le_of_ble_eq_true rfl); (case W => k_asm); (case B => k_asm); (case F => k_asm); (case N => k_asm); (case U => k_updF); (case FO => k_asm); (case hS => k_asm); (case C => k_asm); (case k0 => omega); (case k1 => omega); k_whole; intro v' h' tk' o' k' P' F' N' K' O' l1' l2'; obtain ⟨i', t', e', b1', b2'⟩ := P'; subst e'; (try dsimp only at N')))
  k_with "m usn" => (((case W => k_asm); (case B => k_asm); (case F => k_asm); (case N => k_asm); (case hc => k_mem); (case hlam => exact rfl); (case hca => exact rfl); (case hcw => exact rfl); (case m1 => k_mem); (case m2 => k_mem); (case hda => k_asm); (case hdw => k_asm); (case m3 => k_mem); (case m4 => k_mem); (case m5 => k_mem); (case m6 => k_mem); (case m7 => k_mem); (case m8 => k_mem); (case hrv => assumption); (case h2 => first | exact two2 (by assumption) (by assumption) | exact two1 (by assumption) (by assumption) | exact two0 (by assumption)); (case hs => assumption); (case hl => assumption); (case hp => assumption); (case hd => exact Nat.le_of_ble_eq_true rfl); (case hu => exact Nat.le_of_ble_eq_true rfl); (case hy => assumption); (case hcr => first | exact codeRec_news (by k_asm) (by k_mem) (by assumption) (by assumption) | exact Heap.CodeRec.keeps (by assumption) (Fr.keep (by assumption))); (case hlk => assumption); k_whole))
  k_with "w call ref" => ((k_here; k_dflt (first
  | (refine' DrawS.use (draw_ok _ _ _ ?h0 ?h1) rfl rfl rfl ?hd ?hu ?W ?B ?F ?N ?U rfl rfl ?FO ?hS ?C ?k0 ?k1 ?_; (case h0 => decide); (case h1 => decide); k_extra "m usd")
  | (refine' DrawS.use (number_ok _) rfl rfl rfl ?hd ?hu ?W ?B ?F ?N ?U rfl rfl ?FO ?hS ?C ?k0 ?k1 ?_; k_extra "m usd")
  | (refine' due_use ?hs ?hp rfl rfl ?hd ?hu ?W ?B ?F ?N rfl rfl (fun h' tk' c' F' N' => ?_) (fun r' t' h' tk' c' F' N' => ?_); (case hs => first | assumption | omega); (case hp => first | exact pre_of (by assumption) | exact pre_late (by assumption) (by assumption) (by assumption) (by assumption) _ (by assumption)); (case hd => exact Nat.le_of_ble_eq_true rfl); (case hu => exact Nat.le_of_ble_eq_true rfl); (case W => k_asm); (case B => k_asm); (case F => k_asm); (case N => k_asm); k_whole)
  | (refine' heard_nodeI ?hs ?hl ?hrv ?hp ?hy ?h2 rfl rfl ?hd ?hu ?W ?B ?F ?N rfl rfl ?hc ?hlam ?hca ?hcw ?m1 ?m2 ?hda ?hdw ?m3 ?m4 ?m5 ?m6 ?m7 ?m8 ?hcr ?hlk (fun t' h' tk' F' N' => ?_); k_extra "m usn")
  | (refine' heard_nodeF ?hs ?hl ?hrv ?hp ?hy ?h2 rfl rfl ?hd ?hu ?W ?B ?F ?N rfl rfl ?hc ?hlam ?hca ?hcw ?m1 ?m2 ?hda ?hdw ?m3 ?m4 ?m5 ?m6 ?m7 ?m8 ?hcr ?hlk (fun tu' t1' t2' g' h' tk' r' F' N' l' B' X' T' => ?_); k_extra "m usn"; obtain ⟨p', lo', me', mg', mb', T'⟩ := T'; (try dsimp only [AllNe] at l')))))
  k_with "w subscriptTail Tuple cons Call ref int" => ((k_here; (with_reducible show wpAny _ _ (subscriptTail _ _ (Value.ref _) (Value.int _ _)) _ _ _); k_dflt (first
  | (refine' item_late ?t ?a ?b ?_; (case t => exact News.isTup (by k_asm) (by k_mem)); (case a => assumption); (case b => assumption); k_whole; intro late' t' hl')
  | (refine' item_third ?t ?a ?b ?z ?_; (case t => exact News.isTup (by k_asm) (by k_mem)); (case a => assumption); (case b => omega); (case z => exact ⟨by assumption, by assumption⟩); k_whole; intro rv' y' hrv' hy'))))
  k_with "w eval IfExp Call Tuple Tuple" => ((k_here; k_dflt (refine' last_eval ?sc ?B ?X ?T ?F ?N ?hm ?hrv ?_; (case sc => exact rfl); (case B => k_asm); (case X => k_asm); (case T => k_asm); (case F => k_asm); (case N => k_asm); (case hm => exact rfl); (case hrv => assumption); k_whole); intro tu' lk' t9' t10' h' tk' hlk' F' N' l1'; (try k_lt l1')))
  k_with "w call type:int cons nil" => ((k_here; k_dflt (refine' int_third ?hrv ?_; (case hrv => assumption); k_whole); intro t' tk'))
  k_with "w callWith ref" => ((k_here; k_dflt (refine' callWith_K ?k1 ?k2 ?_; (case k1 => k_asm); (case k2 => k_is); k_whole)))
  trivial
theorem tab_hide {w : World} {h : Heap} {fd D : Addr} {o : Obj} {k : Int} {ps : Array Value} (ho : h.get? fd = some o) (FO : FeedO w o D k) (hP : h.get? 459 = some (tabObj ps)) (T : Tab1 h ps) : Tab1 (hideAll h [fd, 459]) ps := by
  rcases T with rfl | ⟨c', rfl, c, oc, vs, t, e1, e2, e3, e4⟩
  · exact .inl rfl
  · refine .inr ⟨c', rfl, c, oc, vs, t, e1, hideAll_get _ e2 ?_, e3, e4⟩
    simp only [List.mem_cons, List.not_mem_nil, or_false, not_or]
    refine ⟨fun z => ?_, fun z => ?_⟩
    · rw [z, ho] at e2; cases e2
      obtain ⟨_, es, ep, _, q, _⟩ := FO
      rw [e3] at q; cases q
    · rw [z, hP] at e2; cases e2
      cases e3; cases e4
def TabS (h : Heap) (ps : Array Value) (h' : Heap) (ps' : Array Value) : Prop := ∃ c', ps' = #[rawInt 492, rawInt 22, .ref c'] ∧ h'.CodeRec (.ref c') qualN ∧ (ps = #[] ∧ @LE.le Nat _ h.objs.size c' ∨ ps' = ps)
theorem nr_end {w : World} {s : Shared} {Q : Value → Shared → Prop} {outer : List Env} {fd D L : Addr} {k : Int} {g' h : Heap} {m : Str → Option Value} {news : List (Addr × Obj)} {o' : Obj} {k' : Int} {ps ps' : Array Value} {tk : Nat} {v : Bool}
    (hret : ∀ h' tk o' k' ps', RelS (FrOf outer) (hideAll s.heap [fd, 459]) h' → h'.get? fd = some o' → FeedO w o' D k' → k ≤ k' → k' ≤ k + 7 → h'.get? 459 = some (tabObj ps') → TabS s.heap ps h' ps' → Q (.bool true) { s with heap := h', toks := tk })
    (r : RelS (FrOf outer) (hideAll s.heap [fd, 459]) g') (F : Fr g' L h m) (N : News g' L h news) (m2 : (fd, o') ∈ news) (O : FeedO w o' D k') (l1 : k ≤ k') (l2 : k' ≤ k + 7) (mP : (459, tabObj ps') ∈ news) (T : TabS s.heap ps h ps') (e : v = true) :
    Q (.bool v) { s with heap := h, toks := tk } := by
  subst e
  exact hret _ _ _ _ _ (r.trans (relS_fr F)) (N _ m2).1 O l1 l2 (N _ mP).1 T
set_option maxHeartbeats 8000000 in
theorem noderight_ok (w : World) (sg : Nat) (hs : sg < 6) (a b : Int) (tg ta tb : Tok) (hp : Pre2 sg a b) (outer : List Env) (base : Heap) (s : Shared) (Q E : Value → Shared → Prop) (fd D : Addr) (o : Obj) (k : Int) (ps : Array Value)
    (W : Wd w base) (B : Below (Ak 70 outer) base outer s.heap) (ho : s.heap.get? fd = some o) (FO : FeedO w o D k) (hb : base.get? fd = none) (hf : fd ∉ outer.filterMap (·.frame)) (hS : (fd == sysModules) = false) (C : CellsAt s.heap D) (hk0 : 0 ≤ k) (hk1 : k + 7 ≤ 100000)
    (hP : s.heap.get? 459 = some (tabObj ps)) (hPT : Tab1 s.heap ps) (hPb : base.get? 459 = none) (hPf : 459 ∉ outer.filterMap (·.frame)) (hfP : fd ≠ 459)
    (hret : ∀ h' tk o' k' ps', RelS (FrOf outer) (hideAll s.heap [fd, 459]) h' → h'.get? fd = some o' → FeedO w o' D k' → k ≤ k' → k' ≤ k + 7 → h'.get? 459 = some (tabObj ps') → TabS s.heap ps h' ps' → Q (.bool true) { s with heap := h', toks := tk }) :
    wpAny (model PySem.Challenge.rw_nz0031_02.row.prog w) (Ak 70 outer) (call (.ref 464) [.ref fd, .str (sgS sg) tg, .int a ta, .int b tb]) Q E s := by
  have hne := FO.ne ho C
  have C2 : CellsAt (hideAll s.heap [fd, 459]) D := C.keep fun _ e => hideAll_get _ e (by
    simp only [List.mem_cons, List.not_mem_nil, or_false, not_or]
    refine ⟨hne, fun z => ?_⟩
    obtain ⟨ws, ns, ⟨o2, h1, h2, h3⟩, _⟩ := C
    rw [z, hP] at h1; cases h1; cases h2)
  have hN : ∀ p ∈ [(fd, o), (459, tabObj ps)], s.heap.get? p.1 = some p.2 ∧ base.get? p.1 = none ∧ p.1 ∉ outer.filterMap (·.frame) := List.forall_mem_cons.mpr ⟨⟨ho, hb, hf⟩, List.forall_mem_cons.mpr ⟨⟨hP, hPb, hPf⟩, List.forall_mem_nil _⟩⟩
  have hT := tab_hide ho FO hP hPT
  clear hPT
  have hfP2 := neN hfP
  have HC0 : CodeHd base 463 459 := codeHd_of_K W.K (by kernel_rfl)
  k_extra "m fill"
  w_strict (
    (refine wpAny_call ?_);
    k_dflt (refine' enterC (binds := [(Str.ofString "feed", .ref fd), (Str.ofString "sign", .str (sgS sg) tg), (Str.ofString "a", .int a ta), (Str.ofString "b", .int b tb)]) W B _ hN ?ho ?hcd ?hroom ?hbind ?hkind ?hnd ?_ ?c2 ?c3 ?c4);
    (case ho => k_is);
    (case hcd => k_is);
    (case hroom => exact Nat.le_of_ble_eq_true rfl);
    (case hbind => exact BindsTo.of_eq rfl);
    (case hkind => exact kindsX rfl);
    (case hnd => decide +kernel);
    (case c2 => exact rfl);
    (case c3 => exact rfl);
    (case c4 => exact rfl);
    intro L h₁ p loose mean mg mb cells F N Y Bl X T lt eL tk;
    (dsimp only [List.map] at F N Bl X T);
    (simp only [AllLt, and_true] at lt);
    (have eL2 : @Eq Nat L s.heap.objs.size := eL);
    (obtain ⟨ow, oa, hE, dw0, da0⟩ := CellsAre.two Y);
    subst hE; clear Y;
    (have da : oa.data = .cell (some (.int a ta)) := da0);
    (have dw : ow.data = .cell none := dw0);
    clear da0 dw0;
    (try simp only [List.cons_append, List.nil_append] at N);
    have HC : CodeHd _ 463 459 := CodeHd.keeps HC0 (Below.stays Bl);
    (try k_fold)
    repeat' ((fail_if_success (with_reducible show wpAny _ _ (eval (Expr.Lambda _ _ _ _) _) _ _ _)); first | (k_unfold; (try dsimp only)) | (k_end; wrow_close) | walk1 | (dsimp only; walk1) | (leave1; walk_say "STEP leave1"; try dsimp only) | fail "no step")
    all_goals (rcases hT with rfl | ⟨c', rfl, hcr⟩)
    all_goals (k_steps)
    all_goals (repeat (first | k_unfold | dsimp only))
    all_goals first
      | (refine nr_end hret ?r (by assumption) (by assumption) (by k_mem) (by assumption) (by omega) (by omega) (by k_mem) ?T ?e; (case r => first | assumption | exact RelS.refl _ _); (case T => first | exact ⟨_, rfl, codeRec_news (by assumption) (by k_mem) (by assumption) (by assumption), .inl ⟨rfl, by omega⟩⟩ | exact ⟨_, rfl, rec_relS (by assumption) (RelS.trans (by assumption) (relS_fr (by assumption))), .inr rfl⟩ | exact ⟨_, rfl, rec_relS (by assumption) (relS_fr (fr := []) (by assumption)), .inr rfl⟩); (case e => first | rfl | exact beq_iff_eq.mpr (by omega))))

-- part RQ
def lamIf : Stmt → Option (Arguments × Expr × Scope)
  | .If (.Compare (.Call _ (.Lambda p b s _ :: _) _ _) _ _ _) _ _ _ => some (p, b, s)
  | .If (.BoolOp _ (.Compare (.Call _ (.Lambda p b s _ :: _) _ _) _ _ _ :: _) _) _ _ _ => some (p, b, s)
  | _ => none
def lamFor (k : Nat) : List Stmt → Option (Arguments × Expr × Scope)
  | _ :: .For _ _ body _ _ :: _ => (body[k]?).bind lamIf
  | _ => none
noncomputable def lamLaw (w : World) (k : Nat) : Option (Arguments × Expr × Scope) :=
  match (Kt w.params).lookup 471 with
  | some o => match o.data with
    | .func fd => match fd.body with
      | .stmts b => lamFor k b
      | _ => none
    | _ => none
  | none => none
theorem words_RQ_45 : True := by
  k_with_none
  k_with "m fill" => ((w_on; (have hfill : ∀ w : World, (Kt w.params).length = (Kt w.params).length ∧ PySem.Challenge.rw_nz0031_02.foot = PySem.Challenge.rw_nz0031_02.foot := by (k_fill; exact fun _ => ⟨rfl, rfl⟩)); clear hfill))
  k_with "m enter" => ((
    (refine wpAny_call ?_);
    k_dflt (refine' enter ?kW ?kB [] ?k0 ?ho ?hcd ?hroom ?hbind ?hloc ?_ ?c1 ?c2 ?c3 ?c4);
    (case kW => assumption);
    (case kB => assumption);
    (case k0 => exact fun _ h => nomatch h);
    (case ho => k_is);
    (case hcd => k_is);
    (case hroom => exact Nat.le_of_ble_eq_true rfl);
    (case hbind => exact BindsTo.of_eq rfl);
    (case hloc => exact locs rfl);
    (case c1 => decide);
    (case c2 => exact rfl);
    (case c3 => exact rfl);
    (case c4 => exact rfl);
    intro L h₁ p loose mean mg mb F N Bl X T lt eL tk;
    (dsimp only [List.map, hideAll] at F N Bl X T);
    (try k_fold)))
  k_with "m use" => (((case hd => exact Nat.le_of_ble_eq_true rfl); (case hu => exact Nat.le_of_ble_eq_true rfl); (case W => k_asm); (case B => k_asm); (case F => k_asm); (case N => k_asm); k_whole))
  k_with "w leaving ref" => ((k_here; k_dflt (first
  | (refine' leave_new ?B ?F rfl rfl rfl ?fl ?_; (case fl => k_asm); (case F => k_asm); (case B => k_asm); intro h9 tk9 r9 ff9 fl9)
  | (refine' leave_own rfl rfl ?ff ?rel ?hL (.inr ?fl) ?_; (case fl => assumption); (case ff => assumption); (case rel => assumption); (case hL => assumption); intro h9 tk9 r9 ff9 fl9))))
  k_with "w exec Raise some none" => ((k_here; k_dflt (refine' raise_own rfl ?_)))
  k_with "w Exists" => ((k_dflt (refine' raise_end ?X ?F ?fl ?_; (case X => k_asm); (case F => k_asm); (case fl => k_asm))))
  k_with "m enterH" => ((
    (refine wpAny_call ?_);
    k_dflt (refine' enter ?kW ?kB _ ?k0 ?ho ?hcd ?hroom ?hbind ?hloc ?_ ?c1 ?c2 ?c3 ?c4);
    (case k0 => assumption);
    (case kW => assumption);
    (case kB => assumption);
    (case ho => k_is);
    (case hcd => k_is);
    (case hroom => exact Nat.le_of_ble_eq_true rfl);
    (case hbind => exact BindsTo.of_eq rfl);
    (case hloc => exact locs rfl);
    (case c1 => decide);
    (case c2 => exact rfl);
    (case c3 => exact rfl);
    (case c4 => exact rfl);
    intro L h₁ p loose mean mg mb F N Bl X T lt eL tk;
    (dsimp only [List.map] at F N Bl X T);
    (try k_fold)))
  k_with "w subscriptTail Name Constant ref int" => ((k_here; (with_reducible show wpAny _ _ (subscriptTail _ _ (Value.ref _) (Value.int _ _)) _ _ _); k_dflt (refine' item_tupleT ?t ?a ?b ?c ?d ?_; (case t => exact News.isTup (by k_asm) (by k_mem)); (case a => decide); (case b => decide); (case c => rfl); (case d => rfl); k_whole)))
  k_with "w subscriptTail Attribute Name Subscript ref str" => ((k_here; (with_reducible show wpAny _ _ (subscriptTail _ _ (Value.ref _) (Value.str _ _)) _ _ _); k_dflt (refine' item_strTab ?T ?hl ?_; (case T => k_tabat); (case hl => rfl); k_whole); intro v' hv'; cases hv'))
  k_with "m mems" => ((repeat (first | exact List.forall_mem_nil _ | refine List.forall_mem_cons.mpr ⟨by k_mem, ?_⟩)))
  k_with "w eval Call" => ((k_here; k_dflt (refine Call_ ?_)))
  k_with "w eval Name" => ((k_here; (with_reducible show wpAny _ _ (eval (Expr.Name _ _) (envX _ _ _ _ _ _)) _ _ _); k_dflt (refine' nameX_F ?N ?c ?m ?d ?_ ?a ?b; (case c => first | assumption | rfl); (case a => rfl); (case b => rfl); (case N => k_asm); (case m => k_mem); (case d => k_asm); k_whole)))
  k_with "m usq" => (((case W => k_asm); (case F => k_asm); (case N => k_asm); (case B => k_asm); (case hd => exact Nat.le_of_ble_eq_true rfl); (case hu => exact Nat.le_of_ble_eq_true rfl); (case hL => exact self_none (by assumption)); (case K0 => exact keepO (by assumption) (by assumption) (by assumption) (by k_extra "m mems")); k_whole))
  k_with "w call ref" => ((k_here; k_dflt (first
  | (refine' OfS.useN (objs := []) (RaiseS.of (reckoned_ok _ _ ?hs _ _ _ _ _ _ _ ?hp) ?W) rfl rfl rfl ?hd ?hu (fun _ h => nomatch h) ?B ?F ?N ?hL ?K0 rfl rfl (fun v' h' tk' c' k' => ?_) (fun e' dd' sp' h' tk' c' r' ff' fl' z' => ?_); (case hs => assumption); (case hp => assumption); k_extra "m usq")
  | (refine' OfS.useN (objs := []) (RaiseS.of (quotient_ok _ _ _ _ _ _ _ ?hy) ?W) rfl rfl rfl ?hd ?hu (fun _ h => nomatch h) ?B ?F ?N ?hL ?K0 rfl rfl (fun v' h' tk' c' k' => ?_) (fun e' dd' sp' h' tk' c' r' ff' fl' z' => ?_); (case hy => assumption); k_extra "m usq"))))
  trivial
set_option maxHeartbeats 8000000 in
theorem reck_call (w : World) (outer : List Env) (base h0 : Heap) (W : Wd w base) (f c' ca cb cl' cs : Addr) (oa ob ol os : Obj) (name qual : Str) (p : Arguments) (bd : Expr) (sc : Scope) (cl : List (Str × Addr)) (pm ctv : Value)
    (ta tb tl ts : Tok) (sg : Nat) (hs : sg < 6) (a b lap : Int) (hp : Pre sg a b)
    (hlam : lamLaw w 3 = some (p, bd, sc)) (hca : cl.lookup (Str.ofString "a") = some ca) (hcb : cl.lookup (Str.ofString "b") = some cb) (hcl : cl.lookup (Str.ofString "lap") = some cl') (hcs : cl.lookup (Str.ofString "sign") = some cs)
    (O : Objs base outer h0 [(f, kla_obj name qual p bd sc cl pm c' ctv), (ca, oa), (cb, ob), (cl', ol), (cs, os)])
    (hda : oa.data = .cell (some (.int a ta))) (hdb : ob.data = .cell (some (.int b tb))) (hdl : ol.data = .cell (some (.int lap tl))) (hds : os.data = .cell (some (.str (sgS sg) ts))) (hcr : h0.CodeRec (.ref c') qual) :
    RaiseAt w (Ak 58 outer) base outer h0 (call (.ref f) []) (fun v => ∃ r, dueD sg a b = some r ∧ ∃ t, v = .int r t) (fun sp => dueD sg a b = none ∧ sp = 7 + lap) := by
  intro Q E s K0 B hret hflt
  have hN : ∀ (q : Addr × Obj), q ∈ _ → s.heap.get? q.1 = some q.2 ∧ base.get? q.1 = none ∧ q.1 ∉ outer.filterMap (·.frame) := fun (q : Addr × Obj) hq => ⟨K0 q.1 q.2 (O q hq).1 (fun h => nomatch h), (O q hq).2⟩
  have hcr' : s.heap.CodeRec (.ref c') qual := hcr.keeps fun b o e => K0 _ _ e (fun h => nomatch h)
  clear O K0 hcr
  have hlam2 : some (_, _, _) = some (p, bd, sc) := hlam
  clear hlam
  cases hlam2
  k_extra "m fill"
  w_strict (
    (refine wpAny_call ?_);
    k_dflt (refine' enterE W B _ hN ?ho hcr' ?hroom ?hbind ?hloc ?_ ?c1 ?c2 ?c3 ?c4);
    (case ho => exact (hN _ (List.mem_cons_self ..)).1);
    (case hroom => exact Nat.le_of_ble_eq_true rfl);
    (case hbind => exact rfl);
    (case hloc => exact fun _ h => nomatch h);
    (case c1 => decide);
    (case c2 => exact rfl);
    (case c3 => exact rfl);
    (case c4 => exact rfl);
    intro L h₁ p loose mean mg mb F N Bl X T lt eL tk;
    (dsimp only [List.map] at F N Bl X T);
    (try k_fold);
    k_steps
    all_goals (repeat (first | k_unfold | dsimp only))
    all_goals first
      | exact hret _ _ _ (by assumption) (Keep.trans (fun b o e _ => keepO hN (by assumption) (by assumption) (by k_extra "m mems") b o e) (by assumption))
      | exact hflt _ _ _ _ _ (by assumption) (by assumption) (up_of (by assumption)) (by assumption) (by assumption))
set_option maxHeartbeats 8000000 in
theorem quot_call (w : World) (outer : List Env) (base h0 : Heap) (W : Wd w base) (f c' ca cb cl' : Addr) (oa ob ol : Obj) (name qual : Str) (p : Arguments) (bd : Expr) (sc : Scope) (cl : List (Str × Addr)) (pm ctv : Value)
    (ta tb tl : Tok) (a b lap : Int) (hp : b.natAbs < 10 ^ 60)
    (hlam : lamLaw w 5 = some (p, bd, sc)) (hca : cl.lookup (Str.ofString "a") = some ca) (hcb : cl.lookup (Str.ofString "b") = some cb) (hcl : cl.lookup (Str.ofString "lap") = some cl')
    (O : Objs base outer h0 [(f, kla_obj name qual p bd sc cl pm c' ctv), (ca, oa), (cb, ob), (cl', ol)])
    (hda : oa.data = .cell (some (.int a ta))) (hdb : ob.data = .cell (some (.int b tb))) (hdl : ol.data = .cell (some (.int lap tl))) (hcr : h0.CodeRec (.ref c') qual) :
    RaiseAt w (Ak 58 outer) base outer h0 (call (.ref f) []) (fun v => b ≠ 0 ∧ ∃ t, v = .int (a.tdiv b) t) (fun sp => b = 0 ∧ sp = lap) := by
  intro Q E s K0 B hret hflt
  have hN : ∀ (q : Addr × Obj), q ∈ _ → s.heap.get? q.1 = some q.2 ∧ base.get? q.1 = none ∧ q.1 ∉ outer.filterMap (·.frame) := fun (q : Addr × Obj) hq => ⟨K0 q.1 q.2 (O q hq).1 (fun h => nomatch h), (O q hq).2⟩
  have hcr' : s.heap.CodeRec (.ref c') qual := hcr.keeps fun b o e => K0 _ _ e (fun h => nomatch h)
  clear O K0 hcr
  have hlam2 : some (_, _, _) = some (p, bd, sc) := hlam
  clear hlam
  cases hlam2
  k_extra "m fill"
  w_strict (
    (refine wpAny_call ?_);
    k_dflt (refine' enterE W B _ hN ?ho hcr' ?hroom ?hbind ?hloc ?_ ?c1 ?c2 ?c3 ?c4);
    (case ho => exact (hN _ (List.mem_cons_self ..)).1);
    (case hroom => exact Nat.le_of_ble_eq_true rfl);
    (case hbind => exact rfl);
    (case hloc => exact fun _ h => nomatch h);
    (case c1 => decide);
    (case c2 => exact rfl);
    (case c3 => exact rfl);
    (case c4 => exact rfl);
    intro L h₁ p loose mean mg mb F N Bl X T lt eL tk;
    (dsimp only [List.map] at F N Bl X T);
    (try k_fold);
    k_steps
    all_goals (repeat (first | k_unfold | dsimp only))
    all_goals first
      | exact hret _ _ _ (by assumption) (Keep.trans (fun b o e _ => keepO hN (by assumption) (by assumption) (by k_extra "m mems") b o e) (by assumption))
      | exact hflt _ _ _ _ _ (by assumption) (by assumption) (up_of (by assumption)) (by assumption) (by assumption))

-- part LW2
theorem words_LW2_46 : True := by
  k_with_none
  trivial
abbrev qualL : Str := Str.ofString "law" ++ ".<locals>." ++ "<lambda>"
abbrev itO (x left : Int) : Obj := { cls := .type "range_iterator", dict := none, data := .fields #[rawInt x, rawInt left, rawInt 1], slots := #[] }
/-- the code table of law: two lambdas -/
def Tab2 (h : Heap) (ps : Array Value) : Prop := ps = #[] ∨ ∃ c1 c2, ps = #[rawInt 499, rawInt 22, .ref c1, rawInt 502, rawInt 22, .ref c2] ∧ h.CodeRec (.ref c1) qualL ∧ h.CodeRec (.ref c2) qualL
def AllNeN (d : Nat) : List (Addr × Obj) → Prop
  | [] => True
  | p :: r => @Ne Nat p.1 d ∧ AllNeN d r
theorem allNeN_of {h₀ h : Heap} {L d : Addr} (hd : h.get? d = none) : ∀ {news : List (Addr × Obj)}, News h₀ L h news → AllNeN d news
  | [], _ => trivial
  | p :: r, N => ⟨(fun z => by have := (N p (.head _)).1; rw [show p.1 = d from z, hd] at this; cases this), allNeN_of hd fun q hq => N q (.tail _ hq)⟩
theorem cells_news {g h : Heap} {L D : Addr} {news : List (Addr × Obj)} {ws : List Value} {ns : List Int} {c : Nat} (N : News g L h news) (hm : (D, listOf ws.toArray c) ∈ news) (hi : IntsAre ws ns) (hl : ns.length ≤ 60) : CellsAt h D :=
  ⟨ws, ns, ⟨_, (N _ hm).1, rfl, c, rfl⟩, hi, hl⟩
section
variable {w : World} {A A₀ : Around} {env : Env} {outer : List Env} {base g : Heap} {s : Shared} {Q E : Value → Shared → Prop} {L fd D : Addr} {o : Obj} {k : Int} {m : Str → Option Value} {news : List (Addr × Obj)} {G : Obj → List (Addr × Obj)}
theorem DrawS.useN {n : Nat} {f : Addr} {mk : Addr → List Value} {c : Nat} {P : Heap → Value → Heap → Prop} (S : DrawS w n f mk c P) {vs : List Value}
    (hvs : vs = mk fd) (hA : A.handled = none) (hfr : A.frames = some (env :: outer)) (hd : A.depth ≤ 900 - 6 * n) (hu : A.units ≤ 9000 - 99 * n)
    (W : Wd w base) (B : Below A₀ base outer g) (F : Fr g L s.heap m) (N : News g L s.heap news) (U : UpdF fd o news G) (hf : env.frame = some L) (hk : env.scope.kind = .function)
    (FO : FeedO w o D k) (hS : (fd == sysModules) = false) (C : CellsAt s.heap D) (h0 : 0 ≤ k) (h1 : k + c ≤ 100000)
    (h : ∀ v h' tk o' k', P s.heap v h' → Fr g L h' m → News g L h' (G o') → Keep [fd] s.heap h' → FeedO w o' D k' → k ≤ k' → k' ≤ k + c → Q v { s with heap := h', toks := tk }) :
    wpAny (model PySem.Challenge.rw_nz0031_02.row.prog w) A (call (.ref f) vs) Q E s := by
  subst hvs
  have hm := N _ (updF_mem U)
  have hB := below_at (n := n) B F hf hk
  refine wpAny_ak hA hfr hd hu (S _ base s Q E fd D o k W hB hm.1 FO ?_ ?_ hS C h0 h1 fun v h' tk o' k' hP hK ho' hF' l1 l2 =>
    h v h' tk o' k' hP (fr_keep F hK fun a ha => ?_) (news_updF N U hK ho') hK hF' l1 l2)
  · cases q : base.get? fd with
    | none => rfl
    | some ob => have := B.stays _ _ q; rw [hm.2.2] at this; cases this
  · intro hq
    rw [List.filterMap_cons, hf] at hq
    rcases List.mem_cons.mp hq with e | hq
    · exact hm.2.1 e
    · obtain ⟨_, ob, hob, _⟩ := B.frames.mem hq
      rw [hm.2.2] at hob; cases hob
  · rw [List.mem_singleton.mp ha]; exact ⟨hm.2.2, hm.2.1⟩
theorem pair_use {sg : Nat} {tg : Tok} (hs : sg < 6)
    (hA : A.handled = none) (hfr : A.frames = some (env :: outer)) (hd : A.depth ≤ 900 - 6 * 14) (hu : A.units ≤ 9000 - 99 * 14)
    (W : Wd w base) (B : Below A₀ base outer g) (F : Fr g L s.heap m) (N : News g L s.heap news) (U : UpdF fd o news G) (hf : env.frame = some L) (hk : env.scope.kind = .function)
    (FO : FeedO w o D k) (hS : (fd == sysModules) = false) (C : CellsAt s.heap D) (h0 : 0 ≤ k) (h1 : k + 10 ≤ 100000)
    (h : ∀ tu a b ta tb h' tk o' k', Pre2 sg a b → Fr g L h' m → News g L h' ((tu, tupO [.int a ta, .int b tb]) :: G o') → AllNeN tu news → FeedO w o' D k' → k ≤ k' → k' ≤ k + 10 → Q (.ref tu) { s with heap := h', toks := tk }) :
    wpAny (model PySem.Challenge.rw_nz0031_02.row.prog w) A (call (.ref 429) [.ref fd, .str (sgS sg) tg]) Q E s := by
  refine DrawS.useN (pair_ok w sg hs tg) rfl hA hfr hd hu W B F N U hf hk FO hS C h0 h1 fun v h' tk o' k' hP F' N' K O l1 l2 => ?_
  obtain ⟨tu, a, b, ta, tb, e, h1, h2, hp⟩ := hP
  subst e
  refine h tu a b ta tb h' tk o' k' hp F' (fun p hq => ?_) (allNeN_of h1 N) O l1 l2
  rcases List.mem_cons.mp hq with rfl | hq
  · refine ⟨h2, ?_, kts_none F.keep h1⟩
    obtain ⟨oL, _, _, e, _⟩ := F.ns
    rintro rfl
    rw [h1] at e; cases e
  · exact N' p hq
end
section
variable {w : World} {A A₀ : Around} {env : Env} {outer : List Env} {base g : Heap} {s : Shared} {Q E : Value → Shared → Prop} {L : Addr} {m : Str → Option Value} {news : List (Addr × Obj)}
variable {okV : Value → Prop} {flt : Int → Prop} {c c' ca cb cl' cs : Addr} {oa ob ol os : Obj} {name qual : Str} {p : Arguments} {bd : Expr} {sc : Scope} {cl : List (Str × Addr)} {pm ctv : Value} {ta tb tl ts : Tok} {sg : Nat} {a b lap : Int}
theorem heard_F {sp0 : Int} {fdt : FuncData} {clv : Value} {dct : Option Addr} {sl : Array (Option Value)} (hi1 : ∀ v, okV v → False) (hi2 : ∀ sp, flt sp → sp = sp0)
    (hA : A.handled = none) (hfr : A.frames = some (env :: outer)) (hd : A.depth ≤ 900 - 6 * 60) (hu : A.units ≤ 9000 - 99 * 60)
    (W : Wd w base) (B : Below A₀ base outer g) (F : Fr g L s.heap m) (N : News g L s.heap news) (hf : env.frame = some L) (hk : env.scope.kind = .function)
    (hc : (c, (⟨clv, dct, .func fdt, sl⟩ : Obj)) ∈ news)
    (hcall : ∀ env' L', env'.frame = some L' → s.heap.get? L' = none → RaiseAt w (Ak 58 (env' :: env :: outer)) base (env' :: env :: outer) s.heap (call (.ref c) []) okV flt)
    (hx : ∀ tu t1 t2 g' h' tk, RelS (FrOf outer) g g' → Fr g' L h' m → News g' L h' ((tu, tupO [.str (Str.ofString "fault") t1, .int sp0 t2]) :: news) → AllNeN tu news → Below A₀ base outer g' → (Kt w.params).In g' → (∃ p loose mean mg mb, Top p loose mean mg mb g') → (∀ c P, CodeHd base c P → CodeHd g' c P) → Q (.ref tu) { s with heap := h', toks := tk }) :
    wpAny (model PySem.Challenge.rw_nz0031_02.row.prog w) A (call (.ref 415) [.ref c]) Q E s :=
  heard_use hA hfr hd hu W B F N hf hk hc hcall (fun v _ _ f _ _ => (hi1 v f).elim)
    (fun tu t1 t2 sp g' h' tk e r F' N' l B' => by
      have e2 := hi2 sp e
      subst e2
      refine hx tu t1 t2 g' h' tk r F' N' ?_ B' (W.K.keeps B'.stays) (let ⟨p, lo, me, mg, mb, T⟩ := W.top; ⟨p, lo, me, mg, mb, T.keeps B'.stays⟩) (fun c P x => x.keeps B'.stays)
      clear hx N' N hcall hc
      induction news with
      | nil => trivial
      | cons q r ih => exact ⟨l.1, ih l.2⟩)
theorem heard_I {q : Int} {fdt : FuncData} {clv : Value} {dct : Option Addr} {sl : Array (Option Value)} (hi1 : ∀ v, okV v → ∃ t, v = .int q t) (hi2 : ∀ sp, flt sp → False)
    (hA : A.handled = none) (hfr : A.frames = some (env :: outer)) (hd : A.depth ≤ 900 - 6 * 60) (hu : A.units ≤ 9000 - 99 * 60)
    (W : Wd w base) (B : Below A₀ base outer g) (F : Fr g L s.heap m) (N : News g L s.heap news) (hf : env.frame = some L) (hk : env.scope.kind = .function)
    (hc : (c, (⟨clv, dct, .func fdt, sl⟩ : Obj)) ∈ news)
    (hcall : ∀ env' L', env'.frame = some L' → s.heap.get? L' = none → RaiseAt w (Ak 58 (env' :: env :: outer)) base (env' :: env :: outer) s.heap (call (.ref c) []) okV flt)
    (h : ∀ t h' tk, Fr g L h' m → News g L h' news → Q (.int q t) { s with heap := h', toks := tk }) :
    wpAny (model PySem.Challenge.rw_nz0031_02.row.prog w) A (call (.ref 415) [.ref c]) Q E s :=
  heard_use hA hfr hd hu W B F N hf hk hc hcall (fun v h' tk f F' N' => by obtain ⟨t, e⟩ := hi1 v f; subst e; exact h t h' tk F' N') (fun _ _ _ sp _ _ _ e _ _ _ _ _ => (hi2 sp e).elim)
theorem reck_hcall (hs : sg < 6) (hp : Pre2 sg a b) (W : Wd w base) (B : Below A₀ base outer g) (N : News g L s.heap news) (hf : env.frame = some L)
    (hc : (c, kla_obj name qual p bd sc cl pm c' ctv) ∈ news)
    (hlam : lamLaw w 3 = some (p, bd, sc)) (hca : cl.lookup (Str.ofString "a") = some ca) (hcb : cl.lookup (Str.ofString "b") = some cb) (hcl : cl.lookup (Str.ofString "lap") = some cl') (hcs : cl.lookup (Str.ofString "sign") = some cs)
    (m1 : (ca, oa) ∈ news) (m2 : (cb, ob) ∈ news) (m3 : (cl', ol) ∈ news) (m4 : (cs, os) ∈ news)
    (hda : oa.data = .cell (some (.int a ta))) (hdb : ob.data = .cell (some (.int b tb))) (hdl : ol.data = .cell (some (.int lap tl))) (hds : os.data = .cell (some (.str (sgS sg) ts))) (hcr : s.heap.CodeRec (.ref c') qual) :
    ∀ env' L', env'.frame = some L' → s.heap.get? L' = none → RaiseAt w (Ak 58 (env' :: env :: outer)) base (env' :: env :: outer) s.heap (call (.ref c) []) (fun v => ∃ r, dueD sg a b = some r ∧ ∃ t, v = .int r t) (fun sp => dueD sg a b = none ∧ sp = 7 + lap) :=
  fun env' L' he hL => reck_call w (env' :: env :: outer) base s.heap W c c' ca cb cl' cs oa ob ol os name qual p bd sc cl pm ctv ta tb tl ts sg hs a b lap (pre_of hp) hlam hca hcb hcl hcs
    (Objs.on (objs_of_news B N hf (List.forall_mem_cons.mpr ⟨hc, List.forall_mem_cons.mpr ⟨m1, List.forall_mem_cons.mpr ⟨m2, List.forall_mem_cons.mpr ⟨m3, List.forall_mem_cons.mpr ⟨m4, List.forall_mem_nil _⟩⟩⟩⟩⟩)) (fun _ _ e => e) hL he) hda hdb hdl hds hcr
theorem quot_hcall (hp : Pre2 sg a b) (W : Wd w base) (B : Below A₀ base outer g) (N : News g L s.heap news) (hf : env.frame = some L)
    (hc : (c, kla_obj name qual p bd sc cl pm c' ctv) ∈ news)
    (hlam : lamLaw w 5 = some (p, bd, sc)) (hca : cl.lookup (Str.ofString "a") = some ca) (hcb : cl.lookup (Str.ofString "b") = some cb) (hcl : cl.lookup (Str.ofString "lap") = some cl')
    (m1 : (ca, oa) ∈ news) (m2 : (cb, ob) ∈ news) (m3 : (cl', ol) ∈ news)
    (hda : oa.data = .cell (some (.int a ta))) (hdb : ob.data = .cell (some (.int b tb))) (hdl : ol.data = .cell (some (.int lap tl))) (hcr : s.heap.CodeRec (.ref c') qual) :
    ∀ env' L', env'.frame = some L' → s.heap.get? L' = none → RaiseAt w (Ak 58 (env' :: env :: outer)) base (env' :: env :: outer) s.heap (call (.ref c) []) (fun v => b ≠ 0 ∧ ∃ t, v = .int (a.tdiv b) t) (fun sp => b = 0 ∧ sp = lap) :=
  fun env' L' he hL => quot_call w (env' :: env :: outer) base s.heap W c c' ca cb cl' oa ob ol name qual p bd sc cl pm ctv ta tb tl a b lap ((pre_of hp).2.1) hlam hca hcb hcl
    (Objs.on (objs_of_news B N hf (List.forall_mem_cons.mpr ⟨hc, List.forall_mem_cons.mpr ⟨m1, List.forall_mem_cons.mpr ⟨m2, List.forall_mem_cons.mpr ⟨m3, List.forall_mem_nil _⟩⟩⟩⟩)) (fun _ _ e => e) hL he) hda hdb hdl hcr
theorem node_use {fd D : Addr} {o : Obj} {k : Int} {ps : Array Value} {tg ta tb : Tok} (kp : List (Addr × Obj)) (hs : sg < 6) (hp : Pre2 sg a b)
    (hA : A.handled = none) (hfr : A.frames = some (env :: outer)) (hd : A.depth ≤ 900 - 6 * 70) (hu : A.units ≤ 9000 - 99 * 70)
    (W : Wd w base) (B : Below A₀ base outer g) (F : Fr g L s.heap m) (N : News g L s.heap news) (hf : env.frame = some L) (hk : env.scope.kind = .function)
    (FO : FeedO w o D k) (hS : (fd == sysModules) = false) (C : CellsAt s.heap D) (h0 : 0 ≤ k) (h1 : k + 7 ≤ 100000)
    (mf : (fd, o) ∈ news) (mP : (459, tabObj ps) ∈ news) (hfP : @Ne Nat fd 459) (hT : Tab1 s.heap ps)
    (hkp : ∀ p ∈ kp, p ∈ news) (hkf : AllNeN fd kp) (hkP : AllNeN 459 kp)
    (h : ∀ g' h' tk o' k' ps', RelS (FrOf outer) g g' → Fr g' L h' m → News g' L h' ((fd, o') :: (459, tabObj ps') :: kp) → Below A₀ base outer g' → (Kt w.params).In g' → (∃ p loose mean mg mb, Top p loose mean mg mb g') → FeedO w o' D k' → k ≤ k' → k' ≤ k + 7 → TabS s.heap ps h' ps' → Q (.bool true) { s with heap := h', toks := tk }) :
    wpAny (model PySem.Challenge.rw_nz0031_02.row.prog w) A (call (.ref 464) [.ref fd, .str (sgS sg) tg, .int a ta, .int b tb]) Q E s := by
  have hnb : ∀ p ∈ news, base.get? p.1 = none ∧ p.1 ∉ (env :: outer).filterMap (·.frame) := fun p hm => (objs_of_news B N hf (fun p h => h) p hm).2
  have nf := N _ mf
  have nP := N _ mP
  have allNe : ∀ {d : Nat} {l : List (Addr × Obj)}, AllNeN d l → ∀ p ∈ l, p.1 ≠ d := fun {d} {l} x p hp => by
    induction l with
    | nil => cases hp
    | cons q r ih =>
      rcases List.mem_cons.mp hp with rfl | hp
      · exact x.1
      · exact ih x.2 hp
  refine wpAny_ak hA hfr hd hu (noderight_ok w sg hs a b tg ta tb hp (env :: outer) base s Q E fd D o k ps W (below_at B F hf hk) nf.1 FO (hnb _ mf).1 (hnb _ mf).2 hS C h0 h1 nP.1 hT (hnb _ mP).1 (hnb _ mP).2 hfP
    fun h' tk o' k' ps' r ho' FO' l1 l2 hP' T' => ?_)
  have kg : ∀ b o, g.get? b = some o → (hideAll s.heap [fd, 459]).get? b = some o := fun b o e => hideAll_get _ (F.keep b o e) (by
    simp only [List.mem_cons, List.not_mem_nil, or_false, not_or]
    refine ⟨fun z => ?_, fun z => ?_⟩
    · rw [z, nf.2.2] at e; cases e
    · rw [z, nP.2.2] at e; cases e)
  have hLo : FrOf (env :: outer) = L :: FrOf outer := by unfold FrOf; rw [List.filterMap_cons, hf]
  have hL := kts_self F
  have rg : RelS (FrOf outer) g h' := ⟨fun b o e nm => r.keep b o (kg b o e) fun hm => by
      rw [hLo] at hm
      rcases List.mem_cons.mp hm with z | z
      · rw [z, hL] at e; cases e
      · exact nm z, fun b o e => r.slot b o (kg b o e)⟩
  have hns : h'.Ns L m := by
    obtain ⟨oL, es, ep, e1, e2⟩ := F.ns
    have e3 : (hideAll s.heap [fd, 459]).get? L = some oL := hideAll_get _ e1 (by
      simp only [List.mem_cons, List.not_mem_nil, or_false, not_or]
      exact ⟨fun z => nf.2.1 z.symm, fun z => nP.2.1 z.symm⟩)
    obtain ⟨sl, e4⟩ := r.slot _ _ e3
    exact ⟨_, es, ep, e4, e2⟩
  obtain ⟨g', rg', T, F', B'⟩ := reground B hns F.above rg
  refine h g' h' tk o' k' ps' rg' F' (fun p hp => ?_) B' (W.K.keeps B'.stays) (let ⟨p, lo, me, mg, mb, T⟩ := W.top; ⟨p, lo, me, mg, mb, T.keeps B'.stays⟩) FO' l1 l2 T'
  rcases List.mem_cons.mp hp with rfl | hp
  · exact ⟨ho', nf.2.1, T.none_ _ nf.2.2⟩
  · rcases List.mem_cons.mp hp with rfl | hp
    · exact ⟨hP', nP.2.1, T.none_ _ nP.2.2⟩
    · have n := N p (hkp p hp)
      refine ⟨r.keep _ _ (hideAll_get _ n.1 ?_) fun hm => (hnb p (hkp p hp)).2 hm, n.2.1, T.none_ _ n.2.2⟩
      simp only [List.mem_cons, List.not_mem_nil, or_false, not_or]
      exact ⟨allNe hkf p hp, allNe hkP p hp⟩
end
def RecO (oc : Obj) (q : Str) : Prop := ∃ vs t, oc.data = .fields vs ∧ vs[1]? = some (.str q t)
theorem RecO.rec {h₀ h : Heap} {L c : Addr} {oc : Obj} {qual : Str} {news : List (Addr × Obj)} (x : RecO oc qual) (N : News h₀ L h news) (hm : (c, oc) ∈ news) : h.CodeRec (.ref c) qual := let ⟨_, _, hd, hv⟩ := x; codeRec_news N hm hd hv
abbrev tabN (c3 : Addr) : Obj := tabObj #[rawInt 492, rawInt 22, .ref c3]
abbrev tabL (c1 c2 : Addr) : Obj := tabObj #[rawInt 499, rawInt 22, .ref c1, rawInt 502, rawInt 22, .ref c2]
section
variable {w : World} {A A₀ : Around} {env : Env} {outer : List Env} {base g : Heap} {s : Shared} {Q E : Value → Shared → Prop} {L fd D It c1 c2 c3 : Addr} {o io lo os ol ob oa oc1 oc2 oc3 : Obj} {k : Int} {m : Str → Option Value} {news : List (Addr × Obj)} {sg : Nat} {a b : Int} {tg ta tb : Tok}
theorem node_use0 (hs : sg < 6) (hp : Pre2 sg a b)
    (hA : A.handled = none) (hfr : A.frames = some (env :: outer)) (hd : A.depth ≤ 900 - 6 * 70) (hu : A.units ≤ 9000 - 99 * 70)
    (W : Wd w base) (B : Below A₀ base outer g) (F : Fr g L s.heap m) (N : News g L s.heap news) (hf : env.frame = some L) (hk : env.scope.kind = .function)
    (FO : FeedO w o D k) (hS : (fd == sysModules) = false) (C : CellsAt s.heap D) (h0 : 0 ≤ k) (h1 : k + 7 ≤ 100000)
    (mf : (fd, o) ∈ news) (mP : (459, tabObj #[]) ∈ news) (m1 : (It, io) ∈ news) (m2 : (D, lo) ∈ news) (m3 : (L + 1 + 1 + 1 + 1, os) ∈ news) (m4 : (L + 1 + 1 + 1, ol) ∈ news) (m5 : (L + 1 + 1, ob) ∈ news) (m6 : (L + 1, oa) ∈ news) (m7 : (466, tabL c1 c2) ∈ news) (m8 : (c1, oc1) ∈ news) (m9 : (c2, oc2) ∈ news)
    (hfP : @Ne Nat fd 459) (hkf : AllNeN fd [(It, io), (D, lo), (L + 1 + 1 + 1 + 1, os), (L + 1 + 1 + 1, ol), (L + 1 + 1, ob), (L + 1, oa), (466, tabL c1 c2), (c1, oc1), (c2, oc2)]) (hkP : AllNeN 459 [(It, io), (D, lo), (L + 1 + 1 + 1 + 1, os), (L + 1 + 1 + 1, ol), (L + 1 + 1, ob), (L + 1, oa), (466, tabL c1 c2), (c1, oc1), (c2, oc2)])
    (h : ∀ g' h' tk o' k' c3 oc3, RelS (FrOf outer) g g' → Fr g' L h' m → News g' L h' [(fd, o'), (459, tabN c3), (It, io), (D, lo), (L + 1 + 1 + 1 + 1, os), (L + 1 + 1 + 1, ol), (L + 1 + 1, ob), (L + 1, oa), (466, tabL c1 c2), (c1, oc1), (c2, oc2), (c3, oc3)] →
      Below A₀ base outer g' → (Kt w.params).In g' → FeedO w o' D k' → k ≤ k' → k' ≤ k + 7 → RecO oc3 qualN → @LT.lt Nat _ c2 c3 → Q (.bool true) { s with heap := h', toks := tk }) :
    wpAny (model PySem.Challenge.rw_nz0031_02.row.prog w) A (call (.ref 464) [.ref fd, .str (sgS sg) tg, .int a ta, .int b tb]) Q E s := by
  refine node_use [(It, io), (D, lo), (L + 1 + 1 + 1 + 1, os), (L + 1 + 1 + 1, ol), (L + 1 + 1, ob), (L + 1, oa), (466, tabL c1 c2), (c1, oc1), (c2, oc2)] hs hp hA hfr hd hu W B F N hf hk FO hS C h0 h1 mf mP hfP (.inl rfl)
    (List.forall_mem_cons.mpr ⟨m1, List.forall_mem_cons.mpr ⟨m2, List.forall_mem_cons.mpr ⟨m3, List.forall_mem_cons.mpr ⟨m4, List.forall_mem_cons.mpr ⟨m5, List.forall_mem_cons.mpr ⟨m6, List.forall_mem_cons.mpr ⟨m7, List.forall_mem_cons.mpr ⟨m8, List.forall_mem_cons.mpr ⟨m9, List.forall_mem_nil _⟩⟩⟩⟩⟩⟩⟩⟩⟩) hkf hkP
    fun g' h' tk o' k' ps' r F' N' B' X' T' O' l1 l2 TS => ?_
  obtain ⟨c3, rfl, ⟨c, oc, vs, t, e1, e2, e3, e4⟩, hc⟩ := TS
  cases e1
  have hsz : s.heap.objs.size ≤ c3 := by
    rcases hc with ⟨_, h⟩ | h
    · exact h
    · exact absurd (congrArg Array.size h) (by simp)
  have hL : L < c3 := Nat.lt_of_lt_of_le F.ns.lt hsz
  refine h g' h' tk o' k' c3 oc r F' (fun p hp => ?_) B' X' O' l1 l2 ⟨vs, t, e3, e4⟩ (Nat.lt_of_lt_of_le (Heap.lt_size (N _ m9).1) hsz)
  have : p ∈ ((fd, o') :: (459, tabN c3) :: [(It, io), (D, lo), (L + 1 + 1 + 1 + 1, os), (L + 1 + 1 + 1, ol), (L + 1 + 1, ob), (L + 1, oa), (466, tabL c1 c2), (c1, oc1), (c2, oc2)]) ++ [(c3, oc)] := hp
  rcases List.mem_append.mp this with hp | hp
  · exact N' p hp
  · rw [List.mem_singleton.mp hp]
    exact ⟨e2, (Nat.ne_of_gt hL), Heap.get?_none_of_le (Nat.le_trans F'.above (Nat.le_of_lt hL))⟩
theorem node_use1 (hs : sg < 6) (hp : Pre2 sg a b)
    (hA : A.handled = none) (hfr : A.frames = some (env :: outer)) (hd : A.depth ≤ 900 - 6 * 70) (hu : A.units ≤ 9000 - 99 * 70)
    (W : Wd w base) (B : Below A₀ base outer g) (F : Fr g L s.heap m) (N : News g L s.heap news) (hf : env.frame = some L) (hk : env.scope.kind = .function)
    (FO : FeedO w o D k) (hS : (fd == sysModules) = false) (C : CellsAt s.heap D) (h0 : 0 ≤ k) (h1 : k + 7 ≤ 100000)
    (mf : (fd, o) ∈ news) (mP : (459, tabN c3) ∈ news) (m1 : (It, io) ∈ news) (m2 : (D, lo) ∈ news) (m3 : (L + 1 + 1 + 1 + 1, os) ∈ news) (m4 : (L + 1 + 1 + 1, ol) ∈ news) (m5 : (L + 1 + 1, ob) ∈ news) (m6 : (L + 1, oa) ∈ news) (m7 : (466, tabL c1 c2) ∈ news) (m8 : (c1, oc1) ∈ news) (m9 : (c2, oc2) ∈ news) (m10 : (c3, oc3) ∈ news) (h3 : RecO oc3 qualN)
    (hfP : @Ne Nat fd 459) (hkf : AllNeN fd [(It, io), (D, lo), (L + 1 + 1 + 1 + 1, os), (L + 1 + 1 + 1, ol), (L + 1 + 1, ob), (L + 1, oa), (466, tabL c1 c2), (c1, oc1), (c2, oc2), (c3, oc3)]) (hkP : AllNeN 459 [(It, io), (D, lo), (L + 1 + 1 + 1 + 1, os), (L + 1 + 1 + 1, ol), (L + 1 + 1, ob), (L + 1, oa), (466, tabL c1 c2), (c1, oc1), (c2, oc2), (c3, oc3)])
    (h : ∀ g' h' tk o' k', RelS (FrOf outer) g g' → Fr g' L h' m → News g' L h' [(fd, o'), (459, tabN c3), (It, io), (D, lo), (L + 1 + 1 + 1 + 1, os), (L + 1 + 1 + 1, ol), (L + 1 + 1, ob), (L + 1, oa), (466, tabL c1 c2), (c1, oc1), (c2, oc2), (c3, oc3)] →
      Below A₀ base outer g' → (Kt w.params).In g' → FeedO w o' D k' → k ≤ k' → k' ≤ k + 7 → Q (.bool true) { s with heap := h', toks := tk }) :
    wpAny (model PySem.Challenge.rw_nz0031_02.row.prog w) A (call (.ref 464) [.ref fd, .str (sgS sg) tg, .int a ta, .int b tb]) Q E s := by
  refine node_use [(It, io), (D, lo), (L + 1 + 1 + 1 + 1, os), (L + 1 + 1 + 1, ol), (L + 1 + 1, ob), (L + 1, oa), (466, tabL c1 c2), (c1, oc1), (c2, oc2), (c3, oc3)] hs hp hA hfr hd hu W B F N hf hk FO hS C h0 h1 mf mP hfP (.inr ⟨c3, rfl, h3.rec N m10⟩)
    (List.forall_mem_cons.mpr ⟨m1, List.forall_mem_cons.mpr ⟨m2, List.forall_mem_cons.mpr ⟨m3, List.forall_mem_cons.mpr ⟨m4, List.forall_mem_cons.mpr ⟨m5, List.forall_mem_cons.mpr ⟨m6, List.forall_mem_cons.mpr ⟨m7, List.forall_mem_cons.mpr ⟨m8, List.forall_mem_cons.mpr ⟨m9, List.forall_mem_cons.mpr ⟨m10, List.forall_mem_nil _⟩⟩⟩⟩⟩⟩⟩⟩⟩⟩) hkf hkP
    fun g' h' tk o' k' ps' r F' N' B' X' T' O' l1 l2 TS => ?_
  obtain ⟨c', rfl, _, hc⟩ := TS
  have hcc : c' = c3 := by
    rcases hc with ⟨h, _⟩ | h
    · exact absurd (congrArg Array.size h) (by simp)
    · simpa using h
  subst hcc
  exact h g' h' tk o' k' r F' N' B' X' O' l1 l2
end
/-- a loop of six turns over a range -/
theorem for6 {prog : Program} {w : World} {A : Around} {env : Env} {x : Str} {px : Pos} {body : List Stmt} {It : Addr} {R : Result → Shared → Prop} {s : Shared} (hh : A.handled = none) (J : Nat → Shared → Prop) (h0 : J 0 s)
    (hit : ∀ i s, J i s → IsRangeIter s.heap It (i : Int) (6 - (i : Int)) 1)
    (turn : ∀ i s₁ h', i < 6 → J i s₁ → IsRangeIter h' It ((i + 1 : Nat) : Int) (6 - ((i + 1 : Nat) : Int)) 1 → Heap.SameBut It s₁.heap h' →
      wpAny (model prog w) A (storeName env x (.int (i : Int) s₁.toks)) (fun _ s₂ => wpAny (model prog w) A (execs body env) (fun f s₃ => f = .next ∧ J (i + 1) s₃) (fun _ _ => False) s₂) (fun _ _ => False) { s₁ with heap := h', toks := s₁.toks + 1 })
    (done : ∀ s₁ h', J 6 s₁ → Heap.ExtBut It s₁.heap h' → R (.ok .next) { s₁ with heap := h' }) :
    codeAny (model prog w) A (.forLoop (.Name x px) (.ref It) body [] env) R s := by
  refine codeAny_forLoop (fun n s' => ∃ i, i ≤ 6 ∧ n = 7 - i ∧ J i s') ?_ 7 ⟨0, by decide, rfl, h0⟩
  rintro n s' ⟨i, hi, rfl, hJ⟩
  have h1 := hit i s' hJ
  by_cases hlt : i < 6
  · refine wpAny_pyNext_range_item h1 (by omega) fun h₁ hit₁ hs₁ => ?_
    have e1 : (i : Int) + 1 = ((i + 1 : Nat) : Int) := by push_cast; rfl
    have e2 : 6 - (i : Int) - 1 = 6 - ((i + 1 : Nat) : Int) := by push_cast; omega
    rw [e1, e2] at hit₁
    refine wpAny_assign_Name (wpAny_mono (turn i s' h₁ hlt hJ hit₁ hs₁) (fun _ s₂ h₂ => wpAny_mono h₂ (fun f s₃ h₃ => ?_) fun _ _ x => x.elim) fun _ _ x => x.elim)
    obtain ⟨rfl, hJ'⟩ := h₃
    exact ⟨7 - (i + 1), by omega, i + 1, by omega, rfl, hJ'⟩
  · have h6 : i = 6 := by omega
    subst h6
    refine wpAny_pyNext_range_end hh h1 (by decide) fun h₁ he₁ => wpAny_execs_nil ?_
    exact done s' h₁ hJ he₁

-- part LW3
def forOf : List Stmt → Option (List Stmt)
  | _ :: .For _ _ body _ _ :: _ => some body
  | _ => none
noncomputable def lawBody (w : World) : Option (List Stmt × Scope) :=
  match (Kt w.params).lookup 471 with
  | some o => match o.data with
    | .func fd => match fd.body with
      | .stmts b => (forOf b).map fun x => (x, fd.scope)
      | _ => none
    | _ => none
  | none => none
def FeedIs (m : Str → Option Value) (fd : Addr) : Prop := m (Str.ofString "feed") = some (.ref fd)
def Lap0 (w : World) (g0 : Heap) (L fd D It : Addr) (s0 : Shared) (s : Shared) : Prop :=
  ∃ h tk m o ws ns c oa ob ol os va vb vl vs, s = { s0 with heap := h, toks := tk } ∧ Fr g0 L h m ∧ FeedIs m fd ∧
    News g0 L h [(fd, o), (459, tabObj #[]), (It, itO ((0 : Nat) : Int) (6 - ((0 : Nat) : Int))), (D, listOf (List.toArray ws) c), (L + 1 + 1 + 1 + 1, os), (L + 1 + 1 + 1, ol), (L + 1 + 1, ob), (L + 1, oa), (466, tabObj #[])] ∧
    FeedO w o D 0 ∧ IntsAre ws ns ∧ ns.length ≤ 60 ∧ oa.data = .cell va ∧ ob.data = .cell vb ∧ ol.data = .cell vl ∧ os.data = .cell vs
def Lap1 (w : World) (base g0 : Heap) (L fd D It : Addr) (s0 : Shared) (i : Nat) (s : Shared) : Prop :=
  ∃ g h tk m o k ws ns c oa ob ol os va vb vl vs c1 c2 c3 oc1 oc2 oc3, s = { s0 with heap := h, toks := tk } ∧ Below (Ak 90 []) base [] g ∧ RelS [] g0 g ∧ Fr g L h m ∧ FeedIs m fd ∧
    News g L h [(fd, o), (459, tabN c3), (It, itO (i : Int) (6 - (i : Int))), (D, listOf (List.toArray ws) c), (L + 1 + 1 + 1 + 1, os), (L + 1 + 1 + 1, ol), (L + 1 + 1, ob), (L + 1, oa), (466, tabL c1 c2), (c1, oc1), (c2, oc2), (c3, oc3)] ∧
    FeedO w o D k ∧ 0 ≤ k ∧ k ≤ 18 * (i : Int) ∧ IntsAre ws ns ∧ ns.length ≤ 60 ∧ oa.data = .cell va ∧ ob.data = .cell vb ∧ ol.data = .cell vl ∧ os.data = .cell vs ∧
    RecO oc1 qualL ∧ RecO oc2 qualL ∧ RecO oc3 qualN ∧ @LT.lt Nat _ It c1 ∧ @LT.lt Nat _ c1 c2 ∧ @LT.lt Nat _ c2 c3
def LapEnd (w : World) (base g0 : Heap) (L fd D It : Addr) (s0 : Shared) (i : Nat) (f : Flow) (s : Shared) : Prop := f = .next ∧ Lap1 w base g0 L fd D It s0 i s
theorem upd_same {g h h' : Heap} {L d : Addr} {m : Str → Option Value} {o o' : Obj} {news : List (Addr × Obj)} {G : Obj → List (Addr × Obj)} (F : Fr g L h m) (N : News g L h news) (U : UpdF d o news G) (hs : Heap.SameBut d h h') (ho' : h'.get? d = some o') : Fr g L h' m ∧ News g L h' (G o') := by
  obtain ⟨own, rest, rfl, hg, h1, h2⟩ := U.split
  have hm := N (d, o) (List.mem_append_right _ (.head _))
  refine ⟨⟨F.ns.sameBut hs (Ne.symm hm.2.1), fun b ob e => (hs.2 b (fun q => ?_)).trans (F.keep b ob e), F.above⟩, hg o' ▸ N.setAt h1 h2 hs ho'⟩
  rw [q, hm.2.2] at e; cases e
theorem allNeN_ne {d : Addr} : ∀ {l : List (Addr × Obj)}, AllNe d l → AllNeN d l
  | [], _ => trivial
  | _ :: _, h => ⟨h.1, allNeN_ne h.2⟩
theorem lap_end {w : World} {base g0 g' h : Heap} {L fd D It c1 c2 c3 : Addr} {s0 : Shared} {i : Nat} {tk : Nat} {m : Str → Option Value} {o oa ob ol os oc1 oc2 oc3 : Obj} {k : Int} {ws : List Value} {ns : List Int} {c : Nat} {va vb vl vs : Option Value}
    (F : Fr g' L h m) (N : News g' L h [(fd, o), (459, tabN c3), (It, itO (i : Int) (6 - (i : Int))), (D, listOf (List.toArray ws) c), (L + 1 + 1 + 1 + 1, os), (L + 1 + 1 + 1, ol), (L + 1 + 1, ob), (L + 1, oa), (466, tabL c1 c2), (c1, oc1), (c2, oc2), (c3, oc3)])
    (B : Below (Ak 90 []) base [] g') (r : RelS [] g0 g') (hFd : FeedIs m fd) (FO : FeedO w o D k) (k0 : 0 ≤ k) (k1 : k ≤ 18 * (i : Int)) (hI : IntsAre ws ns) (hl : ns.length ≤ 60) (da : oa.data = .cell va) (db : ob.data = .cell vb) (dl : ol.data = .cell vl) (ds : os.data = .cell vs)
    (r1 : RecO oc1 qualL) (r2 : RecO oc2 qualL) (r3 : RecO oc3 qualN) (t1 : @LT.lt Nat _ It c1) (t2 : @LT.lt Nat _ c1 c2) (t3 : @LT.lt Nat _ c2 c3) : LapEnd w base g0 L fd D It s0 i .next { s0 with heap := h, toks := tk } :=
  ⟨rfl, g', h, tk, m, o, k, ws, ns, c, oa, ob, ol, os, va, vb, vl, vs, c1, c2, c3, oc1, oc2, oc3, rfl, B, r, F, hFd, N, FO, k0, k1, hI, hl, da, db, dl, ds, r1, r2, r3, t1, t2, t3⟩
theorem rk_i1 {sg : Nat} {a b q : Int} (h : dueD sg a b = some q) : ∀ v, (∃ r, dueD sg a b = some r ∧ ∃ t, v = Value.int r t) → ∃ t, v = .int q t := fun v ⟨r, e, t, e2⟩ => by rw [h] at e; cases e; exact ⟨t, e2⟩
theorem rk_i2 {sg : Nat} {a b q lap : Int} (h : dueD sg a b = some q) : ∀ sp, (dueD sg a b = none ∧ sp = 7 + lap) → False := fun sp e => by rw [h] at e; cases e.1
theorem rk_f1 {sg : Nat} {a b : Int} (h : dueD sg a b = none) : ∀ v, (∃ r, dueD sg a b = some r ∧ ∃ t, v = Value.int r t) → False := fun v ⟨r, e, t, e2⟩ => by rw [h] at e; cases e
theorem rk_f2 {sg : Nat} {a b lap : Int} : ∀ sp, (dueD sg a b = none ∧ sp = 7 + lap) → sp = 7 + lap := fun _ e => e.2
theorem qt_i1 {a b : Int} : ∀ v, (b ≠ 0 ∧ ∃ t, v = Value.int (a.tdiv b) t) → ∃ t, v = .int (a.tdiv b) t := fun _ e => e.2
theorem qt_i2 {b lap : Int} (h : b ≠ 0) : ∀ sp, (b = 0 ∧ sp = lap) → False := fun _ e => h e.1
theorem qt_f1 {a b : Int} (h : b = 0) : ∀ v, (b ≠ 0 ∧ ∃ t, v = Value.int (a.tdiv b) t) → False := fun _ e => e.1 h
theorem qt_f2 {b lap : Int} : ∀ sp, (b = 0 ∧ sp = lap) → sp = lap := fun _ e => e.2
theorem item_sign {prog : Program} {w : World} {A : Around} {E : Value → Shared → Prop} {s : Shared} {Q : Value → Shared → Prop} {value slice : Expr} {t : Addr} {u : Tok} {i : Int} {t0 t1 t2 t3 t4 t5 : Tok} (ht : IsTup s.heap t [Value.str (Str.ofString "+") t0, .str (Str.ofString "-") t1, .str (Str.ofString "*") t2, .str (Str.ofString "div") t3, .str (Str.ofString "mod") t4, .str (Str.ofString "^") t5].toArray)
    (h0 : 0 ≤ i) (h1 : i ≤ 6 - 1) (h : ∀ (sg : Nat) t', sg < 6 → Q (.str (sgS sg) t') s)
    (hs : ∀ k u, subscripted slice false (.ref t) (.int k u) = operate [.ref t, .int k u] (getItem (.ref t) (.int k u)) := by intro _ _; with_unfolding_all rfl) :
    wpAny (model prog w) A (subscriptTail value slice (.ref t) (.int i u)) Q E s :=
  item_sg6 ht h0 (by omega) (fun t' => h i.toNat t' (by omega)) hs
theorem words_LW3_47 : True := by
  k_with_none
  k_with "m fill" => ((w_on; (have hfill : ∀ w : World, (Kt w.params).length = (Kt w.params).length ∧ PySem.Challenge.rw_nz0031_02.foot = PySem.Challenge.rw_nz0031_02.foot := by (k_fill; exact fun _ => ⟨rfl, rfl⟩)); clear hfill))
  k_with "m enter" => ((
    (refine wpAny_call ?_);
    k_dflt (refine' enter ?kW ?kB [] ?k0 ?ho ?hcd ?hroom ?hbind ?hloc ?_ ?c1 ?c2 ?c3 ?c4);
    (case kW => assumption);
    (case kB => assumption);
    (case k0 => exact fun _ h => nomatch h);
    (case ho => k_is);
    (case hcd => k_is);
    (case hroom => exact Nat.le_of_ble_eq_true rfl);
    (case hbind => exact BindsTo.of_eq rfl);
    (case hloc => exact locs rfl);
    (case c1 => decide);
    (case c2 => exact rfl);
    (case c3 => exact rfl);
    (case c4 => exact rfl);
    intro L h₁ p loose mean mg mb F N Bl X T lt eL tk;
    (dsimp only [List.map, hideAll] at F N Bl X T);
    (try k_fold)))
  k_with "m use" => (((case hd => exact Nat.le_of_ble_eq_true rfl); (case hu => exact Nat.le_of_ble_eq_true rfl); (case W => k_asm); (case B => k_asm); (case F => k_asm); (case N => k_asm); k_whole))
  k_with "w leaving ref" => ((k_here; k_dflt (first
  | (refine' leave_new ?B ?F rfl rfl rfl ?fl ?_; (case fl => k_asm); (case F => k_asm); (case B => k_asm); intro h9 tk9 r9 ff9 fl9)
  | (refine' leave_own rfl rfl ?ff ?rel ?hL (.inr ?fl) ?_; (case fl => assumption); (case ff => assumption); (case rel => assumption); (case hL => assumption); intro h9 tk9 r9 ff9 fl9))))
  k_with "w exec Raise some none" => ((k_here; k_dflt (refine' raise_own rfl ?_)))
  k_with "w Exists" => ((k_dflt (refine' raise_end ?X ?F ?fl ?_; (case X => k_asm); (case F => k_asm); (case fl => k_asm))))
  k_with "m enterH" => ((
    (refine wpAny_call ?_);
    k_dflt (refine' enter ?kW ?kB _ ?k0 ?ho ?hcd ?hroom ?hbind ?hloc ?_ ?c1 ?c2 ?c3 ?c4);
    (case k0 => assumption);
    (case kW => assumption);
    (case kB => assumption);
    (case ho => k_is);
    (case hcd => k_is);
    (case hroom => exact Nat.le_of_ble_eq_true rfl);
    (case hbind => exact BindsTo.of_eq rfl);
    (case hloc => exact locs rfl);
    (case c1 => decide);
    (case c2 => exact rfl);
    (case c3 => exact rfl);
    (case c4 => exact rfl);
    intro L h₁ p loose mean mg mb F N Bl X T lt eL tk;
    (dsimp only [List.map] at F N Bl X T);
    (try k_fold)))
  k_with "w subscriptTail Name Constant ref int" => ((k_here; (with_reducible show wpAny _ _ (subscriptTail _ _ (Value.ref _) (Value.int _ _)) _ _ _); k_dflt (refine' item_tupleT ?t ?a ?b ?c ?d ?_; (case t => exact News.isTup (by k_asm) (by k_mem)); (case a => decide); (case b => decide); (case c => rfl); (case d => rfl); k_whole)))
  k_with "w subscriptTail Attribute Name Subscript ref str" => ((k_here; (with_reducible show wpAny _ _ (subscriptTail _ _ (Value.ref _) (Value.str _ _)) _ _ _); k_dflt (refine' item_strTab ?T ?hl ?_; (case T => k_tabat); (case hl => rfl); k_whole); intro v' hv'; cases hv'))
  k_with "m mems" => ((repeat (first | exact List.forall_mem_nil _ | refine List.forall_mem_cons.mpr ⟨by k_mem, ?_⟩)))
  k_with "w eval Call" => ((k_here; k_dflt (refine Call_ ?_)))
  k_with "w callWith ref" => ((k_here; k_dflt (refine' callWith_K ?k1 ?k2 ?_; (case k1 => k_asm); (case k2 => k_is); k_whole)))
  k_with "w eval Name" => ((k_here; (rename FeedIs _ _ => hFd); k_dflt (refine' nameX_L ?F ?v ?_ ?a ?b; (case a => rfl); (case b => rfl); (case F => k_asm); (case v => first | exact rfl | exact hFd); k_whole)))
  k_with "m usd" => (((case hd => exact Nat.le_of_ble_eq_true rfl); (case hu => exact Nat.le_of_ble_eq_true rfl); (case W => k_asm); (case B => k_asm); (case F => k_asm); (case N => k_asm); (case U => k_updF); (case FO => k_asm); (case hS => k_asm); (case C => exact cells_news (by k_asm) (by k_mem) (by assumption) (by assumption)); (case k0 => omega); (case k1 => omega); k_whole))
  k_with "m ush" => (((case hd => exact Nat.le_of_ble_eq_true rfl); (case hu => exact Nat.le_of_ble_eq_true rfl); (case W => k_asm); (case W2 => k_asm); (case B => k_asm); (case B2 => k_asm); (case F => k_asm); (case N => k_asm); (case N2 => k_asm); (case hc => k_mem); (case hc2 => k_mem); (case hlam => exact rfl); (case hca => exact rfl); (case hcb => exact rfl); (case hcl => exact rfl); (case m1 => k_mem); (case m2 => k_mem); (case m3 => k_mem); (case hda => k_asm); (case hdb => k_asm); (case hdl => k_asm); (case hp => assumption); (case hcr => first | (refine' RecO.rec ?x7 ?n7 ?m7; (case n7 => k_asm); (case m7 => k_mem); (case x7 => (show RecO _ qualL; with_reducible assumption))) | exact codeRec_news (by k_asm) (by k_mem) (by assumption) (by assumption)); k_whole))
  k_with "m pr" => ((first | assumption | exact And.right (by first | assumption | exact And.right (by first | assumption | exact And.right (by first | assumption | exact And.right (by first | assumption | exact And.right (by first | assumption | exact And.right (by first | assumption | exact And.right (by first | assumption | exact And.right (by first | assumption | exact And.right (by first | assumption | exact And.right (by first | assumption | exact And.right (by first | assumption | exact And.right (by first | assumption | exact And.right (by first | assumption | exact And.right (by assumption))))))))))))))))
  k_with "w k_ne" => ((refine neN ?_; (try dsimp only); (first | (with_reducible exact Nat.ne_of_lt (by k_extra "m pr")) | (with_reducible exact Nat.ne_of_gt (by k_extra "m pr")) | (with_reducible exact Ne.symm (by k_extra "m pr")) | (with_reducible k_extra "m pr") | (with_reducible exact Nat.ne_of_lt (And.left (by k_extra "m pr"))) | (with_reducible exact Nat.ne_of_gt (And.left (by k_extra "m pr"))) | (with_reducible exact Ne.symm (And.left (by k_extra "m pr"))) | (with_reducible exact And.left (by k_extra "m pr")) | omega)))
  k_with "m nes" => ((dsimp only [AllNeN]; repeat' (first | exact True.intro | refine And.intro (by k_ne) ?_)))
  k_with "m usn" => (((case hs => assumption); (case hp => assumption); (case hd => exact Nat.le_of_ble_eq_true rfl); (case hu => exact Nat.le_of_ble_eq_true rfl); (case W => k_asm); (case B => k_asm); (case F => k_asm); (case N => k_asm); (case mP => k_mem); (case mf => k_mem); (case FO => k_asm); (case hS => k_asm); (case m1 => k_mem); (case m7 => k_mem); (case C => exact cells_news (by k_asm) (by k_mem) (by assumption) (by assumption)); (case m2 => k_mem); (case m3 => k_mem); (case m4 => k_mem); (case m5 => k_mem); (case m6 => k_mem); (case m8 => k_mem); (case m9 => k_mem); (case k0 => omega); (case k1 => omega); (case ne => omega); (case n1 => k_extra "m nes"); (case n2 => k_extra "m nes"); k_whole))
  k_with "m rel" => ((repeat (first | assumption | exact RelS.refl _ _ | refine RelS.trans ?_ (by assumption))))
  k_with "w call ref" => ((k_here; k_dflt (first
  | (refine' DrawS.useN (draw_ok _ _ _ ?h0 ?h1) rfl rfl rfl ?hd ?hu ?W ?B ?F ?N ?U rfl rfl ?FO ?hS ?C ?k0 ?k1 ?_; (case h0 => decide); (case h1 => decide); k_extra "m usd"; intro v' h' tk' o' k' P' F' N' K' O' l1' l2'; obtain ⟨i', t', e', b1', b2'⟩ := P'; subst e'; (try dsimp only at N'))
  | (refine' pair_use ?hs rfl rfl ?hd ?hu ?W ?B ?F ?N ?U rfl rfl ?FO ?hS ?C ?k0 ?k1 ?_; (case hs => assumption); k_extra "m usd"; intro tu' a' b' ta' tb' h' tk' o' k' P' F' N' l' O' l1' l2'; (try dsimp only at N'); (try dsimp only [AllNeN] at l'))
  | (refine' due_use ?hs ?hp rfl rfl ?hd ?hu ?W ?B ?F ?N rfl rfl (fun h' tk' c' F' N' => ?_) (fun r' t' h' tk' c' F' N' => ?_); (case hs => assumption); (case hp => exact pre_of (by assumption)); (case hd => exact Nat.le_of_ble_eq_true rfl); (case hu => exact Nat.le_of_ble_eq_true rfl); (case W => k_asm); (case B => k_asm); (case F => k_asm); (case N => k_asm); k_whole)
  | (refine' part_use ?hb ?ha rfl rfl ?hd ?hu ?W ?B ?F ?N rfl rfl (fun tu' t1' t2' h' tk' F' N' l' => ?_); (case hb => assumption); (case ha => exact (pre_of (by assumption)).1); (case hd => exact Nat.le_of_ble_eq_true rfl); (case hu => exact Nat.le_of_ble_eq_true rfl); (case W => k_asm); (case B => k_asm); (case F => k_asm); (case N => k_asm); k_whole; (replace l' := allNeN_ne l'); (try dsimp only [AllNeN] at l'))
  | (refine' heard_I ?i1 ?i2 rfl rfl ?hd ?hu ?W ?B ?F ?N rfl rfl ?hc (reck_hcall ?hs ?hp ?W2 ?B2 ?N2 rfl ?hc2 ?hlam ?hca ?hcb ?hcl ?hcs ?m1 ?m2 ?m3 ?m4 ?hda ?hdb ?hdl ?hds ?hcr) (fun t' h' tk' F' N' => ?_); k_extra "m ush"; (case hcs => exact rfl); (case m4 => k_mem); (case hds => k_asm); (case hs => assumption); (case i1 => exact rk_i1 (by assumption)); (case i2 => exact rk_i2 (by assumption)))
  | (refine' heard_F ?i1 ?i2 rfl rfl ?hd ?hu ?W ?B ?F ?N rfl rfl ?hc (reck_hcall ?hs ?hp ?W2 ?B2 ?N2 rfl ?hc2 ?hlam ?hca ?hcb ?hcl ?hcs ?m1 ?m2 ?m3 ?m4 ?hda ?hdb ?hdl ?hds ?hcr) (fun tu' t1' t2' g' h' tk' r' F' N' l' B' X' T' C' => ?_); k_extra "m ush"; (case hcs => exact rfl); (case m4 => k_mem); (case hds => k_asm); (case hs => assumption); (case i1 => exact rk_f1 (by assumption)); (case i2 => exact rk_f2); obtain ⟨p', lo', me', mg', mb', T'⟩ := T'; (have HC8 := C' _ _ (by assumption)); (try dsimp only [AllNeN] at l'))
  | (refine' heard_I ?i1 ?i2 rfl rfl ?hd ?hu ?W ?B ?F ?N rfl rfl ?hc (quot_hcall ?hp ?W2 ?B2 ?N2 rfl ?hc2 ?hlam ?hca ?hcb ?hcl ?m1 ?m2 ?m3 ?hda ?hdb ?hdl ?hcr) (fun t' h' tk' F' N' => ?_); k_extra "m ush"; (case i1 => exact qt_i1); (case i2 => exact qt_i2 (by assumption)))
  | (refine' heard_F ?i1 ?i2 rfl rfl ?hd ?hu ?W ?B ?F ?N rfl rfl ?hc (quot_hcall ?hp ?W2 ?B2 ?N2 rfl ?hc2 ?hlam ?hca ?hcb ?hcl ?m1 ?m2 ?m3 ?hda ?hdb ?hdl ?hcr) (fun tu' t1' t2' g' h' tk' r' F' N' l' B' X' T' C' => ?_); k_extra "m ush"; (case i1 => exact qt_f1 (by assumption)); (case i2 => exact qt_f2); obtain ⟨p', lo', me', mg', mb', T'⟩ := T'; (have HC8 := C' _ _ (by assumption)); (try dsimp only [AllNeN] at l'))
  | (refine' node_use0 (io := itO _ _) (lo := listOf _ _) ?hs ?hp rfl rfl ?hd ?hu ?W ?B ?F ?N rfl rfl ?FO ?hS ?C ?k0 ?k1 ?mf ?mP ?m1 ?m2 ?m3 ?m4 ?m5 ?m6 ?m7 ?m8 ?m9 ?ne ?n1 ?n2 ?_; k_extra "m usn"; intro g' h' tk' o' k' c3' oc3' r' F' N' B' X' O' l1' l2' R3' lt')
  | (refine' node_use1 (io := itO _ _) (lo := listOf _ _) ?hs ?hp rfl rfl ?hd ?hu ?W ?B ?F ?N rfl rfl ?FO ?hS ?C ?k0 ?k1 ?mf ?mP ?m1 ?m2 ?m3 ?m4 ?m5 ?m6 ?m7 ?m8 ?m9 ?m10 ?h3 ?ne ?n1 ?n2 ?_; k_extra "m usn"; (case m10 => k_mem); (case h3 => assumption); intro g' h' tk' o' k' r' F' N' B' X' O' l1' l2')
  )))
  k_with "w subscriptTail Tuple cons Call ref int" => ((k_here; (with_reducible show wpAny _ _ (subscriptTail _ _ (Value.ref _) (Value.int _ _)) _ _ _); k_dflt (refine' item_sign ?t ?a ?b ?_; (case t => exact News.isTup (by k_asm) (by k_mem)); (case a => assumption); (case b => assumption); k_whole; intro sg' t' hs')))
  trivial
set_option maxHeartbeats 8000000 in
theorem lap0_ok_z (w : World) (base g0 : Heap) (W : Wd w base) (B : Below (Ak 90 []) base [] g0) (L fd D It : Addr) (hS : (fd == sysModules) = false) (body : List Stmt) (sc : Scope) (hb : lawBody w = some (body, sc))
    (f1 : @LT.lt Nat _ (L + 1 + 1 + 1 + 1) fd) (f2 : @LT.lt Nat _ fd D) (f3 : @LT.lt Nat _ D It) (f4 : @LT.lt Nat _ 466 L) (s0 s₁ : Shared) (h' : Heap) (J : Lap0 w g0 L fd D It s0 s₁)
    (hit : IsRangeIter h' It ((0 + 1 : Nat) : Int) (6 - ((0 + 1 : Nat) : Int)) 1) (hs : Heap.SameBut It s₁.heap h')
    (z0 : @Ne Nat (fd) (459)) (z1 : @Ne Nat (fd) (It)) (z2 : @Ne Nat (fd) (D)) (z3 : @Ne Nat (fd) (L + 1 + 1 + 1 + 1)) (z4 : @Ne Nat (fd) (L + 1 + 1 + 1)) (z5 : @Ne Nat (fd) (L + 1 + 1)) (z6 : @Ne Nat (fd) (L + 1)) (z7 : @Ne Nat (fd) (466)) (z8 : @Ne Nat (459) (It)) (z9 : @Ne Nat (459) (D)) (z10 : @Ne Nat (459) (L + 1 + 1 + 1 + 1)) (z11 : @Ne Nat (459) (L + 1 + 1 + 1)) (z12 : @Ne Nat (459) (L + 1 + 1)) (z13 : @Ne Nat (459) (L + 1)) (z14 : @Ne Nat (459) (466)) (z15 : @Ne Nat (It) (D)) (z16 : @Ne Nat (It) (L + 1 + 1 + 1 + 1)) (z17 : @Ne Nat (It) (L + 1 + 1 + 1)) (z18 : @Ne Nat (It) (L + 1 + 1)) (z19 : @Ne Nat (It) (L + 1)) (z20 : @Ne Nat (It) (466)) (z21 : @Ne Nat (D) (L + 1 + 1 + 1 + 1)) (z22 : @Ne Nat (D) (L + 1 + 1 + 1)) (z23 : @Ne Nat (D) (L + 1 + 1)) (z24 : @Ne Nat (D) (L + 1)) (z25 : @Ne Nat (D) (466)) (z26 : @Ne Nat (L + 1 + 1 + 1 + 1) (L + 1 + 1 + 1)) (z27 : @Ne Nat (L + 1 + 1 + 1 + 1) (L + 1 + 1)) (z28 : @Ne Nat (L + 1 + 1 + 1 + 1) (L + 1)) (z29 : @Ne Nat (L + 1 + 1 + 1 + 1) (466)) (z30 : @Ne Nat (L + 1 + 1 + 1) (L + 1 + 1)) (z31 : @Ne Nat (L + 1 + 1 + 1) (L + 1)) (z32 : @Ne Nat (L + 1 + 1 + 1) (466)) (z33 : @Ne Nat (L + 1 + 1) (L + 1)) (z34 : @Ne Nat (L + 1 + 1) (466)) (z35 : @Ne Nat (L + 1) (466)) :
    wpAny (model PySem.Challenge.rw_nz0031_02.row.prog w) ((Ak 90 []).deeper (envOfC (Str.ofString "law") sc L 471 (.ref 470))) (storeName (envOfC (Str.ofString "law") sc L 471 (.ref 470)) (Str.ofString "lap") (.int ((0 : Nat) : Int) s₁.toks))
      (fun _ s₂ => wpAny (model PySem.Challenge.rw_nz0031_02.row.prog w) ((Ak 90 []).deeper (envOfC (Str.ofString "law") sc L 471 (.ref 470))) (execs body (envOfC (Str.ofString "law") sc L 471 (.ref 470))) (LapEnd w base g0 L fd D It s0 (0 + 1)) (fun _ _ => False) s₂)
      (fun _ _ => False) { s₁ with heap := h', toks := s₁.toks + 1 } := by
  have hb2 : some (_, _) = some (body, sc) := hb
  clear hb
  cases hb2
  obtain ⟨h, tk, m, o, ws, ns, c, oa, ob, ol, os, va, vb, vl, vs, rfl, F0, hFd, N0, FO, hI, hlen, da, db, dl, ds⟩ := J
  have T := W.top
  obtain ⟨p, loose, mean, mg, mb, T⟩ := T
  have T := T.keeps B.stays
  have X := W.K.keeps B.stays
  have HC0 : CodeHd base 463 459 := codeHd_of_K W.K (by kernel_rfl)
  have HC1 : CodeHd base 470 466 := codeHd_of_K W.K (by kernel_rfl)
  have HC := HC1.keeps B.stays
  have k0 : (0 : Int) ≤ 0 := Int.le_refl _
  k_extra "m fill"
  w_strict (
    (have FN := upd_same F0 N0 (by k_updF) hs hit)
    (obtain ⟨F, N⟩ := FN)
    (try dsimp only at N)
    clear F0 N0
    (try k_fold)
    k_steps
    all_goals first
      | exact absurd rfl (by assumption)
      | (refine' lap_end ?F ?N ?B ?r ?fd ?FO ?k0 ?k1 ?hI ?hl ?da ?db ?dl ?ds ?r1 ?r2 ?r3 ?t1 ?t2 ?t3; (case F => assumption); (case N => assumption); (case B => assumption); (case FO => assumption); (case k0 => omega); (case k1 => omega); (case hI => assumption); (case hl => assumption); (case da => assumption); (case db => assumption); (case dl => assumption); (case ds => assumption); (case t1 => omega); (case t2 => omega); (case t3 => omega); (case r3 => assumption); (case r => k_extra "m rel"); (case fd => (rename FeedIs _ _ => hF9; exact hF9)); (case r1 => first | exact ⟨_, _, by assumption, by assumption⟩ | assumption); (case r2 => first | exact ⟨_, _, by assumption, by assumption⟩ | assumption)))
theorem lap0_ok (w : World) (base g0 : Heap) (W : Wd w base) (B : Below (Ak 90 []) base [] g0) (L fd D It : Addr) (hS : (fd == sysModules) = false) (body : List Stmt) (sc : Scope) (hb : lawBody w = some (body, sc))
    (f1 : @LT.lt Nat _ (L + 1 + 1 + 1 + 1) fd) (f2 : @LT.lt Nat _ fd D) (f3 : @LT.lt Nat _ D It) (f4 : @LT.lt Nat _ 466 L) (s0 s₁ : Shared) (h' : Heap) (J : Lap0 w g0 L fd D It s0 s₁)
    (hit : IsRangeIter h' It ((0 + 1 : Nat) : Int) (6 - ((0 + 1 : Nat) : Int)) 1) (hs : Heap.SameBut It s₁.heap h') :
    wpAny (model PySem.Challenge.rw_nz0031_02.row.prog w) ((Ak 90 []).deeper (envOfC (Str.ofString "law") sc L 471 (.ref 470))) (storeName (envOfC (Str.ofString "law") sc L 471 (.ref 470)) (Str.ofString "lap") (.int ((0 : Nat) : Int) s₁.toks))
      (fun _ s₂ => wpAny (model PySem.Challenge.rw_nz0031_02.row.prog w) ((Ak 90 []).deeper (envOfC (Str.ofString "law") sc L 471 (.ref 470))) (execs body (envOfC (Str.ofString "law") sc L 471 (.ref 470))) (LapEnd w base g0 L fd D It s0 (0 + 1)) (fun _ _ => False) s₂)
      (fun _ _ => False) { s₁ with heap := h', toks := s₁.toks + 1 } :=
  lap0_ok_z w base g0 W B L fd D It hS body sc hb f1 f2 f3 f4 s0 s₁ h' J hit hs (by omega) (by omega) (by omega) (by omega) (by omega) (by omega) (by omega) (by omega) (by omega) (by omega) (by omega) (by omega) (by omega) (by omega) (by omega) (by omega) (by omega) (by omega) (by omega) (by omega) (by omega) (by omega) (by omega) (by omega) (by omega) (by omega) (by omega) (by omega) (by omega) (by omega) (by omega) (by omega) (by omega) (by omega) (by omega) (by omega)

-- part LW4
theorem words_LW4_48 : True := by
  k_with_none
  k_with "m fill" => ((w_on; (have hfill : ∀ w : World, (Kt w.params).length = (Kt w.params).length ∧ PySem.Challenge.rw_nz0031_02.foot = PySem.Challenge.rw_nz0031_02.foot := by (k_fill; exact fun _ => ⟨rfl, rfl⟩)); clear hfill))
  k_with "m enter" => ((
    (refine wpAny_call ?_);
    k_dflt (refine' enter ?kW ?kB [] ?k0 ?ho ?hcd ?hroom ?hbind ?hloc ?_ ?c1 ?c2 ?c3 ?c4);
    (case kW => assumption);
    (case kB => assumption);
    (case k0 => exact fun _ h => nomatch h);
    (case ho => k_is);
    (case hcd => k_is);
    (case hroom => exact Nat.le_of_ble_eq_true rfl);
    (case hbind => exact BindsTo.of_eq rfl);
    (case hloc => exact locs rfl);
    (case c1 => decide);
    (case c2 => exact rfl);
    (case c3 => exact rfl);
    (case c4 => exact rfl);
    intro L h₁ p loose mean mg mb F N Bl X T lt eL tk;
    (dsimp only [List.map, hideAll] at F N Bl X T);
    (try k_fold)))
  k_with "m use" => (((case hd => exact Nat.le_of_ble_eq_true rfl); (case hu => exact Nat.le_of_ble_eq_true rfl); (case W => k_asm); (case B => k_asm); (case F => k_asm); (case N => k_asm); k_whole))
  k_with "w leaving ref" => ((k_here; k_dflt (first
  | (refine' leave_new ?B ?F rfl rfl rfl ?fl ?_; (case fl => k_asm); (case F => k_asm); (case B => k_asm); intro h9 tk9 r9 ff9 fl9)
  | (refine' leave_own rfl rfl ?ff ?rel ?hL (.inr ?fl) ?_; (case fl => assumption); (case ff => assumption); (case rel => assumption); (case hL => assumption); intro h9 tk9 r9 ff9 fl9))))
  k_with "w exec Raise some none" => ((k_here; k_dflt (refine' raise_own rfl ?_)))
  k_with "w Exists" => ((k_dflt (refine' raise_end ?X ?F ?fl ?_; (case X => k_asm); (case F => k_asm); (case fl => k_asm))))
  k_with "m enterH" => ((
    (refine wpAny_call ?_);
    k_dflt (refine' enter ?kW ?kB _ ?k0 ?ho ?hcd ?hroom ?hbind ?hloc ?_ ?c1 ?c2 ?c3 ?c4);
    (case k0 => assumption);
    (case kW => assumption);
    (case kB => assumption);
    (case ho => k_is);
    (case hcd => k_is);
    (case hroom => exact Nat.le_of_ble_eq_true rfl);
    (case hbind => exact BindsTo.of_eq rfl);
    (case hloc => exact locs rfl);
    (case c1 => decide);
    (case c2 => exact rfl);
    (case c3 => exact rfl);
    (case c4 => exact rfl);
    intro L h₁ p loose mean mg mb F N Bl X T lt eL tk;
    (dsimp only [List.map] at F N Bl X T);
    (try k_fold)))
  k_with "w subscriptTail Name Constant ref int" => ((k_here; (with_reducible show wpAny _ _ (subscriptTail _ _ (Value.ref _) (Value.int _ _)) _ _ _); k_dflt (refine' item_tupleT ?t ?a ?b ?c ?d ?_; (case t => exact News.isTup (by k_asm) (by k_mem)); (case a => decide); (case b => decide); (case c => rfl); (case d => rfl); k_whole)))
  k_with "w subscriptTail Attribute Name Subscript ref str" => ((k_here; (with_reducible show wpAny _ _ (subscriptTail _ _ (Value.ref _) (Value.str _ _)) _ _ _); k_dflt (refine' item_strTab ?T ?hl ?_; (case T => k_tabat); (case hl => rfl); k_whole); intro v' hv'; cases hv'))
  k_with "m mems" => ((repeat (first | exact List.forall_mem_nil _ | refine List.forall_mem_cons.mpr ⟨by k_mem, ?_⟩)))
  k_with "w eval Call" => ((k_here; k_dflt (refine Call_ ?_)))
  k_with "w callWith ref" => ((k_here; k_dflt (refine' callWith_K ?k1 ?k2 ?_; (case k1 => k_asm); (case k2 => k_is); k_whole)))
  k_with "w eval Name" => ((k_here; (rename FeedIs _ _ => hFd); k_dflt (refine' nameX_L ?F ?v ?_ ?a ?b; (case a => rfl); (case b => rfl); (case F => k_asm); (case v => first | exact rfl | exact hFd); k_whole)))
  k_with "m usd" => (((case hd => exact Nat.le_of_ble_eq_true rfl); (case hu => exact Nat.le_of_ble_eq_true rfl); (case W => k_asm); (case B => k_asm); (case F => k_asm); (case N => k_asm); (case U => k_updF); (case FO => k_asm); (case hS => k_asm); (case C => exact cells_news (by k_asm) (by k_mem) (by assumption) (by assumption)); (case k0 => omega); (case k1 => omega); k_whole))
  k_with "m ush" => (((case hd => exact Nat.le_of_ble_eq_true rfl); (case hu => exact Nat.le_of_ble_eq_true rfl); (case W => k_asm); (case W2 => k_asm); (case B => k_asm); (case B2 => k_asm); (case F => k_asm); (case N => k_asm); (case N2 => k_asm); (case hc => k_mem); (case hc2 => k_mem); (case hlam => exact rfl); (case hca => exact rfl); (case hcb => exact rfl); (case hcl => exact rfl); (case m1 => k_mem); (case m2 => k_mem); (case m3 => k_mem); (case hda => k_asm); (case hdb => k_asm); (case hdl => k_asm); (case hp => assumption); (case hcr => first | (refine' RecO.rec ?x7 ?n7 ?m7; (case n7 => k_asm); (case m7 => k_mem); (case x7 => (show RecO _ qualL; with_reducible assumption))) | exact codeRec_news (by k_asm) (by k_mem) (by assumption) (by assumption)); k_whole))
  k_with "m pr" => ((first | assumption | exact And.right (by first | assumption | exact And.right (by first | assumption | exact And.right (by first | assumption | exact And.right (by first | assumption | exact And.right (by first | assumption | exact And.right (by first | assumption | exact And.right (by first | assumption | exact And.right (by first | assumption | exact And.right (by first | assumption | exact And.right (by first | assumption | exact And.right (by first | assumption | exact And.right (by first | assumption | exact And.right (by first | assumption | exact And.right (by assumption))))))))))))))))
  k_with "w k_ne" => ((refine neN ?_; (try dsimp only); (first | (with_reducible exact Nat.ne_of_lt (by k_extra "m pr")) | (with_reducible exact Nat.ne_of_gt (by k_extra "m pr")) | (with_reducible exact Ne.symm (by k_extra "m pr")) | (with_reducible k_extra "m pr") | (with_reducible exact Nat.ne_of_lt (And.left (by k_extra "m pr"))) | (with_reducible exact Nat.ne_of_gt (And.left (by k_extra "m pr"))) | (with_reducible exact Ne.symm (And.left (by k_extra "m pr"))) | (with_reducible exact And.left (by k_extra "m pr")) | omega)))
  k_with "m nes" => ((dsimp only [AllNeN]; repeat' (first | exact True.intro | refine And.intro (by k_ne) ?_)))
  k_with "m usn" => (((case hs => assumption); (case hp => assumption); (case hd => exact Nat.le_of_ble_eq_true rfl); (case hu => exact Nat.le_of_ble_eq_true rfl); (case W => k_asm); (case B => k_asm); (case F => k_asm); (case N => k_asm); (case mP => k_mem); (case mf => k_mem); (case FO => k_asm); (case hS => k_asm); (case m1 => k_mem); (case m7 => k_mem); (case C => exact cells_news (by k_asm) (by k_mem) (by assumption) (by assumption)); (case m2 => k_mem); (case m3 => k_mem); (case m4 => k_mem); (case m5 => k_mem); (case m6 => k_mem); (case m8 => k_mem); (case m9 => k_mem); (case k0 => omega); (case k1 => omega); (case ne => omega); (case n1 => k_extra "m nes"); (case n2 => k_extra "m nes"); k_whole))
  k_with "m rel" => ((repeat (first | assumption | exact RelS.refl _ _ | refine RelS.trans ?_ (by assumption))))
  k_with "w call ref" => ((k_here; k_dflt (first
  | (refine' DrawS.useN (draw_ok _ _ _ ?h0 ?h1) rfl rfl rfl ?hd ?hu ?W ?B ?F ?N ?U rfl rfl ?FO ?hS ?C ?k0 ?k1 ?_; (case h0 => decide); (case h1 => decide); k_extra "m usd"; intro v' h' tk' o' k' P' F' N' K' O' l1' l2'; obtain ⟨i', t', e', b1', b2'⟩ := P'; subst e'; (try dsimp only at N'))
  | (refine' pair_use ?hs rfl rfl ?hd ?hu ?W ?B ?F ?N ?U rfl rfl ?FO ?hS ?C ?k0 ?k1 ?_; (case hs => assumption); k_extra "m usd"; intro tu' a' b' ta' tb' h' tk' o' k' P' F' N' l' O' l1' l2'; (try dsimp only at N'); (try dsimp only [AllNeN] at l'))
  | (refine' due_use ?hs ?hp rfl rfl ?hd ?hu ?W ?B ?F ?N rfl rfl (fun h' tk' c' F' N' => ?_) (fun r' t' h' tk' c' F' N' => ?_); (case hs => assumption); (case hp => exact pre_of (by assumption)); (case hd => exact Nat.le_of_ble_eq_true rfl); (case hu => exact Nat.le_of_ble_eq_true rfl); (case W => k_asm); (case B => k_asm); (case F => k_asm); (case N => k_asm); k_whole)
  | (refine' part_use ?hb ?ha rfl rfl ?hd ?hu ?W ?B ?F ?N rfl rfl (fun tu' t1' t2' h' tk' F' N' l' => ?_); (case hb => assumption); (case ha => exact (pre_of (by assumption)).1); (case hd => exact Nat.le_of_ble_eq_true rfl); (case hu => exact Nat.le_of_ble_eq_true rfl); (case W => k_asm); (case B => k_asm); (case F => k_asm); (case N => k_asm); k_whole; (replace l' := allNeN_ne l'); (try dsimp only [AllNeN] at l'))
  | (refine' heard_I ?i1 ?i2 rfl rfl ?hd ?hu ?W ?B ?F ?N rfl rfl ?hc (reck_hcall ?hs ?hp ?W2 ?B2 ?N2 rfl ?hc2 ?hlam ?hca ?hcb ?hcl ?hcs ?m1 ?m2 ?m3 ?m4 ?hda ?hdb ?hdl ?hds ?hcr) (fun t' h' tk' F' N' => ?_); k_extra "m ush"; (case hcs => exact rfl); (case m4 => k_mem); (case hds => k_asm); (case hs => assumption); (case i1 => exact rk_i1 (by assumption)); (case i2 => exact rk_i2 (by assumption)))
  | (refine' heard_F ?i1 ?i2 rfl rfl ?hd ?hu ?W ?B ?F ?N rfl rfl ?hc (reck_hcall ?hs ?hp ?W2 ?B2 ?N2 rfl ?hc2 ?hlam ?hca ?hcb ?hcl ?hcs ?m1 ?m2 ?m3 ?m4 ?hda ?hdb ?hdl ?hds ?hcr) (fun tu' t1' t2' g' h' tk' r' F' N' l' B' X' T' C' => ?_); k_extra "m ush"; (case hcs => exact rfl); (case m4 => k_mem); (case hds => k_asm); (case hs => assumption); (case i1 => exact rk_f1 (by assumption)); (case i2 => exact rk_f2); obtain ⟨p', lo', me', mg', mb', T'⟩ := T'; (have HC8 := C' _ _ (by assumption)); (try dsimp only [AllNeN] at l'))
  | (refine' heard_I ?i1 ?i2 rfl rfl ?hd ?hu ?W ?B ?F ?N rfl rfl ?hc (quot_hcall ?hp ?W2 ?B2 ?N2 rfl ?hc2 ?hlam ?hca ?hcb ?hcl ?m1 ?m2 ?m3 ?hda ?hdb ?hdl ?hcr) (fun t' h' tk' F' N' => ?_); k_extra "m ush"; (case i1 => exact qt_i1); (case i2 => exact qt_i2 (by assumption)))
  | (refine' heard_F ?i1 ?i2 rfl rfl ?hd ?hu ?W ?B ?F ?N rfl rfl ?hc (quot_hcall ?hp ?W2 ?B2 ?N2 rfl ?hc2 ?hlam ?hca ?hcb ?hcl ?m1 ?m2 ?m3 ?hda ?hdb ?hdl ?hcr) (fun tu' t1' t2' g' h' tk' r' F' N' l' B' X' T' C' => ?_); k_extra "m ush"; (case i1 => exact qt_f1 (by assumption)); (case i2 => exact qt_f2); obtain ⟨p', lo', me', mg', mb', T'⟩ := T'; (have HC8 := C' _ _ (by assumption)); (try dsimp only [AllNeN] at l'))
  | (refine' node_use0 (io := itO _ _) (lo := listOf _ _) ?hs ?hp rfl rfl ?hd ?hu ?W ?B ?F ?N rfl rfl ?FO ?hS ?C ?k0 ?k1 ?mf ?mP ?m1 ?m2 ?m3 ?m4 ?m5 ?m6 ?m7 ?m8 ?m9 ?ne ?n1 ?n2 ?_; k_extra "m usn"; intro g' h' tk' o' k' c3' oc3' r' F' N' B' X' O' l1' l2' R3' lt')
  | (refine' node_use1 (io := itO _ _) (lo := listOf _ _) ?hs ?hp rfl rfl ?hd ?hu ?W ?B ?F ?N rfl rfl ?FO ?hS ?C ?k0 ?k1 ?mf ?mP ?m1 ?m2 ?m3 ?m4 ?m5 ?m6 ?m7 ?m8 ?m9 ?m10 ?h3 ?ne ?n1 ?n2 ?_; k_extra "m usn"; (case m10 => k_mem); (case h3 => assumption); intro g' h' tk' o' k' r' F' N' B' X' O' l1' l2')
  )))
  k_with "w subscriptTail Tuple cons Call ref int" => ((k_here; (with_reducible show wpAny _ _ (subscriptTail _ _ (Value.ref _) (Value.int _ _)) _ _ _); k_dflt (refine' item_sign ?t ?a ?b ?_; (case t => exact News.isTup (by k_asm) (by k_mem)); (case a => assumption); (case b => assumption); k_whole; intro sg' t' hs')))
  trivial
set_option maxHeartbeats 8000000 in
theorem lap1_ok_z (w : World) (base g0 : Heap) (W : Wd w base) (B : Below (Ak 90 []) base [] g0) (L fd D It : Addr) (hS : (fd == sysModules) = false) (body : List Stmt) (sc : Scope) (hb : lawBody w = some (body, sc))
    (f1 : @LT.lt Nat _ (L + 1 + 1 + 1 + 1) fd) (f2 : @LT.lt Nat _ fd D) (f3 : @LT.lt Nat _ D It) (f4 : @LT.lt Nat _ 466 L) (s0 s₁ : Shared) (h' : Heap) (i : Nat) (hi : i < 6) (J : Lap1 w base g0 L fd D It s0 i s₁)
    (hit : IsRangeIter h' It ((i + 1 : Nat) : Int) (6 - ((i + 1 : Nat) : Int)) 1) (hs : Heap.SameBut It s₁.heap h')
    (z0 : @Ne Nat (fd) (459)) (z1 : @Ne Nat (fd) (It)) (z2 : @Ne Nat (fd) (D)) (z3 : @Ne Nat (fd) (L + 1 + 1 + 1 + 1)) (z4 : @Ne Nat (fd) (L + 1 + 1 + 1)) (z5 : @Ne Nat (fd) (L + 1 + 1)) (z6 : @Ne Nat (fd) (L + 1)) (z7 : @Ne Nat (fd) (466)) (z8 : @Ne Nat (459) (It)) (z9 : @Ne Nat (459) (D)) (z10 : @Ne Nat (459) (L + 1 + 1 + 1 + 1)) (z11 : @Ne Nat (459) (L + 1 + 1 + 1)) (z12 : @Ne Nat (459) (L + 1 + 1)) (z13 : @Ne Nat (459) (L + 1)) (z14 : @Ne Nat (459) (466)) (z15 : @Ne Nat (It) (D)) (z16 : @Ne Nat (It) (L + 1 + 1 + 1 + 1)) (z17 : @Ne Nat (It) (L + 1 + 1 + 1)) (z18 : @Ne Nat (It) (L + 1 + 1)) (z19 : @Ne Nat (It) (L + 1)) (z20 : @Ne Nat (It) (466)) (z21 : @Ne Nat (D) (L + 1 + 1 + 1 + 1)) (z22 : @Ne Nat (D) (L + 1 + 1 + 1)) (z23 : @Ne Nat (D) (L + 1 + 1)) (z24 : @Ne Nat (D) (L + 1)) (z25 : @Ne Nat (D) (466)) (z26 : @Ne Nat (L + 1 + 1 + 1 + 1) (L + 1 + 1 + 1)) (z27 : @Ne Nat (L + 1 + 1 + 1 + 1) (L + 1 + 1)) (z28 : @Ne Nat (L + 1 + 1 + 1 + 1) (L + 1)) (z29 : @Ne Nat (L + 1 + 1 + 1 + 1) (466)) (z30 : @Ne Nat (L + 1 + 1 + 1) (L + 1 + 1)) (z31 : @Ne Nat (L + 1 + 1 + 1) (L + 1)) (z32 : @Ne Nat (L + 1 + 1 + 1) (466)) (z33 : @Ne Nat (L + 1 + 1) (L + 1)) (z34 : @Ne Nat (L + 1 + 1) (466)) (z35 : @Ne Nat (L + 1) (466)) :
    wpAny (model PySem.Challenge.rw_nz0031_02.row.prog w) ((Ak 90 []).deeper (envOfC (Str.ofString "law") sc L 471 (.ref 470))) (storeName (envOfC (Str.ofString "law") sc L 471 (.ref 470)) (Str.ofString "lap") (.int (i : Int) s₁.toks))
      (fun _ s₂ => wpAny (model PySem.Challenge.rw_nz0031_02.row.prog w) ((Ak 90 []).deeper (envOfC (Str.ofString "law") sc L 471 (.ref 470))) (execs body (envOfC (Str.ofString "law") sc L 471 (.ref 470))) (LapEnd w base g0 L fd D It s0 (i + 1)) (fun _ _ => False) s₂)
      (fun _ _ => False) { s₁ with heap := h', toks := s₁.toks + 1 } := by
  have hb2 : some (_, _) = some (body, sc) := hb
  clear hb
  cases hb2
  obtain ⟨g, h, tk, m, o, k, ws, ns, c, oa, ob, ol, os, va, vb, vl, vs, c1, c2, c3, oc1, oc2, oc3, rfl, B1, r1, F0, hFd, N0, FO, k0, k1, hI, hlen, da, db, dl, ds, q1, q2, q3, t1, t2, t3⟩ := J
  have T := W.top
  obtain ⟨p, loose, mean, mg, mb, T⟩ := T
  have T := T.keeps B1.stays
  have X := W.K.keeps B1.stays
  have HC0 : CodeHd base 463 459 := codeHd_of_K W.K (by kernel_rfl)
  have HC1 : CodeHd base 470 466 := codeHd_of_K W.K (by kernel_rfl)
  have HC := HC1.keeps B1.stays
  clear B
  have hi2 : (i : Int) < 6 := by omega
  k_extra "m fill"
  w_strict (
    (have FN := upd_same F0 N0 (by k_updF) hs hit)
    (obtain ⟨F, N⟩ := FN)
    (try dsimp only at N)
    clear F0 N0
    (try k_fold)
    k_steps
    all_goals first
      | exact absurd rfl (by assumption)
      | (refine' lap_end ?F ?N ?B ?r ?fd ?FO ?k0 ?k1 ?hI ?hl ?da ?db ?dl ?ds ?r1 ?r2 ?r3 ?t1 ?t2 ?t3; (case F => assumption); (case N => assumption); (case B => assumption); (case FO => assumption); (case k0 => omega); (case k1 => omega); (case hI => assumption); (case hl => assumption); (case da => assumption); (case db => assumption); (case dl => assumption); (case ds => assumption); (case t1 => omega); (case t2 => omega); (case t3 => omega); (case r3 => assumption); (case r => k_extra "m rel"); (case fd => (rename FeedIs _ _ => hF9; exact hF9)); (case r1 => first | exact ⟨_, _, by assumption, by assumption⟩ | assumption); (case r2 => first | exact ⟨_, _, by assumption, by assumption⟩ | assumption)))
theorem lap1_ok (w : World) (base g0 : Heap) (W : Wd w base) (B : Below (Ak 90 []) base [] g0) (L fd D It : Addr) (hS : (fd == sysModules) = false) (body : List Stmt) (sc : Scope) (hb : lawBody w = some (body, sc))
    (f1 : @LT.lt Nat _ (L + 1 + 1 + 1 + 1) fd) (f2 : @LT.lt Nat _ fd D) (f3 : @LT.lt Nat _ D It) (f4 : @LT.lt Nat _ 466 L) (s0 s₁ : Shared) (h' : Heap) (i : Nat) (hi : i < 6) (J : Lap1 w base g0 L fd D It s0 i s₁)
    (hit : IsRangeIter h' It ((i + 1 : Nat) : Int) (6 - ((i + 1 : Nat) : Int)) 1) (hs : Heap.SameBut It s₁.heap h') :
    wpAny (model PySem.Challenge.rw_nz0031_02.row.prog w) ((Ak 90 []).deeper (envOfC (Str.ofString "law") sc L 471 (.ref 470))) (storeName (envOfC (Str.ofString "law") sc L 471 (.ref 470)) (Str.ofString "lap") (.int (i : Int) s₁.toks))
      (fun _ s₂ => wpAny (model PySem.Challenge.rw_nz0031_02.row.prog w) ((Ak 90 []).deeper (envOfC (Str.ofString "law") sc L 471 (.ref 470))) (execs body (envOfC (Str.ofString "law") sc L 471 (.ref 470))) (LapEnd w base g0 L fd D It s0 (i + 1)) (fun _ _ => False) s₂)
      (fun _ _ => False) { s₁ with heap := h', toks := s₁.toks + 1 } :=
  lap1_ok_z w base g0 W B L fd D It hS body sc hb f1 f2 f3 f4 s0 s₁ h' i hi J hit hs (by omega) (by omega) (by omega) (by omega) (by omega) (by omega) (by omega) (by omega) (by omega) (by omega) (by omega) (by omega) (by omega) (by omega) (by omega) (by omega) (by omega) (by omega) (by omega) (by omega) (by omega) (by omega) (by omega) (by omega) (by omega) (by omega) (by omega) (by omega) (by omega) (by omega) (by omega) (by omega) (by omega) (by omega) (by omega) (by omega)

-- part LW5
theorem law_loop {w : World} {base g0 h : Heap} {s : Shared} {L D D1 fd : Addr} {m : Str → Option Value} {ws : List Value} {ns : List Int} {c : Nat} {lo o os ol ob oa : Obj} {va vb vl vs : Option Value} {tk : Nat} {body : List Stmt} {sc : Scope} {px : Pos} {R : Result → Shared → Prop}
    (W : Wd w base) (B : Below (Ak 90 []) base [] g0) (F : Fr g0 L h m)
    (N : News g0 L h [(D, listOf (List.toArray ws) c), (D1, lo), (fd, o), (L + 1 + 1 + 1 + 1, os), (L + 1 + 1 + 1, ol), (L + 1 + 1, ob), (L + 1, oa), (459, tabObj #[]), (466, tabObj #[])])
    (hFd : FeedIs m fd) (hS : (fd == sysModules) = false) (FO : FeedO w o D 0) (hI : IntsAre ws ns) (hl : ns.length ≤ 60) (da : oa.data = .cell va) (db : ob.data = .cell vb) (dl : ol.data = .cell vl) (ds : os.data = .cell vs)
    (f1 : @LT.lt Nat _ (L + 1 + 1 + 1 + 1) fd) (f2 : @LT.lt Nat _ fd D) (f4 : @LT.lt Nat _ 466 L) (hb : lawBody w = some (body, sc))
    (done : ∀ g' h' tk m' ps1 ps2, Below (Ak 90 []) base [] g' → RelS [] g0 g' → Fr g' L h' m' → News g' L h' [(459, tabObj ps1), (466, tabObj ps2)] → (Kt w.params).In g' → (∃ p loose mean mg mb, Top p loose mean mg mb g') → R (.ok .next) { s with heap := h', toks := tk }) :
    codeAny (model PySem.Challenge.rw_nz0031_02.row.prog w) ((Ak 90 []).deeper (envOfC (Str.ofString "law") sc L 471 (.ref 470))) (.forLoop (.Name (Str.ofString "lap") px) (.ref h.objs.size) body [] (envOfC (Str.ofString "law") sc L 471 (.ref 470))) R
      { s with heap := h.push { cls := .type "range_iterator", data := .fields #[rawInt 0, rawInt (Builtin.Range.rangeSize 0 6 1), rawInt 1] }, toks := tk } := by
  have f3 : @LT.lt Nat _ D h.objs.size := Heap.lt_size (N _ (.head _)).1
  have hL : L ≠ h.objs.size := Nat.ne_of_lt F.ns.lt
  have F' := F.push (itO ((0 : Nat) : Int) (6 - ((0 : Nat) : Int)))
  have N' := News.push F N (itO ((0 : Nat) : Int) (6 - ((0 : Nat) : Int)))
  have N2 : News g0 L (h.push (itO ((0 : Nat) : Int) (6 - ((0 : Nat) : Int)))) [(fd, o), (459, tabObj #[]), (h.objs.size, itO ((0 : Nat) : Int) (6 - ((0 : Nat) : Int))), (D, listOf (List.toArray ws) c), (L + 1 + 1 + 1 + 1, os), (L + 1 + 1 + 1, ol), (L + 1 + 1, ob), (L + 1, oa), (466, tabObj #[])] :=
    List.forall_mem_cons.mpr ⟨N' _ (by k_mem), List.forall_mem_cons.mpr ⟨N' _ (by k_mem), List.forall_mem_cons.mpr ⟨N' _ (by k_mem), List.forall_mem_cons.mpr ⟨N' _ (by k_mem), List.forall_mem_cons.mpr ⟨N' _ (by k_mem), List.forall_mem_cons.mpr ⟨N' _ (by k_mem), List.forall_mem_cons.mpr ⟨N' _ (by k_mem), List.forall_mem_cons.mpr ⟨N' _ (by k_mem), List.forall_mem_cons.mpr ⟨N' _ (by k_mem), List.forall_mem_nil _⟩⟩⟩⟩⟩⟩⟩⟩⟩
  refine for6 (J := fun i s' => (i = 0 ∧ Lap0 w g0 L fd D h.objs.size s s') ∨ (0 < i ∧ Lap1 w base g0 L fd D h.objs.size s i s')) rfl ?_ ?_ ?_ ?_
  · exact .inl ⟨rfl, _, _, m, o, ws, ns, c, oa, ob, ol, os, va, vb, vl, vs, rfl, F', hFd, N2, FO, hI, hl, da, db, dl, ds⟩
  · rintro i s' (⟨rfl, h', tk', m', o', ws', ns', c', oa', ob', ol', os', va', vb', vl', vs', rfl, F1, _, N1, _⟩ | ⟨_, g', h', tk', m', o', k', ws', ns', c', oa', ob', ol', os', va', vb', vl', vs', c1, c2, c3, oc1, oc2, oc3, rfl, B1, r1, F1, _, N1, _⟩)
    · exact (N1 (h.objs.size, itO ((0 : Nat) : Int) (6 - ((0 : Nat) : Int))) (by k_mem)).1
    · exact (N1 (h.objs.size, itO (i : Int) (6 - (i : Int))) (by k_mem)).1
  · rintro i s' h' hi (⟨rfl, J⟩ | ⟨_, J⟩) hit hs
    · exact wpAny_mono (lap0_ok w base g0 W B L fd D h.objs.size hS body sc hb f1 f2 f3 f4 s s' h' J hit hs) (fun _ s2 x => wpAny_mono x (fun f s3 y => ⟨y.1, .inr ⟨by omega, y.2⟩⟩) fun _ _ y => y) fun _ _ y => y
    · exact wpAny_mono (lap1_ok w base g0 W B L fd D h.objs.size hS body sc hb f1 f2 f3 f4 s s' h' i hi J hit hs) (fun _ s2 x => wpAny_mono x (fun f s3 y => ⟨y.1, .inr ⟨by omega, y.2⟩⟩) fun _ _ y => y) fun _ _ y => y
  · rintro s' h' (⟨z, _⟩ | ⟨_, g', h1, tk', m', o', k', ws', ns', c', oa', ob', ol', os', va', vb', vl', vs', c1, c2, c3, oc1, oc2, oc3, rfl, B1, r1, F1, _, N1, _⟩) he
    · cases z
    · have hIt := N1 (h.objs.size, itO ((6 : Nat) : Int) (6 - ((6 : Nat) : Int))) (by k_mem)
      have kb : ∀ (a : Addr) (oa : Obj), @LT.lt Nat _ a L → News g' L h1 [(a, oa)] → News g' L h' [(a, oa)] := fun a oa hlt N p hp => by
        have hp' := List.mem_singleton.mp hp
        subst hp'
        have n := N (a, oa) (.head _)
        exact ⟨he a oa (Nat.ne_of_lt (Nat.lt_trans hlt F.ns.lt)) n.1, n.2⟩
      refine done g' h' tk' m' #[rawInt 492, rawInt 22, .ref c3] #[rawInt 499, rawInt 22, .ref c1, rawInt 502, rawInt 22, .ref c2] B1 r1 ⟨F1.ns.extBut he hL, fun b ob e => he b ob (fun z => by rw [z, hIt.2.2] at e; cases e) (F1.keep b ob e), F1.above⟩ (List.forall_mem_cons.mpr ⟨?_, List.forall_mem_cons.mpr ⟨?_, List.forall_mem_nil _⟩⟩) (W.K.keeps B1.stays) (let ⟨p, lo, me, mg, mb, T⟩ := W.top; ⟨p, lo, me, mg, mb, T.keeps B1.stays⟩)
      · have n := N1 (459, tabN c3) (by k_mem)
        exact ⟨he _ _ (Nat.ne_of_lt (Nat.lt_trans (by omega) F.ns.lt)) n.1, n.2⟩
      · have n := N1 (466, tabL c1 c2) (by k_mem)
        exact ⟨he _ _ (Nat.ne_of_lt (Nat.lt_trans (by omega) F.ns.lt)) n.1, n.2⟩
theorem len60 {ns : List Int} : (List.take (Int.toNat 60) ns).length ≤ 60 := by rw [List.length_take]; exact Nat.min_le_left _ _
theorem words_LW5_49 : True := by
  k_with_none
  k_with "m fill" => ((w_on; (have hfill : ∀ w : World, (Kt w.params).length = (Kt w.params).length ∧ PySem.Challenge.rw_nz0031_02.foot = PySem.Challenge.rw_nz0031_02.foot := by (k_fill; exact fun _ => ⟨rfl, rfl⟩)); clear hfill))
  k_with "m enter" => ((
    (refine wpAny_call ?_);
    k_dflt (refine' enter ?kW ?kB [] ?k0 ?ho ?hcd ?hroom ?hbind ?hloc ?_ ?c1 ?c2 ?c3 ?c4);
    (case kW => assumption);
    (case kB => assumption);
    (case k0 => exact fun _ h => nomatch h);
    (case ho => k_is);
    (case hcd => k_is);
    (case hroom => exact Nat.le_of_ble_eq_true rfl);
    (case hbind => exact BindsTo.of_eq rfl);
    (case hloc => exact locs rfl);
    (case c1 => decide);
    (case c2 => exact rfl);
    (case c3 => exact rfl);
    (case c4 => exact rfl);
    intro L h₁ p loose mean mg mb F N Bl X T lt eL tk;
    (dsimp only [List.map, hideAll] at F N Bl X T);
    (try k_fold)))
  k_with "m use" => (((case hd => exact Nat.le_of_ble_eq_true rfl); (case hu => exact Nat.le_of_ble_eq_true rfl); (case W => k_asm); (case B => k_asm); (case F => k_asm); (case N => k_asm); k_whole))
  k_with "w leaving ref" => ((k_here; k_dflt (first
  | (refine' leave_new ?B ?F rfl rfl rfl ?fl ?_; (case fl => k_asm); (case F => k_asm); (case B => k_asm); intro h9 tk9 r9 ff9 fl9)
  | (refine' leave_own rfl rfl ?ff ?rel ?hL (.inr ?fl) ?_; (case fl => assumption); (case ff => assumption); (case rel => assumption); (case hL => assumption); intro h9 tk9 r9 ff9 fl9))))
  k_with "w exec Raise some none" => ((k_here; k_dflt (refine' raise_own rfl ?_)))
  k_with "w Exists" => ((k_dflt (refine' raise_end ?X ?F ?fl ?_; (case X => k_asm); (case F => k_asm); (case fl => k_asm))))
  k_with "m enterH" => ((
    (refine wpAny_call ?_);
    k_dflt (refine' enter ?kW ?kB _ ?k0 ?ho ?hcd ?hroom ?hbind ?hloc ?_ ?c1 ?c2 ?c3 ?c4);
    (case k0 => assumption);
    (case kW => assumption);
    (case kB => assumption);
    (case ho => k_is);
    (case hcd => k_is);
    (case hroom => exact Nat.le_of_ble_eq_true rfl);
    (case hbind => exact BindsTo.of_eq rfl);
    (case hloc => exact locs rfl);
    (case c1 => decide);
    (case c2 => exact rfl);
    (case c3 => exact rfl);
    (case c4 => exact rfl);
    intro L h₁ p loose mean mg mb F N Bl X T lt eL tk;
    (dsimp only [List.map] at F N Bl X T);
    (try k_fold)))
  k_with "w subscriptTail Name Constant ref int" => ((k_here; (with_reducible show wpAny _ _ (subscriptTail _ _ (Value.ref _) (Value.int _ _)) _ _ _); k_dflt (refine' item_tupleT ?t ?a ?b ?c ?d ?_; (case t => exact News.isTup (by k_asm) (by k_mem)); (case a => decide); (case b => decide); (case c => rfl); (case d => rfl); k_whole)))
  k_with "w subscriptTail Attribute Name Subscript ref str" => ((k_here; (with_reducible show wpAny _ _ (subscriptTail _ _ (Value.ref _) (Value.str _ _)) _ _ _); k_dflt (refine' item_strTab ?T ?hl ?_; (case T => k_tabat); (case hl => rfl); k_whole); intro v' hv'; cases hv'))
  k_with "m mems" => ((repeat (first | exact List.forall_mem_nil _ | refine List.forall_mem_cons.mpr ⟨by k_mem, ?_⟩)))
  k_with "w eval Call" => ((k_here; k_dflt (refine Call_ ?_)))
  k_with "w callWith ref" => ((k_here; k_dflt (refine' callWith_K ?k1 ?k2 ?_; (case k1 => k_asm); (case k2 => k_is); k_whole)))
  k_with "w subscriptTail Name Slice ref ref" => ((k_here; (with_reducible show wpAny _ _ (subscriptTail _ (PySem.Expr.Slice _ _ none _) (Value.ref _) (Value.ref _)) _ _ _); k_dflt (refine' kmk_slice_ints ?F ?N ?l ?p ?q ?i ?m ?c ?_ ?s ?t ?z; (case F => k_asm); (case N => k_asm); (case l => kmk_list); (case p => kmk_part); (case q => kmk_part); (case i => l_ints); (case m => kmk_nums); (case c => kmk_len); (case s => with_unfolding_all rfl); (case t => kmk_pure); (case z => assumption); k_whole); intro D' ws' h' F' N' l1 i1' i2' i3'; (try k_lt l1)))
  trivial
set_option maxHeartbeats 8000000 in
theorem law_ok (w : World) (base : Heap) (s : Shared) (R : Result → Shared → Prop) (sc : Addr) (vs : List Value) (ns : List Int)
    (W : Wd w base) (B : Below (Ak 90 []) base [] s.heap) (hl : s.heap.IsList sc vs.toArray) (hi : IntsAre vs ns) (hz : vs.toArray.size ≤ sizeLine)
    (hP : s.heap.get? 459 = some (tabObj #[])) (hPb : base.get? 459 = none) (hR : s.heap.get? 466 = some (tabObj #[])) (hRb : base.get? 466 = none)
    (hret : ∀ h' tk, (∀ b o, b ∉ [459, 466] → s.heap.get? b = some o → h'.get? b = some o) → (∃ ps, h'.get? 459 = some (tabObj ps)) → (∃ ps, h'.get? 466 = some (tabObj ps)) → R (.ok (.ret (.bool true))) { s with heap := h', toks := tk }) :
    codeAny (model PySem.Challenge.rw_nz0031_02.row.prog w) (Ak 90 []) (.call (.ref 471) ⟨[.ref sc], []⟩) R s := by
  have hN : ∀ p ∈ [(459, tabObj #[]), (466, tabObj #[])], s.heap.get? p.1 = some p.2 ∧ base.get? p.1 = none ∧ p.1 ∉ ([] : List Env).filterMap (·.frame) := List.forall_mem_cons.mpr ⟨⟨hP, hPb, List.not_mem_nil⟩, List.forall_mem_cons.mpr ⟨⟨hR, hRb, List.not_mem_nil⟩, List.forall_mem_nil _⟩⟩
  have hl2 : (hideAll s.heap [459, 466]).IsList sc vs.toArray := by
    obtain ⟨o, e, h1, h2⟩ := hl
    refine ⟨o, hideAll_get _ e ?_, h1, h2⟩
    simp only [List.mem_cons, List.not_mem_nil, or_false, not_or]
    refine ⟨fun z => ?_, fun z => ?_⟩
    · rw [z, hP] at e; cases e; cases h1
    · rw [z, hR] at e; cases e; cases h1
  have HC0 : CodeHd base 463 459 := codeHd_of_K W.K (by kernel_rfl)
  have HC1 : CodeHd base 470 466 := codeHd_of_K W.K (by kernel_rfl)
  k_extra "m fill"
  w_strict (
    k_dflt (refine' enterC (binds := [(Str.ofString "script", .ref sc)]) W B _ hN ?ho ?hcd ?hroom ?hbind ?hkind ?hnd ?_ ?c2 ?c3 ?c4);
    (case ho => k_is);
    (case hcd => k_is);
    (case hroom => exact Nat.le_of_ble_eq_true rfl);
    (case hbind => exact BindsTo.of_eq rfl);
    (case hkind => exact kindsX rfl);
    (case hnd => decide +kernel);
    (case c2 => exact rfl);
    (case c3 => exact rfl);
    (case c4 => exact rfl);
    intro L h₁ p loose mean mg mb cells F N Y Bl X T lt eL tk;
    (dsimp only [List.map] at F N Bl X T);
    (simp only [AllLt, and_true] at lt);
    (obtain ⟨os, ol, ob, oa, hE, ds0, dl0, db0, da0⟩ := CellsAre.four Y);
    subst hE; clear Y;
    (have da : oa.data = .cell none := da0);
    (have db : ob.data = .cell none := db0);
    (have dl : ol.data = .cell none := dl0);
    (have ds : os.data = .cell none := ds0);
    clear da0 db0 dl0 ds0;
    (try simp only [List.cons_append, List.nil_append] at N);
    have HC : CodeHd _ 463 459 := CodeHd.keeps HC0 (Below.stays Bl);
    have HC' : CodeHd _ 470 466 := CodeHd.keeps HC1 (Below.stays Bl);
    (try k_fold)
    repeat' ((fail_if_success (with_reducible show wpAny _ _ (exec (Stmt.For _ _ _ _ _) _) _ _ _)); first | (k_unfold; (try dsimp only)) | (k_end; wrow_close) | walk1 | (dsimp only; walk1) | (leave1; walk_say "STEP leave1"; try dsimp only) | fail "no step")
    refine wpAny_For ?_ (fun _ => by with_unfolding_all rfl)
    repeat' ((fail_if_success (with_reducible show wpAny _ _ (pyIter _) _ _ _)); first | (k_unfold; (try dsimp only)) | (k_end; wrow_close) | walk1 | (dsimp only; walk1) | (leave1; walk_say "STEP leave1"; try dsimp only) | fail "no step")
    (rename IsRange _ _ _ _ _ _ _ _ => hrg)
    refine wpAny_pyIter_range hrg (by decide) ?_
    (refine' law_loop ?W ?B ?F ?N ?fd ?hS ?FO ?hI ?hl ?da ?db ?dl ?ds ?f1 ?f2 ?f4 ?hb ?_)
    (case W => assumption)
    (case B => assumption)
    (case F => assumption)
    (case N => assumption)
    (case fd => exact rfl)
    (case hS => assumption)
    (case FO => exact ⟨_, by assumption⟩)
    (case hI => assumption)
    (case hl => exact len60)
    (case da => assumption)
    (case db => assumption)
    (case dl => assumption)
    (case ds => assumption)
    (case f1 => omega)
    (case f2 => omega)
    (case f4 => omega)
    (case hb => exact rfl)
    intro g' h' tk' m' ps1 ps2 B' r' F' N' X' T'
    obtain ⟨p', lo', me', mg', mb', T'⟩ := T'
    (try dsimp only)
    k_steps
    all_goals (repeat (first | k_unfold | dsimp only))
    exact hret _ _ (fun b o nb e => Fr.keep (by assumption) b o (RelS.keep (by assumption) b o (hideAll_get _ e nb) List.not_mem_nil)) ⟨_, News.get (by assumption) (by k_mem)⟩ ⟨_, News.get (by assumption) (by k_mem)⟩)

-- part Tq
theorem words_Tq_50 : True := by
  k_with_none
  trivial
noncomputable abbrev H0 : Hook := kHook K1 as1 (fun _ => by kernel_rfl)
theorem ads_no : ∀ a ∈ ads, a ∉ [459, 466] := by decide +kernel
theorem ghost_wd {w : World} {s₁ : Shared} {p : Program} {loose : List Str} {mean : ExcName → Option Value} {mg mb : Str → Option Value} (hT : TabsAt [(463, 459), (470, 466)] s₁.heap) (KX : (K1 w.params).In s₁.heap) (T : Top p loose mean mg mb s₁.heap) : Wd w (ghostOf s₁.heap [(463, 459), (470, 466)]) :=
  ⟨K1_in KX fun a o ha e => ghost_ne e (ads_no a ha), _, _, _, _, _, ghost_top hT T⟩
theorem ghost_bel {n : Nat} {h : Heap} {tabs : List (Addr × Addr)} : Below (Ak n []) (ghostOf h tabs) [] h := ⟨rfl, fun b o e => of_hideAll _ e, trivial⟩
theorem caller_weak {α : Type} {M : Model} {t : Sem α} {Q : α → Shared → Prop} {E : Value → Shared → Prop} {s : Shared} (h : wpAny M (Ak 90 []) t Q E s) : wpAny M callerA t Q E s :=
  wpAny_weak (A := callerA) (A' := Ak 90 []) rfl (Nat.le_of_ble_eq_true rfl) (fun l e => e) (fun l e => by cases e) (Nat.le_of_ble_eq_true rfl) h
theorem fa_is {w : World} {h : Heap} {mg : Str → Option Value} {fa : Addr} (KX : (K1 w.params).In h) (G : h.Ns mainGlobals mg) (hm : mg (Str.ofString "law") = some (.ref fa)) : fa = 471 := by
  have e := mg_of KX G (show nsIn (K1 w.params) mainGlobals (Str.ofString "law") = some (some (.ref 471)) by kernel_rfl)
  rw [hm] at e
  injection e with e
  injection e
theorem few {vs : List Value} {ns : List Int} (hI : IntsAre vs ns) (h : ¬ (63 : Int) < (ns.length : Int)) : vs.toArray.size ≤ sizeLine := by
  rw [List.size_toArray, hI.length, sizeLine_eq]; omega
end Mine
open Mine in
set_option maxHeartbeats 8000000 in
theorem PySem.Challenge.cw_nz0031_02_holds : PySem.Challenge.rw_nz0031_02.Holds := by
  w_on
  refine holds_law said0 fun said => ?_
  refine holds_open (q := q0) (loose := loose0) (Xt := Xt0) (XP := XL q0 []) (Yf := Hook.obs H0) (Ya := Hook.val H0) (YP := Hook.says H0) (N := 6100) left1 (Hook.of H0) (Hook.keeps H0) (fun s e => xl_of s (Bool.and_eq_true_iff.mp e).1) XL.keeps (by rfl) (by rfl) (by rfl) (fun s e => recFacts_of (Bool.and_eq_true_iff.mp e).2) (by rfl) said (by kernel_rfl) prom0 ?hw ?hc
  case hw => w_witness2
  case hc =>
    w_strict (
    intro w s₀ s₁ mg mb G Y fa o pm cd doc dV kV ho hd hcd hD hmg hg args vals as hpre hlay hrd hwl hlo
    have KX := kIn_of Y
    refine Ground.open G ?_
    intro T B D TE TW
    have hfa := fa_is KX T.g hmg
    subst hfa
    clear hmg hD hcd hd ho D
    have hT9 : TabsAt [(463, 459), (470, 466)] s₁.heap := List.forall_mem_cons.mpr ⟨⟨codeHd_of_K (c := 463) (P := 459) KX (by kernel_rfl), KX _ _ (by kernel_rfl)⟩, List.forall_mem_cons.mpr ⟨⟨codeHd_of_K (c := 470) (P := 466) KX (by kernel_rfl), KX _ _ (by kernel_rfl)⟩, List.forall_mem_nil _⟩⟩
    wrow_args hpre hlay hrd hwl hlo
    all_goals (
      refine caller_weak (enter_call (kn_post hT9 (fun _ _ => rfl) ?_))
      refine law_ok w (ghostOf s₁.heap [(463, 459), (470, 466)]) s₁ _ _ _ _ (ghost_wd hT9 KX T) ghost_bel (by assumption) (by assumption) (few (by assumption) (by assumption)) (hT9 (463, 459) (.head _)).2 (hideAll_none _ (.head _)) (hT9 (470, 466) (.tail _ (.head _))).2 (hideAll_none _ (.tail _ (.head _))) fun h' tk hk hp1 hp2 => ?_
      refine ⟨⟨.inl ⟨.bool true, .bool true, [], rfl, fun _ => rfl, .bool true, ?post, fun _ => ⟨List.nodup_nil, fun _ h => nomatch h⟩⟩, fun b o e => hk b o (fun hm => ?_) (of_hideAll _ e), rfl, hg⟩, hp1, hp2, trivial⟩
      (case post => exact postW_of rfl (w_eq_bool (w_res rfl) w_lit) rfl)
      have e2 : (hideAll s₁.heap [459, 466]).get? b = some o := e
      rw [hideAll_none _ hm] at e2; cases e2))

