import PyProof.Rows.All
import Wide.All
import OpenK.AllK
import Wide.FinOn
import PySem.Challenge.RW_nz0031_01
open PySem PySem.W PySem.Calls PySem.Spec PyProof.Rows
set_option maxHeartbeats 8000000
set_option Elab.async false
set_option maxRecDepth 100000
set_option linter.all false
namespace Mine
local macro_rules | `(tactic| walk_at $s:str) => `(tactic| k_extra $(Lean.Syntax.mkStrLit ("w " ++ s.getString)))
local macro_rules | `(tactic| k_mem) => `(tactic| k_extra "w k_mem")
local macro_rules | `(tactic| k_all) => `(tactic| k_extra "w k_all")
local macro_rules | `(tactic| omega) => `(tactic| k_extra "w omega")
local macro_rules | `(tactic| k_inst) => `(tactic| k_extra "w k_inst")
local macro_rules | `(tactic| k_lt $h:ident) => `(tactic| k_extra "w k_lt $h:ident")
local macro_rules | `(tactic| k_ne) => `(tactic| k_extra "w k_ne")
theorem said0:PySem.Challenge.rw_nz0031_01.wellSaid=true:=by kernel_rfl
theorem prom0:PySem.Challenge.rw_nz0031_01.row.prog.bare:=⟨rfl,rfl,rfl,rfl,rfl,by decide +kernel⟩
noncomputable abbrev pw:Program:=PySem.Challenge.pw_nz0031_01
noncomputable def stAt (i:Nat):Stmt:=match pw.main.body[i]? with|some s=>s|none=>.Pass ⟨0,0,0,0⟩
noncomputable def meAt (i j:Nat):Stmt:=match stAt i with
  | .ClassDef (body:=b) ..=>(match b[j]? with|some s=>s|none=>.Pass ⟨0,0,0,0⟩)
  | s=>s
noncomputable def dP:Stmt→Arguments
  | .FunctionDef (args:=p) ..=>p
  | _=>⟨[],[],none,[],[],none,[]⟩
noncomputable def dB:Stmt→List Stmt
  | .FunctionDef (body:=b) ..=>b
  | _=>[]
noncomputable def dS:Stmt→Scope
  | .FunctionDef (scope:=s) ..=>s
  | _=>{ kind:=.function,names:=[],isGenerator:=false,isCoroutine:=false }
noncomputable def fO (s:Stmt) (a b:String) (cl:List (Str×Addr)) (md cd cv:Value):Obj:=⟨.type "function",none,.func ⟨.ofString a,.ofString b,dP s,.stmts (dB s),dS s,3,cl,.none,.none,.none,md,none,cd,cv,0⟩,#[]⟩
noncomputable def tO (l:List (String×Nat)):Obj:=⟨.type "tuple",none,.seq (List.toArray (l.map fun p=>Value.str (.ofString p.1) p.2)) 0,#[]⟩
noncomputable def cO (a:String) (i:Nat) (b:String) (j k m:Nat) (l:List Value):Obj:=⟨.type "code",none,.fields (List.toArray (.str (.ofString a) i::.str (.ofString b) j::.str (.ofString "/claim/cut.py") k::(l++[.str (.ofString "/claim/cut.py") m]))),#[]⟩
theorem words0:True:=by
  k_with "m fo"=>((case pf=>conv=>rhs;unfold fO;(conv=>pattern dP _;whnf);(conv=>pattern dB _;whnf);(conv=>pattern dS _;whnf));(case f=>exact fun _=>?b))
  trivial
noncomputable def o_2 (P:Params):Obj:=⟨.none,none,(.dict #[⟨(PyData.keyHash P (.ofString "type.__subclasses__.Exception.0")),.str (.ofString "type.__subclasses__.Exception.0") 269,.int 75 0⟩,⟨(PyData.keyHash P (.ofString "type.__subclasses__.Exception.n")),.str (.ofString "type.__subclasses__.Exception.n") 270,.int 1 0⟩] 2),#[]⟩
noncomputable def o_3 (P:Params):Obj:=⟨.type "dict",none,(.dict #[⟨(PyData.keyHash P (.ofString "__name__")),.str (.ofString "__name__") 165,.str (.ofString "law_nz0031_01") 722⟩,⟨(PyData.keyHash P (.ofString "__doc__")),.str (.ofString "__doc__") 166,.none⟩,⟨(PyData.keyHash P (.ofString "__package__")),.str (.ofString "__package__") 167,.none⟩,⟨(PyData.keyHash P (.ofString "__loader__")),.str (.ofString "__loader__") 168,.builtin "__main__.__loader__#opaque"⟩,⟨(PyData.keyHash P (.ofString "__spec__")),.str (.ofString "__spec__") 169,.none⟩,⟨(PyData.keyHash P (.ofString "__annotations__")),.str (.ofString "__annotations__") 170,.ref 6⟩,⟨(PyData.keyHash P (.ofString "__builtins__")),.str (.ofString "__builtins__") 171,.ref 4⟩,⟨(PyData.keyHash P (.ofString "__file__")),.str (.ofString "__file__") 173,.str (.ofString "/claim/cut.py") 172⟩,⟨(PyData.keyHash P (.ofString "__cached__")),.str (.ofString "__cached__") 174,.none⟩,⟨(PyData.keyHash P (.ofString "range_of")),.str (.ofString "range_of") 196,.ref 21⟩,⟨(PyData.keyHash P (.ofString "put_behind")),.str (.ofString "put_behind") 205,.ref 28⟩,⟨(PyData.keyHash P (.ofString "from_values")),.str (.ofString "from_values") 214,.ref 35⟩,⟨(PyData.keyHash P (.ofString "next_from")),.str (.ofString "next_from") 224,.ref 42⟩,⟨(PyData.keyHash P (.ofString "has")),.str (.ofString "has") 232,.ref 49⟩,⟨(PyData.keyHash P (.ofString "FdError")),.str (.ofString "FdError") 272,.ref 75⟩,⟨(PyData.keyHash P (.ofString "SpotFault")),.str (.ofString "SpotFault") 307,.ref 104⟩,⟨(PyData.keyHash P (.ofString "EvalFault")),.str (.ofString "EvalFault") 323,.ref 116⟩,⟨(PyData.keyHash P (.ofString "LimitFault")),.str (.ofString "LimitFault") 339,.ref 128⟩,⟨(PyData.keyHash P (.ofString "MOST_VALUES")),.str (.ofString "MOST_VALUES") 343,.int 100000 342⟩,⟨(PyData.keyHash P (.ofString "MOST_POWER")),.str (.ofString "MOST_POWER") 345,.int 1000 344⟩,⟨(PyData.keyHash P (.ofString "MOST_SHOWN")),.str (.ofString "MOST_SHOWN") 347,.int 1000 346⟩,⟨(PyData.keyHash P (.ofString "is_array")),.str (.ofString "is_array") 354,.ref 137⟩,⟨(PyData.keyHash P (.ofString "is_set")),.str (.ofString "is_set") 361,.ref 144⟩,⟨(PyData.keyHash P (.ofString "number_of")),.str (.ofString "number_of") 369,.ref 151⟩,⟨(PyData.keyHash P (.ofString "truth_of")),.str (.ofString "truth_of") 377,.ref 158⟩,⟨(PyData.keyHash P (.ofString "text_of")),.str (.ofString "text_of") 385,.ref 165⟩,⟨(PyData.keyHash P (.ofString "set_of")),.str (.ofString "set_of") 393,.ref 172⟩,⟨(PyData.keyHash P (.ofString "list_of")),.str (.ofString "list_of") 401,.ref 179⟩,⟨(PyData.keyHash P (.ofString "elements_of")),.str (.ofString "elements_of") 409,.ref 186⟩,⟨(PyData.keyHash P (.ofString "row_of")),.str (.ofString "row_of") 416,.ref 193⟩,⟨(PyData.keyHash P (.ofString "span")),.str (.ofString "span") 424,.ref 200⟩,⟨(PyData.keyHash P (.ofString "quotient")),.str (.ofString "quotient") 434,.ref 207⟩,⟨(PyData.keyHash P (.ofString "within_figures")),.str (.ofString "within_figures") 441,.ref 214⟩,⟨(PyData.keyHash P (.ofString "power")),.str (.ofString "power") 452,.ref 221⟩,⟨(PyData.keyHash P (.ofString "are_same")),.str (.ofString "are_same") 458,.ref 226⟩,⟨(PyData.keyHash P (.ofString "are_compared")),.str (.ofString "are_compared") 468,.ref 233⟩,⟨(PyData.keyHash P (.ofString "joined_sets")),.str (.ofString "joined_sets") 474,.ref 238⟩,⟨(PyData.keyHash P (.ofString "reckoned")),.str (.ofString "reckoned") 484,.ref 245⟩,⟨(PyData.keyHash P (.ofString "show_text")),.str (.ofString "show_text") 490,.ref 250⟩,⟨(PyData.keyHash P (.ofString "folded")),.str (.ofString "folded") 496,.ref 255⟩,⟨(PyData.keyHash P (.ofString "FOLDING")),.str (.ofString "FOLDING") 505,.ref 256⟩,⟨(PyData.keyHash P (.ofString "scopes_of")),.str (.ofString "scopes_of") 511,.ref 261⟩,⟨(PyData.keyHash P (.ofString "Evaluator")),.str (.ofString "Evaluator") 667,.ref 356⟩,⟨(PyData.keyHash P (.ofString "fitted_one")),.str (.ofString "fitted_one") 673,.ref 365⟩,⟨(PyData.keyHash P (.ofString "called")),.str (.ofString "called") 679,.ref 370⟩,⟨(PyData.keyHash P (.ofString "alone")),.str (.ofString "alone") 688,.ref 377⟩,⟨(PyData.keyHash P (.ofString "of_value")),.str (.ofString "of_value") 694,.ref 382⟩,⟨(PyData.keyHash P (.ofString "indexes_of")),.str (.ofString "indexes_of") 704,.ref 389⟩,⟨(PyData.keyHash P (.ofString "indexed")),.str (.ofString "indexed") 710,.ref 394⟩,⟨(PyData.keyHash P (.ofString "united")),.str (.ofString "united") 721,.ref 401⟩,⟨(PyData.keyHash P (.ofString "_law_draw")),.str (.ofString "_law_draw") 733,.ref 408⟩,⟨(PyData.keyHash P (.ofString "_law_heard")),.str (.ofString "_law_heard") 741,.ref 415⟩,⟨(PyData.keyHash P (.ofString "_law_set")),.str (.ofString "_law_set") 751,.ref 422⟩,⟨(PyData.keyHash P (.ofString "_law_is_array")),.str (.ofString "_law_is_array") 758,.ref 429⟩,⟨(PyData.keyHash P (.ofString "_law_due")),.str (.ofString "_law_due") 764,.ref 434⟩,⟨(PyData.keyHash P (.ofString "_law_args")),.str (.ofString "_law_args") 770,.ref 439⟩,⟨(PyData.keyHash P (.ofString "_law_sets_told")),.str (.ofString "_law_sets_told") 782,.ref 446⟩,⟨(PyData.keyHash P (.ofString "_law_at")),.str (.ofString "_law_at") 788,.ref 451⟩,⟨(PyData.keyHash P (.ofString "_law_elements_right")),.str (.ofString "_law_elements_right") 803,.ref 458⟩,⟨(PyData.keyHash P (.ofString "law")),.str (.ofString "law") 818,.ref 465⟩] 60),#[]⟩
noncomputable def o_11 (_P:Params):Obj:=tO []
noncomputable def o_12 (_P:Params):Obj:=⟨.none,none,(.fields #[.int 2 0,.int 0 0,.ref 20,.int 4 0,.int 0 0,.ref 27,.int 10 0,.int 0 0,.ref 34,.int 15 0,.int 0 0,.ref 41,.int 20 0,.int 0 0,.ref 48,.int 23 0,.int 0 0,.ref 56,.int 31 0,.int 0 0,.ref 85,.int 39 0,.int 0 0,.ref 112,.int 41 0,.int 0 0,.ref 124,.int 47 0,.int 0 0,.ref 136,.int 49 0,.int 0 0,.ref 143,.int 51 0,.int 0 0,.ref 150,.int 55 0,.int 0 0,.ref 157,.int 59 0,.int 0 0,.ref 164,.int 63 0,.int 0 0,.ref 171,.int 67 0,.int 0 0,.ref 178,.int 71 0,.int 0 0,.ref 185,.int 73 0,.int 0 0,.ref 192,.int 75 0,.int 0 0,.ref 199,.int 79 0,.int 0 0,.ref 206,.int 84 0,.int 0 0,.ref 213,.int 88 0,.int 0 0,.ref 220,.int 97 0,.int 0 0,.ref 225,.int 103 0,.int 0 0,.ref 232,.int 115 0,.int 0 0,.ref 237,.int 123 0,.int 0 0,.ref 244,.int 135 0,.int 0 0,.ref 249,.int 147 0,.int 0 0,.ref 254,.int 167 0,.int 0 0,.ref 260,.int 183 0,.int 0 0,.ref 267,.int 335 0,.int 0 0,.ref 364,.int 344 0,.int 0 0,.ref 369,.int 368 0,.int 0 0,.ref 376,.int 372 0,.int 0 0,.ref 381,.int 391 0,.int 0 0,.ref 388,.int 397 0,.int 0 0,.ref 393,.int 411 0,.int 0 0,.ref 400,.int 419 0,.int 0 0,.ref 407,.int 425 0,.int 0 0,.ref 414,.int 430 0,.int 0 0,.ref 421,.int 436 0,.int 0 0,.ref 428,.int 438 0,.int 0 0,.ref 433,.int 450 0,.int 0 0,.ref 438,.int 467 0,.int 0 0,.ref 445,.int 474 0,.int 0 0,.ref 450,.int 477 0,.int 0 0,.ref 457,.int 492 0,.int 0 0,.ref 464]),#[]⟩
noncomputable def o_13 (_P:Params):Obj:=cO "<module>" 182 "<module>" 183 184 186 [(.int 1 0),.int 0 0,.int 0 0,.int 0 0,.int 0 0,.ref 11,.bool false,.int 181 0,.ref 12,.none,.none,.none,.none,.int 185 0,(.int 1 0)]
noncomputable def o_14 (_P:Params):Obj:=⟨.type "frame",none,.plain,#[(some (.ref 13)),(some (.ref 3)),(some (.ref 3)),none,(some (.str (.ofString "__main__") 164)),none,(some (.ref 0))]⟩
noncomputable def o_15 (_P:Params):Obj:=tO []
noncomputable def o_16 (_P:Params):Obj:=⟨.none,none,(.fields #[]),#[]⟩
noncomputable def o_17 (_P:Params):Obj:=tO [("low",192),("high",193)]
noncomputable def o_18 (_P:Params):Obj:=tO []
noncomputable def o_20 (_P:Params):Obj:=cO "range_of" 189 "range_of" 190 191 195 [(.int 2 0),.int 2 0,.int 0 0,.int 0 0,.int 3 0,.ref 15,.bool true,.int 181 0,.ref 16,.none,.ref 17,.ref 18,.ref 19,.int 194 0,(.int 2 0)]
noncomputable def o_22 (_P:Params):Obj:=tO []
noncomputable def o_23 (_P:Params):Obj:=⟨.none,none,(.fields #[]),#[]⟩
noncomputable def o_24 (_P:Params):Obj:=tO [("found",200),("low",201),("high",202)]
noncomputable def o_25 (_P:Params):Obj:=tO []
noncomputable def o_27 (_P:Params):Obj:=cO "put_behind" 197 "put_behind" 198 199 204 [(.int 4 0),.int 3 0,.int 0 0,.int 0 0,.int 3 0,.ref 22,.bool true,.int 181 0,.ref 23,.none,.ref 24,.ref 25,.ref 26,.int 203 0,(.int 4 0)]
noncomputable def o_29 (_P:Params):Obj:=tO []
noncomputable def o_30 (_P:Params):Obj:=⟨.none,none,(.fields #[]),#[]⟩
noncomputable def o_31 (_P:Params):Obj:=tO [("numbers",209),("found",210),("v",211)]
noncomputable def o_32 (_P:Params):Obj:=tO []
noncomputable def o_34 (_P:Params):Obj:=cO "from_values" 206 "from_values" 207 208 213 [(.int 10 0),.int 1 0,.int 0 0,.int 0 0,.int 3 0,.ref 29,.bool true,.int 181 0,.ref 30,.none,.ref 31,.ref 32,.ref 33,.int 212 0,(.int 10 0)]
noncomputable def o_36 (_P:Params):Obj:=tO []
noncomputable def o_37 (_P:Params):Obj:=⟨.none,none,(.fields #[]),#[]⟩
noncomputable def o_38 (_P:Params):Obj:=tO [("d",218),("v",219),("low",220),("high",221)]
noncomputable def o_39 (_P:Params):Obj:=tO []
noncomputable def o_41 (_P:Params):Obj:=cO "next_from" 215 "next_from" 216 217 223 [(.int 15 0),.int 2 0,.int 0 0,.int 0 0,.int 3 0,.ref 36,.bool true,.int 181 0,.ref 37,.none,.ref 38,.ref 39,.ref 40,.int 222 0,(.int 15 0)]
noncomputable def o_43 (_P:Params):Obj:=tO []
noncomputable def o_44 (_P:Params):Obj:=⟨.none,none,(.fields #[]),#[]⟩
noncomputable def o_45 (_P:Params):Obj:=tO [("d",228),("v",229)]
noncomputable def o_46 (_P:Params):Obj:=tO []
noncomputable def o_48 (_P:Params):Obj:=cO "has" 225 "has" 226 227 231 [(.int 20 0),.int 2 0,.int 0 0,.int 0 0,.int 3 0,.ref 43,.bool true,.int 181 0,.ref 44,.none,.ref 45,.ref 46,.ref 47,.int 230 0,(.int 20 0)]
noncomputable def o_50 (_P:Params):Obj:=⟨.type "tuple",none,(.seq #[.type "Exception"] 0),#[]⟩
noncomputable def o_53 (_P:Params):Obj:=⟨.type "cell",none,(.cell (some (.ref 75))),#[]⟩
noncomputable def o_58 (_P:Params):Obj:=⟨.type "tuple",none,(.seq #[.ref 53] 0),#[]⟩
noncomputable def o_59 (_P:Params):Obj:=tO [("__class__",250)]
noncomputable def o_60 (_P:Params):Obj:=⟨.none,none,(.fields #[]),#[]⟩
noncomputable def o_61 (_P:Params):Obj:=tO [("self",251),("what",252)]
noncomputable def o_62 (_P:Params):Obj:=tO []
noncomputable def o_64 (_P:Params):Obj:=⟨.type "code",none,(.fields #[.str (.ofString "__init__") 247,.str (.ofString "FdError.__init__") 248,.str (.ofString "/claim/cut.py") 249,.int 25 0,.int 2 0,.int 0 0,.int 0 0,.int 3 0,.ref 59,.bool true,.int 181 0,.ref 60,.none,.ref 61,.ref 62,.ref 63,.int 253 0,.int 25 0,.str (.ofString "/claim/cut.py") 254]),#[]⟩
noncomputable def o_65 (_P:Params):Obj:=by
  refine (?f:?b=fO (meAt 7 0) "__init__" "FdError.__init__" [((.ofString "__class__"),53)] (.str (.ofString "fdsolve.errors") 233) (.ref 64) (.ref 58)→Obj) ?pf;k_extra "m fo"
noncomputable def o_66 (_P:Params):Obj:=tO []
noncomputable def o_67 (_P:Params):Obj:=⟨.none,none,(.fields #[]),#[]⟩
noncomputable def o_68 (_P:Params):Obj:=tO [("self",259)]
noncomputable def o_69 (_P:Params):Obj:=tO []
noncomputable def o_71 (_P:Params):Obj:=cO "told" 256 "FdError.told" 257 258 261 [(.int 29 0),.int 1 0,.int 0 0,.int 0 0,.int 3 0,.ref 66,.bool true,.int 181 0,.ref 67,.none,.ref 68,.ref 69,.ref 70,.int 260 0,(.int 29 0)]
noncomputable def o_73 (_P:Params):Obj:=tO [("what",263)]
noncomputable def o_74 (P:Params):Obj:=⟨.type "dict",none,(.dict #[⟨(PyData.keyHash P (.ofString "__module__")),.str (.ofString "__module__") 242,.str (.ofString "fdsolve.errors") 233⟩,⟨(PyData.keyHash P (.ofString "__firstlineno__")),.str (.ofString "__firstlineno__") 246,.int 23 245⟩,⟨(PyData.keyHash P (.ofString "__init__")),.str (.ofString "__init__") 255,.ref 65⟩,⟨(PyData.keyHash P (.ofString "told")),.str (.ofString "told") 262,.ref 72⟩,⟨(PyData.keyHash P (.ofString "__static_attributes__")),.str (.ofString "__static_attributes__") 264,.ref 73⟩,⟨(PyData.keyHash P (.ofString "__weakref__")),.str (.ofString "__weakref__") 267,.ref 76⟩,⟨(PyData.keyHash P (.ofString "__doc__")),.str (.ofString "__doc__") 268,.none⟩] 4),#[]⟩
noncomputable def o_75 (_P:Params):Obj:=⟨.type "type",none,(.cls ⟨.ofString "FdError",[.type "Exception"],[.ref 75,.type "Exception",.type "BaseException",.type "object"],74,.ofString "FdError",true,[],[.ref 104,.ref 128],false,none,false⟩),#[(some (.ref 50)),none,(some (.str (.ofString "FdError") 235)),(some (.str (.ofString "FdError") 243)),(some (.builtin "Exception.__new__")),(some (.bool true))]⟩
noncomputable def o_76 (_P:Params):Obj:=⟨.type "getset_descriptor",none,(.fields #[.str (.ofString "__weakref__") 266,.ref 75,.builtin "ExceptionGroup.__weakref__",.none]),#[]⟩
noncomputable def o_79 (_P:Params):Obj:=⟨.type "tuple",none,(.seq #[.ref 75] 0),#[]⟩
noncomputable def o_82 (_P:Params):Obj:=⟨.type "cell",none,(.cell (some (.ref 104))),#[]⟩
noncomputable def o_87 (_P:Params):Obj:=⟨.type "tuple",none,(.seq #[.ref 82] 0),#[]⟩
noncomputable def o_88 (_P:Params):Obj:=tO [("__class__",288)]
noncomputable def o_89 (_P:Params):Obj:=⟨.none,none,(.fields #[]),#[]⟩
noncomputable def o_90 (_P:Params):Obj:=tO [("self",289),("what",290),("spot",291)]
noncomputable def o_91 (_P:Params):Obj:=tO []
noncomputable def o_93 (_P:Params):Obj:=⟨.type "code",none,(.fields #[.str (.ofString "__init__") 285,.str (.ofString "SpotFault.__init__") 286,.str (.ofString "/claim/cut.py") 287,.int 33 0,.int 3 0,.int 0 0,.int 0 0,.int 3 0,.ref 88,.bool true,.int 181 0,.ref 89,.none,.ref 90,.ref 91,.ref 92,.int 292 0,.int 33 0,.str (.ofString "/claim/cut.py") 293]),#[]⟩
noncomputable def o_94 (_P:Params):Obj:=by
  refine (?f:?b=fO (meAt 8 0) "__init__" "SpotFault.__init__" [((.ofString "__class__"),82)] (.str (.ofString "fdsolve.errors") 233) (.ref 93) (.ref 87)→Obj) ?pf;k_extra "m fo"
noncomputable def o_95 (_P:Params):Obj:=tO []
noncomputable def o_96 (_P:Params):Obj:=⟨.none,none,(.fields #[]),#[]⟩
noncomputable def o_97 (_P:Params):Obj:=tO [("self",298)]
noncomputable def o_98 (_P:Params):Obj:=tO []
noncomputable def o_100 (_P:Params):Obj:=cO "told" 295 "SpotFault.told" 296 297 300 [(.int 37 0),.int 1 0,.int 0 0,.int 0 0,.int 3 0,.ref 95,.bool true,.int 181 0,.ref 96,.none,.ref 97,.ref 98,.ref 99,.int 299 0,(.int 37 0)]
noncomputable def o_102 (_P:Params):Obj:=tO [("spot",302)]
noncomputable def o_103 (P:Params):Obj:=⟨.type "dict",none,(.dict #[⟨(PyData.keyHash P (.ofString "__module__")),.str (.ofString "__module__") 280,.str (.ofString "fdsolve.errors") 233⟩,⟨(PyData.keyHash P (.ofString "__firstlineno__")),.str (.ofString "__firstlineno__") 284,.int 31 283⟩,⟨(PyData.keyHash P (.ofString "__init__")),.str (.ofString "__init__") 294,.ref 94⟩,⟨(PyData.keyHash P (.ofString "told")),.str (.ofString "told") 301,.ref 101⟩,⟨(PyData.keyHash P (.ofString "__static_attributes__")),.str (.ofString "__static_attributes__") 303,.ref 102⟩,⟨(PyData.keyHash P (.ofString "__doc__")),.str (.ofString "__doc__") 305,.none⟩] 3),#[]⟩
noncomputable def o_104 (_P:Params):Obj:=⟨.type "type",none,(.cls ⟨.ofString "SpotFault",[.ref 75],[.ref 104,.ref 75,.type "Exception",.type "BaseException",.type "object"],103,.ofString "SpotFault",true,[],[.ref 116],false,none,false⟩),#[(some (.ref 79)),none,(some (.str (.ofString "SpotFault") 273)),(some (.str (.ofString "SpotFault") 281)),(some (.builtin "Exception.__new__")),(some (.bool true))]⟩
noncomputable def o_107 (_P:Params):Obj:=⟨.type "tuple",none,(.seq #[.ref 104] 0),#[]⟩
noncomputable def o_114 (_P:Params):Obj:=tO []
noncomputable def o_115 (P:Params):Obj:=⟨.type "dict",none,(.dict #[⟨(PyData.keyHash P (.ofString "__module__")),.str (.ofString "__module__") 315,.str (.ofString "fdsolve.errors") 233⟩,⟨(PyData.keyHash P (.ofString "__firstlineno__")),.str (.ofString "__firstlineno__") 319,.int 39 318⟩,⟨(PyData.keyHash P (.ofString "__static_attributes__")),.str (.ofString "__static_attributes__") 320,.ref 114⟩,⟨(PyData.keyHash P (.ofString "__doc__")),.str (.ofString "__doc__") 321,.none⟩] 2),#[]⟩
noncomputable def o_116 (_P:Params):Obj:=⟨.type "type",none,(.cls ⟨.ofString "EvalFault",[.ref 104],[.ref 116,.ref 104,.ref 75,.type "Exception",.type "BaseException",.type "object"],115,.ofString "EvalFault",true,[],[],false,none,false⟩),#[(some (.ref 107)),none,(some (.str (.ofString "EvalFault") 308)),(some (.str (.ofString "EvalFault") 316)),(some (.builtin "Exception.__new__")),(some (.bool true))]⟩
noncomputable def o_119 (_P:Params):Obj:=⟨.type "tuple",none,(.seq #[.ref 75] 0),#[]⟩
noncomputable def o_126 (_P:Params):Obj:=tO []
noncomputable def o_127 (P:Params):Obj:=⟨.type "dict",none,(.dict #[⟨(PyData.keyHash P (.ofString "__module__")),.str (.ofString "__module__") 331,.str (.ofString "fdsolve.errors") 233⟩,⟨(PyData.keyHash P (.ofString "__firstlineno__")),.str (.ofString "__firstlineno__") 335,.int 41 334⟩,⟨(PyData.keyHash P (.ofString "__static_attributes__")),.str (.ofString "__static_attributes__") 336,.ref 126⟩,⟨(PyData.keyHash P (.ofString "__doc__")),.str (.ofString "__doc__") 337,.none⟩] 2),#[]⟩
noncomputable def o_128 (_P:Params):Obj:=⟨.type "type",none,(.cls ⟨.ofString "LimitFault",[.ref 75],[.ref 128,.ref 75,.type "Exception",.type "BaseException",.type "object"],127,.ofString "LimitFault",true,[],[],false,none,false⟩),#[(some (.ref 119)),none,(some (.str (.ofString "LimitFault") 324)),(some (.str (.ofString "LimitFault") 332)),(some (.builtin "Exception.__new__")),(some (.bool true))]⟩
noncomputable def o_131 (_P:Params):Obj:=tO []
noncomputable def o_132 (_P:Params):Obj:=⟨.none,none,(.fields #[]),#[]⟩
noncomputable def o_133 (_P:Params):Obj:=tO [("value",351)]
noncomputable def o_134 (_P:Params):Obj:=tO []
noncomputable def o_136 (_P:Params):Obj:=⟨.type "code",none,(.fields #[.str (.ofString "is_array") 348,.str (.ofString "is_array") 349,.str (.ofString "/claim/cut.py") 350,.int 47 0,.int 1 0,.int 0 0,.int 0 0,.int 3 0,.ref 131,.bool true,.int 181 0,.ref 132,.none,.ref 133,.ref 134,.ref 135,.int 352 0,.int 47 0,.str (.ofString "/claim/cut.py") 353]),#[]⟩
noncomputable def o_137 (_P:Params):Obj:=by
  refine (?f:?b=fO (stAt 15) "is_array" "is_array" [] (.str (.ofString "fdsolve.values") 340) (.ref 136) .none→Obj) ?pf;k_extra "m fo"
noncomputable def o_138 (_P:Params):Obj:=tO []
noncomputable def o_139 (_P:Params):Obj:=⟨.none,none,(.fields #[]),#[]⟩
noncomputable def o_140 (_P:Params):Obj:=tO [("value",358)]
noncomputable def o_141 (_P:Params):Obj:=tO []
noncomputable def o_143 (_P:Params):Obj:=⟨.type "code",none,(.fields #[.str (.ofString "is_set") 355,.str (.ofString "is_set") 356,.str (.ofString "/claim/cut.py") 357,.int 49 0,.int 1 0,.int 0 0,.int 0 0,.int 3 0,.ref 138,.bool true,.int 181 0,.ref 139,.none,.ref 140,.ref 141,.ref 142,.int 359 0,.int 49 0,.str (.ofString "/claim/cut.py") 360]),#[]⟩
noncomputable def o_144 (_P:Params):Obj:=by
  refine (?f:?b=fO (stAt 16) "is_set" "is_set" [] (.str (.ofString "fdsolve.values") 340) (.ref 143) .none→Obj) ?pf;k_extra "m fo"
noncomputable def o_145 (_P:Params):Obj:=tO []
noncomputable def o_146 (_P:Params):Obj:=⟨.none,none,(.fields #[]),#[]⟩
noncomputable def o_147 (_P:Params):Obj:=tO [("value",365),("spot",366)]
noncomputable def o_148 (_P:Params):Obj:=tO []
noncomputable def o_150 (_P:Params):Obj:=⟨.type "code",none,(.fields #[.str (.ofString "number_of") 362,.str (.ofString "number_of") 363,.str (.ofString "/claim/cut.py") 364,.int 51 0,.int 2 0,.int 0 0,.int 0 0,.int 3 0,.ref 145,.bool true,.int 181 0,.ref 146,.none,.ref 147,.ref 148,.ref 149,.int 367 0,.int 51 0,.str (.ofString "/claim/cut.py") 368]),#[]⟩
noncomputable def o_151 (_P:Params):Obj:=by
  refine (?f:?b=fO (stAt 17) "number_of" "number_of" [] (.str (.ofString "fdsolve.values") 340) (.ref 150) .none→Obj) ?pf;k_extra "m fo"
noncomputable def o_152 (_P:Params):Obj:=tO []
noncomputable def o_153 (_P:Params):Obj:=⟨.none,none,(.fields #[]),#[]⟩
noncomputable def o_154 (_P:Params):Obj:=tO [("value",373),("spot",374)]
noncomputable def o_155 (_P:Params):Obj:=tO []
noncomputable def o_157 (_P:Params):Obj:=cO "truth_of" 370 "truth_of" 371 372 376 [(.int 55 0),.int 2 0,.int 0 0,.int 0 0,.int 3 0,.ref 152,.bool true,.int 181 0,.ref 153,.none,.ref 154,.ref 155,.ref 156,.int 375 0,(.int 55 0)]
noncomputable def o_159 (_P:Params):Obj:=tO []
noncomputable def o_160 (_P:Params):Obj:=⟨.none,none,(.fields #[]),#[]⟩
noncomputable def o_161 (_P:Params):Obj:=tO [("value",381),("spot",382)]
noncomputable def o_162 (_P:Params):Obj:=tO []
noncomputable def o_164 (_P:Params):Obj:=cO "text_of" 378 "text_of" 379 380 384 [(.int 59 0),.int 2 0,.int 0 0,.int 0 0,.int 3 0,.ref 159,.bool true,.int 181 0,.ref 160,.none,.ref 161,.ref 162,.ref 163,.int 383 0,(.int 59 0)]
noncomputable def o_166 (_P:Params):Obj:=tO []
noncomputable def o_167 (_P:Params):Obj:=⟨.none,none,(.fields #[]),#[]⟩
noncomputable def o_168 (_P:Params):Obj:=tO [("value",389),("spot",390)]
noncomputable def o_169 (_P:Params):Obj:=tO []
noncomputable def o_171 (_P:Params):Obj:=⟨.type "code",none,(.fields #[.str (.ofString "set_of") 386,.str (.ofString "set_of") 387,.str (.ofString "/claim/cut.py") 388,.int 63 0,.int 2 0,.int 0 0,.int 0 0,.int 3 0,.ref 166,.bool true,.int 181 0,.ref 167,.none,.ref 168,.ref 169,.ref 170,.int 391 0,.int 63 0,.str (.ofString "/claim/cut.py") 392]),#[]⟩
noncomputable def o_172 (_P:Params):Obj:=by
  refine (?f:?b=fO (stAt 20) "set_of" "set_of" [] (.str (.ofString "fdsolve.values") 340) (.ref 171) .none→Obj) ?pf;k_extra "m fo"
noncomputable def o_173 (_P:Params):Obj:=tO []
noncomputable def o_174 (_P:Params):Obj:=⟨.none,none,(.fields #[]),#[]⟩
noncomputable def o_175 (_P:Params):Obj:=tO [("value",397),("spot",398)]
noncomputable def o_176 (_P:Params):Obj:=tO []
noncomputable def o_178 (_P:Params):Obj:=⟨.type "code",none,(.fields #[.str (.ofString "list_of") 394,.str (.ofString "list_of") 395,.str (.ofString "/claim/cut.py") 396,.int 67 0,.int 2 0,.int 0 0,.int 0 0,.int 3 0,.ref 173,.bool true,.int 181 0,.ref 174,.none,.ref 175,.ref 176,.ref 177,.int 399 0,.int 67 0,.str (.ofString "/claim/cut.py") 400]),#[]⟩
noncomputable def o_179 (_P:Params):Obj:=by
  refine (?f:?b=fO (stAt 21) "list_of" "list_of" [] (.str (.ofString "fdsolve.values") 340) (.ref 178) .none→Obj) ?pf;k_extra "m fo"
noncomputable def o_180 (_P:Params):Obj:=tO []
noncomputable def o_181 (_P:Params):Obj:=⟨.none,none,(.fields #[]),#[]⟩
noncomputable def o_182 (_P:Params):Obj:=tO [("value",405),("spot",406)]
noncomputable def o_183 (_P:Params):Obj:=tO []
noncomputable def o_185 (_P:Params):Obj:=cO "elements_of" 402 "elements_of" 403 404 408 [(.int 71 0),.int 2 0,.int 0 0,.int 0 0,.int 3 0,.ref 180,.bool true,.int 181 0,.ref 181,.none,.ref 182,.ref 183,.ref 184,.int 407 0,(.int 71 0)]
noncomputable def o_187 (_P:Params):Obj:=tO []
noncomputable def o_188 (_P:Params):Obj:=⟨.none,none,(.fields #[]),#[]⟩
noncomputable def o_189 (_P:Params):Obj:=tO [("some",413)]
noncomputable def o_190 (_P:Params):Obj:=tO []
noncomputable def o_192 (_P:Params):Obj:=cO "row_of" 410 "row_of" 411 412 415 [(.int 73 0),.int 1 0,.int 0 0,.int 0 0,.int 3 0,.ref 187,.bool true,.int 181 0,.ref 188,.none,.ref 189,.ref 190,.ref 191,.int 414 0,(.int 73 0)]
noncomputable def o_194 (_P:Params):Obj:=tO []
noncomputable def o_195 (_P:Params):Obj:=⟨.none,none,(.fields #[]),#[]⟩
noncomputable def o_196 (_P:Params):Obj:=tO [("low",420),("high",421)]
noncomputable def o_197 (_P:Params):Obj:=tO []
noncomputable def o_199 (_P:Params):Obj:=⟨.type "code",none,(.fields #[.str (.ofString "span") 417,.str (.ofString "span") 418,.str (.ofString "/claim/cut.py") 419,.int 75 0,.int 2 0,.int 0 0,.int 0 0,.int 3 0,.ref 194,.bool true,.int 181 0,.ref 195,.none,.ref 196,.ref 197,.ref 198,.int 422 0,.int 75 0,.str (.ofString "/claim/cut.py") 423]),#[]⟩
noncomputable def o_200 (_P:Params):Obj:=by
  refine (?f:?b=fO (stAt 24) "span" "span" [] (.str (.ofString "fdsolve.values") 340) (.ref 199) .none→Obj) ?pf;k_extra "m fo"
noncomputable def o_201 (_P:Params):Obj:=tO []
noncomputable def o_202 (_P:Params):Obj:=⟨.none,none,(.fields #[]),#[]⟩
noncomputable def o_203 (_P:Params):Obj:=tO [("a",428),("b",429),("spot",430),("found",431)]
noncomputable def o_204 (_P:Params):Obj:=tO []
noncomputable def o_206 (_P:Params):Obj:=cO "quotient" 425 "quotient" 426 427 433 [(.int 79 0),.int 3 0,.int 0 0,.int 0 0,.int 3 0,.ref 201,.bool true,.int 181 0,.ref 202,.none,.ref 203,.ref 204,.ref 205,.int 432 0,(.int 79 0)]
noncomputable def o_208 (_P:Params):Obj:=tO []
noncomputable def o_209 (_P:Params):Obj:=⟨.none,none,(.fields #[]),#[]⟩
noncomputable def o_210 (_P:Params):Obj:=tO [("number",438)]
noncomputable def o_211 (_P:Params):Obj:=tO []
noncomputable def o_213 (_P:Params):Obj:=cO "within_figures" 435 "within_figures" 436 437 440 [(.int 84 0),.int 1 0,.int 0 0,.int 0 0,.int 3 0,.ref 208,.bool true,.int 181 0,.ref 209,.none,.ref 210,.ref 211,.ref 212,.int 439 0,(.int 84 0)]
noncomputable def o_215 (_P:Params):Obj:=tO []
noncomputable def o_216 (_P:Params):Obj:=⟨.none,none,(.fields #[]),#[]⟩
noncomputable def o_217 (_P:Params):Obj:=tO [("base",445),("many",446),("spot",447),("found",448),("turn",449)]
noncomputable def o_218 (_P:Params):Obj:=tO []
noncomputable def o_220 (_P:Params):Obj:=cO "power" 442 "power" 443 444 451 [(.int 88 0),.int 3 0,.int 0 0,.int 0 0,.int 3 0,.ref 215,.bool true,.int 181 0,.ref 216,.none,.ref 217,.ref 218,.ref 219,.int 450 0,(.int 88 0)]
noncomputable def o_222 (_P:Params):Obj:=tO []
noncomputable def o_223 (_P:Params):Obj:=⟨.none,none,(.fields #[]),#[]⟩
noncomputable def o_225 (_P:Params):Obj:=cO "are_same" 453 "are_same" 454 455 457 [(.int 97 0),.int 2 0,.int 0 0,.int 0 0,.int 3 0,.ref 222,.bool true,.int 181 0,.ref 223,.none,.none,.none,.ref 224,.int 456 0,(.int 97 0)]
noncomputable def o_227 (_P:Params):Obj:=tO []
noncomputable def o_228 (_P:Params):Obj:=⟨.none,none,(.fields #[]),#[]⟩
noncomputable def o_229 (_P:Params):Obj:=tO [("sign",462),("a",463),("b",464),("spot",465)]
noncomputable def o_230 (_P:Params):Obj:=tO []
noncomputable def o_232 (_P:Params):Obj:=cO "are_compared" 459 "are_compared" 460 461 467 [(.int 103 0),.int 4 0,.int 0 0,.int 0 0,.int 3 0,.ref 227,.bool true,.int 181 0,.ref 228,.none,.ref 229,.ref 230,.ref 231,.int 466 0,(.int 103 0)]
noncomputable def o_234 (_P:Params):Obj:=tO []
noncomputable def o_235 (_P:Params):Obj:=⟨.none,none,(.fields #[]),#[]⟩
noncomputable def o_237 (_P:Params):Obj:=cO "joined_sets" 469 "joined_sets" 470 471 473 [(.int 115 0),.int 3 0,.int 0 0,.int 0 0,.int 3 0,.ref 234,.bool true,.int 181 0,.ref 235,.none,.none,.none,.ref 236,.int 472 0,(.int 115 0)]
noncomputable def o_239 (_P:Params):Obj:=tO []
noncomputable def o_240 (_P:Params):Obj:=⟨.none,none,(.fields #[]),#[]⟩
noncomputable def o_241 (_P:Params):Obj:=tO [("sign",478),("a",479),("b",480),("spot",481)]
noncomputable def o_242 (_P:Params):Obj:=tO []
noncomputable def o_244 (_P:Params):Obj:=cO "reckoned" 475 "reckoned" 476 477 483 [(.int 123 0),.int 4 0,.int 0 0,.int 0 0,.int 3 0,.ref 239,.bool true,.int 181 0,.ref 240,.none,.ref 241,.ref 242,.ref 243,.int 482 0,(.int 123 0)]
noncomputable def o_246 (_P:Params):Obj:=tO []
noncomputable def o_247 (_P:Params):Obj:=⟨.none,none,(.fields #[]),#[]⟩
noncomputable def o_249 (_P:Params):Obj:=cO "show_text" 485 "show_text" 486 487 489 [(.int 135 0),.int 1 0,.int 0 0,.int 0 0,.int 3 0,.ref 246,.bool true,.int 181 0,.ref 247,.none,.none,.none,.ref 248,.int 488 0,(.int 135 0)]
noncomputable def o_251 (_P:Params):Obj:=tO []
noncomputable def o_252 (_P:Params):Obj:=⟨.none,none,(.fields #[]),#[]⟩
noncomputable def o_254 (_P:Params):Obj:=cO "folded" 491 "folded" 492 493 495 [(.int 147 0),.int 3 0,.int 0 0,.int 0 0,.int 3 0,.ref 251,.bool true,.int 181 0,.ref 252,.none,.none,.none,.ref 253,.int 494 0,(.int 147 0)]
noncomputable def o_256 (_P:Params):Obj:=tO [("forall",497),("exists",498),("xorall",499),("iffall",500),("sum",501),("product",502),("min",503),("max",504)]
noncomputable def o_257 (_P:Params):Obj:=tO []
noncomputable def o_258 (_P:Params):Obj:=⟨.none,none,(.fields #[]),#[]⟩
noncomputable def o_260 (_P:Params):Obj:=cO "scopes_of" 506 "scopes_of" 507 508 510 [(.int 167 0),.int 3 0,.int 0 0,.int 0 0,.int 3 0,.ref 257,.bool true,.int 181 0,.ref 258,.none,.none,.none,.ref 259,.int 509 0,(.int 167 0)]
noncomputable def o_269 (_P:Params):Obj:=tO []
noncomputable def o_270 (_P:Params):Obj:=⟨.none,none,(.fields #[]),#[]⟩
noncomputable def o_271 (_P:Params):Obj:=tO [("self",527),("scope",528)]
noncomputable def o_272 (_P:Params):Obj:=tO []
noncomputable def o_274 (_P:Params):Obj:=⟨.type "code",none,(.fields #[.str (.ofString "__init__") 524,.str (.ofString "Evaluator.__init__") 525,.str (.ofString "/claim/cut.py") 526,.int 185 0,.int 2 0,.int 0 0,.int 0 0,.int 3 0,.ref 269,.bool true,.int 181 0,.ref 270,.none,.ref 271,.ref 272,.ref 273,.int 529 0,.int 185 0,.str (.ofString "/claim/cut.py") 530]),#[]⟩
noncomputable def o_275 (_P:Params):Obj:=by
  refine (?f:?b=fO (meAt 36 0) "__init__" "Evaluator.__init__" [] (.str (.ofString "fdsolve.values") 340) (.ref 274) .none→Obj) ?pf;k_extra "m fo"
noncomputable def o_276 (_P:Params):Obj:=tO []
noncomputable def o_277 (_P:Params):Obj:=⟨.none,none,(.fields #[]),#[]⟩
noncomputable def o_278 (_P:Params):Obj:=tO [("self",535),("node",536),("op",537),("spot",538)]
noncomputable def o_279 (_P:Params):Obj:=tO []
noncomputable def o_281 (_P:Params):Obj:=⟨.type "code",none,(.fields #[.str (.ofString "value_of") 532,.str (.ofString "Evaluator.value_of") 533,.str (.ofString "/claim/cut.py") 534,.int 188 0,.int 2 0,.int 0 0,.int 0 0,.int 3 0,.ref 276,.bool true,.int 181 0,.ref 277,.none,.ref 278,.ref 279,.ref 280,.int 539 0,.int 188 0,.str (.ofString "/claim/cut.py") 540]),#[]⟩
noncomputable def o_282 (_P:Params):Obj:=by
  refine (?f:?b=fO (meAt 36 1) "value_of" "Evaluator.value_of" [] (.str (.ofString "fdsolve.values") 340) (.ref 281) .none→Obj) ?pf;k_extra "m fo"
noncomputable def o_283 (_P:Params):Obj:=tO []
noncomputable def o_284 (_P:Params):Obj:=⟨.none,none,(.fields #[]),#[]⟩
noncomputable def o_286 (_P:Params):Obj:=⟨.type "code",none,(.fields #[.str (.ofString "values_of") 542,.str (.ofString "Evaluator.values_of") 543,.str (.ofString "/claim/cut.py") 544,.int 212 0,.int 2 0,.int 0 0,.int 0 0,.int 3 0,.ref 283,.bool true,.int 181 0,.ref 284,.none,.none,.none,.ref 285,.int 545 0,.int 212 0,.str (.ofString "/claim/cut.py") 546]),#[]⟩
noncomputable def o_287 (_P:Params):Obj:=by
  refine (?f:?b=fO (meAt 36 2) "values_of" "Evaluator.values_of" [] (.str (.ofString "fdsolve.values") 340) (.ref 286) .none→Obj) ?pf;k_extra "m fo"
noncomputable def o_288 (_P:Params):Obj:=tO []
noncomputable def o_289 (_P:Params):Obj:=⟨.none,none,(.fields #[]),#[]⟩
noncomputable def o_291 (_P:Params):Obj:=cO "built" 548 "Evaluator.built" 549 550 552 [(.int 215 0),.int 4 0,.int 0 0,.int 0 0,.int 3 0,.ref 288,.bool true,.int 181 0,.ref 289,.none,.none,.none,.ref 290,.int 551 0,(.int 215 0)]
noncomputable def o_293 (_P:Params):Obj:=tO []
noncomputable def o_294 (_P:Params):Obj:=⟨.none,none,(.fields #[]),#[]⟩
noncomputable def o_295 (_P:Params):Obj:=tO [("self",557),("node",558),("name",559),("spot",560),("found",561),("one",562)]
noncomputable def o_296 (_P:Params):Obj:=tO []
noncomputable def o_298 (_P:Params):Obj:=cO "gathered" 554 "Evaluator.gathered" 555 556 564 [(.int 236 0),.int 2 0,.int 0 0,.int 0 0,.int 3 0,.ref 293,.bool true,.int 181 0,.ref 294,.none,.ref 295,.ref 296,.ref 297,.int 563 0,(.int 236 0)]
noncomputable def o_300 (_P:Params):Obj:=tO []
noncomputable def o_301 (_P:Params):Obj:=⟨.none,none,(.fields #[]),#[]⟩
noncomputable def o_302 (_P:Params):Obj:=tO [("self",569),("sign",570),("node",571),("spot",572),("value",573)]
noncomputable def o_303 (_P:Params):Obj:=tO []
noncomputable def o_305 (_P:Params):Obj:=cO "of_one" 566 "Evaluator.of_one" 567 568 575 [(.int 244 0),.int 4 0,.int 0 0,.int 0 0,.int 3 0,.ref 300,.bool true,.int 181 0,.ref 301,.none,.ref 302,.ref 303,.ref 304,.int 574 0,(.int 244 0)]
noncomputable def o_307 (_P:Params):Obj:=tO []
noncomputable def o_308 (_P:Params):Obj:=⟨.none,none,(.fields #[]),#[]⟩
noncomputable def o_309 (_P:Params):Obj:=tO [("self",580),("sign",581),("left",582),("right",583),("spot",584),("a",585),("b",586),("few",587),("many",588)]
noncomputable def o_310 (_P:Params):Obj:=tO []
noncomputable def o_312 (_P:Params):Obj:=cO "of_two" 577 "Evaluator.of_two" 578 579 590 [(.int 250 0),.int 5 0,.int 0 0,.int 0 0,.int 3 0,.ref 307,.bool true,.int 181 0,.ref 308,.none,.ref 309,.ref 310,.ref 311,.int 589 0,(.int 250 0)]
noncomputable def o_314 (_P:Params):Obj:=tO []
noncomputable def o_315 (_P:Params):Obj:=⟨.none,none,(.fields #[]),#[]⟩
noncomputable def o_316 (_P:Params):Obj:=tO [("self",595),("node",596),("value",597),("spot",598),("some",599),("place",600),("low",601),("high",602),("one",603),("index",604)]
noncomputable def o_317 (_P:Params):Obj:=tO []
noncomputable def o_319 (_P:Params):Obj:=⟨.type "code",none,(.fields #[.str (.ofString "element") 592,.str (.ofString "Evaluator.element") 593,.str (.ofString "/claim/cut.py") 594,.int 276 0,.int 2 0,.int 0 0,.int 0 0,.int 3 0,.ref 314,.bool true,.int 181 0,.ref 315,.none,.ref 316,.ref 317,.ref 318,.int 605 0,.int 276 0,.str (.ofString "/claim/cut.py") 606]),#[]⟩
noncomputable def o_320 (_P:Params):Obj:=by
  refine (?f:?b=fO (meAt 36 7) "element" "Evaluator.element" [] (.str (.ofString "fdsolve.values") 340) (.ref 319) .none→Obj) ?pf;k_extra "m fo"
noncomputable def o_321 (_P:Params):Obj:=tO []
noncomputable def o_322 (_P:Params):Obj:=⟨.none,none,(.fields #[]),#[]⟩
noncomputable def o_323 (_P:Params):Obj:=tO [("self",611),("node",612),("condition",613),("value",614)]
noncomputable def o_324 (_P:Params):Obj:=tO []
noncomputable def o_326 (_P:Params):Obj:=cO "chosen" 608 "Evaluator.chosen" 609 610 616 [(.int 289 0),.int 2 0,.int 0 0,.int 0 0,.int 3 0,.ref 321,.bool true,.int 181 0,.ref 322,.none,.ref 323,.ref 324,.ref 325,.int 615 0,(.int 289 0)]
noncomputable def o_328 (_P:Params):Obj:=tO []
noncomputable def o_329 (_P:Params):Obj:=⟨.none,none,(.fields #[]),#[]⟩
noncomputable def o_330 (_P:Params):Obj:=tO [("self",621),("node",622),("inner",623),("item",624)]
noncomputable def o_331 (_P:Params):Obj:=tO []
noncomputable def o_333 (_P:Params):Obj:=cO "within" 618 "Evaluator.within" 619 620 626 [(.int 295 0),.int 2 0,.int 0 0,.int 0 0,.int 3 0,.ref 328,.bool true,.int 181 0,.ref 329,.none,.ref 330,.ref 331,.ref 332,.int 625 0,(.int 295 0)]
noncomputable def o_335 (_P:Params):Obj:=tO []
noncomputable def o_336 (_P:Params):Obj:=⟨.none,none,(.fields #[]),#[]⟩
noncomputable def o_337 (_P:Params):Obj:=tO [("self",631),("dims",632),("value",633),("spot",634),("found",635),("dim",636),("low",637),("high",638),("some",639)]
noncomputable def o_338 (_P:Params):Obj:=tO []
noncomputable def o_340 (_P:Params):Obj:=cO "ranges_of" 628 "Evaluator.ranges_of" 629 630 641 [(.int 307 0),.int 4 0,.int 0 0,.int 0 0,.int 3 0,.ref 335,.bool true,.int 181 0,.ref 336,.none,.ref 337,.ref 338,.ref 339,.int 640 0,(.int 307 0)]
noncomputable def o_342 (_P:Params):Obj:=tO []
noncomputable def o_343 (_P:Params):Obj:=⟨.none,none,(.fields #[]),#[]⟩
noncomputable def o_344 (_P:Params):Obj:=tO [("self",646),("node",647),("low",648),("high",649)]
noncomputable def o_345 (_P:Params):Obj:=tO []
noncomputable def o_347 (_P:Params):Obj:=cO "domain_of" 643 "Evaluator.domain_of" 644 645 651 [(.int 322 0),.int 2 0,.int 0 0,.int 0 0,.int 3 0,.ref 342,.bool true,.int 181 0,.ref 343,.none,.ref 344,.ref 345,.ref 346,.int 650 0,(.int 322 0)]
noncomputable def o_349 (_P:Params):Obj:=tO []
noncomputable def o_350 (_P:Params):Obj:=⟨.none,none,(.fields #[]),#[]⟩
noncomputable def o_352 (_P:Params):Obj:=cO "fitted" 653 "Evaluator.fitted" 654 655 657 [(.int 328 0),.int 4 0,.int 0 0,.int 0 0,.int 3 0,.ref 349,.bool true,.int 181 0,.ref 350,.none,.none,.none,.ref 351,.int 656 0,(.int 328 0)]
noncomputable def o_354 (_P:Params):Obj:=tO [("scope",659)]
noncomputable def o_355 (P:Params):Obj:=⟨.type "dict",none,(.dict #[⟨(PyData.keyHash P (.ofString "__module__")),.str (.ofString "__module__") 519,.str (.ofString "fdsolve.values") 340⟩,⟨(PyData.keyHash P (.ofString "__firstlineno__")),.str (.ofString "__firstlineno__") 523,.int 183 522⟩,⟨(PyData.keyHash P (.ofString "__init__")),.str (.ofString "__init__") 531,.ref 275⟩,⟨(PyData.keyHash P (.ofString "value_of")),.str (.ofString "value_of") 541,.ref 282⟩,⟨(PyData.keyHash P (.ofString "values_of")),.str (.ofString "values_of") 547,.ref 287⟩,⟨(PyData.keyHash P (.ofString "built")),.str (.ofString "built") 553,.ref 292⟩,⟨(PyData.keyHash P (.ofString "gathered")),.str (.ofString "gathered") 565,.ref 299⟩,⟨(PyData.keyHash P (.ofString "of_one")),.str (.ofString "of_one") 576,.ref 306⟩,⟨(PyData.keyHash P (.ofString "of_two")),.str (.ofString "of_two") 591,.ref 313⟩,⟨(PyData.keyHash P (.ofString "element")),.str (.ofString "element") 607,.ref 320⟩,⟨(PyData.keyHash P (.ofString "chosen")),.str (.ofString "chosen") 617,.ref 327⟩,⟨(PyData.keyHash P (.ofString "within")),.str (.ofString "within") 627,.ref 334⟩,⟨(PyData.keyHash P (.ofString "ranges_of")),.str (.ofString "ranges_of") 642,.ref 341⟩,⟨(PyData.keyHash P (.ofString "domain_of")),.str (.ofString "domain_of") 652,.ref 348⟩,⟨(PyData.keyHash P (.ofString "fitted")),.str (.ofString "fitted") 658,.ref 353⟩,⟨(PyData.keyHash P (.ofString "__static_attributes__")),.str (.ofString "__static_attributes__") 660,.ref 354⟩,⟨(PyData.keyHash P (.ofString "__dict__")),.str (.ofString "__dict__") 662,.ref 357⟩,⟨(PyData.keyHash P (.ofString "__weakref__")),.str (.ofString "__weakref__") 664,.ref 358⟩,⟨(PyData.keyHash P (.ofString "__doc__")),.str (.ofString "__doc__") 665,.none⟩] 4),#[]⟩
noncomputable def o_356 (_P:Params):Obj:=⟨.type "type",none,(.cls ⟨.ofString "Evaluator",[.type "object"],[.ref 356,.type "object"],355,.ofString "Evaluator",true,[],[],false,none,false⟩),#[none,none,(some (.str (.ofString "Evaluator") 512)),(some (.str (.ofString "Evaluator") 520)),(some (.builtin "object.__new__")),(some (.bool true))]⟩
noncomputable def o_357 (_P:Params):Obj:=⟨.type "getset_descriptor",none,(.fields #[.str (.ofString "__dict__") 661,.ref 356,.builtin "function.__dict__",.builtin "function.__dict__#set"]),#[]⟩
noncomputable def o_358 (_P:Params):Obj:=⟨.type "getset_descriptor",none,(.fields #[.str (.ofString "__weakref__") 663,.ref 356,.builtin "ExceptionGroup.__weakref__",.none]),#[]⟩
noncomputable def o_361 (_P:Params):Obj:=tO []
noncomputable def o_362 (_P:Params):Obj:=⟨.none,none,(.fields #[]),#[]⟩
noncomputable def o_364 (_P:Params):Obj:=cO "fitted_one" 668 "fitted_one" 669 670 672 [(.int 335 0),.int 4 0,.int 0 0,.int 0 0,.int 3 0,.ref 361,.bool true,.int 181 0,.ref 362,.none,.none,.none,.ref 363,.int 671 0,(.int 335 0)]
noncomputable def o_366 (_P:Params):Obj:=tO []
noncomputable def o_367 (_P:Params):Obj:=⟨.none,none,(.fields #[]),#[]⟩
noncomputable def o_369 (_P:Params):Obj:=cO "called" 674 "called" 675 676 678 [(.int 344 0),.int 3 0,.int 0 0,.int 0 0,.int 3 0,.ref 366,.bool true,.int 181 0,.ref 367,.none,.none,.none,.ref 368,.int 677 0,(.int 344 0)]
noncomputable def o_371 (_P:Params):Obj:=tO []
noncomputable def o_372 (_P:Params):Obj:=⟨.none,none,(.fields #[]),#[]⟩
noncomputable def o_373 (_P:Params):Obj:=tO [("name",683),("some",684),("spot",685)]
noncomputable def o_374 (_P:Params):Obj:=tO []
noncomputable def o_376 (_P:Params):Obj:=cO "alone" 680 "alone" 681 682 687 [(.int 368 0),.int 3 0,.int 0 0,.int 0 0,.int 3 0,.ref 371,.bool true,.int 181 0,.ref 372,.none,.ref 373,.ref 374,.ref 375,.int 686 0,(.int 368 0)]
noncomputable def o_378 (_P:Params):Obj:=tO []
noncomputable def o_379 (_P:Params):Obj:=⟨.none,none,(.fields #[]),#[]⟩
noncomputable def o_381 (_P:Params):Obj:=cO "of_value" 689 "of_value" 690 691 693 [(.int 372 0),.int 3 0,.int 0 0,.int 0 0,.int 3 0,.ref 378,.bool true,.int 181 0,.ref 379,.none,.none,.none,.ref 380,.int 692 0,(.int 372 0)]
noncomputable def o_383 (_P:Params):Obj:=tO []
noncomputable def o_384 (_P:Params):Obj:=⟨.none,none,(.fields #[]),#[]⟩
noncomputable def o_385 (_P:Params):Obj:=tO [("name",698),("value",699),("spot",700),("place",701)]
noncomputable def o_386 (_P:Params):Obj:=tO []
noncomputable def o_388 (_P:Params):Obj:=⟨.type "code",none,(.fields #[.str (.ofString "indexes_of") 695,.str (.ofString "indexes_of") 696,.str (.ofString "/claim/cut.py") 697,.int 391 0,.int 3 0,.int 0 0,.int 0 0,.int 3 0,.ref 383,.bool true,.int 181 0,.ref 384,.none,.ref 385,.ref 386,.ref 387,.int 702 0,.int 391 0,.str (.ofString "/claim/cut.py") 703]),#[]⟩
noncomputable def o_389 (_P:Params):Obj:=by
  refine (?f:?b=fO (stAt 41) "indexes_of" "indexes_of" [] (.str (.ofString "fdsolve.values") 340) (.ref 388) .none→Obj) ?pf;k_extra "m fo"
noncomputable def o_390 (_P:Params):Obj:=tO []
noncomputable def o_391 (_P:Params):Obj:=⟨.none,none,(.fields #[]),#[]⟩
noncomputable def o_393 (_P:Params):Obj:=⟨.type "code",none,(.fields #[.str (.ofString "indexed") 705,.str (.ofString "indexed") 706,.str (.ofString "/claim/cut.py") 707,.int 397 0,.int 3 0,.int 0 0,.int 0 0,.int 3 0,.ref 390,.bool true,.int 181 0,.ref 391,.none,.none,.none,.ref 392,.int 708 0,.int 397 0,.str (.ofString "/claim/cut.py") 709]),#[]⟩
noncomputable def o_394 (_P:Params):Obj:=by
  refine (?f:?b=fO (stAt 42) "indexed" "indexed" [] (.str (.ofString "fdsolve.values") 340) (.ref 393) .none→Obj) ?pf;k_extra "m fo"
noncomputable def o_395 (_P:Params):Obj:=tO []
noncomputable def o_396 (_P:Params):Obj:=⟨.none,none,(.fields #[]),#[]⟩
noncomputable def o_397 (_P:Params):Obj:=tO [("name",714),("some",715),("spot",716),("found",717),("one",718)]
noncomputable def o_398 (_P:Params):Obj:=tO []
noncomputable def o_400 (_P:Params):Obj:=cO "united" 711 "united" 712 713 720 [(.int 411 0),.int 3 0,.int 0 0,.int 0 0,.int 3 0,.ref 395,.bool true,.int 181 0,.ref 396,.none,.ref 397,.ref 398,.ref 399,.int 719 0,(.int 411 0)]
noncomputable def o_402 (_P:Params):Obj:=tO []
noncomputable def o_403 (_P:Params):Obj:=⟨.none,none,(.fields #[]),#[]⟩
noncomputable def o_404 (_P:Params):Obj:=tO [("feed",727),("wide",728),("cells",729),("spot",730)]
noncomputable def o_405 (_P:Params):Obj:=tO []
noncomputable def o_407 (_P:Params):Obj:=⟨.type "code",none,(.fields #[.str (.ofString "_law_draw") 724,.str (.ofString "_law_draw") 725,.str (.ofString "/claim/cut.py") 726,.int 419 0,.int 2 0,.int 0 0,.int 0 0,.int 3 0,.ref 402,.bool true,.int 181 0,.ref 403,.none,.ref 404,.ref 405,.ref 406,.int 731 0,.int 419 0,.str (.ofString "/claim/cut.py") 732]),#[]⟩
noncomputable def o_408 (_P:Params):Obj:=by
  refine (?f:?b=fO (stAt 45) "_law_draw" "_law_draw" [] (.str (.ofString "law_nz0031_01") 722) (.ref 407) .none→Obj) ?pf;k_extra "m fo"
noncomputable def o_409 (_P:Params):Obj:=tO []
noncomputable def o_410 (_P:Params):Obj:=⟨.none,none,(.fields #[]),#[]⟩
noncomputable def o_411 (_P:Params):Obj:=tO [("call",737),("fault",738)]
noncomputable def o_412 (_P:Params):Obj:=tO []
noncomputable def o_414 (_P:Params):Obj:=⟨.type "code",none,(.fields #[.str (.ofString "_law_heard") 734,.str (.ofString "_law_heard") 735,.str (.ofString "/claim/cut.py") 736,.int 425 0,.int 1 0,.int 0 0,.int 0 0,.int 3 0,.ref 409,.bool true,.int 181 0,.ref 410,.none,.ref 411,.ref 412,.ref 413,.int 739 0,.int 425 0,.str (.ofString "/claim/cut.py") 740]),#[]⟩
noncomputable def o_415 (_P:Params):Obj:=by
  refine (?f:?b=fO (stAt 46) "_law_heard" "_law_heard" [] (.str (.ofString "law_nz0031_01") 722) (.ref 414) .none→Obj) ?pf;k_extra "m fo"
noncomputable def o_416 (_P:Params):Obj:=tO []
noncomputable def o_417 (_P:Params):Obj:=⟨.none,none,(.fields #[]),#[]⟩
noncomputable def o_418 (_P:Params):Obj:=tO [("feed",745),("low",746),("many",747),("some",748)]
noncomputable def o_419 (_P:Params):Obj:=tO []
noncomputable def o_421 (_P:Params):Obj:=⟨.type "code",none,(.fields #[.str (.ofString "_law_set") 742,.str (.ofString "_law_set") 743,.str (.ofString "/claim/cut.py") 744,.int 430 0,.int 1 0,.int 0 0,.int 0 0,.int 3 0,.ref 416,.bool true,.int 181 0,.ref 417,.none,.ref 418,.ref 419,.ref 420,.int 749 0,.int 430 0,.str (.ofString "/claim/cut.py") 750]),#[]⟩
noncomputable def o_422 (_P:Params):Obj:=by
  refine (?f:?b=fO (stAt 47) "_law_set" "_law_set" [] (.str (.ofString "law_nz0031_01") 722) (.ref 421) .none→Obj) ?pf;k_extra "m fo"
noncomputable def o_423 (_P:Params):Obj:=tO []
noncomputable def o_424 (_P:Params):Obj:=⟨.none,none,(.fields #[]),#[]⟩
noncomputable def o_425 (_P:Params):Obj:=tO [("thing",755)]
noncomputable def o_426 (_P:Params):Obj:=tO []
noncomputable def o_428 (_P:Params):Obj:=⟨.type "code",none,(.fields #[.str (.ofString "_law_is_array") 752,.str (.ofString "_law_is_array") 753,.str (.ofString "/claim/cut.py") 754,.int 436 0,.int 1 0,.int 0 0,.int 0 0,.int 3 0,.ref 423,.bool true,.int 181 0,.ref 424,.none,.ref 425,.ref 426,.ref 427,.int 756 0,.int 436 0,.str (.ofString "/claim/cut.py") 757]),#[]⟩
noncomputable def o_429 (_P:Params):Obj:=by
  refine (?f:?b=fO (stAt 48) "_law_is_array" "_law_is_array" [] (.str (.ofString "law_nz0031_01") 722) (.ref 428) .none→Obj) ?pf;k_extra "m fo"
noncomputable def o_430 (_P:Params):Obj:=tO []
noncomputable def o_431 (_P:Params):Obj:=⟨.none,none,(.fields #[]),#[]⟩
noncomputable def o_433 (_P:Params):Obj:=⟨.type "code",none,(.fields #[.str (.ofString "_law_due") 759,.str (.ofString "_law_due") 760,.str (.ofString "/claim/cut.py") 761,.int 438 0,.int 2 0,.int 0 0,.int 0 0,.int 3 0,.ref 430,.bool true,.int 181 0,.ref 431,.none,.none,.none,.ref 432,.int 762 0,.int 438 0,.str (.ofString "/claim/cut.py") 763]),#[]⟩
noncomputable def o_434 (_P:Params):Obj:=by
  refine (?f:?b=fO (stAt 49) "_law_due" "_law_due" [] (.str (.ofString "law_nz0031_01") 722) (.ref 433) .none→Obj) ?pf;k_extra "m fo"
noncomputable def o_435 (_P:Params):Obj:=tO []
noncomputable def o_436 (_P:Params):Obj:=⟨.none,none,(.fields #[]),#[]⟩
noncomputable def o_438 (_P:Params):Obj:=⟨.type "code",none,(.fields #[.str (.ofString "_law_args") 765,.str (.ofString "_law_args") 766,.str (.ofString "/claim/cut.py") 767,.int 450 0,.int 2 0,.int 0 0,.int 0 0,.int 3 0,.ref 435,.bool true,.int 181 0,.ref 436,.none,.none,.none,.ref 437,.int 768 0,.int 450 0,.str (.ofString "/claim/cut.py") 769]),#[]⟩
noncomputable def o_439 (_P:Params):Obj:=by
  refine (?f:?b=fO (stAt 50) "_law_args" "_law_args" [] (.str (.ofString "law_nz0031_01") 722) (.ref 438) .none→Obj) ?pf;k_extra "m fo"
noncomputable def o_440 (_P:Params):Obj:=tO []
noncomputable def o_442 (_P:Params):Obj:=tO [("array",774),("some",775),("wide",776),("due",777)]
noncomputable def o_443 (_P:Params):Obj:=tO [("array",778),("name",779)]
noncomputable def o_445 (_P:Params):Obj:=⟨.type "code",none,(.fields #[.str (.ofString "_law_sets_told") 771,.str (.ofString "_law_sets_told") 772,.str (.ofString "/claim/cut.py") 773,.int 467 0,.int 2 0,.int 0 0,.int 0 0,.int 3 0,.ref 440,.bool true,.int 181 0,.ref 441,.none,.ref 442,.ref 443,.ref 444,.int 780 0,.int 467 0,.str (.ofString "/claim/cut.py") 781]),#[]⟩
noncomputable def o_446 (_P:Params):Obj:=by
  refine (?f:?b=fO (stAt 51) "_law_sets_told" "_law_sets_told" [] (.str (.ofString "law_nz0031_01") 722) (.ref 445) .none→Obj) ?pf;k_extra "m fo"
noncomputable def o_447 (_P:Params):Obj:=tO []
noncomputable def o_450 (_P:Params):Obj:=⟨.type "code",none,(.fields #[.str (.ofString "_law_at") 783,.str (.ofString "_law_at") 784,.str (.ofString "/claim/cut.py") 785,.int 474 0,.int 2 0,.int 0 0,.int 0 0,.int 3 0,.ref 447,.bool true,.int 181 0,.ref 448,.none,.none,.none,.ref 449,.int 786 0,.int 474 0,.str (.ofString "/claim/cut.py") 787]),#[]⟩
noncomputable def o_451 (_P:Params):Obj:=by
  refine (?f:?b=fO (stAt 52) "_law_at" "_law_at" [] (.str (.ofString "law_nz0031_01") 722) (.ref 450) .none→Obj) ?pf;k_extra "m fo"
noncomputable def o_452 (_P:Params):Obj:=tO []
noncomputable def o_453 (_P:Params):Obj:=⟨.none,none,(.fields #[]),#[]⟩
noncomputable def o_454 (_P:Params):Obj:=tO [("array",792),("some",793),("reader",794),("ranges",795),("spot",796),("one",797),("due",798),("other",799),("is_in",800)]
noncomputable def o_455 (_P:Params):Obj:=tO []
noncomputable def o_457 (_P:Params):Obj:=⟨.type "code",none,(.fields #[.str (.ofString "_law_elements_right") 789,.str (.ofString "_law_elements_right") 790,.str (.ofString "/claim/cut.py") 791,.int 477 0,.int 2 0,.int 0 0,.int 0 0,.int 3 0,.ref 452,.bool true,.int 181 0,.ref 453,.none,.ref 454,.ref 455,.ref 456,.int 801 0,.int 477 0,.str (.ofString "/claim/cut.py") 802]),#[]⟩
noncomputable def o_458 (_P:Params):Obj:=by
  refine (?f:?b=fO (stAt 53) "_law_elements_right" "_law_elements_right" [] (.str (.ofString "law_nz0031_01") 722) (.ref 457) .none→Obj) ?pf;k_extra "m fo"
noncomputable def o_459 (_P:Params):Obj:=tO []
noncomputable def o_461 (_P:Params):Obj:=tO [("script",807),("feed",808),("lap",809),("due",810),("told",811),("many",812),("row",813)]
noncomputable def o_462 (_P:Params):Obj:=tO [("name",814),("some",815)]
noncomputable def o_464 (_P:Params):Obj:=⟨.type "code",none,(.fields #[.str (.ofString "law") 804,.str (.ofString "law") 805,.str (.ofString "/claim/cut.py") 806,.int 492 0,.int 1 0,.int 0 0,.int 0 0,.int 3 0,.ref 459,.bool true,.int 181 0,.ref 460,.none,.ref 461,.ref 462,.ref 463,.int 816 0,.int 492 0,.str (.ofString "/claim/cut.py") 817]),#[]⟩
noncomputable def o_465 (_P:Params):Obj:=by
  refine (?f:?b=fO (stAt 54) "law" "law" [] (.str (.ofString "law_nz0031_01") 722) (.ref 464) .none→Obj) ?pf;k_extra "m fo"
noncomputable def Kt (P:Params):Frag:=(nat_lit 0,boot_o_0 P)::(nat_lit 1,boot_o_1 P)::(nat_lit 2,o_2 P)::(nat_lit 3,o_3 P)::(nat_lit 4,boot_o_4 P)::(nat_lit 5,boot_o_5 P)::(nat_lit 6,boot_o_6 P)::(nat_lit 7,boot_o_7 P)::(nat_lit 8,boot_o_8 P)::(nat_lit 9,boot_o_9 P)::(nat_lit 10,boot_o_10 P)::(nat_lit 53,o_53 P)::(nat_lit 58,o_58 P)::(nat_lit 64,o_64 P)::(nat_lit 65,o_65 P)::(nat_lit 74,o_74 P)::(nat_lit 75,o_75 P)::(nat_lit 82,o_82 P)::(nat_lit 87,o_87 P)::(nat_lit 93,o_93 P)::(nat_lit 94,o_94 P)::(nat_lit 103,o_103 P)::(nat_lit 104,o_104 P)::(nat_lit 115,o_115 P)::(nat_lit 116,o_116 P)::(nat_lit 127,o_127 P)::(nat_lit 128,o_128 P)::(nat_lit 136,o_136 P)::(nat_lit 137,o_137 P)::(nat_lit 143,o_143 P)::(nat_lit 144,o_144 P)::(nat_lit 150,o_150 P)::(nat_lit 151,o_151 P)::(nat_lit 171,o_171 P)::(nat_lit 172,o_172 P)::(nat_lit 178,o_178 P)::(nat_lit 179,o_179 P)::(nat_lit 199,o_199 P)::(nat_lit 200,o_200 P)::(nat_lit 274,o_274 P)::(nat_lit 275,o_275 P)::(nat_lit 281,o_281 P)::(nat_lit 282,o_282 P)::(nat_lit 286,o_286 P)::(nat_lit 287,o_287 P)::(nat_lit 319,o_319 P)::(nat_lit 320,o_320 P)::(nat_lit 355,o_355 P)::(nat_lit 356,o_356 P)::(nat_lit 388,o_388 P)::(nat_lit 389,o_389 P)::(nat_lit 393,o_393 P)::(nat_lit 394,o_394 P)::(nat_lit 407,o_407 P)::(nat_lit 408,o_408 P)::(nat_lit 414,o_414 P)::(nat_lit 415,o_415 P)::(nat_lit 421,o_421 P)::(nat_lit 422,o_422 P)::(nat_lit 428,o_428 P)::(nat_lit 429,o_429 P)::(nat_lit 433,o_433 P)::(nat_lit 434,o_434 P)::(nat_lit 438,o_438 P)::(nat_lit 439,o_439 P)::(nat_lit 445,o_445 P)::(nat_lit 446,o_446 P)::(nat_lit 450,o_450 P)::(nat_lit 451,o_451 P)::(nat_lit 457,o_457 P)::(nat_lit 458,o_458 P)::(nat_lit 464,o_464 P)::(nat_lit 465,o_465 P)::[]
noncomputable def ads:List Nat:=[0,1,2,3,4,5,6,7,8,9,10,53,58,64,65,74,75,82,87,93,94,103,104,115,116,127,128,136,137,143,144,150,151,171,172,178,179,199,200,274,275,281,282,286,287,319,320,355,356,388,389,393,394,407,408,414,415,421,422,428,429,433,434,438,439,445,446,450,451,457,458,464,465]
noncomputable def K1 (P:Params):Frag:=(nat_lit 441,tabObj #[])::(nat_lit 448,tabObj #[])::(nat_lit 460,tabObj #[])::Kt P
theorem K1_in {P:Params} {h:Heap} (X:(K1 P).In h) {h':Heap} (hs:∀ a o,a∈ads→h.get? a=some o→h'.get? a=some o):(Kt P).In h':=by
  intro a o e
  have ha:a∈ads:=by
    have hk:(Kt P).map (·.1)=ads:=by kernel_rfl
    rw [← hk]
    clear X hs
    generalize Kt P=l at e
    induction l with
    | nil=>cases e
    | cons q r ih =>
      rw [List.lookup_cons] at e
      cases hb:a == q.1 with
      | true=>rw [List.map_cons,eq_of_beq hb];exact .head _
      | false=>rw [hb] at e;rw [List.map_cons];exact .tail _ (ih e)
  refine hs a o ha (X a o ?_)
  have h9:∀ b∈ads,(b == 441)=false∧(b == 448)=false∧(b == 460)=false:=by decide +kernel
  unfold K1
  rw [List.lookup_cons,(h9 a ha).1,List.lookup_cons,(h9 a ha).2.1,List.lookup_cons,(h9 a ha).2.2]
  exact e
theorem ne_params:Nonempty Params:=⟨{ strHash:=fun _=>0,shareClass:=fun _=>0,mergeTok:=fun t=>t,idOf:=fun _=>0,idOfShared:=fun _ _=>0,followText:=fun _=>true,idOfImm:=fun _=>0 }⟩
theorem ne_world:Nonempty World:=ne_params.elim fun p=>⟨⟨fun _ _=>0,p⟩⟩
theorem ne_shared:Nonempty Shared:=⟨{}⟩
theorem ne_pair {α β:Type} (a:Nonempty α) (b:Nonempty β):Nonempty (α×β):=a.elim fun x=>b.elim fun y=>⟨(x,y)⟩
theorem ne_around:Nonempty Around:=⟨callerA⟩
theorem eps_all {α:Type} (ne:Nonempty α) {p:α→Prop} (h:p (@Classical.epsilon α ne fun y=>¬ p y)) (a:α):p a :=
  Classical.byContradiction fun n=>(Classical.epsilon_spec (p:=fun y=>¬ p y) ⟨a,n⟩) h
theorem all_lt {D a:Addr} {o:Obj} {news:List (Addr×Obj)} (l:∀ p∈news,p.1 < D) (m:(a,o)∈news):@LT.lt Nat _ a D:=l _ m
theorem le_cell {L D:Addr} {o:Obj} {news:List (Addr×Obj)} (l:∀ p∈news,p.1 < D) (m:(L + 1,o)∈news):@LE.le Nat _ L D:=Nat.le_of_lt (Nat.lt_trans (Nat.lt_succ_self L) (l _ m))
theorem le_cell2 {L D D2:Addr} {o:Obj} {news:List (Addr×Obj)} (h:@LT.lt Nat _ D D2) (l:∀ p∈news,p.1 < D) (m:(L + 1,o)∈news):@LE.le Nat _ L D2:=Nat.le_of_lt (Nat.lt_of_le_of_lt (le_cell l m) h)
theorem all_lt2 {D D2 a:Addr} {o:Obj} {news:List (Addr×Obj)} (h:@LT.lt Nat _ D D2) (l:∀ p∈news,p.1 < D) (m:(a,o)∈news):@LT.lt Nat _ a D2:=Nat.lt_trans (l _ m) h
noncomputable def fQ (s:Stmt) (a b:String):Obj:=⟨.none,none,.func ⟨.ofString a,.ofString b,dP s,.stmts (dB s),dS s,0,[],.none,.none,.none,.none,none,.none,.none,0⟩,#[]⟩
noncomputable def kv (P:Params) (a:String) (n:Nat) (v:Value):DictEntry:=⟨PyData.keyHash P (.ofString a),.str (.ofString a) n,v⟩
noncomputable def ma_12 (_P:Params):Obj:=⟨.none,none,(.fields #[]),#[]⟩
noncomputable def mb_3 (P:Params):Obj:=⟨.type "dict",none,(.dict #[kv P "__name__" 165 (.str (.ofString "fdsolve.errors") 233),kv P "__doc__" 166 .none,kv P "__package__" 167 .none,kv P "__loader__" 168 (.builtin "__main__.__loader__#opaque"),kv P "__spec__" 169 .none,kv P "__annotations__" 170 (.ref 6),kv P "__builtins__" 171 (.ref 4),kv P "__file__" 173 (.str (.ofString "/claim/cut.py") 172),kv P "__cached__" 174 .none,kv P "range_of" 196 (.ref 21),kv P "put_behind" 205 (.ref 28),kv P "from_values" 214 (.ref 35),kv P "next_from" 224 (.ref 42),kv P "has" 232 (.ref 49),kv P "FdError" 272 (.ref 75),kv P "SpotFault" 307 (.ref 104),kv P "EvalFault" 323 (.ref 116),kv P "LimitFault" 339 (.ref 128)] 18),#[]⟩
noncomputable def mb_12 (_P:Params):Obj:=⟨.none,none,(.fields #[.int 2 0,.int 0 0,.ref 20,.int 4 0,.int 0 0,.ref 27,.int 10 0,.int 0 0,.ref 34,.int 15 0,.int 0 0,.ref 41,.int 20 0,.int 0 0,.ref 48,.int 23 0,.int 0 0,.ref 56,.int 31 0,.int 0 0,.ref 85,.int 39 0,.int 0 0,.ref 112,.int 41 0,.int 0 0,.ref 124]),#[]⟩
noncomputable def mb_19 (_P:Params):Obj:=fQ (stAt 1) "range_of" "range_of"
noncomputable def mb_21 (_P:Params):Obj:=fO (stAt 1) "range_of" "range_of" [] (.str (.ofString "fdsolve.domains") 187) (.ref 20) .none
noncomputable def mb_26 (_P:Params):Obj:=fQ (stAt 2) "put_behind" "put_behind"
noncomputable def mb_28 (_P:Params):Obj:=fO (stAt 2) "put_behind" "put_behind" [] (.str (.ofString "fdsolve.domains") 187) (.ref 27) .none
noncomputable def mb_33 (_P:Params):Obj:=fQ (stAt 3) "from_values" "from_values"
noncomputable def mb_35 (_P:Params):Obj:=fO (stAt 3) "from_values" "from_values" [] (.str (.ofString "fdsolve.domains") 187) (.ref 34) .none
noncomputable def mb_40 (_P:Params):Obj:=fQ (stAt 4) "next_from" "next_from"
noncomputable def mb_42 (_P:Params):Obj:=fO (stAt 4) "next_from" "next_from" [] (.str (.ofString "fdsolve.domains") 187) (.ref 41) .none
noncomputable def mb_47 (_P:Params):Obj:=fQ (stAt 5) "has" "has"
noncomputable def mb_49 (_P:Params):Obj:=fO (stAt 5) "has" "has" [] (.str (.ofString "fdsolve.domains") 187) (.ref 48) .none
noncomputable def mb_51 (_P:Params):Obj:=⟨.type "builtin_function_or_method",none,(.fields #[.builtin "type.__prepare__",.type "type"]),#[]⟩
noncomputable def mb_52 (P:Params):Obj:=⟨.type "dict",none,(.dict #[kv P "__module__" 242 (.str (.ofString "fdsolve.errors") 233),kv P "__qualname__" 244 (.str (.ofString "FdError") 243),kv P "__firstlineno__" 246 (.int 23 245),kv P "__init__" 255 (.ref 65),kv P "told" 262 (.ref 72),kv P "__static_attributes__" 264 (.ref 73),kv P "__classcell__" 265 (.ref 53)] 7),#[]⟩
noncomputable def mb_54 (_P:Params):Obj:=⟨.type "tuple",none,(.seq #[] 0),#[]⟩
noncomputable def mb_55 (_P:Params):Obj:=⟨.none,none,(.fields #[.int 25 0,.int 4 0,.ref 64,.int 29 0,.int 4 0,.ref 71]),#[]⟩
noncomputable def mb_56 (_P:Params):Obj:=⟨.type "code",none,(.fields #[.str (.ofString "FdError") 237,.str (.ofString "FdError") 238,.str (.ofString "/claim/cut.py") 239,.int 23 0,.int 0 0,.int 0 0,.int 0 0,.int 0 0,.ref 54,.bool false,.int 181 0,.ref 55,.none,.none,.none,.none,.int 240 0,.int 23 0,.str (.ofString "/claim/cut.py") 241]),#[]⟩
noncomputable def mb_57 (_P:Params):Obj:=⟨.type "frame",none,.plain,#[(some (.ref 56)),(some (.ref 3)),(some (.ref 52)),none,(some (.str (.ofString "fdsolve.errors") 233)),none,(some (.ref 0))]⟩
noncomputable def mb_63 (_P:Params):Obj:=fQ (meAt 7 0) "__init__" "FdError.__init__"
noncomputable def mb_65 (_P:Params):Obj:=fO (meAt 7 0) "__init__" "FdError.__init__" [((.ofString "__class__"),53)] (.str (.ofString "fdsolve.errors") 233) (.ref 64) (.ref 58)
noncomputable def mb_70 (_P:Params):Obj:=fQ (meAt 7 1) "told" "FdError.told"
noncomputable def mb_72 (_P:Params):Obj:=fO (meAt 7 1) "told" "FdError.told" [] (.str (.ofString "fdsolve.errors") 233) (.ref 71) .none
noncomputable def mb_77 (_P:Params):Obj:=⟨.type "super",none,(.fields #[.ref 75,.ref 75,.ref 75]),#[]⟩
noncomputable def mb_78 (_P:Params):Obj:=⟨.type "builtin_function_or_method",none,(.fields #[.builtin "object.__init_subclass__",.ref 75]),#[]⟩
noncomputable def mb_80 (_P:Params):Obj:=⟨.type "builtin_function_or_method",none,(.fields #[.builtin "type.__prepare__",.type "type"]),#[]⟩
noncomputable def mb_81 (P:Params):Obj:=⟨.type "dict",none,(.dict #[kv P "__module__" 280 (.str (.ofString "fdsolve.errors") 233),kv P "__qualname__" 282 (.str (.ofString "SpotFault") 281),kv P "__firstlineno__" 284 (.int 31 283),kv P "__init__" 294 (.ref 94),kv P "told" 301 (.ref 101),kv P "__static_attributes__" 303 (.ref 102),kv P "__classcell__" 304 (.ref 82)] 7),#[]⟩
noncomputable def mb_83 (_P:Params):Obj:=⟨.type "tuple",none,(.seq #[] 0),#[]⟩
noncomputable def mb_84 (_P:Params):Obj:=⟨.none,none,(.fields #[.int 33 0,.int 4 0,.ref 93,.int 37 0,.int 4 0,.ref 100]),#[]⟩
noncomputable def mb_85 (_P:Params):Obj:=⟨.type "code",none,(.fields #[.str (.ofString "SpotFault") 275,.str (.ofString "SpotFault") 276,.str (.ofString "/claim/cut.py") 277,.int 31 0,.int 0 0,.int 0 0,.int 0 0,.int 0 0,.ref 83,.bool false,.int 181 0,.ref 84,.none,.none,.none,.none,.int 278 0,.int 31 0,.str (.ofString "/claim/cut.py") 279]),#[]⟩
noncomputable def mb_86 (_P:Params):Obj:=⟨.type "frame",none,.plain,#[(some (.ref 85)),(some (.ref 3)),(some (.ref 81)),none,(some (.str (.ofString "fdsolve.errors") 233)),none,(some (.ref 0))]⟩
noncomputable def mb_92 (_P:Params):Obj:=fQ (meAt 8 0) "__init__" "SpotFault.__init__"
noncomputable def mb_94 (_P:Params):Obj:=fO (meAt 8 0) "__init__" "SpotFault.__init__" [((.ofString "__class__"),82)] (.str (.ofString "fdsolve.errors") 233) (.ref 93) (.ref 87)
noncomputable def mb_99 (_P:Params):Obj:=fQ (meAt 8 1) "told" "SpotFault.told"
noncomputable def mb_101 (_P:Params):Obj:=fO (meAt 8 1) "told" "SpotFault.told" [] (.str (.ofString "fdsolve.errors") 233) (.ref 100) .none
noncomputable def mb_105 (_P:Params):Obj:=⟨.type "super",none,(.fields #[.ref 104,.ref 104,.ref 104]),#[]⟩
noncomputable def mb_106 (_P:Params):Obj:=⟨.type "builtin_function_or_method",none,(.fields #[.builtin "object.__init_subclass__",.ref 104]),#[]⟩
noncomputable def mb_108 (_P:Params):Obj:=⟨.type "builtin_function_or_method",none,(.fields #[.builtin "type.__prepare__",.type "type"]),#[]⟩
noncomputable def mb_109 (P:Params):Obj:=⟨.type "dict",none,(.dict #[kv P "__module__" 315 (.str (.ofString "fdsolve.errors") 233),kv P "__qualname__" 317 (.str (.ofString "EvalFault") 316),kv P "__firstlineno__" 319 (.int 39 318),kv P "__static_attributes__" 320 (.ref 114)] 4),#[]⟩
noncomputable def mb_110 (_P:Params):Obj:=⟨.type "tuple",none,(.seq #[] 0),#[]⟩
noncomputable def mb_111 (_P:Params):Obj:=⟨.none,none,(.fields #[]),#[]⟩
noncomputable def mb_112 (_P:Params):Obj:=⟨.type "code",none,(.fields #[.str (.ofString "EvalFault") 310,.str (.ofString "EvalFault") 311,.str (.ofString "/claim/cut.py") 312,.int 39 0,.int 0 0,.int 0 0,.int 0 0,.int 0 0,.ref 110,.bool false,.int 181 0,.ref 111,.none,.none,.none,.none,.int 313 0,.int 39 0,.str (.ofString "/claim/cut.py") 314]),#[]⟩
noncomputable def mb_113 (_P:Params):Obj:=⟨.type "frame",none,.plain,#[(some (.ref 112)),(some (.ref 3)),(some (.ref 109)),none,(some (.str (.ofString "fdsolve.errors") 233)),none,(some (.ref 0))]⟩
noncomputable def mb_117 (_P:Params):Obj:=⟨.type "super",none,(.fields #[.ref 116,.ref 116,.ref 116]),#[]⟩
noncomputable def mb_118 (_P:Params):Obj:=⟨.type "builtin_function_or_method",none,(.fields #[.builtin "object.__init_subclass__",.ref 116]),#[]⟩
noncomputable def mb_120 (_P:Params):Obj:=⟨.type "builtin_function_or_method",none,(.fields #[.builtin "type.__prepare__",.type "type"]),#[]⟩
noncomputable def mb_121 (P:Params):Obj:=⟨.type "dict",none,(.dict #[kv P "__module__" 331 (.str (.ofString "fdsolve.errors") 233),kv P "__qualname__" 333 (.str (.ofString "LimitFault") 332),kv P "__firstlineno__" 335 (.int 41 334),kv P "__static_attributes__" 336 (.ref 126)] 4),#[]⟩
noncomputable def mb_122 (_P:Params):Obj:=⟨.type "tuple",none,(.seq #[] 0),#[]⟩
noncomputable def mb_123 (_P:Params):Obj:=⟨.none,none,(.fields #[]),#[]⟩
noncomputable def mb_124 (_P:Params):Obj:=⟨.type "code",none,(.fields #[.str (.ofString "LimitFault") 326,.str (.ofString "LimitFault") 327,.str (.ofString "/claim/cut.py") 328,.int 41 0,.int 0 0,.int 0 0,.int 0 0,.int 0 0,.ref 122,.bool false,.int 181 0,.ref 123,.none,.none,.none,.none,.int 329 0,.int 41 0,.str (.ofString "/claim/cut.py") 330]),#[]⟩
noncomputable def mb_125 (_P:Params):Obj:=⟨.type "frame",none,.plain,#[(some (.ref 124)),(some (.ref 3)),(some (.ref 121)),none,(some (.str (.ofString "fdsolve.errors") 233)),none,(some (.ref 0))]⟩
noncomputable def mb_129 (_P:Params):Obj:=⟨.type "super",none,(.fields #[.ref 128,.ref 128,.ref 128]),#[]⟩
noncomputable def mb_130 (_P:Params):Obj:=⟨.type "builtin_function_or_method",none,(.fields #[.builtin "object.__init_subclass__",.ref 128]),#[]⟩
noncomputable def mc_3 (P:Params):Obj:=⟨.type "dict",none,(.dict #[kv P "__name__" 165 (.str (.ofString "fdsolve.values") 340),kv P "__doc__" 166 .none,kv P "__package__" 167 .none,kv P "__loader__" 168 (.builtin "__main__.__loader__#opaque"),kv P "__spec__" 169 .none,kv P "__annotations__" 170 (.ref 6),kv P "__builtins__" 171 (.ref 4),kv P "__file__" 173 (.str (.ofString "/claim/cut.py") 172),kv P "__cached__" 174 .none,kv P "range_of" 196 (.ref 21),kv P "put_behind" 205 (.ref 28),kv P "from_values" 214 (.ref 35),kv P "next_from" 224 (.ref 42),kv P "has" 232 (.ref 49),kv P "FdError" 272 (.ref 75),kv P "SpotFault" 307 (.ref 104),kv P "EvalFault" 323 (.ref 116),kv P "LimitFault" 339 (.ref 128),kv P "MOST_VALUES" 343 (.int 100000 342),kv P "MOST_POWER" 345 (.int 1000 344),kv P "MOST_SHOWN" 347 (.int 1000 346),kv P "is_array" 354 (.ref 137),kv P "is_set" 361 (.ref 144),kv P "number_of" 369 (.ref 151),kv P "truth_of" 377 (.ref 158),kv P "text_of" 385 (.ref 165),kv P "set_of" 393 (.ref 172),kv P "list_of" 401 (.ref 179),kv P "elements_of" 409 (.ref 186),kv P "row_of" 416 (.ref 193),kv P "span" 424 (.ref 200),kv P "quotient" 434 (.ref 207),kv P "within_figures" 441 (.ref 214),kv P "power" 452 (.ref 221),kv P "are_same" 458 (.ref 226),kv P "are_compared" 468 (.ref 233),kv P "joined_sets" 474 (.ref 238),kv P "reckoned" 484 (.ref 245),kv P "show_text" 490 (.ref 250),kv P "folded" 496 (.ref 255),kv P "FOLDING" 505 (.ref 256),kv P "scopes_of" 511 (.ref 261)] 42),#[]⟩
noncomputable def mc_12 (_P:Params):Obj:=⟨.none,none,(.fields #[.int 2 0,.int 0 0,.ref 20,.int 4 0,.int 0 0,.ref 27,.int 10 0,.int 0 0,.ref 34,.int 15 0,.int 0 0,.ref 41,.int 20 0,.int 0 0,.ref 48,.int 23 0,.int 0 0,.ref 56,.int 31 0,.int 0 0,.ref 85,.int 39 0,.int 0 0,.ref 112,.int 41 0,.int 0 0,.ref 124,.int 47 0,.int 0 0,.ref 136,.int 49 0,.int 0 0,.ref 143,.int 51 0,.int 0 0,.ref 150,.int 55 0,.int 0 0,.ref 157,.int 59 0,.int 0 0,.ref 164,.int 63 0,.int 0 0,.ref 171,.int 67 0,.int 0 0,.ref 178,.int 71 0,.int 0 0,.ref 185,.int 73 0,.int 0 0,.ref 192,.int 75 0,.int 0 0,.ref 199,.int 79 0,.int 0 0,.ref 206,.int 84 0,.int 0 0,.ref 213,.int 88 0,.int 0 0,.ref 220,.int 97 0,.int 0 0,.ref 225,.int 103 0,.int 0 0,.ref 232,.int 115 0,.int 0 0,.ref 237,.int 123 0,.int 0 0,.ref 244,.int 135 0,.int 0 0,.ref 249,.int 147 0,.int 0 0,.ref 254,.int 167 0,.int 0 0,.ref 260]),#[]⟩
noncomputable def mc_135 (_P:Params):Obj:=fQ (stAt 15) "is_array" "is_array"
noncomputable def mc_137 (_P:Params):Obj:=fO (stAt 15) "is_array" "is_array" [] (.str (.ofString "fdsolve.values") 340) (.ref 136) .none
noncomputable def mc_142 (_P:Params):Obj:=fQ (stAt 16) "is_set" "is_set"
noncomputable def mc_144 (_P:Params):Obj:=fO (stAt 16) "is_set" "is_set" [] (.str (.ofString "fdsolve.values") 340) (.ref 143) .none
noncomputable def mc_149 (_P:Params):Obj:=fQ (stAt 17) "number_of" "number_of"
noncomputable def mc_151 (_P:Params):Obj:=fO (stAt 17) "number_of" "number_of" [] (.str (.ofString "fdsolve.values") 340) (.ref 150) .none
noncomputable def mc_156 (_P:Params):Obj:=fQ (stAt 18) "truth_of" "truth_of"
noncomputable def mc_158 (_P:Params):Obj:=fO (stAt 18) "truth_of" "truth_of" [] (.str (.ofString "fdsolve.values") 340) (.ref 157) .none
noncomputable def mc_163 (_P:Params):Obj:=fQ (stAt 19) "text_of" "text_of"
noncomputable def mc_165 (_P:Params):Obj:=fO (stAt 19) "text_of" "text_of" [] (.str (.ofString "fdsolve.values") 340) (.ref 164) .none
noncomputable def mc_170 (_P:Params):Obj:=fQ (stAt 20) "set_of" "set_of"
noncomputable def mc_172 (_P:Params):Obj:=fO (stAt 20) "set_of" "set_of" [] (.str (.ofString "fdsolve.values") 340) (.ref 171) .none
noncomputable def mc_177 (_P:Params):Obj:=fQ (stAt 21) "list_of" "list_of"
noncomputable def mc_179 (_P:Params):Obj:=fO (stAt 21) "list_of" "list_of" [] (.str (.ofString "fdsolve.values") 340) (.ref 178) .none
noncomputable def mc_184 (_P:Params):Obj:=fQ (stAt 22) "elements_of" "elements_of"
noncomputable def mc_186 (_P:Params):Obj:=fO (stAt 22) "elements_of" "elements_of" [] (.str (.ofString "fdsolve.values") 340) (.ref 185) .none
noncomputable def mc_191 (_P:Params):Obj:=fQ (stAt 23) "row_of" "row_of"
noncomputable def mc_193 (_P:Params):Obj:=fO (stAt 23) "row_of" "row_of" [] (.str (.ofString "fdsolve.values") 340) (.ref 192) .none
noncomputable def mc_198 (_P:Params):Obj:=fQ (stAt 24) "span" "span"
noncomputable def mc_200 (_P:Params):Obj:=fO (stAt 24) "span" "span" [] (.str (.ofString "fdsolve.values") 340) (.ref 199) .none
noncomputable def mc_205 (_P:Params):Obj:=fQ (stAt 25) "quotient" "quotient"
noncomputable def mc_207 (_P:Params):Obj:=fO (stAt 25) "quotient" "quotient" [] (.str (.ofString "fdsolve.values") 340) (.ref 206) .none
noncomputable def mc_212 (_P:Params):Obj:=fQ (stAt 26) "within_figures" "within_figures"
noncomputable def mc_214 (_P:Params):Obj:=fO (stAt 26) "within_figures" "within_figures" [] (.str (.ofString "fdsolve.values") 340) (.ref 213) .none
noncomputable def mc_219 (_P:Params):Obj:=fQ (stAt 27) "power" "power"
noncomputable def mc_221 (_P:Params):Obj:=fO (stAt 27) "power" "power" [] (.str (.ofString "fdsolve.values") 340) (.ref 220) .none
noncomputable def mc_224 (_P:Params):Obj:=fQ (stAt 28) "are_same" "are_same"
noncomputable def mc_226 (_P:Params):Obj:=fO (stAt 28) "are_same" "are_same" [] (.str (.ofString "fdsolve.values") 340) (.ref 225) .none
noncomputable def mc_231 (_P:Params):Obj:=fQ (stAt 29) "are_compared" "are_compared"
noncomputable def mc_233 (_P:Params):Obj:=fO (stAt 29) "are_compared" "are_compared" [] (.str (.ofString "fdsolve.values") 340) (.ref 232) .none
noncomputable def mc_236 (_P:Params):Obj:=fQ (stAt 30) "joined_sets" "joined_sets"
noncomputable def mc_238 (_P:Params):Obj:=fO (stAt 30) "joined_sets" "joined_sets" [] (.str (.ofString "fdsolve.values") 340) (.ref 237) .none
noncomputable def mc_243 (_P:Params):Obj:=fQ (stAt 31) "reckoned" "reckoned"
noncomputable def mc_245 (_P:Params):Obj:=fO (stAt 31) "reckoned" "reckoned" [] (.str (.ofString "fdsolve.values") 340) (.ref 244) .none
noncomputable def mc_248 (_P:Params):Obj:=fQ (stAt 32) "show_text" "show_text"
noncomputable def mc_250 (_P:Params):Obj:=fO (stAt 32) "show_text" "show_text" [] (.str (.ofString "fdsolve.values") 340) (.ref 249) .none
noncomputable def mc_253 (_P:Params):Obj:=fQ (stAt 33) "folded" "folded"
noncomputable def mc_255 (_P:Params):Obj:=fO (stAt 33) "folded" "folded" [] (.str (.ofString "fdsolve.values") 340) (.ref 254) .none
noncomputable def mc_259 (_P:Params):Obj:=fQ (stAt 35) "scopes_of" "scopes_of"
noncomputable def mc_261 (_P:Params):Obj:=fO (stAt 35) "scopes_of" "scopes_of" [] (.str (.ofString "fdsolve.values") 340) (.ref 260) .none
noncomputable def md_3 (P:Params):Obj:=⟨.type "dict",none,(.dict #[kv P "__name__" 165 (.str (.ofString "fdsolve.values") 340),kv P "__doc__" 166 .none,kv P "__package__" 167 .none,kv P "__loader__" 168 (.builtin "__main__.__loader__#opaque"),kv P "__spec__" 169 .none,kv P "__annotations__" 170 (.ref 6),kv P "__builtins__" 171 (.ref 4),kv P "__file__" 173 (.str (.ofString "/claim/cut.py") 172),kv P "__cached__" 174 .none,kv P "range_of" 196 (.ref 21),kv P "put_behind" 205 (.ref 28),kv P "from_values" 214 (.ref 35),kv P "next_from" 224 (.ref 42),kv P "has" 232 (.ref 49),kv P "FdError" 272 (.ref 75),kv P "SpotFault" 307 (.ref 104),kv P "EvalFault" 323 (.ref 116),kv P "LimitFault" 339 (.ref 128),kv P "MOST_VALUES" 343 (.int 100000 342),kv P "MOST_POWER" 345 (.int 1000 344),kv P "MOST_SHOWN" 347 (.int 1000 346),kv P "is_array" 354 (.ref 137),kv P "is_set" 361 (.ref 144),kv P "number_of" 369 (.ref 151),kv P "truth_of" 377 (.ref 158),kv P "text_of" 385 (.ref 165),kv P "set_of" 393 (.ref 172),kv P "list_of" 401 (.ref 179),kv P "elements_of" 409 (.ref 186),kv P "row_of" 416 (.ref 193),kv P "span" 424 (.ref 200),kv P "quotient" 434 (.ref 207),kv P "within_figures" 441 (.ref 214),kv P "power" 452 (.ref 221),kv P "are_same" 458 (.ref 226),kv P "are_compared" 468 (.ref 233),kv P "joined_sets" 474 (.ref 238),kv P "reckoned" 484 (.ref 245),kv P "show_text" 490 (.ref 250),kv P "folded" 496 (.ref 255),kv P "FOLDING" 505 (.ref 256),kv P "scopes_of" 511 (.ref 261),kv P "Evaluator" 667 (.ref 356)] 43),#[]⟩
noncomputable def md_12 (_P:Params):Obj:=⟨.none,none,(.fields #[.int 2 0,.int 0 0,.ref 20,.int 4 0,.int 0 0,.ref 27,.int 10 0,.int 0 0,.ref 34,.int 15 0,.int 0 0,.ref 41,.int 20 0,.int 0 0,.ref 48,.int 23 0,.int 0 0,.ref 56,.int 31 0,.int 0 0,.ref 85,.int 39 0,.int 0 0,.ref 112,.int 41 0,.int 0 0,.ref 124,.int 47 0,.int 0 0,.ref 136,.int 49 0,.int 0 0,.ref 143,.int 51 0,.int 0 0,.ref 150,.int 55 0,.int 0 0,.ref 157,.int 59 0,.int 0 0,.ref 164,.int 63 0,.int 0 0,.ref 171,.int 67 0,.int 0 0,.ref 178,.int 71 0,.int 0 0,.ref 185,.int 73 0,.int 0 0,.ref 192,.int 75 0,.int 0 0,.ref 199,.int 79 0,.int 0 0,.ref 206,.int 84 0,.int 0 0,.ref 213,.int 88 0,.int 0 0,.ref 220,.int 97 0,.int 0 0,.ref 225,.int 103 0,.int 0 0,.ref 232,.int 115 0,.int 0 0,.ref 237,.int 123 0,.int 0 0,.ref 244,.int 135 0,.int 0 0,.ref 249,.int 147 0,.int 0 0,.ref 254,.int 167 0,.int 0 0,.ref 260,.int 183 0,.int 0 0,.ref 267]),#[]⟩
noncomputable def md_262 (_P:Params):Obj:=⟨.type "tuple",none,(.seq #[] 0),#[]⟩
noncomputable def md_263 (_P:Params):Obj:=⟨.type "builtin_function_or_method",none,(.fields #[.builtin "type.__prepare__",.type "type"]),#[]⟩
noncomputable def md_264 (P:Params):Obj:=⟨.type "dict",none,(.dict #[kv P "__module__" 519 (.str (.ofString "fdsolve.values") 340),kv P "__qualname__" 521 (.str (.ofString "Evaluator") 520),kv P "__firstlineno__" 523 (.int 183 522),kv P "__init__" 531 (.ref 275),kv P "value_of" 541 (.ref 282),kv P "values_of" 547 (.ref 287),kv P "built" 553 (.ref 292),kv P "gathered" 565 (.ref 299),kv P "of_one" 576 (.ref 306),kv P "of_two" 591 (.ref 313),kv P "element" 607 (.ref 320),kv P "chosen" 617 (.ref 327),kv P "within" 627 (.ref 334),kv P "ranges_of" 642 (.ref 341),kv P "domain_of" 652 (.ref 348),kv P "fitted" 658 (.ref 353),kv P "__static_attributes__" 660 (.ref 354)] 17),#[]⟩
noncomputable def md_265 (_P:Params):Obj:=⟨.type "tuple",none,(.seq #[] 0),#[]⟩
noncomputable def md_266 (_P:Params):Obj:=⟨.none,none,(.fields #[.int 185 0,.int 4 0,.ref 274,.int 188 0,.int 4 0,.ref 281,.int 212 0,.int 4 0,.ref 286,.int 215 0,.int 4 0,.ref 291,.int 236 0,.int 4 0,.ref 298,.int 244 0,.int 4 0,.ref 305,.int 250 0,.int 4 0,.ref 312,.int 276 0,.int 4 0,.ref 319,.int 289 0,.int 4 0,.ref 326,.int 295 0,.int 4 0,.ref 333,.int 307 0,.int 4 0,.ref 340,.int 322 0,.int 4 0,.ref 347,.int 328 0,.int 4 0,.ref 352]),#[]⟩
noncomputable def md_267 (_P:Params):Obj:=⟨.type "code",none,(.fields #[.str (.ofString "Evaluator") 514,.str (.ofString "Evaluator") 515,.str (.ofString "/claim/cut.py") 516,.int 183 0,.int 0 0,.int 0 0,.int 0 0,.int 0 0,.ref 265,.bool false,.int 181 0,.ref 266,.none,.none,.none,.none,.int 517 0,.int 183 0,.str (.ofString "/claim/cut.py") 518]),#[]⟩
noncomputable def md_268 (_P:Params):Obj:=⟨.type "frame",none,.plain,#[(some (.ref 267)),(some (.ref 3)),(some (.ref 264)),none,(some (.str (.ofString "fdsolve.values") 340)),none,(some (.ref 0))]⟩
noncomputable def md_273 (_P:Params):Obj:=fQ (meAt 36 0) "__init__" "Evaluator.__init__"
noncomputable def md_275 (_P:Params):Obj:=fO (meAt 36 0) "__init__" "Evaluator.__init__" [] (.str (.ofString "fdsolve.values") 340) (.ref 274) .none
noncomputable def md_280 (_P:Params):Obj:=fQ (meAt 36 1) "value_of" "Evaluator.value_of"
noncomputable def md_282 (_P:Params):Obj:=fO (meAt 36 1) "value_of" "Evaluator.value_of" [] (.str (.ofString "fdsolve.values") 340) (.ref 281) .none
noncomputable def md_285 (_P:Params):Obj:=fQ (meAt 36 2) "values_of" "Evaluator.values_of"
noncomputable def md_287 (_P:Params):Obj:=fO (meAt 36 2) "values_of" "Evaluator.values_of" [] (.str (.ofString "fdsolve.values") 340) (.ref 286) .none
noncomputable def md_290 (_P:Params):Obj:=fQ (meAt 36 3) "built" "Evaluator.built"
noncomputable def md_292 (_P:Params):Obj:=fO (meAt 36 3) "built" "Evaluator.built" [] (.str (.ofString "fdsolve.values") 340) (.ref 291) .none
noncomputable def md_297 (_P:Params):Obj:=fQ (meAt 36 4) "gathered" "Evaluator.gathered"
noncomputable def md_299 (_P:Params):Obj:=fO (meAt 36 4) "gathered" "Evaluator.gathered" [] (.str (.ofString "fdsolve.values") 340) (.ref 298) .none
noncomputable def md_304 (_P:Params):Obj:=fQ (meAt 36 5) "of_one" "Evaluator.of_one"
noncomputable def md_306 (_P:Params):Obj:=fO (meAt 36 5) "of_one" "Evaluator.of_one" [] (.str (.ofString "fdsolve.values") 340) (.ref 305) .none
noncomputable def md_311 (_P:Params):Obj:=fQ (meAt 36 6) "of_two" "Evaluator.of_two"
noncomputable def md_313 (_P:Params):Obj:=fO (meAt 36 6) "of_two" "Evaluator.of_two" [] (.str (.ofString "fdsolve.values") 340) (.ref 312) .none
noncomputable def md_318 (_P:Params):Obj:=fQ (meAt 36 7) "element" "Evaluator.element"
noncomputable def md_320 (_P:Params):Obj:=fO (meAt 36 7) "element" "Evaluator.element" [] (.str (.ofString "fdsolve.values") 340) (.ref 319) .none
noncomputable def md_325 (_P:Params):Obj:=fQ (meAt 36 8) "chosen" "Evaluator.chosen"
noncomputable def md_327 (_P:Params):Obj:=fO (meAt 36 8) "chosen" "Evaluator.chosen" [] (.str (.ofString "fdsolve.values") 340) (.ref 326) .none
noncomputable def md_332 (_P:Params):Obj:=fQ (meAt 36 9) "within" "Evaluator.within"
noncomputable def md_334 (_P:Params):Obj:=fO (meAt 36 9) "within" "Evaluator.within" [] (.str (.ofString "fdsolve.values") 340) (.ref 333) .none
noncomputable def md_339 (_P:Params):Obj:=fQ (meAt 36 10) "ranges_of" "Evaluator.ranges_of"
noncomputable def md_341 (_P:Params):Obj:=fO (meAt 36 10) "ranges_of" "Evaluator.ranges_of" [] (.str (.ofString "fdsolve.values") 340) (.ref 340) .none
noncomputable def md_346 (_P:Params):Obj:=fQ (meAt 36 11) "domain_of" "Evaluator.domain_of"
noncomputable def md_348 (_P:Params):Obj:=fO (meAt 36 11) "domain_of" "Evaluator.domain_of" [] (.str (.ofString "fdsolve.values") 340) (.ref 347) .none
noncomputable def md_351 (_P:Params):Obj:=fQ (meAt 36 12) "fitted" "Evaluator.fitted"
noncomputable def md_353 (_P:Params):Obj:=fO (meAt 36 12) "fitted" "Evaluator.fitted" [] (.str (.ofString "fdsolve.values") 340) (.ref 352) .none
noncomputable def md_359 (_P:Params):Obj:=⟨.type "super",none,(.fields #[.ref 356,.ref 356,.ref 356]),#[]⟩
noncomputable def md_360 (_P:Params):Obj:=⟨.type "builtin_function_or_method",none,(.fields #[.builtin "object.__init_subclass__",.ref 356]),#[]⟩
noncomputable def me_363 (_P:Params):Obj:=fQ (stAt 37) "fitted_one" "fitted_one"
noncomputable def me_365 (_P:Params):Obj:=fO (stAt 37) "fitted_one" "fitted_one" [] (.str (.ofString "fdsolve.values") 340) (.ref 364) .none
noncomputable def me_368 (_P:Params):Obj:=fQ (stAt 38) "called" "called"
noncomputable def me_370 (_P:Params):Obj:=fO (stAt 38) "called" "called" [] (.str (.ofString "fdsolve.values") 340) (.ref 369) .none
noncomputable def me_375 (_P:Params):Obj:=fQ (stAt 39) "alone" "alone"
noncomputable def me_377 (_P:Params):Obj:=fO (stAt 39) "alone" "alone" [] (.str (.ofString "fdsolve.values") 340) (.ref 376) .none
noncomputable def me_380 (_P:Params):Obj:=fQ (stAt 40) "of_value" "of_value"
noncomputable def me_382 (_P:Params):Obj:=fO (stAt 40) "of_value" "of_value" [] (.str (.ofString "fdsolve.values") 340) (.ref 381) .none
noncomputable def me_387 (_P:Params):Obj:=fQ (stAt 41) "indexes_of" "indexes_of"
noncomputable def me_389 (_P:Params):Obj:=fO (stAt 41) "indexes_of" "indexes_of" [] (.str (.ofString "fdsolve.values") 340) (.ref 388) .none
noncomputable def me_392 (_P:Params):Obj:=fQ (stAt 42) "indexed" "indexed"
noncomputable def me_394 (_P:Params):Obj:=fO (stAt 42) "indexed" "indexed" [] (.str (.ofString "fdsolve.values") 340) (.ref 393) .none
noncomputable def me_399 (_P:Params):Obj:=fQ (stAt 43) "united" "united"
noncomputable def me_401 (_P:Params):Obj:=fO (stAt 43) "united" "united" [] (.str (.ofString "fdsolve.values") 340) (.ref 400) .none
noncomputable def me_406 (_P:Params):Obj:=fQ (stAt 45) "_law_draw" "_law_draw"
noncomputable def me_408 (_P:Params):Obj:=fO (stAt 45) "_law_draw" "_law_draw" [] (.str (.ofString "law_nz0031_01") 722) (.ref 407) .none
noncomputable def me_413 (_P:Params):Obj:=fQ (stAt 46) "_law_heard" "_law_heard"
noncomputable def me_415 (_P:Params):Obj:=fO (stAt 46) "_law_heard" "_law_heard" [] (.str (.ofString "law_nz0031_01") 722) (.ref 414) .none
noncomputable def me_420 (_P:Params):Obj:=fQ (stAt 47) "_law_set" "_law_set"
noncomputable def me_422 (_P:Params):Obj:=fO (stAt 47) "_law_set" "_law_set" [] (.str (.ofString "law_nz0031_01") 722) (.ref 421) .none
noncomputable def me_427 (_P:Params):Obj:=fQ (stAt 48) "_law_is_array" "_law_is_array"
noncomputable def me_429 (_P:Params):Obj:=fO (stAt 48) "_law_is_array" "_law_is_array" [] (.str (.ofString "law_nz0031_01") 722) (.ref 428) .none
noncomputable def me_432 (_P:Params):Obj:=fQ (stAt 49) "_law_due" "_law_due"
noncomputable def me_434 (_P:Params):Obj:=fO (stAt 49) "_law_due" "_law_due" [] (.str (.ofString "law_nz0031_01") 722) (.ref 433) .none
noncomputable def me_437 (_P:Params):Obj:=fQ (stAt 50) "_law_args" "_law_args"
noncomputable def me_439 (_P:Params):Obj:=fO (stAt 50) "_law_args" "_law_args" [] (.str (.ofString "law_nz0031_01") 722) (.ref 438) .none
noncomputable def me_441 (_P:Params):Obj:=⟨.none,none,(.fields #[]),#[]⟩
noncomputable def me_444 (_P:Params):Obj:=fQ (stAt 51) "_law_sets_told" "_law_sets_told"
noncomputable def me_446 (_P:Params):Obj:=fO (stAt 51) "_law_sets_told" "_law_sets_told" [] (.str (.ofString "law_nz0031_01") 722) (.ref 445) .none
noncomputable def me_448 (_P:Params):Obj:=⟨.none,none,(.fields #[]),#[]⟩
noncomputable def me_449 (_P:Params):Obj:=fQ (stAt 52) "_law_at" "_law_at"
noncomputable def me_451 (_P:Params):Obj:=fO (stAt 52) "_law_at" "_law_at" [] (.str (.ofString "law_nz0031_01") 722) (.ref 450) .none
noncomputable def me_456 (_P:Params):Obj:=fQ (stAt 53) "_law_elements_right" "_law_elements_right"
noncomputable def me_458 (_P:Params):Obj:=fO (stAt 53) "_law_elements_right" "_law_elements_right" [] (.str (.ofString "law_nz0031_01") 722) (.ref 457) .none
noncomputable def me_460 (_P:Params):Obj:=⟨.none,none,(.fields #[]),#[]⟩
noncomputable def me_463 (_P:Params):Obj:=fQ (stAt 54) "law" "law"
noncomputable def me_465 (_P:Params):Obj:=fO (stAt 54) "law" "law" [] (.str (.ofString "law_nz0031_01") 722) (.ref 464) .none
noncomputable def ha (P:Params):Heap:=⟨⟨[boot_o_0 P,boot_o_1 P,boot_o_2 P,boot_o_3 P,boot_o_4 P,boot_o_5 P,boot_o_6 P,boot_o_7 P,boot_o_8 P,boot_o_9 P,boot_o_10 P,o_11 P,ma_12 P,o_13 P,o_14 P]⟩,⟨[],[],[],0,[],[],false,(List.toArray []),[],0,false,false,false,0,[2000,10,10],false,0,true,[],[],0,false⟩⟩
noncomputable def hb (P:Params):Heap:=⟨⟨[boot_o_0 P,boot_o_1 P,o_2 P,mb_3 P,boot_o_4 P,boot_o_5 P,boot_o_6 P,boot_o_7 P,boot_o_8 P,boot_o_9 P,boot_o_10 P,o_11 P,mb_12 P,o_13 P,o_14 P,o_15 P,o_16 P,o_17 P,o_18 P,mb_19 P,o_20 P,mb_21 P,o_22 P,o_23 P,o_24 P,o_25 P,mb_26 P,o_27 P,mb_28 P,o_29 P,o_30 P,o_31 P,o_32 P,mb_33 P,o_34 P,mb_35 P,o_36 P,o_37 P,o_38 P,o_39 P,mb_40 P,o_41 P,mb_42 P,o_43 P,o_44 P,o_45 P,o_46 P,mb_47 P,o_48 P,mb_49 P,o_50 P,mb_51 P,mb_52 P,o_53 P,mb_54 P,mb_55 P,mb_56 P,mb_57 P,o_58 P,o_59 P,o_60 P,o_61 P,o_62 P,mb_63 P,o_64 P,mb_65 P,o_66 P,o_67 P,o_68 P,o_69 P,mb_70 P,o_71 P,mb_72 P,o_73 P,o_74 P,o_75 P,o_76 P,mb_77 P,mb_78 P,o_79 P,mb_80 P,mb_81 P,o_82 P,mb_83 P,mb_84 P,mb_85 P,mb_86 P,o_87 P,o_88 P,o_89 P,o_90 P,o_91 P,mb_92 P,o_93 P,mb_94 P,o_95 P,o_96 P,o_97 P,o_98 P,mb_99 P,o_100 P,mb_101 P,o_102 P,o_103 P,o_104 P,mb_105 P,mb_106 P,o_107 P,mb_108 P,mb_109 P,mb_110 P,mb_111 P,mb_112 P,mb_113 P,o_114 P,o_115 P,o_116 P,mb_117 P,mb_118 P,o_119 P,mb_120 P,mb_121 P,mb_122 P,mb_123 P,mb_124 P,mb_125 P,o_126 P,o_127 P,o_128 P,mb_129 P,mb_130 P]⟩,⟨[],[],[],0,[],[],false,(List.toArray []),[],0,false,false,false,0,[2000,10,10],false,0,true,[],[],0,false⟩⟩
noncomputable def hc (P:Params):Heap:=⟨⟨[boot_o_0 P,boot_o_1 P,o_2 P,mc_3 P,boot_o_4 P,boot_o_5 P,boot_o_6 P,boot_o_7 P,boot_o_8 P,boot_o_9 P,boot_o_10 P,o_11 P,mc_12 P,o_13 P,o_14 P,o_15 P,o_16 P,o_17 P,o_18 P,mb_19 P,o_20 P,mb_21 P,o_22 P,o_23 P,o_24 P,o_25 P,mb_26 P,o_27 P,mb_28 P,o_29 P,o_30 P,o_31 P,o_32 P,mb_33 P,o_34 P,mb_35 P,o_36 P,o_37 P,o_38 P,o_39 P,mb_40 P,o_41 P,mb_42 P,o_43 P,o_44 P,o_45 P,o_46 P,mb_47 P,o_48 P,mb_49 P,o_50 P,mb_51 P,mb_52 P,o_53 P,mb_54 P,mb_55 P,mb_56 P,mb_57 P,o_58 P,o_59 P,o_60 P,o_61 P,o_62 P,mb_63 P,o_64 P,mb_65 P,o_66 P,o_67 P,o_68 P,o_69 P,mb_70 P,o_71 P,mb_72 P,o_73 P,o_74 P,o_75 P,o_76 P,mb_77 P,mb_78 P,o_79 P,mb_80 P,mb_81 P,o_82 P,mb_83 P,mb_84 P,mb_85 P,mb_86 P,o_87 P,o_88 P,o_89 P,o_90 P,o_91 P,mb_92 P,o_93 P,mb_94 P,o_95 P,o_96 P,o_97 P,o_98 P,mb_99 P,o_100 P,mb_101 P,o_102 P,o_103 P,o_104 P,mb_105 P,mb_106 P,o_107 P,mb_108 P,mb_109 P,mb_110 P,mb_111 P,mb_112 P,mb_113 P,o_114 P,o_115 P,o_116 P,mb_117 P,mb_118 P,o_119 P,mb_120 P,mb_121 P,mb_122 P,mb_123 P,mb_124 P,mb_125 P,o_126 P,o_127 P,o_128 P,mb_129 P,mb_130 P,o_131 P,o_132 P,o_133 P,o_134 P,mc_135 P,o_136 P,mc_137 P,o_138 P,o_139 P,o_140 P,o_141 P,mc_142 P,o_143 P,mc_144 P,o_145 P,o_146 P,o_147 P,o_148 P,mc_149 P,o_150 P,mc_151 P,o_152 P,o_153 P,o_154 P,o_155 P,mc_156 P,o_157 P,mc_158 P,o_159 P,o_160 P,o_161 P,o_162 P,mc_163 P,o_164 P,mc_165 P,o_166 P,o_167 P,o_168 P,o_169 P,mc_170 P,o_171 P,mc_172 P,o_173 P,o_174 P,o_175 P,o_176 P,mc_177 P,o_178 P,mc_179 P,o_180 P,o_181 P,o_182 P,o_183 P,mc_184 P,o_185 P,mc_186 P,o_187 P,o_188 P,o_189 P,o_190 P,mc_191 P,o_192 P,mc_193 P,o_194 P,o_195 P,o_196 P,o_197 P,mc_198 P,o_199 P,mc_200 P,o_201 P,o_202 P,o_203 P,o_204 P,mc_205 P,o_206 P,mc_207 P,o_208 P,o_209 P,o_210 P,o_211 P,mc_212 P,o_213 P,mc_214 P,o_215 P,o_216 P,o_217 P,o_218 P,mc_219 P,o_220 P,mc_221 P,o_222 P,o_223 P,mc_224 P,o_225 P,mc_226 P,o_227 P,o_228 P,o_229 P,o_230 P,mc_231 P,o_232 P,mc_233 P,o_234 P,o_235 P,mc_236 P,o_237 P,mc_238 P,o_239 P,o_240 P,o_241 P,o_242 P,mc_243 P,o_244 P,mc_245 P,o_246 P,o_247 P,mc_248 P,o_249 P,mc_250 P,o_251 P,o_252 P,mc_253 P,o_254 P,mc_255 P,o_256 P,o_257 P,o_258 P,mc_259 P,o_260 P,mc_261 P]⟩,⟨[],[],[],0,[],[],false,(List.toArray []),[],0,false,false,false,0,[2000,10,10],false,0,true,[],[],0,false⟩⟩
noncomputable def hd (P:Params):Heap:=⟨⟨[boot_o_0 P,boot_o_1 P,o_2 P,md_3 P,boot_o_4 P,boot_o_5 P,boot_o_6 P,boot_o_7 P,boot_o_8 P,boot_o_9 P,boot_o_10 P,o_11 P,md_12 P,o_13 P,o_14 P,o_15 P,o_16 P,o_17 P,o_18 P,mb_19 P,o_20 P,mb_21 P,o_22 P,o_23 P,o_24 P,o_25 P,mb_26 P,o_27 P,mb_28 P,o_29 P,o_30 P,o_31 P,o_32 P,mb_33 P,o_34 P,mb_35 P,o_36 P,o_37 P,o_38 P,o_39 P,mb_40 P,o_41 P,mb_42 P,o_43 P,o_44 P,o_45 P,o_46 P,mb_47 P,o_48 P,mb_49 P,o_50 P,mb_51 P,mb_52 P,o_53 P,mb_54 P,mb_55 P,mb_56 P,mb_57 P,o_58 P,o_59 P,o_60 P,o_61 P,o_62 P,mb_63 P,o_64 P,mb_65 P,o_66 P,o_67 P,o_68 P,o_69 P,mb_70 P,o_71 P,mb_72 P,o_73 P,o_74 P,o_75 P,o_76 P,mb_77 P,mb_78 P,o_79 P,mb_80 P,mb_81 P,o_82 P,mb_83 P,mb_84 P,mb_85 P,mb_86 P,o_87 P,o_88 P,o_89 P,o_90 P,o_91 P,mb_92 P,o_93 P,mb_94 P,o_95 P,o_96 P,o_97 P,o_98 P,mb_99 P,o_100 P,mb_101 P,o_102 P,o_103 P,o_104 P,mb_105 P,mb_106 P,o_107 P,mb_108 P,mb_109 P,mb_110 P,mb_111 P,mb_112 P,mb_113 P,o_114 P,o_115 P,o_116 P,mb_117 P,mb_118 P,o_119 P,mb_120 P,mb_121 P,mb_122 P,mb_123 P,mb_124 P,mb_125 P,o_126 P,o_127 P,o_128 P,mb_129 P,mb_130 P,o_131 P,o_132 P,o_133 P,o_134 P,mc_135 P,o_136 P,mc_137 P,o_138 P,o_139 P,o_140 P,o_141 P,mc_142 P,o_143 P,mc_144 P,o_145 P,o_146 P,o_147 P,o_148 P,mc_149 P,o_150 P,mc_151 P,o_152 P,o_153 P,o_154 P,o_155 P,mc_156 P,o_157 P,mc_158 P,o_159 P,o_160 P,o_161 P,o_162 P,mc_163 P,o_164 P,mc_165 P,o_166 P,o_167 P,o_168 P,o_169 P,mc_170 P,o_171 P,mc_172 P,o_173 P,o_174 P,o_175 P,o_176 P,mc_177 P,o_178 P,mc_179 P,o_180 P,o_181 P,o_182 P,o_183 P,mc_184 P,o_185 P,mc_186 P,o_187 P,o_188 P,o_189 P,o_190 P,mc_191 P,o_192 P,mc_193 P,o_194 P,o_195 P,o_196 P,o_197 P,mc_198 P,o_199 P,mc_200 P,o_201 P,o_202 P,o_203 P,o_204 P,mc_205 P,o_206 P,mc_207 P,o_208 P,o_209 P,o_210 P,o_211 P,mc_212 P,o_213 P,mc_214 P,o_215 P,o_216 P,o_217 P,o_218 P,mc_219 P,o_220 P,mc_221 P,o_222 P,o_223 P,mc_224 P,o_225 P,mc_226 P,o_227 P,o_228 P,o_229 P,o_230 P,mc_231 P,o_232 P,mc_233 P,o_234 P,o_235 P,mc_236 P,o_237 P,mc_238 P,o_239 P,o_240 P,o_241 P,o_242 P,mc_243 P,o_244 P,mc_245 P,o_246 P,o_247 P,mc_248 P,o_249 P,mc_250 P,o_251 P,o_252 P,mc_253 P,o_254 P,mc_255 P,o_256 P,o_257 P,o_258 P,mc_259 P,o_260 P,mc_261 P,md_262 P,md_263 P,md_264 P,md_265 P,md_266 P,md_267 P,md_268 P,o_269 P,o_270 P,o_271 P,o_272 P,md_273 P,o_274 P,md_275 P,o_276 P,o_277 P,o_278 P,o_279 P,md_280 P,o_281 P,md_282 P,o_283 P,o_284 P,md_285 P,o_286 P,md_287 P,o_288 P,o_289 P,md_290 P,o_291 P,md_292 P,o_293 P,o_294 P,o_295 P,o_296 P,md_297 P,o_298 P,md_299 P,o_300 P,o_301 P,o_302 P,o_303 P,md_304 P,o_305 P,md_306 P,o_307 P,o_308 P,o_309 P,o_310 P,md_311 P,o_312 P,md_313 P,o_314 P,o_315 P,o_316 P,o_317 P,md_318 P,o_319 P,md_320 P,o_321 P,o_322 P,o_323 P,o_324 P,md_325 P,o_326 P,md_327 P,o_328 P,o_329 P,o_330 P,o_331 P,md_332 P,o_333 P,md_334 P,o_335 P,o_336 P,o_337 P,o_338 P,md_339 P,o_340 P,md_341 P,o_342 P,o_343 P,o_344 P,o_345 P,md_346 P,o_347 P,md_348 P,o_349 P,o_350 P,md_351 P,o_352 P,md_353 P,o_354 P,o_355 P,o_356 P,o_357 P,o_358 P,md_359 P,md_360 P]⟩,⟨[],[],[],0,[],[],false,(List.toArray []),[],0,false,false,false,0,[2000,10,10],false,0,true,[],[],0,false⟩⟩
noncomputable def he (P:Params):Heap:=⟨⟨[boot_o_0 P,boot_o_1 P,o_2 P,o_3 P,boot_o_4 P,boot_o_5 P,boot_o_6 P,boot_o_7 P,boot_o_8 P,boot_o_9 P,boot_o_10 P,o_11 P,o_12 P,o_13 P,o_14 P,o_15 P,o_16 P,o_17 P,o_18 P,mb_19 P,o_20 P,mb_21 P,o_22 P,o_23 P,o_24 P,o_25 P,mb_26 P,o_27 P,mb_28 P,o_29 P,o_30 P,o_31 P,o_32 P,mb_33 P,o_34 P,mb_35 P,o_36 P,o_37 P,o_38 P,o_39 P,mb_40 P,o_41 P,mb_42 P,o_43 P,o_44 P,o_45 P,o_46 P,mb_47 P,o_48 P,mb_49 P,o_50 P,mb_51 P,mb_52 P,o_53 P,mb_54 P,mb_55 P,mb_56 P,mb_57 P,o_58 P,o_59 P,o_60 P,o_61 P,o_62 P,mb_63 P,o_64 P,mb_65 P,o_66 P,o_67 P,o_68 P,o_69 P,mb_70 P,o_71 P,mb_72 P,o_73 P,o_74 P,o_75 P,o_76 P,mb_77 P,mb_78 P,o_79 P,mb_80 P,mb_81 P,o_82 P,mb_83 P,mb_84 P,mb_85 P,mb_86 P,o_87 P,o_88 P,o_89 P,o_90 P,o_91 P,mb_92 P,o_93 P,mb_94 P,o_95 P,o_96 P,o_97 P,o_98 P,mb_99 P,o_100 P,mb_101 P,o_102 P,o_103 P,o_104 P,mb_105 P,mb_106 P,o_107 P,mb_108 P,mb_109 P,mb_110 P,mb_111 P,mb_112 P,mb_113 P,o_114 P,o_115 P,o_116 P,mb_117 P,mb_118 P,o_119 P,mb_120 P,mb_121 P,mb_122 P,mb_123 P,mb_124 P,mb_125 P,o_126 P,o_127 P,o_128 P,mb_129 P,mb_130 P,o_131 P,o_132 P,o_133 P,o_134 P,mc_135 P,o_136 P,mc_137 P,o_138 P,o_139 P,o_140 P,o_141 P,mc_142 P,o_143 P,mc_144 P,o_145 P,o_146 P,o_147 P,o_148 P,mc_149 P,o_150 P,mc_151 P,o_152 P,o_153 P,o_154 P,o_155 P,mc_156 P,o_157 P,mc_158 P,o_159 P,o_160 P,o_161 P,o_162 P,mc_163 P,o_164 P,mc_165 P,o_166 P,o_167 P,o_168 P,o_169 P,mc_170 P,o_171 P,mc_172 P,o_173 P,o_174 P,o_175 P,o_176 P,mc_177 P,o_178 P,mc_179 P,o_180 P,o_181 P,o_182 P,o_183 P,mc_184 P,o_185 P,mc_186 P,o_187 P,o_188 P,o_189 P,o_190 P,mc_191 P,o_192 P,mc_193 P,o_194 P,o_195 P,o_196 P,o_197 P,mc_198 P,o_199 P,mc_200 P,o_201 P,o_202 P,o_203 P,o_204 P,mc_205 P,o_206 P,mc_207 P,o_208 P,o_209 P,o_210 P,o_211 P,mc_212 P,o_213 P,mc_214 P,o_215 P,o_216 P,o_217 P,o_218 P,mc_219 P,o_220 P,mc_221 P,o_222 P,o_223 P,mc_224 P,o_225 P,mc_226 P,o_227 P,o_228 P,o_229 P,o_230 P,mc_231 P,o_232 P,mc_233 P,o_234 P,o_235 P,mc_236 P,o_237 P,mc_238 P,o_239 P,o_240 P,o_241 P,o_242 P,mc_243 P,o_244 P,mc_245 P,o_246 P,o_247 P,mc_248 P,o_249 P,mc_250 P,o_251 P,o_252 P,mc_253 P,o_254 P,mc_255 P,o_256 P,o_257 P,o_258 P,mc_259 P,o_260 P,mc_261 P,md_262 P,md_263 P,md_264 P,md_265 P,md_266 P,md_267 P,md_268 P,o_269 P,o_270 P,o_271 P,o_272 P,md_273 P,o_274 P,md_275 P,o_276 P,o_277 P,o_278 P,o_279 P,md_280 P,o_281 P,md_282 P,o_283 P,o_284 P,md_285 P,o_286 P,md_287 P,o_288 P,o_289 P,md_290 P,o_291 P,md_292 P,o_293 P,o_294 P,o_295 P,o_296 P,md_297 P,o_298 P,md_299 P,o_300 P,o_301 P,o_302 P,o_303 P,md_304 P,o_305 P,md_306 P,o_307 P,o_308 P,o_309 P,o_310 P,md_311 P,o_312 P,md_313 P,o_314 P,o_315 P,o_316 P,o_317 P,md_318 P,o_319 P,md_320 P,o_321 P,o_322 P,o_323 P,o_324 P,md_325 P,o_326 P,md_327 P,o_328 P,o_329 P,o_330 P,o_331 P,md_332 P,o_333 P,md_334 P,o_335 P,o_336 P,o_337 P,o_338 P,md_339 P,o_340 P,md_341 P,o_342 P,o_343 P,o_344 P,o_345 P,md_346 P,o_347 P,md_348 P,o_349 P,o_350 P,md_351 P,o_352 P,md_353 P,o_354 P,o_355 P,o_356 P,o_357 P,o_358 P,md_359 P,md_360 P,o_361 P,o_362 P,me_363 P,o_364 P,me_365 P,o_366 P,o_367 P,me_368 P,o_369 P,me_370 P,o_371 P,o_372 P,o_373 P,o_374 P,me_375 P,o_376 P,me_377 P,o_378 P,o_379 P,me_380 P,o_381 P,me_382 P,o_383 P,o_384 P,o_385 P,o_386 P,me_387 P,o_388 P,me_389 P,o_390 P,o_391 P,me_392 P,o_393 P,me_394 P,o_395 P,o_396 P,o_397 P,o_398 P,me_399 P,o_400 P,me_401 P,o_402 P,o_403 P,o_404 P,o_405 P,me_406 P,o_407 P,me_408 P,o_409 P,o_410 P,o_411 P,o_412 P,me_413 P,o_414 P,me_415 P,o_416 P,o_417 P,o_418 P,o_419 P,me_420 P,o_421 P,me_422 P,o_423 P,o_424 P,o_425 P,o_426 P,me_427 P,o_428 P,me_429 P,o_430 P,o_431 P,me_432 P,o_433 P,me_434 P,o_435 P,o_436 P,me_437 P,o_438 P,me_439 P,o_440 P,me_441 P,o_442 P,o_443 P,me_444 P,o_445 P,me_446 P,o_447 P,me_448 P,me_449 P,o_450 P,me_451 P,o_452 P,o_453 P,o_454 P,o_455 P,me_456 P,o_457 P,me_458 P,o_459 P,me_460 P,o_461 P,o_462 P,me_463 P,o_464 P,me_465 P]⟩,⟨[],[],[],0,[],[],false,(List.toArray []),[],0,false,false,false,0,[2000,10,10],false,0,true,[],[],0,false⟩⟩
noncomputable def hf (P:Params):Heap:=⟨⟨[boot_o_0 P,boot_o_1 P,o_2 P,o_3 P,boot_o_4 P,boot_o_5 P,boot_o_6 P,boot_o_7 P,boot_o_8 P,boot_o_9 P,boot_o_10 P,o_11 P,o_12 P,o_13 P,o_14 P,o_15 P,o_16 P,o_17 P,o_18 P,mb_19 P,o_20 P,mb_21 P,o_22 P,o_23 P,o_24 P,o_25 P,mb_26 P,o_27 P,mb_28 P,o_29 P,o_30 P,o_31 P,o_32 P,mb_33 P,o_34 P,mb_35 P,o_36 P,o_37 P,o_38 P,o_39 P,mb_40 P,o_41 P,mb_42 P,o_43 P,o_44 P,o_45 P,o_46 P,mb_47 P,o_48 P,mb_49 P,o_50 P,mb_51 P,mb_52 P,o_53 P,mb_54 P,mb_55 P,mb_56 P,mb_57 P,o_58 P,o_59 P,o_60 P,o_61 P,o_62 P,mb_63 P,o_64 P,mb_65 P,o_66 P,o_67 P,o_68 P,o_69 P,mb_70 P,o_71 P,mb_72 P,o_73 P,o_74 P,o_75 P,o_76 P,mb_77 P,mb_78 P,o_79 P,mb_80 P,mb_81 P,o_82 P,mb_83 P,mb_84 P,mb_85 P,mb_86 P,o_87 P,o_88 P,o_89 P,o_90 P,o_91 P,mb_92 P,o_93 P,mb_94 P,o_95 P,o_96 P,o_97 P,o_98 P,mb_99 P,o_100 P,mb_101 P,o_102 P,o_103 P,o_104 P,mb_105 P,mb_106 P,o_107 P,mb_108 P,mb_109 P,mb_110 P,mb_111 P,mb_112 P,mb_113 P,o_114 P,o_115 P,o_116 P,mb_117 P,mb_118 P,o_119 P,mb_120 P,mb_121 P,mb_122 P,mb_123 P,mb_124 P,mb_125 P,o_126 P,o_127 P,o_128 P,mb_129 P,mb_130 P,o_131 P,o_132 P,o_133 P,o_134 P,mc_135 P,o_136 P,mc_137 P,o_138 P,o_139 P,o_140 P,o_141 P,mc_142 P,o_143 P,mc_144 P,o_145 P,o_146 P,o_147 P,o_148 P,mc_149 P,o_150 P,mc_151 P,o_152 P,o_153 P,o_154 P,o_155 P,mc_156 P,o_157 P,mc_158 P,o_159 P,o_160 P,o_161 P,o_162 P,mc_163 P,o_164 P,mc_165 P,o_166 P,o_167 P,o_168 P,o_169 P,mc_170 P,o_171 P,mc_172 P,o_173 P,o_174 P,o_175 P,o_176 P,mc_177 P,o_178 P,mc_179 P,o_180 P,o_181 P,o_182 P,o_183 P,mc_184 P,o_185 P,mc_186 P,o_187 P,o_188 P,o_189 P,o_190 P,mc_191 P,o_192 P,mc_193 P,o_194 P,o_195 P,o_196 P,o_197 P,mc_198 P,o_199 P,mc_200 P,o_201 P,o_202 P,o_203 P,o_204 P,mc_205 P,o_206 P,mc_207 P,o_208 P,o_209 P,o_210 P,o_211 P,mc_212 P,o_213 P,mc_214 P,o_215 P,o_216 P,o_217 P,o_218 P,mc_219 P,o_220 P,mc_221 P,o_222 P,o_223 P,mc_224 P,o_225 P,mc_226 P,o_227 P,o_228 P,o_229 P,o_230 P,mc_231 P,o_232 P,mc_233 P,o_234 P,o_235 P,mc_236 P,o_237 P,mc_238 P,o_239 P,o_240 P,o_241 P,o_242 P,mc_243 P,o_244 P,mc_245 P,o_246 P,o_247 P,mc_248 P,o_249 P,mc_250 P,o_251 P,o_252 P,mc_253 P,o_254 P,mc_255 P,o_256 P,o_257 P,o_258 P,mc_259 P,o_260 P,mc_261 P,md_262 P,md_263 P,md_264 P,md_265 P,md_266 P,md_267 P,md_268 P,o_269 P,o_270 P,o_271 P,o_272 P,md_273 P,o_274 P,md_275 P,o_276 P,o_277 P,o_278 P,o_279 P,md_280 P,o_281 P,md_282 P,o_283 P,o_284 P,md_285 P,o_286 P,md_287 P,o_288 P,o_289 P,md_290 P,o_291 P,md_292 P,o_293 P,o_294 P,o_295 P,o_296 P,md_297 P,o_298 P,md_299 P,o_300 P,o_301 P,o_302 P,o_303 P,md_304 P,o_305 P,md_306 P,o_307 P,o_308 P,o_309 P,o_310 P,md_311 P,o_312 P,md_313 P,o_314 P,o_315 P,o_316 P,o_317 P,md_318 P,o_319 P,md_320 P,o_321 P,o_322 P,o_323 P,o_324 P,md_325 P,o_326 P,md_327 P,o_328 P,o_329 P,o_330 P,o_331 P,md_332 P,o_333 P,md_334 P,o_335 P,o_336 P,o_337 P,o_338 P,md_339 P,o_340 P,md_341 P,o_342 P,o_343 P,o_344 P,o_345 P,md_346 P,o_347 P,md_348 P,o_349 P,o_350 P,md_351 P,o_352 P,md_353 P,o_354 P,o_355 P,o_356 P,o_357 P,o_358 P,md_359 P,md_360 P,o_361 P,o_362 P,me_363 P,o_364 P,me_365 P,o_366 P,o_367 P,me_368 P,o_369 P,me_370 P,o_371 P,o_372 P,o_373 P,o_374 P,me_375 P,o_376 P,me_377 P,o_378 P,o_379 P,me_380 P,o_381 P,me_382 P,o_383 P,o_384 P,o_385 P,o_386 P,me_387 P,o_388 P,me_389 P,o_390 P,o_391 P,me_392 P,o_393 P,me_394 P,o_395 P,o_396 P,o_397 P,o_398 P,me_399 P,o_400 P,me_401 P,o_402 P,o_403 P,o_404 P,o_405 P,me_406 P,o_407 P,me_408 P,o_409 P,o_410 P,o_411 P,o_412 P,me_413 P,o_414 P,me_415 P,o_416 P,o_417 P,o_418 P,o_419 P,me_420 P,o_421 P,me_422 P,o_423 P,o_424 P,o_425 P,o_426 P,me_427 P,o_428 P,me_429 P,o_430 P,o_431 P,me_432 P,o_433 P,me_434 P,o_435 P,o_436 P,me_437 P,o_438 P,me_439 P,o_440 P,me_441 P,o_442 P,o_443 P,me_444 P,o_445 P,me_446 P,o_447 P,me_448 P,me_449 P,o_450 P,me_451 P,o_452 P,o_453 P,o_454 P,o_455 P,me_456 P,o_457 P,me_458 P,o_459 P,me_460 P,o_461 P,o_462 P,me_463 P,o_464 P,me_465 P]⟩,⟨[],[],[],0,[],[],false,(List.toArray []),[],0,false,false,false,0,[2000,10,10],false,0,true,[],[],0,false⟩⟩
noncomputable def env0:Env:={ scope:=pw.main.scope,locals:=mainNs,globals:=mainNs,cells:=[],code:=.ref 13,frame:=some 14 }
noncomputable def l1:List Stmt:=pw.main.body.take 11
noncomputable def l2:List Stmt:=(pw.main.body.drop 11).take 25
noncomputable def l3:List Stmt:=(pw.main.body.drop 36).take 1
noncomputable def l4:List Stmt:=pw.main.body.drop 37
noncomputable abbrev bdy:List Stmt:=l1++(l2++(l3++(l4++[])))
noncomputable abbrev cB:Code:=.body bdy env0
noncomputable abbrev ann0:Option Value:=some (.ref 6)
noncomputable abbrev q00:Pos:=⟨0,0,0,0⟩
noncomputable abbrev s0 (w:World) (os:OsState):Shared:=⟨boot_heap w.params,Array.mk [],boot_drawn,boot_toks,os⟩
noncomputable abbrev sA (w:World) (os:OsState):Shared:=⟨ha w.params,Array.mk [],boot_drawn,187,os⟩
noncomputable abbrev sB (w:World) (os:OsState):Shared:=⟨hb w.params,Array.mk [],boot_drawn,340,os⟩
noncomputable abbrev sC (w:World) (os:OsState):Shared:=⟨hc w.params,Array.mk [],boot_drawn,512,os⟩
noncomputable abbrev sD (w:World) (os:OsState):Shared:=⟨hd w.params,Array.mk [],boot_drawn,668,os⟩
noncomputable abbrev sE (w:World) (os:OsState):Shared:=⟨he w.params,Array.mk [],boot_drawn,819,os⟩
noncomputable abbrev sF (w:World) (os:OsState):Shared:=⟨hf w.params,Array.mk [],boot_drawn,819,os⟩
theorem r0 (w:World) (os:OsState):topGo treeTable pw w 11 ann0 12 (s0 w os) (topStub pw)=some (sA w os,⟨denote treeTable cB,cB,q00,[topFrame q00]⟩):=by kernel_rfl
theorem r1 (w:World) (os:OsState):segRun treeTable pw w 11 ann0 1 1 (sA w os) (blockOf bdy env0 cB q00 [topFrame q00])=some (.next,sA w os,cB,q00):=by kernel_rfl
set_option maxHeartbeats 0 in
theorem r2 (w:World) (os:OsState):segRun treeTable pw w 11 ann0 1 1181 (sA w os) (piecesOf l1 env0 cB ⟨0,0,0,0⟩ [topFrame q00])=some (.next,sB w os,cB,⟨41,0,42,8⟩):=by kernel_rfl
set_option maxHeartbeats 0 in
theorem r3 (w:World) (os:OsState):segRun treeTable pw w 11 ann0 1 640 (sB w os) (piecesOf l2 env0 cB ⟨41,0,42,8⟩ [topFrame q00])=some (.next,sC w os,cB,⟨167,0,182,87⟩):=by kernel_rfl
set_option maxHeartbeats 0 in
theorem r4 (w:World) (os:OsState):segRun treeTable pw w 11 ann0 1 632 (sC w os) (piecesOf l3 env0 cB ⟨167,0,182,87⟩ [topFrame q00])=some (.next,sD w os,cB,⟨183,0,334,56⟩):=by kernel_rfl
set_option maxHeartbeats 0 in
theorem r5 (w:World) (os:OsState):segRun treeTable pw w 11 ann0 1 519 (sD w os) (piecesOf l4 env0 cB ⟨183,0,334,56⟩ [topFrame q00])=some (.next,sE w os,cB,⟨492,0,507,15⟩):=by kernel_rfl
theorem r6 (w:World) (os:OsState):topRun treeTable pw w 11 ann0 2 (sE w os) ⟨doneF .next,cB,⟨492,0,507,15⟩,[topFrame q00]⟩=some (sF w os):=by kernel_rfl
theorem run_all (w:World) (os:OsState):topRun treeTable pw w 11 ann0 (12 + (1 + (1181 + (640 + (632 + (519 + 2)))))) (s0 w os) (topStub pw)=some (sF w os) :=
  go_top (r0 w os) (piece_block (r1 w os) (piece_app (r2 w os) (piece_app (r3 w os) (piece_app (r4 w os) (piece_app (r5 w os) (piece_nil (r6 w os)))))))
noncomputable def q0:Program:=view pw [54]
noncomputable def loose0:List Str:=["range_of","put_behind","from_values","next_from","has","FdError","SpotFault","EvalFault","LimitFault","MOST_VALUES","MOST_POWER","MOST_SHOWN","is_array","is_set","number_of","truth_of","text_of","set_of","list_of","elements_of","row_of","span","quotient","within_figures","power","are_same","are_compared","joined_sets","reckoned","show_text","folded","FOLDING","scopes_of","Evaluator","fitted_one","called","alone","of_value","indexes_of","indexed","united","_law_draw","_law_heard","_law_set","_law_is_array","_law_due","_law_args","_law_sets_told","_law_at","_law_elements_right"].map Str.ofString
noncomputable def as1:List Nat:=441::448::460::ads
theorem bo:∀ w:World,(fencedOpening treeTable pw w 6100).map (fun s=>(s.heap,s.gens,s.drawn,s.toks))=some (boot_heap w.params,Array.mk [],boot_drawn,boot_toks) :=
  boot_open rfl rfl fun _=>rfl
noncomputable abbrev mods0:List Str:=importedModules pw.main.body
noncomputable abbrev Xt0:Shared→Bool:=fun s=>xlAt q0 [] s && recOk [] s
noncomputable abbrev Yf0:Shared→List (Option Obj):=fun s=>as1.map s.heap.get?
noncomputable abbrev Ya0:World→List (Option Obj):=fun w=>(K1 w.params).map fun p=>some p.2
set_option maxHeartbeats 0 in
theorem k1 (w:World) (os:OsState):(staticsOk mods0 (boot_heap w.params) (hf w.params) && namesBound pw (hf w.params) && gensDone (sF w os) && laidKept (boot_heap w.params) (hf w.params))=true:=by kernel_rfl
set_option maxHeartbeats 0 in
theorem k2 (w:World) (os:OsState):openSeen q0 loose0 mods0 Xt0 true (sF w os)=openGood q0 loose0:=by kernel_rfl
set_option maxHeartbeats 0 in
theorem k3 (w:World) (os:OsState):Yf0 (sF w os)=Ya0 w:=by kernel_rfl
theorem size0 (w:World):((boot_heap w.params).isNs mainGlobals && (Array.mk []:Array GenState).size == 0,(boot_heap w.params).objs.size,(boot_heap w.params).nsMap mainGlobals "__annotations__")=(true,11,ann0):=by kernel_rfl
theorem left1:LeftO pw q0 loose0 Xt0 Yf0 Ya0 6100 :=
  LeftO.of_pieces (H₀:=boot_heap) (H₁:=hf) bo size0 run_all rfl fun w=>funext fun os=>by
    show (_,_,_)=(_,_,_)
    rw [k1 w os,k2 w os,k3 w os]
@[reducible] noncomputable def Ak (n:Nat) (outer:List Env):Around:={ handled:=none,depth:=900 - 6 * n,frames:=some outer,guards:=none,units:=9000 - 99 * n }
structure Wd (w:World) (base:Heap):Prop where
  K:(Kt w.params).In base
  top:∃ p loose mean mg mb,Top p loose mean mg mb base
noncomputable def Keep (ch:List Addr) (h h':Heap):Prop:=∀ b o,h.get? b=some o→b∉ch→h'.get? b=some o
noncomputable def FeedO (w:World) (o:Obj) (D:Addr) (k:Int):Prop:=∃ t:Tok,Obj.IsDictOf (strKind PySem.Challenge.rw_nz0031_01.row.prog w) o [(Str.ofString "cells",Value.ref D),(Str.ofString "spot",Value.int k t)]
noncomputable def CellsAt (h:Heap) (D:Addr):Prop:=∃ (ws:List Value) (ns:List Int),h.IsList D ws.toArray∧IntsAre ws ns∧ns.length≤60
noncomputable def DrawS (w:World) (n:Nat) (f:Addr) (mk:Addr→List Value) (c:Nat) (P:Heap→Value→Heap→Prop):Prop :=
  ∀ (outer:List Env) (base:Heap) (s:Shared) (Q E:Value→Shared→Prop) (fd D:Addr) (o:Obj) (k:Int),
    Wd w base→Below (Ak n outer) base outer s.heap→s.heap.get? fd=some o→FeedO w o D k→base.get? fd=none→fd∉outer.filterMap (·.frame)→(fd == sysModules)=false→CellsAt s.heap D→0≤k→k + c≤100000 →
    (∀ v h' tk o' k',P s.heap v h'→Keep [fd] s.heap h'→h'.get? fd=some o'→FeedO w o' D k'→k≤k'→k'≤k + c→Q v { s with heap:=h',toks:=tk }) →
    wpAny (model PySem.Challenge.rw_nz0031_01.row.prog w) (Ak n outer) (call (.ref f) (mk fd)) Q E s
noncomputable def PInt (lo hi:Int):Heap→Value→Heap→Prop:=fun _ v _=>∃ i t,v=Value.int i t∧lo≤i∧i≤hi
noncomputable def Ev (M:Model) (A:Around) (env:Env) (g:Array GenState) (d:Drawn) (o:OsState) (H:Heap) (T:Nat) (e:PySem.Expr) (v:Value) (T':Nat):Prop :=
  ∀ Q E:Value→Shared→Prop,Q v ⟨H,g,d,T',o⟩→wpAny M A (eval e env) Q E ⟨H,g,d,T,o⟩
noncomputable def Et (M:Model) (A:Around) (env:Env) (g:Array GenState) (d:Drawn) (o:OsState) (H:Heap) (T:Nat) (e:PySem.Expr) (b:Bool) (T':Nat):Prop :=
  ∀ (Q:Bool→Shared→Prop) (E:Value→Shared→Prop),Q b ⟨H,g,d,T',o⟩→wpAny M A (PySem.isTrue e env (eval e env)) Q E ⟨H,g,d,T,o⟩
noncomputable def Es (M:Model) (A:Around) (env:Env) (g:Array GenState) (d:Drawn) (o:OsState) (H:Heap) (T:Nat) (es:List PySem.Expr) (vs:List Value) (T':Nat):Prop :=
  ∀ (pos:Pos) (Q:List Value→Shared→Prop) (E:Value→Shared→Prop),Q vs ⟨H,g,d,T',o⟩→wpAny M A (spliced (backTo pos (starEach es env))) Q E ⟨H,g,d,T,o⟩
noncomputable def plainE:PySem.Expr→Bool
  | .Starred ..=>false
  | _=>true
noncomputable def Fn (env:Env) (L:Addr):Prop:=env.scope.kind=.function∧env.locals=L∧env.globals=mainGlobals∧env.builtins=builtinsNs
noncomputable def Gl (w:World) (h₀:Heap):Prop:=(Kt w.params).In h₀∧∃ p loose mg mb,TopRead p loose mg mb h₀
noncomputable def tupAt (l:List Value) (j:Int):Option Value:=if -2 ^ 63≤j∧j < 2 ^ 63 then (match seqIndex? j l.length with|some i=>l[i]?|none=>none) else none
noncomputable def Kf (w:World) (x:Str) (a:Addr):Prop:=nsIn (Kt w.params) mainGlobals x=some (some (.ref a))∧keepIn (Kt w.params) (.ref a)=true∧(x == ("__debug__" : Str))=false
noncomputable def Kb (w:World) (x:Str) (v:Value):Prop:=nsIn (Kt w.params) mainGlobals x=some none∧bootBuiltins x=some v∧x≠"__name__"∧(x == ("__debug__" : Str))=false
noncomputable def cmpI:CmpOp→Int→Int→Option Bool
  | .Eq,a,b=>some (a == b)
  | .NotEq,a,b=>some (a != b)
  | .Lt,a,b=>some (decide (a < b))
  | .Gt,a,b=>some (decide (b < a))
  | _,_,_=>none
noncomputable def Ep (M:Model) (A:Around) (env:Env) (g:Array GenState) (d:Drawn) (o:OsState) (H:Heap) (e:PySem.Expr) (k:Nat):Prop :=
  ∀ (T:Nat) (Q E:Value→Shared→Prop),(∀ y t T',y.length≤k→Q (.str y t) ⟨H,g,d,T',o⟩)→wpAny M A (eval e env) Q E ⟨H,g,d,T,o⟩
noncomputable def Jp (M:Model) (A:Around) (env:Env) (g:Array GenState) (d:Drawn) (o:OsState) (H:Heap) (es:List PySem.Expr) (k:Nat):Prop :=
  ∀ (T:Nat) (out:Str) (Q E:Value→Shared→Prop),out.length + k≤sizeLine→(∀ y t T',Q (.str y t) ⟨H,g,d,T',o⟩)→wpAny M A (joinParts out (evalEach es env)) Q E ⟨H,g,d,T,o⟩
noncomputable abbrev bmE:List Value:=[.ref 104,.ref 75,.type "Exception",.type "BaseException",.type "object"]
noncomputable abbrev excObj (tt:Addr):Obj:={ cls:=.ref 116,data:=.fields #[.ref tt,.none,.none,.none,.bool false,.none] }
noncomputable abbrev excD (dO:Option Addr) (vs:Array Value):Obj:={ cls:=.ref 116,dict:=dO,data:=.fields vs }
noncomputable abbrev mwObj (x:Addr):Obj:={ cls:=.type "method-wrapper",data:=.fields #[.builtin "Exception.__init__",.ref x] }
noncomputable def MwP (q x:Addr) (h:Heap):Prop:=h.get? q=some (mwObj x)
noncomputable def SpotD (h:Heap) (e:Addr) (dd:Addr) (sp:Int):Prop :=
  ∃ hw tw vw hs ts t n,h.get? dd=some (dictOf [⟨hw,.str (Str.ofString "what") tw,vw⟩,⟨hs,.str (Str.ofString "spot") ts,.int sp t⟩] n)∧∃ vs,h.get? e=some (excD (some dd) vs)∧vs.size=6∧vs[1]?=some .none
noncomputable abbrev FrOf (l:List Env):List Addr:=l.filterMap (·.frame)
structure RelS (fr:List Addr) (g h:Heap):Prop where
  keep:∀ b o,g.get? b=some o→b∉fr→h.get? b=some o
  slot:∀ b o,g.get? b=some o→∃ sl,h.get? b=some { o with slots:=sl }
noncomputable def Spot (h:Heap) (dd:Addr) (sp:Int):Prop:=∃ hw tw vw hs ts t n sl,h.get? dd=some ⟨.type "dict",none,.dict [⟨hw,.str (Str.ofString "what") tw,vw⟩,⟨hs,.str (Str.ofString "spot") ts,.int sp t⟩].toArray n,sl⟩
noncomputable def FlN (g h:Heap) (e dd:Addr) (sp:Int):Prop :=
  g.get? e=none∧g.get? dd=none∧Spot h dd sp∧∃ vs,h.get? e=some (excD (some dd) vs)∧vs.size=6∧vs[1]?=some .none
noncomputable def FlT (g h:Heap) (e dd:Addr) (sp:Int):Prop :=
  g.get? e=none∧g.get? dd=none∧Spot h dd sp∧∃ vs T oT ts,h.get? e=some (excD (some dd) vs)∧vs.size=6∧vs[1]?=some (.ref T)∧T≠e∧g.get? T=none∧h.get? T=some oT∧oT.data=.fields ts∧3 < ts.size
noncomputable def FaultT (h:Heap) (tu:Addr) (sp:Int):Prop:=∃ t1 t2,h.get? tu=some { cls:=.type "tuple",data:=.seq [.str (Str.ofString "fault") t1,.int sp t2].toArray }
noncomputable def RaiseS (w:World) (n:Nat) (f:Addr) (vs:List Value) (okV:Value→Prop) (flt:Int→Prop):Prop :=
  ∀ (outer:List Env) (base:Heap) (Q E:Value→Shared→Prop) (s:Shared),Wd w base→Below (Ak n outer) base outer s.heap →
    (∀ v h' tk,okV v→Keep [] s.heap h'→Q v { s with heap:=h',toks:=tk }) →
    (∀ e dd sp h' tk,flt sp→RelS (FrOf outer) s.heap h'→h'.FunFrames base outer→FlT s.heap h' e dd sp→E (.ref e) { s with heap:=h',toks:=tk }) →
    wpAny (model PySem.Challenge.rw_nz0031_01.row.prog w) (Ak n outer) (call (.ref f) vs) Q E s
noncomputable def Objs (base:Heap) (outer:List Env) (h:Heap) (objs:List (Addr×Obj)):Prop:=∀ p∈objs,h.get? p.1=some p.2∧base.get? p.1=none∧p.1∉outer.filterMap (·.frame)
noncomputable def OfS (w:World) (base:Heap) (n:Nat) (f:Addr) (vs:List Value) (objs:List (Addr×Obj)) (okV:Value→Prop) (flt:Int→Prop):Prop :=
  ∀ (outer:List Env) (Q E:Value→Shared→Prop) (s:Shared),Below (Ak n outer) base outer s.heap→Objs base outer s.heap objs →
    (∀ v h' tk,okV v→Keep [] s.heap h'→Q v { s with heap:=h',toks:=tk }) →
    (∀ e dd sp h' tk,flt sp→RelS (FrOf outer) s.heap h'→h'.FunFrames base outer→FlT s.heap h' e dd sp→E (.ref e) { s with heap:=h',toks:=tk }) →
    wpAny (model PySem.Challenge.rw_nz0031_01.row.prog w) (Ak n outer) (call (.ref f) vs) Q E s
noncomputable abbrev tupO (vs:List Value):Obj:={ cls:=.type "tuple",data:=.seq vs.toArray }
inductive Arg where
  | set (l:List Int)
  | arr
  | num
  | txt
deriving DecidableEq
noncomputable def Arg.isArr:Arg→Bool
  | .arr=>true
  | _=>false
noncomputable def Arg.isSet:Arg→Bool
  | .set _=>true
  | _=>false
noncomputable def ArgV (objs:List (Addr×Obj)) (R V:Addr) (vsV:List Value) (c:Nat) (v:Value):Arg→Prop
  | .set l=>∃ a vs,v=.ref a∧(a,tupO vs)∈objs∧IntsAre vs l∧l.length≤20
  | .arr=>∃ a,v=.ref a∧(a,tupO [.ref R,.ref V])∈objs∧(V,listOf vsV.toArray c)∈objs
  | .num=>∃ t,v=.int 3 t
  | .txt=>∃ t,v=.str (Str.ofString "a") t
noncomputable def intsFrom (a:Int):Nat→List Int
  | 0=>[]
  | n + 1=>a::intsFrom (a + 1) n
section
variable {prog:Program} {w:World} {A:Around} {E:Value→Shared→Prop} {env:Env}
noncomputable def CompErr (prog:Program) (w:World) (A:Around) (E:Value→Shared→Prop) (C:Addr) (e:Value) (s':Shared):Prop :=
  ∃ m,s'.heap.Ns C m∧∀ h',Heap.SameBut C s'.heap h'→∀ cenv:Env,cenv.locals=C→wpAny (model prog w) A (passOn "comprehension.variables-let-go" e cenv:Sem Value) (fun _ _=>False) E { s' with heap:=h' }
end
noncomputable def ArgsV (objs:List (Addr×Obj)) (R V:Addr) (vsV:List Value) (c:Nat) (vs:List Value) (xs:List Arg):Prop:=vs.length=xs.length∧∀ (i:Nat) (v:Value) (x:Arg),vs[i]?=some v→xs[i]?=some x→ArgV objs R V vsV c v x
noncomputable def SetsGo (w:World) (base:Heap) (outer:List Env) (env:Env) (L:Addr) (h0:Heap) (objs:List (Addr×Obj)) (R V:Addr) (vsV:List Value) (cV:Nat) (spot:Int) (cA:Addr) (Q E:Value→Shared→Prop) (xv:Value) (s₁:Shared):Prop :=
  ∃ T c vs xs g m news A₀,xv=.ref T∧Below A₀ base outer g∧Fr g L s₁.heap m∧News g L s₁.heap news∧(T,listOf (List.toArray vs) c)∈news∧ArgsV objs R V vsV cV vs xs∧vs.length≤20∧(∃ oc ts,(cA,oc)∈news∧oc.data=.cell (some (.int spot ts)))∧(∀ b o,h0.get? b=some o→s₁.heap.get? b=some o) ∧
  ((∀ x∈xs,x.isSet=true)→∀ D c' h' tk,Fr g L h' m→News g L h' ((D,listOf (List.toArray vs) c')::news)→(∀ p∈news,p.1 < D)→Q (.ref D) { s₁ with heap:=h',toks:=tk }) ∧
  ((∃ x∈xs,x.isSet=false)→∀ e dd h' tk,RelS (FrOf outer) h0 h'→h'.FunFrames base (env::outer)→FlT h0 h' e dd spot→h0.get? L=none→E (.ref e) { s₁ with heap:=h',toks:=tk })
noncomputable def OfH (w:World) (base:Heap) (n:Nat) (f:Addr) (vs:List Value) (objs:List (Addr×Obj)) (okV:Heap→Value→Heap→Prop) (flt:Int→Prop):Prop :=
  ∀ (outer:List Env) (Q E:Value→Shared→Prop) (s:Shared),Below (Ak n outer) base outer s.heap→Objs base outer s.heap objs →
    (∀ v h' tk,okV s.heap v h'→Keep [] s.heap h'→Q v { s with heap:=h',toks:=tk }) →
    (∀ e dd sp h' tk,flt sp→RelS (FrOf outer) s.heap h'→h'.FunFrames base outer→FlT s.heap h' e dd sp→E (.ref e) { s with heap:=h',toks:=tk }) →
    wpAny (model PySem.Challenge.rw_nz0031_01.row.prog w) (Ak n outer) (call (.ref f) vs) Q E s
noncomputable def loI (l:List Int):Int:=match l with|[]=>1|a::_=>a
noncomputable def hiI (l:List Int):Int:=match l.getLast? with|some b=>b|none=>0
noncomputable def okIdx (two:Bool) (xs:List Arg) (nv:Nat):Option (List (Int×Int)) :=
  match xs with
  | [.set l,.arr]=>if two=false∧hiI l - loI l + 1=l.length∧l.length=nv then some [(loI l,hiI l)] else none
  | [.set l,.set l',.arr]=>if two=true∧hiI l - loI l + 1=l.length∧hiI l' - loI l' + 1=l'.length∧l.length * l'.length=nv then some [(loI l,hiI l),(loI l',hiI l')] else none
  | _=>none
noncomputable def PairsAt (h h':Heap):List Value→List (Int×Int)→Prop
  | [],[]=>True
  | r::refs,p::rs=>(∃ a t u,r=.ref a∧@LE.le Nat _ h.objs.size a∧h'.get? a=some (tupO [.int p.1 t,.int p.2 u]))∧PairsAt h h' refs rs
  | _,_=>False
noncomputable def ArrNew (h:Heap) (v:Value) (h':Heap) (V:Addr) (rs:List (Int×Int)):Prop :=
  ∃ A P refs,v=.ref A∧@LE.le Nat _ h.objs.size A∧@LE.le Nat _ h.objs.size P∧h'.get? A=some (tupO [.ref P,.ref V])∧h'.get? P=some (tupO refs)∧PairsAt h h' refs rs
noncomputable def OfHAt (w:World) (base:Heap) (n:Nat) (f:Addr) (vs:List Value) (objs:List (Addr×Obj)) (okV:Heap→Value→Heap→Prop) (flt:Int→Prop) (outer:List Env) (Q E:Value→Shared→Prop) (s:Shared):Prop :=
  Below (Ak n outer) base outer s.heap→Objs base outer s.heap objs →
    (∀ v h' tk,okV s.heap v h'→Keep [] s.heap h'→Q v { s with heap:=h',toks:=tk }) →
    (∀ e dd sp h' tk,flt sp→RelS (FrOf outer) s.heap h'→h'.FunFrames base outer→FlT s.heap h' e dd sp→E (.ref e) { s with heap:=h',toks:=tk }) →
    wpAny (model PySem.Challenge.rw_nz0031_01.row.prog w) (Ak n outer) (call (.ref f) vs) Q E s
noncomputable def OfSAt (w:World) (base:Heap) (n:Nat) (f:Addr) (vs:List Value) (objs:List (Addr×Obj)) (okV:Value→Prop) (flt:Int→Prop) (outer:List Env) (Q E:Value→Shared→Prop) (s:Shared):Prop :=
  Below (Ak n outer) base outer s.heap→Objs base outer s.heap objs →
    (∀ v h' tk,okV v→Keep [] s.heap h'→Q v { s with heap:=h',toks:=tk }) →
    (∀ e dd sp h' tk,flt sp→RelS (FrOf outer) s.heap h'→h'.FunFrames base outer→FlT s.heap h' e dd sp→E (.ref e) { s with heap:=h',toks:=tk }) →
    wpAny (model PySem.Challenge.rw_nz0031_01.row.prog w) (Ak n outer) (call (.ref f) vs) Q E s
noncomputable def DrawSAt (w:World) (n:Nat) (f:Addr) (mk:Addr→List Value) (c:Nat) (P:Heap→Value→Heap→Prop) (outer:List Env) (base:Heap) (s:Shared) (Q E:Value→Shared→Prop) (fd D:Addr) (o:Obj) (k:Int):Prop :=
  Wd w base→Below (Ak n outer) base outer s.heap→s.heap.get? fd=some o→FeedO w o D k→base.get? fd=none→fd∉outer.filterMap (·.frame)→(fd == sysModules)=false→CellsAt s.heap D→0≤k→k + c≤100000 →
    (∀ v h' tk o' k',P s.heap v h'→Keep [fd] s.heap h'→h'.get? fd=some o'→FeedO w o' D k'→k≤k'→k'≤k + c→Q v { s with heap:=h',toks:=tk }) →
    wpAny (model PySem.Challenge.rw_nz0031_01.row.prog w) (Ak n outer) (call (.ref f) (mk fd)) Q E s
noncomputable def scOf (w:World) (f:Addr):Option Scope :=
  match (Kt w.params).lookup f with
  | some o=>match o.data with
    | .func fd=>some fd.scope
    | _=>none
  | none=>none
noncomputable def OneIs (m:Str→Option Value) (a:Addr):Prop:=m (Str.ofString "one")=some (.ref a)
noncomputable def TupNew (l:List Int) (h:Heap) (v:Value) (h':Heap):Prop:=∃ D vs,v=.ref D∧@LE.le Nat _ h.objs.size D∧h'.get? D=some (tupO vs)∧IntsAre vs l
noncomputable abbrev sdO (w:World) (dct:Addr) (ts:Tok):Obj:=dictOf [⟨PyData.keyHash w.params (Str.ofString "scope"),.str (Str.ofString "scope") ts,.ref dct⟩] 1
noncomputable def EltDone (r:Value) (h₃:Heap) (s₁:Shared) (y:Value) (s₄:Shared):Prop:=y=r∧∃ h₄ tk₄,s₄={ s₁ with heap:=h₄,toks:=tk₄ }∧Keep [] h₃ h₄
noncomputable def MapGo (w:World) (base:Heap) (A:Around) (env:Env) (L:Addr) (x:Str) (elt:PySem.Expr) (scope:Scope) (cl:List (Str×Addr)) (Q:Value→Shared→Prop) (xv:Value) (s₁:Shared):Prop :=
  ∃ T c items rs g m news,xv=.ref T∧Fr g L s₁.heap m∧News g L s₁.heap news∧(T,listOf (List.toArray items) c)∈news∧items.length≤20∧rs.length=items.length ∧
  (∀ (i:Nat) v r h₃ tk m₃ C,items[i]?=some v→rs[i]?=some r→Fr g L h₃ m→News g L h₃ news→(∀ b o,s₁.heap.get? b=some o→h₃.get? b=some o)→h₃.Ns C m₃→m₃ x=some v →
    wpAny (model PySem.Challenge.rw_nz0031_01.row.prog w) A (eval elt (compEnvC scope cl C env)) (EltDone r h₃ s₁) (fun _ _=>False) { s₁ with heap:=h₃,toks:=tk }) ∧
  (∀ D c' h' tk,Fr g L h' m→News g L h' ((D,listOf (List.toArray rs) c')::news)→(∀ p∈news,p.1 < D)→@LT.lt Nat _ L D→Q (.ref D) { s₁ with heap:=h',toks:=tk })
noncomputable def LstNew (rs:List Value) (h:Heap) (v:Value) (h':Heap):Prop:=∃ D c,v=.ref D∧@LE.le Nat _ h.objs.size D∧h'.get? D=some (listOf (List.toArray rs) c)
noncomputable def NodesV (w:World) (base:Heap) (objs:List (Addr×Obj)) (self:Addr) (items rs:List Value):Prop:=∀ (i:Nat) v r,items[i]?=some v→rs[i]?=some r→∃ node,v=.ref node∧OfS w base 26 282 [.ref self,.ref node] objs (fun v=>v=r) (fun _=>False)
structure NextS (prog:Program) (w:World) (i:Addr) (fp:List Addr) (val:Nat→Option Value) (At:Nat→Heap→Prop):Prop where
  mem:i∈fp
  live:∀ k h,At k h→∃ o,h.get? i=some o
  frame:∀ k h h',At k h→(∀ b∈fp,∀ o,h.get? b=some o→h'.get? b=some o)→At k h'
  item:∀ (A:Around) k x (s:Shared) (Q E:Value→Shared→Prop),val k=some x→At k s.heap→(∀ h',At (k + 1) h'→Heap.SameBut i s.heap h'→Q x { s with heap:=h' })→wpAny (model prog w) A (Builtin.SmallTypes.nextOf (.ref i)) Q E s
  done:∀ (A:Around) k (s:Shared) (Q E:Value→Shared→Prop),A.handled=none→val k=none→At k s.heap→(∀ h' e,Heap.ExtBut i s.heap h'→(∃ o,h'.get? e=some o∧o.cls=.type "StopIteration")→E (.ref e) { s with heap:=h' })→wpAny (model prog w) A (Builtin.SmallTypes.nextOf (.ref i)) Q E s
structure Apart (z TI TO i1 i2:Addr) (fp1 fp2:List Addr):Prop where
  z1:z∉fp1
  z2:z∉fp2
  o1:TO∉fp1
  o2:TO∉fp2
  i12:i1∉fp2
  i21:i2∉fp1
  TIz:TI≠z
  TOz:TO≠z
  TITO:TI≠TO
  TI1:TI≠i1
  TI2:TI≠i2
section
variable {prog:Program} {w:World} {A:Around} {E:Value→Shared→Prop} {s:Shared} {z TI TO i1 i2:Addr} {fp1 fp2:List Addr} {v1 v2:Nat→Option Value} {At1 At2:Nat→Heap→Prop}
structure ZipAt (z TI TO i1 i2:Addr) (At1 At2:Nat→Heap→Prop) (f0:Value) (k1 k2:Nat) (a b:Value) (h:Heap):Prop where
  z:IsZip h z TI TO f0
  TI:IsPair h TI (.ref i1) (.ref i2)
  TO:IsPair h TO a b
  a1:At1 k1 h
  a2:At2 k2 h
end
noncomputable abbrev zt1 (h:Heap) (t:Addr):Heap:=h.push { cls:=.type "tuple_iterator",data:=.fields #[.ref t,.int 0 0] }
noncomputable abbrev zt2 (h:Heap) (t l:Addr):Heap:=(zt1 h t).push { cls:=.type "list_iterator",data:=.fields #[.ref l,.int 0 0] }
noncomputable abbrev zt3 (h:Heap) (t l:Addr):Heap:=(zt2 h t l).push { cls:=.type "tuple",data:=.seq #[.ref h.objs.size,.ref (zt1 h t).objs.size] }
noncomputable abbrev zt4 (h:Heap) (t l:Addr):Heap:=(zt3 h t l).push { cls:=.type "tuple",data:=.seq #[.none,.none] }
noncomputable abbrev zt5 (h:Heap) (t l:Addr):Heap:=(zt4 h t l).push { cls:=.type "zip",data:=.fields #[.none,.bool false,.bool false,.ref (zt2 h t l).objs.size,.ref (zt3 h t l).objs.size] }
noncomputable abbrev zO (TI TO:Addr):Obj:={ cls:=.type "zip",dict:=none,data:=.fields #[.none,.bool false,.bool false,.ref TI,.ref TO],slots:=#[] }
noncomputable abbrev zipFive (z TI TO i1 i2:Addr) (x y:Value) (o1 o2:Obj) (rest:List (Addr×Obj)):List (Addr×Obj):=(z,zO TI TO)::(TI,tupO [.ref i1,.ref i2])::(TO,tupO [x,y])::(i1,o1)::(i2,o2)::rest
noncomputable def ZipTurn (g:Heap) (L:Addr) (s:Shared) (keep:List (Addr×Obj)) (MI:(Str→Option Value)→Prop) (f:Flow) (s₃:Shared):Prop :=
  f=.next∧∃ h' tk' m',s₃={ s with heap:=h',toks:=tk' }∧Fr g L h' m'∧MI m'∧∀ p∈keep,h'.get? p.1=some p.2
structure ElM (V:Addr) (t1:Tok) (pl:Int) (m:Str→Option Value):Prop where
  some:m (Str.ofString "some")=.some (.ref V)
  spot:m (Str.ofString "spot")=.some (.int 5 t1)
  place:∃ t,m (Str.ofString "place")=.some (.int pl t)
noncomputable def inR (lo hi x:Int):Prop:=lo≤x∧x≤hi
noncomputable def pl2 (lo lo1 hi1 x y:Int):Int:=(x - lo) * (hi1 - lo1 + 1) + (y - lo1)
noncomputable def SetL (l:List Int):Prop:=∃ a:Int,-3≤a∧a≤3∧(l=[]∨l=[a]∨∃ g:Int,1≤g∧g≤3∧(l=[a,a + g]∨l=[a,a + 1,a + 1 + g]))
noncomputable def PSet:Heap→Value→Heap→Prop:=fun h v h'=>∃ D vs l,v=.ref D∧@LE.le Nat _ h.objs.size D∧h'.get? D=some (tupO vs)∧IntsAre vs l∧SetL l
noncomputable def FeedTurn (w:World) (fd D:Addr) (c:Nat) (PF:Heap→Value→Heap→Prop) (h₃:Heap) (k₃:Int) (s₁:Shared) (y:Value) (s₄:Shared):Prop :=
  ∃ h₄ tk₄ o₄ k₄,s₄={ s₁ with heap:=h₄,toks:=tk₄ }∧Keep [fd] h₃ h₄∧h₄.get? fd=some o₄∧FeedO w o₄ D k₄∧k₃≤k₄∧k₄≤k₃ + c∧PF h₃ y h₄
noncomputable def FeedGo (w:World) (A:Around) (env:Env) (L:Addr) (x:Str) (elt:PySem.Expr) (scope:Scope) (cl:List (Str×Addr)) (c:Nat) (PF:Heap→Value→Heap→Prop) (Q:Value→Shared→Prop) (xv:Value) (s₁:Shared):Prop :=
  ∃ R a b t u v g m news fd D o k G,xv=.ref R∧IsRange s₁.heap R a b 1 t u v∧(fd == sysModules)=false∧(-1000≤a∧a≤1000)∧(-1000≤b∧b≤1000)∧b - a≤100∧Fr g L s₁.heap m∧News g L s₁.heap news∧UpdF fd o news G∧FeedO w o D k ∧
  (∀ (i:Nat) t₃ h₃ tk m₃ C o₃ k₃,(i:Int) < b - a→Fr g L h₃ m→News g L h₃ (G o₃)→FeedO w o₃ D k₃→k≤k₃→k₃≤k + ((c * i:Nat):Int)→(∀ b o,b≠fd→s₁.heap.get? b=some o→h₃.get? b=some o)→h₃.Ns C m₃→m₃ x=some (.int (a + i) t₃) →
    wpAny (model PySem.Challenge.rw_nz0031_01.row.prog w) A (eval elt (compEnvC scope cl C env)) (FeedTurn w fd D c PF h₃ k₃ s₁) (fun _ _=>False) { s₁ with heap:=h₃,toks:=tk }) ∧
  (∀ D' c' ys h' tk o' k',Fr g L h' m→News g L h' ((D',listOf (List.toArray ys) c')::G o')→(∀ p∈news,p.1 < D')→@LT.lt Nat _ L D'→FeedO w o' D k'→k≤k'→k'≤k + ((c * (b - a).toNat:Nat):Int)→ys.length=(b - a).toNat→(∀ y∈ys,∃ hb:Heap,@LE.le Nat _ (D' + 2) hb.objs.size∧PF hb y h')→Q (.ref D') { s₁ with heap:=h',toks:=tk })
noncomputable def FeedGoU (w:World) (A:Around) (env:Env) (L:Addr) (x:Str) (elt:PySem.Expr) (scope:Scope) (cl:List (Str×Addr)) (c:Nat) (PF:Heap→Value→Heap→Prop) (y:Str) (Q:Flow→Shared→Prop) (xv:Value) (s₁:Shared):Prop :=
  ∃ R a b t u v g m news fd D o k G,xv=.ref R∧IsRange s₁.heap R a b 1 t u v∧(fd == sysModules)=false∧(-1000≤a∧a≤1000)∧(-1000≤b∧b≤1000)∧b - a≤100∧Fr g L s₁.heap m∧News g L s₁.heap news∧UpdF fd o news G∧FeedO w o D k ∧
  (∀ (i:Nat) t₃ h₃ tk m₃ C o₃ k₃,(i:Int) < b - a→Fr g L h₃ m→News g L h₃ (G o₃)→FeedO w o₃ D k₃→k≤k₃→k₃≤k + ((c * i:Nat):Int)→(∀ b o,b≠fd→s₁.heap.get? b=some o→h₃.get? b=some o)→h₃.Ns C m₃→m₃ x=some (.int (a + i) t₃) →
    wpAny (model PySem.Challenge.rw_nz0031_01.row.prog w) A (eval elt (compEnvC scope cl C env)) (FeedTurn w fd D c PF h₃ k₃ s₁) (fun _ _=>False) { s₁ with heap:=h₃,toks:=tk }) ∧
  (∀ D' c' ys h' tk o' k',Fr g L h' (fun z=>if z=y then some (.ref D') else m z)→News g L h' ((D',listOf (List.toArray ys) c')::G o')→(∀ p∈news,p.1 < D')→@LT.lt Nat _ L D'→FeedO w o' D k'→k≤k'→k'≤k + ((c * (b - a).toNat:Nat):Int)→ys.length=(b - a).toNat→(∀ y∈ys,∃ hb:Heap,@LE.le Nat _ (D' + 2) hb.objs.size∧PF hb y h')→Q .next { s₁ with heap:=h',toks:=tk })
noncomputable def TestDone (b:Bool) (h₃:Heap) (s₁:Shared) (ok:Bool) (s₄:Shared):Prop:=ok=b∧∃ h₄ tk₄,s₄={ s₁ with heap:=h₄,toks:=tk₄ }∧Keep [] h₃ h₄
noncomputable def FiltGo (w:World) (A:Around) (env:Env) (L:Addr) (x:Str) (tst:PySem.Expr) (scope:Scope) (cl:List (Str×Addr)) (p:Int→Bool) (Q:Value→Shared→Prop) (xv:Value) (s₁:Shared):Prop :=
  ∃ R a b t u v g m news,xv=.ref R∧IsRange s₁.heap R a b 1 t u v∧(-1000≤a∧a≤1000)∧(-1000≤b∧b≤1000)∧b - a≤100∧Fr g L s₁.heap m∧News g L s₁.heap news ∧
  (∀ (k:Int) t₃ h₃ tk m₃ C,a≤k→k < b→Fr g L h₃ m→News g L h₃ news→h₃.Ns C m₃→m₃ x=some (.int k t₃) →
    wpAny (model PySem.Challenge.rw_nz0031_01.row.prog w) A (isTrue tst (compEnvC scope cl C env) (eval tst (compEnvC scope cl C env))) (TestDone (p k) h₃ s₁) (fun _ _=>False) { s₁ with heap:=h₃,toks:=tk }) ∧
  (∀ D c' ys h' tk,Fr g L h' m→News g L h' ((D,listOf (List.toArray ys) c')::news)→(∀ p∈news,p.1 < D)→@LT.lt Nat _ L D→IntsAre ys ((intsFrom a (b - a).toNat).filter p)→Q (.ref D) { s₁ with heap:=h',toks:=tk })
noncomputable def forBody:Stmt→Option (List Stmt)
  | .For _ _ body _ _=>some body
  | _=>none
noncomputable def ifTest:Stmt→Option PySem.Expr
  | .If t _ _ _=>some t
  | _=>none
noncomputable def bodyOf (w:World) (f:Addr):Option (List Stmt) :=
  match (Kt w.params).lookup f with
  | some o=>match o.data with
    | .func fd=>match fd.body with
      | .stmts b=>some b
      | _=>none
    | _=>none
  | none=>none
noncomputable def gapE (w:World):Option PySem.Expr:=(((bodyOf w 434).bind fun b=>(b[2]?).bind forBody).bind fun b=>b[1]?).bind ifTest
noncomputable def gapAt (l:List Int) (k:Int):Bool :=
  match l[k.toNat]?,l[(k - 1).toNat]? with
  | some x,some y=>x != y + 1
  | _,_=>false
noncomputable def gapB (l:List Int):Bool:=!decide ((intsFrom 1 ((l.length:Int) - 1).toNat).filter (gapAt l)=[])
noncomputable def lohiE (w:World):Option PySem.Expr:=match (((bodyOf w 434).bind fun b=>(b[2]?).bind forBody).bind fun b=>b[2]?) with
  | some (Stmt.Expr (PySem.Expr.Call _ (e::_) _ _) _)=>some e
  | _=>none
noncomputable def DueV (two:Bool) (xs:List Arg) (nv:Nat) (V:Addr):Heap→Value→Heap→Prop:=fun h v h'=>(okIdx two xs nv=none∧v=.none)∨∃ rs,okIdx two xs nv=some rs∧ArrNew h v h' V rs
noncomputable def SetsL (xs:List Arg):Prop:=∀ l,Arg.set l∈xs→SetL l
noncomputable def PNum:Heap→Value→Heap→Prop:=fun _ v _=>∃ i t,v=Value.int i t
noncomputable abbrev args5 (S:Addr) (vs:List Value) (cS:Nat) (V:Addr) (vsV:List Value) (cV:Nat) (A R D0 D1:Addr) (vs0 vs1:List Value):List (Addr×Obj):=[(S,listOf (List.toArray vs) cS),(V,listOf (List.toArray vsV) cV),(A,tupO [.ref R,.ref V]),(D0,tupO vs0),(D1,tupO vs1)]
noncomputable def BudP (k0 k:Int) (ns:List Int):Prop:=0≤k0∧k0 + (30:Nat)≤100000∧k0≤k∧k≤k0 + 20∧ns.length≤10
noncomputable def PArgs:Heap→Value→Heap→Prop:=fun h v h' =>
  ∃ S cS vs xs R V cV vsV nsV A D0 D1 vs0 vs1,v=.ref S∧(∀ p∈args5 S vs cS V vsV cV A R D0 D1 vs0 vs1,@LE.le Nat _ h.objs.size p.1∧h'.get? p.1=some p.2)∧ArgsV (args5 S vs cS V vsV cV A R D0 D1 vs0 vs1) R V vsV cV vs xs∧0 < vs.length∧vs.length≤4∧IntsAre vsV nsV∧nsV.length≤10∧SetsL xs
inductive ArgsW (A D0 D1:Addr) (l0 l1:List Int):List Value→List Arg→Prop
  | nil:ArgsW A D0 D1 l0 l1 [] []
  | a {vs xs}:ArgsW A D0 D1 l0 l1 vs xs→ArgsW A D0 D1 l0 l1 (.ref A::vs) (.arr::xs)
  | s0 {vs xs}:ArgsW A D0 D1 l0 l1 vs xs→ArgsW A D0 D1 l0 l1 (.ref D0::vs) (.set l0::xs)
  | s1 {vs xs}:ArgsW A D0 D1 l0 l1 vs xs→ArgsW A D0 D1 l0 l1 (.ref D1::vs) (.set l1::xs)
  | n {vs xs} (t:Tok):ArgsW A D0 D1 l0 l1 vs xs→ArgsW A D0 D1 l0 l1 (.int 3 t::vs) (.num::xs)
  | x {vs xs} (t:Tok):ArgsW A D0 D1 l0 l1 vs xs→ArgsW A D0 D1 l0 l1 (.str (Str.ofString "a") t::vs) (.txt::xs)
noncomputable def AllNeN (d:Nat):List (Addr×Obj)→Prop
  | []=>True
  | p::r=>@Ne Nat p.1 d∧AllNeN d r
noncomputable def RaiseAtH (w:World) (A:Around) (base:Heap) (outer:List Env) (h0:Heap) (t:Sem Value) (okV:Value→Heap→Prop) (flt:Int→Prop):Prop :=
  ∀ (Q E:Value→Shared→Prop) (s:Shared),Keep [] h0 s.heap→@LE.le Nat _ h0.objs.size s.heap.objs.size→Below A base outer s.heap →
    (∀ v h' tk,okV v h'→Keep [] s.heap h'→Q v { s with heap:=h',toks:=tk }) →
    (∀ e dd sp h' tk,flt sp→RelS (FrOf outer) s.heap h'→s.heap.UpToSlots h'→h'.FunFrames base outer→FlT s.heap h' e dd sp→E (.ref e) { s with heap:=h',toks:=tk }) →
    wpAny (model PySem.Challenge.rw_nz0031_01.row.prog w) A t Q E s
noncomputable def lamC:Stmt→Option (Arguments×PySem.Expr×Scope)
  | .Return (some (.Call _ (.Lambda p b s _::_) _ _)) _=>some (p,b,s)
  | _=>none
noncomputable def lamAt (w:World):Option (Arguments×PySem.Expr×Scope):=(bodyOf w 451).bind fun b=>b.getLast?.bind lamC
noncomputable def NodeAt (lo:Nat) (h:Heap) (v y:Value):Prop:=∃ n a b,y=.ref n∧@LE.le Nat _ lo n∧h.get? n=some (tupO [.str (Str.ofString "int") a,.int 6 b,v])
noncomputable def NodesGo (w:World) (L:Addr) (Q:Value→Shared→Prop) (xv:Value) (s₁:Shared):Prop :=
  ∃ T c items g m news,xv=.ref T∧Fr g L s₁.heap m∧News g L s₁.heap news∧(T,listOf (List.toArray items) c)∈news∧items.length≤20 ∧
  (∀ D c' ys h' tk,Fr g L h' m→News g L h' ((D,listOf (List.toArray ys) c')::news)→(∀ p∈news,p.1 < D)→@LT.lt Nat _ L D→ys.length=items.length→(∀ (j:Nat) v,items[j]?=some v→∃ y,ys[j]?=some y∧NodeAt (D + 2) h' v y)→Q (.ref D) { s₁ with heap:=h',toks:=tk })
noncomputable def TabL (ln co:Int) (q:Str) (h:Heap) (ps:Array Value):Prop:=ps=#[]∨∃ c',ps=#[rawInt ln,rawInt co,.ref c']∧h.CodeRec (.ref c') q
noncomputable def TabS (ln co:Int) (q:Str) (h:Heap) (ps:Array Value) (h':Heap) (ps':Array Value):Prop:=∃ c',ps'=#[rawInt ln,rawInt co,.ref c']∧h'.CodeRec (.ref c') q∧(ps=#[]∧@LE.le Nat _ h.objs.size c'∨ps'=ps)
noncomputable abbrev qualA:Str:=Str.ofString "_law_at"++".<locals>."++"<lambda>"
noncomputable abbrev idxO (w:World) (objs ks:List (Addr×Obj)) (self sd dct nodes nName node:Addr) (tsd t0 t1 u0 u1 u2:Tok):List (Addr×Obj):=(node,tupO [.str (Str.ofString "index") t0,.int 5 t1,.ref nName,.ref nodes])::(nName,tupO [.str (Str.ofString "name") u0,.int 2 u1,.str (Str.ofString "a") u2])::(self,instObj 356 sd)::(sd,sdO w dct tsd)::(ks++objs)
noncomputable def AtPost (w:World) (outer:List Env) (s:Shared) (tp:Array Value) (okV:Value→Prop) (flt:Int→Prop) (Q:Value→Shared→Prop):Prop :=
  ∀ v h' tk tp',(okV v∨∃ sp tu,flt sp∧v=.ref tu∧s.heap.get? tu=none∧FaultT h' tu sp)→RelS (FrOf outer) (hideAll s.heap [448]) h'→h'.get? 448=some (tabObj tp')→TabS 476 22 qualA s.heap tp h' tp'→Q v { s with heap:=h',toks:=tk }
section
variable {prog:Program} {w:World} {A:Around} {s:Shared} {R:Result→Shared→Prop} {target:PySem.Expr} {body:List Stmt} {env:Env}
noncomputable def TurnEnd (prog:Program) (w:World) (A:Around) (target:PySem.Expr) (it:Value) (body:List Stmt) (env:Env) (R:Result→Shared→Prop) (f:Flow) (s₃:Shared):Prop :=
  match f with
  | .next=>codeAny (model prog w) A (.forLoop target it body [] env) R s₃
  | .cont=>codeAny (model prog w) A (.forLoop target it body [] env) R s₃
  | .brk=>R (.ok .next) s₃
  | .ret v=>R (.ok (.ret v)) s₃
end
noncomputable def TupIt (o:Obj) (T:Addr) (i:Nat):Prop:=o.cls=.type "tuple_iterator"∧o.data=.fields #[.ref T,.int i 0]
noncomputable def lamIfC:Stmt→Option (Arguments×PySem.Expr×Scope)
  | .If (.Compare (.Call _ (.Lambda p b s _::_) _ _) _ _ _) _ _ _=>some (p,b,s)
  | _=>none
noncomputable def lamTold (w:World):Option (Arguments×PySem.Expr×Scope):=(((bodyOf w 446).bind fun b=>(b[1]?).bind forBody).bind fun b=>b[1]?).bind lamIfC
noncomputable def lamDue:Stmt→Option (Arguments×PySem.Expr×Scope)
  | .Assign _ (.Tuple (_::.Call _ (.Lambda p b s _::_) _ _::_) _ _) _=>some (p,b,s)
  | _=>none
noncomputable def lamLawE (w:World):Option (Arguments×PySem.Expr×Scope):=(((bodyOf w 465).bind fun b=>(b[1]?).bind forBody).bind fun b=>b[2]?).bind lamDue
noncomputable def Mono (okV:Heap→Value→Heap→Prop):Prop:=∀ (h1 h2:Heap) v h',@LE.le Nat _ h1.objs.size h2.objs.size→okV h2 v h'→okV h1 v h'
noncomputable abbrev qualT:Str:=Str.ofString "_law_sets_told"++".<locals>."++"<lambda>"
section
variable {w:World} {A A₀:Around} {env:Env} {outer:List Env} {base g:Heap} {s:Shared} {Q E:Value→Shared→Prop} {L:Addr} {m:Str→Option Value} {news objs:List (Addr×Obj)} {c:Addr} {fdt:FuncData} {clv:Value} {dct:Option Addr} {sl:Array (Option Value)}
structure Gnd (w:World) (base g g':Heap) (outer:List Env):Prop where
  X:(Kt w.params).In g'
  T:∃ p loose mean mg mb,Top p loose mean mg mb g'
  H:∀ c P,CodeHd base c P→CodeHd g' c P
  C:∀ v q,g.CodeRec v q→g'.CodeRec v q
  O:∀ os,Objs base outer g os→Objs base outer g' os
end
noncomputable abbrev KeptBut (It L:Addr) (g h:Heap) (news:List (Addr×Obj)):Prop:=∀ p∈news,p.1≠It→h.get? p.1=some p.2∧p.1≠L∧g.get? p.1=none
noncomputable def AtC (w:World) (base:Heap) (objs:List (Addr×Obj)) (self pl:Addr) (okV:Value→Prop) (flt:Int→Prop):Prop :=
  ∀ (outer:List Env) (s:Shared) (Q E:Value→Shared→Prop) (tp:Array Value),Below (Ak 70 outer) base outer s.heap→Objs base outer s.heap objs →
    s.heap.get? 448=some (tabObj tp)→TabL 476 22 qualA s.heap tp→base.get? 448=none→448∉outer.filterMap (·.frame)→AtPost w outer s tp okV flt Q →
    wpAny (model PySem.Challenge.rw_nz0031_01.row.prog w) (Ak 70 outer) (call (.ref 451) [.ref self,.ref pl]) Q E s
structure RdO (w:World) (objs:List (Addr×Obj)) (rd sd dct A R V:Addr) (oD:Obj) (tsd:Tok) (vsV:List Value) (cV:Nat):Prop where
  ms:(rd,instObj 356 sd)∈objs
  md:(sd,sdO w dct tsd)∈objs
  mD:(dct,oD)∈objs
  hD:Obj.IsDictOf (strKind PySem.Challenge.rw_nz0031_01.row.prog w) oD [(Str.ofString "a",Value.ref A)]
  hS:(dct == sysModules)=false
  mA:(A,tupO [.ref R,.ref V])∈objs
  mV:(V,listOf (List.toArray vsV) cV)∈objs
  hV:vsV.length≤20
  no:∀ p∈objs,p.1≠448
noncomputable def RecO (oc:Obj) (q:Str):Prop:=∃ vs t,oc.data=.fields vs∧vs[1]?=some (.str q t)
noncomputable def TabD (ln co:Int) (q:Str) (g:Heap) (c0:Addr) (o0:Obj) (tp:Array Value):Prop:=∃ c',tp=#[rawInt ln,rawInt co,.ref c']∧(g.CodeRec (.ref c') q∨(c0=c'∧RecO o0 q))
noncomputable def TabN (L:Nat) (tp0 tp:Array Value):Prop:=tp=tp0∨(tp0=#[]∧∃ (c':Addr) (a b:Value),tp=#[a,b,.ref c']∧@LE.le Nat _ L c')
noncomputable abbrev itR (x left:Int):Obj:={ cls:=.type "range_iterator",dict:=none,data:=.fields #[rawInt x,rawInt left,rawInt 1],slots:=#[] }
noncomputable def elBody (w:World):Option (List Stmt×Scope):=((bodyOf w 458).bind fun b=>(b[1]?).bind forBody).bind fun b=>(scOf w 458).map fun sc=>(b,sc)
noncomputable def EM (m:Str→Option Value) (A S self R:Addr) (k:Int):Prop:=m (Str.ofString "array")=some (.ref A)∧m (Str.ofString "some")=some (.ref S)∧m (Str.ofString "reader")=some (.ref self)∧m (Str.ofString "ranges")=some (.ref R)∧∃ t,m (Str.ofString "spot")=some (.int k t)
noncomputable abbrev elNews (w:World) (tp:Array Value) (S V self sd dct:Addr) (oD:Obj) (tsd:Tok) (lS vsV:List Value) (cS cV:Nat):List (Addr×Obj):=[(448,tabObj tp),(self,instObj 356 sd),(sd,sdO w dct tsd),(dct,oD),(S,listOf (List.toArray lS) cS),(V,listOf (List.toArray vsV) cV)]
noncomputable def ElJ (w:World) (base:Heap) (outer:List Env) (s0:Shared) (g0:Heap) (L A R V S self sd dct:Addr) (oD:Obj) (tsd:Tok) (lS vsV:List Value) (cS cV:Nat) (objs:List (Addr×Obj)) (its:List (Addr×Obj)) (tp0:Array Value) (ads:List Nat) (P:(Str→Option Value)→Prop) (k:Int) (s:Shared):Prop :=
  ∃ g h tk m tp c0 o0,s={ s0 with heap:=h,toks:=tk }∧Below (Ak 74 outer) base outer g∧RelS (FrOf outer) g0 g∧Fr g L h m∧EM m A S self R k∧P m ∧
    News g L h (its++((c0,o0)::elNews w tp S V self sd dct oD tsd lS vsV cS cV))∧(tp=#[]∨TabD 476 22 qualA g c0 o0 tp)∧@Ne Nat c0 448∧(∀ q∈ads,@Ne Nat c0 q)∧TabN L tp0 tp∧Objs base outer g objs
noncomputable def AdsAre (_:List Nat):Prop:=True
noncomputable def ElA (L S V self sd dct:Addr):Prop:=@LT.lt Nat _ 448 L∧@LT.lt Nat _ S L∧@LT.lt Nat _ V L∧@Ne Nat S 448∧@Ne Nat V 448∧@LT.lt Nat _ 448 self∧@LT.lt Nat _ 448 sd∧@LT.lt Nat _ 448 dct
structure ElF (w:World) (base:Heap) (objs:List (Addr×Obj)) (A R V S rd sd dct L:Addr) (oD:Obj) (vsV:List Value) (nsV:List Int):Prop where
  W:Wd w base
  mA:(A,tupO [.ref R,.ref V])∈objs
  hD:Obj.IsDictOf (strKind PySem.Challenge.rw_nz0031_01.row.prog w) oD [(Str.ofString "a",Value.ref A)]
  hS:(dct == sysModules)=false
  hV:vsV.length≤20
  hI:IntsAre vsV nsV
  no:∀ p∈objs,p.1≠448
  ap:ElA L S V rd sd dct
section
variable {w:World} {base:Heap} {objs:List (Addr×Obj)} {A R V S self sd dct L:Addr} {oD:Obj} {tsd:Tok} {vsV:List Value} {nsV:List Int} {cV:Nat}
noncomputable abbrev elO (w:World) (pl:Addr) (op:Obj) (self sd dct V:Addr) (oD:Obj) (tsd:Tok) (vsV:List Value) (cV:Nat) (objs:List (Addr×Obj)):List (Addr×Obj):=[(pl,op),(self,instObj 356 sd),(sd,sdO w dct tsd),(dct,oD),(V,listOf (List.toArray vsV) cV)]++objs
end
structure El1K (w:World) (base:Heap) (objs:List (Addr×Obj)) (A R V S rd sd dct L P0 a0:Addr) (oD:Obj) (vsV vs0:List Value) (nsV:List Int) (lo hi:Int) (u0 u1:Tok):Prop where
  C:ElF w base objs A R V S rd sd dct L oD vsV nsV
  mR:(R,tupO [.ref P0])∈objs
  m0:(P0,tupO [.int lo u0,.int hi u1])∈objs
  ma:(a0,tupO vs0)∈objs
  i0:IntsAre vs0 (intsFrom lo (hi + 1 - lo).toNat)
  hV2:(vsV.length:Int)=hi - lo + 1
  b0:-30≤lo∧lo≤30
  b1:-30≤hi∧hi≤30
noncomputable def Sp1 (n i:Nat):Int:=((min (i - 1) n:Nat):Int)
noncomputable def TabQ (ln co:Int) (q:Str) (h:Heap) (tp:Array Value) (h':Heap) (tp':Array Value):Prop:=tp'=tp∨(tp=#[]∧∃ c',tp'=#[rawInt ln,rawInt co,.ref c']∧h'.CodeRec (.ref c') q∧@LE.le Nat _ h.objs.size c')
noncomputable abbrev envE (sc:Scope) (L:Addr):Env:=envOf (Str.ofString "_law_elements_right") sc L 458 (.ref 457)
structure El2K (w:World) (base:Heap) (objs:List (Addr×Obj)) (A R V S rd sd dct L P0 P1 a0 a1:Addr) (oD:Obj) (vsV vs0 vs1:List Value) (nsV:List Int) (lo hi lo1 hi1:Int) (u0 u1 u2 u3:Tok):Prop where
  C:ElF w base objs A R V S rd sd dct L oD vsV nsV
  mR:(R,tupO [.ref P0,.ref P1])∈objs
  m0:(P0,tupO [.int lo u0,.int hi u1])∈objs
  m1:(P1,tupO [.int lo1 u2,.int hi1 u3])∈objs
  ma:(a0,tupO vs0)∈objs
  mb:(a1,tupO vs1)∈objs
  i0:IntsAre vs0 (intsFrom lo (hi + 1 - lo).toNat)
  i1:IntsAre vs1 (intsFrom lo1 (hi1 + 1 - lo1).toNat)
  hV2:(vsV.length:Int)=(hi - lo + 1) * (hi1 - lo1 + 1)
  b0:-30≤lo∧lo≤30
  b1:-30≤hi∧hi≤30
  b3:-30≤lo1∧lo1≤30
  b4:-30≤hi1∧hi1≤30
  w0:0≤hi - lo + 1∧hi - lo + 1≤10
  w1:0≤hi1 - lo1 + 1∧hi1 - lo1 + 1≤10
noncomputable def OneI (m:Str→Option Value) (x:Int):Prop:=∃ t,m (Str.ofString "one")=some (.int x t)
noncomputable def Sp2 (kb lo hi x:Int) (n j:Nat):Int:=kb + (@ite _ (inR lo hi x) (Classical.propDecidable _) (Sp1 n j) 0)
noncomputable def elBody2 (w:World):Option (List Stmt×Scope):=(((elBody w).bind fun p=>p.1[1]?).bind forBody).bind fun b=>(scOf w 458).map fun sc=>(b,sc)
noncomputable def SpR (n0 i:Nat) (w1:Int):Int:=Sp1 n0 i * w1
noncomputable abbrev qualW:Str:=Str.ofString "law"++".<locals>."++"<lambda>"
noncomputable def CN3 (c a b d:Addr):Prop:=@Ne Nat c a∧@Ne Nat c b∧@Ne Nat c d
noncomputable def lawIfS (w:World):Option (Stmt×Scope):=(((bodyOf w 465).bind fun b=>(b[1]?).bind forBody).bind fun b=>b[4]?).bind fun st=>(scOf w 465).map fun sc=>(st,sc)
noncomputable def lawBodyS (w:World):Option (List Stmt×Scope):=((bodyOf w 465).bind fun b=>(b[1]?).bind forBody).bind fun b=>(scOf w 465).map fun sc=>(b,sc)
noncomputable def FeedIs (m:Str→Option Value) (fd:Addr):Prop:=m (Str.ofString "feed")=some (.ref fd)
noncomputable def LM (m:Str→Option Value) (fd Ad At:Addr):Prop:=FeedIs m fd∧m (Str.ofString "due")=some (.ref Ad)∧m (Str.ofString "told")=some (.ref At)
noncomputable def CNe (c:Addr) (l:List Addr):Prop:=∀ q∈l,@Ne Nat c q
noncomputable abbrev tgs (fd It L:Addr):List Addr:=[441,448,460,fd,It,L + 1 + 1,L + 1]
noncomputable abbrev T1 (g:Heap) (c:Addr) (o:Obj) (tp:Array Value):Prop:=tp=#[]∨TabD 471 22 qualT g c o tp
noncomputable abbrev T2 (g:Heap) (c:Addr) (o:Obj) (tp:Array Value):Prop:=tp=#[]∨TabD 476 22 qualA g c o tp
noncomputable abbrev T3 (g:Heap) (c:Addr) (o:Obj) (tp:Array Value):Prop:=tp=#[]∨TabD 497 54 qualW g c o tp
noncomputable abbrev lapN (L fd It D:Addr) (o oI oD ob oa:Obj) (tp1 tp2 tp3:Array Value) (c1 c2 c3:Addr) (o1 o2 o3:Obj):List (Addr×Obj):=[(fd,o),(It,oI),(D,oD),(L + 1 + 1,ob),(L + 1,oa),(441,tabObj tp1),(448,tabObj tp2),(460,tabObj tp3),(c1,o1),(c2,o2),(c3,o3)]
noncomputable def LapJ (w:World) (g:Heap) (L fd It D:Addr) (oI oD:Obj) (K:Int) (s0 s:Shared):Prop :=
  ∃ h tk m o k ob oa va vb tp1 tp2 tp3 c1 c2 c3 o1 o2 o3,s={ s0 with heap:=h,toks:=tk }∧Fr g L h m∧FeedIs m fd∧News g L h (lapN L fd It D o oI oD ob oa tp1 tp2 tp3 c1 c2 c3 o1 o2 o3)∧FeedO w o D k∧0≤k∧k≤K∧oa.data=.cell va∧ob.data=.cell vb ∧
    T1 g c1 o1 tp1∧T2 g c2 o2 tp2∧T3 g c3 o3 tp3∧CNe c1 (tgs fd It L)∧CNe c2 (tgs fd It L)∧CNe c3 (tgs fd It L)
noncomputable def lawRestS (w:World):Option (List Stmt×Scope):=((bodyOf w 465).bind fun b=>(b[1]?).bind forBody).bind fun b=>(scOf w 465).map fun sc=>(b.drop 1,sc)
noncomputable abbrev H0:Hook:=kHook K1 as1 (fun _=>by kernel_rfl)
noncomputable def init_ok_P (w:World) (outer:List Env) (base:Heap) (s:Shared) (Q:Value→Shared→Prop) (E:Value→Shared→Prop) (x:Addr) (tt:Addr) (what:Str) (sp:Int) (t1:Tok) (t2:Tok):Prop:=∀ (W:Wd w base)
    (B:Below (Ak 6 outer) base outer s.heap)
    (hx:s.heap.get? x=some (excObj tt))
    (hb:base.get? x=none)
    (hf:x∉outer.filterMap (·.frame))
    (hret:∀ h' tk dd,Keep [x] s.heap h'→s.heap.get? dd=none→SpotD h' x dd sp→Q .none { s with heap:=h',toks:=tk }),
  wpAny (model PySem.Challenge.rw_nz0031_01.row.prog w) (Ak 6 outer) (call (.ref 94) [.ref x,.str what t1,.int sp t2]) Q E s
noncomputable def comp_setof_P (w:World) (A:Around) (env:Env) (outer:List Env) (base:Heap) (h0:Heap) (s:Shared) (Q:Value→Shared→Prop) (E:Value→Shared→Prop) (L:Addr) (cA:Addr) (objs:List (Addr×Obj)) (R:Addr) (V:Addr) (vsV:List Value) (cV:Nat) (spot:Int) (iter:PySem.Expr) (p1:Pos) (p2:Pos) (p3:Pos) (p4:Pos) (px:Pos) (pos:Pos) (scope:Scope) (cl:List (Str×Addr)) (vs0:List Value) (xs0:List Arg) (oc0:Obj) (ts0:Tok):Prop:=∀ (hA:A.handled=none)
    (hfr:A.frames=some (env::outer))
    (hd:A.depth≤900 - 6 * 24)
    (hu:A.units≤9000 - 99 * 24)
    (W:Wd w base)
    (hf:env.frame=some L)
    (hk:env.scope.kind=.function)
    (hgl:env.globals=mainGlobals)
    (O:Objs base outer h0 objs)
    (h0L:h0.get? L=none)
    (hclos:closureFor scope env=pure cl)
    (hcell:∀ y∈scope.names,y.2≠.cell)
    (hks:scope.kind=.function)
    (hnames:∀ y∈scope.names,y.2=.local→scope.names.lookup y.1=some .local)
    (hx:scope.names.lookup (Str.ofString "one")=some .local)
    (h2:∀ C,(compEnvC scope cl C env).kindOf (Str.ofString "spot")=some .cell)
    (h3:∀ C,(compEnvC scope cl C env).kindOf (Str.ofString "set_of")=some .globalImplicit)
    (hc:cl.lookup (Str.ofString "spot")=some cA)
    (hs:∀ x,foldedSetIterable iter env x=pure x)
    (_hv:ArgsV objs R V vsV cV vs0 xs0)
    (_ho:oc0.data=.cell (some (.int spot ts0)))
    (h:wpAny (model PySem.Challenge.rw_nz0031_01.row.prog w) A (eval iter env) (SetsGo w base outer env L h0 objs R V vsV cV spot cA Q E) E s),
  wpAny (model PySem.Challenge.rw_nz0031_01.row.prog w) A (eval (.ListComp (.Call (.Name (Str.ofString "set_of") p1) [.Name (Str.ofString "one") p2,.Name (Str.ofString "spot") p3] [] p4) [⟨.Name (Str.ofString "one") px,iter,[],0⟩] scope pos) env) Q E s
noncomputable def indexed1_P (w:World) (base:Heap) (objs:List (Addr×Obj)) (R:Addr) (V:Addr) (S:Addr) (vsV:List Value) (cV:Nat) (cS:Nat) (tn:Tok) (ts:Tok) (spot:Int) (outer:List Env) (Q:Value→Shared→Prop) (E:Value→Shared→Prop) (s:Shared):Prop:=∀ (W:Wd w base)
    (vs:List Value)
    (xs:List Arg)
    (mS:(S,listOf vs.toArray cS)∈objs)
    (mV:(V,listOf vsV.toArray cV)∈objs)
    (hV:vsV.length≤20)
    (hvs:ArgsV objs R V vsV cV vs xs)
    (hn1:0 < vs.length)
    (hn2:vs.length≤20),
  OfHAt w base 30 394 [.str (Str.ofString "array1d") tn,.ref S,.int spot ts] objs (fun h v h'=>∃ rs,okIdx false xs vsV.length=some rs∧ArrNew h v h' V rs) (fun sp=>okIdx false xs vsV.length=none∧sp=spot) outer Q E s
noncomputable def indexed2_P (w:World) (base:Heap) (objs:List (Addr×Obj)) (R:Addr) (V:Addr) (S:Addr) (vsV:List Value) (cV:Nat) (cS:Nat) (tn:Tok) (ts:Tok) (spot:Int) (outer:List Env) (Q:Value→Shared→Prop) (E:Value→Shared→Prop) (s:Shared):Prop:=∀ (W:Wd w base)
    (vs:List Value)
    (xs:List Arg)
    (mS:(S,listOf vs.toArray cS)∈objs)
    (mV:(V,listOf vsV.toArray cV)∈objs)
    (hV:vsV.length≤20)
    (hvs:ArgsV objs R V vsV cV vs xs)
    (hn1:0 < vs.length)
    (hn2:vs.length≤20),
  OfHAt w base 30 394 [.str (Str.ofString "array2d") tn,.ref S,.int spot ts] objs (fun h v h'=>∃ rs,okIdx true xs vsV.length=some rs∧ArrNew h v h' V rs) (fun sp=>okIdx true xs vsV.length=none∧sp=spot) outer Q E s
noncomputable def iof1_0_P (w:World) (base:Heap) (objs:List (Addr×Obj)) (A:Addr) (R:Addr) (V:Addr) (P0:Addr) (vsV:List Value) (cV:Nat) (lo:Int) (hi:Int) (t0:Tok) (u0:Tok) (tn:Tok) (ts:Tok) (spot:Int) (outer:List Env) (Q:Value→Shared→Prop) (E:Value→Shared→Prop) (s:Shared):Prop:=∀ (W:Wd w base)
    (mA:(A,tupO [.ref R,.ref V])∈objs)
    (mV:(V,listOf (List.toArray vsV) cV)∈objs)
    (mR:(R,tupO [.ref P0])∈objs)
    (m0:(P0,tupO [.int lo t0,.int hi u0])∈objs)
    (b0:-100≤lo∧lo≤100)
    (b1:-100≤hi∧hi≤100),
  OfHAt w base 30 389 [.str (Str.ofString "index_set") tn,.ref A,.int spot ts] objs (fun h v h'=>True∧TupNew (intsFrom lo (hi + 1 - lo).toNat) h v h') (fun _=>False) outer Q E s
noncomputable def iof1_1_P (w:World) (base:Heap) (objs:List (Addr×Obj)) (A:Addr) (R:Addr) (V:Addr) (P0:Addr) (vsV:List Value) (cV:Nat) (lo:Int) (hi:Int) (t0:Tok) (u0:Tok) (tn:Tok) (ts:Tok) (spot:Int) (outer:List Env) (Q:Value→Shared→Prop) (E:Value→Shared→Prop) (s:Shared):Prop:=∀ (W:Wd w base)
    (mA:(A,tupO [.ref R,.ref V])∈objs)
    (mV:(V,listOf (List.toArray vsV) cV)∈objs)
    (mR:(R,tupO [.ref P0])∈objs)
    (m0:(P0,tupO [.int lo t0,.int hi u0])∈objs)
    (b0:-100≤lo∧lo≤100)
    (b1:-100≤hi∧hi≤100),
  OfHAt w base 30 389 [.str (Str.ofString "index_set_1of2") tn,.ref A,.int spot ts] objs (fun _ _ _=>False) (fun sp=>sp=spot) outer Q E s
noncomputable def iof1_2_P (w:World) (base:Heap) (objs:List (Addr×Obj)) (A:Addr) (R:Addr) (V:Addr) (P0:Addr) (vsV:List Value) (cV:Nat) (lo:Int) (hi:Int) (t0:Tok) (u0:Tok) (tn:Tok) (ts:Tok) (spot:Int) (outer:List Env) (Q:Value→Shared→Prop) (E:Value→Shared→Prop) (s:Shared):Prop:=∀ (W:Wd w base)
    (mA:(A,tupO [.ref R,.ref V])∈objs)
    (mV:(V,listOf (List.toArray vsV) cV)∈objs)
    (mR:(R,tupO [.ref P0])∈objs)
    (m0:(P0,tupO [.int lo t0,.int hi u0])∈objs)
    (b0:-100≤lo∧lo≤100)
    (b1:-100≤hi∧hi≤100),
  OfHAt w base 30 389 [.str (Str.ofString "index_set_2of2") tn,.ref A,.int spot ts] objs (fun _ _ _=>False) (fun sp=>sp=spot) outer Q E s
noncomputable def iof2_0_P (w:World) (base:Heap) (objs:List (Addr×Obj)) (A:Addr) (R:Addr) (V:Addr) (P0:Addr) (P1:Addr) (vsV:List Value) (cV:Nat) (lo:Int) (hi:Int) (lo1:Int) (hi1:Int) (t0:Tok) (u0:Tok) (t1:Tok) (u1:Tok) (tn:Tok) (ts:Tok) (spot:Int) (outer:List Env) (Q:Value→Shared→Prop) (E:Value→Shared→Prop) (s:Shared):Prop:=∀ (W:Wd w base)
    (mA:(A,tupO [.ref R,.ref V])∈objs)
    (mV:(V,listOf (List.toArray vsV) cV)∈objs)
    (mR:(R,tupO [.ref P0,.ref P1])∈objs)
    (m0:(P0,tupO [.int lo t0,.int hi u0])∈objs)
    (m1:(P1,tupO [.int lo1 t1,.int hi1 u1])∈objs)
    (b0:-100≤lo∧lo≤100)
    (b1:-100≤hi∧hi≤100)
    (b2:-100≤lo1∧lo1≤100)
    (b3:-100≤hi1∧hi1≤100),
  OfHAt w base 30 389 [.str (Str.ofString "index_set") tn,.ref A,.int spot ts] objs (fun _ _ _=>False) (fun sp=>sp=spot) outer Q E s
noncomputable def iof2_1_P (w:World) (base:Heap) (objs:List (Addr×Obj)) (A:Addr) (R:Addr) (V:Addr) (P0:Addr) (P1:Addr) (vsV:List Value) (cV:Nat) (lo:Int) (hi:Int) (lo1:Int) (hi1:Int) (t0:Tok) (u0:Tok) (t1:Tok) (u1:Tok) (tn:Tok) (ts:Tok) (spot:Int) (outer:List Env) (Q:Value→Shared→Prop) (E:Value→Shared→Prop) (s:Shared):Prop:=∀ (W:Wd w base)
    (mA:(A,tupO [.ref R,.ref V])∈objs)
    (mV:(V,listOf (List.toArray vsV) cV)∈objs)
    (mR:(R,tupO [.ref P0,.ref P1])∈objs)
    (m0:(P0,tupO [.int lo t0,.int hi u0])∈objs)
    (m1:(P1,tupO [.int lo1 t1,.int hi1 u1])∈objs)
    (b0:-100≤lo∧lo≤100)
    (b1:-100≤hi∧hi≤100)
    (b2:-100≤lo1∧lo1≤100)
    (b3:-100≤hi1∧hi1≤100),
  OfHAt w base 30 389 [.str (Str.ofString "index_set_1of2") tn,.ref A,.int spot ts] objs (fun h v h'=>True∧TupNew (intsFrom lo (hi + 1 - lo).toNat) h v h') (fun _=>False) outer Q E s
noncomputable def iof2_2_P (w:World) (base:Heap) (objs:List (Addr×Obj)) (A:Addr) (R:Addr) (V:Addr) (P0:Addr) (P1:Addr) (vsV:List Value) (cV:Nat) (lo:Int) (hi:Int) (lo1:Int) (hi1:Int) (t0:Tok) (u0:Tok) (t1:Tok) (u1:Tok) (tn:Tok) (ts:Tok) (spot:Int) (outer:List Env) (Q:Value→Shared→Prop) (E:Value→Shared→Prop) (s:Shared):Prop:=∀ (W:Wd w base)
    (mA:(A,tupO [.ref R,.ref V])∈objs)
    (mV:(V,listOf (List.toArray vsV) cV)∈objs)
    (mR:(R,tupO [.ref P0,.ref P1])∈objs)
    (m0:(P0,tupO [.int lo t0,.int hi u0])∈objs)
    (m1:(P1,tupO [.int lo1 t1,.int hi1 u1])∈objs)
    (b0:-100≤lo∧lo≤100)
    (b1:-100≤hi∧hi≤100)
    (b2:-100≤lo1∧lo1≤100)
    (b3:-100≤hi1∧hi1≤100),
  OfHAt w base 30 389 [.str (Str.ofString "index_set_2of2") tn,.ref A,.int spot ts] objs (fun h v h'=>True∧TupNew (intsFrom lo1 (hi1 + 1 - lo1).toNat) h v h') (fun _=>False) outer Q E s
noncomputable def comp_map_P (w:World) (A:Around) (env:Env) (base:Heap) (s:Shared) (Q:Value→Shared→Prop) (E:Value→Shared→Prop) (L:Addr) (x:Str) (elt:PySem.Expr) (iter:PySem.Expr) (px:Pos) (pos:Pos) (scope:Scope) (cl:List (Str×Addr)):Prop:=∀ (hA:A.handled=none)
    (hclos:closureFor scope env=pure cl)
    (hcell:∀ y∈scope.names,y.2≠.cell)
    (hks:scope.kind=.function)
    (hnames:∀ y∈scope.names,y.2=.local→scope.names.lookup y.1=some .local)
    (hx:scope.names.lookup x=some .local)
    (hs:∀ x,foldedSetIterable iter env x=pure x)
    (h:wpAny (model PySem.Challenge.rw_nz0031_01.row.prog w) A (eval iter env) (MapGo w base A env L x elt scope cl Q) E s),
  wpAny (model PySem.Challenge.rw_nz0031_01.row.prog w) A (eval (.ListComp elt [⟨.Name x px,iter,[],0⟩] scope pos) env) Q E s
noncomputable def elem1_P (w:World) (base:Heap) (objs:List (Addr×Obj)) (self:Addr) (sd:Addr) (dct:Addr) (node:Addr) (nName:Addr) (nodes:Addr) (A:Addr) (R:Addr) (V:Addr) (P0:Addr) (tsd:Tok) (t0:Tok) (t1:Tok) (t2:Tok) (u0:Tok) (u1:Tok) (vsV:List Value) (cV:Nat) (cN:Nat) (lo:Int) (hi:Int) (x:Int) (tx:Tok) (outer:List Env) (Q:Value→Shared→Prop) (E:Value→Shared→Prop) (s:Shared):Prop:=∀ (W:Wd w base)
    (items:List Value)
    (ms:(self,instObj 356 sd)∈objs)
    (m2:(sd,sdO w dct tsd)∈objs)
    (mn:(node,tupO [.str (Str.ofString "index") t0,.int 5 t1,.ref nName,.ref nodes])∈objs)
    (mN:(nodes,listOf (List.toArray items) cN)∈objs)
    (hit:items.length=1)
    (mA:(A,tupO [.ref R,.ref V])∈objs)
    (mV:(V,listOf (List.toArray vsV) cV)∈objs)
    (mR:(R,tupO [.ref P0])∈objs)
    (m0:(P0,tupO [.int lo u0,.int hi u1])∈objs)
    (hV:vsV.length≤20)
    (hV2:(vsV.length:Int)=hi - lo + 1)
    (b0:-30≤lo∧lo≤30)
    (b1:-30≤hi∧hi≤30)
    (b2:-50≤x∧x≤50)
    (hn:OfS w base 26 282 [.ref self,.ref nName] objs (fun v=>v=.ref A) (fun _=>False))
    (hvs:OfH w base 28 287 [.ref self,.ref nodes] objs (fun h v h'=>LstNew [.int x tx] h v h') (fun _=>False)),
  OfSAt w base 30 320 [.ref self,.ref node] objs (fun v=>inR lo hi x∧vsV[(x - lo).toNat]?=some v) (fun sp=>¬ inR lo hi x∧sp=5) outer Q E s
noncomputable def elem2_P (w:World) (base:Heap) (objs:List (Addr×Obj)) (self:Addr) (sd:Addr) (dct:Addr) (node:Addr) (nName:Addr) (nodes:Addr) (A:Addr) (R:Addr) (V:Addr) (P0:Addr) (P1:Addr) (tsd:Tok) (t0:Tok) (t1:Tok) (t2:Tok) (u0:Tok) (u1:Tok) (u2:Tok) (u3:Tok) (vsV:List Value) (cV:Nat) (cN:Nat) (lo:Int) (hi:Int) (lo1:Int) (hi1:Int) (x:Int) (y:Int) (tx:Tok) (ty:Tok) (outer:List Env) (Q:Value→Shared→Prop) (E:Value→Shared→Prop) (s:Shared):Prop:=∀ (W:Wd w base)
    (items:List Value)
    (ms:(self,instObj 356 sd)∈objs)
    (m2:(sd,sdO w dct tsd)∈objs)
    (mn:(node,tupO [.str (Str.ofString "index") t0,.int 5 t1,.ref nName,.ref nodes])∈objs)
    (mN:(nodes,listOf (List.toArray items) cN)∈objs)
    (hit:items.length=2)
    (mA:(A,tupO [.ref R,.ref V])∈objs)
    (mV:(V,listOf (List.toArray vsV) cV)∈objs)
    (mR:(R,tupO [.ref P0,.ref P1])∈objs)
    (m0:(P0,tupO [.int lo u0,.int hi u1])∈objs)
    (m1:(P1,tupO [.int lo1 u2,.int hi1 u3])∈objs)
    (hV:vsV.length≤20)
    (hV2:(vsV.length:Int)=(hi - lo + 1) * (hi1 - lo1 + 1))
    (b0:-30≤lo∧lo≤30)
    (b1:-30≤hi∧hi≤30)
    (b2:-50≤x∧x≤50)
    (b3:-30≤lo1∧lo1≤30)
    (b4:-30≤hi1∧hi1≤30)
    (b5:-50≤y∧y≤50)
    (w0:hi - lo + 1≤10)
    (w1:hi1 - lo1 + 1≤10)
    (hn:OfS w base 26 282 [.ref self,.ref nName] objs (fun v=>v=.ref A) (fun _=>False))
    (hvs:OfH w base 28 287 [.ref self,.ref nodes] objs (fun h v h'=>LstNew [.int x tx,.int y ty] h v h') (fun _=>False)),
  OfSAt w base 30 320 [.ref self,.ref node] objs (fun v=>(inR lo hi x∧inR lo1 hi1 y)∧vsV[(pl2 lo lo1 hi1 x y).toNat]?=some v) (fun sp=>¬ (inR lo hi x∧inR lo1 hi1 y)∧sp=5) outer Q E s
noncomputable def elem1x_P (w:World) (base:Heap) (objs:List (Addr×Obj)) (self:Addr) (sd:Addr) (dct:Addr) (node:Addr) (nName:Addr) (nodes:Addr) (A:Addr) (R:Addr) (V:Addr) (P0:Addr) (tsd:Tok) (t0:Tok) (t1:Tok) (t2:Tok) (u0:Tok) (u1:Tok) (vsV:List Value) (cV:Nat) (cN:Nat) (lo:Int) (hi:Int) (outer:List Env) (Q:Value→Shared→Prop) (E:Value→Shared→Prop) (s:Shared):Prop:=∀ (W:Wd w base)
    (items:List Value)
    (ms:(self,instObj 356 sd)∈objs)
    (m2:(sd,sdO w dct tsd)∈objs)
    (mn:(node,tupO [.str (Str.ofString "index") t0,.int 5 t1,.ref nName,.ref nodes])∈objs)
    (mN:(nodes,listOf (List.toArray items) cN)∈objs)
    (hit:items.length=2)
    (mA:(A,tupO [.ref R,.ref V])∈objs)
    (mV:(V,listOf (List.toArray vsV) cV)∈objs)
    (mR:(R,tupO [.ref P0])∈objs)
    (m0:(P0,tupO [.int lo u0,.int hi u1])∈objs)
    (hV:vsV.length≤20)
    (b0:-30≤lo∧lo≤30)
    (b1:-30≤hi∧hi≤30)
    (hn:OfS w base 26 282 [.ref self,.ref nName] objs (fun v=>v=.ref A) (fun _=>False)),
  OfSAt w base 30 320 [.ref self,.ref node] objs (fun _=>False) (fun sp=>sp=5) outer Q E s
noncomputable def val_index_P (w:World) (base:Heap) (objs:List (Addr×Obj)) (self:Addr) (sd:Addr) (dct:Addr) (node:Addr) (nName:Addr) (nodes:Addr) (ts:Tok) (t0:Tok) (t1:Tok) (outer:List Env) (Q:Value→Shared→Prop) (E:Value→Shared→Prop) (s:Shared):Prop:=∀ (W:Wd w base)
    (n:Nat)
    (hn:26≤n∧n≤50)
    (okV:Value→Prop)
    (flt:Int→Prop)
    (m1:(self,instObj 356 sd)∈objs)
    (m2:(sd,sdO w dct ts)∈objs)
    (m3:(node,tupO [.str (Str.ofString "index") t0,.int 5 t1,.ref nName,.ref nodes])∈objs)
    (hof:OfS w base n 320 [.ref self,.ref node] objs okV flt),
  OfSAt w base (n + 2) 282 [.ref self,.ref node] objs okV flt outer Q E s
noncomputable def lset_ok_P (w:World) (outer:List Env) (base:Heap) (s:Shared) (Q:Value→Shared→Prop) (E:Value→Shared→Prop) (fd:Addr) (D:Addr) (o:Obj) (k:Int):Prop:=
  DrawSAt w 14 422 (fun fd=>[.ref fd]) 4 PSet outer base s Q E fd D o k
noncomputable def comp_feed_P (w:World) (A:Around) (env:Env) (s:Shared) (Q:Value→Shared→Prop) (E:Value→Shared→Prop) (L:Addr) (x:Str) (c:Nat) (PF:Heap→Value→Heap→Prop) (elt:PySem.Expr) (iter:PySem.Expr) (px:Pos) (pos:Pos) (scope:Scope) (cl:List (Str×Addr)) (g₀:Heap) (m₀:Str→Option Value):Prop:=∀ (hPF:∀ hb y h h',PF hb y h→(∀ b o,@LE.le Nat _ hb.objs.size b→h.get? b=some o→h'.get? b=some o)→PF hb y h')
    (hA:A.handled=none)
    (hclos:closureFor scope env=pure cl)
    (hcell:∀ y∈scope.names,y.2≠.cell)
    (hks:scope.kind=.function)
    (hnames:∀ y∈scope.names,y.2=.local→scope.names.lookup y.1=some .local)
    (hx:scope.names.lookup x=some .local)
    (_hF:Fr g₀ L s.heap m₀)
    (hs:∀ x,foldedSetIterable iter env x=pure x)
    (h:wpAny (model PySem.Challenge.rw_nz0031_01.row.prog w) A (eval iter env) (FeedGo w A env L x elt scope cl c PF Q) E s),
  wpAny (model PySem.Challenge.rw_nz0031_01.row.prog w) A (eval (.ListComp elt [⟨.Name x px,iter,[],0⟩] scope pos) env) Q E s
noncomputable def comp_feedU_P (w:World) (A:Around) (env:Env) (s:Shared) (Q:Flow→Shared→Prop) (E:Value→Shared→Prop) (x:Str) (y:Str) (c:Nat) (PF:Heap→Value→Heap→Prop) (elt:PySem.Expr) (iter:PySem.Expr) (px:Pos) (py:Pos) (pos:Pos) (spos:Pos) (scope:Scope) (cl:List (Str×Addr)):Prop:=∀ (L:Addr)
    (hPF:∀ hb y h h',PF hb y h→(∀ b o,@LE.le Nat _ hb.objs.size b→h.get? b=some o→h'.get? b=some o)→PF hb y h')
    (hA:A.handled=none)
    (hLe:env.locals=L)
    (hsw:swapsWith (.ListComp elt [⟨.Name x px,iter,[],0⟩] scope pos) (some (.Name y py)) spos.line env=pure true)
    (hy:env.kindOf y=some .local)
    (hp:(env.scope.kind == .class || (env.scope.kind == .module && env.locals != env.globals))=false)
    (hclos:closureFor scope env=pure cl)
    (hcell:∀ y∈scope.names,y.2≠.cell)
    (hks:scope.kind=.function)
    (hnames:∀ y∈scope.names,y.2=.local→scope.names.lookup y.1=some .local)
    (hx:scope.names.lookup x=some .local)
    (hs:∀ x,foldedSetIterable iter env x=pure x)
    (h:wpAny (model PySem.Challenge.rw_nz0031_01.row.prog w) A (eval iter env) (FeedGoU w A env L x elt scope cl c PF y Q) E s),
  wpAny (model PySem.Challenge.rw_nz0031_01.row.prog w) A (exec (.Assign [.Name y py] (.ListComp elt [⟨.Name x px,iter,[],0⟩] scope pos) spos) env) Q E s
noncomputable def comp_filter_P (w:World) (A:Around) (env:Env) (s:Shared) (Q:Value→Shared→Prop) (E:Value→Shared→Prop) (L:Addr) (x:Str) (p:Int→Bool) (iter:PySem.Expr) (tst:PySem.Expr) (px:Pos) (pe:Pos) (pos:Pos) (scope:Scope) (cl:List (Str×Addr)) (g₀:Heap) (m₀:Str→Option Value):Prop:=∀ (hA:A.handled=none)
    (hclos:closureFor scope env=pure cl)
    (hcell:∀ y∈scope.names,y.2≠.cell)
    (hks:scope.kind=.function)
    (hnames:∀ y∈scope.names,y.2=.local→scope.names.lookup y.1=some .local)
    (hx:scope.names.lookup x=some .local)
    (hd:(x == ("__debug__" : Str))=false)
    (_hF:Fr g₀ L s.heap m₀)
    (hs:∀ x,foldedSetIterable iter env x=pure x)
    (h:wpAny (model PySem.Challenge.rw_nz0031_01.row.prog w) A (eval iter env) (FiltGo w A env L x tst scope cl p Q) E s),
  wpAny (model PySem.Challenge.rw_nz0031_01.row.prog w) A (eval (.ListComp (.Name x pe) [⟨.Name x px,iter,[tst],0⟩] scope pos) env) Q E s
noncomputable def due1_P (w:World) (base:Heap) (objs:List (Addr×Obj)) (R:Addr) (V:Addr) (S:Addr) (vsV:List Value) (cV:Nat) (cS:Nat) (tn:Tok) (outer:List Env) (Q:Value→Shared→Prop) (E:Value→Shared→Prop) (s:Shared):Prop:=∀ (W:Wd w base)
    (vs:List Value)
    (xs:List Arg)
    (mS:(S,listOf vs.toArray cS)∈objs)
    (mV:(V,listOf vsV.toArray cV)∈objs)
    (hV:vsV.length≤20)
    (hvs:ArgsV objs R V vsV cV vs xs)
    (hn1:0 < vs.length)
    (hn2:vs.length≤20)
    (hsl:SetsL xs),
  OfHAt w base 40 434 [.str (Str.ofString "array1d") tn,.ref S] objs (DueV false xs vsV.length V) (fun _=>False) outer Q E s
noncomputable def due2_P (w:World) (base:Heap) (objs:List (Addr×Obj)) (R:Addr) (V:Addr) (S:Addr) (vsV:List Value) (cV:Nat) (cS:Nat) (tn:Tok) (outer:List Env) (Q:Value→Shared→Prop) (E:Value→Shared→Prop) (s:Shared):Prop:=∀ (W:Wd w base)
    (vs:List Value)
    (xs:List Arg)
    (mS:(S,listOf vs.toArray cS)∈objs)
    (mV:(V,listOf vsV.toArray cV)∈objs)
    (hV:vsV.length≤20)
    (hvs:ArgsV objs R V vsV cV vs xs)
    (hn1:0 < vs.length)
    (hn2:vs.length≤20)
    (hsl:SetsL xs),
  OfHAt w base 40 434 [.str (Str.ofString "array2d") tn,.ref S] objs (DueV true xs vsV.length V) (fun _=>False) outer Q E s
noncomputable def args1_P (w:World) (tn:Tok) (outer:List Env) (base:Heap) (s:Shared) (Q:Value→Shared→Prop) (E:Value→Shared→Prop) (fd:Addr) (D:Addr) (o:Obj) (k:Int):Prop:=
  DrawSAt w 18 439 (fun fd=>[.ref fd,.str (Str.ofString "array1d") tn]) 30 PArgs outer base s Q E fd D o k
noncomputable def args2_P (w:World) (tn:Tok) (outer:List Env) (base:Heap) (s:Shared) (Q:Value→Shared→Prop) (E:Value→Shared→Prop) (fd:Addr) (D:Addr) (o:Obj) (k:Int):Prop:=
  DrawSAt w 18 439 (fun fd=>[.ref fd,.str (Str.ofString "array2d") tn]) 30 PArgs outer base s Q E fd D o k
noncomputable def heardH_ok_P (w:World) (outer:List Env) (base:Heap) (s:Shared) (Q:Value→Shared→Prop) (E:Value→Shared→Prop) (c:Addr) (cl:Value) (dct:Option Addr) (okV:Value→Heap→Prop) (flt:Int→Prop):Prop:=∀ (fd:FuncData)
    (sl:Array (Option Value))
    (W:Wd w base)
    (B:Below (Ak 60 outer) base outer s.heap)
    (hc:s.heap.get? c=some ⟨cl,dct,.func fd,sl⟩)
    (hcall:∀ env L,env.frame=some L→s.heap.get? L=none→RaiseAtH w (Ak 58 (env::outer)) base (env::outer) s.heap (call (.ref c) []) okV flt)
    (hret:∀ v h' tk,okV v h'→Keep [] s.heap h'→Q v { s with heap:=h',toks:=tk })
    (hret2:∀ tu h' tk sp,flt sp→RelS (FrOf outer) s.heap h'→h'.FunFrames base outer→s.heap.get? tu=none→FaultT h' tu sp→Q (.ref tu) { s with heap:=h',toks:=tk }),
  wpAny (model PySem.Challenge.rw_nz0031_01.row.prog w) (Ak 60 outer) (call (.ref 415) [.ref c]) Q E s
noncomputable def comp_nodes_P (w:World) (A:Around) (env:Env) (s:Shared) (Q:Value→Shared→Prop) (E:Value→Shared→Prop) (L:Addr) (x:Str) (iter:PySem.Expr) (px:Pos) (pos:Pos) (q1:Pos) (q2:Pos) (q3:Pos) (q4:Pos) (k1:Nat) (k2:Nat) (k3:Nat) (scope:Scope) (cl:List (Str×Addr)) (g₀:Heap) (m₀:Str→Option Value):Prop:=∀ (hA:A.handled=none)
    (hclos:closureFor scope env=pure cl)
    (hcell:∀ y∈scope.names,y.2≠.cell)
    (hks:scope.kind=.function)
    (hnames:∀ y∈scope.names,y.2=.local→scope.names.lookup y.1=some .local)
    (hx:scope.names.lookup x=some .local)
    (hd:(x == ("__debug__" : Str))=false)
    (_hF:Fr g₀ L s.heap m₀)
    (hs:∀ x,foldedSetIterable iter env x=pure x)
    (h:wpAny (model PySem.Challenge.rw_nz0031_01.row.prog w) A (eval iter env) (NodesGo w L Q) E s),
  wpAny (model PySem.Challenge.rw_nz0031_01.row.prog w) A (eval (.ListComp (.Tuple [.Constant (.str (Str.ofString "int")) k1 q1,.Constant (.int 6) k2 q2,.Name x q3] k3 q4) [⟨.Name x px,iter,[],0⟩] scope pos) env) Q E s
noncomputable def lawat1_P (w:World) (base:Heap) (objs:List (Addr×Obj)) (self:Addr) (sd:Addr) (dct:Addr) (pl:Addr) (tsd:Tok) (x:Int) (tx:Tok) (cp:Nat) (flt:Int→Prop) (outer:List Env) (s:Shared) (Q:Value→Shared→Prop) (E:Value→Shared→Prop):Prop:=∀ (W:Wd w base)
    (okV:Value→Prop)
    (ms:(self,instObj 356 sd)∈objs)
    (md:(sd,sdO w dct tsd)∈objs)
    (mpl:(pl,listOf (List.toArray [.int x tx]) cp)∈objs)
    (hno:∀ p∈objs,p.1≠448)
    (hEv:∀ nodes cn n0 a0 b0 nName node t0 t1 u0 u1 u2,OfS w base 32 282 [.ref self,.ref node] (idxO w objs [(nodes,listOf (List.toArray [.ref n0]) cn),(n0,tupO [.str (Str.ofString "int") a0,.int 6 b0,.int x tx])] self sd dct nodes nName node tsd t0 t1 u0 u1 u2) okV flt)
    (tp:Array Value)
    (B:Below (Ak 70 outer) base outer s.heap)
    (O:Objs base outer s.heap objs)
    (hP:s.heap.get? 448=some (tabObj tp))
    (hPT:TabL 476 22 qualA s.heap tp)
    (hPb:base.get? 448=none)
    (hPf:448∉outer.filterMap (·.frame))
    (hret:AtPost w outer s tp okV flt Q),
  wpAny (model PySem.Challenge.rw_nz0031_01.row.prog w) (Ak 70 outer) (call (.ref 451) [.ref self,.ref pl]) Q E s
noncomputable def lawat2_P (w:World) (base:Heap) (objs:List (Addr×Obj)) (self:Addr) (sd:Addr) (dct:Addr) (pl:Addr) (tsd:Tok) (x:Int) (y:Int) (tx:Tok) (ty:Tok) (cp:Nat) (flt:Int→Prop) (outer:List Env) (s:Shared) (Q:Value→Shared→Prop) (E:Value→Shared→Prop):Prop:=∀ (W:Wd w base)
    (okV:Value→Prop)
    (ms:(self,instObj 356 sd)∈objs)
    (md:(sd,sdO w dct tsd)∈objs)
    (mpl:(pl,listOf (List.toArray [.int x tx,.int y ty]) cp)∈objs)
    (hno:∀ p∈objs,p.1≠448)
    (hEv:∀ nodes cn n0 a0 b0 n1 a1 b1 nName node t0 t1 u0 u1 u2,OfS w base 32 282 [.ref self,.ref node] (idxO w objs [(nodes,listOf (List.toArray [.ref n0,.ref n1]) cn),(n0,tupO [.str (Str.ofString "int") a0,.int 6 b0,.int x tx]),(n1,tupO [.str (Str.ofString "int") a1,.int 6 b1,.int y ty])] self sd dct nodes nName node tsd t0 t1 u0 u1 u2) okV flt)
    (tp:Array Value)
    (B:Below (Ak 70 outer) base outer s.heap)
    (O:Objs base outer s.heap objs)
    (hP:s.heap.get? 448=some (tabObj tp))
    (hPT:TabL 476 22 qualA s.heap tp)
    (hPb:base.get? 448=none)
    (hPf:448∉outer.filterMap (·.frame))
    (hret:AtPost w outer s tp okV flt Q),
  wpAny (model PySem.Challenge.rw_nz0031_01.row.prog w) (Ak 70 outer) (call (.ref 451) [.ref self,.ref pl]) Q E s
noncomputable def el1_turn_P (w:World) (base:Heap) (outer:List Env) (s0:Shared) (g0:Heap) (L:Addr) (A:Addr) (R:Addr) (V:Addr) (S:Addr) (self:Addr) (sd:Addr) (dct:Addr) (P0:Addr) (a0:Addr) (It:Addr) (oD:Obj) (tsd:Tok) (u0:Tok) (u1:Tok) (vsV:List Value) (vs0:List Value) (nsV:List Int) (cS:Nat) (cV:Nat) (objs:List (Addr×Obj)) (lo:Int) (hi:Int) (tp0:Array Value) (n:Nat) (i:Nat) (h':Heap):Prop:=∀ (body:List Stmt)
    (sc:Scope)
    (hb:elBody w=some (body,sc))
    (K:El1K w base objs A R V S self sd dct L P0 a0 oD vsV vs0 nsV lo hi u0 u1)
    (f0:@LT.lt Nat _ L It)
    (f1:@Ne Nat It self)
    (f2:@Ne Nat It sd)
    (f3:@Ne Nat It dct)
    (en:(n:Int)=hi + 2 - (lo - 1))
    (hlt:i < n)
    (s₁:Shared)
    (J:ElJ w base outer s0 g0 L A R V S self sd dct oD tsd [.ref a0] vsV cS cV objs [(It,itR (lo - 1 + (i:Int)) ((n:Int) - (i:Int)))] tp0 [It] (fun _=>True) (Sp1 vsV.length i) s₁)
    (hit:IsRangeIter h' It (lo - 1 + ((i + 1:Nat):Int)) ((n:Int) - ((i + 1:Nat):Int)) 1)
    (hs:Heap.SameBut It s₁.heap h'),
  wpAny (model PySem.Challenge.rw_nz0031_01.row.prog w) ((Ak 74 outer).deeper (envOf (Str.ofString "_law_elements_right") sc L 458 (.ref 457))) (storeName (envOf (Str.ofString "_law_elements_right") sc L 458 (.ref 457)) (Str.ofString "one") (.int (lo - 1 + (i:Int)) s₁.toks))
      (fun _ s₂=>wpAny (model PySem.Challenge.rw_nz0031_01.row.prog w) ((Ak 74 outer).deeper (envOf (Str.ofString "_law_elements_right") sc L 458 (.ref 457))) (execs body (envOf (Str.ofString "_law_elements_right") sc L 458 (.ref 457))) (fun f s₃=>(f=.next∨f=.cont)∧ElJ w base outer s0 g0 L A R V S self sd dct oD tsd [.ref a0] vsV cS cV objs [(It,itR (lo - 1 + ((i + 1:Nat):Int)) ((n:Int) - ((i + 1:Nat):Int)))] tp0 [It] (fun _=>True) (Sp1 vsV.length (i + 1)) s₃) (fun _ _=>False) s₂)
      (fun _ _=>False) { s₁ with heap:=h',toks:=s₁.toks + 1 }
noncomputable def elR1_P (w:World) (base:Heap) (objs:List (Addr×Obj)) (A:Addr) (R:Addr) (V:Addr) (S:Addr) (P0:Addr) (a0:Addr) (cS:Nat) (cV:Nat) (vsV:List Value) (vs0:List Value) (nsV:List Int) (lo:Int) (hi:Int) (u0:Tok) (u1:Tok) (outer:List Env) (s:Shared) (Q:Value→Shared→Prop) (E:Value→Shared→Prop):Prop:=∀ (W:Wd w base)
    (mA:(A,tupO [.ref R,.ref V])∈objs)
    (mR:(R,tupO [.ref P0])∈objs)
    (m0:(P0,tupO [.int lo u0,.int hi u1])∈objs)
    (ma:(a0,tupO vs0)∈objs)
    (i0:IntsAre vs0 (intsFrom lo (hi + 1 - lo).toNat))
    (hI:IntsAre vsV nsV)
    (hVl:vsV.length≤20)
    (hV2:(vsV.length:Int)=hi - lo + 1)
    (b0:-30≤lo∧lo≤30)
    (b1:-30≤hi∧hi≤30)
    (hno:∀ p∈objs,p.1≠448∧p.1≠S∧p.1≠V)
    (hSV:@Ne Nat S V)
    (tp:Array Value)
    (B:Below (Ak 74 outer) base outer s.heap)
    (O:Objs base outer s.heap objs)
    (OS:Objs base outer s.heap [(S,listOf (List.toArray [.ref a0]) cS),(V,listOf (List.toArray vsV) cV)])
    (hP:s.heap.get? 448=some (tabObj tp))
    (hPT:TabL 476 22 qualA s.heap tp)
    (hPb:base.get? 448=none)
    (hPf:448∉outer.filterMap (·.frame))
    (hret:∀ h' tk tp',RelS (FrOf outer) (hideAll s.heap [448]) h'→h'.get? 448=some (tabObj tp')→TabQ 476 22 qualA s.heap tp h' tp'→Q (.bool true) { s with heap:=h',toks:=tk }),
  wpAny (model PySem.Challenge.rw_nz0031_01.row.prog w) (Ak 74 outer) (call (.ref 458) [.ref A,.ref S]) Q E s
noncomputable def elR2_P (w:World) (base:Heap) (objs:List (Addr×Obj)) (A:Addr) (R:Addr) (V:Addr) (S:Addr) (P0:Addr) (P1:Addr) (a0:Addr) (a1:Addr) (cS:Nat) (cV:Nat) (vsV:List Value) (vs0:List Value) (vs1:List Value) (nsV:List Int) (lo:Int) (hi:Int) (lo1:Int) (hi1:Int) (u0:Tok) (u1:Tok) (u2:Tok) (u3:Tok) (outer:List Env) (s:Shared) (Q:Value→Shared→Prop) (E:Value→Shared→Prop):Prop:=∀ (W:Wd w base)
    (mA:(A,tupO [.ref R,.ref V])∈objs)
    (mR:(R,tupO [.ref P0,.ref P1])∈objs)
    (m0:(P0,tupO [.int lo u0,.int hi u1])∈objs)
    (m1:(P1,tupO [.int lo1 u2,.int hi1 u3])∈objs)
    (ma:(a0,tupO vs0)∈objs)
    (mb9:(a1,tupO vs1)∈objs)
    (i0:IntsAre vs0 (intsFrom lo (hi + 1 - lo).toNat))
    (i1:IntsAre vs1 (intsFrom lo1 (hi1 + 1 - lo1).toNat))
    (hI:IntsAre vsV nsV)
    (hVl:vsV.length≤20)
    (hV2:(vsV.length:Int)=(hi - lo + 1) * (hi1 - lo1 + 1))
    (b0:-30≤lo∧lo≤30)
    (b1:-30≤hi∧hi≤30)
    (b3:-30≤lo1∧lo1≤30)
    (b4:-30≤hi1∧hi1≤30)
    (w0:0≤hi - lo + 1∧hi - lo + 1≤10)
    (w1:0≤hi1 - lo1 + 1∧hi1 - lo1 + 1≤10)
    (hno:∀ p∈objs,p.1≠448∧p.1≠S∧p.1≠V)
    (hSV:@Ne Nat S V)
    (tp:Array Value)
    (B:Below (Ak 74 outer) base outer s.heap)
    (O:Objs base outer s.heap objs)
    (OS:Objs base outer s.heap [(S,listOf (List.toArray [.ref a0,.ref a1]) cS),(V,listOf (List.toArray vsV) cV)])
    (hP:s.heap.get? 448=some (tabObj tp))
    (hPT:TabL 476 22 qualA s.heap tp)
    (hPb:base.get? 448=none)
    (hPf:448∉outer.filterMap (·.frame))
    (hret:∀ h' tk tp',RelS (FrOf outer) (hideAll s.heap [448]) h'→h'.get? 448=some (tabObj tp')→TabQ 476 22 qualA s.heap tp h' tp'→Q (.bool true) { s with heap:=h',toks:=tk }),
  wpAny (model PySem.Challenge.rw_nz0031_01.row.prog w) (Ak 74 outer) (call (.ref 458) [.ref A,.ref S]) Q E s
noncomputable def el2_in_P (w:World) (base:Heap) (outer:List Env) (s0:Shared) (g0:Heap) (L:Addr) (A:Addr) (R:Addr) (V:Addr) (S:Addr) (self:Addr) (sd:Addr) (dct:Addr) (P0:Addr) (P1:Addr) (a0:Addr) (a1:Addr) (It:Addr) (It2:Addr) (oI:Obj) (oD:Obj) (tsd:Tok) (u0:Tok) (u1:Tok) (u2:Tok) (u3:Tok) (vsV:List Value) (vs0:List Value) (vs1:List Value) (nsV:List Int) (cS:Nat) (cV:Nat) (objs:List (Addr×Obj)) (lo:Int) (hi:Int) (lo1:Int) (hi1:Int) (x:Int) (kb:Int) (tp0:Array Value) (len1:Nat) (n:Nat) (i:Nat) (h':Heap):Prop:=∀ (body:List Stmt)
    (sc:Scope)
    (hlen:(len1:Int)=hi1 - lo1 + 1)
    (hb:elBody2 w=some (body,sc))
    (K:El2K w base objs A R V S self sd dct L P0 P1 a0 a1 oD vsV vs0 vs1 nsV lo hi lo1 hi1 u0 u1 u2 u3)
    (f0:@LT.lt Nat _ L It∧@LT.lt Nat _ L It2)
    (f1:@Ne Nat It2 self)
    (f2:@Ne Nat It2 sd)
    (f3:@Ne Nat It2 dct)
    (f4:@Ne Nat It2 It)
    (f5:@Ne Nat It self)
    (f6:@Ne Nat It sd)
    (f7:@Ne Nat It dct)
    (f8:@LT.lt Nat _ 448 L)
    (hkb:inR lo hi x→kb=(x - lo) * (hi1 - lo1 + 1))
    (bx:-50≤x∧x≤50)
    (en:(n:Int)=hi1 + 2 - (lo1 - 1))
    (hlt:i < n)
    (s₁:Shared)
    (J:ElJ w base outer s0 g0 L A R V S self sd dct oD tsd [.ref a0,.ref a1] vsV cS cV objs [(It2,itR (lo1 - 1 + (i:Int)) ((n:Int) - (i:Int))),(It,oI)] tp0 [It2,It] (fun m=>OneI m x) (Sp2 kb lo hi x len1 i) s₁)
    (hit:IsRangeIter h' It2 (lo1 - 1 + ((i + 1:Nat):Int)) ((n:Int) - ((i + 1:Nat):Int)) 1)
    (hs:Heap.SameBut It2 s₁.heap h'),
  wpAny (model PySem.Challenge.rw_nz0031_01.row.prog w) ((Ak 74 outer).deeper (envE sc L)) (storeName (envE sc L) (Str.ofString "other") (.int (lo1 - 1 + (i:Int)) s₁.toks))
      (fun _ s₂=>wpAny (model PySem.Challenge.rw_nz0031_01.row.prog w) ((Ak 74 outer).deeper (envE sc L)) (execs body (envE sc L)) (fun f s₃=>(f=.next∨f=.cont)∧ElJ w base outer s0 g0 L A R V S self sd dct oD tsd [.ref a0,.ref a1] vsV cS cV objs [(It2,itR (lo1 - 1 + ((i + 1:Nat):Int)) ((n:Int) - ((i + 1:Nat):Int))),(It,oI)] tp0 [It2,It] (fun m=>OneI m x) (Sp2 kb lo hi x len1 (i + 1)) s₃) (fun _ _=>False) s₂)
      (fun _ _=>False) { s₁ with heap:=h',toks:=s₁.toks + 1 }
noncomputable def el2_turn_P (w:World) (base:Heap) (outer:List Env) (s0:Shared) (g0:Heap) (L:Addr) (A:Addr) (R:Addr) (V:Addr) (S:Addr) (self:Addr) (sd:Addr) (dct:Addr) (P0:Addr) (P1:Addr) (a0:Addr) (a1:Addr) (It:Addr) (oD:Obj) (tsd:Tok) (u0:Tok) (u1:Tok) (u2:Tok) (u3:Tok) (vsV:List Value) (vs0:List Value) (vs1:List Value) (nsV:List Int) (cS:Nat) (cV:Nat) (objs:List (Addr×Obj)) (lo:Int) (hi:Int) (lo1:Int) (hi1:Int) (tp0:Array Value) (len0:Nat) (len1:Nat) (n:Nat) (i:Nat) (h':Heap):Prop:=∀ (body:List Stmt)
    (sc:Scope)
    (hl0:(len0:Int)=hi - lo + 1)
    (hl1:(len1:Int)=hi1 - lo1 + 1)
    (hb:elBody w=some (body,sc))
    (K:El2K w base objs A R V S self sd dct L P0 P1 a0 a1 oD vsV vs0 vs1 nsV lo hi lo1 hi1 u0 u1 u2 u3)
    (f0:@LT.lt Nat _ L It)
    (f1:@Ne Nat It self)
    (f2:@Ne Nat It sd)
    (f3:@Ne Nat It dct)
    (en:(n:Int)=hi + 2 - (lo - 1))
    (hlt:i < n)
    (s₁:Shared)
    (J:ElJ w base outer s0 g0 L A R V S self sd dct oD tsd [.ref a0,.ref a1] vsV cS cV objs [(It,itR (lo - 1 + (i:Int)) ((n:Int) - (i:Int)))] tp0 [It] (fun _=>True) (SpR len0 i (hi1 - lo1 + 1)) s₁)
    (hit:IsRangeIter h' It (lo - 1 + ((i + 1:Nat):Int)) ((n:Int) - ((i + 1:Nat):Int)) 1)
    (hs:Heap.SameBut It s₁.heap h'),
  wpAny (model PySem.Challenge.rw_nz0031_01.row.prog w) ((Ak 74 outer).deeper (envE sc L)) (storeName (envE sc L) (Str.ofString "one") (.int (lo - 1 + (i:Int)) s₁.toks))
      (fun _ s₂=>wpAny (model PySem.Challenge.rw_nz0031_01.row.prog w) ((Ak 74 outer).deeper (envE sc L)) (execs body (envE sc L)) (fun f s₃=>(f=.next∨f=.cont)∧ElJ w base outer s0 g0 L A R V S self sd dct oD tsd [.ref a0,.ref a1] vsV cS cV objs [(It,itR (lo - 1 + ((i + 1:Nat):Int)) ((n:Int) - ((i + 1:Nat):Int)))] tp0 [It] (fun _=>True) (SpR len0 (i + 1) (hi1 - lo1 + 1)) s₃) (fun _ _=>False) s₂)
      (fun _ _=>False) { s₁ with heap:=h',toks:=s₁.toks + 1 }
noncomputable def told1_P (w:World) (base:Heap) (objs:List (Addr×Obj)) (A:Addr) (S:Addr) (cS:Nat) (a0:Addr) (vs0:List Value) (l0:List Int) (outer:List Env) (s:Shared) (Q:Value→Shared→Prop) (E:Value→Shared→Prop):Prop:=∀ (W:Wd w base)
    (ma0:(a0,tupO vs0)∈objs)
    (hi0:IntsAre vs0 l0)
    (hS0:∀ tn ts,OfH w base 30 389 [.str (Str.ofString "index_set") tn,.ref A,.int 4 ts] objs (fun h v h'=>True∧TupNew l0 h v h') (fun _=>False))
    (hS1:∀ tn ts,OfH w base 30 389 [.str (Str.ofString "index_set_1of2") tn,.ref A,.int 4 ts] objs (fun _ _ _=>False) (fun sp=>sp=4))
    (hS2:∀ tn ts,OfH w base 30 389 [.str (Str.ofString "index_set_2of2") tn,.ref A,.int 4 ts] objs (fun _ _ _=>False) (fun sp=>sp=4))
    (hno:∀ p∈objs,p.1≠441∧p.1≠S)
    (tp:Array Value)
    (B:Below (Ak 70 outer) base outer s.heap)
    (O:Objs base outer s.heap objs)
    (OS:Objs base outer s.heap [(S,listOf (List.toArray [.ref a0]) cS)])
    (hP:s.heap.get? 441=some (tabObj tp))
    (hPT:TabL 471 22 qualT s.heap tp)
    (hPb:base.get? 441=none)
    (hPf:441∉outer.filterMap (·.frame))
    (hret:∀ h' tk tp',RelS (FrOf outer) (hideAll s.heap [441]) h'→h'.get? 441=some (tabObj tp')→TabS 471 22 qualT s.heap tp h' tp'→Q (.bool true) { s with heap:=h',toks:=tk }),
  wpAny (model PySem.Challenge.rw_nz0031_01.row.prog w) (Ak 70 outer) (call (.ref 446) [.ref A,.ref S]) Q E s
noncomputable def told2_P (w:World) (base:Heap) (objs:List (Addr×Obj)) (A:Addr) (S:Addr) (cS:Nat) (a0:Addr) (a1:Addr) (vs0:List Value) (vs1:List Value) (l0:List Int) (l1:List Int) (outer:List Env) (s:Shared) (Q:Value→Shared→Prop) (E:Value→Shared→Prop):Prop:=∀ (W:Wd w base)
    (ma0:(a0,tupO vs0)∈objs)
    (hi0:IntsAre vs0 l0)
    (ma1:(a1,tupO vs1)∈objs)
    (hi1:IntsAre vs1 l1)
    (hS0:∀ tn ts,OfH w base 30 389 [.str (Str.ofString "index_set") tn,.ref A,.int 4 ts] objs (fun _ _ _=>False) (fun sp=>sp=4))
    (hS1:∀ tn ts,OfH w base 30 389 [.str (Str.ofString "index_set_1of2") tn,.ref A,.int 4 ts] objs (fun h v h'=>True∧TupNew l0 h v h') (fun _=>False))
    (hS2:∀ tn ts,OfH w base 30 389 [.str (Str.ofString "index_set_2of2") tn,.ref A,.int 4 ts] objs (fun h v h'=>True∧TupNew l1 h v h') (fun _=>False))
    (hno:∀ p∈objs,p.1≠441∧p.1≠S)
    (tp:Array Value)
    (B:Below (Ak 70 outer) base outer s.heap)
    (O:Objs base outer s.heap objs)
    (OS:Objs base outer s.heap [(S,listOf (List.toArray [.ref a0,.ref a1]) cS)])
    (hP:s.heap.get? 441=some (tabObj tp))
    (hPT:TabL 471 22 qualT s.heap tp)
    (hPb:base.get? 441=none)
    (hPf:441∉outer.filterMap (·.frame))
    (hret:∀ h' tk tp',RelS (FrOf outer) (hideAll s.heap [441]) h'→h'.get? 441=some (tabObj tp')→TabS 471 22 qualT s.heap tp h' tp'→Q (.bool true) { s with heap:=h',toks:=tk }),
  wpAny (model PySem.Challenge.rw_nz0031_01.row.prog w) (Ak 70 outer) (call (.ref 446) [.ref A,.ref S]) Q E s
noncomputable def lap_if1_P (w:World) (base:Heap) (g:Heap) (L:Addr) (fd:Addr) (It:Addr) (D:Addr) (oI:Obj) (oD:Obj) (K:Int) (s:Shared) (Q:Flow→Shared→Prop) (E:Value→Shared→Prop) (m:Str→Option Value) (o:Obj) (ob:Obj) (oa:Obj) (k:Int) (tp1:Array Value) (tp2:Array Value) (tp3:Array Value) (c1:Addr) (c2:Addr) (c3:Addr) (o1:Obj) (o2:Obj) (o3:Obj) (S:Addr) (V:Addr) (A0:Addr) (R0:Addr) (a0:Addr) (Ad:Addr) (Pd:Addr) (rd:Addr) (At:Addr) (Pt:Addr) (rt:Addr) (cS:Nat) (cV:Nat) (vsV:List Value) (vs0:List Value) (nsV:List Int) (lo:Int) (hi:Int) (t1:Tok) (u1:Tok) (t2:Tok) (u2:Tok) (tn:Tok):Prop:=∀ (W:Wd w base)
    (B:Below (Ak 90 []) base [] g)
    (st:Stmt)
    (sc:Scope)
    (hb:lawIfS w=some (st,sc))
    (f1:@LT.lt Nat _ (L + 1 + 1) fd)
    (f2:@LT.lt Nat _ fd D)
    (f3:@LT.lt Nat _ D It)
    (f4:@LT.lt Nat _ 465 L)
    (F:Fr g L s.heap m)
    (hE:LM m fd Ad At)
    (N:News g L s.heap [(fd,o),(It,oI),(D,oD),(L + 1 + 1,ob),(L + 1,oa),(441,tabObj tp1),(448,tabObj tp2),(460,tabObj tp3),(c1,o1),(c2,o2),(c3,o3),(S,listOf (List.toArray [.ref a0,.ref A0]) cS),(V,listOf (List.toArray vsV) cV),(A0,tupO [.ref R0,.ref V]),(a0,tupO vs0),(Ad,tupO [.ref Pd,.ref V]),(Pd,tupO [.ref rd]),(rd,tupO [.int lo t1,.int hi u1]),(At,tupO [.ref Pt,.ref V]),(Pt,tupO [.ref rt]),(rt,tupO [.int lo t2,.int hi u2])])
    (FO:FeedO w o D k)
    (k0:0≤k)
    (k1:k≤K)
    (da:oa.data=.cell (some (.str (Str.ofString "array1d") tn)))
    (db:ob.data=.cell (some (.ref S)))
    (t1':T1 g c1 o1 tp1)
    (t2':T2 g c2 o2 tp2)
    (t3':T3 g c3 o3 tp3)
    (n1:CNe c1 (tgs fd It L))
    (n2:CNe c2 (tgs fd It L))
    (n3:CNe c3 (tgs fd It L))
    (lS:@LT.lt Nat _ L S)
    (lV:@LT.lt Nat _ L V)
    (lA:@LT.lt Nat _ L A0)
    (la:@LT.lt Nat _ L a0)
    (lAd:@LT.lt Nat _ L Ad)
    (lPd:@LT.lt Nat _ L Pd)
    (lrd:@LT.lt Nat _ L rd)
    (lAt:@LT.lt Nat _ L At)
    (lPt:@LT.lt Nat _ L Pt)
    (lrt:@LT.lt Nat _ L rt)
    (hI:IntsAre vsV nsV)
    (hVl:vsV.length≤10)
    (i0:IntsAre vs0 (intsFrom lo (hi + 1 - lo).toNat))
    (hl0:(intsFrom lo (hi + 1 - lo).toNat).length≤20)
    (e:okIdx false [.set (intsFrom lo (hi + 1 - lo).toNat),.arr] vsV.length=some [(lo,hi)])
    (hV2:(vsV.length:Int)=hi - lo + 1)
    (b0:-30≤lo∧lo≤30)
    (b1:-30≤hi∧hi≤30)
    (h:∀ s',LapJ w g L fd It D oI oD K s s'→Q .next s'),
  wpAny (model PySem.Challenge.rw_nz0031_01.row.prog w) ((Ak 90 []).deeper (envOfC (Str.ofString "law") sc L 465 (.ref 464))) (exec st (envOfC (Str.ofString "law") sc L 465 (.ref 464))) Q E s
noncomputable def lap_if2_P (w:World) (base:Heap) (g:Heap) (L:Addr) (fd:Addr) (It:Addr) (D:Addr) (oI:Obj) (oD:Obj) (K:Int) (s:Shared) (Q:Flow→Shared→Prop) (E:Value→Shared→Prop) (m:Str→Option Value) (o:Obj) (ob:Obj) (oa:Obj) (k:Int) (tp1:Array Value) (tp2:Array Value) (tp3:Array Value) (c1:Addr) (c2:Addr) (c3:Addr) (o1:Obj) (o2:Obj) (o3:Obj) (S:Addr) (V:Addr) (A0:Addr) (R0:Addr) (a0:Addr) (Ad:Addr) (Pd:Addr) (rd:Addr) (At:Addr) (Pt:Addr) (rt:Addr) (a1:Addr) (rd1:Addr) (rt1:Addr) (cS:Nat) (cV:Nat) (vsV:List Value) (vs0:List Value) (vs1:List Value) (nsV:List Int) (lo:Int) (hi:Int) (lo1:Int) (hi1:Int) (t1:Tok) (u1:Tok) (t2:Tok) (u2:Tok) (t3:Tok) (u3:Tok) (t4:Tok) (u4:Tok) (tn:Tok):Prop:=∀ (W:Wd w base)
    (B:Below (Ak 90 []) base [] g)
    (st:Stmt)
    (sc:Scope)
    (hb:lawIfS w=some (st,sc))
    (f1:@LT.lt Nat _ (L + 1 + 1) fd)
    (f2:@LT.lt Nat _ fd D)
    (f3:@LT.lt Nat _ D It)
    (f4:@LT.lt Nat _ 465 L)
    (F:Fr g L s.heap m)
    (hE:LM m fd Ad At)
    (N:News g L s.heap [(fd,o),(It,oI),(D,oD),(L + 1 + 1,ob),(L + 1,oa),(441,tabObj tp1),(448,tabObj tp2),(460,tabObj tp3),(c1,o1),(c2,o2),(c3,o3),(S,listOf (List.toArray [.ref a0,.ref a1,.ref A0]) cS),(V,listOf (List.toArray vsV) cV),(A0,tupO [.ref R0,.ref V]),(a0,tupO vs0),(a1,tupO vs1),(Ad,tupO [.ref Pd,.ref V]),(Pd,tupO [.ref rd,.ref rd1]),(rd,tupO [.int lo t1,.int hi u1]),(rd1,tupO [.int lo1 t3,.int hi1 u3]),(At,tupO [.ref Pt,.ref V]),(Pt,tupO [.ref rt,.ref rt1]),(rt,tupO [.int lo t2,.int hi u2]),(rt1,tupO [.int lo1 t4,.int hi1 u4])])
    (FO:FeedO w o D k)
    (k0:0≤k)
    (k1:k≤K)
    (da:oa.data=.cell (some (.str (Str.ofString "array2d") tn)))
    (db:ob.data=.cell (some (.ref S)))
    (t1':T1 g c1 o1 tp1)
    (t2':T2 g c2 o2 tp2)
    (t3':T3 g c3 o3 tp3)
    (n1:CNe c1 (tgs fd It L))
    (n2:CNe c2 (tgs fd It L))
    (n3:CNe c3 (tgs fd It L))
    (lS:@LT.lt Nat _ L S)
    (lV:@LT.lt Nat _ L V)
    (lA:@LT.lt Nat _ L A0)
    (la:@LT.lt Nat _ L a0)
    (la1:@LT.lt Nat _ L a1)
    (lAd:@LT.lt Nat _ L Ad)
    (lPd:@LT.lt Nat _ L Pd)
    (lrd:@LT.lt Nat _ L rd)
    (lrd1:@LT.lt Nat _ L rd1)
    (lAt:@LT.lt Nat _ L At)
    (lPt:@LT.lt Nat _ L Pt)
    (lrt:@LT.lt Nat _ L rt)
    (lrt1:@LT.lt Nat _ L rt1)
    (hI:IntsAre vsV nsV)
    (hVl:vsV.length≤10)
    (i0:IntsAre vs0 (intsFrom lo (hi + 1 - lo).toNat))
    (hl0:(intsFrom lo (hi + 1 - lo).toNat).length≤20)
    (i1:IntsAre vs1 (intsFrom lo1 (hi1 + 1 - lo1).toNat))
    (hl1:(intsFrom lo1 (hi1 + 1 - lo1).toNat).length≤20)
    (e:okIdx true [.set (intsFrom lo (hi + 1 - lo).toNat),.set (intsFrom lo1 (hi1 + 1 - lo1).toNat),.arr] vsV.length=some [(lo,hi),(lo1,hi1)])
    (hV2:(vsV.length:Int)=(hi - lo + 1) * (hi1 - lo1 + 1))
    (b0:-30≤lo∧lo≤30)
    (b1:-30≤hi∧hi≤30)
    (b2:-30≤lo1∧lo1≤30)
    (b3:-30≤hi1∧hi1≤30)
    (w0:0≤hi - lo + 1∧hi - lo + 1≤10)
    (w1:0≤hi1 - lo1 + 1∧hi1 - lo1 + 1≤10)
    (h:∀ s',LapJ w g L fd It D oI oD K s s'→Q .next s'),
  wpAny (model PySem.Challenge.rw_nz0031_01.row.prog w) ((Ak 90 []).deeper (envOfC (Str.ofString "law") sc L 465 (.ref 464))) (exec st (envOfC (Str.ofString "law") sc L 465 (.ref 464))) Q E s
noncomputable def lap_core1_P (w:World) (base:Heap) (g:Heap) (L:Addr) (fd:Addr) (It:Addr) (D:Addr) (ws:List Value) (ns:List Int) (cD:Nat) (oI:Obj) (K:Int) (s:Shared) (Q:Flow→Shared→Prop) (E:Value→Shared→Prop) (m:Str→Option Value) (o:Obj) (ob:Obj) (oa:Obj) (k:Int) (vb:Option Value) (tp1:Array Value) (tp2:Array Value) (tp3:Array Value) (c1:Addr) (c2:Addr) (c3:Addr) (o1:Obj) (o2:Obj) (o3:Obj) (tn:Tok):Prop:=∀ (W:Wd w base)
    (B:Below (Ak 90 []) base [] g)
    (hS:(fd == sysModules)=false)
    (rest:List Stmt)
    (sc:Scope)
    (hb:lawRestS w=some (rest,sc))
    (f1:@LT.lt Nat _ (L + 1 + 1) fd)
    (f2:@LT.lt Nat _ fd D)
    (f3:@LT.lt Nat _ D It)
    (f4:@LT.lt Nat _ 465 L)
    (hI0:IntsAre ws ns)
    (hlen:ns.length≤60)
    (hK:K + 30≤100000)
    (F:Fr g L s.heap m)
    (hFd:FeedIs m fd)
    (N:News g L s.heap (lapN L fd It D o oI (listOf (List.toArray ws) cD) ob oa tp1 tp2 tp3 c1 c2 c3 o1 o2 o3))
    (FO:FeedO w o D k)
    (k0:0≤k)
    (k1:k≤K)
    (da:oa.data=.cell (some (.str (Str.ofString "array1d") tn)))
    (db:ob.data=.cell vb)
    (t1:T1 g c1 o1 tp1)
    (t2:T2 g c2 o2 tp2)
    (t3:T3 g c3 o3 tp3)
    (n1:CNe c1 (tgs fd It L))
    (n2:CNe c2 (tgs fd It L))
    (n3:CNe c3 (tgs fd It L))
    (h:∀ s',LapJ w g L fd It D oI (listOf (List.toArray ws) cD) (K + 30) s s'→Q .next s'),
  wpAny (model PySem.Challenge.rw_nz0031_01.row.prog w) ((Ak 90 []).deeper (envOfC (Str.ofString "law") sc L 465 (.ref 464))) (execs rest (envOfC (Str.ofString "law") sc L 465 (.ref 464))) Q E s
noncomputable def lap_core2_P (w:World) (base:Heap) (g:Heap) (L:Addr) (fd:Addr) (It:Addr) (D:Addr) (ws:List Value) (ns:List Int) (cD:Nat) (oI:Obj) (K:Int) (s:Shared) (Q:Flow→Shared→Prop) (E:Value→Shared→Prop) (m:Str→Option Value) (o:Obj) (ob:Obj) (oa:Obj) (k:Int) (vb:Option Value) (tp1:Array Value) (tp2:Array Value) (tp3:Array Value) (c1:Addr) (c2:Addr) (c3:Addr) (o1:Obj) (o2:Obj) (o3:Obj) (tn:Tok):Prop:=∀ (W:Wd w base)
    (B:Below (Ak 90 []) base [] g)
    (hS:(fd == sysModules)=false)
    (rest:List Stmt)
    (sc:Scope)
    (hb:lawRestS w=some (rest,sc))
    (f1:@LT.lt Nat _ (L + 1 + 1) fd)
    (f2:@LT.lt Nat _ fd D)
    (f3:@LT.lt Nat _ D It)
    (f4:@LT.lt Nat _ 465 L)
    (hI0:IntsAre ws ns)
    (hlen:ns.length≤60)
    (hK:K + 30≤100000)
    (F:Fr g L s.heap m)
    (hFd:FeedIs m fd)
    (N:News g L s.heap (lapN L fd It D o oI (listOf (List.toArray ws) cD) ob oa tp1 tp2 tp3 c1 c2 c3 o1 o2 o3))
    (FO:FeedO w o D k)
    (k0:0≤k)
    (k1:k≤K)
    (da:oa.data=.cell (some (.str (Str.ofString "array2d") tn)))
    (db:ob.data=.cell vb)
    (t1:T1 g c1 o1 tp1)
    (t2:T2 g c2 o2 tp2)
    (t3:T3 g c3 o3 tp3)
    (n1:CNe c1 (tgs fd It L))
    (n2:CNe c2 (tgs fd It L))
    (n3:CNe c3 (tgs fd It L))
    (h:∀ s',LapJ w g L fd It D oI (listOf (List.toArray ws) cD) (K + 30) s s'→Q .next s'),
  wpAny (model PySem.Challenge.rw_nz0031_01.row.prog w) ((Ak 90 []).deeper (envOfC (Str.ofString "law") sc L 465 (.ref 464))) (execs rest (envOfC (Str.ofString "law") sc L 465 (.ref 464))) Q E s
noncomputable def lap_ok_P (w:World) (base:Heap) (g:Heap) (L:Addr) (fd:Addr) (It:Addr) (D:Addr) (ws:List Value) (ns:List Int) (cD:Nat) (n:Nat) (i:Nat) (K:Int) (s0:Shared) (h':Heap):Prop:=∀ (W:Wd w base)
    (B:Below (Ak 90 []) base [] g)
    (hS:(fd == sysModules)=false)
    (body:List Stmt)
    (sc:Scope)
    (hb:lawBodyS w=some (body,sc))
    (f1:@LT.lt Nat _ (L + 1 + 1) fd)
    (f2:@LT.lt Nat _ fd D)
    (f3:@LT.lt Nat _ D It)
    (f4:@LT.lt Nat _ 465 L)
    (hI0:IntsAre ws ns)
    (hlen:ns.length≤60)
    (hK:K + 31≤100000)
    (s₁:Shared)
    (J:LapJ w g L fd It D (itR (0 + (i:Int)) ((n:Int) - (i:Int))) (listOf (List.toArray ws) cD) K s0 s₁)
    (hit:IsRangeIter h' It (0 + ((i + 1:Nat):Int)) ((n:Int) - ((i + 1:Nat):Int)) 1)
    (hs:Heap.SameBut It s₁.heap h'),
  wpAny (model PySem.Challenge.rw_nz0031_01.row.prog w) ((Ak 90 []).deeper (envOfC (Str.ofString "law") sc L 465 (.ref 464))) (storeName (envOfC (Str.ofString "law") sc L 465 (.ref 464)) (Str.ofString "lap") (.int (0 + (i:Int)) s₁.toks))
      (fun _ s₂=>wpAny (model PySem.Challenge.rw_nz0031_01.row.prog w) ((Ak 90 []).deeper (envOfC (Str.ofString "law") sc L 465 (.ref 464))) (execs body (envOfC (Str.ofString "law") sc L 465 (.ref 464))) (fun f s₃=>(f=.next∨f=.cont)∧LapJ w g L fd It D (itR (0 + ((i + 1:Nat):Int)) ((n:Int) - ((i + 1:Nat):Int))) (listOf (List.toArray ws) cD) (K + 31) s0 s₃) (fun _ _=>False) s₂)
      (fun _ _=>False) { s₁ with heap:=h',toks:=s₁.toks + 1 }
noncomputable def law_ok_P (w:World) (base:Heap) (s:Shared) (R:Result→Shared→Prop):Prop:=∀ (sc:Addr)
    (vs:List Value)
    (ns:List Int)
    (W:Wd w base)
    (B:Below (Ak 90 []) base [] s.heap)
    (hl:s.heap.IsList sc vs.toArray)
    (hi:IntsAre vs ns)
    (hz:vs.toArray.size≤sizeLine)
    (hP:s.heap.get? 441=some (tabObj #[]))
    (hPb:base.get? 441=none)
    (hR:s.heap.get? 448=some (tabObj #[]))
    (hRb:base.get? 448=none)
    (hT:s.heap.get? 460=some (tabObj #[]))
    (hTb:base.get? 460=none)
    (hret:∀ h' tk,(∀ b o,b∉[441,448,460]→s.heap.get? b=some o→h'.get? b=some o)→(∃ ps,h'.get? 441=some (tabObj ps))→(∃ ps,h'.get? 448=some (tabObj ps))→(∃ ps,h'.get? 460=some (tabObj ps))→R (.ok (.ret (.bool true))) { s with heap:=h',toks:=tk }),
  codeAny (model PySem.Challenge.rw_nz0031_01.row.prog w) (Ak 90 []) (.call (.ref 465) ⟨[.ref sc],[]⟩) R s
set_option genInjectivity false in
set_option genSizeOf false in
structure C2 where
  (Q_1:Flow→Shared→Prop)
  (x what y_1:Str)
  (x_1 K y sp kb:Int)
  (u3 tx ty ts0 t3 t4 u4:Tok)
  (oD oI ob oa o1 o2 o3 oc0:Obj)
  (a1 node nName nodes c1 c2 c3 pl A0 R0 Ad Pd rd At Pt rt x_2 tt cA c_1 It2 rd1 rt1:Addr)
  (vs1 ws:List Value)
  (g h' g₀ g0 h0:Heap)
  (s0:Shared)
  (n i cN cD c cp len1 k1 k2 k3 len0:Nat)
  (m m₀:Str→Option Value)
  (tp1 tp2 tp3 tp0:Array Value)
  (elt tst:PySem.Expr)
  (flt:Int→Prop)
  (ns l0 l1:List Int)
  (PF:Heap→Value→Heap→Prop)
  (vb:Option Value)
  (R_1:Result→Shared→Prop)
  (p1 p2 p3 p4 py spos pe q1 q2 q3 q4:Pos)
  (cl_1:Value)
  (xs0:List Arg)
  (dct_1:Option Addr)
  (p:Int→Bool)
  (okV:Value→Heap→Prop)
set_option genInjectivity false in
set_option genSizeOf false in
structure C where
  (w:World)
  (base:Heap)
  (s:Shared)
  (E Q:Value→Shared→Prop)
  (outer:List Env)
  (objs:List (Addr×Obj))
  (V R A P0 L S self sd dct a0 fd D It P1:Addr)
  (vsV vs0:List Value)
  (cV cS:Nat)
  (tn u0 u1 t1 t0 ts tsd t2 u2:Tok)
  (lo hi spot lo1 hi1 k:Int)
  (o:Obj)
  (nsV:List Int)
  (A_1:Around)
  (env:Env)
  (iter:PySem.Expr)
  (px pos:Pos)
  (scope:Scope)
  (cl:List (Str×Addr))
  r:C2
theorem ne_c2:Nonempty C2:=⟨by constructor <;> first|exact Classical.choice ne_world|exact Classical.choice ne_shared|exact Classical.choice ne_around|exact Classical.choice inferInstance⟩
theorem ne_c:Nonempty C:=⟨by constructor <;> first|exact Classical.choice ne_world|exact Classical.choice ne_shared|exact Classical.choice ne_around|exact Classical.choice ne_c2|exact Classical.choice inferInstance⟩
noncomputable def PS:Nat→C→Prop
  | 0,c=>init_ok_P c.w c.outer c.base c.s c.Q c.E c.r.x_2 c.r.tt c.r.what c.r.sp c.t1 c.t2
  | 1,c=>comp_setof_P c.w c.A_1 c.env c.outer c.base c.r.h0 c.s c.Q c.E c.L c.r.cA c.objs c.R c.V c.vsV c.cV c.spot c.iter c.r.p1 c.r.p2 c.r.p3 c.r.p4 c.px c.pos c.scope c.cl c.vs0 c.r.xs0 c.r.oc0 c.r.ts0
  | 2,c=>indexed1_P c.w c.base c.objs c.R c.V c.S c.vsV c.cV c.cS c.tn c.ts c.spot c.outer c.Q c.E c.s
  | 3,c=>indexed2_P c.w c.base c.objs c.R c.V c.S c.vsV c.cV c.cS c.tn c.ts c.spot c.outer c.Q c.E c.s
  | 4,c=>iof1_0_P c.w c.base c.objs c.A c.R c.V c.P0 c.vsV c.cV c.lo c.hi c.t0 c.u0 c.tn c.ts c.spot c.outer c.Q c.E c.s
  | 5,c=>iof1_1_P c.w c.base c.objs c.A c.R c.V c.P0 c.vsV c.cV c.lo c.hi c.t0 c.u0 c.tn c.ts c.spot c.outer c.Q c.E c.s
  | 6,c=>iof1_2_P c.w c.base c.objs c.A c.R c.V c.P0 c.vsV c.cV c.lo c.hi c.t0 c.u0 c.tn c.ts c.spot c.outer c.Q c.E c.s
  | 7,c=>iof2_0_P c.w c.base c.objs c.A c.R c.V c.P0 c.P1 c.vsV c.cV c.lo c.hi c.lo1 c.hi1 c.t0 c.u0 c.t1 c.u1 c.tn c.ts c.spot c.outer c.Q c.E c.s
  | 8,c=>iof2_1_P c.w c.base c.objs c.A c.R c.V c.P0 c.P1 c.vsV c.cV c.lo c.hi c.lo1 c.hi1 c.t0 c.u0 c.t1 c.u1 c.tn c.ts c.spot c.outer c.Q c.E c.s
  | 9,c=>iof2_2_P c.w c.base c.objs c.A c.R c.V c.P0 c.P1 c.vsV c.cV c.lo c.hi c.lo1 c.hi1 c.t0 c.u0 c.t1 c.u1 c.tn c.ts c.spot c.outer c.Q c.E c.s
  | 10,c=>comp_map_P c.w c.A_1 c.env c.base c.s c.Q c.E c.L c.r.x c.r.elt c.iter c.px c.pos c.scope c.cl
  | 11,c=>elem1_P c.w c.base c.objs c.self c.sd c.dct c.r.node c.r.nName c.r.nodes c.A c.R c.V c.P0 c.tsd c.t0 c.t1 c.t2 c.u0 c.u1 c.vsV c.cV c.r.cN c.lo c.hi c.r.x_1 c.r.tx c.outer c.Q c.E c.s
  | 12,c=>elem2_P c.w c.base c.objs c.self c.sd c.dct c.r.node c.r.nName c.r.nodes c.A c.R c.V c.P0 c.P1 c.tsd c.t0 c.t1 c.t2 c.u0 c.u1 c.u2 c.r.u3 c.vsV c.cV c.r.cN c.lo c.hi c.lo1 c.hi1 c.r.x_1 c.r.y c.r.tx c.r.ty c.outer c.Q c.E c.s
  | 13,c=>elem1x_P c.w c.base c.objs c.self c.sd c.dct c.r.node c.r.nName c.r.nodes c.A c.R c.V c.P0 c.tsd c.t0 c.t1 c.t2 c.u0 c.u1 c.vsV c.cV c.r.cN c.lo c.hi c.outer c.Q c.E c.s
  | 14,c=>val_index_P c.w c.base c.objs c.self c.sd c.dct c.r.node c.r.nName c.r.nodes c.ts c.t0 c.t1 c.outer c.Q c.E c.s
  | 15,c=>lset_ok_P c.w c.outer c.base c.s c.Q c.E c.fd c.D c.o c.k
  | 16,c=>comp_feed_P c.w c.A_1 c.env c.s c.Q c.E c.L c.r.x c.r.c c.r.PF c.r.elt c.iter c.px c.pos c.scope c.cl c.r.g₀ c.r.m₀
  | 17,c=>comp_feedU_P c.w c.A_1 c.env c.s c.r.Q_1 c.E c.r.x c.r.y_1 c.r.c c.r.PF c.r.elt c.iter c.px c.r.py c.pos c.r.spos c.scope c.cl
  | 18,c=>comp_filter_P c.w c.A_1 c.env c.s c.Q c.E c.L c.r.x c.r.p c.iter c.r.tst c.px c.r.pe c.pos c.scope c.cl c.r.g₀ c.r.m₀
  | 19,c=>due1_P c.w c.base c.objs c.R c.V c.S c.vsV c.cV c.cS c.tn c.outer c.Q c.E c.s
  | 20,c=>due2_P c.w c.base c.objs c.R c.V c.S c.vsV c.cV c.cS c.tn c.outer c.Q c.E c.s
  | 21,c=>args1_P c.w c.tn c.outer c.base c.s c.Q c.E c.fd c.D c.o c.k
  | 22,c=>args2_P c.w c.tn c.outer c.base c.s c.Q c.E c.fd c.D c.o c.k
  | 23,c=>heardH_ok_P c.w c.outer c.base c.s c.Q c.E c.r.c_1 c.r.cl_1 c.r.dct_1 c.r.okV c.r.flt
  | 24,c=>comp_nodes_P c.w c.A_1 c.env c.s c.Q c.E c.L c.r.x c.iter c.px c.pos c.r.q1 c.r.q2 c.r.q3 c.r.q4 c.r.k1 c.r.k2 c.r.k3 c.scope c.cl c.r.g₀ c.r.m₀
  | 25,c=>lawat1_P c.w c.base c.objs c.self c.sd c.dct c.r.pl c.tsd c.r.x_1 c.r.tx c.r.cp c.r.flt c.outer c.s c.Q c.E
  | 26,c=>lawat2_P c.w c.base c.objs c.self c.sd c.dct c.r.pl c.tsd c.r.x_1 c.r.y c.r.tx c.r.ty c.r.cp c.r.flt c.outer c.s c.Q c.E
  | 27,c=>el1_turn_P c.w c.base c.outer c.r.s0 c.r.g0 c.L c.A c.R c.V c.S c.self c.sd c.dct c.P0 c.a0 c.It c.r.oD c.tsd c.u0 c.u1 c.vsV c.vs0 c.nsV c.cS c.cV c.objs c.lo c.hi c.r.tp0 c.r.n c.r.i c.r.h'
  | 28,c=>el2_in_P c.w c.base c.outer c.r.s0 c.r.g0 c.L c.A c.R c.V c.S c.self c.sd c.dct c.P0 c.P1 c.a0 c.r.a1 c.It c.r.It2 c.r.oI c.r.oD c.tsd c.u0 c.u1 c.u2 c.r.u3 c.vsV c.vs0 c.r.vs1 c.nsV c.cS c.cV c.objs c.lo c.hi c.lo1 c.hi1 c.r.x_1 c.r.kb c.r.tp0 c.r.len1 c.r.n c.r.i c.r.h'
  | 29,c=>el2_turn_P c.w c.base c.outer c.r.s0 c.r.g0 c.L c.A c.R c.V c.S c.self c.sd c.dct c.P0 c.P1 c.a0 c.r.a1 c.It c.r.oD c.tsd c.u0 c.u1 c.u2 c.r.u3 c.vsV c.vs0 c.r.vs1 c.nsV c.cS c.cV c.objs c.lo c.hi c.lo1 c.hi1 c.r.tp0 c.r.len0 c.r.len1 c.r.n c.r.i c.r.h'
  | 30,c=>elR1_P c.w c.base c.objs c.A c.R c.V c.S c.P0 c.a0 c.cS c.cV c.vsV c.vs0 c.nsV c.lo c.hi c.u0 c.u1 c.outer c.s c.Q c.E
  | 31,c=>elR2_P c.w c.base c.objs c.A c.R c.V c.S c.P0 c.P1 c.a0 c.r.a1 c.cS c.cV c.vsV c.vs0 c.r.vs1 c.nsV c.lo c.hi c.lo1 c.hi1 c.u0 c.u1 c.u2 c.r.u3 c.outer c.s c.Q c.E
  | 32,c=>told1_P c.w c.base c.objs c.A c.S c.cS c.a0 c.vs0 c.r.l0 c.outer c.s c.Q c.E
  | 33,c=>told2_P c.w c.base c.objs c.A c.S c.cS c.a0 c.r.a1 c.vs0 c.r.vs1 c.r.l0 c.r.l1 c.outer c.s c.Q c.E
  | 34,c=>lap_if1_P c.w c.base c.r.g c.L c.fd c.It c.D c.r.oI c.r.oD c.r.K c.s c.r.Q_1 c.E c.r.m c.o c.r.ob c.r.oa c.k c.r.tp1 c.r.tp2 c.r.tp3 c.r.c1 c.r.c2 c.r.c3 c.r.o1 c.r.o2 c.r.o3 c.S c.V c.r.A0 c.r.R0 c.a0 c.r.Ad c.r.Pd c.r.rd c.r.At c.r.Pt c.r.rt c.cS c.cV c.vsV c.vs0 c.nsV c.lo c.hi c.t1 c.u1 c.t2 c.u2 c.tn
  | 35,c=>lap_if2_P c.w c.base c.r.g c.L c.fd c.It c.D c.r.oI c.r.oD c.r.K c.s c.r.Q_1 c.E c.r.m c.o c.r.ob c.r.oa c.k c.r.tp1 c.r.tp2 c.r.tp3 c.r.c1 c.r.c2 c.r.c3 c.r.o1 c.r.o2 c.r.o3 c.S c.V c.r.A0 c.r.R0 c.a0 c.r.Ad c.r.Pd c.r.rd c.r.At c.r.Pt c.r.rt c.r.a1 c.r.rd1 c.r.rt1 c.cS c.cV c.vsV c.vs0 c.r.vs1 c.nsV c.lo c.hi c.lo1 c.hi1 c.t1 c.u1 c.t2 c.u2 c.r.t3 c.r.u3 c.r.t4 c.r.u4 c.tn
  | 36,c=>lap_core1_P c.w c.base c.r.g c.L c.fd c.It c.D c.r.ws c.r.ns c.r.cD c.r.oI c.r.K c.s c.r.Q_1 c.E c.r.m c.o c.r.ob c.r.oa c.k c.r.vb c.r.tp1 c.r.tp2 c.r.tp3 c.r.c1 c.r.c2 c.r.c3 c.r.o1 c.r.o2 c.r.o3 c.tn
  | 37,c=>lap_core2_P c.w c.base c.r.g c.L c.fd c.It c.D c.r.ws c.r.ns c.r.cD c.r.oI c.r.K c.s c.r.Q_1 c.E c.r.m c.o c.r.ob c.r.oa c.k c.r.vb c.r.tp1 c.r.tp2 c.r.tp3 c.r.c1 c.r.c2 c.r.c3 c.r.o1 c.r.o2 c.r.o3 c.tn
  | 38,c=>lap_ok_P c.w c.base c.r.g c.L c.fd c.It c.D c.r.ws c.r.ns c.r.cD c.r.n c.r.i c.r.K c.r.s0 c.r.h'
  | 39,c=>law_ok_P c.w c.base c.s c.r.R_1
  | _,_=>True
noncomputable def Up (k:Nat):Prop:=∀ j,j < k→∀ c,PS j c
noncomputable def zc0:C:=@Classical.epsilon C ne_c fun c=>∃ k,¬ PS k c∧Up k
noncomputable def Zd:C:=Classical.choice ne_c
theorem Up.step {k:Nat} (u:Up k) (h:PS k zc0):Up (k + 1):=fun j hj c=>Classical.byContradiction fun n=>by
  have hk:j=k:=Nat.le_antisymm (Nat.lt_succ_iff.mp hj) (Nat.not_lt.mp fun l=>n (u j l c))
  subst hk
  obtain ⟨i,h1,h2⟩:=Classical.epsilon_spec (p:=fun c=>∃ k,¬ PS k c∧Up k) ⟨c,j,n,u⟩
  rcases Nat.lt_trichotomy i j with l|l|l
  · exact h1 (u i l _)
  · subst l;exact h1 h
  · exact n (h2 j l c)
theorem Up.at {k:Nat} (u:Up (k + 1)) (c:C):PS k c:=u k (Nat.lt_succ_self k) c
theorem zu0:Up 0:=fun _ h=>absurd h (Nat.not_lt_zero _)
namespace Z
@[irreducible] noncomputable def w:World:=zc0.w
@[irreducible] noncomputable def base:Heap:=zc0.base
@[irreducible] noncomputable def s:Shared:=zc0.s
@[irreducible] noncomputable def E:Value→Shared→Prop:=zc0.E
@[irreducible] noncomputable def Q:Value→Shared→Prop:=zc0.Q
@[irreducible] noncomputable def outer:List Env:=zc0.outer
@[irreducible] noncomputable def objs:List (Addr×Obj):=zc0.objs
@[irreducible] noncomputable def V:Addr:=zc0.V
@[irreducible] noncomputable def vsV:List Value:=zc0.vsV
@[irreducible] noncomputable def cV:Nat:=zc0.cV
@[irreducible] noncomputable def R:Addr:=zc0.R
@[irreducible] noncomputable def A:Addr:=zc0.A
@[irreducible] noncomputable def tn:Tok:=zc0.tn
@[irreducible] noncomputable def lo:Int:=zc0.lo
@[irreducible] noncomputable def hi:Int:=zc0.hi
@[irreducible] noncomputable def P0:Addr:=zc0.P0
@[irreducible] noncomputable def u0:Tok:=zc0.u0
@[irreducible] noncomputable def L:Addr:=zc0.L
@[irreducible] noncomputable def S:Addr:=zc0.S
@[irreducible] noncomputable def cS:Nat:=zc0.cS
@[irreducible] noncomputable def u1:Tok:=zc0.u1
@[irreducible] noncomputable def t1:Tok:=zc0.t1
@[irreducible] noncomputable def vs0:List Value:=zc0.vs0
@[irreducible] noncomputable def t0:Tok:=zc0.t0
@[irreducible] noncomputable def spot:Int:=zc0.spot
@[irreducible] noncomputable def ts:Tok:=zc0.ts
@[irreducible] noncomputable def self:Addr:=zc0.self
@[irreducible] noncomputable def sd:Addr:=zc0.sd
@[irreducible] noncomputable def dct:Addr:=zc0.dct
@[irreducible] noncomputable def a0:Addr:=zc0.a0
@[irreducible] noncomputable def lo1:Int:=zc0.lo1
@[irreducible] noncomputable def hi1:Int:=zc0.hi1
@[irreducible] noncomputable def tsd:Tok:=zc0.tsd
@[irreducible] noncomputable def fd:Addr:=zc0.fd
@[irreducible] noncomputable def D:Addr:=zc0.D
@[irreducible] noncomputable def It:Addr:=zc0.It
@[irreducible] noncomputable def P1:Addr:=zc0.P1
@[irreducible] noncomputable def o:Obj:=zc0.o
@[irreducible] noncomputable def k:Int:=zc0.k
@[irreducible] noncomputable def nsV:List Int:=zc0.nsV
@[irreducible] noncomputable def t2:Tok:=zc0.t2
@[irreducible] noncomputable def env:Env:=zc0.env
@[irreducible] noncomputable def iter:PySem.Expr:=zc0.iter
@[irreducible] noncomputable def px:Pos:=zc0.px
@[irreducible] noncomputable def pos:Pos:=zc0.pos
@[irreducible] noncomputable def scope:Scope:=zc0.scope
@[irreducible] noncomputable def cl:List (Str×Addr):=zc0.cl
@[irreducible] noncomputable def u2:Tok:=zc0.u2
@[irreducible] noncomputable def x:Str:=zc0.r.x
@[irreducible] noncomputable def u3:Tok:=zc0.r.u3
@[irreducible] noncomputable def oD:Obj:=zc0.r.oD
@[irreducible] noncomputable def a1:Addr:=zc0.r.a1
@[irreducible] noncomputable def vs1:List Value:=zc0.r.vs1
@[irreducible] noncomputable def oI:Obj:=zc0.r.oI
@[irreducible] noncomputable def g:Heap:=zc0.r.g
@[irreducible] noncomputable def K:Int:=zc0.r.K
@[irreducible] noncomputable def node:Addr:=zc0.r.node
@[irreducible] noncomputable def nName:Addr:=zc0.r.nName
@[irreducible] noncomputable def nodes:Addr:=zc0.r.nodes
@[irreducible] noncomputable def tx:Tok:=zc0.r.tx
@[irreducible] noncomputable def s0:Shared:=zc0.r.s0
@[irreducible] noncomputable def n:Nat:=zc0.r.n
@[irreducible] noncomputable def i:Nat:=zc0.r.i
@[irreducible] noncomputable def h':Heap:=zc0.r.h'
@[irreducible] noncomputable def m:Str→Option Value:=zc0.r.m
@[irreducible] noncomputable def ob:Obj:=zc0.r.ob
@[irreducible] noncomputable def oa:Obj:=zc0.r.oa
@[irreducible] noncomputable def tp1:Array Value:=zc0.r.tp1
@[irreducible] noncomputable def tp2:Array Value:=zc0.r.tp2
@[irreducible] noncomputable def tp3:Array Value:=zc0.r.tp3
@[irreducible] noncomputable def c1:Addr:=zc0.r.c1
@[irreducible] noncomputable def c2:Addr:=zc0.r.c2
@[irreducible] noncomputable def c3:Addr:=zc0.r.c3
@[irreducible] noncomputable def o1:Obj:=zc0.r.o1
@[irreducible] noncomputable def o2:Obj:=zc0.r.o2
@[irreducible] noncomputable def o3:Obj:=zc0.r.o3
@[irreducible] noncomputable def elt:PySem.Expr:=zc0.r.elt
@[irreducible] noncomputable def cN:Nat:=zc0.r.cN
@[irreducible] noncomputable def g₀:Heap:=zc0.r.g₀
@[irreducible] noncomputable def m₀:Str→Option Value:=zc0.r.m₀
@[irreducible] noncomputable def flt:Int→Prop:=zc0.r.flt
@[irreducible] noncomputable def g0:Heap:=zc0.r.g0
@[irreducible] noncomputable def tp0:Array Value:=zc0.r.tp0
@[irreducible] noncomputable def ws:List Value:=zc0.r.ws
@[irreducible] noncomputable def ns:List Int:=zc0.r.ns
@[irreducible] noncomputable def cD:Nat:=zc0.r.cD
@[irreducible] noncomputable def y:Int:=zc0.r.y
@[irreducible] noncomputable def ty:Tok:=zc0.r.ty
@[irreducible] noncomputable def c:Nat:=zc0.r.c
@[irreducible] noncomputable def PF:Heap→Value→Heap→Prop:=zc0.r.PF
@[irreducible] noncomputable def pl:Addr:=zc0.r.pl
@[irreducible] noncomputable def cp:Nat:=zc0.r.cp
@[irreducible] noncomputable def len1:Nat:=zc0.r.len1
@[irreducible] noncomputable def l0:List Int:=zc0.r.l0
@[irreducible] noncomputable def A0:Addr:=zc0.r.A0
@[irreducible] noncomputable def R0:Addr:=zc0.r.R0
@[irreducible] noncomputable def Ad:Addr:=zc0.r.Ad
@[irreducible] noncomputable def Pd:Addr:=zc0.r.Pd
@[irreducible] noncomputable def rd:Addr:=zc0.r.rd
@[irreducible] noncomputable def At:Addr:=zc0.r.At
@[irreducible] noncomputable def Pt:Addr:=zc0.r.Pt
@[irreducible] noncomputable def rt:Addr:=zc0.r.rt
@[irreducible] noncomputable def vb:Option Value:=zc0.r.vb
@[irreducible] noncomputable def tt:Addr:=zc0.r.tt
@[irreducible] noncomputable def what:Str:=zc0.r.what
@[irreducible] noncomputable def sp:Int:=zc0.r.sp
@[irreducible] noncomputable def h0:Heap:=zc0.r.h0
@[irreducible] noncomputable def cA:Addr:=zc0.r.cA
@[irreducible] noncomputable def p1:Pos:=zc0.r.p1
@[irreducible] noncomputable def p2:Pos:=zc0.r.p2
@[irreducible] noncomputable def p3:Pos:=zc0.r.p3
@[irreducible] noncomputable def p4:Pos:=zc0.r.p4
@[irreducible] noncomputable def xs0:List Arg:=zc0.r.xs0
@[irreducible] noncomputable def oc0:Obj:=zc0.r.oc0
@[irreducible] noncomputable def ts0:Tok:=zc0.r.ts0
@[irreducible] noncomputable def py:Pos:=zc0.r.py
@[irreducible] noncomputable def spos:Pos:=zc0.r.spos
@[irreducible] noncomputable def p:Int→Bool:=zc0.r.p
@[irreducible] noncomputable def tst:PySem.Expr:=zc0.r.tst
@[irreducible] noncomputable def pe:Pos:=zc0.r.pe
@[irreducible] noncomputable def okV:Value→Heap→Prop:=zc0.r.okV
@[irreducible] noncomputable def q1:Pos:=zc0.r.q1
@[irreducible] noncomputable def q2:Pos:=zc0.r.q2
@[irreducible] noncomputable def q3:Pos:=zc0.r.q3
@[irreducible] noncomputable def q4:Pos:=zc0.r.q4
@[irreducible] noncomputable def k1:Nat:=zc0.r.k1
@[irreducible] noncomputable def k2:Nat:=zc0.r.k2
@[irreducible] noncomputable def k3:Nat:=zc0.r.k3
@[irreducible] noncomputable def It2:Addr:=zc0.r.It2
@[irreducible] noncomputable def kb:Int:=zc0.r.kb
@[irreducible] noncomputable def len0:Nat:=zc0.r.len0
@[irreducible] noncomputable def l1:List Int:=zc0.r.l1
@[irreducible] noncomputable def rd1:Addr:=zc0.r.rd1
@[irreducible] noncomputable def rt1:Addr:=zc0.r.rt1
@[irreducible] noncomputable def t3:Tok:=zc0.r.t3
@[irreducible] noncomputable def t4:Tok:=zc0.r.t4
@[irreducible] noncomputable def u4:Tok:=zc0.r.u4
end Z
namespace Z.Z1
@[irreducible] noncomputable def x:Addr:=zc0.r.x_2
end Z.Z1
namespace Z.Z2
@[irreducible] noncomputable def A:Around:=zc0.A_1
end Z.Z2
namespace Z.Z3
@[irreducible] noncomputable def x:Int:=zc0.r.x_1
end Z.Z3
namespace Z.Z4
@[irreducible] noncomputable def A:Around:=zc0.A_1
@[irreducible] noncomputable def Q:Flow→Shared→Prop:=zc0.r.Q_1
@[irreducible] noncomputable def y:Str:=zc0.r.y_1
end Z.Z4
namespace Z.Z5
@[irreducible] noncomputable def c:Addr:=zc0.r.c_1
@[irreducible] noncomputable def cl:Value:=zc0.r.cl_1
@[irreducible] noncomputable def dct:Option Addr:=zc0.r.dct_1
end Z.Z5
namespace Z.Z6
@[irreducible] noncomputable def Q:Flow→Shared→Prop:=zc0.r.Q_1
end Z.Z6
namespace Z.Z7
@[irreducible] noncomputable def R:Result→Shared→Prop:=zc0.r.R_1
end Z.Z7
theorem fc {α:Type} {p:α→Prop} {a:α} {l:List α} (x:p a) (y:∀ b∈l,p b):∀ b∈a::l,p b:=List.forall_mem_cons.mpr ⟨x,y⟩
theorem mm0 {α:Type} {b:α} {l:List α}:b∈b::l:=List.Mem.head _
theorem mm1 {α:Type} {a0 b:α} {l:List α}:b∈a0:: b::l:=.tail _ (List.Mem.head _)
theorem mm2 {α:Type} {a0 a1 b:α} {l:List α}:b∈a0::a1:: b::l:=.tail _ (.tail _ (List.Mem.head _))
theorem mm3 {α:Type} {a0 a1 a2 b:α} {l:List α}:b∈a0::a1::a2:: b::l:=.tail _ (.tail _ (.tail _ (List.Mem.head _)))
theorem mm4 {α:Type} {a0 a1 a2 a3 b:α} {l:List α}:b∈a0::a1::a2::a3:: b::l:=.tail _ (.tail _ (.tail _ (.tail _ (List.Mem.head _))))
theorem mm5 {α:Type} {a0 a1 a2 a3 a4 b:α} {l:List α}:b∈a0::a1::a2::a3::a4:: b::l:=.tail _ (.tail _ (.tail _ (.tail _ (.tail _ (List.Mem.head _)))))
theorem mm6 {α:Type} {a0 a1 a2 a3 a4 a5 b:α} {l:List α}:b∈a0::a1::a2::a3::a4::a5:: b::l:=.tail _ (.tail _ (.tail _ (.tail _ (.tail _ (.tail _ (List.Mem.head _))))))
theorem mm7 {α:Type} {a0 a1 a2 a3 a4 a5 a6 b:α} {l:List α}:b∈a0::a1::a2::a3::a4::a5::a6:: b::l:=.tail _ (.tail _ (.tail _ (.tail _ (.tail _ (.tail _ (.tail _ (List.Mem.head _)))))))
theorem mm8 {α:Type} {a0 a1 a2 a3 a4 a5 a6 a7 b:α} {l:List α}:b∈a0::a1::a2::a3::a4::a5::a6::a7:: b::l:=.tail _ (.tail _ (.tail _ (.tail _ (.tail _ (.tail _ (.tail _ (.tail _ (List.Mem.head _))))))))
theorem mm9 {α:Type} {a0 a1 a2 a3 a4 a5 a6 a7 a8 b:α} {l:List α}:b∈a0::a1::a2::a3::a4::a5::a6::a7::a8:: b::l:=.tail _ (.tail _ (.tail _ (.tail _ (.tail _ (.tail _ (.tail _ (.tail _ (.tail _ (List.Mem.head _)))))))))
theorem mm10 {α:Type} {a0 a1 a2 a3 a4 a5 a6 a7 a8 a9 b:α} {l:List α}:b∈a0::a1::a2::a3::a4::a5::a6::a7::a8::a9:: b::l:=.tail _ (.tail _ (.tail _ (.tail _ (.tail _ (.tail _ (.tail _ (.tail _ (.tail _ (.tail _ (List.Mem.head _))))))))))
theorem mm11 {α:Type} {a0 a1 a2 a3 a4 a5 a6 a7 a8 a9 a10 b:α} {l:List α}:b∈a0::a1::a2::a3::a4::a5::a6::a7::a8::a9::a10:: b::l:=.tail _ (.tail _ (.tail _ (.tail _ (.tail _ (.tail _ (.tail _ (.tail _ (.tail _ (.tail _ (.tail _ (List.Mem.head _)))))))))))
theorem mm12 {α:Type} {a0 a1 a2 a3 a4 a5 a6 a7 a8 a9 a10 a11 b:α} {l:List α}:b∈a0::a1::a2::a3::a4::a5::a6::a7::a8::a9::a10::a11:: b::l:=.tail _ (.tail _ (.tail _ (.tail _ (.tail _ (.tail _ (.tail _ (.tail _ (.tail _ (.tail _ (.tail _ (.tail _ (List.Mem.head _))))))))))))
theorem mm13 {α:Type} {a0 a1 a2 a3 a4 a5 a6 a7 a8 a9 a10 a11 a12 b:α} {l:List α}:b∈a0::a1::a2::a3::a4::a5::a6::a7::a8::a9::a10::a11::a12:: b::l:=.tail _ (.tail _ (.tail _ (.tail _ (.tail _ (.tail _ (.tail _ (.tail _ (.tail _ (.tail _ (.tail _ (.tail _ (.tail _ (List.Mem.head _)))))))))))))
theorem mm14 {α:Type} {a0 a1 a2 a3 a4 a5 a6 a7 a8 a9 a10 a11 a12 a13 b:α} {l:List α}:b∈a0::a1::a2::a3::a4::a5::a6::a7::a8::a9::a10::a11::a12::a13:: b::l:=.tail _ (.tail _ (.tail _ (.tail _ (.tail _ (.tail _ (.tail _ (.tail _ (.tail _ (.tail _ (.tail _ (.tail _ (.tail _ (.tail _ (List.Mem.head _))))))))))))))
theorem mm15 {α:Type} {a0 a1 a2 a3 a4 a5 a6 a7 a8 a9 a10 a11 a12 a13 a14 b:α} {l:List α}:b∈a0::a1::a2::a3::a4::a5::a6::a7::a8::a9::a10::a11::a12::a13::a14:: b::l:=.tail _ (.tail _ (.tail _ (.tail _ (.tail _ (.tail _ (.tail _ (.tail _ (.tail _ (.tail _ (.tail _ (.tail _ (.tail _ (.tail _ (.tail _ (List.Mem.head _)))))))))))))))
theorem wpAny_weak {α:Type} {M:Model} {A A':Around} {t:Sem α} {Q:α→Shared→Prop} {E:Value→Shared→Prop} {s:Shared}
    (hh:A.handled=A'.handled) (hd:A.depth≤A'.depth) (hf:∀ l,A'.frames=some l→A.frames=some l) (hg:∀ l,A'.guards=some l→A.guards=some l) (hu:A.units≤A'.units)
    (h:wpAny M A' t Q E s):wpAny M A t Q E s:=fun Γ p hΓ =>
  h Γ p ⟨hΓ.1.trans hh,Nat.le_trans hΓ.2.1 hd,fun l e=>hΓ.2.2.1 l (hf l e),fun l e=>hΓ.2.2.2.1 l (hg l e),Nat.le_trans hΓ.2.2.2.2 hu⟩
theorem wpAny_ak {α:Type} {M:Model} {A:Around} {n:Nat} {outer:List Env} {t:Sem α} {Q:α→Shared→Prop} {E:Value→Shared→Prop} {s:Shared}
    (hh:A.handled=none) (hf:A.frames=some outer) (hd:A.depth≤900 - 6 * n) (hu:A.units≤9000 - 99 * n)
    (h:wpAny M (Ak n outer) t Q E s):wpAny M A t Q E s :=
  wpAny_weak hh hd (fun l e=>by cases e;exact hf) (fun l e=>by cases e) hu h
theorem Keep.trans {ch:List Addr} {h₁ h₂ h₃:Heap} (x:Keep ch h₁ h₂) (y:Keep ch h₂ h₃):Keep ch h₁ h₃:=fun b o e n=>y b o (x b o e n) n
theorem Keep.of_fr {ad:List Addr} {h h':Heap} {L:Addr} {m:Str→Option Value} (F:Fr (hideAll h ad) L h' m):Keep ad h h':=fun _ _ e n=>F.keep _ _ (hideAll_get _ e n)
theorem Below.keep {A:Around} {base h h':Heap} {outer:List Env} {ch:List Addr} (B:Below A base outer h) (k:Keep ch h h') (hb:∀ a∈ch,base.get? a=none) (hf:∀ a∈ch,a∉outer.filterMap (·.frame)):Below A base outer h':=by
  refine ⟨B.stack,fun b o e=>k b o (B.stays b o e) fun hm=>(by rw [hb b hm] at e;cases e),?_⟩
  have go:∀ l:List Env,(∀ a∈ch,a∉l.filterMap (·.frame))→h.FunFrames base l→h'.FunFrames base l:=by
    intro l
    induction l with
    | nil=>intro _ _;exact trivial
    | cons env r ih =>
      rintro hn ⟨h1,⟨L,o,h2,h3,h4,h5⟩,h6⟩
      refine ⟨h1,⟨L,o,h2,h3,k L o h4 fun hm=>hn L hm ?_,h5⟩,ih (fun a ha hm=>hn a ha ?_) h6⟩
      · rw [List.filterMap_cons,h2];exact .head _
      · rw [List.filterMap_cons,h2];exact .tail _ hm
  exact go outer hf B.frames
section
variable {w:World} {n:Nat} {outer:List Env} {base:Heap} {s:Shared} {R:Result→Shared→Prop} {f:Addr} {args:Args} {binds:List (Str×Value)}
  {name qual:Str} {params:Arguments} {body:List Stmt} {scope:Scope} {dV kV doc pm cdv ct oc:Value} {an od:Option Addr} {osl:Array (Option Value)}
theorem enter (W:Wd w base) (B:Below (Ak n outer) base outer s.heap) (hid:List (Addr×Obj))
    (hN:∀ p∈hid,s.heap.get? p.1=some p.2∧base.get? p.1=none∧p.1∉outer.filterMap (·.frame))
    (ho:(Kt w.params).lookup f=some ⟨oc,od,.func (fnOf name qual params body scope dV kV doc pm an cdv ct),osl⟩) (hcd:codeIn (Kt w.params) cdv qual=true)
    (hroom:(Ak n outer).depth < recursionLimit)
    (hbind:BindsTo s (fnOf name qual params body scope dV kV doc pm an cdv ct) args binds) (hloc:∀ y∈binds,scope.names.lookup y.1=some .local)
    (h:∀ L h₁ p loose mean mg mb,Fr (hideAll s.heap (hid.map (·.1))) L h₁ (fun y=>binds.reverse.lookup y)→News (hideAll s.heap (hid.map (·.1))) L h₁ hid→Below (Ak n outer) base outer (hideAll s.heap (hid.map (·.1))) →
      (Kt w.params).In (hideAll s.heap (hid.map (·.1)))→Top p loose mean mg mb (hideAll s.heap (hid.map (·.1)))→AllLt L hid→L=s.heap.objs.size →
      ∀ tk:Nat,wpAny (model PySem.Challenge.rw_nz0031_01.row.prog w) ((Ak n outer).deeper (envOf qual scope L f cdv)) (execs body (envOf qual scope L f cdv))
        (fun fl s'=>R (.ok (.ret (match fl with|.ret v=>v|_=>.none))) s')
        (fun e s'=>wpAny (model PySem.Challenge.rw_nz0031_01.row.prog w) ((Ak n outer).deeper (envOf qual scope L f cdv)) (leaving (envOf qual scope L f cdv) e) (fun _ s''=>R (.error e) s'') (fun e' s''=>R (.error e') s'') s')
        { s with heap:=h₁,toks:=tk })
    (hcell:∀ x∈scope.names,x.2≠.cell) (hco:scope.isCoroutine=false) (hgen:scope.isGenerator=false) (hk:scope.kind=.function) :
    codeAny (model PySem.Challenge.rw_nz0031_01.row.prog w) (Ak n outer) (.call (.ref f) args) R s:=by
  obtain ⟨WK,p,loose,mean,mg,mb,T⟩:=W
  have hb:base.StaysIn (hideAll s.heap (hid.map (·.1))):=fun b o e=>hideAll_get _ (B.stays b o e) fun hm=>by
    obtain ⟨q,hq,rfl⟩:=List.mem_map.mp hm
    rw [(hN q hq).2.1] at e;cases e
  have X₀:=WK.keeps B.stays
  have T₀:=T.keeps B.stays
  refine codeAny_call_def (fd:=fnOf name qual params body scope dV kV doc pm an cdv ct) (body:=body) (binds:=binds) hroom (X₀ _ _ ho) rfl T₀.nolimit (codeRec_of X₀ hcd) rfl hbind hcell hloc (fun h₁ hns hk₁=>?_) hco hgen hk
  refine h s.heap.objs.size h₁ p loose mean mg mb ⟨hns,fun b o e=>hk₁ b o (of_hideAll _ e),Nat.le_of_eq (hideAll_size _ _)⟩
    (fun q hq=>⟨hk₁ _ _ (hN q hq).1,Nat.ne_of_lt (Heap.lt_size (hN q hq).1),hideAll_none _ (List.mem_map_of_mem hq)⟩)
    ⟨rfl,hb,funFrames_hideAll B.frames fun env he a ha hf=>?_⟩ (WK.keeps hb) (T.keeps hb) (allLt_of fun q hq=>Heap.lt_size (hN q hq).1) rfl _
  obtain ⟨q,hq,rfl⟩:=List.mem_map.mp ha
  exact (hN q hq).2.2 (List.mem_filterMap.mpr ⟨env,he,hf⟩)
end
theorem CellsAt.keep {h h':Heap} {D:Addr} (x:CellsAt h D) (k:∀ o,h.get? D=some o→h'.get? D=some o):CellsAt h' D:=by
  obtain ⟨ws,ns,⟨o,h1,h2⟩,h3⟩:=x
  exact ⟨ws,ns,⟨o,k o h1,h2⟩,h3⟩
theorem FeedO.ne {w:World} {h:Heap} {o:Obj} {fd D D':Addr} {k:Int} (x:FeedO w o D' k) (ho:h.get? fd=some o) (c:CellsAt h D):D≠fd:=by
  rintro rfl
  obtain ⟨ws,ns,⟨o2,h1,h2,n,h3⟩,_⟩:=c
  rw [ho] at h1;cases h1
  obtain ⟨_,es,ep,_,q,_⟩:=x
  rw [h3] at q;cases q
theorem below_at {A:Around} {n:Nat} {base g h:Heap} {outer:List Env} {env:Env} {L:Addr} {m:Str→Option Value} (B:Below A base outer g) (F:Fr g L h m) (hf:env.frame=some L) (hk:env.scope.kind=.function) :
    Below (Ak n (env::outer)) base (env::outer) h:=by
  have x:=pushX B F hf hk
  exact ⟨rfl,x.stays,x.frames⟩
theorem fr_keep {ch:List Addr} {g h h':Heap} {L:Addr} {m:Str→Option Value} (F:Fr g L h m) (k:Keep ch h h') (hc:∀ a∈ch,g.get? a=none∧a≠L):Fr g L h' m:=by
  obtain ⟨⟨o,es,ep,e,r⟩,kp,ab⟩:=F
  refine ⟨⟨o,es,ep,k _ _ e (fun hm=>(hc L hm).2 rfl),r⟩,fun b ob e'=>k b ob (kp b ob e') (fun hm=>?_),ab⟩
  rw [(hc b hm).1] at e';cases e'
theorem news_updF {g h h':Heap} {L fd:Addr} {o o':Obj} {news:List (Addr×Obj)} {G:Obj→List (Addr×Obj)} (N:News g L h news) (U:UpdF fd o news G) (k:Keep [fd] h h') (ho':h'.get? fd=some o'):News g L h' (G o'):=by
  obtain ⟨pre,post,rfl,hG,h1,h2⟩:=U.split
  rw [hG]
  intro p hp
  rcases List.mem_append.mp hp with hp|hp
  · have n:=N p (List.mem_append_left _ hp)
    exact ⟨k _ _ n.1 (by simpa using h1 p hp),n.2⟩
  · rcases List.mem_cons.mp hp with rfl|hp
    · have n:=N (fd,o) (List.mem_append_right _ (.head _))
      exact ⟨ho',n.2⟩
    · have n:=N p (List.mem_append_right _ (.tail _ hp))
      exact ⟨k _ _ n.1 (by simpa using h2 p hp),n.2⟩
theorem updF_mem {fd:Addr} {o:Obj} {news:List (Addr×Obj)} {G:Obj→List (Addr×Obj)} (U:UpdF fd o news G):(fd,o)∈news:=by
  obtain ⟨pre,post,rfl,_⟩:=U.split
  exact List.mem_append_right _ (.head _)
theorem DrawS.use {w:World} {n:Nat} {f:Addr} {mk:Addr→List Value} {c:Nat} {P:Heap→Value→Heap→Prop} (S:DrawS w n f mk c P)
    {A A₀:Around} {env:Env} {outer:List Env} {base g:Heap} {s:Shared} {Q E:Value→Shared→Prop} {L fd D:Addr} {o:Obj} {k:Int} {m:Str→Option Value} {news:List (Addr×Obj)} {G:Obj→List (Addr×Obj)} {vs:List Value}
    (hvs:vs=mk fd) (hA:A.handled=none) (hfr:A.frames=some (env::outer)) (hd:A.depth≤900 - 6 * n) (hu:A.units≤9000 - 99 * n)
    (W:Wd w base) (B:Below A₀ base outer g) (F:Fr g L s.heap m) (N:News g L s.heap news) (U:UpdF fd o news G) (hf:env.frame=some L) (hk:env.scope.kind=.function)
    (FO:FeedO w o D k) (hS:(fd == sysModules)=false) (C:CellsAt g D) (h0:0≤k) (h1:k + c≤100000)
    (h:∀ v h' tk o' k',P s.heap v h'→Fr g L h' m→News g L h' (G o')→Keep [fd] s.heap h'→FeedO w o' D k'→k≤k'→k'≤k + c→Q v { s with heap:=h',toks:=tk }) :
    wpAny (model PySem.Challenge.rw_nz0031_01.row.prog w) A (call (.ref f) vs) Q E s:=by
  subst hvs
  have hm:=N _ (updF_mem U)
  have hB:=below_at (n:=n) B F hf hk
  refine wpAny_ak hA hfr hd hu (S _ base s Q E fd D o k W hB hm.1 FO ?_ ?_ hS (C.keep fun o e=>F.keep _ _ e) h0 h1 fun v h' tk o' k' hP hK ho' hF' l1 l2 =>
    h v h' tk o' k' hP (fr_keep F hK fun a ha=>?_) (news_updF N U hK ho') hK hF' l1 l2)
  · cases q:base.get? fd with
    | none=>rfl
    | some ob=>have:=B.stays _ _ q;rw [hm.2.2] at this;cases this
  · intro hq
    rw [List.filterMap_cons,hf] at hq
    rcases List.mem_cons.mp hq with e|hq
    · exact hm.2.1 e
    · obtain ⟨_,ob,hob,_⟩:=B.frames.mem hq
      rw [hm.2.2] at hob;cases hob
  · rw [List.mem_singleton.mp ha];exact ⟨hm.2.2,hm.2.1⟩
theorem ln1 {α:Type} {l:List α} (h:l.length=1):∃ a,l=[a]:=by
  rcases l with _|⟨a,_|⟨b,l⟩⟩ <;> first|exact ⟨a,rfl⟩|(simp at h)
theorem ln2 {α:Type} {l:List α} (h:l.length=2):∃ a b,l=[a,b]:=by
  rcases l with _|⟨a,_|⟨b,_|⟨c,l⟩⟩⟩ <;> first|exact ⟨a,b,rfl⟩|(simp at h)
theorem ln3 {α:Type} {l:List α} (h:l.length=3):∃ a b c,l=[a,b,c]:=by
  rcases l with _|⟨a,_|⟨b,_|⟨c,_|⟨d,l⟩⟩⟩⟩ <;> first|exact ⟨a,b,c,rfl⟩|(simp at h)
theorem evU {M:Model} {A:Around} {env:Env} {g:Array GenState} {d:Drawn} {o:OsState} {H:Heap} {T T':Nat} {e:PySem.Expr} {v:Value} {Q E:Value→Shared→Prop} (h1:Ev M A env g d o H T e v T') (h:Q v ⟨H,g,d,T',o⟩):wpAny M A (eval e env) Q E ⟨H,g,d,T,o⟩:=h1 Q E h
theorem etU {M:Model} {A:Around} {env:Env} {g:Array GenState} {d:Drawn} {o:OsState} {H:Heap} {T T':Nat} {e:PySem.Expr} {b:Bool} {Q:Bool→Shared→Prop} {E:Value→Shared→Prop} (h1:Et M A env g d o H T e b T') (h:Q b ⟨H,g,d,T',o⟩):wpAny M A (PySem.isTrue e env (eval e env)) Q E ⟨H,g,d,T,o⟩:=h1 Q E h
theorem star_plain {e:PySem.Expr} {r:List PySem.Expr} {env:Env} (h:plainE e=true):starEach (e::r) env=(false,eval e env)::starEach r env:=by
  cases e <;> first|rfl|(cases h)
theorem stars_plain {env:Env} {pos:Pos}:∀ {r:List PySem.Expr},r.all plainE=true→(backTo pos (starEach r env)).any (·.1)=false
  | [],_=>rfl
  | e::r,h=>by
    have h':=(Bool.and_eq_true _ _).mp h
    rw [star_plain h'.1]
    show (false || (backTo pos (starEach r env)).any (·.1))=false
    rw [stars_plain h'.2];rfl
section
variable {M:Model} {A:Around} {env:Env} {g:Array GenState} {d:Drawn} {o:OsState} {h₀:Heap} {L:Addr} {H:Heap}
theorem Ev.nm {m:Str→Option Value} (hE:Fn env L) (F:Fr h₀ L H m) {x:Str} {pos:Pos} {v:Value} (hx:env.kindOf x=some .local) (hd:(x == ("__debug__" : Str))=false) (hv:m x=some v) {T:Nat}:Ev M A env g d o H T (.Name x pos) v T :=
  fun _ _ h=>wpAny_Name (wpAny_loadName_local hE.1 hx (by rw [hE.2.1];exact F.ns) hv h) hd
theorem Ev.cell (hE:Fn env L) {news:List (Addr×Obj)} (N:News h₀ L H news) {x:Str} {pos:Pos} {v:Value} {c:Addr} {ob:Obj} (hx:env.kindOf x=some .cell) (hd:(x == ("__debug__" : Str))=false) (hc:env.cells.lookup x=some c) (hm:(c,ob)∈news) (hv:ob.data=.cell (some v)) {T:Nat}:Ev M A env g d o H T (.Name x pos) v T :=
  fun _ _ h=>wpAny_Name (wpAny_loadName_cell hE.1 hx hc ⟨ob,N.get hm,hv⟩ h) hd
theorem Ev.free (hE:Fn env L) {news:List (Addr×Obj)} (N:News h₀ L H news) {x:Str} {pos:Pos} {v:Value} {c:Addr} {ob:Obj} (hx:env.kindOf x=some .free) (hd:(x == ("__debug__" : Str))=false) (hn:(x == ("__classdict__" : Str))=false) (hc:env.cells.lookup x=some c) (hm:(c,ob)∈news) (hv:ob.data=.cell (some v)) {T:Nat}:Ev M A env g d o H T (.Name x pos) v T :=
  fun _ _ h=>wpAny_Name (wpAny_loadName_free hE.1 hx hc ⟨ob,N.get hm,hv⟩ h hn) hd
theorem Ev.num {k:Nat} {pos:Pos} {i:Int} {T:Nat}:Ev M A env g d o H T (.Constant (.int i) k pos) (.int i T) (T + 1):=fun _ _ h=>wpAny_Constant_int h
theorem Ev.st {k:Nat} {pos:Pos} {x:Str} {T:Nat}:Ev M A env g d o H T (.Constant (.str x) k pos) (.str x T) (T + 1):=fun _ _ h=>Calls.Constant_str h
theorem Ev.non {k:Nat} {pos:Pos} {T:Nat}:Ev M A env g d o H T (.Constant .none k pos) .none T:=fun _ _ h=>wpAny_Constant_none h
theorem Ev.boo {k:Nat} {pos:Pos} {b:Bool} {T:Nat}:Ev M A env g d o H T (.Constant (.bool b) k pos) (.bool b) T:=fun _ _ h=>Constant_bool h
theorem Es.nil {T:Nat}:Es M A env g d o H T [] [] T:=fun _ _ _ h=>spliced_none h
theorem Es.cons {T T1 T2:Nat} {e:PySem.Expr} {es:List PySem.Expr} {v:Value} {vs:List Value} (hp:plainE e=true) (h1:Ev M A env g d o H T e v T1) (h2:Es M A env g d o H T1 es vs T2):Es M A env g d o H T (e::es) (v::vs) T2 :=
  fun pos Q E h=>spliced_more (h1 _ _ (h2 pos _ _ h)) (star_plain hp)
end
theorem gl_of {w:World} {h₀:Heap} {p:Program} {loose:List Str} {mean:ExcName→Option Value} {mg mb:Str→Option Value} (X:(Kt w.params).In h₀) (T:Top p loose mean mg mb h₀):Gl w h₀:=⟨X,p,loose,mg,mb,topRead_of T⟩
theorem kf116 (w:World):Kf w (Str.ofString "EvalFault") 116:=⟨by kernel_rfl,by kernel_rfl,by kernel_rfl⟩
theorem kf137 (w:World):Kf w (Str.ofString "is_array") 137:=⟨by kernel_rfl,by kernel_rfl,by kernel_rfl⟩
theorem kf144 (w:World):Kf w (Str.ofString "is_set") 144:=⟨by kernel_rfl,by kernel_rfl,by kernel_rfl⟩
theorem kf151 (w:World):Kf w (Str.ofString "number_of") 151:=⟨by kernel_rfl,by kernel_rfl,by kernel_rfl⟩
theorem kf172 (w:World):Kf w (Str.ofString "set_of") 172:=⟨by kernel_rfl,by kernel_rfl,by kernel_rfl⟩
theorem kf179 (w:World):Kf w (Str.ofString "list_of") 179:=⟨by kernel_rfl,by kernel_rfl,by kernel_rfl⟩
theorem kf200 (w:World):Kf w (Str.ofString "span") 200:=⟨by kernel_rfl,by kernel_rfl,by kernel_rfl⟩
theorem kf389 (w:World):Kf w (Str.ofString "indexes_of") 389:=⟨by kernel_rfl,by kernel_rfl,by kernel_rfl⟩
theorem kf394 (w:World):Kf w (Str.ofString "indexed") 394:=⟨by kernel_rfl,by kernel_rfl,by kernel_rfl⟩
theorem kf408 (w:World):Kf w (Str.ofString "_law_draw") 408:=⟨by kernel_rfl,by kernel_rfl,by kernel_rfl⟩
theorem kf415 (w:World):Kf w (Str.ofString "_law_heard") 415:=⟨by kernel_rfl,by kernel_rfl,by kernel_rfl⟩
theorem kf422 (w:World):Kf w (Str.ofString "_law_set") 422:=⟨by kernel_rfl,by kernel_rfl,by kernel_rfl⟩
theorem kf429 (w:World):Kf w (Str.ofString "_law_is_array") 429:=⟨by kernel_rfl,by kernel_rfl,by kernel_rfl⟩
theorem kf434 (w:World):Kf w (Str.ofString "_law_due") 434:=⟨by kernel_rfl,by kernel_rfl,by kernel_rfl⟩
theorem kf439 (w:World):Kf w (Str.ofString "_law_args") 439:=⟨by kernel_rfl,by kernel_rfl,by kernel_rfl⟩
theorem kf446 (w:World):Kf w (Str.ofString "_law_sets_told") 446:=⟨by kernel_rfl,by kernel_rfl,by kernel_rfl⟩
theorem kf451 (w:World):Kf w (Str.ofString "_law_at") 451:=⟨by kernel_rfl,by kernel_rfl,by kernel_rfl⟩
theorem kf458 (w:World):Kf w (Str.ofString "_law_elements_right") 458:=⟨by kernel_rfl,by kernel_rfl,by kernel_rfl⟩
theorem kf356 (w:World):Kf w (Str.ofString "Evaluator") 356:=⟨by kernel_rfl,by kernel_rfl,by kernel_rfl⟩
theorem kb_len (w:World):Kb w (Str.ofString "len") (.builtin "len"):=⟨by kernel_rfl,boot_len,by decide,by kernel_rfl⟩
theorem kb_isinstance (w:World):Kb w (Str.ofString "isinstance") (.builtin "isinstance"):=⟨by kernel_rfl,PyProof.Rows.boot_isinstance,by decide,by kernel_rfl⟩
theorem kb_max (w:World):Kb w (Str.ofString "max") (.builtin "max"):=⟨by kernel_rfl,PyProof.Rows.boot_max,by decide,by kernel_rfl⟩
theorem kb_tuple (w:World):Kb w (Str.ofString "tuple") (.type "tuple"):=⟨by kernel_rfl,PyProof.Rows.boot_tuple,by decide,by kernel_rfl⟩
theorem kb_list (w:World):Kb w (Str.ofString "list") (.type "list"):=⟨by kernel_rfl,PyProof.Rows.boot_list,by decide,by kernel_rfl⟩
theorem kb_int (w:World):Kb w (Str.ofString "int") (.type "int"):=⟨by kernel_rfl,PyProof.Rows.boot_int,by decide,by kernel_rfl⟩
theorem kb_range (w:World):Kb w (Str.ofString "range") (.type "range"):=⟨by kernel_rfl,PyProof.Rows.boot_range,by decide,by kernel_rfl⟩
theorem kb_zip (w:World):Kb w (Str.ofString "zip") (.type "zip"):=⟨by kernel_rfl,PyProof.Rows.boot_zip,by decide,by kernel_rfl⟩
section
variable {prog:Program} {w:World} {A:Around} {env:Env} {g:Array GenState} {d:Drawn} {o:OsState} {h₀:Heap} {L:Addr} {H:Heap}
theorem glob_name {M:Model} {E:Value→Shared→Prop} {Q:Value→Shared→Prop} {s:Shared} {m:Str→Option Value} (hE:Fn env L) (G:Gl w h₀) (F:Fr h₀ L s.heap m) {x:Str} {pos:Pos} {a:Addr} (hx:env.kindOf x=some .globalImplicit) (e:Kf w x a) (h:Q (.ref a) s) :
    wpAny M A (eval (.Name x pos) env) Q E s:=by
  obtain ⟨X,p,loose,mg,mb,T⟩:=G
  exact Name_function_global hE.1 hx (loadGlobal_global (by rw [hE.2.2.1];exact T.g.keeps F.keep) (mg_of X T.g e.1) h) e.2.2
theorem glob_builtin {M:Model} {E:Value→Shared→Prop} {Q:Value→Shared→Prop} {s:Shared} {m:Str→Option Value} (hE:Fn env L) (G:Gl w h₀) (F:Fr h₀ L s.heap m) {x:Str} {pos:Pos} {v:Value} (hx:env.kindOf x=some .globalImplicit) (e:Kb w x v) (h:Q v s) :
    wpAny M A (eval (.Name x pos) env) Q E s:=by
  obtain ⟨X,p,loose,mg,mb,T⟩:=G
  exact Name_function_global hE.1 hx (loadGlobal_builtin (by rw [hE.2.2.1];exact T.g.keeps F.keep) (mg_none_of X T.g e.1) (by rw [hE.2.2.2];exact T.b.keeps F.keep) ((T.builtins x e.2.2.1).trans e.2.1) h) e.2.2.2
end
section
variable {prog:Program} {w:World} {A:Around} {env:Env} {g:Array GenState} {d:Drawn} {o:OsState} {h₀:Heap} {L:Addr} {H:Heap}
theorem Ev.glob {m:Str→Option Value} (hE:Fn env L) (G:Gl w h₀) (F:Fr h₀ L H m) {x:Str} {pos:Pos} {a:Addr} {T:Nat} (hx:env.kindOf x=some .globalImplicit) (e:Kf w x a) :
    Ev (model prog w) A env g d o H T (.Name x pos) (.ref a) T:=fun _ _ h=>glob_name (s:=⟨H,g,d,T,o⟩) hE G F hx e h
theorem Ev.bui {m:Str→Option Value} (hE:Fn env L) (G:Gl w h₀) (F:Fr h₀ L H m) {x:Str} {pos:Pos} {v:Value} {T:Nat} (hx:env.kindOf x=some .globalImplicit) (e:Kb w x v) :
    Ev (model prog w) A env g d o H T (.Name x pos) v T:=fun _ _ h=>glob_builtin (s:=⟨H,g,d,T,o⟩) hE G F hx e h
theorem Ev.len {m:Str→Option Value} (hE:Fn env L) (G:Gl w h₀) (F:Fr h₀ L H m) (hx:env.kindOf (Str.ofString "len")=some .globalImplicit)
    {T T1:Nat} {x:PySem.Expr} {p1 pos:Pos} {t:Addr} {k:Int} (hs:plainE x=true) (h1:Ev (model prog w) A env g d o H T x (.ref t) T1) (hc:∀ Q E:Value→Shared→Prop,Q (.int k (T1 + 1)) ⟨H,g,d,T1 + 1 + 1,o⟩→wpAny (model prog w) A (call (.builtin "len") [.ref t]) Q E ⟨H,g,d,T1,o⟩) :
    Ev (model prog w) A env g d o H T (.Call (.Name (Str.ofString "len") p1) [x] [] pos) (.int k (T1 + 1)) (T1 + 1 + 1) :=
  fun Q E h=>Call_ (glob_builtin (s:=⟨H,g,d,T,o⟩) hE G F hx (kb_len w) (PyProof.Rows.callWith_builtin1 (spliced_more (h1 _ _ (spliced_none (hc _ _ h))) (star_plain hs)) (star_plain hs)))
theorem Ev.isi {m:Str→Option Value} (hE:Fn env L) (G:Gl w h₀) (F:Fr h₀ L H m) (hx:env.kindOf (Str.ofString "isinstance")=some .globalImplicit)
    {T T1 T2:Nat} {x y:PySem.Expr} {p1 pos:Pos} {a b:Value} {c:Bool} (hp:[x,y].all plainE=true) (h1:Ev (model prog w) A env g d o H T x a T1) (h2:Ev (model prog w) A env g d o H T1 y b T2) (hc:∀ Q E:Value→Shared→Prop,Q (.bool c) ⟨H,g,d,T2,o⟩→wpAny (model prog w) A (call (.builtin "isinstance") [a,b]) Q E ⟨H,g,d,T2,o⟩) :
    Ev (model prog w) A env g d o H T (.Call (.Name (Str.ofString "isinstance") p1) [x,y] [] pos) (.bool c) T2 :=
  have hp':=(Bool.and_eq_true _ _).mp hp
  have hq':=(Bool.and_eq_true _ _).mp hp'.2
  fun Q E h=>Call_ (glob_builtin (s:=⟨H,g,d,T,o⟩) hE G F hx (kb_isinstance w) (PyProof.Rows.callWith_builtin1 (spliced_more (h1 _ _ (spliced_more (h2 _ _ (spliced_none (hc _ _ h))) (star_plain hq'.1))) (star_plain hp'.1)) (star_plain hp'.1) (stars_plain hp'.2)))
theorem Ev.at {T T1:Nat} {x:PySem.Expr} {j:Int} {n:Nat} {p1 pos:Pos} {t:Addr} {l:List Value} {v:Value} (h1:Ev (model prog w) A env g d o H T x (.ref t) T1) (ht:IsTup H t l.toArray) (hv:tupAt l j=some v) :
    Ev (model prog w) A env g d o H T (.Subscript x (.Constant (.int j) n p1) pos) v (T1 + 1):=fun Q E h=>by
  unfold tupAt at hv
  split at hv
  · rename_i hj
    split at hv
    · rename_i i hi
      exact Subscript_ (h1 _ _ (wpAny_Constant_int (item_tupleT ht hj.1 hj.2 hi hv h)))
    · cases hv
  · cases hv
theorem Ev.atG {T T1 T2:Nat} {x y:PySem.Expr} {pos:Pos} {t:Addr} {i v:Value} (h1:Ev (model prog w) A env g d o H T x (.ref t) T1) (h2:Ev (model prog w) A env g d o H T1 y i T2) (hc:∀ Q E:Value→Shared→Prop,Q v ⟨H,g,d,T2,o⟩→wpAny (model prog w) A (subscriptTail x y (.ref t) i) Q E ⟨H,g,d,T2,o⟩) :
    Ev (model prog w) A env g d o H T (.Subscript x y pos) v T2:=fun Q E h=>Subscript_ (h1 _ _ (h2 _ _ (hc _ _ h)))
theorem Ev.add {T T1 T2:Nat} {x y:PySem.Expr} {pos:Pos} {a b:Int} {t u:Tok} (h1:Ev (model prog w) A env g d o H T x (.int a t) T1) (h2:Ev (model prog w) A env g d o H T1 y (.int b u) T2):Ev (model prog w) A env g d o H T (.BinOp x .Add y pos) (.int (a + b) T2) (T2 + 1) :=
  fun _ _ h=>wpAny_BinOp (h1 _ _ (h2 _ _ (PyProof.Rows.add_int h)))
theorem Ev.sub {T T1 T2:Nat} {x y:PySem.Expr} {pos:Pos} {a b:Int} {t u:Tok} (h1:Ev (model prog w) A env g d o H T x (.int a t) T1) (h2:Ev (model prog w) A env g d o H T1 y (.int b u) T2):Ev (model prog w) A env g d o H T (.BinOp x .Sub y pos) (.int (a - b) T2) (T2 + 1) :=
  fun _ _ h=>wpAny_BinOp (h1 _ _ (h2 _ _ (PyProof.Rows.sub_int h)))
theorem Ev.neg {T T1:Nat} {x:PySem.Expr} {pos:Pos} {a:Int} {t:Tok} (h1:Ev (model prog w) A env g d o H T x (.int a t) T1):Ev (model prog w) A env g d o H T (.UnaryOp .USub x pos) (.int (-a) T1) (T1 + 1) :=
  fun _ _ h=>UnaryOp_ (h1 _ _ (PyProof.Rows.neg_int h))
theorem Ev.ifT {T T1 T2:Nat} {c x y:PySem.Expr} {pos:Pos} {b:Bool} {v:Value} (h1:Et (model prog w) A env g d o H T c b T1) (hb:b=true) (h2:Ev (model prog w) A env g d o H T1 x v T2):Ev (model prog w) A env g d o H T (.IfExp c x y pos) v T2 :=
  fun _ _ h=>IfExp_ (h1 _ _ (by subst hb;exact h2 _ _ h))
theorem Ev.ifF {T T1 T2:Nat} {c x y:PySem.Expr} {pos:Pos} {b:Bool} {v:Value} (h1:Et (model prog w) A env g d o H T c b T1) (hb:b=false) (h2:Ev (model prog w) A env g d o H T1 y v T2):Ev (model prog w) A env g d o H T (.IfExp c x y pos) v T2 :=
  fun _ _ h=>IfExp_ (h1 _ _ (by subst hb;exact h2 _ _ h))
theorem Et.cmp {T T1 T2:Nat} {op:CmpOp} {x y:PySem.Expr} {pos:Pos} {a b:Int} {t u:Tok} {c:Bool} (hm:behindInMarks op y=false) (h1:Ev (model prog w) A env g d o H T x (.int a t) T1) (h2:Ev (model prog w) A env g d o H T1 y (.int b u) T2) (hc:cmpI op a b=some c):Et (model prog w) A env g d o H T (.Compare x [op] [y] pos) c T2 :=
  fun _ _ h=>wpAny_isTrue_Compare1 (h1 _ _ (h2 _ _ (by
    cases op <;> first|(cases hc;done)|skip
    · cases hc;exact PyProof.Rows.eq_int (wpAny_truthy_bool h)
    · cases hc;exact PyProof.Rows.ne_int (wpAny_truthy_bool h)
    · cases hc;exact PyProof.Rows.lt_int (wpAny_truthy_bool h)
    · cases hc;exact PyProof.Rows.gt_int (wpAny_truthy_bool h)))) hm
theorem Et.eqS {T T1 T2:Nat} {x y:PySem.Expr} {pos:Pos} {a b:Str} {t u:Tok} {c:Bool} (hm:behindInMarks .Eq y=false) (h1:Ev (model prog w) A env g d o H T x (.str a t) T1) (h2:Ev (model prog w) A env g d o H T1 y (.str b u) T2) (hc:(a == b)=c):Et (model prog w) A env g d o H T (.Compare x [.Eq] [y] pos) c T2 :=
  fun _ _ h=>wpAny_isTrue_Compare1 (h1 _ _ (h2 _ _ (PyProof.Rows.eq_str (wpAny_truthy_bool (by rw [hc];exact h))))) hm
theorem Et.not {T T1:Nat} {x:PySem.Expr} {pos:Pos} {b:Bool} (h1:Et (model prog w) A env g d o H T x b T1):Et (model prog w) A env g d o H T (.UnaryOp .Not x pos) (!b) T1 :=
  fun _ _ h=>isTrue_not (h1 _ _ h)
theorem callK {Q E:Value→Shared→Prop} {m:Str→Option Value} (hE:Fn env L) (G:Gl w h₀) (F:Fr h₀ L H m) {x:Str} {p1 pos:Pos} {a:Addr} {e:PySem.Expr} {es:List PySem.Expr} {vs:List Value} {T T':Nat}
    (hx:env.kindOf x=some .globalImplicit) (hn:Kf w x a) (hp:(e::es).all plainE=true)
    (hs:Es (model prog w) A env g d o H T (e::es) vs T') (h:wpAny (model prog w) A (call (.ref a) vs) Q E ⟨H,g,d,T',o⟩):wpAny (model prog w) A (eval (.Call (.Name x p1) (e::es) [] pos) env) Q E ⟨H,g,d,T,o⟩ :=
  have hp':=(Bool.and_eq_true _ _).mp hp
  Call_ (glob_name (s:=⟨H,g,d,T,o⟩) hE G F hx hn (callWith_K G.1 hn.2.1 (hs _ _ _ ⟨G.1.keeps F.keep,h⟩) (star_plain hp'.1) (stars_plain hp'.2)))
theorem callB {Q E:Value→Shared→Prop} {m:Str→Option Value} (hE:Fn env L) (G:Gl w h₀) (F:Fr h₀ L H m) {x:Str} {p1 pos:Pos} {f:String} {e:PySem.Expr} {es:List PySem.Expr} {vs:List Value} {T T':Nat}
    (hx:env.kindOf x=some .globalImplicit) (hn:Kb w x (.builtin f)) (hp:(e::es).all plainE=true)
    (hs:Es (model prog w) A env g d o H T (e::es) vs T') (h:wpAny (model prog w) A (call (.builtin f) vs) Q E ⟨H,g,d,T',o⟩):wpAny (model prog w) A (eval (.Call (.Name x p1) (e::es) [] pos) env) Q E ⟨H,g,d,T,o⟩ :=
  have hp':=(Bool.and_eq_true _ _).mp hp
  Call_ (glob_builtin (s:=⟨H,g,d,T,o⟩) hE G F hx hn (PyProof.Rows.callWith_builtin1 (hs _ _ _ h) (star_plain hp'.1) (stars_plain hp'.2)))
theorem callT {Q E:Value→Shared→Prop} {m:Str→Option Value} (hE:Fn env L) (G:Gl w h₀) (F:Fr h₀ L H m) {x:Str} {p1 pos:Pos} {f:String} {e:PySem.Expr} {es:List PySem.Expr} {vs:List Value} {T T':Nat}
    (hx:env.kindOf x=some .globalImplicit) (hn:Kb w x (.type f)) (hp:(e::es).all plainE=true)
    (hs:Es (model prog w) A env g d o H T (e::es) vs T') (h:wpAny (model prog w) A (call (.type f) vs) Q E ⟨H,g,d,T',o⟩):wpAny (model prog w) A (eval (.Call (.Name x p1) (e::es) [] pos) env) Q E ⟨H,g,d,T,o⟩ :=
  have hp':=(Bool.and_eq_true _ _).mp hp
  Call_ (glob_builtin (s:=⟨H,g,d,T,o⟩) hE G F hx hn (PySem.Pv.callWith_type1 (hs _ _ _ h) (star_plain hp'.1) (stars_plain hp'.2)))
end
section
variable {prog:Program} {w:World} {A:Around} {env:Env} {g:Array GenState} {d:Drawn} {o:OsState} {h₀:Heap} {L:Addr} {H:Heap}
theorem Ep.st {n:Nat} {pos:Pos} {x:Str}:Ep (model prog w) A env g d o H (.Constant (.str x) n pos) x.length:=fun _ _ _ h=>Calls.Constant_str (h _ _ _ (Nat.le_refl _))
theorem Ep.fs {e:PySem.Expr} {pos:Pos} {x:Str} {t:Nat→Tok} {n:Nat→Nat} (h1:∀ T,Ev (model prog w) A env g d o H T e (.str x (t T)) (n T)) (hz:x.length≤sizeLine):Ep (model prog w) A env g d o H (.FormattedValue e (-1) none pos) x.length :=
  fun T _ _ h=>FormattedValue_plain (h1 T _ _ (formatField_str (fun _ _=>h _ _ _ (Nat.le_refl _)) hz))
theorem Ep.fi {e:PySem.Expr} {pos:Pos} {a:Int} {t:Nat→Tok} {n:Nat→Nat} (h1:∀ T,Ev (model prog w) A env g d o H T e (.int a (t T)) (n T)) (ha:-100000 < a∧a < 100000):Ep (model prog w) A env g d o H (.FormattedValue e (-1) none pos) 1921 :=
  have hs:a.natAbs.log2 < 1920:=shown (N:=2 ^ 1920) (Int.lt_of_le_of_lt (by decide) ha.1) (Int.lt_of_lt_of_le ha.2 (by decide)) (Int.le_refl _)
  fun T _ _ h=>FormattedValue_plain (h1 T _ _ (wpAny_formatField_int hs (h _ _ _ (int_text_len_1921 hs))))
theorem Jp.nil:Jp (model prog w) A env g d o H [] 0:=fun _ _ _ _ hz h=>joinParts_nil (h _ _ _) hz
theorem Jp.cons {e:PySem.Expr} {es:List PySem.Expr} {k n:Nat} (h1:Ep (model prog w) A env g d o H e k) (h2:Jp (model prog w) A env g d o H es n):Jp (model prog w) A env g d o H (e::es) (k + n) :=
  fun T out Q E hz h=>joinParts_consE (joinParts_cons (h1 T _ _ fun y t T' hy=>by
    have hl:(out++y).length=out.length + y.length:=strLen_append _ _
    exact ⟨by omega,h2 T' _ _ _ (by omega) h⟩))
theorem callX {Q E:Value→Shared→Prop} {m:Str→Option Value} (hE:Fn env L) (G:Gl w h₀) (F:Fr h₀ L H m) {x:Str} {p1 p2 pos:Pos} {a:Addr} {e1 e2 e3:PySem.Expr} {es:List PySem.Expr} {v:Value} {k T:Nat}
    (hx:env.kindOf x=some .globalImplicit) (hn:Kf w x a) (hp:plainE e3=true) (hj:Jp (model prog w) A env g d o H (e1::e2::es) k) (hz:Nat.ble k sizeLine=true) (h2:∀ T,Ev (model prog w) A env g d o H T e3 v T)
    (h:∀ y t T',wpAny (model prog w) A (call (.ref a) [.str y t,v]) Q E ⟨H,g,d,T',o⟩):wpAny (model prog w) A (eval (.Call (.Name x p1) [.JoinedStr (e1::e2::es) p2,e3] [] pos) env) Q E ⟨H,g,d,T,o⟩ :=
  Call_ (glob_name (s:=⟨H,g,d,T,o⟩) hE G F hx hn (callWith_K G.1 hn.2.1 (spliced_more (JoinedStr_many (hj T _ _ _ (by show 0 + k≤sizeLine;rw [Nat.zero_add];exact Nat.le_of_ble_eq_true hz) fun y t T' =>
    spliced_more (h2 T' _ _ (spliced_none ⟨G.1.keeps F.keep,h y t T'⟩)) (star_plain hp))) rfl) rfl (by rw [star_plain hp];rfl)))
end
section
variable {M:Model} {A:Around} {E:Value→Shared→Prop} {g:Array GenState} {d:Drawn} {o:OsState} {h₀:Heap} {L a:Addr} {cn:Str} {cs:Scope} {ccd:Value} {cl:List (Str×Addr)} {H:Heap} {T:Nat} {m:Str→Option Value} {news:List (Addr×Obj)}
theorem storeN (hk:cs.kind=.function) {x:Str} {v:Value} {Q:Unit→Shared→Prop} (F:Fr h₀ L H m) (N:News h₀ L H news) (hx:(envX cn cs L a ccd cl).kindOf x=some .local)
    (h:∀ h',Fr h₀ L h' (fun y=>if y=x then some v else m y)→News h₀ L h' news→Q () ⟨h',g,d,T + 1,o⟩):wpAny M A (storeName (envX cn cs L a ccd cl) x v) Q E ⟨H,g,d,T,o⟩:=storeX_L (s:=⟨H,g,d,T,o⟩) F N h hk hx
theorem tupN {vs:List Value} {Q:Value→Shared→Prop} (F:Fr h₀ L H m) (N:News h₀ L H news) (hz:vs.length≤sizeLine)
    (h:∀ D h',Fr h₀ L h' m→News h₀ L h' ((D,({ cls:=.type "tuple",data:=.seq vs.toArray }:Obj))::news)→(∀ p∈news,p.1 < D)→Q (.ref D) ⟨h',g,d,T,o⟩):wpAny M A (newTuple vs) Q E ⟨H,g,d,T,o⟩:=kup_newTuple (s:=⟨H,g,d,T,o⟩) F N h hz
theorem listN {vs:List Value} {Q:Value→Shared→Prop} (F:Fr h₀ L H m) (N:News h₀ L H news) (hz:vs.length≤sizeLine)
    (h:∀ l h',Fr h₀ L h' m→News h₀ L h' ((l,listOf vs.toArray 0)::news)→(∀ p∈news,p.1 < l)→Q (.ref l) ⟨h',g,d,T,o⟩):wpAny M A (newList vs) Q E ⟨H,g,d,T,o⟩:=newList_K (s:=⟨H,g,d,T,o⟩) F N h hz
end
section
variable {prog:Program} {w:World} {A:Around} {E:Value→Shared→Prop} {env:Env} {g:Array GenState} {d:Drawn} {o:OsState} {h₀:Heap} {L:Addr} {H:Heap}
theorem seqA {m:Str→Option Value} {news:List (Addr×Obj)} (hE:Fn env L) (F:Fr h₀ L H m) (N:News h₀ L H news) {x:Str} {p1 pos:Pos} {e:PySem.Expr} {r:List Stmt} {v:Value} {T T1:Nat} {Q:Flow→Shared→Prop}
    (hx:env.kindOf x=some .local) (hs:swapsWith e (some (.Name x p1)) pos.line env=pure false) (h1:Ev (model prog w) A env g d o H T e v T1)
    (h:∀ h',Fr h₀ L h' (fun y=>if y=x then some v else m y)→News h₀ L h' news→wpAny (model prog w) A (execs r env) Q E ⟨h',g,d,T1 + 1,o⟩):wpAny (model prog w) A (execs (.Assign [.Name x p1] e pos::r) env) Q E ⟨H,g,d,T,o⟩ :=
  wpAny_execs_cons (wpAny_Assign_Name (h1 _ _ (wpAny_storeName_local (s:=⟨H,g,d,T1,o⟩) hx (by rw [hE.2.1];exact F.ns) (fun h' hn hs=>h h' (F.set (by rw [hE.2.1] at hn;exact hn) (by rw [hE.2.1] at hs;exact hs)) (N.set (by rw [hE.2.1] at hs;exact hs)))
    (by rw [hE.1];rfl))) hs)
theorem seqR {e:PySem.Expr} {pos:Pos} {r:List Stmt} {v:Value} {T T1:Nat} {Q:Flow→Shared→Prop} (h1:Ev (model prog w) A env g d o H T e v T1) (h:Q (.ret v) ⟨H,g,d,T1,o⟩):wpAny (model prog w) A (execs (.Return (some e) pos::r) env) Q E ⟨H,g,d,T,o⟩ :=
  wpAny_execs_cons (wpAny_Return_some (h1 _ _ h))
theorem seqF {c:PySem.Expr} {body r:List Stmt} {pos:Pos} {b:Bool} {T T1:Nat} {Q:Flow→Shared→Prop} (h1:Et (model prog w) A env g d o H T c b T1) (hb:b=false) (h:wpAny (model prog w) A (execs r env) Q E ⟨H,g,d,T1,o⟩):wpAny (model prog w) A (execs (.If c body [] pos::r) env) Q E ⟨H,g,d,T,o⟩ :=
  wpAny_execs_cons (wpAny_If (h1 _ _ (by subst hb;exact wpAny_execs_nil h)))
theorem seqI {c:PySem.Expr} {body orelse r:List Stmt} {pos:Pos} {b:Bool} {T T1:Nat} {Q:Flow→Shared→Prop} (h1:Et (model prog w) A env g d o H T c b T1)
    (h:if b=true then wpAny (model prog w) A (execs body env) (fun f s'=>match f with|.next=>wpAny (model prog w) A (execs r env) Q E s'|f=>Q f s') E ⟨H,g,d,T1,o⟩ else wpAny (model prog w) A (execs orelse env) (fun f s'=>match f with|.next=>wpAny (model prog w) A (execs r env) Q E s'|f=>Q f s') E ⟨H,g,d,T1,o⟩):wpAny (model prog w) A (execs (.If c body orelse pos::r) env) Q E ⟨H,g,d,T,o⟩ :=
  wpAny_execs_cons (wpAny_If (h1 _ _ h))
theorem Et.call {T T1:Nat} {f:PySem.Expr} {as:List PySem.Expr} {kw:List Keyword} {pos:Pos} {b:Bool} (h1:Ev (model prog w) A env g d o H T (.Call f as kw pos) (.bool b) T1):Et (model prog w) A env g d o H T (.Call f as kw pos) b T1 :=
  fun _ _ h=>isTrue_plain (h1 _ _ (wpAny_truthy_bool h))
theorem tupE {es:List PySem.Expr} {k:Nat} {pos:Pos} {vs:List Value} {T T1:Nat} {Q:Value→Shared→Prop} (h1:Es (model prog w) A env g d o H T es vs T1) (h:wpAny (model prog w) A (newTuple vs) Q E ⟨H,g,d,T1,o⟩):wpAny (model prog w) A (eval (.Tuple es k pos) env) Q E ⟨H,g,d,T,o⟩:=Tuple_ (h1 _ _ _ h)
theorem listE {es:List PySem.Expr} {pos:Pos} {vs:List Value} {T T1:Nat} {Q:Value→Shared→Prop} (h1:Es (model prog w) A env g d o H T es vs T1) (h:wpAny (model prog w) A (newList vs) Q E ⟨H,g,d,T1,o⟩):wpAny (model prog w) A (eval (.List es pos) env) Q E ⟨H,g,d,T,o⟩:=List_ (h1 _ _ _ h)
theorem sliceU {e:PySem.Expr} {pos:Pos} {v:Value} {T T1:Nat} {s1:Shared} {Q:Value→Shared→Prop} (h1:Ev (model prog w) A env g d o H T e v T1) (e1:s1=⟨H,g,d,T1,o⟩) (h:Q (.ref s1.heap.objs.size) { s1 with heap:=s1.heap.push { cls:=.type "slice",data:=.fields #[.none,v,.none] } }):wpAny (model prog w) A (eval (.Slice none (some e) none pos) env) Q E ⟨H,g,d,T,o⟩:=by
  subst e1;exact
  wpAny_Slice (evalPart_none_step (evalPart_some_step (h1 _ _ (evalPart_none_step h))))
theorem sliceL {e:PySem.Expr} {pos:Pos} {v:Value} {T T1:Nat} {s1:Shared} {Q:Value→Shared→Prop} (h1:Ev (model prog w) A env g d o H T e v T1) (e1:s1=⟨H,g,d,T1,o⟩) (h:Q (.ref s1.heap.objs.size) { s1 with heap:=s1.heap.push { cls:=.type "slice",data:=.fields #[v,.none,.none] } }):wpAny (model prog w) A (eval (.Slice (some e) none none pos) env) Q E ⟨H,g,d,T,o⟩:=by
  subst e1;exact
  wpAny_Slice (evalPart_some_step (h1 _ _ (evalPart_none_step (evalPart_none_step h))))
end
section
variable {prog:Program} {w:World} {n:Nat} {outer:List Env} {base:Heap} {s:Shared} {R:Result→Shared→Prop} {f:Addr} {args:Args} {binds:List (Str×Value)}
  {name qual:Str} {params:Arguments} {body:List Stmt} {scope:Scope} {dV kV doc pm cdv ct oc:Value} {an od:Option Addr} {osl:Array (Option Value)}
theorem enterZ (W:Wd w base) (B:Below (Ak n outer) base outer s.heap) (hid:List (Addr×Obj))
    (hN:∀ p∈hid,s.heap.get? p.1=some p.2∧base.get? p.1=none∧p.1∉outer.filterMap (·.frame))
    (ho:(Kt w.params).lookup f=some ⟨oc,od,.func (fnOf name qual params body scope dV kV doc pm an cdv ct),osl⟩) (hcd:codeIn (Kt w.params) cdv qual=true)
    (hroom:(Ak n outer).depth < recursionLimit)
    (hbind:BindsTo s (fnOf name qual params body scope dV kV doc pm an cdv ct) args binds) (hloc:∀ y∈binds,scope.names.lookup y.1=some .local)
    (h:∀ h₁ p loose mean mg mb,Fr (hideAll s.heap (hid.map (·.1))) s.heap.objs.size h₁ (fun y=>binds.reverse.lookup y)→News (hideAll s.heap (hid.map (·.1))) s.heap.objs.size h₁ hid→Below (Ak n outer) base outer (hideAll s.heap (hid.map (·.1))) →
      (Kt w.params).In (hideAll s.heap (hid.map (·.1)))→Top p loose mean mg mb (hideAll s.heap (hid.map (·.1)))→AllLt s.heap.objs.size hid →
      ∀ tk:Nat,wpAny (model PySem.Challenge.rw_nz0031_01.row.prog w) ((Ak n outer).deeper (envOf qual scope s.heap.objs.size f cdv)) (execs body (envOf qual scope s.heap.objs.size f cdv))
        (fun fl s'=>R (.ok (.ret (match fl with|.ret v=>v|_=>.none))) s')
        (fun e s'=>wpAny (model PySem.Challenge.rw_nz0031_01.row.prog w) ((Ak n outer).deeper (envOf qual scope s.heap.objs.size f cdv)) (leaving (envOf qual scope s.heap.objs.size f cdv) e) (fun _ s''=>R (.error e) s'') (fun e' s''=>R (.error e') s'') s')
        { s with heap:=h₁,toks:=tk })
    (hcell:∀ x∈scope.names,x.2≠.cell) (hco:scope.isCoroutine=false) (hgen:scope.isGenerator=false) (hk:scope.kind=.function) :
    codeAny (model PySem.Challenge.rw_nz0031_01.row.prog w) (Ak n outer) (.call (.ref f) args) R s :=
  enter W B hid hN ho hcd hroom hbind hloc (fun L h₁ p loose mean mg mb F N B X T l e tk=>by subst e;exact h h₁ p loose mean mg mb F N B X T l tk) hcell hco hgen hk
end
example:True:=by
  k_with_none
  k_with "w k_mem"=>(first|exact mm0|exact mm1|exact mm2|exact mm3|exact mm4|exact mm5|exact mm6|exact mm7|exact mm8|exact mm9|exact mm10|exact mm11|exact mm12|exact mm13|exact mm14|exact mm15)
  k_with "w k_all"=>(first|exact List.forall_mem_nil _|(refine' fc ?a_ ?b_;(case a_=>k_ne);(case b_=>k_all)))
  k_with "m gl"=>(first|with_reducible assumption|exact gl_of (by assumption) (by assumption))
  k_with "m tup"=>(first|exact News.isTup (by k_asm) (by k_mem)|with_reducible assumption|exact IsTup.keeps (by with_reducible assumption) (Fr.keep (by k_asm)))
  k_with "m lst"=>(first|exact News.isList (by k_asm) (by k_mem)|with_reducible assumption)
  k_with "m kf"=>(first|with_reducible exact kf116 _|with_reducible exact kf137 _|with_reducible exact kf144 _|with_reducible exact kf151 _|with_reducible exact kf172 _|with_reducible exact kf179 _|with_reducible exact kf200 _|with_reducible exact kf389 _|with_reducible exact kf394 _|with_reducible exact kf408 _|with_reducible exact kf415 _|with_reducible exact kf422 _|with_reducible exact kf429 _|with_reducible exact kf434 _|with_reducible exact kf439 _|with_reducible exact kf446 _|with_reducible exact kf451 _|with_reducible exact kf458 _|with_reducible exact kf356 _)
  k_with "m kb"=>(first|with_reducible exact kb_len _|with_reducible exact kb_isinstance _|with_reducible exact kb_tuple _|with_reducible exact kb_list _|with_reducible exact kb_range _|with_reducible exact kb_int _|with_reducible exact kb_max _|with_reducible exact kb_zip _)
  k_with "m fn"=>(exact ⟨rfl,rfl,rfl,rfl⟩)
  k_with "m nv"=>(first|exact rfl|with_reducible assumption)
  k_with "m ev"=>(first
  | ((with_reducible show Ev _ _ _ _ _ _ _ _ (PySem.Expr.Name _ _) _ _);first|((with_reducible apply Ev.nm);(case F=>k_asm);(case hE=>k_extra "m fn");(case hx=>exact rfl);(case hv=>k_extra "m nv");(case hd=>kernel_rfl!))|((with_reducible apply Ev.cell);(case N=>k_asm);(case hE=>k_extra "m fn");(case hx=>exact rfl);(case hd=>kernel_rfl!);(case hc=>exact rfl);(case hm=>k_mem);(case hv=>k_asm))|((with_reducible apply Ev.free);(case N=>k_asm);(case hE=>k_extra "m fn");(case hx=>exact rfl);(case hd|hn=>kernel_rfl!);(case hc=>first|with_reducible assumption|exact rfl);(case hm=>k_mem);(case hv=>k_asm))|((with_reducible apply Ev.glob);(case e=>k_extra "m kf");(case F=>k_asm);(case hE=>k_extra "m fn");(case G=>k_extra "m gl");(case hx=>exact rfl))|((with_reducible apply Ev.bui);(case e=>k_extra "m kb");(case F=>k_asm);(case hE=>k_extra "m fn");(case G=>k_extra "m gl");(case hx=>exact rfl)))
  | with_reducible exact Ev.num
  | with_reducible exact Ev.st
  | with_reducible exact Ev.non
  | with_reducible exact Ev.boo
  | ((with_reducible show Ev _ _ _ _ _ _ _ _ (PySem.Expr.Subscript _ (PySem.Expr.Constant (.int _) _ _) _) _ _);((with_reducible apply Ev.at);(case h1=>k_extra "m ev");(case ht=>k_extra "m tup");(case hv=>exact rfl)))
  | ((with_reducible show Ev _ _ _ _ _ _ _ _ (PySem.Expr.Subscript _ _ _) _ _);((with_reducible apply Ev.atG);(case h1|h2=>k_extra "m ev");(case hc=>intro Q9 E9 h9;k_extra "m now";exact h9)))
  | ((with_reducible show Ev _ _ _ _ _ _ _ _ (PySem.Expr.Call (PySem.Expr.Name (Str.ofString "len") _) [_] _ _) _ _);((with_reducible apply Ev.len);(case hs=>kernel_rfl!);(case h1=>k_extra "m ev");(case F=>k_asm);(case hE=>k_extra "m fn");(case G=>k_extra "m gl");(case hx=>kernel_rfl!);(case hc=>intro Q9 E9 h9;k_extra "m now";exact h9)))
  | ((with_reducible show Ev _ _ _ _ _ _ _ _ (PySem.Expr.Call (PySem.Expr.Name (Str.ofString "isinstance") _) [_,_] _ _) _ _);((with_reducible apply Ev.isi);(case hp=>kernel_rfl!);(case h1|h2=>k_extra "m ev");(case F=>k_asm);(case hE=>k_extra "m fn");(case G=>k_extra "m gl");(case hx=>kernel_rfl!);(case hc=>intro Q9 E9 h9;k_extra "m now";exact h9)))
  | ((with_reducible show Ev _ _ _ _ _ _ _ _ (PySem.Expr.BinOp _ .Add _ _) _ _);((with_reducible apply Ev.add);(case h1|h2=>k_extra "m ev")))
  | ((with_reducible show Ev _ _ _ _ _ _ _ _ (PySem.Expr.BinOp _ .Sub _ _) _ _);((with_reducible apply Ev.sub);(case h1|h2=>k_extra "m ev")))
  | ((with_reducible show Ev _ _ _ _ _ _ _ _ (PySem.Expr.UnaryOp .USub _ _) _ _);((with_reducible apply Ev.neg);k_extra "m ev"))
  | ((with_reducible show Ev _ _ _ _ _ _ _ _ (PySem.Expr.IfExp _ _ _ _) _ _);first|((with_reducible apply Ev.ifT);(case h1=>k_extra "m et");(case hb=>exact rfl);(case h2=>k_extra "m ev"))|((with_reducible apply Ev.ifF);(case h1=>k_extra "m et");(case hb=>exact rfl);(case h2=>k_extra "m ev"))))
  k_with "m now"=>(walk1)
  k_with "m et"=>(first
  | ((with_reducible first|show Et _ _ _ _ _ _ _ _ (PySem.Expr.Compare _ [.Lt] [_] _) _ _|show Et _ _ _ _ _ _ _ _ (PySem.Expr.Compare _ [.Eq] [_] _) _ _|show Et _ _ _ _ _ _ _ _ (PySem.Expr.Compare _ [.NotEq] [_] _) _ _|show Et _ _ _ _ _ _ _ _ (PySem.Expr.Compare _ [.Gt] [_] _) _ _);((with_reducible apply Et.cmp);(case h1|h2=>k_extra "m ev");(case hm=>kernel_rfl!);(case hc=>exact rfl)))
  | ((with_reducible show Et _ _ _ _ _ _ _ _ (PySem.Expr.Compare _ [.Eq] [_] _) _ _);((with_reducible apply Et.eqS);(case h1|h2=>k_extra "m ev");(case hm=>kernel_rfl!);(case hc=>first|exact (rfl:_=true)|exact (rfl:_=false)|exact rfl)))
  | ((with_reducible show Et _ _ _ _ _ _ _ _ (PySem.Expr.UnaryOp .Not _ _) _ _);((with_reducible apply Et.not);k_extra "m et"))
  | ((with_reducible show Et _ _ _ _ _ _ _ _ (PySem.Expr.Call _ _ _ _) _ _);((with_reducible apply Et.call);k_extra "m ev")))
  k_with "m es"=>(first
  | with_reducible exact Es.nil
  | ((with_reducible show Es _ _ _ _ _ _ _ _ (_::_) _ _);((with_reducible apply Es.cons);(case hp=>kernel_rfl!);(case h1=>k_extra "m ev");(case h2=>k_extra "m es"))))
  k_with "m evu"=>((k_here;k_dflt (refine' evU ?e_ ?_;(case e_=>k_extra "m ev");k_whole)))
  k_with "m etu"=>((k_here;k_dflt (refine' etU ?e_ ?_;(case e_=>k_extra "m et");k_whole)))
  k_with "w eval Name"=>(k_extra "m evu")
  k_with "w eval Subscript"=>(k_extra "m evu")
  k_with "w eval BinOp"=>(k_extra "m evu")
  k_with "w eval UnaryOp"=>(k_extra "m evu")
  k_with "w eval IfExp"=>(k_extra "m evu")
  k_with "w eval Constant"=>(k_extra "m evu")
  k_with "w isTrue Compare"=>(k_extra "m etu")
  k_with "w isTrue UnaryOp"=>(k_extra "m etu")
  k_with "w eval Call Name"=>((k_here;k_dflt (first|((with_reducible refine' callB ?E_ ?G_ ?F_ ?x_ ?n_ ?p_ ?s_ ?_);(case n_=>k_extra "m kb");(case p_=>kernel_rfl!);(case s_=>k_extra "m es");(case F_=>k_asm);(case E_=>k_extra "m fn");(case G_=>k_extra "m gl");(case x_=>kernel_rfl!);k_whole)|((with_reducible refine' callT ?E_ ?G_ ?F_ ?x_ ?n_ ?p_ ?s_ ?_);(case n_=>k_extra "m kb");(case p_=>kernel_rfl!);(case s_=>k_extra "m es");(case F_=>k_asm);(case E_=>k_extra "m fn");(case G_=>k_extra "m gl");(case x_=>kernel_rfl!);k_whole))))
  k_with "w eval Call Name"=>((k_here;k_dflt ((with_reducible refine' callK ?E_ ?G_ ?F_ ?x_ ?n_ ?p_ ?s_ ?_);(case n_=>k_extra "m kf");(case p_=>kernel_rfl!);(case s_=>k_extra "m es");(case F_=>k_asm);(case E_=>k_extra "m fn");(case G_=>k_extra "m gl");(case x_=>kernel_rfl!);k_whole)))
  k_with "w eval Call Name"=>((k_here;k_dflt ((with_reducible refine' callX ?E_ ?G_ ?F_ ?x_ ?n_ ?p_ ?j_ ?z_ ?f_ ?_);(case n_=>k_extra "m kf");(case p_=>kernel_rfl!);(case j_=>k_extra "m jp");(case f_=>intro T9;k_extra "m ev");(case z_=>kernel_rfl!);(case F_=>k_asm);(case E_=>k_extra "m fn");(case G_=>k_extra "m gl");(case x_=>kernel_rfl!);k_whole);intro y9 t9 T9))
  k_with "w eval Call Name"=>(k_extra "m evu")
  k_with "m int"=>(omega)
  k_with "m ep"=>(first
  | with_reducible exact Ep.st
  | ((with_reducible show Ep _ _ _ _ _ _ _ (PySem.Expr.FormattedValue _ _ _ _) _);first|((with_reducible apply Ep.fs);(case h1=>intro T9;k_extra "m ev");(case hz=>exact Nat.le_of_ble_eq_true rfl))|((with_reducible apply Ep.fi);(case h1=>intro T9;k_extra "m ev");(case ha=>k_extra "m int"))))
  k_with "m jp"=>(first
  | with_reducible exact Jp.nil
  | ((with_reducible show Jp _ _ _ _ _ _ _ (_::_) _);((with_reducible apply Jp.cons);(case h1=>k_extra "m ep");(case h2=>k_extra "m jp"))))
  k_with "w execs cons Assign"=>((k_here;(try k_gentoks);k_dflt ((with_reducible refine' seqA ?E_ ?F_ ?N_ ?x_ ?s_ ?e_ ?_);(case e_=>k_extra "m ev");(case F_|N_=>k_asm);(case E_=>k_extra "m fn");(case x_=>kernel_rfl!);(case s_=>exact rfl);k_whole);intro h' F' N';(try k_sweep)))
  k_with "w execs cons Return"=>((k_here;(try k_gentoks);k_dflt ((with_reducible refine' seqR ?e_ ?_);(case e_=>k_extra "m ev");k_whole)))
  k_with "w execs cons If"=>((k_here;(try k_gentoks);k_dflt ((with_reducible refine' seqI ?e_ ?_);(case e_=>k_extra "m et");k_whole)))
  k_with "w execs cons If"=>((k_here;(try k_gentoks);k_dflt ((with_reducible refine' seqF ?e_ ?b_ ?_);(case e_=>k_extra "m et");(case b_=>exact (rfl:_=false));k_whole)))
  k_with "w eval Tuple"=>((k_here;k_dflt ((with_reducible refine' tupE ?e_ ?_);(case e_=>k_extra "m es");k_whole)))
  k_with "w eval List"=>((k_here;k_dflt ((with_reducible refine' listE ?e_ ?_);(case e_=>k_extra "m es");k_whole)))
  k_with "w eval Slice"=>((k_here;k_dflt (first|((with_reducible refine' sliceU ?e_ ?r_ ?_);(case e_=>k_extra "m ev");(case r_=>exact rfl);k_whole)|((with_reducible refine' sliceL ?e_ ?r_ ?_);(case e_=>k_extra "m ev");(case r_=>exact rfl);k_whole))))
  k_with "w storeName"=>((k_here;k_dflt (refine' storeN ?k_ ?F_ ?N_ ?x_ ?_;(case F_|N_=>k_asm);(case k_|x_=>rfl);k_whole;intro h' F' N';(try k_sweep))))
  k_with "w newTuple"=>((k_here;k_dflt (refine' tupN ?F_ ?N_ ?z_ ?_;(case F_|N_=>k_asm);(case z_=>kmk_size));intro D' h' F' N' l1;(try k_lt l1);(try k_sweep)))
  k_with "w newList"=>((k_here;k_dflt (refine' listN ?F_ ?N_ ?z_ ?_;(case F_|N_=>k_asm);(case z_=>size_fits);k_whole);intro l' h' F' N' l1;(try k_lt l1);(try k_sweep)))
  trivial
variable {L V R D dd fd It S c0 pl T P0 D1 self sd dct P1 c1 A1 r D0 c' cn a1 so tt I ca a0:Addr} {h base h0 h' h₀ g0 g' g₀:Heap} {news objs hid:List (Addr×Obj)} {w:World} {m mg mb m₀:Str→Option Value} {vs vsV vs' vs0 ys vs1 rest us:List Value} {s s₁:Shared} {Q E:Value→Shared→Prop} {A A₀:Around} {outer:List Env} {l l' ns nsV l0:List Int} {n nv i tk cV cS cp:Nat} {env:Env} {lo hi sp k x y lo1 hi1 ln co kb:Int} {u t t1 u1 u0 t2 tsd u2 tx ty t' u' t0 tn u3:Tok} {xs:List Arg} {prog p:Program} {v f0 pm ctv:Value} {flt:Int→Prop} {two:Bool} {tp tp' items tp0 ps its:Array Value} {pos px:Pos} {cl:List (Str×Addr)} {x1:Arg} {fr fp:List Addr} {sc scope:Scope} {o o0 oD oa oc oI:Obj} {q name qual what:Str} {M:Model} {okV:Value→Prop} {iter value slice elt bd:PySem.Expr} {body:List Stmt} {loose:List Str} {mean:ExcName→Option Value} {sl:Array (Option Value)} {Rr:Result→Shared→Prop} {mk:Addr→List Value} {P:Prop} {elts:List PySem.Expr} {rs:List (Int×Int)} {G:Obj→List (Addr×Obj)}
example:True:=by
  k_with "y0"=>(lia)
  k_with "w omega"=>((fail_if_success k_extra "r0");k_extra "y0")
  trivial
theorem fmod_lo {a b:Int} (h:0 < b):0≤a.fmod b:=Int.fmod_nonneg_of_pos _ h
theorem fmod_hi {a b:Int} (h:0 < b):a.fmod b≤b - 1:=by have:=Int.fmod_lt_of_pos a h;omega
example:True:=by
  k_with "y1"=>((w_on;(have hfill:∀ w:World,(Kt w.params).length=(Kt w.params).length∧PySem.Challenge.rw_nz0031_01.foot=PySem.Challenge.rw_nz0031_01.foot:=by (k_fill;exact fun _=>⟨rfl,rfl⟩));clear hfill))
  k_with "m fill"=>(k_extra "y1")
  k_with "y2"=>((
    (refine wpAny_call ?_);
    k_dflt (refine' enter ?kW_ ?kB_ [(_,_)] ?k0_ ?ho_ ?hcd_ ?hroom_ ?hbind_ ?hloc_ ?_ ?c1_ ?c2_ ?c3_ ?c4_);
    (case kW_=>assumption);
    (case kB_=>assumption);
    (case k0_=>(intro p hp;rw [List.mem_singleton.mp hp];refine ⟨?_,?_,?_⟩ <;> assumption));
    (case ho_=>k_is);
    (case hcd_=>k_is);
    (case hroom_=>exact Nat.le_of_ble_eq_true rfl);
    (case hbind_=>exact BindsTo.of_eq rfl);
    (case hloc_=>exact locs rfl);
    (case c1_=>decide);
    (case c2_=>exact rfl);
    (case c3_=>exact rfl);
    (case c4_=>exact rfl);
    intro L h₁ p loose mean mg mb F N Bl X T lt eL tk;
    (dsimp only [List.map] at F N Bl X T);
    (try k_fold)))
  k_with "m enterF"=>((fail_if_success k_extra "r2");k_extra "y2")
  trivial
theorem draw_ok (w:World) (wide:Int) (tw:Tok) (hw0:0 < wide) (hw1:wide≤10000):DrawS w 10 408 (fun fd=>[.ref fd,.int wide tw]) 1 (PInt 0 (wide - 1)):=by
  intro outer base s Q E fd D o k W B ho FO hb hf hS C hk0 hk1 hret
  have hne:=FO.ne ho C
  have C2:CellsAt (hideAll s.heap [fd]) D:=C.keep fun _ e=>hideAll_get _ e (by simp [hne])
  obtain ⟨t3,hd'⟩:=FO
  obtain ⟨ws,ns,hL,hI,hlen⟩:=C2
  clear C
  k_extra "m fill"
  w_strict (
    k_extra "m enterF"
    k_steps
    all_goals (repeat (first|k_unfold|dsimp only))
    all_goals (refine hret _ _ _ _ _ ⟨_,_,rfl,fmod_lo hw0,fmod_hi hw0⟩ (Keep.of_fr (by assumption)) (News.get (by assumption) (by k_mem)) ⟨_,by assumption⟩ (by omega) (by omega)))
example:True:=by
  k_with "r0"=>(skip)
  trivial
theorem cls_E (X:(Kt w.params).In h):∃ nm q bs hdct sn sub ab col k0 k1 k2 k3 k5,h.get? 116=some (excClassObj nm q 116 115 bs bmE hdct sn sub ab col none k0 k1 k2 k3 k5 "Exception.__new__") :=
  ⟨_,_,_,_,_,_,_,_,_,_,_,_,_,X 116 _ rfl⟩
section
variable {w:World} {A:Around} {E:Value→Shared→Prop} {h:Heap} {g:Array GenState} {d:Drawn} {t:Nat} {os:OsState}
theorem exc_check_new {Q:Unit→Shared→Prop} {bm:List Value} {newId inN:String} {bmN:List Value} (Fn:ExcBaseFacts "Exception" newId inN bmN) {nm q bs hdct sn sub ab col k0 k1 k2 k3 k5 C N}
    (hcont:(Value.ref C::bm).contains (.type "Exception")=true) (hC:h.get? C=some (excClassObj nm q C N bs bm hdct sn sub ab col none k0 k1 k2 k3 k5 newId))
    (hq:Q () ⟨h,g,d,t,os⟩):wpAny M A (checkBuiltinCall newId ⟨.ref C::rest,[]⟩) Q E ⟨h,g,d,t,os⟩:=by
  have hstar:=Fn.noStar
  simp only [checkBuiltinCall,Fn.newKind,Fn.newSplit,Fn.newRow]
  repeat (first|refine wpAny_loadPart_at hC ?_|(refine wpAny_isSubtype_exc hC ?_;rw [hcont])|refine wpAny_staticBase_exc hC ?_|refine wpAny_madeBy_exc hC ?_|simp only [bne_self_eq_false,Bool.false_eq_true,if_false]|wp_step)
  exact hq
theorem exc_new {R:Result→Shared→Prop} {bm:List Value} {newId inN:String} {bmN:List Value} (Fn:ExcBaseFacts "Exception" newId inN bmN) {nm q bs hdct sn sub ab col k0 k1 k2 k3 k5 C N}
    (hcB:(Value.ref C::bm).contains (.type "Exception")=true) (hcA:(Value.ref C::bm).contains (.type "AttributeError")=false) (hcN:(Value.ref C::bm).contains (.type "NameError")=false)
    (hC:h.get? C=some (excClassObj nm q C N bs bm hdct sn sub ab col none k0 k1 k2 k3 k5 newId))
    (hq:R (.ok (.ret (.ref (h.objs.size + 1)))) ⟨(h.push { cls:=.type "tuple",data:=.seq rest.toArray }).push
      { cls:=.ref C,data:=.fields #[.ref h.objs.size,.none,.none,.none,.bool false,.none] },g,d,t,os⟩) (hrest:rest.length≤sizeLine) :
    codeAny (model PySem.Challenge.rw_nz0031_01.row.prog w) A (.builtin newId ⟨.ref C::rest,[]⟩) R ⟨h,g,d,t,os⟩:=by
  have hends:=Fn.ends
  refine codeAny_builtinAt Fn.entry ?_
  unfold Builtin.«BaseException.__new__»
  refine PySem.wpAt_bind ?_
  show PySem.wpAt _ _ _ (stack >>= _) _ _ _
  refine PySem.wpAt_bind (PySem.wpAt_stack fun p below=>PySem.wpAt_of_wpAny ?_)
  wp_walk
  refine PySem.wpAt_of_wpAny ?_
  rw [Fn.owner]
  repeat (first|with_reducible refine wpAny_madeHere_exc Fn.canon hC ?_|with_reducible refine wpAny_loadPart_at hC ?_|(with_reducible refine wpAny_isSubtype_exc hC ?_;first|rw [hcB]|rw [hcA]|rw [hcN])|wp_step)
  show R _ _
  rw [Heap.size_push]
  exact hq
end
section
variable {w:World} {A:Around} {E:Value→Shared→Prop} {h:Heap} {g:Array GenState} {d:Drawn} {t:Nat} {os:OsState}
theorem exc_type_call {Q:PySem.Fin→Shared→Prop} (X:(Kt w.params).In h) (hrest:rest.length≤sizeLine)
    (hq:wpAny (model PySem.Challenge.rw_nz0031_01.row.prog w) A (call (.ref 94) (.ref (h.objs.size + 1)::rest)) (fun r s'=>r=.none∧Q (.done (.ret (.ref (h.objs.size + 1)))) s') E
      ⟨(h.push { cls:=.type "tuple",data:=.seq rest.toArray }).push (excObj h.objs.size),g,d,t,os⟩) :
    wpAny (model PySem.Challenge.rw_nz0031_01.row.prog w) A (Builtin.«type.__call__» ⟨.ref 116::rest,[]⟩) Q E ⟨h,g,d,t,os⟩:=by
  obtain ⟨nm,q,bs,hdct,sn,sub,ab,col,k0,k1,k2,k3,k5,hC⟩:=cls_E X
  have Fn:=PySem.F.excBase_Exception
  repeat (first|with_reducible refine wpAny_loadPart_at hC ?_|with_reducible refine wpAny_madeBy_exc hC ?_|wp_step)
  refine codeAny_call_builtin_code (Code.quiet_builtin _ Fn.quiet) (exc_check_new Fn (by decide) hC ?_)
  refine exc_new Fn (by decide) (by decide) (by decide) hC ?_ hrest
  show wpAny _ _ _ _ _ _
  have k1':∀ b o,h.get? b=some o→((h.push { cls:=.type "tuple",data:=.seq rest.toArray }).push (excObj h.objs.size)).get? b=some o:=fun b o e=>Heap.get?_push_of_some _ (Heap.get?_push_of_some _ e)
  have hC₁:=k1' _ _ hC
  have X₁:=X.keeps k1'
  have hget:((h.push { cls:=.type "tuple",data:=.seq rest.toArray }).push (excObj h.objs.size)).get? (h.objs.size + 1)=some (excObj h.objs.size):=by heap_get
  have hcC:(Value.ref 116::bmE).contains (.ref 116)=true:=by simp
  unfold isInstance
  repeat (first|with_reducible refine wpAny_loadPart_at hget ?_|(with_reducible refine wpAny_isSubtype_exc hC₁ ?_;rw [hcC])|wp_step)
  show wpAny _ _ (typeLookup (.ref 116) "__init__") _ _ _
  refine Looks.at (looks_findIn X₁ (show findIn (Kt w.params) (.ref 116) "__init__"=some (some (.ref 94)) by kernel_rfl)) ?_
  dsimp only
  refine wpAny_holding (wpAny_bind (Looks.at (bind_fn X₁ _ (show typeIn (Kt w.params) (.ref 94)=some (.type "function") by kernel_rfl)) ?_))
  refine wpAny_bind (wpAny_mono hq (fun r s' hr=>?_) fun _ _ x=>x)
  obtain ⟨rfl,hQ⟩:=hr
  wp_walk
  exact hQ
theorem exc_call (X:(Kt w.params).In h) (hrest:rest.length≤sizeLine)
    (hq:wpAny (model PySem.Challenge.rw_nz0031_01.row.prog w) (A.under (.builtin "type.__call__" ⟨.ref 116::rest,[]⟩)) (call (.ref 94) (.ref (h.objs.size + 1)::rest)) (fun r s'=>r=.none∧Q (.ref (h.objs.size + 1)) s') E
      ⟨(h.push { cls:=.type "tuple",data:=.seq rest.toArray }).push (excObj h.objs.size),g,d,t,os⟩) :
    wpAny (model PySem.Challenge.rw_nz0031_01.row.prog w) A (call (.ref 116) rest) Q E ⟨h,g,d,t,os⟩:=by
  obtain ⟨nm,q,bs,hdct,sn,sub,ab,col,k0,k1,k2,k3,k5,hC⟩:=cls_E X
  have f1:=tc_lookup
  have f2:=tc_bind (.ref 116)
  have hT:(⟨h,g,d,t,os⟩:Shared).TypeIs (.ref 116) "type":=⟨_,hC,rfl⟩
  refine wpAny_call (codeAny_of_tree ?_)
  show wpAny _ _ (callAny (.ref 116) _) _ _ _
  repeat (any_goals (first|assumption|with_reducible refine wpAny_loadPart_at hC ?_|wp_step))
  refine ⟨rfl,?_⟩
  refine codeAny_call_builtin_at (Code.quiet_builtin _ (by decide +kernel)) entry_typeCall (wpAny_check_type_call_sub hC (exc_type_call X hrest ?_))
  exact hq
end
example:True:=by
  k_with "w omega"=>((fail_if_success k_extra "r3");k_extra "y0")
  trivial
theorem slot_wd_get:Slot "wrapper_descriptor" "__get__" "wrapper_descriptor.__get__" :=
  .of (owner:="wrapper_descriptor") (n:="__get__") (by rw [typeLookup_type,builtinLookup_eq_fast];kernel_rfl) (by decide +kernel) (by decide +kernel) (by decide +kernel)
    (by first|exact .inl (by decide +kernel)|exact .inr (by decide +kernel)) (by rw [isSubtype_type];kernel_rfl)
theorem entry_wd_get:entryFor table "wrapper_descriptor.__get__"=some Builtin.«wrapper_descriptor.__get__»:=entryFor_of_tree (by kernel_rfl)
theorem args_wd_get (a b c:Value):argsOk "wrapper_descriptor.__get__" ⟨[a,b,c],[]⟩:=by unfold argsOk;kernel_rfl
theorem id_init:(toString "Exception"++toString "."++toString (Str.ofString "__init__").toString)="Exception.__init__":=by decide +kernel
theorem own_init : ".".intercalate ("Exception.__init__".cutAt '.').dropLast="Exception":=by decide +kernel
theorem type_init:typeOf (.builtin "Exception.__init__")=pure (.type "wrapper_descriptor"):=by show builtinType _=_;rw [builtinType_eq_fast];kernel_rfl
section
variable {w:World} {A:Around} {E:Value→Shared→Prop} {h:Heap} {g:Array GenState} {d:Drawn} {t:Nat} {os:OsState}
theorem sup_ga {x:Addr} {ox:Obj} {tk:Tok} {Q:PySem.Fin→Shared→Prop} (X:(Kt w.params).In h)
    (hso:h.get? so=some { cls:=.type "super",dict:=none,data:=.fields #[.ref 75,.ref x,.ref 116],slots:=#[] }) (hx:h.get? x=some ox) (hxc:ox.cls=.ref 116) (hxC:x≠116)
    (hq:Q (.done (.ret (.ref h.objs.size))) ⟨h.push { cls:=.type "method-wrapper",data:=.fields #[.builtin "Exception.__init__",.ref x] },g,d,t,os⟩) :
    wpAny (model PySem.Challenge.rw_nz0031_01.row.prog w) A (Builtin.«super.__getattribute__» ⟨[.ref so,.str (Str.ofString "__init__") tk],[]⟩) Q E ⟨h,g,d,t,os⟩:=by
  obtain ⟨nm,q,bs,hdct,sn,sub,ab,col,k0,k1,k2,k3,k5,hC⟩:=cls_E X
  have hth:nsIn (Kt w.params) cStatics (Str.ofString "thirdparty.any")=some none:=by kernel_rfl
  have hno:Looks (model PySem.Challenge.rw_nz0031_01.row.prog w) h (opaqueClassAbove (.ref 116)) none:=looks_opaque X hth
  have hM:Looks (model PySem.Challenge.rw_nz0031_01.row.prog w) h (mroOf (.ref 116)) (.ref 116::bmE):=fun A Q E s k q=>by
    obtain ⟨hh,g',d',t',os'⟩:=s
    exact wpAny_mroOf_exc (k _ _ hC) q
  have hf:alongIn (Kt w.params) (Str.ofString "__init__") [.type "Exception",.type "BaseException",.type "object"]=some (some (.builtin "Exception.__init__")):=by kernel_rfl
  have hl:((Value.ref 116::bmE).dropWhile (· != .ref 75)).drop 1=[.type "Exception",.type "BaseException",.type "object"]:=by decide
  have hcE:(Value.ref 116::bmE).contains (.type "Exception")=true:=by decide
  have hne:(Value.ref x == Value.ref 116)=false:=by simp [hxC]
  have hTx:(⟨h,g,d,t,os⟩:Shared).TypeIs (.ref 116) "type":=⟨_,hC,rfl⟩
  have hdt:({ cls:=.type "super",dict:=none,data:=.fields #[.ref 75,.ref x,.ref 116],slots:=#[] }:Obj).data=.fields #[.ref 75,.ref x,.ref 116]:=rfl
  have f0:(#[.ref 75,.ref x,.ref 116]:Array Value)[0]?=some (.ref 75):=rfl
  have f1:(#[.ref 75,.ref x,.ref 116]:Array Value)[1]?=some (.ref x):=rfl
  have f2:(#[.ref 75,.ref x,.ref 116]:Array Value)[2]?=some (.ref 116):=rfl
  have hn:((Str.ofString "__init__") == ("__class__" : Str))=false:=by decide
  generalize Kt w.params=K0 at X hf hth
  unfold Builtin.«super.__getattribute__»
  repeat (first
    | (with_reducible refine wpAny_field hso hdt f0 ?_)|(with_reducible refine wpAny_field hso hdt f1 ?_)|(with_reducible refine wpAny_field hso hdt f2 ?_)
    | (with_reducible refine ks_wpAny_notOpaque hno ?_)
    | (with_reducible refine Looks.at hM ?_;rw [hl])
    | (with_reducible show wpAny _ _ (forIn _ _ _) _ _ _;refine ks_forIn_along (K:=K0) (name:=Str.ofString "__init__") (v:=.builtin "Exception.__init__") X ?hb_ ?hk_ ?hq_ hf;(case hb_=>exact fun _ _=>rfl);(case hk_=>rfl))
    | (with_reducible refine ⟨_,rfl,?_⟩)
    | (simp only [id_init])
    | (with_reducible refine wpAny_of_eq type_init ?_)
    | (with_reducible refine wpAny_bind (wpAny_of_eq type_init ?_))
    | (with_reducible refine wpAny_of_eq slot_wd_get.lookup ?_)
    | (with_reducible refine wpAny_call_entry slot_wd_get (T:="wrapper_descriptor") type_init entry_wd_get ?_ (args_wd_get _ _ _))
    | (simp only [hn,hne,Bool.or_false,Bool.false_eq_true,if_false])
    | wp_step
    | dsimp only)
  refine codeAny_call_builtin slot_wd_get.plain entry_wd_get (slot_wd_get.check _ _ _ _ _ _ _ _ type_init (args_wd_get _ _ _) ?_)
  unfold Builtin.«wrapper_descriptor.__get__»
  obtain ⟨oc,od,oda,osl⟩:=ox
  dsimp only at hxc
  subst hxc
  repeat (first
    | (with_reducible refine wpAny_loadPart_at hx ?_)
    | (with_reducible refine wpAny_loadPart_at hC ?_)
    | (with_reducible refine wpAny_isSubtype_exc hC ?_;rw [hcE])
    | (simp only [own_init])
    | wp_step)
  exact hq
theorem sup_get {x:Addr} {ox:Obj} {pl:Sem Bool} {Q:Value×List Value→Shared→Prop} (X:(Kt w.params).In h)
    (hso:h.get? so=some { cls:=.type "super",dict:=none,data:=.fields #[.ref 75,.ref x,.ref 116],slots:=#[] }) (hx:h.get? x=some ox) (hxc:ox.cls=.ref 116) (hxC:x≠116)
    (hq:Q (.ref h.objs.size,[]) ⟨h.push { cls:=.type "method-wrapper",data:=.fields #[.builtin "Exception.__init__",.ref x] },g,d,t + 1,os⟩) :
    wpAny (model PySem.Challenge.rw_nz0031_01.row.prog w) A (getMethod (.ref so) (Str.ofString "__init__") pl) Q E ⟨h,g,d,t,os⟩:=by
  have hlk:=F.ks_slot_super_ga.lookup
  have hcan:=F.ks_canon_super_ga
  have hT:∀ t',(⟨h,g,d,t',os⟩:Shared).TypeIs (.ref so) "super":=fun _=>⟨_,hso,rfl⟩
  unfold getMethod
  refine wpAny_bind (wpAny_specialOf (hT _) hlk ?_)
  show wpAny _ _ (if (Manifest.canonical "super.__getattribute__" != "object.__getattribute__")=true then _ else _) _ _ _
  rw [if_pos hcan]
  unfold getAttr getAttrBy
  refine wpAny_bind (wpAny_bind (wpAny_mkText (wpAny_holding (wpAny_bind (wpAny_typeOf (hT _) (wpAny_bind (wpAny_of_eq hlk ?_)))))))
  show wpAny _ _ (getAttrByItsOwn (.ref so) (.str (Str.ofString "__init__") t) (.type "super") (.builtin "super.__getattribute__") true false) _ _ _
  unfold getAttrByItsOwn hookBefore callGetattribute boundAndCalled
  refine wpAny_bind (wpAny_of_eq (show (if onTheHeap (.type "super") then typeLookup (.type "super") "__getattr__" else pure none)=pure none from rfl) ?_)
  refine wpAny_bind (wpAny_attempt (wpAny_holding ?_))
  show wpAny _ _ (bindSpecial (.builtin "super.__getattribute__") (.ref so) >>= _) _ _ _
  refine wpAny_bind (wpAny_of_eq (F.ks_slot_super_ga.bind _) ?_)
  refine wpAny_mono (Q:=fun v s'=>v=.ref h.objs.size∧s'=⟨h.push { cls:=.type "method-wrapper",data:=.fields #[.builtin "Exception.__init__",.ref x] },g,d,t + 1,os⟩) (E:=fun _ _=>False)
    (wpAny_call_entry F.ks_slot_super_ga (hT _) F.ks_entry_super_ga (sup_ga X hso hx hxc hxC ⟨_,rfl,rfl,rfl⟩) (F.ks_gaArgs_super _ _)) (fun v s' hv=>?_) fun _ _ z=>z.elim
  obtain ⟨rfl,rfl⟩:=hv
  exact wpAny_pure (wpAny_pure hq)
theorem mw_code {b x:Addr} {R:Result→Shared→Prop} (X:(Kt w.params).In h) (hb:h.get? b=some { cls:=.type "method-wrapper",data:=.fields #[.builtin "Exception.__init__",.ref x] })
    (hx:h.get? x=some (excObj tt)) (hq:R (.ok (.ret .none)) ⟨(h.push { cls:=.type "tuple",data:=.seq #[v] }).update x (Obj.mapFields fun x=>x.setIfInBounds 0 (.ref h.objs.size)),g,d,t,os⟩) :
    codeAny (model PySem.Challenge.rw_nz0031_01.row.prog w) A (.call (.ref b) ⟨[v],[]⟩) R ⟨h,g,d,t,os⟩:=by
  obtain ⟨nm,q,bs,hdct,sn,sub,ab,col,k0,k1,k2,k3,k5,hC⟩:=cls_E X
  have Fn:=PySem.F.excBase_Exception
  have hcE:(Value.ref 116::bmE).contains (.type "Exception")=true:=by decide
  refine codeAny_of_tree ?_
  show wpAny _ _ (callAny (.ref b) _) _ _ _
  unfold callAny
  refine wpAny_bind (wpAny_load hb ?_)
  skip
  repeat (first
    | (with_reducible refine wpAny_loadPart_at hx ?_)
    | (with_reducible refine wpAny_loadPart_at hC ?_)
    | (with_reducible refine wpAny_isSubtype_exc hC ?_;rw [hcE])
    | wp_step)
  refine ⟨plainId_quiet Fn.init.plain _,codeAny_builtin Fn.initEntry ?_⟩
  show wpAny _ _ (Builtin.«BaseException.__init__» ⟨[.ref x,v],[]⟩) _ _ _
  unfold Builtin.«BaseException.__init__»
  have hx2:∀ o,(h.push o).get? x=some (excObj tt):=fun o=>Heap.get?_push_of_some o hx
  repeat (first
    | (with_reducible refine wpAny_loadPart_at (hx2 _) ?_)
    | wp_step)
  exact hq
end
open PySem PySem.W PySem.Calls PySem.Spec PyProof.Rows Builtin Builtin.ObjectAttr
section
variable {w:World} {A:Around} {E:Value→Shared→Prop} {h:Heap} {g:Array GenState} {d:Drawn} {t:Nat} {os:OsState}
example:True:=by
  k_with "r3"=>(skip)
  trivial
theorem refuse_exc (self:Value):refuseLoop self "__setattr__" (.ref 116::bmE)=pure ():=by
  rw [refuseLoop_ref,refuseLoop_ref,refuseLoop_ref]
  kernel_rfl
theorem osa_exc {x:Addr} {tk:Tok} {oe:Obj} {R:Result→Shared→Prop} (X:(Kt w.params).In h) (hx:h.get? x=some oe) (hc:oe.cls=.ref 116)
    (hn:findIn (Kt w.params) (.ref 116) name=some none)
    (hq:wpAny (model PySem.Challenge.rw_nz0031_01.row.prog w) A.in1 (storeInOwnDict (.ref x) (.ref 116) (.str name tk) name v false)
      (fun fin s'=>match fin with|.done f=>R (.ok f) s'|.again c'=>c'.quiet=true∧codeAny (model PySem.Challenge.rw_nz0031_01.row.prog w) A c' R s') (fun e s'=>R (.error e) s') ⟨h,g,d,t,os⟩) :
    codeAny (model PySem.Challenge.rw_nz0031_01.row.prog w) A (.call (.builtin "object.__setattr__") ⟨[.ref x,.str name tk,v],[]⟩) R ⟨h,g,d,t,os⟩:=by
  obtain ⟨nm,q,bs,hdct,sn,sub,ab,col,k0,k1,k2,k3,k5,hC⟩:=cls_E X
  have SF:=PySem.F.store_object
  obtain ⟨oc,od,oda,osl⟩:=oe
  dsimp only at hc
  subst hc
  have hcO:(Value.ref 116::bmE).contains (.type "object")=true:=by decide
  have L1:Looks (model PySem.Challenge.rw_nz0031_01.row.prog w) h (typeOf (.ref x)) (.ref 116):=fun A Q E s k q=>wpAny_bind (wpAny_loadPart (k _ _ hx) (wpAny_pure q))
  have L2:Looks (model PySem.Challenge.rw_nz0031_01.row.prog w) h (isSubtype (.ref 116) (.type "object")) true:=fun A Q E s k q=>by
    obtain ⟨hh,g',d',t',os'⟩:=s
    exact wpAny_isSubtype_exc (k _ _ hC) (by rw [hcO];exact q)
  have hM:Looks (model PySem.Challenge.rw_nz0031_01.row.prog w) h (mroOf (.ref 116)) (.ref 116::bmE):=fun A Q E s k q=>by
    obtain ⟨hh,g',d',t',os'⟩:=s
    exact wpAny_mroOf_exc (k _ _ hC) q
  refine codeAny_call_builtin SF.slot.plain SF.entry (@check_slot (model PySem.Challenge.rw_nz0031_01.row.prog w) _ _ ⟨h,g,d,t,os⟩ "object.__setattr__" "object" "__setattr__" (.ref x) [.str name tk,v] [] _ SF.kind SF.split (L1.andThen L2) (SF.args (.ref x) (.str name tk) v) ?_)
  rw [osa_eq,refuse_eq]
  refine wpAny_bind (wpAny_bind (L1.at (wpAny_bind (hM.at ?_))))
  rw [refuse_exc]
  refine wpAny_pure (wpAny_bind (L1.at (wpAny_bind (Looks.at (looks_findIn X hn) (wpAny_bind ?_)))))
  exact wpAny_pure hq
theorem inst_dict {x:Addr} {vs:Array Value} {Q:Option Addr→Shared→Prop} (X:(Kt w.params).In h) (hx:h.get? x=some { cls:=.ref 116,dict:=none,data:=.fields vs,slots:=sl })
    (hq:Q (some h.objs.size) ⟨(h.push (dictOf [] 0)).update x (fun o=>{ o with dict:=some h.objs.size }),g,d,t,os⟩) :
    wpAny M A (instanceDict x true) Q E ⟨h,g,d,t,os⟩:=by
  have hh:(clsIn (Kt w.params) 116).any (·.hasDict)=true:=by kernel_rfl
  obtain ⟨cd,hc,hd'⟩:=any_some hh
  have hx2:∀ o,(h.push o).get? x=some { cls:=.ref 116,dict:=none,data:=.fields vs,slots:=sl }:=fun o=>Heap.get?_push_of_some o hx
  unfold instanceDict
  refine wpAny_bind (wpAny_loadPart hx ?_)
  dsimp only
  refine wpAny_bind (Looks.at (looks_clsIn X hc) ?_)
  rw [hd']
  repeat (first
    | (with_reducible refine wpAny_loadPart_at (hx2 _) ?_)
    | wp_step)
  exact hq
theorem store_dict {es:List DictEntry} {tk:Tok} {Q:PySem.Fin→Shared→Prop} (hd:h.get? dd=some (dictOf es n)) (hk:(es.any (·.refKey))=false) (hz:es.length≤10)
    (hq:Q (.done (.ret .none)) ⟨h.update dd (Obj.putName name (PyData.keyHash w.params name) (.str name t) v),g,d,t + 1,os⟩) :
    wpAny (model PySem.Challenge.rw_nz0031_01.row.prog w) A (storeInDict dd (.str name tk) name v) Q E ⟨h,g,d,t,os⟩:=by
  have hf:(Obj.putName name (PyData.keyHash w.params name) (.str name t) v (dictOf es n)).isFreed=false:=by rw [putName_dict];rfl
  have hd2:=Heap.get?_update_self (Obj.putName name (PyData.keyHash w.params name) (.str name t) v) hd hf
  unfold storeInDict newKeyGuard
  refine wpAny_bind (wpAny_pure (wpAny_bind ?_))
  unfold nsSet
  refine wpAny_bind (wpAny_bind (wpAny_askSetting (wpAny_pure (wpAny_bind (wpAny_mkText (wpAny_bind (wpAny_loadPart hd ?_)))))))
  dsimp only
  have c:(!es.toArray.any (·.key.isStr name) && es.toArray.any (·.refKey))=false:=by
    rw [List.any_toArray,List.any_toArray,hk,Bool.and_false]
  rw [aRefKeyMayBeTheName_at,c]
  refine wpAny_updatePart hd ?_
  have hl:(putL name (PyData.keyHash w.params name) (.str name t) v es).length≤11:=by
    have:∀ es:List DictEntry,(putL name (PyData.keyHash w.params name) (.str name t) v es).length≤es.length + 1:=by
      intro es
      induction es with
      | nil=>simp [putL]
      | cons e r ih=>unfold putL;split <;> simp <;> omega
    have:=this es
    omega
  refine wpAny_bind (wpAny_lookBehind hd2 (by rw [putName_dict];exact pastItsLine_dict (by rw [List.size_toArray,sizeLine_eq];omega)) ?_)
  exact wpAny_pure hq
end
open PySem PySem.W PySem.Calls PySem.Spec PyProof.Rows Builtin Builtin.ObjectAttr
section
variable {w:World} {A:Around} {E:Value→Shared→Prop} {s:Shared} {h₀:Heap} {L x:Addr} {m:Str→Option Value} {news:List (Addr×Obj)} {G:Obj→List (Addr×Obj)} {vs:Array Value} {name:Str} {v:Value}
theorem setK1 {Q:Unit→Shared→Prop} (F:Fr h₀ L s.heap m) (N:News h₀ L s.heap news) (X₀:(Kt w.params).In h₀) (U:UpdF x (excD none vs) news G) (hn:findIn (Kt w.params) (.ref 116) name=some none)
    (h:∀ dd h' t,Fr h₀ L h' m→News h₀ L h' ((dd,dictOf [⟨PyData.keyHash w.params name,.str name t,v⟩] 1)::G (excD (some dd) vs))→(∀ p∈news,p.1 < dd)→Q () { s with heap:=h',toks:=s.toks + 1 + 1 }) :
    wpAny (model PySem.Challenge.rw_nz0031_01.row.prog w) A (setAttr (.ref x) name v) Q E s:=by
  have X:=X₀.keeps F.keep
  have hm:=N _ (updF_mem U)
  have hs:findIn (Kt w.params) (.ref 116) "__setattr__"=some (some (.builtin "object.__setattr__")):=by kernel_rfl
  obtain ⟨hp,g,d,t,os⟩:=s
  refine set_plain X (⟨hm.1,rfl,rfl,trivial⟩:InstAt _ x (excD none vs) 116 none) hs ?_
  refine osa_exc X hm.1 rfl hn ?_
  unfold storeInOwnDict
  refine wpAny_bind (wpAny_pure ?_)
  rw [if_neg (show ¬ ((Value.ref 116 == Value.type "module")=true) by decide)]
  refine wpAny_bind (inst_dict X hm.1 ?_)
  have F1:=F.push (dictOf [] 0)
  have N1:=News.push F N (dictOf [] 0)
  obtain ⟨pre,post,rfl,hG,h1,h2⟩:=U.split
  have lx:∀ p∈pre++(x,excD none vs)::post,p.1 < hp.objs.size:=fun p hp'=>Heap.lt_size (N p hp').1
  have hxd:x < hp.objs.size:=lx _ (List.mem_append_right _ (.head _))
  have U2:=news_upd (pre:=(hp.objs.size,dictOf [] 0)::pre) (post:=post) (d:=x) (o:=excD none vs) (f:=fun o=>{ o with dict:=some hp.objs.size }) F1 N1 (fun p hp'=>by
    rcases List.mem_cons.mp hp' with rfl|hp'
    · exact Nat.ne_of_gt hxd
    · exact h1 p hp') h2 rfl rfl
  obtain ⟨F2,N2⟩:=U2
  have hd2:=(N2 (hp.objs.size,dictOf [] 0) (.head _)).1
  refine store_dict hd2 rfl (by decide) ?_
  have U3:=news_upd (pre:=[]) (post:=pre++(x,excD (some hp.objs.size) vs)::post) (d:=hp.objs.size) (o:=dictOf [] 0) (f:=Obj.putName name (PyData.keyHash w.params name) (.str name (t + 1)) v) F2 N2 (fun _ h=>nomatch h) (fun p hp'=>by
    rcases List.mem_append.mp hp' with hp'|hp'
    · exact Nat.ne_of_lt (lx p (List.mem_append_left _ hp'))
    · rcases List.mem_cons.mp hp' with rfl|hp'
      · exact Nat.ne_of_lt hxd
      · exact Nat.ne_of_lt (lx p (List.mem_append_right _ (.tail _ hp')))) (putName_dict ..) rfl
  obtain ⟨F3,N3⟩:=U3
  refine h hp.objs.size _ (t + 1) F3 ?_ lx
  rw [hG]
  exact N3
theorem setK2 {Q:Unit→Shared→Prop} {es:List DictEntry} (F:Fr h₀ L s.heap m) (N:News h₀ L s.heap news) (X₀:(Kt w.params).In h₀) (hx:(x,excD (some dd) vs)∈news) (U:UpdF dd (dictOf es n) news G)
    (hn:findIn (Kt w.params) (.ref 116) name=some none) (hk:es.any (·.refKey)=false) (hz:es.length≤10)
    (h:∀ h' t,Fr h₀ L h' m→News h₀ L h' (G (dictOf (putL name (PyData.keyHash w.params name) (.str name t) v es) (putN name es n)))→Q () { s with heap:=h',toks:=s.toks + 1 + 1 }) :
    wpAny (model PySem.Challenge.rw_nz0031_01.row.prog w) A (setAttr (.ref x) name v) Q E s:=by
  have X:=X₀.keeps F.keep
  have hm:=N _ hx
  have hd:=N _ (updF_mem U)
  have hs:findIn (Kt w.params) (.ref 116) "__setattr__"=some (some (.builtin "object.__setattr__")):=by kernel_rfl
  have hh:(clsIn (Kt w.params) 116).any (·.hasDict)=true:=by kernel_rfl
  obtain ⟨cd,hc,hd'⟩:=any_some hh
  obtain ⟨hp,g,d,t,os⟩:=s
  refine set_plain X (⟨hm.1,rfl,rfl,hd.1⟩:InstAt _ x (excD (some dd) vs) 116 (some (dictOf es n))) hs ?_
  refine osa_exc X hm.1 rfl hn ?_
  unfold storeInOwnDict
  refine wpAny_bind (wpAny_pure ?_)
  rw [if_neg (show ¬ ((Value.ref 116 == Value.type "module")=true) by decide)]
  refine wpAny_bind ?_
  show wpAny _ _ (instanceDict x true) _ _ _
  unfold instanceDict
  refine wpAny_bind (wpAny_loadPart hm.1 ?_)
  dsimp only
  refine wpAny_bind (Looks.at (looks_clsIn X hc) ?_)
  rw [hd']
  refine wpAny_pure (a:=some dd) ?_
  refine store_dict hd.1 hk hz ?_
  obtain ⟨pre,post,rfl,hG,h1,h2⟩:=U.split
  obtain ⟨F3,N3⟩:=news_upd (d:=dd) (o:=dictOf es n) (f:=Obj.putName name (PyData.keyHash w.params name) (.str name (t + 1)) v) F N h1 h2 (putName_dict ..) rfl
  refine h _ (t + 1) F3 ?_
  rw [hG]
  exact N3
theorem supK {pl:Sem Bool} {Q:Value×List Value→Shared→Prop} (F:Fr h₀ L s.heap m) (N:News h₀ L s.heap news) (X₀:(Kt w.params).In h₀) (hso:(so,ks_superObj 75 x 116)∈news) (hx:(x,excObj tt)∈news)
    (h:∀ q h',Fr h₀ L h' m→News h₀ L h' ((q,{ cls:=.type "method-wrapper",data:=.fields #[.builtin "Exception.__init__",.ref x] })::news)→(∀ p∈news,p.1 < q)→Q (.ref q,[]) { s with heap:=h',toks:=s.toks + 1 }) :
    wpAny (model PySem.Challenge.rw_nz0031_01.row.prog w) A (getMethod (.ref so) (Str.ofString "__init__") pl) Q E s:=by
  have X:=X₀.keeps F.keep
  have hxC:x≠116:=by
    rintro rfl
    have h1:=(N _ hx).2.2
    obtain ⟨_,_,_,_,_,_,_,_,_,_,_,_,_,hC⟩:=cls_E X₀
    rw [h1] at hC;cases hC
  obtain ⟨hp,g,d,t,os⟩:=s
  refine sup_get X (N _ hso).1 (N _ hx).1 rfl hxC ?_
  exact h hp.objs.size _ (F.push _) (News.push F N _) fun p hp'=>Heap.lt_size (N p hp').1
theorem mwK {b:Addr} {a:Value} (F:Fr h₀ L s.heap m) (N:News h₀ L s.heap news) (X₀:(Kt w.params).In h₀) (hb:(b,({ cls:=.type "method-wrapper",data:=.fields #[.builtin "Exception.__init__",.ref x] }:Obj))∈news) (U:UpdF x (excObj tt) news G)
    (h:∀ t2 h',Fr h₀ L h' m→News h₀ L h' ((t2,{ cls:=.type "tuple",data:=.seq #[a] })::G (excObj t2))→(∀ p∈news,p.1 < t2)→Q .none { s with heap:=h' }) :
    wpAny (model PySem.Challenge.rw_nz0031_01.row.prog w) A (call (.ref b) [a]) Q E s:=by
  have X:=X₀.keeps F.keep
  have hm:=N _ (updF_mem U)
  have hbm:=N _ hb
  obtain ⟨hp,g,d,t,os⟩:=s
  refine wpAny_call (mw_code X hbm.1 hm.1 ?_)
  have F1:=F.push { cls:=.type "tuple",data:=.seq #[a] }
  have N1:=News.push F N { cls:=.type "tuple",data:=.seq #[a] }
  obtain ⟨pre,post,rfl,hG,h1,h2⟩:=U.split
  have lx:∀ p∈pre++(x,excObj tt)::post,p.1 < hp.objs.size:=fun p hp'=>Heap.lt_size (N p hp').1
  have hxd:x < hp.objs.size:=lx _ (List.mem_append_right _ (.head _))
  obtain ⟨F2,N2⟩:=news_upd (pre:=(hp.objs.size,{ cls:=.type "tuple",data:=.seq #[a] })::pre) (post:=post) (d:=x) (o:=excObj tt) (o':=excObj hp.objs.size) (f:=Obj.mapFields fun x=>x.setIfInBounds 0 (.ref hp.objs.size)) F1 N1 (fun p hp'=>by
    rcases List.mem_cons.mp hp' with rfl|hp'
    · exact Nat.ne_of_gt hxd
    · exact h1 p hp') h2 rfl rfl
  refine h hp.objs.size _ F2 ?_ lx
  rw [hG]
  exact N2
end
open PySem PySem.W PySem.Calls PySem.Spec PyProof.Rows Builtin Builtin.ObjectAttr
section
variable {w:World} {n:Nat} {outer:List Env} {base:Heap} {s:Shared} {R:Result→Shared→Prop} {f cc:Addr} {args:Args} {binds:List (Str×Value)}
  {name qual:Str} {params:Arguments} {body:List Stmt} {scope:Scope} {dV kV doc pm cdv ct oc:Value} {an od:Option Addr} {osl:Array (Option Value)}
example:True:=by
  k_with "w omega"=>((fail_if_success k_extra "r4");k_extra "y0")
  trivial
theorem enterS (W:Wd w base) (B:Below (Ak n outer) base outer s.heap) (hid:List (Addr×Obj))
    (hN:∀ p∈hid,s.heap.get? p.1=some p.2∧base.get? p.1=none∧p.1∉outer.filterMap (·.frame))
    (ho:(Kt w.params).lookup f=some ⟨oc,od,.func (ksFn name qual params body scope dV kV doc pm an cdv ct cc),osl⟩) (hcd:codeIn (Kt w.params) cdv qual=true)
    (hroom:(Ak n outer).depth < recursionLimit)
    (hbind:BindsTo s (ksFn name qual params body scope dV kV doc pm an cdv ct cc) args binds) (hloc:∀ y∈binds,scope.names.lookup y.1=some .local)
    (h:∀ L h₁ p loose mean mg mb,Fr (hideAll s.heap (hid.map (·.1))) L h₁ (fun y=>binds.reverse.lookup y)→News (hideAll s.heap (hid.map (·.1))) L h₁ hid→Below (Ak n outer) base outer (hideAll s.heap (hid.map (·.1))) →
      (Kt w.params).In (hideAll s.heap (hid.map (·.1)))→Top p loose mean mg mb (hideAll s.heap (hid.map (·.1)))→AllLt L hid→L=s.heap.objs.size →
      ∀ tk:Nat,PySem.wpAt (model PySem.Challenge.rw_nz0031_01.row.prog w) ((Ak n outer).deeper (ksEnv qual scope L f cdv cc)) (.func body (ksEnv qual scope L f cdv cc)) (execs body (ksEnv qual scope L f cdv cc))
        (fun fl s'=>R (.ok (.ret (match fl with|.ret v=>v|_=>.none))) s')
        (fun e s'=>wpAny (model PySem.Challenge.rw_nz0031_01.row.prog w) ((Ak n outer).deeper (ksEnv qual scope L f cdv cc)) (leaving (ksEnv qual scope L f cdv cc) e) (fun _ s''=>R (.error e) s'') (fun e' s''=>R (.error e') s'') s')
        { s with heap:=h₁,toks:=tk })
    (hcell:∀ x∈scope.names,x.2≠.cell) (hco:scope.isCoroutine=false) (hgen:scope.isGenerator=false) (hk:scope.kind=.function) :
    codeAny (model PySem.Challenge.rw_nz0031_01.row.prog w) (Ak n outer) (.call (.ref f) args) R s:=by
  obtain ⟨WK,p,loose,mean,mg,mb,T⟩:=W
  have hb:base.StaysIn (hideAll s.heap (hid.map (·.1))):=fun b o e=>hideAll_get _ (B.stays b o e) fun hm=>by
    obtain ⟨q,hq,rfl⟩:=List.mem_map.mp hm
    rw [(hN q hq).2.1] at e;cases e
  have X₀:=WK.keeps B.stays
  have T₀:=T.keeps B.stays
  refine ks_codeAny_call_defAt (fd:=ksFn name qual params body scope dV kV doc pm an cdv ct cc) (body:=body) (binds:=binds) hroom (X₀ _ _ ho) rfl T₀.nolimit (codeRec_of X₀ hcd) rfl hbind hcell hloc (fun h₁ hns hk₁=>?_) hco hgen hk
  refine h s.heap.objs.size h₁ p loose mean mg mb ⟨hns,fun b o e=>hk₁ b o (of_hideAll _ e),Nat.le_of_eq (hideAll_size _ _)⟩
    (fun q hq=>⟨hk₁ _ _ (hN q hq).1,Nat.ne_of_lt (Heap.lt_size (hN q hq).1),hideAll_none _ (List.mem_map_of_mem hq)⟩)
    ⟨rfl,hb,funFrames_hideAll B.frames fun env he a ha hf=>?_⟩ (WK.keeps hb) (T.keeps hb) (allLt_of fun q hq=>Heap.lt_size (hN q hq).1) rfl _
  obtain ⟨q,hq,rfl⟩:=List.mem_map.mp ha
  exact (hN q hq).2.2 (List.mem_filterMap.mpr ⟨env,he,hf⟩)
end
theorem exc_instN {x:Addr} {vs:Array Value} (N:News h₀ L h news) (hx:(x,excD none vs)∈news):InstAt h x (excD none vs) 116 none:=⟨(N _ hx).1,rfl,rfl,trivial⟩
theorem fresh_of {ads:List Addr} {a:Addr} (e:(hideAll h ads).get? a=none) (n:a∉ads):h.get? a=none:=by
  cases q:h.get? a with
  | none=>rfl
  | some o=>rw [hideAll_get _ q n] at e;cases e
section
variable {M:Model} {A:Around} {E:Value→Shared→Prop} {s:Shared} {env:Env} {pos:Pos} {Q:Value→Shared→Prop}
theorem callWith_MW {q x:Addr} {first:List Value} {e:PySem.Expr} {rest:List PySem.Expr} (_N:News h₀ L s.heap news) (_q:(q,mwObj x)∈news) (h:wpAny M A (spliced (backTo pos (starEach (e::rest) env))) (fun vs s₁=>MwP q x s₁.heap∧wpAny M A (call (.ref q) (first++vs)) Q E s₁) E s)
    (he:starEach (e::rest) env=(false,eval e env)::starEach rest env:=by rfl) (hplain:(backTo pos (starEach rest env)).any (·.1)=false:=by rfl) :
    wpAny M A (callWith pos (.ref q) first (backTo pos (starEach (e::rest) env)) []) Q E s:=by
  rw [he] at h ⊢
  exact callWith_of (P:=MwP q x) (by show ((false || (backTo pos (starEach rest env)).any (·.1)) || false)=false;rw [hplain];rfl)
    (fun h X=>⟨.machine,.inr (.inl rfl),(Looks.ld (part:=none) X).andThen .now⟩) (evalArgs_plain h)
end
example:True:=by
  k_with "y3"=>(exact exc_instN (by k_asm) (by k_mem))
  k_with "w k_inst"=>((fail_if_success k_extra "r5");k_extra "y3")
  k_with "y4"=>((k_here;k_dflt (first
  | (refine' setK1 ?F_ ?N_ ?X_ ?U_ ?n_ ?_;(case F_|N_|X_=>k_asm);(case U_=>k_updF);(case n_=>kernel_rfl);intro dd' h' t' F' N' l1';(try dsimp only);(try dsimp only at N');(try k_lt l1'))
  | (refine' setK2 ?F_ ?N_ ?X_ ?hx_ ?U_ ?n_ ?hk_ ?hz_ ?_;(case F_|N_|X_=>k_asm);(case hx_=>k_mem);(case U_=>k_updF);(case n_=>kernel_rfl);(case hk_=>rfl);(case hz_=>exact Nat.le_of_ble_eq_true rfl);intro h' t' F' N';(try dsimp only);(try dsimp only at N')))))
  k_with "w setAttr ref"=>((fail_if_success k_extra "r6");k_extra "y4")
  k_with "y5"=>((k_here;k_dflt (refine' supK ?F_ ?N_ ?X_ ?so_ ?hx_ ?_;(case F_|N_|X_=>k_asm);(case so_|hx_=>k_mem);intro q' h' F' N' l1';(try dsimp only);(try k_lt l1'))))
  k_with "w getMethod ref"=>((fail_if_success k_extra "r7");k_extra "y5")
  k_with "y6"=>((k_here;k_dflt (refine' callWith_MW ?N_ ?q_ ?_;(case N_=>k_asm);(case q_=>k_mem))))
  k_with "w callWith ref"=>((fail_if_success k_extra "r8");k_extra "y6")
  k_with "y7"=>((k_dflt (refine' And.intro (News.get ?N_ ?q_:MwP _ _ _) ?_;(case N_=>k_asm);(case q_=>k_mem));try dsimp only [List.nil_append,List.cons_append]))
  k_with "w And"=>((fail_if_success k_extra "r9");k_extra "y7")
  k_with "y8"=>((k_here;k_dflt (refine' mwK ?F_ ?N_ ?X_ ?b_ ?U_ ?_;(case F_|N_|X_=>k_asm);(case b_=>k_mem);(case U_=>k_updF);intro t2' h' F' N' l1';(try dsimp only);(try dsimp only at N');(try k_lt l1'))))
  k_with "w call ref"=>((fail_if_success k_extra "r10");k_extra "y8")
  trivial
namespace Z.Z1
theorem init_ok_core:init_ok_P Z.w Z.outer Z.base Z.s Z.Q Z.E Z.Z1.x Z.tt Z.what Z.sp Z.t1 Z.t2:=by
  intro W B hx hb hf hret
  k_extra "m fill"
  w_strict (
    (refine wpAny_call ?_);
    k_dflt (refine' enterS W B [(x,excObj tt)] ?k0_ ?ho_ ?hcd_ ?hroom_ ?hbind_ ?hloc_ ?_ ?c1_ ?c2_ ?c3_ ?c4_);
    (case k0_=>(intro p hp;rw [List.mem_singleton.mp hp];exact ⟨hx,hb,hf⟩));
    (case ho_=>k_is);
    (case hcd_=>k_is);
    (case hroom_=>exact Nat.le_of_ble_eq_true rfl);
    (case hbind_=>exact BindsTo.of_eq rfl);
    (case hloc_=>exact locs rfl);
    (case c1_=>decide);
    (case c2_=>exact rfl);
    (case c3_=>exact rfl);
    (case c4_=>exact rfl);
    intro L h₁ p loose mean mg mb F N Bl X T lt eL tk;
    (dsimp only [List.map] at F N Bl X T);
    (try k_fold)
    k_steps
    all_goals (repeat (first|k_unfold|dsimp only))
    refine hret _ _ _ (Keep.of_fr (by assumption)) ?hd_ ⟨_,_,_,_,_,_,_,News.get (by assumption) (by k_mem),_,News.get (by assumption) (by k_mem),rfl,rfl⟩
    (case hd_=>exact fresh_of (News.fresh (by assumption) (by k_mem)) (by simp only [List.mem_singleton];exact neN (by omega))))
end Z.Z1
theorem zu1:Up 1:=zu0.step (by with_unfolding_all exact Z.Z1.init_ok_core)
theorem init_ok (w:World) (outer:List Env) (base:Heap) (s:Shared) (Q E:Value→Shared→Prop) (x tt:Addr) (what:Str) (sp:Int) (t1 t2:Tok) (W:Wd w base) (B:Below (Ak 6 outer) base outer s.heap) (hx:s.heap.get? x=some (excObj tt)) (hb:base.get? x=none) (hf:x∉outer.filterMap (·.frame)) (hret:∀ h' tk dd,Keep [x] s.heap h'→s.heap.get? dd=none→SpotD h' x dd sp→Q .none { s with heap:=h',toks:=tk }):wpAny (model PySem.Challenge.rw_nz0031_01.row.prog w) (Ak 6 outer) (call (.ref 94) [.ref x,.str what t1,.int sp t2]) Q E s :=
  zu1.at { Zd with w,outer,base,s,Q,E,t1,t2,r:={ Zd.r with x_2:=x,tt,what,sp } } W B hx hb hf hret
theorem exc_ok (w:World) (outer:List Env) (base:Heap) (s:Shared) (Q E:Value→Shared→Prop) (what:Str) (sp:Int) (t1 t2:Tok)
    (W:Wd w base) (B:Below (Ak 8 outer) base outer s.heap)
    (hret:∀ e h' tk dd,Keep [] s.heap h'→s.heap.get? e=none→s.heap.get? dd=none→SpotD h' e dd sp→Q (.ref e) { s with heap:=h',toks:=tk }) :
    wpAny (model PySem.Challenge.rw_nz0031_01.row.prog w) (Ak 8 outer) (call (.ref 116) [.str what t1,.int sp t2]) Q E s:=by
  obtain ⟨hp,g,d,t,os⟩:=s
  have X:=W.K.keeps B.stays
  refine exc_call X (show 2≤sizeLine by rw [sizeLine_eq];decide) ?_
  have k1:∀ b o,hp.get? b=some o→((hp.push { cls:=.type "tuple",data:=.seq [Value.str what t1,.int sp t2].toArray }).push (excObj hp.objs.size)).get? b=some o:=fun b o e=>Heap.get?_push_of_some _ (Heap.get?_push_of_some _ e)
  have n1:hp.get? (hp.objs.size + 1)=none:=Heap.get?_none_of_le (by omega)
  have nb:∀ a,hp.get? a=none→base.get? a=none:=fun a e=>by
    cases q:base.get? a with
    | none=>rfl
    | some o=>have:=B.stays _ _ q;rw [e] at this;cases this
  have nf:∀ a,hp.get? a=none→a∉outer.filterMap (·.frame):=fun a e hm=>by
    obtain ⟨_,o,ho,_⟩:=B.frames.mem hm
    rw [e] at ho;cases ho
  refine wpAny_ak rfl rfl (Nat.le_of_ble_eq_true rfl) (Nat.le_of_ble_eq_true rfl) (init_ok w outer base _ _ _ (hp.objs.size + 1) hp.objs.size what sp t1 t2 W ?_ (by heap_get) (nb _ n1) (nf _ n1) fun h' tk dd hk hdd hsp=>⟨rfl,?_⟩)
  · exact Below.keep (ch:=[]) ⟨rfl,B.stays,B.frames⟩ (fun b o e _=>k1 b o e) (fun _ h=>nomatch h) (fun _ h=>nomatch h)
  · refine hret _ _ _ dd (fun b o e _=>hk _ _ (k1 _ _ e) (by simp only [List.mem_singleton];intro q;rw [q,n1] at e;cases e)) n1 ?_ hsp
    cases q:hp.get? dd with
    | none=>rfl
    | some o=>rw [k1 _ _ q] at hdd;cases hdd
example:True:=by
  k_with "r4"=>(skip)
  k_with "r5"=>(skip)
  trivial
theorem RelS.refl (fr:List Addr) (g:Heap):RelS fr g g:=⟨fun _ _ e _=>e,fun _ o e=>⟨o.slots,e⟩⟩
theorem RelS.trans {g k:Heap} (x:RelS fr g h) (y:RelS fr h k):RelS fr g k :=
  ⟨fun b o e n=>y.keep b o (x.keep b o e n) n,fun b o e=>let ⟨_,e1⟩:=x.slot b o e;let ⟨sl,e2⟩:=y.slot b _ e1;⟨sl,e2⟩⟩
theorem RelS.none {g:Heap} (x:RelS fr g h) {b:Addr} (e:h.get? b=none):g.get? b=none:=by
  cases q:g.get? b with
  | none=>rfl
  | some o=>obtain ⟨sl,e2⟩:=x.slot b o q;rw [e] at e2;cases e2
theorem Spot.up (x:Spot h dd sp) (k:h.UpToSlots h'):Spot h' dd sp:=by
  obtain ⟨hw,tw,vw,hs,ts,t,n,sl,e⟩:=x
  obtain ⟨sl',e'⟩:=k _ _ e (fun vs q=>by cases q)
  exact ⟨hw,tw,vw,hs,ts,t,n,sl',e'⟩
section
variable {M:Model} {A:Around} {E:Value→Shared→Prop} {s:Shared} {env:Env} {outer:List Env} {base g:Heap} {L e dd:Addr} {sp:Int}
theorem entry_ok {vs:Array Value} {head:Value} {hadNext:Bool} {Q:Unit→Shared→Prop} (hfr:A.frames=some (env::outer)) (hf:env.frame=some L) (hl:s.heap.FunFrames base (env::outer))
    (hr:RelS (FrOf outer) g s.heap) (hL:g.get? L=none) (hge:g.get? e=none) (hgd:g.get? dd=none) (hsp:Spot s.heap dd sp) (he:s.heap.get? e=some (excD (some dd) vs)) (hv:vs.size=6)
    (hQ:∀ h',RelS (FrOf outer) g h'→s.heap.UpToSlots h'→h'.FunFrames base (env::outer)→FlT g h' e dd sp→Q () { s with heap:=h' }) :
    wpAny M A (do let a ← frameOf env;let pl ← entryPlaceOf L hadNext;let b ← EntryCells.newEntry head a .none (rawInt L) .none pl;setField (.ref e) 1 b) Q E s:=by
  have hene:e∉FrOf (env::outer):=fun hm=>by
    obtain ⟨_,o,ho,hnf⟩:=hl.mem hm
    rw [he] at ho;injection ho with ho;subst ho;exact hnf vs rfl
  have hLo:FrOf (env::outer)=L::FrOf outer:=by unfold FrOf;rw [List.filterMap_cons,hf]
  refine wpAny_bind (wpAny_frameOf_fun hfr hl hf fun h₁ hs₁=>?_)
  have hs₁':Heap.SlotsOnly (FrOf (env::outer)) s.heap h₁:=hs₁
  refine wpAny_bind (wpAny_entryPlaceOf fun pl hpl=>?_)
  unfold EntryCells.newEntry newFields
  refine wpAny_bind (wpAny_newObj_type ?_ (hpl.sizeOk5 _ _ _ _ _))
  have he₁:h₁.get? e=some (excD (some dd) vs):=(hs₁'.2.1 e hene).trans he
  have r₁:RelS (FrOf outer) g h₁:=⟨fun b o e' n=>(hs₁'.2.1 b (by
      rw [hLo];intro hm
      rcases List.mem_cons.mp hm with rfl|hm
      · rw [hL] at e';cases e'
      · exact n hm)).trans (hr.keep b o e' n),fun b o e'=>let ⟨_,e1⟩:=hr.slot b o e';let ⟨sl,e2⟩:=hs₁'.2.2 b _ e1;⟨sl,e2⟩⟩
  generalize hob:({ cls:=Value.type "traceback",dict:=none,data:=Data.fields ([head,Value.ref L,Value.none,rawInt L,Value.none]++if pl.isEmpty then List.replicate 6 Value.none else pl).toArray }:Obj)=ob
  have hobf:ob.isFreed=false:=by subst hob;rfl
  have he₂:(h₁.push ob).get? e=some (excD (some dd) vs):=Heap.get?_push_of_some _ he₁
  have hTe:h₁.objs.size≠e:=Nat.ne_of_gt (Heap.lt_size he₁)
  have hgT:g.get? h₁.objs.size=none:=r₁.none (Heap.get?_none_of_le (Nat.le_refl _))
  have hu:=fun b (hb:b≠e)=>Heap.get?_update_other (h₁.push ob) (Obj.mapFields (·.setIfInBounds 1 (Value.ref h₁.objs.size))) (Ne.symm hb)
  have keep:∀ b o,b≠e→h₁.get? b=some o→((h₁.push ob).update e (Obj.mapFields (·.setIfInBounds 1 (Value.ref h₁.objs.size)))).get? b=some o:=fun b o hb q=>by
    rw [hu b hb];exact Heap.get?_push_of_some _ q
  have up:s.heap.UpToSlots ((h₁.push ob).update e (Obj.mapFields (·.setIfInBounds 1 (Value.ref h₁.objs.size)))):=fun b o q hnf=>by
    have hb:b≠e:=fun z=>by rw [z,he] at q;cases q;exact hnf vs rfl
    obtain ⟨sl,q2⟩:=hs₁'.2.2 b o q
    exact ⟨sl,keep b _ hb q2⟩
  refine wpAny_setField he₂ rfl (by omega) (hQ _ ⟨fun b o q n=>keep b o (fun z=>by rw [z,hge] at q;cases q) (r₁.keep b o q n),fun b o q=>?_⟩ up (hl.of_keeps fun b o q hnf=>?_) ?_)
  · obtain ⟨sl,q2⟩:=r₁.slot b o q
    exact ⟨sl,keep b _ (fun z=>by rw [z,hge] at q;cases q) q2⟩
  · obtain ⟨sl,q2⟩:=up b o q hnf
    exact ⟨_,q2,rfl⟩
  · refine ⟨hge,hgd,?_,vs.setIfInBounds 1 (.ref h₁.objs.size),h₁.objs.size,ob,_,?_,?_,?_,hTe,hgT,?_,by subst hob;rfl,?_⟩
    · exact hsp.up up
    · exact Heap.get?_update_self _ he₂ rfl
    · simp [hv]
    · simp [hv]
    · rw [hu _ hTe];exact Heap.get?_push_size _ hobf
    · subst hob;simp
theorem setFlight_ok {Q:Unit→Shared→Prop} {l:List Env} (hl:s.heap.FunFrames base l) (hr:RelS fr g s.heap) (fl:FlT g s.heap e dd sp) (fo:Option Addr)
    (hQ:∀ h',RelS fr g h'→s.heap.UpToSlots h'→h'.FunFrames base l→FlT g h' e dd sp→Q () { s with heap:=h' }):wpAny M A (setFlight (.ref e) fo) Q E s:=by
  obtain ⟨hge,hgd,hsp,vs,T,oT,ts,he,hv,h1,hTe,hgT,hT,hdT,h3⟩:=fl
  have hu:=fun (x:Value) b (hb:b≠T)=>Heap.get?_update_other s.heap (Obj.mapFields (·.setIfInBounds 3 x)) (Ne.symm hb)
  unfold setFlight
  refine wpAny_bind (wpAny_field he rfl h1 ?_)
  rw [if_pos (show (Value.ref T != Value.none)=true from by simp)]
  have up:∀ x,s.heap.UpToSlots (s.heap.update T (Obj.mapFields (·.setIfInBounds 3 x))):=fun x b o q hnf=>⟨o.slots,by rw [hu x b (fun z=>by rw [z,hT] at q;cases q;exact hnf ts hdT)];exact q⟩
  refine wpAny_setField hT hdT h3 (hQ _ ⟨fun b o q n=>?_,fun b o q=>?_⟩ (up _) (hl.of_keeps fun b o q hnf=>let ⟨_,q2⟩:=up _ b o q hnf;⟨_,q2,rfl⟩) ⟨hge,hgd,hsp.up (up _),vs,T,_,_,?_,hv,h1,hTe,hgT,Heap.get?_update_self _ hT (Obj.isFreed_of_fields (Obj.data_mapFields hdT _)),Obj.data_mapFields hdT _,by simp [h3]⟩)
  · rw [hu _ b (fun z=>by rw [z,hgT] at q;cases q)];exact hr.keep b o q n
  · obtain ⟨sl,q2⟩:=hr.slot b o q
    exact ⟨sl,by rw [hu _ b (fun z=>by rw [z,hgT] at q;cases q)];exact q2⟩
  · rw [hu _ e (Ne.symm hTe)];exact he
theorem noteFrame_ok {Q:Unit→Shared→Prop} (hfr:A.frames=some (env::outer)) (hf:env.frame=some L) (hl:s.heap.FunFrames base (env::outer))
    (hr:RelS (FrOf outer) g s.heap) (hL:g.get? L=none) (fl:FlN g s.heap e dd sp∨FlT g s.heap e dd sp)
    (hQ:∀ h',RelS (FrOf outer) g h'→s.heap.UpToSlots h'→h'.FunFrames base (env::outer)→FlT g h' e dd sp→Q () { s with heap:=h' }):wpAny M A (noteFrame (.ref e) env) Q E s:=by
  unfold noteFrame
  simp only [hf]
  rcases fl with fl|fl
  · obtain ⟨hge,hgd,hsp,vs,he,hv,h1⟩:=fl
    refine wpAny_bind (wpAny_field he rfl h1 ?_)
    rw [if_neg (by decide)]
    exact entry_ok hfr hf hl hr hL hge hgd hsp he hv hQ
  · have fl':=fl
    obtain ⟨hge,hgd,hsp,vs,T,oT,ts,he,hv,h1,hTe,hgT,hT,hdT,h3⟩:=fl
    refine wpAny_bind (wpAny_field he rfl h1 ?_)
    rw [if_pos (show (Value.ref T != Value.none)=true from by simp)]
    obtain ⟨x3,hx3⟩:∃ x,ts[3]?=some x:=⟨_,Array.getElem?_eq_getElem h3⟩
    refine wpAny_bind (wpAny_field hT hdT hx3 ?_)
    by_cases hc:(x3 == rawInt L)=true
    · rw [if_pos hc]
      exact wpAny_pure (by have:=hQ s.heap hr (Heap.UpToSlots.refl _) hl fl';exact this)
    · rw [if_neg hc]
      have hu:=fun (x:Value) b (hb:b≠T)=>Heap.get?_update_other s.heap (Obj.mapFields (·.setIfInBounds 3 x)) (Ne.symm hb)
      have up:∀ x,s.heap.UpToSlots (s.heap.update T (Obj.mapFields (·.setIfInBounds 3 x))):=fun x b o q hnf=>⟨o.slots,by rw [hu x b (fun z=>by rw [z,hT] at q;cases q;exact hnf ts hdT)];exact q⟩
      refine wpAny_bind (wpAny_setField hT hdT h3 ?_)
      refine entry_ok (vs:=vs) hfr hf (hl.of_keeps fun b o q hnf=>let ⟨_,q2⟩:=up _ b o q hnf;⟨_,q2,rfl⟩) ⟨fun b o q n=>?_,fun b o q=>?_⟩ hL hge hgd (hsp.up (up _)) ?_ hv fun h' r u fr fl=>hQ h' r ((up _).trans u) fr fl
      · rw [hu _ b (fun z=>by rw [z,hgT] at q;cases q)];exact hr.keep b o q n
      · obtain ⟨sl,q2⟩:=hr.slot b o q
        exact ⟨sl,by rw [hu _ b (fun z=>by rw [z,hgT] at q;cases q)];exact q2⟩
      · rw [hu _ e (Ne.symm hTe)];exact he
theorem leaving_ok {Q:Unit→Shared→Prop} (hfr:A.frames=some (env::outer)) (hf:env.frame=some L) (hl:s.heap.FunFrames base (env::outer))
    (hr:RelS (FrOf outer) g s.heap) (hL:g.get? L=none) (fl:FlN g s.heap e dd sp∨FlT g s.heap e dd sp)
    (hQ:∀ h',RelS (FrOf outer) g h'→s.heap.UpToSlots h'→h'.FunFrames base outer→FlT g h' e dd sp→Q () { s with heap:=h' }):wpAny M A (leaving env (.ref e)) Q E s:=by
  unfold leaving
  refine wpAny_bind (noteFrame_ok hfr hf hl hr hL fl fun h' r u fr fl=>?_)
  refine setFlight_ok (l:=env::outer) fr r fl none fun h'' r' u' fr' fl'=>?_
  obtain ⟨_,_,k3⟩:=fr'
  exact hQ h'' r' (u.trans u') k3 fl'
end
section
variable {w:World} {A:Around} {E:Value→Shared→Prop} {h:Heap} {g:Array GenState} {d:Drawn} {t:Nat} {os:OsState}
theorem matches_own {e:Addr} {dO:Option Addr} {vs:Array Value} {Q:Bool→Shared→Prop} (X:(Kt w.params).In h) (he:h.get? e=some (excD dO vs)) (hq:Q true ⟨h,g,d,t,os⟩) :
    wpAny M A (excMatches (.ref e) (.ref 116)) Q E ⟨h,g,d,t,os⟩:=by
  obtain ⟨nm,q,bs,hdct,sn,sub,ab,col,k0,k1,k2,k3,k5,hC⟩:=cls_E X
  have hcB:(Value.ref 116::bmE).contains (.type "BaseException")=true:=by decide
  have hcC:(Value.ref 116::bmE).contains (.ref 116)=true:=by decide
  unfold excMatches
  repeat (first
    | (with_reducible refine wpAny_loadPart_at he ?_)
    | (with_reducible show wpAny _ _ (isSubtype _ (Value.type "tuple")) _ _ _;refine wpAny_of_eq tc_notTuple ?_)
    | (with_reducible refine wpAny_loadPart_at hC ?_)
    | (with_reducible refine wpAny_isSubtype_exc hC ?_;first|rw [hcB]|rw [hcC])
    | wp_step)
  exact hq
theorem ga_entry {e:Addr} {vs:Array Value} {tk:Tok} {Q:PySem.Fin→Shared→Prop} (X:(Kt w.params).In h) (he:h.get? e=some (excD (some dd) vs)) (hsp:Spot h dd sp)
    (hq:∀ tv,Q (.done (.ret (.int sp tv))) ⟨h,g,d,t,os⟩):wpAny (model PySem.Challenge.rw_nz0031_01.row.prog w) A (Builtin.«object.__getattribute__» ⟨[.ref e,.str (Str.ofString "spot") tk],[]⟩) Q E ⟨h,g,d,t,os⟩:=by
  obtain ⟨hw,tw,vw,hs,ts,tv,n,sl,hdd⟩:=hsp
  have hf:findObj (Kt w.params) 116 (some (⟨.type "dict",none,.dict [⟨hw,.str (Str.ofString "what") tw,vw⟩,⟨hs,.str (Str.ofString "spot") ts,.int sp tv⟩].toArray n,sl⟩:Obj)) (Str.ofString "spot")=some (.value (.int sp tv)):=by kernel_rfl
  have I:InstAt h e (excD (some dd) vs) 116 (some (⟨.type "dict",none,.dict [⟨hw,.str (Str.ofString "what") tw,vw⟩,⟨hs,.str (Str.ofString "spot") ts,.int sp tv⟩].toArray n,sl⟩:Obj)):=⟨he,rfl,rfl,hdd⟩
  have L0:=I.type (M:=model PySem.Challenge.rw_nz0031_01.row.prog w)
  have L1:=looks_find (M:=model PySem.Challenge.rw_nz0031_01.row.prog w) X I hf
  refine wpAny_bind (wpAny_pure (wpAny_bind (wpAny_pure (wpAny_bind (L0.at (wpAny_bind (L1.at ?_)))))))
  exact wpAny_pure (hq tv)
theorem spot_attr {e:Addr} {vs:Array Value} {expr:Bool} (X:(Kt w.params).In h) (he:h.get? e=some (excD (some dd) vs)) (hsp:Spot h dd sp)
    (hq:∀ tv,Q (.int sp tv) ⟨h,g,d,t + 1,os⟩):wpAny (model PySem.Challenge.rw_nz0031_01.row.prog w) A (getAttr (.ref e) (Str.ofString "spot") expr) Q E ⟨h,g,d,t,os⟩:=by
  have FB:=PySem.F.attrBase_Exception
  obtain ⟨nm,q,bs,hdct,sn,sub,ab,col,k0,k1,k2,k3,k5,hC⟩:=cls_E X
  have hga:findIn (Kt w.params) (.ref 116) "__getattribute__"=some (some (.builtin "BaseException.__getattribute__")):=by kernel_rfl
  have hgn:findIn (Kt w.params) (.ref 116) "__getattr__"=some none:=by kernel_rfl
  have L0:Looks (model PySem.Challenge.rw_nz0031_01.row.prog w) h (typeOf (.ref e)) (.ref 116):=(Looks.ld he).andThen .now
  have L1:=looks_findIn (M:=model PySem.Challenge.rw_nz0031_01.row.prog w) X hga
  have L2:=looks_findIn (M:=model PySem.Challenge.rw_nz0031_01.row.prog w) X hgn
  unfold getAttr getAttrBy
  refine wpAny_bind (wpAny_mkText (wpAny_holding (wpAny_bind (L0.at (wpAny_bind (L1.at ?_))))))
  show wpAny _ _ (getAttrByItsOwn (.ref e) (.str (Str.ofString "spot") t) (.ref 116) (.builtin "BaseException.__getattribute__") true expr) _ _ _
  unfold getAttrByItsOwn hookBefore callGetattribute boundAndCalled
  refine wpAny_bind (show wpAny _ _ (typeLookup (.ref 116) "__getattr__") _ _ _ from L2.at ?_)
  refine wpAny_bind (wpAny_attempt (wpAny_holding ?_))
  have hx0:(expr && onTheHeap (Value.builtin "BaseException.__getattribute__"))=false:=by cases expr <;> rfl
  rw [hx0]
  show wpAny _ _ (bindSpecial (.builtin "BaseException.__getattribute__") (.ref e) >>= _) _ _ _
  refine wpAny_bind (wpAny_of_eq (FB.ga.bind _) ?_)
  have hcB:(Value.ref 116::bmE).contains (.type "BaseException")=true:=by decide
  have ha:=F.args_bexc_ga (.ref e) (.str (Str.ofString "spot") t)
  have hk:builtinKind "BaseException.__getattribute__"=some .slot:=by decide +kernel
  have hsplit:splitId "BaseException.__getattribute__"=some ("BaseException","__getattribute__"):=by decide +kernel
  have L3:Looks (model PySem.Challenge.rw_nz0031_01.row.prog w) h (isSubtype (.ref 116) (.type "BaseException")) true:=fun A Q E s k q=>by
    obtain ⟨hh,g',d',t',os'⟩:=s
    exact wpAny_isSubtype_exc (k _ _ hC) (by rw [hcB];exact q)
  show wpAny _ _ (call (.builtin "BaseException.__getattribute__") [.ref e,.str (Str.ofString "spot") t]) _ _ _
  refine wpAny_call ?_
  refine codeAny_call_builtin FB.ga.plain F.entry_bexc_ga (@check_slot (model PySem.Challenge.rw_nz0031_01.row.prog w) _ _ ⟨h,g,d,t + 1,os⟩ "BaseException.__getattribute__" "BaseException" "__getattribute__" (.ref e) [.str (Str.ofString "spot") t] [] _ hk hsplit (L0.andThen L3) ha ?_)
  refine ga_entry X he hsp fun tv=>?_
  show wpAny _ _ (handedOut (.int sp tv)) _ _ _
  rw [handedOut_of rfl]
  exact wpAny_pure (hq tv)
end
example:True:=by
  k_with "w omega"=>((fail_if_success k_extra "r11");k_extra "y0")
  trivial
theorem matches_ownS {e:Addr} {dO:Option Addr} {vs:Array Value} {Q:Bool→Shared→Prop} (X:(Kt w.params).In s.heap) (he:s.heap.get? e=some (excD dO vs)) (hq:Q true s) :
    wpAny M A (excMatches (.ref e) (.ref 116)) Q E s:=by obtain ⟨h,g,d,t,os⟩:=s;exact matches_own X he hq
theorem spot_attrS {e:Addr} {vs:Array Value} {hw hs:Int} {tw ts tv:Tok} {vw:Value} {expr:Bool} 
    (F:Fr h₀ L s.heap m) (N:News h₀ L s.heap news) (X:(Kt w.params).In h₀) (he:(e,excD (some dd) vs)∈news) (hd:(dd,(⟨.type "dict",none,.dict [⟨hw,.str (Str.ofString "what") tw,vw⟩,⟨hs,.str (Str.ofString "spot") ts,.int sp tv⟩].toArray n,sl⟩:Obj))∈news)
    (hq:∀ tv,Q (.int sp tv) { s with toks:=s.toks + 1 }):wpAny (model PySem.Challenge.rw_nz0031_01.row.prog w) A (getAttr (.ref e) (Str.ofString "spot") expr) Q E s:=by
  obtain ⟨h,g,d,t,os⟩:=s;exact spot_attr (X.keeps F.keep) (N _ he).1 ⟨_,_,_,_,_,_,_,_,(N _ hd).1⟩ hq
theorem fn_keeper {c:Addr} {fd:FuncData} {cl:Value} {dct:Option Addr} (e:h.get? c=some ⟨cl,dct,.func fd,sl⟩):Looks M h (keeperOf (.ref c)) .frame:=(Looks.ld (part:=none) e).andThen .now
theorem reground {A₀:Around} {base g h₅:Heap} {outer:List Env} {L:Addr} {m:Str→Option Value} (K:Below A₀ base outer g) (hns:h₅.Ns L m) (hab:g.objs.size≤L) (hr:RelS (FrOf outer) g h₅) :
    ∃ g',RelS (FrOf outer) g g'∧KtsTurn (FrOf outer) g g'∧Fr g' L h₅ m∧Below A₀ base outer g':=by
  obtain ⟨T,S⟩:=kts_turn_at (h:=h₅) (fs:=FrOf outer) (g:=g)
    (fun b hb=>by
      obtain ⟨_,o,ho,_⟩:=K.frames.mem hb
      exact ⟨o,ho⟩)
    (fun b o e nm=>hr.keep b o e nm)
    (fun b o e hm=>hr.slot b o e)
  refine ⟨_,⟨T.other,fun b o e=>T.up e⟩,T,⟨hns,S,by rw [T.size];exact hab⟩,⟨K.stack,fun b o e=>T.other b o (K.stays b o e) (fun hm=>by
    rw [(K.frames.mem hm).1] at e
    cases e),K.frames.of_keeps fun b o e _=>?_⟩⟩
  obtain ⟨sl,hs⟩:=T.up e
  exact ⟨_,hs,rfl⟩
theorem FlT.lower {g:Heap} {e:Addr} (k:∀ b o,g.get? b=some o→h.get? b=some o) (fl:FlT h h' e dd sp):FlT g h' e dd sp:=by
  obtain ⟨f1,f2,f3,vs,T,oT,ts,a1,a2,a3,a4,a5,a6⟩:=fl
  exact ⟨kts_none k f1,kts_none k f2,f3,vs,T,oT,ts,a1,a2,a3,a4,kts_none k a5,a6⟩
theorem relS_fr {g:Heap} (F:Fr g L h m):RelS fr g h:=⟨fun b o e _=>F.keep b o e,fun b o e=>⟨o.slots,F.keep b o e⟩⟩
theorem relS_call {g:Heap} (F:Fr g L h m) (hf:env.frame=some L) (r:RelS (FrOf (env::outer)) h h'):RelS (FrOf outer) g h':=by
  have hL:=kts_self F
  refine ⟨fun b o e nm=>r.keep b o (F.keep b o e) fun hm=>?_,fun b o e=>r.slot b o (F.keep b o e)⟩
  have hLo:FrOf (env::outer)=L::FrOf outer:=by unfold FrOf;rw [List.filterMap_cons,hf]
  rw [hLo] at hm
  rcases List.mem_cons.mp hm with z|z
  · rw [z,hL] at e;cases e
  · exact nm z
theorem relS_ns (n:h.Ns L m) (r:RelS fr h h'):h'.Ns L m:=by
  obtain ⟨o,es,ep,e1,e2⟩:=n
  obtain ⟨sl,e3⟩:=r.slot _ _ e1
  exact ⟨_,es,ep,e3,e2⟩
theorem RaiseS.use {f:Addr} (S:RaiseS w n f vs okV flt)
    {g:Heap} 
    (hvs:vs'=vs) (hA:A.handled=none) (hfr:A.frames=some (env::outer)) (hd:A.depth≤900 - 6 * n) (hu:A.units≤9000 - 99 * n)
    (W:Wd w base) (B:Below A₀ base outer g) (F:Fr g L s.heap m) (N:News g L s.heap news) (hf:env.frame=some L) (hk:env.scope.kind=.function)
    (h:∀ v h' tk,okV v→Fr g L h' m→News g L h' news→Q v { s with heap:=h',toks:=tk })
    (hx:∀ e dd sp h' tk,flt sp→RelS (FrOf outer) g h'→h'.Ns L m→h'.FunFrames base (env::outer)→FlT g h' e dd sp→E (.ref e) { s with heap:=h',toks:=tk }) :
    wpAny (model PySem.Challenge.rw_nz0031_01.row.prog w) A (call (.ref f) vs') Q E s:=by
  subst hvs
  refine wpAny_ak hA hfr hd hu (S _ base Q E s W (below_at B F hf hk) (fun v h' tk o k=>h v h' tk o (fr_keep F k fun _ h=>nomatch h) (fun p hp=>⟨k _ _ (N p hp).1 (fun h=>nomatch h),(N p hp).2⟩))
    fun e dd sp h' tk o r ff fl=>hx e dd sp h' tk o (relS_call F hf r) (relS_ns F.ns r) ff (fl.lower F.keep))
theorem exc_use {g:Heap} 
    (hA:A.handled=none) (hfr:A.frames=some (env::outer)) (hd:A.depth≤900 - 6 * 8) (hu:A.units≤9000 - 99 * 8)
    (W:Wd w base) (B:Below A₀ base outer g) (F:Fr g L s.heap m) (hf:env.frame=some L) (hk:env.scope.kind=.function)
    (h:∀ e dd h' tk,Fr g L h' m→FlN g h' e dd sp→Q (.ref e) { s with heap:=h',toks:=tk }) :
    wpAny (model PySem.Challenge.rw_nz0031_01.row.prog w) A (call (.ref 116) [.str what t1,.int sp t2]) Q E s:=by
  refine wpAny_ak hA hfr hd hu (exc_ok w _ base s Q E what sp t1 t2 W (below_at B F hf hk) fun e h' tk dd k he hdd sd=>h e dd h' tk (fr_keep F k fun _ h=>nomatch h) ?_)
  obtain ⟨hw,tw,vw,hs,ts,t,n,hdo,vs,h1,h2,h3⟩:=sd
  exact ⟨kts_none F.keep he,kts_none F.keep hdd,⟨hw,tw,vw,hs,ts,t,n,_,hdo⟩,vs,h1,h2,h3⟩
theorem raise_own {Q:Flow→Shared→Prop} {fn:Expr} {args:List Expr} {cpos:Pos} (hh:A.handled=none)
    (h:wpAny (model PySem.Challenge.rw_nz0031_01.row.prog w) A (eval (.Call fn args [] cpos) env) (fun v s₁=>∃ g e dd sp,v=.ref e∧(Kt w.params).In s₁.heap∧FlN g s₁.heap e dd sp∧E (.ref e) s₁) E s) :
    wpAny (model PySem.Challenge.rw_nz0031_01.row.prog w) A (exec (.Raise (some (.Call fn args [] cpos)) none pos) env) Q E s:=by
  have hcB:(Value.ref 116::bmE).contains (.type "BaseException")=true:=by decide
  rw [arm_exec_Raise]
  simp only [evalOpt,Option.map]
  refine wpAny_bind (wpAny_standAt ?_)
  unfold raiseStmt
  refine wpAny_bind (wpAny_bind (wpAny_mono h (fun v s₁ h₁=>wpAny_bind (wpAny_standAt (wpAny_pure ?_))) fun _ _ x=>x))
  obtain ⟨g,e,dd,sp,rfl,X,fl,hE⟩:=h₁
  obtain ⟨_,_,_,vs,he,_,h1⟩:=fl
  obtain ⟨nm,q,bs,hdct,sn,sub,ab,col,k0,k1,k2,k3,k5,hC⟩:=cls_E X
  obtain ⟨hp,g,d,tk,os⟩:=s₁
  repeat (first|with_reducible refine wpAny_loadPart_at he ?_|with_reducible refine wpAny_loadPart_at hC ?_|(with_reducible refine wpAny_isSubtype_exc hC ?_;rw [hcB])|wp_step)
  rw [h1]
  refine wpAny_pure ?_
  rw [if_neg (by decide)]
  refine wpAny_pure ?_
  exact wpAny_raiseNew_none hh hE
theorem leave_own {g:Heap} {Q:Unit→Shared→Prop} {e:Addr} 
    (hfr:A.frames=some (env::outer)) (hf:env.frame=some L) (hff:s.heap.FunFrames base (env::outer)) (hr:RelS (FrOf outer) g s.heap) (hL:g.get? L=none) (fl:FlN g s.heap e dd sp∨FlT g s.heap e dd sp)
    (hQ:∀ h' tk,RelS (FrOf outer) g h'→h'.FunFrames base outer→FlT g h' e dd sp→Q () { s with heap:=h',toks:=tk }) :
    wpAny (model PySem.Challenge.rw_nz0031_01.row.prog w) A (leaving env (.ref e)) Q E s :=
  leaving_ok hfr hf hff hr hL fl fun h' r _ ff fl=>hQ h' s.toks r ff fl
theorem raise_end {g:Heap} {e:Addr} (X:(Kt w.params).In g) (F:Fr g L h m) (fl:FlN g h e dd sp) (hE:E (.ref e) s) :
    ∃ g e' dd sp,Value.ref e=.ref e'∧(Kt w.params).In h∧FlN g h e' dd sp∧E (.ref e') s:=⟨g,e,dd,sp,rfl,X.keeps F.keep,fl,hE⟩
theorem leave_new {g:Heap} {Q:Unit→Shared→Prop} {e:Addr} 
    (B:Below A₀ base outer g) (F:Fr g L s.heap m) (hfr:A.frames=some (env::outer)) (hf:env.frame=some L) (hk:env.scope.kind=.function) (fl:FlN g s.heap e dd sp)
    (hQ:∀ h' tk,RelS (FrOf outer) g h'→h'.FunFrames base outer→FlT g h' e dd sp→Q () { s with heap:=h',toks:=tk }) :
    wpAny (model PySem.Challenge.rw_nz0031_01.row.prog w) A (leaving env (.ref e)) Q E s :=
  leave_own hfr hf (below_at (n:=0) B F hf hk).frames (relS_fr F) (kts_self F) (.inl fl) hQ
example:True:=by
  k_with "r11"=>(skip)
  trivial
theorem Objs.on (O:Objs base outer h0 objs) (K0:∀ b o,h0.get? b=some o→h.get? b=some o) (hL:h0.get? L=none) (hf:env.frame=some L):Objs base (env::outer) h objs:=by
  intro p hp
  obtain ⟨a,b,c⟩:=O p hp
  refine ⟨K0 _ _ a,b,fun hm=>?_⟩
  rw [List.filterMap_cons,hf] at hm
  rcases List.mem_cons.mp hm with z|z
  · rw [z,hL] at a;cases a
  · exact c z
theorem keep0 (F:Fr (hideAll h0 (hid.map (·.1))) L h m) (N:News (hideAll h0 (hid.map (·.1))) L h news) (h1:∀ p∈hid,h0.get? p.1=some p.2) (hm:∀ p∈hid,p∈news):∀ b o,h0.get? b=some o→h.get? b=some o:=by
  intro b o e
  by_cases hb:b∈hid.map (·.1)
  · obtain ⟨q,hq,rfl⟩:=List.mem_map.mp hb
    rw [h1 q hq] at e;cases e
    exact (N q (hm q hq)).1
  · exact F.keep _ _ (hideAll_get _ e hb)
theorem OfS.use {f:Addr} (S:OfS w base n f vs objs okV flt)
    {g:Heap} 
    (hvs:vs'=vs) (hA:A.handled=none) (hfr:A.frames=some (env::outer)) (hd:A.depth≤900 - 6 * n) (hu:A.units≤9000 - 99 * n)
    (O:Objs base outer h0 objs) (B:Below A₀ base outer g) (F:Fr g L s.heap m) (N:News g L s.heap news) (hL:h0.get? L=none) (K0:∀ b o,h0.get? b=some o→s.heap.get? b=some o) (hf:env.frame=some L) (hk:env.scope.kind=.function)
    (h:∀ v h' tk,okV v→Fr g L h' m→News g L h' news→Q v { s with heap:=h',toks:=tk })
    (hx:∀ e dd sp h' tk,flt sp→RelS (FrOf outer) h0 h'→h'.FunFrames base (env::outer)→FlT h0 h' e dd sp→h0.get? L=none→E (.ref e) { s with heap:=h',toks:=tk }) :
    wpAny (model PySem.Challenge.rw_nz0031_01.row.prog w) A (call (.ref f) vs') Q E s:=by
  subst hvs
  refine wpAny_ak hA hfr hd hu (S _ Q E s (below_at B F hf hk) (O.on K0 hL hf) (fun v h' tk o k=>h v h' tk o (fr_keep F k fun _ h=>nomatch h) (fun p hp=>⟨k _ _ (N p hp).1 (fun h=>nomatch h),(N p hp).2⟩))
    fun e dd sp h' tk o r ff fl=>hx e dd sp h' tk o ?_ ff (fl.lower K0) hL)
  refine ⟨fun b o e nm=>r.keep b o (K0 b o e) fun hm=>?_,fun b o e=>r.slot b o (K0 b o e)⟩
  have hLo:FrOf (env::outer)=L::FrOf outer:=by unfold FrOf;rw [List.filterMap_cons,hf]
  rw [hLo] at hm
  rcases List.mem_cons.mp hm with z|z
  · rw [z,hL] at e;cases e
  · exact nm z
theorem RaiseS.of {f:Addr} (S:RaiseS w n f vs okV flt) (W:Wd w base):OfS w base n f vs objs okV flt :=
  fun outer Q E s B _ h1 h2=>S outer base Q E s W B h1 h2
example:True:=by
  k_with "w omega"=>((fail_if_success k_extra "r12");k_extra "y0")
  trivial
theorem keepH (hN:∀ p∈hid,h0.get? p.1=some p.2∧base.get? p.1=none∧p.1∉outer.filterMap (·.frame))
    (F:Fr (hideAll h0 (hid.map (·.1))) L h m) (N:News (hideAll h0 (hid.map (·.1))) L h news) (hm:∀ p∈hid,p∈news):Keep [] h0 h:=fun b o e _=>keep0 F N (fun p hp=>(hN p hp).1) hm b o e
theorem Objs.sub (O:Objs base outer h objs) (hid:List (Addr×Obj)) (hs:∀ p∈hid,p∈objs):∀ p∈hid,h.get? p.1=some p.2∧base.get? p.1=none∧p.1∉outer.filterMap (·.frame):=fun p hp=>O p (hs p hp)
theorem tupZ_fit (hi:IntsAre vs l) (hl:l.length≤20):(vs.toArray.size:Int) < 2 ^ 63:=by
  have:=hi.length
  simp only [List.size_toArray]
  omega
section
variable {prog:Program} {w:World} {A:Around} {E:Value→Shared→Prop} {s:Shared} {Q:Value→Shared→Prop} {value slice:PySem.Expr} {t:Addr} {u:Tok}
theorem len_tupZ (ht:IsTup s.heap t vs.toArray) (hi:IntsAre vs l) (hl:l.length≤20) (h:Q (.int l.length (s.toks + 1)) { s with toks:=s.toks + 1 + 1 }) :
    wpAny (model prog w) A (call (.builtin "len") [.ref t]) Q E s :=
  len_tuple ht (tupZ_fit hi hl) (by have e:vs.toArray.size=l.length:=by simp [hi.length]
                                    rw [e];exact h)
theorem item_tupZ (ht:IsTup s.heap t vs.toArray) (hi:IntsAre vs l) (hl:l.length≤20) (h0:0≤k) (h1:k < l.length) (h:∀ n u,l[k.toNat]?=some n→Q (.int n u) s)
    (hs:subscripted slice false (.ref t) (.int k u)=operate [.ref t,.int k u] (getItem (.ref t) (.int k u)):=by with_unfolding_all rfl) :
    wpAny (model prog w) A (subscriptTail value slice (.ref t) (.int k u)) Q E s:=by
  have hlen:=hi.length
  have hk:k.toNat < vs.length:=by omega
  obtain ⟨n,u',e,hn⟩:=hi.at k.toNat _ (List.getElem?_eq_getElem hk)
  refine item_tupleT ht (by omega) (by omega) (j:=k.toNat) ?_ (List.getElem?_eq_getElem hk) ?_ hs
  · unfold seqIndex?
    have h2:¬ k < 0:=by omega
    simp only [h2,if_false]
    have h3:(decide (0≤k) && decide (k < (vs.length:Int)))=true:=by simp only [Bool.and_eq_true,decide_eq_true_eq];omega
    rw [if_pos h3]
  · rw [e];exact h n u' hn
theorem item_tupZlast (ht:IsTup s.heap t vs.toArray) (hi:IntsAre vs l) (hl:l.length≤20) (h1:0 < l.length) (h:∀ n u,l[l.length - 1]?=some n→Q (.int n u) s)
    (hs:subscripted slice false (.ref t) (.int (-1) u)=operate [.ref t,.int (-1) u] (getItem (.ref t) (.int (-1) u)):=by with_unfolding_all rfl) :
    wpAny (model prog w) A (subscriptTail value slice (.ref t) (.int (-1) u)) Q E s:=by
  have hlen:=hi.length
  have hk:l.length - 1 < vs.length:=by omega
  obtain ⟨n,u',e,hn⟩:=hi.at (l.length - 1) _ (List.getElem?_eq_getElem hk)
  refine item_tupleT ht (by omega) (by omega) (j:=l.length - 1) ?_ (List.getElem?_eq_getElem hk) ?_ hs
  · unfold seqIndex?
    have h2:(-1:Int) < 0:=by omega
    simp only [h2,if_true]
    have h3:(decide (0≤-1 + (vs.length:Int)) && decide (-1 + (vs.length:Int) < (vs.length:Int)))=true:=by simp only [Bool.and_eq_true,decide_eq_true_eq];omega
    rw [if_pos h3]
    congr 1
    omega
  · rw [e];exact h n u' hn
end
section
example:True:=by
  k_with "r6"=>(skip)
  k_with "r7"=>(skip)
  k_with "r8"=>(skip)
  k_with "r9"=>(skip)
  k_with "r10"=>(skip)
  k_with "y9"=>((
    (refine wpAny_call ?_);
    k_dflt (refine' enter ?kW_ ?kB_ [] ?k0_ ?ho_ ?hcd_ ?hroom_ ?hbind_ ?hloc_ ?_ ?c1_ ?c2_ ?c3_ ?c4_);
    (case kW_=>assumption);
    (case kB_=>assumption);
    (case k0_=>exact fun _ h=>nomatch h);
    (case ho_=>k_is);
    (case hcd_=>k_is);
    (case hroom_=>exact Nat.le_of_ble_eq_true rfl);
    (case hbind_=>exact BindsTo.of_eq rfl);
    (case hloc_=>exact locs rfl);
    (case c1_=>decide);
    (case c2_=>exact rfl);
    (case c3_=>exact rfl);
    (case c4_=>exact rfl);
    intro L h₁ p loose mean mg mb F N Bl X T lt eL tk;
    (dsimp only [List.map,hideAll] at F N Bl X T);
    (try k_fold)))
  k_with "m enter"=>((fail_if_success k_extra "r13");k_extra "y9")
  k_with "y10"=>(((case hd_|hu_=>exact Nat.le_of_ble_eq_true rfl);(case W_|B_|F_|N_=>k_asm);k_whole))
  k_with "m use"=>(k_extra "y10")
  k_with "y11"=>((k_here;k_dflt (first
  | (refine' leave_new ?B_ ?F_ rfl rfl rfl ?fl_ ?_;(case fl_|F_|B_=>k_asm);intro h9 tk9 r9 ff9 fl9;(try dsimp only))
  | (refine' leave_own rfl rfl ?ff_ ?rel_ ?hL_ (.inr ?fl_) ?_;(case fl_|ff_|rel_|hL_=>assumption);intro h9 tk9 r9 ff9 fl9;(try dsimp only)))))
  k_with "w leaving ref"=>((fail_if_success k_extra "r15");k_extra "y11")
  k_with "y12"=>((k_here;k_dflt (refine' raise_own rfl ?_)))
  k_with "w exec Raise some none"=>((fail_if_success k_extra "r16");k_extra "y12")
  k_with "y13"=>((k_dflt (refine' raise_end ?X_ ?F_ ?fl_ ?_;(case X_|F_|fl_=>k_asm))))
  k_with "w Exists"=>((fail_if_success k_extra "r17");k_extra "y13")
  k_with "y14"=>((
    (refine wpAny_call ?_);
    k_dflt (refine' enter ?kW_ ?kB_ _ ?k0_ ?ho_ ?hcd_ ?hroom_ ?hbind_ ?hloc_ ?_ ?c1_ ?c2_ ?c3_ ?c4_);
    (case k0_=>assumption);
    (case kW_=>assumption);
    (case kB_=>assumption);
    (case ho_=>k_is);
    (case hcd_=>k_is);
    (case hroom_=>exact Nat.le_of_ble_eq_true rfl);
    (case hbind_=>exact BindsTo.of_eq rfl);
    (case hloc_=>exact locs rfl);
    (case c1_=>decide);
    (case c2_=>exact rfl);
    (case c3_=>exact rfl);
    (case c4_=>exact rfl);
    intro L h₁ p loose mean mg mb F N Bl X T lt eL tk;
    (dsimp only [List.map] at F N Bl X T);
    (try k_fold)))
  k_with "m enterH"=>((fail_if_success k_extra "r18");k_extra "y14")
  k_with "y15"=>((k_here;(with_reducible show wpAny _ _ (subscriptTail _ _ (Value.ref _) (Value.int _ _)) _ _ _);k_dflt (refine' item_tupleT ?t_ ?a_ ?b_ ?c_ ?d_ ?_;(case t_=>exact News.isTup (by k_asm) (by k_mem));(case a_|b_=>decide);(case c_|d_=>rfl);k_whole)))
  k_with "w subscriptTail Name Constant ref int"=>((fail_if_success k_extra "r19");k_extra "y15")
  k_with "y16"=>((k_here;(with_reducible show wpAny _ _ (subscriptTail _ _ (Value.ref _) (Value.str _ _)) _ _ _);k_dflt (refine' item_strTab ?T_ ?hl_ ?_;(case T_=>k_tabat);(case hl_=>rfl);k_whole);intro v' hv';cases hv'))
  k_with "w subscriptTail Attribute Name Subscript ref str"=>((fail_if_success k_extra "r20");k_extra "y16")
  k_with "y17"=>((repeat (first|exact List.forall_mem_nil _|refine fc (by k_mem) ?_)))
  k_with "m mems"=>(k_extra "y17")
  trivial
theorem isarr_num (w:World) (x:Int) (tx:Tok):RaiseS w 20 137 [.int x tx] (fun v=>v=.bool false) (fun _=>False):=by
  intro outer base Q E s W B hret hflt
  k_extra "m fill"
  w_strict (
    k_extra "m enter"
    k_steps
    all_goals (try dsimp (config:={zetaDelta:=true}) only)
    all_goals first
      | exact hret _ _ _ rfl (Keep.of_fr (by assumption)))
theorem isarr_txt (w:World) (x:Str) (tx:Tok):RaiseS w 20 137 [.str x tx] (fun v=>v=.bool false) (fun _=>False):=by
  intro outer base Q E s W B hret hflt
  k_extra "m fill"
  w_strict (
    k_extra "m enter"
    k_steps
    all_goals (try dsimp (config:={zetaDelta:=true}) only)
    all_goals first
      | exact hret _ _ _ rfl (Keep.of_fr (by assumption)))
theorem isarr_arr (w:World) (base:Heap) (W:Wd w base) (objs:List (Addr×Obj)) (A R V:Addr) (vs:List Value) (c:Nat) (m1:(A,tupO [.ref R,.ref V])∈objs) (m2:(V,listOf vs.toArray c)∈objs) :
    OfS w base 20 137 [.ref A] objs (fun v=>v=.bool true) (fun _=>False):=by
  intro outer Q E s B O hret hflt
  have hN:=O.sub [(A,tupO [.ref R,.ref V]),(V,listOf vs.toArray c)] (fc m1 (fc m2 (List.forall_mem_nil _)))
  k_extra "m fill"
  w_strict (
    k_extra "m enterH"
    k_steps
    all_goals (try dsimp (config:={zetaDelta:=true}) only)
    all_goals first
      | exact hret _ _ _ rfl (keepH hN (by assumption) (by assumption) (by k_extra "m mems")))
example:True:=by
  k_with "y18"=>((k_here;(with_reducible show wpAny _ _ (subscriptTail _ _ (Value.ref _) (Value.int _ _)) _ _ _);k_dflt (refine' item_tupZ ?t_ ?i_ ?l_ ?a_ ?b_ ?_;(case t_=>exact News.isTup (by k_asm) (by k_mem));(case i_|l_=>assumption);(case a_|b_=>omega);k_whole;intro n' u' hn')))
  k_with "w subscriptTail Name Constant ref int"=>((fail_if_success k_extra "r22");k_extra "y18")
  k_with "y19"=>((k_here;k_dflt (refine' len_tupZ ?t_ ?i_ ?l_ ?_;(case t_=>exact News.isTup (by k_asm) (by k_mem));(case i_|l_=>assumption);k_whole)))
  k_with "w call builtin:len"=>((fail_if_success k_extra "r23");k_extra "y19")
  trivial
theorem isarr_set (w:World) (base:Heap) (W:Wd w base) (objs:List (Addr×Obj)) (a:Addr) (vs:List Value) (l:List Int) (hi:IntsAre vs l) (hl:l.length≤20) (m1:(a,tupO vs)∈objs) :
    OfS w base 20 137 [.ref a] objs (fun v=>v=.bool false) (fun _=>False):=by
  intro outer Q E s B O hret hflt
  have hN:=O.sub [(a,tupO vs)] (fc m1 (List.forall_mem_nil _))
  k_extra "m fill"
  w_strict (
    k_extra "m enterH"
    k_steps
    all_goals (try dsimp (config:={zetaDelta:=true}) only)
    all_goals first
      | exact hret _ _ _ (congrArg Value.bool (beq_false_of_ne (by assumption))) (keepH hN (by assumption) (by assumption) (by k_extra "m mems"))
      | exact hret _ _ _ rfl (keepH hN (by assumption) (by assumption) (by k_extra "m mems")))
end
theorem OfS.useV {f:Addr} {rv:Value} (S:OfS w base n f vs objs (fun v=>v=rv) (fun _=>False))
    {g:Heap} 
    (hvs:vs'=vs) (hA:A.handled=none) (hfr:A.frames=some (env::outer)) (hd:A.depth≤900 - 6 * n) (hu:A.units≤9000 - 99 * n)
    (O:Objs base outer h0 objs) (B:Below A₀ base outer g) (F:Fr g L s.heap m) (N:News g L s.heap news) (hL:h0.get? L=none) (K0:∀ b o,h0.get? b=some o→s.heap.get? b=some o) (hf:env.frame=some L) (hk:env.scope.kind=.function)
    (h:∀ h' tk,Fr g L h' m→News g L h' news→Q rv { s with heap:=h',toks:=tk }) :
    wpAny (model PySem.Challenge.rw_nz0031_01.row.prog w) A (call (.ref f) vs') Q E s :=
  S.use hvs hA hfr hd hu O B F N hL K0 hf hk (fun v h' tk ov F' N'=>by subst ov;exact h h' tk F' N') (fun _ _ _ _ _ f _ _ _ _=>f.elim)
theorem keepO (hN:∀ p∈hid,h0.get? p.1=some p.2∧base.get? p.1=none∧p.1∉outer.filterMap (·.frame))
    (F:Fr (hideAll h0 (hid.map (·.1))) L h m) (N:News (hideAll h0 (hid.map (·.1))) L h news) (hm:∀ p∈hid,p∈news):∀ b o,h0.get? b=some o→h.get? b=some o:=keep0 F N (fun p hp=>(hN p hp).1) hm
theorem room_le:(Ak n outer).depth < recursionLimit:=Nat.lt_of_le_of_lt (Nat.sub_le 900 _) (Nat.le_of_ble_eq_true rfl)
theorem self_none (e:L=h0.objs.size):h0.get? L=none:=Heap.get?_none_of_le (by rw [e];exact Nat.le_refl _)
theorem isarr_ok (w:World) (base:Heap) (W:Wd w base) (objs:List (Addr×Obj)) (R V:Addr) (vsV:List Value) (c:Nat) (v:Value) (x:Arg) (hv:ArgV objs R V vsV c v x) :
    OfS w base 20 137 [v] objs (fun r=>r=.bool x.isArr) (fun _=>False):=by
  cases x with
  | set l=>obtain ⟨a,vs,rfl,m,hi,hl⟩:=hv;exact isarr_set w base W objs a vs l hi hl m
  | arr=>obtain ⟨a,rfl,m1,m2⟩:=hv;exact isarr_arr w base W objs a R V vsV c m1 m2
  | num=>obtain ⟨t,rfl⟩:=hv;exact (isarr_num w 3 t).of W
  | txt=>obtain ⟨t,rfl⟩:=hv;exact (isarr_txt w _ t).of W
section
example:True:=by
  k_with "r13"=>(skip)
  k_with "r18"=>(skip)
  k_with "r22"=>(skip)
  k_with "r20"=>(skip)
  k_with "r23"=>(skip)
  k_with "y20"=>((
    (refine wpAny_call ?_);
    k_dflt (refine' enter ?kW_ ?kB_ [] ?k0_ ?ho_ ?hcd_ ?hroom_ ?hbind_ ?hloc_ ?_ ?c1_ ?c2_ ?c3_ ?c4_);
    (case kW_=>assumption);
    (case kB_=>assumption);
    (case k0_=>exact fun _ h=>nomatch h);
    (case ho_=>k_is);
    (case hcd_=>k_is);
    (case hroom_=>first|exact Nat.le_of_ble_eq_true rfl|exact room_le);
    (case hbind_=>exact BindsTo.of_eq rfl);
    (case hloc_=>exact locs rfl);
    (case c1_=>decide);
    (case c2_=>exact rfl);
    (case c3_=>exact rfl);
    (case c4_=>exact rfl);
    intro L h₁ p loose mean mg mb F N Bl X T lt eL tk;
    (dsimp only [List.map,hideAll] at F N Bl X T);
    (try k_fold)))
  k_with "m enter"=>((fail_if_success k_extra "r24");k_extra "y20")
  k_with "y21"=>((
    (refine wpAny_call ?_);
    k_dflt (refine' enter ?kW_ ?kB_ _ ?k0_ ?ho_ ?hcd_ ?hroom_ ?hbind_ ?hloc_ ?_ ?c1_ ?c2_ ?c3_ ?c4_);
    (case k0_=>assumption);
    (case kW_=>assumption);
    (case kB_=>assumption);
    (case ho_=>k_is);
    (case hcd_=>k_is);
    (case hroom_=>first|exact Nat.le_of_ble_eq_true rfl|exact room_le);
    (case hbind_=>exact BindsTo.of_eq rfl);
    (case hloc_=>exact locs rfl);
    (case c1_=>decide);
    (case c2_=>exact rfl);
    (case c3_=>exact rfl);
    (case c4_=>exact rfl);
    intro L h₁ p loose mean mg mb F N Bl X T lt eL tk;
    (dsimp only [List.map] at F N Bl X T);
    (try k_fold)))
  k_with "m enterH"=>((fail_if_success k_extra "r25");k_extra "y21")
  k_with "y22"=>(((case hd_|hu_=>first|exact Nat.le_of_ble_eq_true rfl|(dsimp only [Around.deeper];omega));(case W_|B_|F_|N_=>k_asm);k_whole))
  k_with "m use2"=>(k_extra "y22")
  k_with "y23"=>(((case hd_|hu_=>first|exact Nat.le_of_ble_eq_true rfl|(dsimp only [Around.deeper];omega));(case O_=>assumption);(case B_|F_|N_=>k_asm);(case hL_=>exact self_none (by assumption));(case K0_=>exact keepO (by assumption) (by assumption) (by assumption) (by k_extra "m mems"));k_whole))
  k_with "m useO"=>((fail_if_success k_extra "r27");k_extra "y23")
  k_with "y24"=>((k_here;k_dflt (refine Call_ ?_)))
  k_with "w eval Call"=>((fail_if_success k_extra "r28");k_extra "y24")
  k_with "y25"=>((k_here;k_dflt (first
  | (refine' OfS.useV (isarr_ok _ _ ?W_ _ _ _ _ _ _ _ ?hv_) rfl rfl rfl ?hd_ ?hu_ ?O_ ?B_ ?F_ ?N_ ?hL_ ?K0_ rfl rfl (fun h' tk' F' N'=>?_);(case hv_|W_=>assumption);k_extra "m useO"))))
  k_with "w call ref"=>((fail_if_success k_extra "r29");k_extra "y25")
  trivial
theorem isset_set (w:World) (base:Heap) (W:Wd w base) (objs:List (Addr×Obj)) (R V:Addr) (vsV:List Value) (c:Nat) (a:Addr) (vs:List Value) (l:List Int) (hi:IntsAre vs l) (hl:l.length≤20) (m1:(a,tupO vs)∈objs) :
    OfS w base 22 144 [.ref a] objs (fun r=>r=.bool true) (fun _=>False):=by
  have hv:ArgV objs R V vsV c (.ref a) (.set l):=⟨a,vs,rfl,m1,hi,hl⟩
  intro outer Q E s B O hret hflt
  have hN:=O.sub [(a,tupO vs)] (fc m1 (List.forall_mem_nil _))
  k_extra "m fill"
  w_strict (
    k_extra "m enterH"
    k_steps
    all_goals (try dsimp (config:={zetaDelta:=true}) only)
    all_goals first
      | exact hret _ _ _ rfl (keepH hN (by assumption) (by assumption) (by k_extra "m mems")))
theorem isset_arr (w:World) (base:Heap) (W:Wd w base) (objs:List (Addr×Obj)) (A R V:Addr) (vs:List Value) (c:Nat) (m1:(A,tupO [.ref R,.ref V])∈objs) (m2:(V,listOf vs.toArray c)∈objs) :
    OfS w base 22 144 [.ref A] objs (fun r=>r=.bool false) (fun _=>False):=by
  have hv:ArgV objs R V vs c (.ref A) .arr:=⟨A,rfl,m1,m2⟩
  intro outer Q E s B O hret hflt
  have hN:=O.sub [(A,tupO [.ref R,.ref V])] (fc m1 (List.forall_mem_nil _))
  k_extra "m fill"
  w_strict (
    k_extra "m enterH"
    k_steps
    all_goals (try dsimp (config:={zetaDelta:=true}) only)
    all_goals first
      | exact hret _ _ _ rfl (keepH hN (by assumption) (by assumption) (by k_extra "m mems")))
theorem isset_num (w:World) (x:Int) (tx:Tok):RaiseS w 22 144 [.int x tx] (fun v=>v=.bool false) (fun _=>False):=by
  intro outer base Q E s W B hret hflt
  k_extra "m fill"
  w_strict (
    k_extra "m enter"
    k_steps
    all_goals (try dsimp (config:={zetaDelta:=true}) only)
    all_goals first
      | exact hret _ _ _ rfl (Keep.of_fr (by assumption)))
theorem isset_txt (w:World) (x:Str) (tx:Tok):RaiseS w 22 144 [.str x tx] (fun v=>v=.bool false) (fun _=>False):=by
  intro outer base Q E s W B hret hflt
  k_extra "m fill"
  w_strict (
    k_extra "m enter"
    k_steps
    all_goals (try dsimp (config:={zetaDelta:=true}) only)
    all_goals first
      | exact hret _ _ _ rfl (Keep.of_fr (by assumption)))
theorem isset_ok (w:World) (base:Heap) (W:Wd w base) (objs:List (Addr×Obj)) (R V:Addr) (vsV:List Value) (c:Nat) (v:Value) (x:Arg) (hv:ArgV objs R V vsV c v x) :
    OfS w base 22 144 [v] objs (fun r=>r=.bool x.isSet) (fun _=>False):=by
  cases x with
  | set l=>obtain ⟨a,vs,rfl,m,hi,hl⟩:=hv;exact isset_set w base W objs R V vsV c a vs l hi hl m
  | arr=>obtain ⟨a,rfl,m1,m2⟩:=hv;exact isset_arr w base W objs a R V vsV c m1 m2
  | num=>obtain ⟨t,rfl⟩:=hv;exact (isset_num w 3 t).of W
  | txt=>obtain ⟨t,rfl⟩:=hv;exact (isset_txt w _ t).of W
end
section
example:True:=by
  k_with "r29"=>(skip)
  k_with "y26"=>((k_here;k_dflt (first
  | (refine' OfS.useV (isarr_ok _ _ ?W_ _ _ _ _ _ _ _ ?hv_) rfl rfl rfl ?hd_ ?hu_ ?O_ ?B_ ?F_ ?N_ ?hL_ ?K0_ rfl rfl (fun h' tk' F' N'=>?_);(case hv_|W_=>assumption);k_extra "m useO")
  | (refine' OfS.useV (isset_ok _ _ ?W_ _ _ _ _ _ _ _ ?hv_) rfl rfl rfl ?hd_ ?hu_ ?O_ ?B_ ?F_ ?N_ ?hL_ ?K0_ rfl rfl (fun h' tk' F' N'=>?_);(case hv_|W_=>assumption);k_extra "m useO")
  | (refine' exc_use rfl rfl ?hd_ ?hu_ ?W_ ?B_ ?F_ rfl rfl ?_;(case hd_|hu_=>first|exact Nat.le_of_ble_eq_true rfl|(dsimp only [Around.deeper];omega));(case W_|B_|F_=>k_asm);k_whole;intro e' dd' h' tk' F' fl';(try dsimp only)))))
  k_with "w call ref"=>((fail_if_success k_extra "r30");k_extra "y26")
  trivial
theorem setof_ok (w:World) (base:Heap) (W:Wd w base) (objs:List (Addr×Obj)) (R V:Addr) (vsV:List Value) (c:Nat) (v:Value) (x:Arg) (spot:Int) (ts:Tok) (hv:ArgV objs R V vsV c v x) :
    OfS w base 24 172 [v,.int spot ts] objs (fun r=>x.isSet=true∧r=v) (fun sp=>x.isSet=false∧sp=spot):=by
  intro outer Q E s B O hret hflt
  have hN:=O.sub [] (List.forall_mem_nil _)
  k_extra "m fill"
  w_strict (
    k_extra "m enter"
    k_steps
    all_goals (try dsimp (config:={zetaDelta:=true}) only)
    all_goals first
      | exact hret _ _ _ ⟨by assumption,rfl⟩ (keepH hN (by assumption) (by assumption) (by k_extra "m mems"))
      | exact hflt _ _ _ _ _ ⟨by assumption,rfl⟩ (by assumption) (by assumption) (by assumption))
theorem listof_arr (w:World) (base:Heap) (W:Wd w base) (objs:List (Addr×Obj)) (A R V:Addr) (vs:List Value) (c:Nat) (spot:Int) (ts:Tok) (m1:(A,tupO [.ref R,.ref V])∈objs) (m2:(V,listOf vs.toArray c)∈objs) :
    OfS w base 24 179 [.ref A,.int spot ts] objs (fun r=>r=.ref V) (fun _=>False):=by
  have hv:ArgV objs R V vs c (.ref A) .arr:=⟨A,rfl,m1,m2⟩
  intro outer Q E s B O hret hflt
  have hN:=O.sub [(A,tupO [.ref R,.ref V])] (fc m1 (List.forall_mem_nil _))
  k_extra "m fill"
  w_strict (
    k_extra "m enterH"
    k_steps
    all_goals (try dsimp (config:={zetaDelta:=true}) only)
    all_goals first
      | exact hret _ _ _ rfl (keepH hN (by assumption) (by assumption) (by k_extra "m mems")))
theorem listof_not (w:World) (base:Heap) (W:Wd w base) (objs:List (Addr×Obj)) (R V:Addr) (vsV:List Value) (c:Nat) (v:Value) (x:Arg) (spot:Int) (ts:Tok) (hv:ArgV objs R V vsV c v x) (hx:x.isArr=false) :
    OfS w base 24 179 [v,.int spot ts] objs (fun _=>False) (fun sp=>sp=spot):=by
  intro outer Q E s B O hret hflt
  have hN:=O.sub [] (List.forall_mem_nil _)
  k_extra "m fill"
  w_strict (
    k_extra "m enter"
    k_steps
    all_goals (try dsimp (config:={zetaDelta:=true}) only)
    all_goals first
      | exact hflt _ _ _ _ _ rfl (by assumption) (by assumption) (by assumption)
      | exact absurd hx (by simp only [*];decide))
theorem listof_ok (w:World) (base:Heap) (W:Wd w base) (objs:List (Addr×Obj)) (R V:Addr) (vsV:List Value) (c:Nat) (v:Value) (x:Arg) (spot:Int) (ts:Tok) (hv:ArgV objs R V vsV c v x) :
    OfS w base 24 179 [v,.int spot ts] objs (fun r=>x.isArr=true∧r=.ref V) (fun sp=>x.isArr=false∧sp=spot):=by
  cases h:x.isArr with
  | true =>
    cases x with
    | arr =>
      obtain ⟨a,rfl,m1,m2⟩:=hv
      intro outer Q E s B O hret hflt
      exact listof_arr w base W objs a R V vsV c spot ts m1 m2 outer Q E s B O (fun v h' tk e=>hret v h' tk ⟨rfl,e⟩) (fun e dd sp h' tk f=>f.elim)
    | _=>cases h
  | false =>
    intro outer Q E s B O hret hflt
    exact listof_not w base W objs R V vsV c v x spot ts hv h outer Q E s B O (fun v h' tk e=>e.elim) (fun e dd sp h' tk f=>hflt e dd sp h' tk ⟨rfl,f⟩)
end
section
variable {prog:Program} {w:World} {A:Around} {E:Value→Shared→Prop} {s:Shared}
theorem wpAny_collect_range {Q:List Value→Shared→Prop} {a b c:Int} {v:Tok} (hh:A.handled=none) (hr:IsRange s.heap r a b c t u v) (hsmall:Builtin.Range.small a b c=true)
    (hn:Builtin.Range.rangeSize a b c=n) (hlen:n≤2 ^ 24)
    (hQ:∀ (h':Heap) tk acc,(∀ b o,s.heap.get? b=some o→h'.get? b=some o)→ItemsOf (fun i v=>∃ t,v=.int (a + i * c) t) acc n→Q acc.toList { s with heap:=h',toks:=tk }) :
    wpAny (model prog w) A (collect (.ref r)) Q E s:=by
  unfold collect
  refine wpAny_bind (wpAny_runValue (codeAny_builtin F.entry_proto_collect ?_))
  rw [Around.under_plainId F.plain_proto_collect _]
  show wpAny _ A.in1 (newList [] >>= fun l=>again (.builtin "list.__iadd__" ⟨[l,.ref r],[]⟩)) _ _ s
  refine wpAny_bind (wpAny_newObj_type ?_)
  refine wpAny_pure ⟨plainId_quiet F.plain_list_iadd _,codeAny_builtin F.entry_list_iadd ?_⟩
  rw [Around.under_plainId F.plain_list_iadd _]
  show wpAny _ A.in1 (Builtin.List.listExtendWith (.ref s.heap.objs.size) (.ref r) (.ref s.heap.objs.size)) _ _ _
  have hS:(s.heap.push { cls:=.type "list",data:=.seq ([]:List Value).toArray }).get? s.heap.objs.size=some { cls:=.type "list",data:=.seq #[] 0 }:=Heap.get?_push_size _ rfl
  have fin':∀ h' tk acc' c',(∀ b o,b≠s.heap.objs.size→(s.heap.push { cls:=.type "list",data:=.seq ([]:List Value).toArray }).get? b=some o→h'.get? b=some o) →
      h'.get? s.heap.objs.size=some { cls:=.type "list",dict:=none,data:=.seq acc' c',slots:=#[] }→ItemsOf (fun i v=>∃ t,v=.int (a + i * c) t) acc' n →
      wpAny (model prog w) A (match Value.ref s.heap.objs.size with
      | Value.ref a=>do
        match (← load a).data with
          | Data.seq xs _=>pure xs.toList
          | _=>unsupported "internal:collect"
      | _=>unsupported "internal:collect") Q E { s with heap:=h',toks:=tk }:=by
    intro h' tk acc' c' hk hS' hacc
    show wpAny _ A (load s.heap.objs.size >>= _) _ _ _
    refine wpAny_bind (wpAny_load hS' ?_)
    exact wpAny_pure (hQ h' tk acc' (fun b o e=>hk b o (Nat.ne_of_lt (Heap.lt_size e)) (Heap.get?_push_of_some _ e)) hacc)
  refine wpAny_mono (wpAny_extend_range (A:=A) (R:=fun r s'=>r=.ok (.ret (.ref s.heap.objs.size))∧∃ h' tk acc' c',s'={ s with heap:=h',toks:=tk }∧(∀ b o,b≠s.heap.objs.size→(s.heap.push { cls:=.type "list",data:=.seq ([]:List Value).toArray }).get? b=some o→h'.get? b=some o)∧h'.get? s.heap.objs.size=some { cls:=.type "list",dict:=none,data:=.seq acc' c',slots:=#[] }∧ItemsOf (fun i v=>∃ t,v=.int (a + i * c) t) acc' n)
    (s:={ s with heap:=s.heap.push { cls:=.type "list",data:=.seq ([]:List Value).toArray } }) hh (Heap.get?_push_of_some _ hr) hsmall hn hlen _ _ 0 hS (fun h' tk acc' c' hk hS' hacc=>⟨rfl,h',tk,acc',c',rfl,hk,hS',hacc⟩)) (fun fin s' h=>?_) (fun e s' h=>?_)
  · cases fin with
    | done f =>
      obtain ⟨e,h',tk,acc',c',rfl,h1,h2,h3⟩:=h
      cases e
      exact fin' h' tk acc' c' h1 h2 h3
    | again c'=>exact ⟨h.1,codeAny_mono h.2 fun r s'' hr=>by obtain ⟨rfl,h',tk,acc',c'',rfl,h1,h2,h3⟩:=hr;exact fin' h' tk acc' c'' h1 h2 h3⟩
  · exact absurd h.1 (by simp)
theorem code_tuple_new_range {Q₁:Value→Shared→Prop} {a b c:Int} {v:Tok} (hh:A.handled=none) (hr:IsRange s.heap r a b c t u v) (hsmall:Builtin.Range.small a b c=true)
    (hn:Builtin.Range.rangeSize a b c=n) (hlen:n≤2 ^ 20)
    (h:∀ (h':Heap) tk acc,(∀ b o,s.heap.get? b=some o→h'.get? b=some o)→ItemsOf (fun i v=>∃ t,v=.int (a + i * c) t) acc n→Q₁ (.ref h'.objs.size) { s with heap:=h'.push { cls:=.type "tuple",data:=.seq acc },toks:=tk }) :
    codeAny (model prog w) A (.call (.builtin "tuple.__new__") ⟨[.type "tuple",.ref r],[]⟩) (wants Q₁ E) s:=by
  refine codeAny_of_tree ?_
  show wpAny _ A.in1 (do checkBuiltinCall "tuple.__new__" ⟨[.type "tuple",.ref r],[]⟩;again (.builtin "tuple.__new__" ⟨[.type "tuple",.ref r],[]⟩)) _ _ s
  refine wpAny_bind (wpAny_of_eq (F.newCall_tuple_1 _) (wpAny_pure ⟨plainId_quiet F.plain_tuple_new _,codeAny_builtin F.entry_tuple_new ?_⟩))
  rw [Around.under_plainId F.plain_tuple_new _]
  have hsub:=sub_tuple_self
  have hinit:=init_tuple_lookup
  have hmh:=madeHere_tuple
  have hTI:s.TypeIs (.ref r) "range":=⟨_,hr,rfl⟩
  wp_walk using wpAny_typeOf hTI,wpAny_collect_range (A:=A.in1) hh hr hsmall hn (Nat.le_trans hlen (by decide))
  intro h' tk acc hm hacc
  show wpAny _ _ (Builtin.Tuple.tupleExact acc.toList.toArray >>= fun v=>ret v) _ _ _
  unfold Builtin.Tuple.tupleExact
  refine wpAny_bind (wpAny_newObj_type ?_ (by show acc.toList.toArray.size≤sizeLine;simp only [Array.toArray_toList];rw [hacc.1,sizeLine_eq];omega))
  refine wpAny_pure ?_
  have e:acc.toList.toArray=acc:=by simp
  rw [e]
  exact h h' tk acc hm hacc
theorem call_tuple_range {a b c:Int} {v:Tok} (hh:A.handled=none) (hr:IsRange s.heap r a b c t u v) (hsmall:Builtin.Range.small a b c=true)
    (hn:Builtin.Range.rangeSize a b c=n) (hlen:n≤2 ^ 20)
    (h:∀ (h':Heap) tk acc,(∀ b o,s.heap.get? b=some o→h'.get? b=some o)→ItemsOf (fun i v=>∃ t,v=.int (a + i * c) t) acc n→Q (.ref h'.objs.size) { s with heap:=h'.push { cls:=.type "tuple",data:=.seq acc },toks:=tk }) :
    wpAny (model prog w) A (call (.type "tuple") [.ref r]) Q E s:=by
  refine callType_codes (Q₁:=fun obj s₁=>s₁.TypeIs obj "tuple"∧Q obj s₁) F.called_tuple (F.typeCall_tuple_1 _) F.entry_object_init
    (code_tuple_new_range hh hr hsmall hn hlen fun h' tk acc hm hacc=>⟨⟨_,Heap.get?_push_size _ rfl,rfl⟩,h h' tk acc hm hacc⟩) fun obj s₁ h₁=>?_
  exact ⟨h₁.1,F.args_object_init_2 obj _,object_init_meets F.called_tuple.init.lookup F.called_tuple.made (by decide) prog w A.in1 _ s₁ ⟨h₁.1,rfl,h₁.2⟩⟩
end
theorem intsFrom_len:∀ (n:Nat) (a:Int),(intsFrom a n).length=n
  | 0,_=>rfl
  | n + 1,a=>by rw [intsFrom,List.length_cons,intsFrom_len n]
theorem ints_of_items (n:Nat):∀ (a:Int) (vs:List Value),vs.length=n→(∀ (j:Nat) (v:Value),vs[j]?=some v→∃ t,v=Value.int (a + j * 1) t)→IntsAre vs (intsFrom a n):=by
  induction n with
  | zero=>intro a vs hl h;rw [List.length_eq_zero_iff.mp hl];exact .nil
  | succ n ih =>
    intro a vs hl h
    cases vs with
    | nil=>cases hl
    | cons v vs =>
      obtain ⟨t,e⟩:=h 0 v rfl
      have e:v=.int a t:=by rw [e];congr 1;push_cast;omega
      rw [e]
      refine .cons a t (ih (a + 1) vs (Nat.succ.inj hl) fun j v hv=>?_)
      obtain ⟨t,e⟩:=h (j + 1) v hv
      exact ⟨t,by rw [e];congr 1;push_cast;omega⟩
theorem size_range1 (a b:Int):Builtin.Range.rangeSize a b 1=((b - a).toNat:Int):=by
  unfold Builtin.Range.rangeSize
  simp
  omega
theorem fits_long (x:Int) (h:-10000≤x∧x≤10000):Builtin.Range.rangeFitsLong x=true:=by
  unfold Builtin.Range.rangeFitsLong
  simp only [Bool.and_eq_true,decide_eq_true_eq]
  omega
theorem noteFrame_frame {x:Value} {env':Env} (h:env'.frame=env.frame):noteFrame x env'=noteFrame x env:=by
  unfold noteFrame PySem.frameOf
  rw [h]
section
variable {prog:Program} {w:World} {A:Around} {E:Value→Shared→Prop} {env:Env}
theorem compW {x:Str} {s₂:Shared} {wr:List Addr} {P:Nat→Value→Prop} {St:Nat→Heap→Prop} 
    (J:Nat→List Value→Heap→Prop) (W:Walks prog w A I fp wr n P St) (hsz:n≤1000) (hcell:∀ y∈scope.names,y.2≠.cell) (hkind:scope.kind=.function) (hx:scope.names.lookup x=some .local)
    (hst:St 0 s₂.heap) (hfp:∀ b∈fp,b < s₂.heap.objs.size)
    (hJ:∀ i ys (h h':Heap),(∀ b o,b∉wr→b≠s₂.heap.objs.size→b≠s₂.heap.objs.size + 1→h.get? b=some o→h'.get? b=some o)→J i ys h→J i ys h')
    (h0:∀ h':Heap,(∀ b o,s₂.heap.get? b=some o→h'.get? b=some o)→J 0 [] h')
    (turn:∀ i v ys h₃ tk m₃,i < n→P i v→J i ys h₃→h₃.Ns (s₂.heap.objs.size + 1) m₃→m₃ x=some v→ys.length=i→St (i + 1) h₃→h₃.PlainList s₂.heap.objs.size ys.toArray →
      wpAny (model prog w) A (eval elt (compEnvC scope cl (s₂.heap.objs.size + 1) env)) (fun y s₄=>∃ h₄ tk₄,s₄={ s₂ with heap:=h₄,toks:=tk₄ }∧J (i + 1) (ys++[y]) h₄∧(∀ b o,b∈fp∨b=s₂.heap.objs.size∨b=s₂.heap.objs.size + 1→h₃.get? b=some o→h₄.get? b=some o))
        (notedBy (model prog w) A env (CompErr prog w A E (s₂.heap.objs.size + 1))) { s₂ with heap:=h₃,toks:=tk })
    (done:∀ ys h' tk,J n ys h'→h'.PlainList s₂.heap.objs.size ys.toArray→ys.length=n→Q (.ref s₂.heap.objs.size) { s₂ with heap:=h',toks:=tk }) :
    wpAny (model prog w) A (newList []) (fun acc s₃=>wpAny (model prog w) A (newFunctionEnv scope env.globals cl [] env.qual none .none (some env)) (fun cenv s₄ =>
      codeAny (model prog w) A (.compStart (.ListComp elt [⟨.Name x px,iter,[],0⟩] scope pos) 0 (.ref I) acc { cenv with scope:=relabel scope env }) (compPost (model prog w) A E none Q acc cenv.locals) s₄) E s₃) E s₂:=by
  refine wpAny_newObj_type (wpAny_newFunctionEnv hcell (by intro y hy;simp at hy) (fun h₁ hns₁ hsb₁=>?_) hkind)
  dsimp only at hns₁ hsb₁ ⊢
  generalize hH2:s₂.heap.push { cls:=.type "list",dict:=none,data:=.seq ([]:List Value).toArray }=H2 at hns₁ hsb₁ ⊢
  have hC:H2.objs.size=s₂.heap.objs.size + 1:=by rw [← hH2,Heap.size_push]
  rw [hC] at hns₁ hsb₁ ⊢
  have hDC:s₂.heap.objs.size≠s₂.heap.objs.size + 1:=Nat.ne_of_lt (Nat.lt_succ_self _)
  have below:∀ b,b < s₂.heap.objs.size→b≠s₂.heap.objs.size + 1∧b≠s₂.heap.objs.size:=fun b hb=>⟨Nat.ne_of_lt (Nat.lt_succ_of_lt hb),Nat.ne_of_lt hb⟩
  have hDf:s₂.heap.objs.size∉fp:=fun hm=>Nat.lt_irrefl _ (hfp _ hm)
  have hCf:s₂.heap.objs.size + 1∉fp:=fun hm=>by have:=hfp _ hm;exact Nat.lt_irrefl _ (Nat.lt_of_succ_lt this)
  have old:∀ b o,s₂.heap.get? b=some o→h₁.get? b=some o:=fun b o e=>hsb₁.extBut b o (below b (Heap.lt_size e)).1 (Heap.get?_push_of_some _ (hH2 ▸ Heap.get?_push_of_some _ e))
  have hacc:h₁.PlainList s₂.heap.objs.size #[]:=⟨_,hsb₁.extBut _ _ hDC (Heap.get?_push_of_some _ (hH2 ▸ Heap.get?_push_size _ rfl))⟩
  have hst₁:St 0 h₁:=W.frame _ _ _ hst fun b _ o e=>old b o e
  have hxl:(compEnvC scope cl (s₂.heap.objs.size + 1) env).kindOf x=some .local:=lookup_relabel_local hx
  have hpp:((compEnvC scope cl (s₂.heap.objs.size + 1) env).scope.kind == .class || ((compEnvC scope cl (s₂.heap.objs.size + 1) env).scope.kind == .module && (compEnvC scope cl (s₂.heap.objs.size + 1) env).locals != (compEnvC scope cl (s₂.heap.objs.size + 1) env).globals))=false:=by simp [compEnvC,relabel,hkind]
  have hEr:∀ (e:Value) (s':Shared),notedBy (model prog w) A env (CompErr prog w A E (s₂.heap.objs.size + 1)) e s'→notedBy (model prog w) A (compEnvC scope cl (s₂.heap.objs.size + 1) env) (fun e s'=>compPost (model prog w) A E none Q (.ref s₂.heap.objs.size) (s₂.heap.objs.size + 1) (.error e) s') e s':=fun e s' he=>by
    unfold notedBy at he ⊢
    rw [noteFrame_frame (env:=env) (env':=compEnvC scope cl (s₂.heap.objs.size + 1) env) rfl]
    exact he
  have loop:∀ s₃:Shared,s₃={ s₂ with heap:=h₁,toks:=s₂.toks + ([]:List (Str×Value)).length } →
      codeAny (model prog w) A (.compLoop (.ListComp elt [⟨.Name x px,iter,[],0⟩] scope pos) 0 (.ref I) (.ref s₂.heap.objs.size) (compEnvC scope cl (s₂.heap.objs.size + 1) env))
        (compPost (model prog w) A E none Q (.ref s₂.heap.objs.size) (s₂.heap.objs.size + 1)) s₃:=by
    rintro s₃ rfl
    refine codeAny_compLoop_tests
      (fun k s'=>∃ h' tk m' ys i,s'={ s₂ with heap:=h',toks:=tk }∧St i h'∧h'.PlainList s₂.heap.objs.size ys.toArray∧h'.Ns (s₂.heap.objs.size + 1) m'∧J i ys h'∧ys.length=i∧i≤n∧k=n + 1 - i) ?_ (n + 1)
      ⟨h₁,_,_,[],0,rfl,hst₁,hacc,hns₁,h0 h₁ old,rfl,Nat.zero_le _,rfl⟩
    rintro k s' ⟨H,tk,m',ys,i,rfl,hst',hacc',hn',hJ',hyl,hi,rfl⟩
    by_cases hlt:i < n
    · refine W.item i _ _ _ hlt hst' fun v h₂ tk₂ hP hst₂ hk₂=>?_
      have hns₂:h₂.Ns (s₂.heap.objs.size + 1) m':=hn'.at' fun o e=>hk₂ _ o (fun z=>hCf (W.sub _ z)) e
      refine wpAny_assign_Name (wpAny_storeName_local hxl hns₂ (fun h₃ hns₃ hs₃=>?_) hpp)
      have hst₃:St (i + 1) h₃:=W.frame _ _ _ hst₂ fun b hb o e=>hs₃.extBut b o (fun z=>hCf (by have z2:b=s₂.heap.objs.size + 1:=z;rw [← z2];exact hb)) e
      have hacc₃:h₃.PlainList s₂.heap.objs.size ys.toArray:=hacc'.at fun o e=>hs₃.extBut _ o hDC (hk₂ _ o (fun z=>hDf (W.sub _ z)) e)
      have hJ₃:J i ys h₃:=hJ i ys H h₃ (fun b o h1 h2 h3 e=>hs₃.extBut b o h3 (hk₂ b o h1 e)) hJ'
      refine wpAny_tests_nil ?_
      simp only [if_true]
      refine wpAny_mono (turn i v ys h₃ _ _ hlt hP hJ₃ hns₃ (by simp) hyl hst₃ hacc₃) (fun y s₄ h₄=>?_) (fun e s' he=>hEr e s' he)
      obtain ⟨h₄,tk₄,rfl,hJ₄,hk₄⟩:=h₄
      refine wpAny_list_append_plain (hsz:=by rw [List.size_toArray,sizeLine_eq];omega) (hacc₃.at fun o e=>hk₄ _ o (.inr (.inl rfl)) e) fun h₅ hl₅ hs₅=>?_
      have hns₅:=(hns₃.at' fun o e=>hk₄ _ o (.inr (.inr rfl)) e).sameBut hs₅ (Ne.symm hDC)
      refine ⟨n + 1 - (i + 1),by omega,h₅,tk₄,_,ys++[y],i + 1,rfl,W.frame _ _ _ hst₃ fun b hb o e=>hs₅.extBut b o (fun z=>hDf (z ▸ hb)) (hk₄ b o (.inl hb) e),by simpa using hl₅,hns₅,hJ _ _ h₄ h₅ (fun b o h1 h2 h3 e=>hs₅.extBut b o h2 e) hJ₄,by simp [hyl],hlt,rfl⟩
    · have hin:i=n:=by omega
      subst hin
      refine W.done _ _ _ hst' fun h₂ tk₂ hk₂=>?_
      refine ⟨m',hn'.at' fun o e=>hk₂ _ o (fun z=>hCf (W.sub _ z)) e,fun h₃ hs₃=>?_⟩
      exact done ys h₃ tk₂ (hJ _ _ H h₃ (fun b o h1 h2 h3 e=>hs₃.extBut b o h3 (hk₂ b o h1 e)) hJ') (hacc'.at fun o e=>hs₃.extBut _ o hDC (hk₂ _ o (fun z=>hDf (W.sub _ z)) e)) hyl
  refine codeAny_compStart_list (loop _ rfl) (W.self 0 _ _ _ hst₁ (loop _ rfl))
end
section
variable {M:Model} {A:Around} {E:Value→Shared→Prop} {s:Shared} {env:Env} {scope:Scope} {cl:List (Str×Addr)} {C:Addr} {x:Str} {pos:Pos} {v:Value} {Q:Value→Shared→Prop}
example:True:=by
  k_with "r12"=>(skip)
  trivial
theorem nameZ_L (hns:s.heap.Ns C m) (hm:m x=some v) (hk:scope.kind=.function) (hx:(compEnvC scope cl C env).kindOf x=some .local) (h:Q v s) (hd:(x == ("__debug__" : Str))=false:=by decide) :
    wpAny M A (eval (.Name x pos) (compEnvC scope cl C env)) Q E s:=wpAny_Name (wpAny_loadName_local (env:=compEnvC scope cl C env) hk hx hns hm h) hd
theorem nameZ_C {c:Addr} (hc:cl.lookup x=some c) (hv:s.heap.IsCell c (some v)) (hk:scope.kind=.function) (hx:(compEnvC scope cl C env).kindOf x=some .cell) (h:Q v s) (hd:(x == ("__debug__" : Str))=false:=by decide) :
    wpAny M A (eval (.Name x pos) (compEnvC scope cl C env)) Q E s:=wpAny_Name (wpAny_loadName_cell (env:=compEnvC scope cl C env) hk hx hc hv h) hd
end
section
variable {w:World} {A A₀:Around} {env:Env} {outer:List Env} {base g:Heap} {s:Shared} {Q E:Value→Shared→Prop} {L:Addr} {m:Str→Option Value}
theorem OfS.useC {f:Addr} (S:OfS w base n f vs objs okV flt)
    (hA:A.handled=none) (hfr:A.frames=some (env::outer)) (hd:A.depth≤900 - 6 * n) (hu:A.units≤9000 - 99 * n)
    (B:Below A₀ base outer g) (F:Fr g L s.heap m) (hf:env.frame=some L) (hk:env.scope.kind=.function) (O:Objs base (env::outer) s.heap objs)
    (h:∀ v h' tk,okV v→Keep [] s.heap h'→Q v { s with heap:=h',toks:=tk })
    (hx:∀ e dd sp h' tk,flt sp→RelS (FrOf (env::outer)) s.heap h'→h'.FunFrames base (env::outer)→FlT s.heap h' e dd sp→E (.ref e) { s with heap:=h',toks:=tk }) :
    wpAny (model PySem.Challenge.rw_nz0031_01.row.prog w) A (call (.ref f) vs) Q E s :=
  wpAny_ak hA hfr hd hu (S _ Q E s (below_at B F hf hk) O h hx)
theorem elt_setof {scope:Scope} {cl:List (Str×Addr)} {C cA:Addr} {p1 p2 p3 p4:Pos} {m₃:Str→Option Value} {objs:List (Addr×Obj)} {R V:Addr} {vsV:List Value} {c:Nat} {v:Value} {x:Arg} {spot:Int} {ts:Tok}
    (hA:A.handled=none) (hfr:A.frames=some (env::outer)) (hd:A.depth≤900 - 6 * 24) (hu:A.units≤9000 - 99 * 24)
    (W:Wd w base) (B:Below A₀ base outer g) (F:Fr g L s.heap m) (hf:env.frame=some L) (hk:env.scope.kind=.function) (hgl:env.globals=mainGlobals) (O:Objs base (env::outer) s.heap objs)
    (hks:scope.kind=.function) (h1:(compEnvC scope cl C env).kindOf (Str.ofString "one")=some .local) (h2:(compEnvC scope cl C env).kindOf (Str.ofString "spot")=some .cell) (h3:(compEnvC scope cl C env).kindOf (Str.ofString "set_of")=some .globalImplicit)
    (hc:cl.lookup (Str.ofString "spot")=some cA) (hcv:s.heap.IsCell cA (some (.int spot ts))) (hns:s.heap.Ns C m₃) (hm:m₃ (Str.ofString "one")=some v) (hv:ArgV objs R V vsV c v x)
    (h:x.isSet=true→∀ h' tk,Keep [] s.heap h'→Q v { s with heap:=h',toks:=tk })
    (hx:x.isSet=false→∀ e dd h' tk,RelS (FrOf (env::outer)) s.heap h'→h'.FunFrames base (env::outer)→FlT s.heap h' e dd spot→E (.ref e) { s with heap:=h',toks:=tk }) :
    wpAny (model PySem.Challenge.rw_nz0031_01.row.prog w) A (eval (.Call (.Name (Str.ofString "set_of") p1) [.Name (Str.ofString "one") p2,.Name (Str.ofString "spot") p3] [] p4) (compEnvC scope cl C env)) Q E s:=by
  obtain ⟨p,loose,mean,mg,mb,T⟩:=W.top
  have T:=T.keeps B.stays
  have X:=W.K.keeps B.stays
  refine Call_ ?_
  refine nameG_K (env:=compEnvC scope cl C env) (v:=.ref 172) F X (topRead_of T) (by kernel_rfl) ?_ hgl hks h3 (by decide)
  refine callWith_K X (by kernel_rfl) ?_
  refine spliced_more (nameZ_L hns hm hks h1 ?_)
  refine spliced_more (nameZ_C hc hcv hks h2 ?_)
  refine spliced_none ⟨X.keeps F.keep,?_⟩
  refine OfS.useC (setof_ok w base W objs R V vsV c v x spot ts hv) hA hfr hd hu B F hf hk O (fun r h' tk o k=>?_) (fun e dd sp h' tk f r ff fl=>?_)
  · obtain ⟨o1,rfl⟩:=o;exact h o1 h' tk k
  · obtain ⟨f1,rfl⟩:=f;exact hx f1 e dd h' tk r ff fl
end
section
variable {w:World} {n:Nat} {outer:List Env} {base:Heap} {s:Shared} {R:Result→Shared→Prop} {f:Addr} {args:Args} {binds:List (Str×Value)}
  {name qual:Str} {params:Arguments} {body:List Stmt} {scope:Scope} {dV kV doc pm cdv ct oc:Value} {an od:Option Addr} {osl:Array (Option Value)}
theorem hid_ground (W:Wd w base) (B:Below (Ak n outer) base outer s.heap) (hid:List (Addr×Obj))
    (hN:∀ p∈hid,s.heap.get? p.1=some p.2∧base.get? p.1=none∧p.1∉outer.filterMap (·.frame)) :
    base.StaysIn (hideAll s.heap (hid.map (·.1)))∧Below (Ak n outer) base outer (hideAll s.heap (hid.map (·.1))):=by
  have hb:base.StaysIn (hideAll s.heap (hid.map (·.1))):=fun b o e=>hideAll_get _ (B.stays b o e) fun hm=>by
    obtain ⟨q,hq,rfl⟩:=List.mem_map.mp hm
    rw [(hN q hq).2.1] at e;cases e
  refine ⟨hb,rfl,hb,funFrames_hideAll B.frames fun env he a ha hf=>?_⟩
  obtain ⟨q,hq,rfl⟩:=List.mem_map.mp ha
  exact (hN q hq).2.2 (List.mem_filterMap.mpr ⟨env,he,hf⟩)
theorem enterC (W:Wd w base) (B:Below (Ak n outer) base outer s.heap) (hid:List (Addr×Obj))
    (hN:∀ p∈hid,s.heap.get? p.1=some p.2∧base.get? p.1=none∧p.1∉outer.filterMap (·.frame))
    (ho:(Kt w.params).lookup f=some ⟨oc,od,.func (fnX name qual params body scope [] dV kV doc pm an cdv ct),osl⟩) (hcd:codeIn (Kt w.params) cdv qual=true)
    (hroom:(Ak n outer).depth < recursionLimit)
    (hbind:BindsTo s (fnX name qual params body scope [] dV kV doc pm an cdv ct) args binds)
    (hkind:∀ n,∀ x∈binds,scope.names.lookup x.1=some .local∨(scope.names.lookup x.1=some .cell∧((cellsFrom n scope.names []).lookup x.1).isSome=true))
    (hnd:((cellsFrom 0 scope.names []).map (·.1)).Nodup)
    (h:∀ L h₁ p loose mean mg mb cells,Fr (hideAll s.heap (hid.map (·.1))) L h₁ (bindL (envOfC qual scope L f cdv).kindOf binds fun _=>none)→News (hideAll s.heap (hid.map (·.1))) L h₁ (cells++hid) →
      CellsAre (bindC (envOfC qual scope L f cdv).kindOf binds fun _=>none) (cellsFrom (L + 1) scope.names []) cells→Below (Ak n outer) base outer (hideAll s.heap (hid.map (·.1))) →
      (Kt w.params).In (hideAll s.heap (hid.map (·.1)))→Top p loose mean mg mb (hideAll s.heap (hid.map (·.1)))→AllLt L hid→L=s.heap.objs.size →
      ∀ tk:Nat,wpAny (model PySem.Challenge.rw_nz0031_01.row.prog w) ((Ak n outer).deeper (envOfC qual scope L f cdv)) (execs body (envOfC qual scope L f cdv))
        (fun fl s'=>R (.ok (.ret (match fl with|.ret v=>v|_=>.none))) s')
        (fun e s'=>wpAny (model PySem.Challenge.rw_nz0031_01.row.prog w) ((Ak n outer).deeper (envOfC qual scope L f cdv)) (leaving (envOfC qual scope L f cdv) e) (fun _ s''=>R (.error e) s'') (fun e' s''=>R (.error e') s'') s')
        { s with heap:=h₁,toks:=tk })
    (hco:scope.isCoroutine=false) (hgen:scope.isGenerator=false) (hk:scope.kind=.function) :
    codeAny (model PySem.Challenge.rw_nz0031_01.row.prog w) (Ak n outer) (.call (.ref f) args) R s:=by
  obtain ⟨hb,B'⟩:=hid_ground W B hid hN
  obtain ⟨WK,p,loose,mean,mg,mb,T⟩:=W
  have X₀:=WK.keeps B.stays
  have T₀:=T.keeps B.stays
  refine codeAny_call_function hroom (X₀ _ _ ho) rfl hco hgen rfl (codeRec_of X₀ hcd) (hbind _ _ _ _ ?_)
  refine wpAny_newFunctionEnv_cells hk (hkind _) fun env' he s' x=>?_
  subst he
  refine ⟨(T₀.nolimit).keeps x.toInCall.keep,codeAny_func ?_⟩
  obtain ⟨h₁,tk,rfl,_⟩:=x.done
  have hk₁:=x.toInCall.keep
  obtain ⟨cells,NC,Y⟩:=Cl.news (h₀:=s.heap) (Nat.le_refl _) fun n c hm=>⟨x.cell n c (lookup_of_mem_nodup (cellsFrom_names scope.names 0 (s.heap.objs.size + 1) [] [] rfl ▸ hnd) hm),x.above n c hm⟩
  refine h s.heap.objs.size h₁ p loose mean mg mb cells ⟨x.toInCall.ns,fun b o e=>hk₁ b o (of_hideAll _ e),Nat.le_of_eq (hideAll_size _ _)⟩ (fun q hq=>?_) Y B' (WK.keeps hb) (T.keeps hb) (allLt_of fun q hq=>Heap.lt_size (hN q hq).1) rfl tk
  rcases List.mem_append.mp hq with hq|hq
  · refine ⟨(NC q hq).1,(NC q hq).2.1,?_⟩
    cases e:(hideAll s.heap (hid.map (·.1))).get? q.1 with
    | none=>rfl
    | some o=>have:=of_hideAll _ e;rw [(NC q hq).2.2] at this;cases this
  · exact ⟨hk₁ _ _ (hN q hq).1,Nat.ne_of_lt (Heap.lt_size (hN q hq).1),hideAll_none _ (List.mem_map_of_mem hq)⟩
theorem enterE {bodyE:Expr} {cl:List (Str×Addr)} {c':Addr} {ctv:Value} (W:Wd w base) (B:Below (Ak n outer) base outer s.heap) (hid:List (Addr×Obj))
    (hN:∀ p∈hid,s.heap.get? p.1=some p.2∧base.get? p.1=none∧p.1∉outer.filterMap (·.frame))
    (ho:s.heap.get? f=some (kla_obj name qual params bodyE scope cl pm c' ctv)) (hcd:s.heap.CodeRec (.ref c') qual)
    (hroom:(Ak n outer).depth < recursionLimit)
    (hbind:bindArgs (kla_fn name qual params bodyE scope cl pm (.ref c') ctv) args=pure binds) (hloc:∀ y∈binds,scope.names.lookup y.1=some .local)
    (h:∀ L h₁ p loose mean mg mb,Fr (hideAll s.heap (hid.map (·.1))) L h₁ (fun y=>binds.reverse.lookup y)→News (hideAll s.heap (hid.map (·.1))) L h₁ hid→Below (Ak n outer) base outer (hideAll s.heap (hid.map (·.1))) →
      (Kt w.params).In (hideAll s.heap (hid.map (·.1)))→Top p loose mean mg mb (hideAll s.heap (hid.map (·.1)))→AllLt L hid→L=s.heap.objs.size →
      ∀ tk:Nat,wpAny (model PySem.Challenge.rw_nz0031_01.row.prog w) ((Ak n outer).deeper (envX qual scope L f (.ref c') cl)) (eval bodyE (envX qual scope L f (.ref c') cl))
        (fun v s'=>R (.ok (.ret v)) s')
        (fun e s'=>wpAny (model PySem.Challenge.rw_nz0031_01.row.prog w) ((Ak n outer).deeper (envX qual scope L f (.ref c') cl)) (leaving (envX qual scope L f (.ref c') cl) e) (fun _ s''=>R (.error e) s'') (fun e' s''=>R (.error e') s'') s')
        { s with heap:=h₁,toks:=tk })
    (hcell:∀ x∈scope.names,x.2≠.cell) (hco:scope.isCoroutine=false) (hgen:scope.isGenerator=false) (hk:scope.kind=.function) :
    codeAny (model PySem.Challenge.rw_nz0031_01.row.prog w) (Ak n outer) (.call (.ref f) args) R s:=by
  obtain ⟨hb,B'⟩:=hid_ground W B hid hN
  obtain ⟨WK,p,loose,mean,mg,mb,T⟩:=W
  have T₀:=T.keeps B.stays
  refine kla_callFunE hroom ho rfl hco hgen rfl hcd ?_
  rw [hbind]
  refine wpAny_pure (wpAny_newFunctionEnv hcell hloc (fun h₁ hns hsb=>⟨(T₀.nolimit).fresh _ hsb,?_⟩) hk)
  show codeAny _ _ (.expr bodyE (envX qual scope s.heap.objs.size f (.ref c') cl)) _ _
  have hk₁:∀ b o,s.heap.get? b=some o→h₁.get? b=some o:=fun b o e=>hsb.extBut b o (Nat.ne_of_lt (Heap.lt_size e)) (Heap.get?_push_of_some _ e)
  exact kla_codeExpr (h s.heap.objs.size h₁ p loose mean mg mb ⟨hns,fun b o e=>hk₁ b o (of_hideAll _ e),Nat.le_of_eq (hideAll_size _ _)⟩
    (fun q hq=>⟨hk₁ _ _ (hN q hq).1,Nat.ne_of_lt (Heap.lt_size (hN q hq).1),hideAll_none _ (List.mem_map_of_mem hq)⟩)
    B' (WK.keeps hb) (T.keeps hb) (allLt_of fun q hq=>Heap.lt_size (hN q hq).1) rfl _)
end
example:True:=by
  k_with "w omega"=>((fail_if_success k_extra "r31");k_extra "y0")
  trivial
theorem frames_but {C:Addr} {l:List Env} (hl:h.FunFrames base l) (hs:Heap.SameBut C h h') (hC:C∉l.filterMap (·.frame)):h'.FunFrames base l:=by
  have h1:(hideAll h [C]).FunFrames base l:=funFrames_hideAll hl fun env he a ha hf=>hC (List.mem_filterMap.mpr ⟨env,he,by rw [hf,List.mem_singleton.mp ha]⟩)
  refine h1.of_keeps fun b o e _=>⟨o,?_,rfl⟩
  have hb:b≠C:=fun z=>by rw [z,hideAll_none _ (.head _)] at e;cases e
  exact hs.extBut b o hb (of_hideAll _ e)
theorem FrOf_cons (hf:env.frame=some L):FrOf (env::outer)=L::FrOf outer:=by unfold FrOf;rw [List.filterMap_cons,hf]
section
variable {w:World} {A:Around} {env:Env} {outer:List Env} {base h0 h₃ hx:Heap} {s:Shared} {E:Value→Shared→Prop} {L C e dd:Addr} {sp:Int} {mC:Str→Option Value}
theorem hide_rel {ads:List Addr} (hf:env.frame=some L) (hL:L∈ads) (hr:RelS (FrOf (env::outer)) h₃ hx):RelS (FrOf outer) (hideAll h₃ ads) hx :=
  ⟨fun b o q n=>hr.keep b o (of_hideAll _ q) (fun hm=>by
    rw [FrOf_cons hf] at hm
    rcases List.mem_cons.mp hm with z|z
    · rw [z,hideAll_none _ hL] at q;cases q
    · exact n z),fun b o q=>hr.slot b o (of_hideAll _ q)⟩
theorem hide_up {ads:List Addr} (K0:∀ b o,h0.get? b=some o→h₃.get? b=some o) (hn:∀ a∈ads,h0.get? a=none):∀ b o,h0.get? b=some o→(hideAll h₃ ads).get? b=some o:=fun b o q=>hideAll_get _ (K0 b o q) fun hm=>by rw [hn b hm] at q;cases q
theorem rel_lower {g:Heap} (k:∀ b o,h0.get? b=some o→g.get? b=some o) (r:RelS fr g hx):RelS fr h0 hx:=⟨fun b o q n=>r.keep b o (k b o q) n,fun b o q=>r.slot b o (k b o q)⟩
theorem comp_err (hfr:A.frames=some (env::outer)) (hf:env.frame=some L) (hff:hx.FunFrames base (env::outer)) (hr:RelS (FrOf (env::outer)) h₃ hx) (fl:FlT h₃ hx e dd sp)
    (hC:h₃.Ns C mC) (hCL:C≠L) (hCf:C∉FrOf outer) (K0:∀ b o,h0.get? b=some o→h₃.get? b=some o) (h0L:h0.get? L=none) (h0C:h0.get? C=none)
    (hE:∀ h':Heap,RelS (FrOf outer) h0 h'→h'.FunFrames base (env::outer)→FlT h0 h' e dd sp→E (.ref e) { s with heap:=h' }) :
    notedBy (model PySem.Challenge.rw_nz0031_01.row.prog w) A env (CompErr PySem.Challenge.rw_nz0031_01.row.prog w A E C) (.ref e) { s with heap:=hx }:=by
  unfold notedBy
  have hns:=relS_ns hC hr
  have up:∀ b o,(hideAll h₃ [L,C]).get? b=some o→h₃.get? b=some o:=fun b o q=>of_hideAll _ q
  refine noteFrame_ok (g:=hideAll h₃ [L,C]) hfr hf hff (hide_rel hf (.head _) hr) (hideAll_none _ (.head _)) (.inr (fl.lower up)) fun h2 r2 u2 f2 fl2=>?_
  refine ⟨mC,u2.ns hns,fun h' hs cenv hcl=>?_⟩
  have hCff:C∉(env::outer).filterMap (·.frame):=by
    have h9:C∉FrOf (env::outer):=by
      rw [FrOf_cons hf]
      intro hm
      rcases List.mem_cons.mp hm with z|z
      · exact hCL z
      · exact hCf z
    exact h9
  have f3:=frames_but f2 hs hCff
  have r3:RelS (FrOf outer) (hideAll h₃ [L,C]) h':=⟨fun b o q n=>hs.extBut b o (fun z=>by rw [z,hideAll_none _ (.tail _ (.head _))] at q;cases q) (r2.keep b o q n),fun b o q=>let ⟨sl,q2⟩:=r2.slot b o q;⟨sl,hs.extBut b _ (fun z=>by rw [z,hideAll_none _ (.tail _ (.head _))] at q;cases q) q2⟩⟩
  obtain ⟨oC,esC,epC,hoC,hdC,_⟩:=hC
  have flx:=fl
  have fl3:FlT (hideAll h₃ [L,C]) h' e dd sp:=by
    obtain ⟨ge,gd,⟨hw,tw,vw,hsx,ts',tv,nn,sld,hdd⟩,vs,T,oT,ts,a1,a2,a3,a4,a5,a6,a7,a8⟩:=fl2
    have hCns:h2.Ns C mC:=u2.ns hns
    obtain ⟨oC2,es2,ep2,hoC2,hdC2,_⟩:=hCns
    have eC:e≠C:=fun z=>by rw [z,hoC2] at a1;cases a1;cases hdC2
    have dC:dd≠C:=fun z=>by have h9:h₃.get? dd=none:=flx.2.1;rw [z,hoC] at h9;cases h9
    have TC:T≠C:=fun z=>by rw [z,hoC2] at a6;cases a6;rw [hdC2] at a7;cases a7
    exact ⟨ge,gd,⟨hw,tw,vw,hsx,ts',tv,nn,sld,hs.extBut _ _ dC hdd⟩,vs,T,oT,ts,hs.extBut _ _ eC a1,a2,a3,a4,a5,hs.extBut _ _ TC a6,a7,a8⟩
  have k0:=hide_up (ads:=[L,C]) K0 (fun a ha=>by
    rcases List.mem_cons.mp ha with rfl|ha
    · exact h0L
    · rw [List.mem_singleton.mp ha];exact h0C)
  unfold PySem.passOn
  have fl3':=fl3
  obtain ⟨_,_,_,vs,T,oT,ts,a1,a2,a3,_⟩:=fl3'
  refine wpAny_bind (wpAny_field a1 rfl a3 ?_)
  rw [if_neg (by simp)]
  refine wpAny_bind (setFlight_ok (l:=env::outer) f3 r3 fl3 cenv.frame fun h4 r4 u4 f4 fl4=>?_)
  exact wpAny_throw (hE h4 (rel_lower k0 r4) f4 (fl4.lower k0))
end
theorem take_snoc {α:Type} {l:List α} {v:α} (h:l[i]?=some v):l.take i++[v]=l.take (i + 1):=by rw [List.take_add_one,h];rfl
namespace Z.Z2
theorem comp_setof_core:comp_setof_P Z.w Z.Z2.A Z.env Z.outer Z.base Z.h0 Z.s Z.Q Z.E Z.L Z.cA Z.objs Z.R Z.V Z.vsV Z.cV Z.spot Z.iter Z.p1 Z.p2 Z.p3 Z.p4 Z.px Z.pos Z.scope Z.cl Z.vs0 Z.xs0 Z.oc0 Z.ts0:=by
  intro hA hfr hd hu W hf hk hgl O h0L hclos hcell hks hnames hx h2 h3 hc hs _hv _ho h
  rw [eval_ListComp]
  refine wpAny_comprehension_free (use:=none) rfl hs hclos hks hnames (wpAny_mono h (fun xv s₁ h₁=>?_) fun _ _ e=>e)
  obtain ⟨T,c,vs,xs,g,m,news,A₀,rfl,B,F,N,hT,⟨hlen,hav⟩,hl20,⟨oc,ts,hoc,hocd⟩,K0,hQ,hE⟩:=h₁
  have hTl:s₁.heap.IsList T (List.toArray vs):=⟨_,(N _ hT).1,rfl,c,rfl⟩
  refine wpAny_pyIter_list hTl ?_
  have hTlt:T < s₁.heap.objs.size:=Heap.lt_size (N _ hT).1
  have hcl':cA < s₁.heap.objs.size:=Heap.lt_size (N _ hoc).1
  have hLlt:L < s₁.heap.objs.size:=F.ns.lt
  generalize hIo:({ cls:=.type "list_iterator",data:=.fields #[.ref T,.int 0 0] }:Obj)=io
  have hit:(s₁.heap.push io).IsListIter s₁.heap.objs.size T 0:=by subst hIo;exact ⟨_,Heap.get?_push_size _ rfl,rfl,rfl⟩
  have hsz:(s₁.heap.push io).objs.size=s₁.heap.objs.size + 1:=Heap.size_push ..
  have below:∀ b o,s₁.heap.get? b=some o→b∉[s₁.heap.objs.size]∧b≠(s₁.heap.push io).objs.size∧b≠(s₁.heap.push io).objs.size + 1:=fun b o e=>by
    have hb:=Heap.lt_size e
    rw [hsz]
    exact ⟨fun hm=>Nat.ne_of_lt hb (List.mem_singleton.mp hm),Nat.ne_of_lt (Nat.lt_succ_of_lt hb),Nat.ne_of_lt (Nat.lt_succ_of_lt (Nat.lt_succ_of_lt hb))⟩
  have hDlt:∀ b o,s₁.heap.get? b=some o→b < (s₁.heap.push io).objs.size:=fun b o e=>by rw [hsz];exact Nat.lt_succ_of_lt (Heap.lt_size e)
  have O':∀ h₃:Heap,(∀ b o,s₁.heap.get? b=some o→h₃.get? b=some o)→Objs base (env::outer) h₃ objs:=fun h₃ k=>O.on (fun b o e=>k b o (K0 b o e)) h0L hf
  have hCf:∀ C,s₁.heap.objs.size≤C→C∉FrOf outer:=fun C hC hm=>by
    obtain ⟨_,ob,hob,_⟩:=B.frames.mem hm
    exact Nat.lt_irrefl _ (Nat.lt_of_lt_of_le (Heap.lt_size (F.keep _ _ hob)) hC)
  refine compW (s₂:={ s₁ with heap:=s₁.heap.push io }) (fun i ys h=>(∀ b o,s₁.heap.get? b=some o→h.get? b=some o)∧ys=vs.take i∧∀ x∈xs.take i,x.isSet=true) (Walks.list hA s₁.heap.objs.size T (Nat.ne_of_lt hTlt) (List.toArray vs)) (by simp only [List.size_toArray];omega) hcell hks hx
    ⟨hit,hTl.at fun o e=>Heap.get?_push_of_some _ e⟩ (fun b hb=>?_) (fun i ys h h' hk hJ=>⟨fun b o e=>hk b o (below b o e).1 (below b o e).2.1 (below b o e).2.2 (hJ.1 b o e),hJ.2⟩)
    (fun h' hk=>⟨fun b o e=>hk b o (Heap.get?_push_of_some _ e),by simp,fun x hx=>by simp at hx⟩) (fun i v ys h₃ tk m₃ hi hP hJ hns hm hyl hst hpl=>?_) (fun ys h' tk hJ hpl hyl=>?_)
  · rw [hsz]
    rcases List.mem_cons.mp hb with rfl|hb
    · exact Nat.lt_succ_self _
    · rw [List.mem_singleton.mp hb];exact Nat.lt_succ_of_lt hTlt
  · have hiv:vs[i]?=some v:=by simpa using hP
    have hil:i < xs.length:=by rw [← hlen];simpa using hi
    have hix:xs[i]?=some xs[i]:=List.getElem?_eq_getElem hil
    have F₃:Fr g L h₃ m:=F.keeps hJ.1
    have hCne:(s₁.heap.push io).objs.size + 1≠L:=fun z=>by rw [hsz] at z;rw [← z] at hLlt;exact Nat.lt_irrefl _ (Nat.lt_of_succ_lt (Nat.lt_of_succ_lt hLlt))
    refine elt_setof (m₃:=m₃) (cA:=cA) (ts:=ts) hA hfr hd hu W B F₃ hf hk hgl (O' h₃ hJ.1) hks (lookup_relabel_local hx) (h2 _) (h3 _) hc ⟨oc,hJ.1 _ _ (N _ hoc).1,hocd⟩ hns hm (hav i v _ hiv hix) (fun hset h' tk' k=>?_) (fun hset e dd h' tk' r ff fl=>?_)
    · refine ⟨h',tk',rfl,⟨fun b o e=>k b o (hJ.1 b o e) (fun h=>nomatch h),by rw [hJ.2.1];exact take_snoc hiv,fun x hx=>?_⟩,fun b o _ e=>k b o e (fun h=>nomatch h)⟩
      rw [← take_snoc hix] at hx
      rcases List.mem_append.mp hx with hx|hx
      · exact hJ.2.2 x hx
      · rw [List.mem_singleton.mp hx];exact hset
    · refine comp_err (s:={ s₁ with heap:=h',toks:=tk' }) (h₃:=h₃) (h0:=h0) hfr hf ff r fl hns hCne (hCf _ (by rw [hsz];exact Nat.le_succ_of_le (Nat.le_succ _))) (fun b o e=>hJ.1 b o (K0 b o e)) h0L ?_ (fun h'' r' ff' fl'=>hE ⟨_,List.getElem_mem hil,hset⟩ e dd h'' tk' r' ff' fl' h0L)
      cases q:h0.get? ((s₁.heap.push io).objs.size + 1) with
      | none=>rfl
      | some o=>exact absurd rfl (below _ _ (K0 _ _ q)).2.2
  · have hys:ys=vs:=by rw [hJ.2.1];exact List.take_of_length_le (by simp)
    subst hys
    obtain ⟨c',hD⟩:=hpl
    have F':Fr g L h' m:=F.keeps hJ.1
    have hDL:(s₁.heap.push io).objs.size≠L:=Nat.ne_of_gt (by rw [hsz];exact Nat.lt_succ_of_lt hLlt)
    refine hQ (fun x hx=>hJ.2.2 x (by rw [List.take_of_length_le (by simp [hlen])];exact hx)) _ c' h' tk F' (fun p hp=>?_) (fun p hp=>hDlt _ _ (N p hp).1)
    rcases List.mem_cons.mp hp with rfl|hp
    · refine ⟨hD,hDL,?_⟩
      cases q:g.get? (s₁.heap.push io).objs.size with
      | none=>rfl
      | some o=>exact absurd (hDlt _ _ (F.keep _ _ q)) (Nat.lt_irrefl _)
    · exact ⟨hJ.1 _ _ (N p hp).1,(N p hp).2⟩
end Z.Z2
theorem zu2:Up 2:=zu1.step (by with_unfolding_all exact Z.Z2.comp_setof_core)
theorem comp_setof {cA:Addr} {spot:Int} {p1 p2 p3 p4:Pos} (hA:A.handled=none) (hfr:A.frames=some (env::outer)) (hd:A.depth≤900 - 6 * 24) (hu:A.units≤9000 - 99 * 24) (W:Wd w base) (hf:env.frame=some L) (hk:env.scope.kind=.function) (hgl:env.globals=mainGlobals) (O:Objs base outer h0 objs) (h0L:h0.get? L=none) (hclos:closureFor scope env=pure cl) (hcell:∀ y∈scope.names,y.2≠.cell) (hks:scope.kind=.function) (hnames:∀ y∈scope.names,y.2=.local→scope.names.lookup y.1=some .local) (hx:scope.names.lookup (Str.ofString "one")=some .local) (h2:∀ C,(compEnvC scope cl C env).kindOf (Str.ofString "spot")=some .cell) (h3:∀ C,(compEnvC scope cl C env).kindOf (Str.ofString "set_of")=some .globalImplicit) (hc:cl.lookup (Str.ofString "spot")=some cA) (hs:∀ x,foldedSetIterable iter env x=pure x) {xs0:List Arg} {oc0:Obj} {ts0:Tok} (_hv:ArgsV objs R V vsV cV vs0 xs0) (_ho:oc0.data=.cell (some (.int spot ts0))) (h:wpAny (model PySem.Challenge.rw_nz0031_01.row.prog w) A (eval iter env) (SetsGo w base outer env L h0 objs R V vsV cV spot cA Q E) E s):wpAny (model PySem.Challenge.rw_nz0031_01.row.prog w) A (eval (.ListComp (.Call (.Name (Str.ofString "set_of") p1) [.Name (Str.ofString "one") p2,.Name (Str.ofString "spot") p3] [] p4) [⟨.Name (Str.ofString "one") px,iter,[],0⟩] scope pos) env) Q E s :=
  zu2.at { Zd with w,A_1:=A,env,outer,base,s,Q,E,L,objs,R,V,vsV,cV,spot,iter,px,pos,scope,cl,vs0,r:={ Zd.r with h0,cA,p1,p2,p3,p4,xs0,oc0,ts0 } } hA hfr hd hu W hf hk hgl O h0L hclos hcell hks hnames hx h2 h3 hc hs _hv _ho h
section
variable {prog:Program} {w:World} {A:Around} {E:Value→Shared→Prop} {s:Shared} {h₀:Heap} {L S:Addr} {m:Str→Option Value} {news:List (Addr×Obj)} {value slice:PySem.Expr} {vs:List Value} {c:Nat} {u:Tok} {Q:Value→Shared→Prop}
example:True:=by
  k_with "r31"=>(skip)
  trivial
theorem isList_of (N:News h₀ L s.heap news) (hm:(S,listOf (List.toArray vs) c)∈news):s.heap.IsList S (List.toArray vs):=⟨_,(N _ hm).1,rfl,c,rfl⟩
theorem len_listZ (N:News h₀ L s.heap news) (hm:(S,listOf (List.toArray vs) c)∈news) (hl:vs.length≤20) (h:Q (.int vs.length (s.toks + 1)) { s with toks:=s.toks + 1 + 1 }) :
    wpAny (model prog w) A (call (.builtin "len") [.ref S]) Q E s :=
  len_list (isList_of N hm) (by simp only [List.size_toArray];omega) (by simpa using h)
theorem item_listZlast (N:News h₀ L s.heap news) (hm:(S,listOf (List.toArray vs) c)∈news) (hl:vs.length≤20) (h0:0 < vs.length) (h:∀ v,vs[vs.length - 1]?=some v→Q v s)
    (hs:subscripted slice false (.ref S) (.int (-1) u)=operate [.ref S,.int (-1) u] (getItem (.ref S) (.int (-1) u)):=by with_unfolding_all rfl) (hg:∀ r,letTemporaryGo value (.ref S) r=pure ():=by intro _;with_unfolding_all rfl) :
    wpAny (model prog w) A (subscriptTail value slice (.ref S) (.int (-1) u)) Q E s:=by
  have hk:vs.length - 1 < vs.length:=by omega
  refine subscriptTail_builtin (isList_of N hm).typeIs slot_list_getitem.lookup (wpAny_getItem_list_neg (x:=vs[vs.length - 1]) (isList_of N hm) (by omega) (by simp only [List.size_toArray];omega) (by omega) ?_ (h _ (List.getElem?_eq_getElem hk))) hs hg
  have e:((-1:Int) + ((List.toArray vs).size:Int)).toNat=vs.length - 1:=by simp only [List.size_toArray];omega
  rw [e]
  simp only [List.getElem?_toArray]
  exact List.getElem?_eq_getElem hk
theorem pick_init (h0:0 < vs.length):slicePick (List.toArray vs) none (some (-1)) none=List.toArray vs.dropLast:=by
  rw [kmk_pick_nat (a:=0) (b:=vs.length - 1)]
  · simp [List.dropLast_eq_take]
  · unfold sliceBounds
    simp only [Option.getD_none,List.size_toArray]
    simp
    omega
theorem slice_init (F:Fr h₀ L s.heap m) (N:News h₀ L s.heap news) (hm:(S,listOf (List.toArray vs) c)∈news) (hl:vs.length≤20) (h0:0 < vs.length)
    (h:∀ D h',Fr h₀ L h' m→News h₀ L h' ((D,listOf (List.toArray vs.dropLast) 0)::news)→(∀ p∈news,p.1 < D)→Q (.ref D) { s with heap:=h' })
    (hs:subscripted slice false (.ref S) (.ref s.heap.objs.size)=operate [.ref s.heap.objs.size,.ref S] (getItem (.ref S) (.ref s.heap.objs.size))) (ht:∀ r,letTemporaryGo value (.ref S) r=pure ()) :
    wpAny (model prog w) A (subscriptTail value slice (.ref S) (.ref s.heap.objs.size)) Q E { s with heap:=s.heap.push { cls:=.type "slice",data:=.fields #[.none,.int (-1) u,.none] } }:=by
  refine kmk_slice F N (isList_of N hm) .none (.int (-1) u) (fun D h' F' N' l1=>h D h' F' ?_ l1) hs ht (by rw [List.size_toArray,sizeLine_eq];omega)
  rw [pick_init h0] at N'
  exact N'
end
theorem argsV_init {c:Nat} (h:ArgsV objs R V vsV c vs xs):ArgsV objs R V vsV c vs.dropLast xs.dropLast:=by
  refine ⟨by simp [h.1],fun i v x hv hx=>h.2 i v x ?_ ?_⟩
  · rw [List.getElem?_dropLast] at hv
    split at hv
    · exact hv
    · cases hv
  · rw [List.getElem?_dropLast] at hx
    split at hx
    · exact hx
    · cases hx
theorem argsV_last {c:Nat} (h:ArgsV objs R V vsV c vs xs) (e:vs[vs.length - 1]?=some v):∃ x,xs[xs.length - 1]?=some x∧ArgV objs R V vsV c v x:=by
  have hlt:xs.length - 1 < xs.length:=by
    obtain ⟨hl,_⟩:=List.getElem?_eq_some_iff.mp e
    have:=h.1
    omega
  exact ⟨_,List.getElem?_eq_getElem hlt,h.2 (xs.length - 1) v _ (by rw [← h.1];exact e) (List.getElem?_eq_getElem hlt)⟩
example:True:=by
  k_with "w omega"=>((fail_if_success k_extra "r32");k_extra "y0")
  trivial
theorem OfS.useP {f:Addr} {rv:Value} (S:OfS w base n f vs objs (fun v=>P∧v=rv) flt)
    {g:Heap} 
    (hvs:vs'=vs) (hA:A.handled=none) (hfr:A.frames=some (env::outer)) (hd:A.depth≤900 - 6 * n) (hu:A.units≤9000 - 99 * n)
    (O:Objs base outer h0 objs) (B:Below A₀ base outer g) (F:Fr g L s.heap m) (N:News g L s.heap news) (hL:h0.get? L=none) (K0:∀ b o,h0.get? b=some o→s.heap.get? b=some o) (hf:env.frame=some L) (hk:env.scope.kind=.function)
    (h:∀ h' tk,P→Fr g L h' m→News g L h' news→Q rv { s with heap:=h',toks:=tk })
    (hx:∀ e dd sp h' tk,flt sp→RelS (FrOf outer) h0 h'→h'.FunFrames base (env::outer)→FlT h0 h' e dd sp→h0.get? L=none→E (.ref e) { s with heap:=h',toks:=tk }) :
    wpAny (model PySem.Challenge.rw_nz0031_01.row.prog w) A (call (.ref f) vs') Q E s :=
  S.use hvs hA hfr hd hu O B F N hL K0 hf hk (fun v h' tk ov F' N'=>by obtain ⟨p,e⟩:=ov;subst e;exact h h' tk p F' N') hx
theorem shape1 {c:Nat} (hvs:ArgsV objs R V vsV c vs xs) (hl:(vs.dropLast.length:Int)=1) (hset:∀ x∈xs.dropLast,x.isSet=true) :
    ∃ a vs0 l0 v1 x1,vs=[.ref a,v1]∧xs=[.set l0,x1]∧(a,tupO vs0)∈objs∧IntsAre vs0 l0∧l0.length≤20:=by
  obtain ⟨hlen,hav⟩:=hvs
  have hv:vs.length=2:=by rw [List.length_dropLast] at hl;omega
  obtain ⟨v0,v1,rfl⟩:=ln2 hv
  obtain ⟨x0,x1,rfl⟩:=ln2 hlen.symm
  have h1:=hset x0 (by simp)
  have h2:=hav 0 v0 x0 rfl rfl
  cases x0 with
  | set l=>obtain ⟨a,vs0,rfl,m,hi,hl'⟩:=h2;exact ⟨a,vs0,l,v1,x1,rfl,rfl,m,hi,hl'⟩
  | _=>cases h1
theorem tup_ground {a:Addr} {ads:List Addr} (O:Objs base outer h objs) (hm:(a,tupO vs)∈objs) (hne:∀ b∈ads,∃ vs c,h.get? b=some (listOf vs c)):IsTup (hideAll h ads) a (List.toArray vs):=by
  have h1:=(O _ hm).1
  refine ⟨_,hideAll_get _ h1 fun hb=>?_,rfl,0,rfl⟩
  obtain ⟨ws,c,e⟩:=hne a hb
  have h2:h.get? a=some (tupO vs):=h1
  rw [h2] at e
  have h3:=congrArg Obj.cls (Option.some.inj e)
  exact absurd h3 (by simp)
theorem arrNew1 {g:Heap} {A P a:Addr} (N:News g L h' news) (mA:(A,tupO [.ref P,.ref V])∈news) (mP:(P,tupO [.ref a])∈news) (ma:(a,tupO [.int x t,.int y u])∈news)
    (hA:@LE.le Nat _ h.objs.size A) (hP:@LE.le Nat _ h.objs.size P) (ha:@LE.le Nat _ h.objs.size a):ArrNew h (.ref A) h' V [(x,y)] :=
  ⟨A,P,_,rfl,hA,hP,(N _ mA).1,(N _ mP).1,⟨_,_,_,rfl,ha,(N _ ma).1⟩,trivial⟩
theorem arrNew2 {g:Heap} {A P a b:Addr} {x' y':Int} (N:News g L h' news) (mA:(A,tupO [.ref P,.ref V])∈news) (mP:(P,tupO [.ref a,.ref b])∈news) (ma:(a,tupO [.int x t,.int y u])∈news) (mb:(b,tupO [.int x' t',.int y' u'])∈news)
    (hA:@LE.le Nat _ h.objs.size A) (hP:@LE.le Nat _ h.objs.size P) (ha:@LE.le Nat _ h.objs.size a) (hb:@LE.le Nat _ h.objs.size b):ArrNew h (.ref A) h' V [(x,y),(x',y')] :=
  ⟨A,P,_,rfl,hA,hP,(N _ mA).1,(N _ mP).1,⟨_,_,_,rfl,ha,(N _ ma).1⟩,⟨_,_,_,rfl,hb,(N _ mb).1⟩,trivial⟩
theorem flN_up {ads:List Addr} {e:Addr} (fl:FlN (hideAll h0 ads) h' e dd sp) (K0:∀ b o,h0.get? b=some o→h'.get? b=some o) (hs:∀ b∈ads,∃ o,h0.get? b=some o∧∃ vs n,o.data=.seq vs n):FlN h0 h' e dd sp:=by
  obtain ⟨ge,gd,⟨hw,tw,vw,hsx,ts',tv,nn,sld,hdd⟩,vs,he,hv⟩:=fl
  have key:∀ b ob,(hideAll h0 ads).get? b=none→h'.get? b=some ob→(∀ vs n,ob.data≠.seq vs n)→h0.get? b=none:=fun b ob g hb hne=>by
    cases q:h0.get? b with
    | none=>rfl
    | some o =>
      have hm:b∈ads:=by
        refine Classical.byContradiction fun hn=>?_
        rw [hideAll_get _ q hn] at g;cases g
      obtain ⟨o2,e2,ws,n,e3⟩:=hs b hm
      have e4:=K0 b o2 e2
      rw [hb] at e4;cases e4
      exact absurd e3 (hne ws n)
  exact ⟨key e _ ge he (fun _ _ z=>by cases z),key dd _ gd hdd (fun _ _ z=>by cases z),⟨hw,tw,vw,hsx,ts',tv,nn,sld,hdd⟩,vs,he,hv⟩
theorem leave_newH {Q:Unit→Shared→Prop} {e:Addr} 
    (hN:∀ p∈hid,h0.get? p.1=some p.2∧base.get? p.1=none∧p.1∉outer.filterMap (·.frame)) (B:Below A₀ base outer (hideAll h0 (hid.map (·.1)))) (F:Fr (hideAll h0 (hid.map (·.1))) L s.heap m) (N:News (hideAll h0 (hid.map (·.1))) L s.heap news)
    (hm:∀ p∈hid,p∈news) (hseq:∀ p∈hid,∃ vs n,p.2.data=.seq vs n) (eL:L=h0.objs.size) (fl:FlN (hideAll h0 (hid.map (·.1))) s.heap e dd sp)
    (hfr:A.frames=some (env::outer)) (hf:env.frame=some L) (hk:env.scope.kind=.function)
    (hQ:∀ h' tk,RelS (FrOf outer) h0 h'→h'.FunFrames base outer→FlT h0 h' e dd sp→Q () { s with heap:=h',toks:=tk }) :
    wpAny (model PySem.Challenge.rw_nz0031_01.row.prog w) A (leaving env (.ref e)) Q E s:=by
  have K0:=keepO hN F N hm
  refine leave_own hfr hf (below_at (n:=0) B F hf hk).frames ⟨fun b o q _=>K0 b o q,fun b o q=>⟨o.slots,K0 b o q⟩⟩ (self_none eL) (.inl (flN_up fl K0 fun b hb=>?_)) hQ
  obtain ⟨p,hp,rfl⟩:=List.mem_map.mp hb
  exact ⟨p.2,(hN p hp).1,hseq p hp⟩
theorem exc_useN {g:Heap} 
    (hA:A.handled=none) (hfr:A.frames=some (env::outer)) (hd:A.depth≤900 - 6 * 8) (hu:A.units≤9000 - 99 * 8)
    (W:Wd w base) (B:Below A₀ base outer g) (F:Fr g L s.heap m) (N:News g L s.heap news) (hf:env.frame=some L) (hk:env.scope.kind=.function)
    (h:∀ e dd h' tk,Fr g L h' m→News g L h' news→FlN g h' e dd sp→Q (.ref e) { s with heap:=h',toks:=tk }) :
    wpAny (model PySem.Challenge.rw_nz0031_01.row.prog w) A (call (.ref 116) [.str what t1,.int sp t2]) Q E s:=by
  refine wpAny_ak hA hfr hd hu (exc_ok w _ base s Q E what sp t1 t2 W (below_at B F hf hk) fun e h' tk dd k he hdd sd=>h e dd h' tk (fr_keep F k fun _ h=>nomatch h) (fun p hp=>⟨k _ _ (N p hp).1 (fun h=>nomatch h),(N p hp).2⟩) ?_)
  obtain ⟨hw,tw,vw,hs,ts,t,n,hdo,vs,h1,h2,h3⟩:=sd
  exact ⟨kts_none F.keep he,kts_none F.keep hdd,⟨hw,tw,vw,hs,ts,t,n,_,hdo⟩,vs,h1,h2,h3⟩
theorem lo_of {n:Int} (h:l[Int.toNat 0]?=some n):loI l=n:=by
  cases l with
  | nil=>simp at h
  | cons a r=>simpa [loI] using h
theorem hi_of {n:Int} (h:l[l.length - 1]?=some n):hiI l=n:=by
  unfold hiI
  rw [List.getLast?_eq_getElem?,h]
theorem idx_set (h:∃ x∈xs.dropLast,x.isSet=false):okIdx two xs nv=none:=by
  obtain ⟨x,hx,h⟩:=h
  unfold okIdx
  split
  · simp at hx;subst hx;cases h
  · simp at hx;rcases hx with rfl|rfl <;> cases h
  · rfl
theorem idx_arr {x:Arg} (h:xs[xs.length - 1]?=some x) (hx:x.isArr=false):okIdx two xs nv=none:=by
  unfold okIdx
  split
  · simp at h;subst h;cases hx
  · simp at h;subst h;cases hx
  · rfl
theorem idx_len1 {c:Nat} (hvs:ArgsV objs R V vsV c vs xs) (h:(vs.dropLast.length:Int)≠1):okIdx false xs nv=none:=by
  have hl:=hvs.1
  unfold okIdx
  split
  · exact absurd (by simp [hl]) h
  · simp
  · rfl
theorem idx_gap1 (a:hiI l - loI l + 1≠(l.length:Int)):okIdx two [.set l,x1] nv=none:=by
  unfold okIdx
  split
  · rename_i l' e
    cases e
    rw [if_neg]
    exact fun z=>a z.2.1
  · rename_i e;cases e
  · rfl
theorem idx_many1 (a:(1:Int) * (l.length:Int)≠(nv:Int)):okIdx two [.set l,x1] nv=none:=by
  unfold okIdx
  split
  · rename_i l' e
    cases e
    rw [if_neg]
    exact fun z=>a (by rw [z.2.2];omega)
  · rename_i e;cases e
  · rfl
theorem idx_ok1 {x:Arg} (hx:[Arg.set l,x1][[Arg.set l,x1].length - 1]?=some x) (hxa:x.isArr=true) (a:hiI l - loI l + 1=(l.length:Int)) (b:(1:Int) * (l.length:Int)=(nv:Int)):okIdx false [.set l,x1] nv=some [(loI l,hiI l)]:=by
  have e:x1=x:=by simpa using hx
  subst e
  cases x1 with
  | arr=>simp only [okIdx];rw [if_pos ⟨trivial,a,by omega⟩]
  | _=>cases hxa
theorem shape2 {c:Nat} (hvs:ArgsV objs R V vsV c vs xs) (hl:(vs.dropLast.length:Int)=2) (hset:∀ x∈xs.dropLast,x.isSet=true) :
    ∃ a vs0 l0 a' vs0' l0' v1 x1,vs=[.ref a,.ref a',v1]∧xs=[.set l0,.set l0',x1]∧(a,tupO vs0)∈objs∧IntsAre vs0 l0∧l0.length≤20∧(a',tupO vs0')∈objs∧IntsAre vs0' l0'∧l0'.length≤20:=by
  obtain ⟨hlen,hav⟩:=hvs
  have hv:vs.length=3:=by rw [List.length_dropLast] at hl;omega
  obtain ⟨v0,v0',v1,rfl⟩:=ln3 hv
  obtain ⟨x0,x0',x1,rfl⟩:=ln3 hlen.symm
  have h1:=hset x0 (by simp)
  have h1':=hset x0' (by simp)
  have h2:=hav 0 v0 x0 rfl rfl
  have h2':=hav 1 v0' x0' rfl rfl
  cases x0 with
  | set l =>
    cases x0' with
    | set l' =>
      obtain ⟨a,vs0,rfl,m,hi,hl'⟩:=h2
      obtain ⟨a',vs0',rfl,m',hi',hl''⟩:=h2'
      exact ⟨a,vs0,l,a',vs0',l',v1,x1,rfl,rfl,m,hi,hl',m',hi',hl''⟩
    | _=>cases h1'
  | _=>cases h1
theorem idx_len2 {c:Nat} (hvs:ArgsV objs R V vsV c vs xs) (h:(vs.dropLast.length:Int)≠2):okIdx true xs nv=none:=by
  have hl:=hvs.1
  unfold okIdx
  split
  · simp
  · exact absurd (by simp [hl]) h
  · rfl
theorem idx_gap2a (a:hiI l - loI l + 1≠(l.length:Int)):okIdx two [.set l,.set l',x1] nv=none:=by
  unfold okIdx
  split
  · rename_i e;cases e
  · rename_i e
    cases e
    rw [if_neg]
    exact fun z=>a z.2.1
  · rfl
theorem idx_gap2b (a:hiI l' - loI l' + 1≠(l'.length:Int)):okIdx two [.set l,.set l',x1] nv=none:=by
  unfold okIdx
  split
  · rename_i e;cases e
  · rename_i e
    cases e
    rw [if_neg]
    exact fun z=>a z.2.2.1
  · rfl
theorem idx_many2 (a:(1:Int) * (l.length:Int) * (l'.length:Int)≠(nv:Int)):okIdx two [.set l,.set l',x1] nv=none:=by
  unfold okIdx
  split
  · rename_i e;cases e
  · rename_i e
    cases e
    rw [if_neg]
    exact fun z=>a (by rw [← z.2.2.2,Int.one_mul];push_cast;rfl)
  · rfl
theorem idx_ok2 {x:Arg} (hx:[Arg.set l,.set l',x1][[Arg.set l,.set l',x1].length - 1]?=some x) (hxa:x.isArr=true) (a:hiI l - loI l + 1=(l.length:Int)) (a':hiI l' - loI l' + 1=(l'.length:Int)) (b:(1:Int) * (l.length:Int) * (l'.length:Int)=(nv:Int)):okIdx true [.set l,.set l',x1] nv=some [(loI l,hiI l),(loI l',hiI l')]:=by
  have e:x1=x:=by simpa using hx
  subst e
  cases x1 with
  | arr=>simp only [okIdx];rw [if_pos ⟨trivial,a,a',by rw [Int.one_mul] at b;exact_mod_cast b⟩]
  | _=>cases hxa
theorem bits10 {a:Int} (h:0≤a∧a≤1000):Builtin.Int.intBits a≤2 ^ 20:=by
  unfold Builtin.Int.intBits
  split
  · exact Nat.zero_le _
  · rename_i z
    have h0:a.natAbs≠0:=by simpa using z
    have h1:a.natAbs.log2 < 10:=(Nat.log2_lt h0).mpr (by omega)
    have h2:(10:Nat)≤2 ^ 20:=by decide
    omega
theorem mul_small {a b:Int} (ha:0≤a∧a≤1000) (hb:0≤b∧b≤1000):IntMulOk a b:=IntMulOk.of_bits (bits10 ha) (bits10 hb)
theorem in_keeps {K:Frag} {g:Heap} (X:K.In g) (F:Fr g L h m):K.In h:=X.keeps F.keep
section
example:True:=by
  k_with "r30"=>(skip)
  k_with "r15"=>(skip)
  k_with "r17"=>(skip)
  k_with "y27"=>((k_here;k_dflt (first
  | (refine' leave_newH ?hN_ ?B_ ?F_ ?N_ ?hm_ ?hs_ ?eL_ ?fl_ rfl rfl rfl ?_;(case hN_=>assumption);(case fl_|F_|N_|B_=>k_asm);(case eL_=>assumption);(case hm_=>k_extra "m mems");(case hs_=>k_extra "m seqs");intro h9 tk9 r9 ff9 fl9;(try dsimp only))
  | (refine' leave_own rfl rfl ?ff_ ?rel_ ?hL_ (.inr ?fl_) ?_;(case fl_|ff_|rel_|hL_=>assumption);intro h9 tk9 r9 ff9 fl9;(try dsimp only)))))
  k_with "w leaving ref"=>((fail_if_success k_extra "r33");k_extra "y27")
  k_with "y28"=>((repeat (first|exact List.forall_mem_nil _|refine fc ⟨_,_,rfl⟩ ?_)))
  k_with "m seqs"=>(k_extra "y28")
  k_with "y29"=>((k_dflt (refine' ⟨_,_,_,_,rfl,?X_,?fl_,?_⟩;(case fl_=>k_asm);(case X_=>exact in_keeps (by k_asm) (by k_asm)))))
  k_with "w Exists"=>((fail_if_success k_extra "r35");k_extra "y29")
  k_with "y30"=>((k_here;(with_reducible show wpAny _ _ (subscriptTail _ _ (Value.ref _) (Value.int _ _)) _ _ _);k_dflt (refine' item_tupZ ?t_ ?i_ ?l_ ?a_ ?b_ ?_;(case t_=>exact IsTup.keeps (by assumption) (Fr.keep (by k_asm)));(case i_|l_=>assumption);(case a_|b_=>omega);k_whole;intro n' u' hn')))
  k_with "w subscriptTail Name Constant ref int"=>((fail_if_success k_extra "r36");k_extra "y30")
  k_with "y31"=>((k_here;k_dflt (refine' comp_setof rfl rfl ?hd_ ?hu_ ?W_ rfl rfl rfl ?O_ ?hL_ ?a_ ?b_ ?c_ ?d_ ?e_ ?f_ ?g_ ?h_ ?i_ ?j_ ?k_ ?_;(case hd_|hu_=>exact Nat.le_of_ble_eq_true rfl);(case j_|k_|W_|O_=>assumption);(case hL_=>exact self_none (by assumption));(case a_=>with_unfolding_all rfl);(case b_=>decide);(case c_=>exact rfl);(case d_=>decide);(case e_=>exact rfl);(case f_|g_=>exact fun _=>rfl);(case h_=>exact rfl);(case i_=>(intro _;with_unfolding_all rfl)))))
  k_with "w eval ListComp"=>((fail_if_success k_extra "r37");k_extra "y31")
  k_with "y32"=>((k_here;(with_reducible show wpAny _ _ (subscriptTail _ (PySem.Expr.Slice none _ none _) (Value.ref _) (Value.ref _)) _ _ _);k_dflt (refine' slice_init ?F_ ?N_ ?m_ ?l_ ?z_ ?_ ?s_ ?t_;(case F_|N_=>k_asm);(case m_=>k_mem);(case l_|z_=>assumption);(case s_=>with_unfolding_all rfl);(case t_=>kmk_pure));intro D' h' F' N' l1;(try dsimp only);(try k_lt l1)))
  k_with "w subscriptTail Name Slice ref ref"=>((fail_if_success k_extra "r38");k_extra "y32")
  k_with "y33"=>((k_here;k_dflt (refine' ⟨_,_,_,_,_,_,_,_,rfl,?B_,?F_,?N_,?T_,?av_,?l_,?oc_,?K0_,?Q_,?E_⟩;(case B_|F_|N_=>k_asm);(case T_=>k_mem);(case av_=>exact argsV_init (by assumption));(case l_=>(simp only [List.length_dropLast];omega));(case oc_=>exact ⟨_,_,by k_mem,by assumption⟩);(case K0_=>exact keepO (by assumption) (by k_asm) (by k_asm) (by k_extra "m mems"));(case' Q_=>(intro hset D' c' h' tk' F' N' l1;(try dsimp only);(try k_lt l1);(try k_unmd);(try k_fold)));(case' E_=>intro hnot e' dd' h' tk' r' ff' fl' z';(try dsimp only)))))
  k_with "w SetsGo"=>((fail_if_success k_extra "r39");k_extra "y33")
  k_with "y34"=>((k_here;k_dflt (first
  | (refine' len_listZ ?N_ ?m_ ?l_ ?_;(case N_=>k_asm);(case m_=>k_mem);(case l_=>first|assumption|(simp only [List.length_dropLast];omega));k_whole)
  | (refine' len_tupZ ?t_ ?i_ ?l_ ?_;(case t_=>exact IsTup.keeps (by assumption) (Fr.keep (by k_asm)));(case i_|l_=>assumption);k_whole))))
  k_with "w call builtin:len"=>((fail_if_success k_extra "r40");k_extra "y34")
  k_with "y35"=>((k_here;k_dflt (refine' append_K ?k1_ ?k2_ ?k3_ ?_ ?z_;(case k1_|k2_=>k_asm);(case k3_=>k_upd);(case z_=>decide);k_whole);intro h' F' N';(try dsimp only);(try k_sweep)))
  k_with "w call builtin:list.append"=>((fail_if_success k_extra "r41");k_extra "y35")
  k_with "y36"=>((k_here;k_dflt (refine mul_int ?_ (mul_small (by omega) (by omega)))))
  k_with "w binaryOp Mult int int"=>((fail_if_success k_extra "r42");k_extra "y36")
  k_with "y37"=>((k_here;k_dflt (first|(refine' item_tupZlast ?t_ ?i_ ?l_ ?b_ ?_;(case t_=>exact IsTup.keeps (by assumption) (Fr.keep (by k_asm)));(case i_|l_=>assumption);(case b_=>omega);k_whole;intro n' u' hn')|(refine' item_listZlast ?N_ ?m_ ?l_ ?z_ ?_;(case N_=>k_asm);(case m_=>k_mem);(case l_|z_=>assumption);k_whole;intro v' hv';(have hav':=argsV_last (by assumption) hv');obtain ⟨x',hx',hax'⟩:=hav'))))
  k_with "w subscriptTail Name UnaryOp ref int"=>((fail_if_success k_extra "r43");k_extra "y37")
  k_with "y38"=>((k_here;k_dflt (first
  | (refine' exc_useN rfl rfl ?hd_ ?hu_ ?W_ ?B_ ?F_ ?N_ rfl rfl ?_;(case hd_|hu_=>first|exact Nat.le_of_ble_eq_true rfl|(dsimp only [Around.deeper];omega));(case W_|B_|F_|N_=>k_asm);k_whole;intro e' dd' h' tk' F' N' fl';(try dsimp only))
  | (refine' OfS.useP (listof_ok _ _ ?W_ _ _ _ _ _ _ _ _ _ ?hv_) rfl rfl rfl ?hd_ ?hu_ ?O_ ?B_ ?F_ ?N_ ?hL_ ?K0_ rfl rfl (fun h' tk' c' F' N'=>?_) (fun e' dd' sp' h' tk' c' r' ff' fl' z'=>?_);(case hv_|W_=>assumption);k_extra "m useO"))))
  k_with "w call ref"=>((fail_if_success k_extra "r44");k_extra "y38")
  k_with "y39"=>(((rename OneIs _ _=>hTh);exact hTh))
  k_with "m nv"=>((fail_if_success k_extra "r45");k_extra "y39")
  trivial
theorem lohi_eval {g:Heap} {a:Addr} {q1 q2 q3 q4 q5 q6 q7 q8 q9 q10 q11 q12 q13 q14 q15 q16 q17:Pos}
    (hsc:scOf w 394=some sc) (B:Below A₀ base outer g) (X:(Kt w.params).In g) (T:Top p loose mean mg mb g) (F:Fr g L s.heap m) (N:News g L s.heap news) (hm:OneIs m a) (hT:IsTup g a (List.toArray vs)) (hi:IntsAre vs l) (hl:l.length≤20)
    (h:∀ tu t u h' tk,Fr g L h' m→News g L h' ((tu,tupO [.int (loI l) t,.int (hiI l) u])::news)→(∀ p∈news,p.1 < tu)→Q (.ref tu) { s with heap:=h',toks:=tk }) :
    wpAny (model PySem.Challenge.rw_nz0031_01.row.prog w) A (eval (.IfExp (.Compare (.Call (.Name (Str.ofString "len") q1) [.Name (Str.ofString "one") q2] [] q3) [.Gt] [.Constant (.int 0) 0 q4] q5)
      (.Tuple [.Subscript (.Name (Str.ofString "one") q6) (.Constant (.int 0) 0 q7) q8,.Subscript (.Name (Str.ofString "one") q9) (.UnaryOp .USub (.Constant (.int 1) 0 q10) q11) q12] 0 q13)
      (.Tuple [.Constant (.int 1) 0 q14,.Constant (.int 0) 0 q15] 0 q16) q17) (envOfC (Str.ofString "indexed") sc L 394 (.ref 393))) Q E s:=by
  have hsc2:some _=some sc:=hsc
  clear hsc
  cases hsc2
  k_extra "m fill"
  w_strict (
    k_steps
    all_goals (repeat (first|k_unfold|dsimp only))
    all_goals first
      | ((rename l[Int.toNat 0]?=some _=>e1);(rename l[l.length - 1]?=some _=>e2);(rw [lo_of e1,hi_of e2] at h);exact h _ _ _ _ _ (by assumption) (by assumption) (by assumption))
      | (rename ¬ 0 < (l.length:Int)=>e0;(have e:l=[]:=List.eq_nil_of_length_eq_zero (by omega));subst e;exact h _ _ _ _ _ (by assumption) (by assumption) (by assumption)))
end
theorem mul_bnd {a b:Int} (ha:0≤a∧a≤20) (hb:0≤b∧b≤20) (h:∀ M t tk,M=a * b→0≤M∧M≤400→Q (.int M t) { s with toks:=tk }) :
    wpAny (model prog w) A (binaryOp Operator.Mult (Value.int a t) (Value.int b u)) Q E s:=by
  refine mul_int (h _ _ _ rfl ⟨Int.mul_nonneg ha.1 hb.1,?_⟩) (mul_small (by omega) (by omega))
  exact Int.le_trans (Int.mul_le_mul_of_nonneg_right ha.2 hb.1) (by omega)
theorem many1 {M:Int} (e:M=1 * (l.length:Int)) (a:M≠(nv:Int)):okIdx two [.set l,x1] nv=none:=idx_many1 (by rw [← e];exact a)
theorem ok1 {x:Arg} {M:Int} (hx:[Arg.set l,x1][[Arg.set l,x1].length - 1]?=some x) (hxa:x.isArr=true) (a:hiI l - loI l + 1=(l.length:Int)) (e:M=1 * (l.length:Int)) (b:M=(nv:Int)):okIdx false [.set l,x1] nv=some [(loI l,hiI l)]:=idx_ok1 hx hxa a (by rw [← e];exact b)
theorem many2 {M M':Int} (e:M=1 * (l.length:Int)) (e':M'=M * (l'.length:Int)) (a:M'≠(nv:Int)):okIdx two [.set l,.set l',x1] nv=none:=idx_many2 (by rw [← e,← e'];exact a)
theorem ok2 {x:Arg} {M M':Int} (hx:[Arg.set l,.set l',x1][[Arg.set l,.set l',x1].length - 1]?=some x) (hxa:x.isArr=true) (a:hiI l - loI l + 1=(l.length:Int)) (a':hiI l' - loI l' + 1=(l'.length:Int)) (e:M=1 * (l.length:Int)) (e':M'=M * (l'.length:Int)) (b:M'=(nv:Int)):okIdx true [.set l,.set l',x1] nv=some [(loI l,hiI l),(loI l',hiI l')]:=idx_ok2 hx hxa a a' (by rw [← e,← e'];exact b)
theorem size1 {x:Value}:((#[]:Array Value).push x).size≤sizeLine:=by rw [Array.size_push,sizeLine_eq];exact Nat.le_of_ble_eq_true rfl
section
example:True:=by
  k_with "r24"=>(skip)
  k_with "r33"=>(skip)
  k_with "r25"=>(skip)
  k_with "r36"=>(skip)
  k_with "r41"=>(skip)
  k_with "r42"=>(skip)
  k_with "r43"=>(skip)
  k_with "y40"=>(skip)
  k_with "w k_lt $h:ident"=>((fail_if_success k_extra "r46");k_extra "y40")
  k_with "y41"=>((refine neN ?_;(try dsimp only);(first|(with_reducible assumption)|exact Nat.ne_of_lt (all_lt (by with_reducible assumption) (by k_mem))|exact Nat.ne_of_gt (all_lt (by with_reducible assumption) (by k_mem))|(with_reducible exact Ne.symm (by assumption))|(with_reducible exact Nat.ne_of_lt (by assumption))|(with_reducible exact Nat.ne_of_gt (by assumption))|exact Nat.ne_of_lt (all_lt2 (by with_reducible assumption) (by with_reducible assumption) (by k_mem))|exact Nat.ne_of_gt (all_lt2 (by with_reducible assumption) (by with_reducible assumption) (by k_mem))|omega)))
  k_with "w k_ne"=>((fail_if_success k_extra "r47");k_extra "y41")
  k_with "y42"=>((k_here;k_dflt (refine' callWith_K ?k1_ ?k2_ ?_;(case k1_=>with_reducible assumption);(case k2_=>k_is);k_whole)))
  k_with "w callWith ref"=>((fail_if_success k_extra "r48");k_extra "y42")
  k_with "y43"=>((k_here;k_dflt (first
  | (refine' leave_newH ?hN_ ?B_ ?F_ ?N_ ?hm_ ?hs_ ?eL_ ?fl_ rfl rfl rfl ?_;(case hN_=>assumption);(case fl_|F_|N_|B_=>k_asm);(case eL_=>first|exact rfl|assumption);(case hm_=>k_extra "m mems");(case hs_=>k_extra "m seqs");intro h9 tk9 r9 ff9 fl9;(try dsimp only))
  | (refine' leave_own rfl rfl ?ff_ ?rel_ ?hL_ (.inr ?fl_) ?_;(case fl_|ff_|rel_|hL_=>assumption);intro h9 tk9 r9 ff9 fl9;(try dsimp only)))))
  k_with "w leaving ref"=>((fail_if_success k_extra "r49");k_extra "y43")
  k_with "y44"=>((k_here;(with_reducible show wpAny _ _ (subscriptTail _ _ (Value.ref _) (Value.int _ _)) _ _ _);k_dflt (refine' item_tupZ ?t_ ?i_ ?l_ ?a_ ?b_ ?_;(case t_=>exact IsTup.keeps (by assumption) (Fr.keep (by k_asm)));(case i_|l_=>assumption);(case a_|b_=>first|exact le_cell (by with_reducible assumption) (by k_mem)|exact le_cell2 (by with_reducible assumption) (by with_reducible assumption) (by k_mem)|omega);k_whole;intro n' u' hn')))
  k_with "w subscriptTail Name Constant ref int"=>((fail_if_success k_extra "r50");k_extra "y44")
  k_with "y45"=>((
    (refine wpAny_call ?_);
    k_dflt (refine' enterZ ?kW_ ?kB_ [] ?k0_ ?ho_ ?hcd_ ?hroom_ ?hbind_ ?hloc_ ?_ ?c1_ ?c2_ ?c3_ ?c4_);
    (case kW_=>assumption);
    (case kB_=>assumption);
    (case k0_=>exact fun _ h=>nomatch h);
    (case ho_=>k_is);
    (case hcd_=>k_is);
    (case hroom_=>first|exact Nat.le_of_ble_eq_true rfl|exact room_le);
    (case hbind_=>exact BindsTo.of_eq rfl);
    (case hloc_=>exact locs rfl);
    (case c1_=>decide);
    (case c2_=>exact rfl);
    (case c3_=>exact rfl);
    (case c4_=>exact rfl);
    intro h₁ p loose mean mg mb F N Bl X T lt tk;
    (dsimp only [List.map,hideAll] at F N Bl X T);
    (try k_fold)))
  k_with "m enter"=>((fail_if_success k_extra "r51");k_extra "y45")
  k_with "y46"=>((
    (refine wpAny_call ?_);
    k_dflt (refine' enterZ ?kW_ ?kB_ _ ?k0_ ?ho_ ?hcd_ ?hroom_ ?hbind_ ?hloc_ ?_ ?c1_ ?c2_ ?c3_ ?c4_);
    (case k0_=>assumption);
    (case kW_=>assumption);
    (case kB_=>assumption);
    (case ho_=>k_is);
    (case hcd_=>k_is);
    (case hroom_=>first|exact Nat.le_of_ble_eq_true rfl|exact room_le);
    (case hbind_=>exact BindsTo.of_eq rfl);
    (case hloc_=>exact locs rfl);
    (case c1_=>decide);
    (case c2_=>exact rfl);
    (case c3_=>exact rfl);
    (case c4_=>exact rfl);
    intro h₁ p loose mean mg mb F N Bl X T lt tk;
    (dsimp only [List.map] at F N Bl X T);
    (try k_fold)))
  k_with "m enterH"=>((fail_if_success k_extra "r52");k_extra "y46")
  k_with "y47"=>((k_here;k_dflt (refine' append_K ?k1_ ?k2_ ?k3_ ?_ ?z_;(case k1_|k2_=>k_asm);(case k3_=>k_upd);(case z_=>first|exact size1|decide);k_whole);intro h' F' N';(try dsimp only);(try k_sweep)))
  k_with "w call builtin:list.append"=>((fail_if_success k_extra "r53");k_extra "y47")
  k_with "y48"=>((k_here;k_dflt (refine' lohi_eval ?sc_ ?B_ ?X_ ?T_ ?F_ ?N_ ?hm_ ?hT_ ?hi_ ?hl_ ?_;(case sc_=>exact rfl);(case B_|X_|T_|F_|N_=>k_asm);(case hm_=>exact rfl);(case hT_|hi_|hl_=>assumption);k_whole);intro tu' t' u' h' tk' F' N' l1';(try dsimp only);(try k_lt l1')))
  k_with "w eval IfExp Compare Tuple Tuple"=>((fail_if_success k_extra "r54");k_extra "y48")
  k_with "y49"=>((k_here;k_dflt (refine' mul_bnd ?a_ ?b_ ?_;(case a_|b_=>first|exact le_cell (by with_reducible assumption) (by k_mem)|exact le_cell2 (by with_reducible assumption) (by with_reducible assumption) (by k_mem)|omega);k_whole;intro M' t' tk' eM' bM')))
  k_with "w binaryOp Mult int int"=>((fail_if_success k_extra "r55");k_extra "y49")
  k_with "y50"=>((k_here;k_dflt (first|(refine' item_tupZlast ?t_ ?i_ ?l_ ?b_ ?_;(case t_=>exact IsTup.keeps (by assumption) (Fr.keep (by k_asm)));(case i_|l_=>assumption);(case b_=>first|exact le_cell (by with_reducible assumption) (by k_mem)|exact le_cell2 (by with_reducible assumption) (by with_reducible assumption) (by k_mem)|omega);k_whole;intro n' u' hn')|(refine' item_listZlast ?N_ ?m_ ?l_ ?z_ ?_;(case N_=>k_asm);(case m_=>k_mem);(case l_|z_=>assumption);k_whole;intro v' hv';(have hav':=argsV_last (by assumption) hv');obtain ⟨x',hx',hax'⟩:=hav'))))
  k_with "w subscriptTail Name UnaryOp ref int"=>((fail_if_success k_extra "r56");k_extra "y50")
  trivial
namespace Z
theorem indexed1_core:indexed1_P Z.w Z.base Z.objs Z.R Z.V Z.S Z.vsV Z.cV Z.cS Z.tn Z.ts Z.spot Z.outer Z.Q Z.E Z.s:=by
  intro W vs xs mS mV hV hvs hn1 hn2
  intro B O hret hflt
  have hN:=O.sub [(S,listOf vs.toArray cS),(V,listOf vsV.toArray cV)] (fc mS (fc mV (List.forall_mem_nil _)))
  have hLs:∀ b∈[S,V],∃ vs c,s.heap.get? b=some (listOf vs c):=fc ⟨_,_,(hN _ (.head _)).1⟩ (fc ⟨_,_,(hN _ (.tail _ (.head _))).1⟩ (List.forall_mem_nil _))
  k_extra "m fill"
  w_strict (
    (refine wpAny_call ?_)
    k_dflt (refine' enterC (binds:=[(Str.ofString "name",.str (Str.ofString "array1d") tn),(Str.ofString "some",.ref S),(Str.ofString "spot",.int spot ts)]) W B _ hN ?ho_ ?hcd_ ?hroom_ ?hbind_ ?hkind_ ?hnd_ ?_ ?c2_ ?c3_ ?c4_);
    (case ho_=>k_is);
    (case hcd_=>k_is);
    (case hroom_=>exact Nat.le_of_ble_eq_true rfl);
    (case hbind_=>exact BindsTo.of_eq rfl);
    (case hkind_=>exact kindsX rfl);
    (case hnd_=>decide +kernel);
    (case c2_=>exact rfl);
    (case c3_=>exact rfl);
    (case c4_=>exact rfl);
    intro L h₁ p loose mean mg mb cells F N Y Bl X T lt eL tk;subst eL;
    (dsimp only [List.map] at F N Bl X T);
    (obtain ⟨oc,hE,dc⟩:=CellsAre.one Y);
    subst hE;clear Y;
    (have eLN:@Eq Nat s.heap.objs.size s.heap.objs.size:=rfl);
    (have dc1:oc.data=.cell (some (.int spot ts)):=dc);clear dc;
    (try simp only [List.cons_append,List.nil_append] at N);
    (try k_fold)
    repeat' ((fail_if_success (with_reducible show wpAny _ _ (exec (Stmt.For _ _ _ _ _) _) _ _ _));first|(k_unfold;(try dsimp only))|(k_end;wrow_close)|walk1|(dsimp only;walk1)|(leave1;walk_say "STEP leave1";try dsimp only)|fail "no step")
    all_goals (try dsimp (config:={zetaDelta:=true}) only)
    all_goals first
      | exact hflt _ _ _ _ _ ⟨idx_set (by assumption),rfl⟩ (by assumption) (by assumption) (by assumption)
      | exact hflt _ _ _ _ _ ⟨idx_len1 (by assumption) (by assumption),rfl⟩ (by assumption) (by assumption) (by assumption)
      | (rename _∧_=spot=>c9;obtain ⟨c9,c8⟩:=c9;subst c8;exact hflt _ _ _ _ _ ⟨idx_arr (by assumption) c9,rfl⟩ (by assumption) (by assumption) (by assumption))
      | skip
    (rename (vs.dropLast.length:Int)=1=>hl1)
    (rename ∀ x∈xs.dropLast,x.isSet=true=>hset)
    (obtain ⟨a0,vs0,l0,v1,x1,e1,e2,ma0,hi0,hl0⟩:=shape1 hvs hl1 hset)
    have hT0:=tup_ground O ma0 hLs
    subst e1 e2
    (rename News _ _ _ _=>N9)
    (try simp only [List.dropLast_cons_cons,List.dropLast_singleton] at N9)
    k_steps
    all_goals (try dsimp (config:={zetaDelta:=true}) only)
    all_goals first
      | exact hflt _ _ _ _ _ ⟨idx_gap1 (by assumption),rfl⟩ (by assumption) (by assumption) (by assumption)
      | exact hflt _ _ _ _ _ ⟨many1 (by assumption) (by assumption),rfl⟩ (by assumption) (by assumption) (by assumption)
      | (refine' hret _ _ _ ⟨_,ok1 (by assumption) (by assumption) (by assumption) (by assumption) (by assumption),?r_⟩ ?e_;(case e_=>exact keepH hN (by k_asm) (by k_asm) (by k_extra "m mems"));(case r_=>(refine' arrNew1 ?N_ ?m1_ ?m2_ ?m3_ ?b1_ ?b2_ ?b3_;(case N_=>k_asm);(case m1_|m2_|m3_=>k_mem);(case b1_|b2_|b3_=>first|exact le_cell (by with_reducible assumption) (by k_mem)|exact le_cell2 (by with_reducible assumption) (by with_reducible assumption) (by k_mem)|omega)))))
end Z
namespace Z
theorem indexed2_core:indexed2_P Z.w Z.base Z.objs Z.R Z.V Z.S Z.vsV Z.cV Z.cS Z.tn Z.ts Z.spot Z.outer Z.Q Z.E Z.s:=by
  intro W vs xs mS mV hV hvs hn1 hn2
  intro B O hret hflt
  have hN:=O.sub [(S,listOf vs.toArray cS),(V,listOf vsV.toArray cV)] (fc mS (fc mV (List.forall_mem_nil _)))
  have hLs:∀ b∈[S,V],∃ vs c,s.heap.get? b=some (listOf vs c):=fc ⟨_,_,(hN _ (.head _)).1⟩ (fc ⟨_,_,(hN _ (.tail _ (.head _))).1⟩ (List.forall_mem_nil _))
  k_extra "m fill"
  w_strict (
    (refine wpAny_call ?_)
    k_dflt (refine' enterC (binds:=[(Str.ofString "name",.str (Str.ofString "array2d") tn),(Str.ofString "some",.ref S),(Str.ofString "spot",.int spot ts)]) W B _ hN ?ho_ ?hcd_ ?hroom_ ?hbind_ ?hkind_ ?hnd_ ?_ ?c2_ ?c3_ ?c4_);
    (case ho_=>k_is);
    (case hcd_=>k_is);
    (case hroom_=>exact Nat.le_of_ble_eq_true rfl);
    (case hbind_=>exact BindsTo.of_eq rfl);
    (case hkind_=>exact kindsX rfl);
    (case hnd_=>decide +kernel);
    (case c2_=>exact rfl);
    (case c3_=>exact rfl);
    (case c4_=>exact rfl);
    intro L h₁ p loose mean mg mb cells F N Y Bl X T lt eL tk;subst eL;
    (dsimp only [List.map] at F N Bl X T);
    (obtain ⟨oc,hE,dc⟩:=CellsAre.one Y);
    subst hE;clear Y;
    (have eLN:@Eq Nat s.heap.objs.size s.heap.objs.size:=rfl);
    (have dc1:oc.data=.cell (some (.int spot ts)):=dc);clear dc;
    (try simp only [List.cons_append,List.nil_append] at N);
    (try k_fold)
    repeat' ((fail_if_success (with_reducible show wpAny _ _ (exec (Stmt.For _ _ _ _ _) _) _ _ _));first|(k_unfold;(try dsimp only))|(k_end;wrow_close)|walk1|(dsimp only;walk1)|(leave1;walk_say "STEP leave1";try dsimp only)|fail "no step")
    all_goals (try dsimp (config:={zetaDelta:=true}) only)
    all_goals first
      | exact hflt _ _ _ _ _ ⟨idx_set (by assumption),rfl⟩ (by assumption) (by assumption) (by assumption)
      | exact hflt _ _ _ _ _ ⟨idx_len2 (by assumption) (by assumption),rfl⟩ (by assumption) (by assumption) (by assumption)
      | (rename _∧_=spot=>c9;obtain ⟨c9,c8⟩:=c9;subst c8;exact hflt _ _ _ _ _ ⟨idx_arr (by assumption) c9,rfl⟩ (by assumption) (by assumption) (by assumption))
      | skip
    (rename (vs.dropLast.length:Int)=2=>hl1)
    (rename ∀ x∈xs.dropLast,x.isSet=true=>hset)
    (obtain ⟨a0,vs0,l0,a1,vs1,l1s,v1,x1,e1,e2,ma0,hi0,hl0,ma1,hi1,hl9⟩:=shape2 hvs hl1 hset)
    have hT0:=tup_ground O ma0 hLs
    have hT1:=tup_ground O ma1 hLs
    subst e1 e2
    (rename News _ _ _ _=>N9)
    (try simp only [List.dropLast_cons_cons,List.dropLast_singleton] at N9)
    k_steps
    all_goals (try dsimp (config:={zetaDelta:=true}) only)
    all_goals first
      | exact hflt _ _ _ _ _ ⟨idx_gap2a (by assumption),rfl⟩ (by assumption) (by assumption) (by assumption)
      | exact hflt _ _ _ _ _ ⟨idx_gap2b (by assumption),rfl⟩ (by assumption) (by assumption) (by assumption)
      | exact hflt _ _ _ _ _ ⟨many2 (by assumption) (by assumption) (by assumption),rfl⟩ (by assumption) (by assumption) (by assumption)
      | (refine' hret _ _ _ ⟨_,ok2 (by assumption) (by assumption) (by assumption) (by assumption) (by assumption) (by assumption) (by assumption),?r_⟩ ?e_;(case e_=>exact keepH hN (by k_asm) (by k_asm) (by k_extra "m mems"));(case r_=>(refine' arrNew2 ?N_ ?m1_ ?m2_ ?m3_ ?m4_ ?b1_ ?b2_ ?b3_ ?b4_;(case N_=>k_asm);(case m1_|m2_|m3_|m4_=>k_mem);(case b1_|b2_|b3_|b4_=>first|exact le_cell (by with_reducible assumption) (by k_mem)|exact le_cell2 (by with_reducible assumption) (by with_reducible assumption) (by k_mem)|omega)))))
end Z
theorem zu3:Up 3:=zu2.step (by with_unfolding_all exact Z.indexed1_core)
theorem indexed1 (w:World) (base:Heap) (W:Wd w base) (objs:List (Addr×Obj)) (R V S:Addr) (vsV vs:List Value) (xs:List Arg) (cV cS:Nat) (tn ts:Tok) (spot:Int) (mS:(S,listOf vs.toArray cS)∈objs) (mV:(V,listOf vsV.toArray cV)∈objs) (hV:vsV.length≤20) (hvs:ArgsV objs R V vsV cV vs xs) (hn1:0 < vs.length) (hn2:vs.length≤20):OfH w base 30 394 [.str (Str.ofString "array1d") tn,.ref S,.int spot ts] objs (fun h v h'=>∃ rs,okIdx false xs vsV.length=some rs∧ArrNew h v h' V rs) (fun sp=>okIdx false xs vsV.length=none∧sp=spot) :=
  fun outer Q E s=>zu3.at { Zd with w,base,objs,R,V,S,vsV,cV,cS,tn,ts,spot,outer,Q,E,s } W vs xs mS mV hV hvs hn1 hn2
theorem zu4:Up 4:=zu3.step (by with_unfolding_all exact Z.indexed2_core)
theorem indexed2 (w:World) (base:Heap) (W:Wd w base) (objs:List (Addr×Obj)) (R V S:Addr) (vsV vs:List Value) (xs:List Arg) (cV cS:Nat) (tn ts:Tok) (spot:Int) (mS:(S,listOf vs.toArray cS)∈objs) (mV:(V,listOf vsV.toArray cV)∈objs) (hV:vsV.length≤20) (hvs:ArgsV objs R V vsV cV vs xs) (hn1:0 < vs.length) (hn2:vs.length≤20):OfH w base 30 394 [.str (Str.ofString "array2d") tn,.ref S,.int spot ts] objs (fun h v h'=>∃ rs,okIdx true xs vsV.length=some rs∧ArrNew h v h' V rs) (fun sp=>okIdx true xs vsV.length=none∧sp=spot) :=
  fun outer Q E s=>zu4.at { Zd with w,base,objs,R,V,S,vsV,cV,cS,tn,ts,spot,outer,Q,E,s } W vs xs mS mV hV hvs hn1 hn2
end
example:True:=by
  k_with "r46"=>(skip)
  k_with "r47"=>(skip)
  trivial
theorem OfH.use {f:Addr} {okV:Heap→Value→Heap→Prop} (S:OfH w base n f vs objs okV flt)
    {g:Heap} 
    (hvs:vs'=vs) (hA:A.handled=none) (hfr:A.frames=some (env::outer)) (hd:A.depth≤900 - 6 * n) (hu:A.units≤9000 - 99 * n)
    (O:Objs base outer h0 objs) (B:Below A₀ base outer g) (F:Fr g L s.heap m) (N:News g L s.heap news) (hL:h0.get? L=none) (K0:∀ b o,h0.get? b=some o→s.heap.get? b=some o) (hf:env.frame=some L) (hk:env.scope.kind=.function)
    (h:∀ v h' tk,okV s.heap v h'→Fr g L h' m→News g L h' news→Q v { s with heap:=h',toks:=tk })
    (hx:∀ e dd sp h' tk,flt sp→RelS (FrOf outer) h0 h'→h'.FunFrames base (env::outer)→FlT h0 h' e dd sp→h0.get? L=none→E (.ref e) { s with heap:=h',toks:=tk }) :
    wpAny (model PySem.Challenge.rw_nz0031_01.row.prog w) A (call (.ref f) vs') Q E s:=by
  subst hvs
  refine wpAny_ak hA hfr hd hu (S _ Q E s (below_at B F hf hk) (O.on K0 hL hf) (fun v h' tk o k=>h v h' tk o (fr_keep F k fun _ h=>nomatch h) (fun p hp=>⟨k _ _ (N p hp).1 (fun h=>nomatch h),(N p hp).2⟩))
    fun e dd sp h' tk o r ff fl=>hx e dd sp h' tk o ?_ ff (fl.lower K0) hL)
  refine ⟨fun b o e nm=>r.keep b o (K0 b o e) fun hm=>?_,fun b o e=>r.slot b o (K0 b o e)⟩
  rw [FrOf_cons hf] at hm
  rcases List.mem_cons.mp hm with z|z
  · rw [z,hL] at e;cases e
  · exact nm z
theorem news_made {g:Heap} (F:Fr g L h m) (N:News g L h news) (N':News g L h' news) (hD:@LE.le Nat _ h.objs.size D) (ho:h'.get? D=some o):News g L h' ((D,o)::news)∧∀ p∈news,p.1 < D:=by
  refine ⟨fun p hp=>?_,fun p hp=>Nat.lt_of_lt_of_le (Heap.lt_size (N p hp).1) hD⟩
  rcases List.mem_cons.mp hp with rfl|hp
  · refine ⟨ho,fun z=>?_,?_⟩
    · have h1:@LT.lt Nat _ L h.objs.size:=F.ns.lt
      have h2:@LE.le Nat _ h.objs.size L:=by rw [← (show D=L from z)];exact hD
      exact Nat.lt_irrefl _ (Nat.lt_of_lt_of_le h1 h2)
    · cases q:g.get? D with
      | none=>rfl
      | some ob=>exact absurd (Nat.lt_of_lt_of_le (Heap.lt_size (F.keep _ _ q)) hD) (Nat.lt_irrefl _)
  · exact N' p hp
theorem OfH.useT {f:Addr} (S:OfH w base n f vs objs (fun h v h'=>P∧TupNew l h v h') flt)
    {g:Heap} 
    (hvs:vs'=vs) (hA:A.handled=none) (hfr:A.frames=some (env::outer)) (hd:A.depth≤900 - 6 * n) (hu:A.units≤9000 - 99 * n)
    (O:Objs base outer h0 objs) (B:Below A₀ base outer g) (F:Fr g L s.heap m) (N:News g L s.heap news) (hL:h0.get? L=none) (K0:∀ b o,h0.get? b=some o→s.heap.get? b=some o) (hf:env.frame=some L) (hk:env.scope.kind=.function)
    (h:∀ D vs h' tk,P→IntsAre vs l→Fr g L h' m→News g L h' ((D,tupO vs)::news)→(∀ p∈news,p.1 < D)→@LT.lt Nat _ L D→Q (.ref D) { s with heap:=h',toks:=tk })
    (hx:∀ e dd sp h' tk,flt sp→RelS (FrOf outer) h0 h'→h'.FunFrames base (env::outer)→FlT h0 h' e dd sp→h0.get? L=none→E (.ref e) { s with heap:=h',toks:=tk }) :
    wpAny (model PySem.Challenge.rw_nz0031_01.row.prog w) A (call (.ref f) vs') Q E s :=
  S.use hvs hA hfr hd hu O B F N hL K0 hf hk (fun v h' tk o F' N'=>by
    obtain ⟨p,D,ws,e,hD,hg,hi⟩:=o
    subst e
    have q:=news_made F N N' hD hg
    exact h D ws h' tk p hi F' q.1 q.2 (Nat.lt_of_lt_of_le F.ns.lt hD)) hx
theorem tupNew_of {g:Heap} (N:News g L h' news) (m:(D,tupO vs)∈news) (hi:IntsAre vs l) (hD:@LE.le Nat _ h.objs.size D):TupNew l h (.ref D) h':=⟨D,vs,rfl,hD,(N _ m).1,hi⟩
theorem tuple_rangeL {a b:Int} {v:Tok} 
    (hh:A.handled=none) (F:Fr h₀ L s.heap m) (N:News h₀ L s.heap news) (hr:IsRange s.heap r a b 1 t u v) (ha:-1000≤a∧a≤1000) (hb:-1000≤b∧b≤1000)
    (h:∀ D vs h' tk,Fr h₀ L h' m→News h₀ L h' ((D,tupO vs)::news)→IntsAre vs (intsFrom a (b - a).toNat)→(∀ p∈news,p.1 < D)→@LT.lt Nat _ L D→Q (.ref D) { s with heap:=h',toks:=tk }) :
    wpAny (model prog w) A (call (.type "tuple") [.ref r]) Q E s:=by
  refine call_tuple_range hh hr ?_ (size_range1 a b) (by omega) fun h' tk acc hk hacc=>?_
  · unfold Builtin.Range.small
    rw [size_range1]
    simp only [fits_long a (by omega),fits_long b (by omega),fits_long 1 (by omega),fits_long ((b - a).toNat:Int) (by omega),Bool.and_self,gt_iff_lt,Int.zero_lt_one,if_true,Int.sub_self,Int.add_zero,Bool.or_true]
  · have F':Fr h₀ L h' m:=F.keeps hk
    have N':News h₀ L h' news:=fun p hp=>⟨hk _ _ (N p hp).1,(N p hp).2⟩
    have e:(⟨.type "tuple",none,.seq acc,#[]⟩:Obj)=tupO acc.toList:=by simp
    exact h _ acc.toList _ _ (F'.push _) (e ▸ N'.push F' _) (ints_of_items _ a acc.toList (by simp [hacc.1]) fun j v hv=>hacc.2 j v (by simpa using hv)) (fun p hp=>Heap.lt_size (N' p hp).1) F'.ns.lt
section
example:True:=by
  k_with "r48"=>(skip)
  k_with "r44"=>(skip)
  k_with "r51"=>(skip)
  k_with "r49"=>(skip)
  k_with "r52"=>(skip)
  k_with "r19"=>(skip)
  k_with "r50"=>(skip)
  k_with "r40"=>(skip)
  k_with "r37"=>(skip)
  k_with "r38"=>(skip)
  k_with "r39"=>(skip)
  k_with "r53"=>(skip)
  k_with "r55"=>(skip)
  k_with "r56"=>(skip)
  k_with "r54"=>(skip)
  k_with "w leaving ref"=>((fail_if_success k_extra "r57");k_extra "y27")
  k_with "m enter"=>((fail_if_success k_extra "r58");k_extra "y20")
  k_with "m enterH"=>((fail_if_success k_extra "r59");k_extra "y21")
  k_with "y51"=>((k_here;(rename IsRange _ _ _ _ _ _ _ _=>hrg);k_dflt (refine' tuple_rangeL ?hh_ ?F_ ?N_ hrg ?a_ ?b_ ?_;(case hh_=>exact rfl);(case F_|N_=>k_asm);(case a_|b_=>omega);k_whole);intro D' vs' h' tk' F' N' i' l1 lL';(try dsimp only);(try k_lt l1)))
  k_with "w call type:tuple"=>((fail_if_success k_extra "r60");k_extra "y51")
  trivial
theorem span_ok (w:World) (base:Heap) (W:Wd w base) (low high:Int) (tl th:Tok) (h1:-100≤low∧low≤100) (h2:-100≤high∧high≤100) :
    OfH w base 26 200 [.int low tl,.int high th] [] (fun h v h'=>True∧TupNew (intsFrom low (high + 1 - low).toNat) h v h') (fun _=>False):=by
  intro outer Q E s B O hret hflt
  have hN:=O.sub [] (List.forall_mem_nil _)
  k_extra "m fill"
  w_strict (
    k_extra "m enter"
    (have eLN:@Eq Nat _ s.heap.objs.size:=(by assumption))
    k_steps
    all_goals (try dsimp (config:={zetaDelta:=true}) only)
    all_goals first
      | (refine' hret _ _ _ ⟨trivial,?r_⟩ ?e_;(case e_=>exact keepH hN (by k_asm) (by k_asm) (by k_extra "m mems"));(case r_=>(refine' tupNew_of ?N_ ?m_ ?i_ ?d_;(case N_=>k_asm);(case m_=>k_mem);(case i_=>assumption);(case d_=>omega))))
      | (exfalso;omega))
end
section
example:True:=by
  k_with "r58"=>(skip)
  k_with "r57"=>(skip)
  k_with "r59"=>(skip)
  k_with "r60"=>(skip)
  k_with "w k_lt $h:ident"=>((fail_if_success k_extra "r61");k_extra "y40")
  k_with "w k_ne"=>((fail_if_success k_extra "r62");k_extra "y41")
  k_with "w callWith ref"=>((fail_if_success k_extra "r63");k_extra "y42")
  k_with "w leaving ref"=>((fail_if_success k_extra "r64");k_extra "y43")
  k_with "m enter"=>((fail_if_success k_extra "r65");k_extra "y45")
  k_with "m enterH"=>((fail_if_success k_extra "r66");k_extra "y46")
  k_with "w subscriptTail Name Constant ref int"=>((fail_if_success k_extra "r67");k_extra "y15")
  k_with "y52"=>(walk_at "subscriptTail Name Constant ref int")
  k_with "w subscriptTail Subscript Name Constant Name ref int"=>((fail_if_success k_extra "r68");k_extra "y52")
  k_with "w subscriptTail Subscript Subscript Name Constant ref int"=>((fail_if_success k_extra "r69");k_extra "y52")
  k_with "y53"=>((k_here;k_dflt (first
  | (refine' exc_useN rfl rfl ?hd_ ?hu_ ?W_ ?B_ ?F_ ?N_ rfl rfl ?_;(case hd_|hu_=>first|exact Nat.le_of_ble_eq_true rfl|(dsimp only [Around.deeper];omega));(case W_|B_|F_|N_=>k_asm);k_whole;intro e' dd' h' tk' F' N' fl';(try dsimp only))
  | (refine' OfS.useV (listof_arr _ _ ?W_ _ _ _ _ _ _ _ _ ?m1_ ?m2_) rfl rfl rfl ?hd_ ?hu_ ?O_ ?B_ ?F_ ?N_ ?hL_ ?K0_ rfl rfl (fun h' tk' F' N'=>?_);(case m1_|m2_|W_=>assumption);k_extra "m useO")
  | (refine' OfH.useT (span_ok _ _ ?W_ _ _ _ _ ?b1_ ?b2_) rfl rfl rfl ?hd_ ?hu_ (fun _ h=>nomatch h) ?B_ ?F_ ?N_ ?hL_ ?K0_ rfl rfl (fun D' vs' h' tk' c' i' F' N' l1' lL'=>?_) (fun e' dd' sp' h' tk' c' r' ff' fl' z'=>c'.elim);(case b1_|b2_=>omega);(case W_=>assumption);(case hd_|hu_=>first|exact Nat.le_of_ble_eq_true rfl|(dsimp only [Around.deeper];omega));(case B_|F_|N_=>k_asm);(case hL_=>exact self_none (by assumption));(case K0_=>exact keepO (by assumption) (by assumption) (by assumption) (by k_extra "m mems"));k_whole;(try k_lt l1')))))
  k_with "w call ref"=>((fail_if_success k_extra "r70");k_extra "y53")
  trivial
namespace Z
theorem iof1_0_core:iof1_0_P Z.w Z.base Z.objs Z.A Z.R Z.V Z.P0 Z.vsV Z.cV Z.lo Z.hi Z.t0 Z.u0 Z.tn Z.ts Z.spot Z.outer Z.Q Z.E Z.s:=by
  intro W mA mV mR m0 b0 b1
  have hv:ArgV objs R V vsV cV (.ref A) .arr:=⟨A,rfl,mA,mV⟩
  intro B O hret hflt
  have hN:=O.sub [(A,tupO [.ref R,.ref V]),(R,tupO [.ref P0]),(P0,tupO [.int lo t0,.int hi u0])] (fc mA (fc mR (fc m0 (List.forall_mem_nil _))))
  k_extra "m fill"
  w_strict (
    k_extra "m enterH"
    (have eLN:@Eq Nat s.heap.objs.size s.heap.objs.size:=rfl)
    k_steps
    all_goals (try dsimp (config:={zetaDelta:=true}) only)
    all_goals first
      | (refine' hret _ _ _ ⟨trivial,?r_⟩ ?e_;(case e_=>exact keepH hN (by k_asm) (by k_asm) (by k_extra "m mems"));(case r_=>(refine' tupNew_of ?N_ ?m_ ?i_ ?d_;(case N_=>k_asm);(case m_=>k_mem);(case i_=>assumption);(case d_=>omega))))
      | (exfalso;omega))
end Z
namespace Z
theorem iof1_1_core:iof1_1_P Z.w Z.base Z.objs Z.A Z.R Z.V Z.P0 Z.vsV Z.cV Z.lo Z.hi Z.t0 Z.u0 Z.tn Z.ts Z.spot Z.outer Z.Q Z.E Z.s:=by
  intro W mA mV mR m0 b0 b1
  have hv:ArgV objs R V vsV cV (.ref A) .arr:=⟨A,rfl,mA,mV⟩
  intro B O hret hflt
  have hN:=O.sub [(A,tupO [.ref R,.ref V]),(R,tupO [.ref P0]),(P0,tupO [.int lo t0,.int hi u0])] (fc mA (fc mR (fc m0 (List.forall_mem_nil _))))
  k_extra "m fill"
  w_strict (
    k_extra "m enterH"
    (have eLN:@Eq Nat s.heap.objs.size s.heap.objs.size:=rfl)
    k_steps
    all_goals (try dsimp (config:={zetaDelta:=true}) only)
    all_goals first
      | exact hflt _ _ _ _ _ rfl (by assumption) (by assumption) (by assumption)
      | (exfalso;omega))
end Z
namespace Z
theorem iof1_2_core:iof1_2_P Z.w Z.base Z.objs Z.A Z.R Z.V Z.P0 Z.vsV Z.cV Z.lo Z.hi Z.t0 Z.u0 Z.tn Z.ts Z.spot Z.outer Z.Q Z.E Z.s:=by
  intro W mA mV mR m0 b0 b1
  have hv:ArgV objs R V vsV cV (.ref A) .arr:=⟨A,rfl,mA,mV⟩
  intro B O hret hflt
  have hN:=O.sub [(A,tupO [.ref R,.ref V]),(R,tupO [.ref P0]),(P0,tupO [.int lo t0,.int hi u0])] (fc mA (fc mR (fc m0 (List.forall_mem_nil _))))
  k_extra "m fill"
  w_strict (
    k_extra "m enterH"
    (have eLN:@Eq Nat s.heap.objs.size s.heap.objs.size:=rfl)
    k_steps
    all_goals (try dsimp (config:={zetaDelta:=true}) only)
    all_goals first
      | exact hflt _ _ _ _ _ rfl (by assumption) (by assumption) (by assumption)
      | (exfalso;omega))
end Z
namespace Z
theorem iof2_0_core:iof2_0_P Z.w Z.base Z.objs Z.A Z.R Z.V Z.P0 Z.P1 Z.vsV Z.cV Z.lo Z.hi Z.lo1 Z.hi1 Z.t0 Z.u0 Z.t1 Z.u1 Z.tn Z.ts Z.spot Z.outer Z.Q Z.E Z.s:=by
  intro W mA mV mR m0 m1 b0 b1 b2 b3
  have hv:ArgV objs R V vsV cV (.ref A) .arr:=⟨A,rfl,mA,mV⟩
  intro B O hret hflt
  have hN:=O.sub [(A,tupO [.ref R,.ref V]),(R,tupO [.ref P0,.ref P1]),(P0,tupO [.int lo t0,.int hi u0]),(P1,tupO [.int lo1 t1,.int hi1 u1])] (fc mA (fc mR (fc m0 (fc m1 (List.forall_mem_nil _)))))
  k_extra "m fill"
  w_strict (
    k_extra "m enterH"
    (have eLN:@Eq Nat s.heap.objs.size s.heap.objs.size:=rfl)
    k_steps
    all_goals (try dsimp (config:={zetaDelta:=true}) only)
    all_goals first
      | exact hflt _ _ _ _ _ rfl (by assumption) (by assumption) (by assumption)
      | (exfalso;omega))
end Z
namespace Z
theorem iof2_1_core:iof2_1_P Z.w Z.base Z.objs Z.A Z.R Z.V Z.P0 Z.P1 Z.vsV Z.cV Z.lo Z.hi Z.lo1 Z.hi1 Z.t0 Z.u0 Z.t1 Z.u1 Z.tn Z.ts Z.spot Z.outer Z.Q Z.E Z.s:=by
  intro W mA mV mR m0 m1 b0 b1 b2 b3
  have hv:ArgV objs R V vsV cV (.ref A) .arr:=⟨A,rfl,mA,mV⟩
  intro B O hret hflt
  have hN:=O.sub [(A,tupO [.ref R,.ref V]),(R,tupO [.ref P0,.ref P1]),(P0,tupO [.int lo t0,.int hi u0]),(P1,tupO [.int lo1 t1,.int hi1 u1])] (fc mA (fc mR (fc m0 (fc m1 (List.forall_mem_nil _)))))
  k_extra "m fill"
  w_strict (
    k_extra "m enterH"
    (have eLN:@Eq Nat s.heap.objs.size s.heap.objs.size:=rfl)
    k_steps
    all_goals (try dsimp (config:={zetaDelta:=true}) only)
    all_goals first
      | (refine' hret _ _ _ ⟨trivial,?r_⟩ ?e_;(case e_=>exact keepH hN (by k_asm) (by k_asm) (by k_extra "m mems"));(case r_=>(refine' tupNew_of ?N_ ?m_ ?i_ ?d_;(case N_=>k_asm);(case m_=>k_mem);(case i_=>assumption);(case d_=>omega))))
      | (exfalso;omega))
end Z
namespace Z
theorem iof2_2_core:iof2_2_P Z.w Z.base Z.objs Z.A Z.R Z.V Z.P0 Z.P1 Z.vsV Z.cV Z.lo Z.hi Z.lo1 Z.hi1 Z.t0 Z.u0 Z.t1 Z.u1 Z.tn Z.ts Z.spot Z.outer Z.Q Z.E Z.s:=by
  intro W mA mV mR m0 m1 b0 b1 b2 b3
  have hv:ArgV objs R V vsV cV (.ref A) .arr:=⟨A,rfl,mA,mV⟩
  intro B O hret hflt
  have hN:=O.sub [(A,tupO [.ref R,.ref V]),(R,tupO [.ref P0,.ref P1]),(P0,tupO [.int lo t0,.int hi u0]),(P1,tupO [.int lo1 t1,.int hi1 u1])] (fc mA (fc mR (fc m0 (fc m1 (List.forall_mem_nil _)))))
  k_extra "m fill"
  w_strict (
    k_extra "m enterH"
    (have eLN:@Eq Nat s.heap.objs.size s.heap.objs.size:=rfl)
    k_steps
    all_goals (try dsimp (config:={zetaDelta:=true}) only)
    all_goals first
      | (refine' hret _ _ _ ⟨trivial,?r_⟩ ?e_;(case e_=>exact keepH hN (by k_asm) (by k_asm) (by k_extra "m mems"));(case r_=>(refine' tupNew_of ?N_ ?m_ ?i_ ?d_;(case N_=>k_asm);(case m_=>k_mem);(case i_=>assumption);(case d_=>omega))))
      | (exfalso;omega))
end Z
theorem zu5:Up 5:=zu4.step (by with_unfolding_all exact Z.iof1_0_core)
theorem iof1_0 (w:World) (base:Heap) (W:Wd w base) (objs:List (Addr×Obj)) (A R V P0:Addr) (vsV:List Value) (cV:Nat) (lo hi:Int) (t0 u0 tn ts:Tok) (spot:Int) (mA:(A,tupO [.ref R,.ref V])∈objs) (mV:(V,listOf (List.toArray vsV) cV)∈objs) (mR:(R,tupO [.ref P0])∈objs) (m0:(P0,tupO [.int lo t0,.int hi u0])∈objs) (b0:-100≤lo∧lo≤100) (b1:-100≤hi∧hi≤100):OfH w base 30 389 [.str (Str.ofString "index_set") tn,.ref A,.int spot ts] objs (fun h v h'=>True∧TupNew (intsFrom lo (hi + 1 - lo).toNat) h v h') (fun _=>False) :=
  fun outer Q E s=>zu5.at { Zd with w,base,objs,A,R,V,P0,vsV,cV,lo,hi,t0,u0,tn,ts,spot,outer,Q,E,s } W mA mV mR m0 b0 b1
theorem zu6:Up 6:=zu5.step (by with_unfolding_all exact Z.iof1_1_core)
theorem iof1_1 (w:World) (base:Heap) (W:Wd w base) (objs:List (Addr×Obj)) (A R V P0:Addr) (vsV:List Value) (cV:Nat) (lo hi:Int) (t0 u0 tn ts:Tok) (spot:Int) (mA:(A,tupO [.ref R,.ref V])∈objs) (mV:(V,listOf (List.toArray vsV) cV)∈objs) (mR:(R,tupO [.ref P0])∈objs) (m0:(P0,tupO [.int lo t0,.int hi u0])∈objs) (b0:-100≤lo∧lo≤100) (b1:-100≤hi∧hi≤100):OfH w base 30 389 [.str (Str.ofString "index_set_1of2") tn,.ref A,.int spot ts] objs (fun _ _ _=>False) (fun sp=>sp=spot) :=
  fun outer Q E s=>zu6.at { Zd with w,base,objs,A,R,V,P0,vsV,cV,lo,hi,t0,u0,tn,ts,spot,outer,Q,E,s } W mA mV mR m0 b0 b1
theorem zu7:Up 7:=zu6.step (by with_unfolding_all exact Z.iof1_2_core)
theorem iof1_2 (w:World) (base:Heap) (W:Wd w base) (objs:List (Addr×Obj)) (A R V P0:Addr) (vsV:List Value) (cV:Nat) (lo hi:Int) (t0 u0 tn ts:Tok) (spot:Int) (mA:(A,tupO [.ref R,.ref V])∈objs) (mV:(V,listOf (List.toArray vsV) cV)∈objs) (mR:(R,tupO [.ref P0])∈objs) (m0:(P0,tupO [.int lo t0,.int hi u0])∈objs) (b0:-100≤lo∧lo≤100) (b1:-100≤hi∧hi≤100):OfH w base 30 389 [.str (Str.ofString "index_set_2of2") tn,.ref A,.int spot ts] objs (fun _ _ _=>False) (fun sp=>sp=spot) :=
  fun outer Q E s=>zu7.at { Zd with w,base,objs,A,R,V,P0,vsV,cV,lo,hi,t0,u0,tn,ts,spot,outer,Q,E,s } W mA mV mR m0 b0 b1
theorem zu8:Up 8:=zu7.step (by with_unfolding_all exact Z.iof2_0_core)
theorem iof2_0 (w:World) (base:Heap) (W:Wd w base) (objs:List (Addr×Obj)) (A R V P0 P1:Addr) (vsV:List Value) (cV:Nat) (lo hi lo1 hi1:Int) (t0 u0 t1 u1 tn ts:Tok) (spot:Int) (mA:(A,tupO [.ref R,.ref V])∈objs) (mV:(V,listOf (List.toArray vsV) cV)∈objs) (mR:(R,tupO [.ref P0,.ref P1])∈objs) (m0:(P0,tupO [.int lo t0,.int hi u0])∈objs) (m1:(P1,tupO [.int lo1 t1,.int hi1 u1])∈objs) (b0:-100≤lo∧lo≤100) (b1:-100≤hi∧hi≤100) (b2:-100≤lo1∧lo1≤100) (b3:-100≤hi1∧hi1≤100):OfH w base 30 389 [.str (Str.ofString "index_set") tn,.ref A,.int spot ts] objs (fun _ _ _=>False) (fun sp=>sp=spot) :=
  fun outer Q E s=>zu8.at { Zd with w,base,objs,A,R,V,P0,P1,vsV,cV,lo,hi,lo1,hi1,t0,u0,t1,u1,tn,ts,spot,outer,Q,E,s } W mA mV mR m0 m1 b0 b1 b2 b3
theorem zu9:Up 9:=zu8.step (by with_unfolding_all exact Z.iof2_1_core)
theorem iof2_1 (w:World) (base:Heap) (W:Wd w base) (objs:List (Addr×Obj)) (A R V P0 P1:Addr) (vsV:List Value) (cV:Nat) (lo hi lo1 hi1:Int) (t0 u0 t1 u1 tn ts:Tok) (spot:Int) (mA:(A,tupO [.ref R,.ref V])∈objs) (mV:(V,listOf (List.toArray vsV) cV)∈objs) (mR:(R,tupO [.ref P0,.ref P1])∈objs) (m0:(P0,tupO [.int lo t0,.int hi u0])∈objs) (m1:(P1,tupO [.int lo1 t1,.int hi1 u1])∈objs) (b0:-100≤lo∧lo≤100) (b1:-100≤hi∧hi≤100) (b2:-100≤lo1∧lo1≤100) (b3:-100≤hi1∧hi1≤100):OfH w base 30 389 [.str (Str.ofString "index_set_1of2") tn,.ref A,.int spot ts] objs (fun h v h'=>True∧TupNew (intsFrom lo (hi + 1 - lo).toNat) h v h') (fun _=>False) :=
  fun outer Q E s=>zu9.at { Zd with w,base,objs,A,R,V,P0,P1,vsV,cV,lo,hi,lo1,hi1,t0,u0,t1,u1,tn,ts,spot,outer,Q,E,s } W mA mV mR m0 m1 b0 b1 b2 b3
theorem zu10:Up 10:=zu9.step (by with_unfolding_all exact Z.iof2_2_core)
theorem iof2_2 (w:World) (base:Heap) (W:Wd w base) (objs:List (Addr×Obj)) (A R V P0 P1:Addr) (vsV:List Value) (cV:Nat) (lo hi lo1 hi1:Int) (t0 u0 t1 u1 tn ts:Tok) (spot:Int) (mA:(A,tupO [.ref R,.ref V])∈objs) (mV:(V,listOf (List.toArray vsV) cV)∈objs) (mR:(R,tupO [.ref P0,.ref P1])∈objs) (m0:(P0,tupO [.int lo t0,.int hi u0])∈objs) (m1:(P1,tupO [.int lo1 t1,.int hi1 u1])∈objs) (b0:-100≤lo∧lo≤100) (b1:-100≤hi∧hi≤100) (b2:-100≤lo1∧lo1≤100) (b3:-100≤hi1∧hi1≤100):OfH w base 30 389 [.str (Str.ofString "index_set_2of2") tn,.ref A,.int spot ts] objs (fun h v h'=>True∧TupNew (intsFrom lo1 (hi1 + 1 - lo1).toNat) h v h') (fun _=>False) :=
  fun outer Q E s=>zu10.at { Zd with w,base,objs,A,R,V,P0,P1,vsV,cV,lo,hi,lo1,hi1,t0,u0,t1,u1,tn,ts,spot,outer,Q,E,s } W mA mV mR m0 m1 b0 b1 b2 b3
end
section
example:True:=by
  k_with "r63"=>(skip)
  k_with "r70"=>(skip)
  k_with "r65"=>(skip)
  k_with "r64"=>(skip)
  k_with "r35"=>(skip)
  k_with "r66"=>(skip)
  k_with "r28"=>(skip)
  k_with "r61"=>(skip)
  k_with "r62"=>(skip)
  k_with "r68"=>(skip)
  k_with "r69"=>(skip)
  k_with "m enter"=>((fail_if_success k_extra "r71");k_extra "y9")
  k_with "w leaving ref"=>((fail_if_success k_extra "r72");k_extra "y11")
  k_with "w Exists"=>((fail_if_success k_extra "r73");k_extra "y13")
  k_with "m enterH"=>((fail_if_success k_extra "r74");k_extra "y14")
  trivial
theorem num_int_ok (w:World) (x spot:Int) (tx ts:Tok):RaiseS w 20 151 [.int x tx,.int spot ts] (fun v=>True∧∃ t,v=.int x t) (fun sp=>False∧sp=0):=by
  intro outer base Q E s W B hret hflt
  k_extra "m fill"
  w_strict (
    k_extra "m enter"
    k_steps
    all_goals (try dsimp (config:={zetaDelta:=true}) only)
    all_goals first
      | exact hret _ _ _ ⟨trivial,_,rfl⟩ (Keep.of_fr (by assumption)))
theorem val_int_ok (w:World) (base:Heap) (W:Wd w base) (objs:List (Addr×Obj)) (self node:Addr) (t1 t2:Tok) (x sp:Int) (tx:Tok)
    (m4:(node,tupO [.str (Str.ofString "int") t1,.int sp t2,.int x tx])∈objs) :
    OfS w base 26 282 [.ref self,.ref node] objs (fun v=>v=.int x tx) (fun _=>False):=by
  intro outer Q E s B O hret hflt
  have hN:=O.sub [(node,tupO [.str (Str.ofString "int") t1,.int sp t2,.int x tx])] (fc m4 (List.forall_mem_nil _))
  k_extra "m fill"
  w_strict (
    k_extra "m enterH"
    k_steps
    all_goals (try dsimp (config:={zetaDelta:=true}) only)
    all_goals first
      | exact hret _ _ _ rfl (keepH hN (by assumption) (by assumption) (by k_extra "m mems")))
theorem val_name1 (w:World) (base:Heap) (W:Wd w base) (objs:List (Addr×Obj)) (self sd dct node A:Addr) (oD:Obj) (ts t1 t2 t3:Tok) (sp:Int) (hD:Obj.IsDictOf (strKind PySem.Challenge.rw_nz0031_01.row.prog w) oD [(Str.ofString "a",Value.ref A)]) (hS:(dct == sysModules)=false)
    (m1:(self,instObj 356 sd)∈objs) (m2:(sd,sdO w dct ts)∈objs) (m3:(dct,oD)∈objs) (m4:(node,tupO [.str (Str.ofString "name") t1,.int sp t2,.str (Str.ofString "a") t3])∈objs) :
    OfS w base 26 282 [.ref self,.ref node] objs (fun v=>v=.ref A) (fun _=>False):=by
  intro outer Q E s B O hret hflt
  have hN:=O.sub [(self,instObj 356 sd),(sd,sdO w dct ts),(dct,oD),(node,tupO [.str (Str.ofString "name") t1,.int sp t2,.str (Str.ofString "a") t3])] (fc m1 (fc m2 (fc m3 (fc m4 (List.forall_mem_nil _)))))
  k_extra "m fill"
  w_strict (
    k_extra "m enterH"
    k_steps
    all_goals (try dsimp (config:={zetaDelta:=true}) only)
    all_goals first
      | exact hret _ _ _ rfl (keepH hN (by assumption) (by assumption) (by k_extra "m mems")))
end
namespace Z.Z2
theorem comp_map_core:comp_map_P Z.w Z.Z2.A Z.env Z.base Z.s Z.Q Z.E Z.L Z.x Z.elt Z.iter Z.px Z.pos Z.scope Z.cl:=by
  intro hA hclos hcell hks hnames hx hs h
  rw [eval_ListComp]
  refine wpAny_comprehension_free (use:=none) rfl hs hclos hks hnames (wpAny_mono h (fun xv s₁ h₁=>?_) fun _ _ e=>e)
  obtain ⟨T,c,vs,rs,g,m,news,rfl,F,N,hT,hl20,hlen,hel,hQ⟩:=h₁
  have hTl:s₁.heap.IsList T (List.toArray vs):=⟨_,(N _ hT).1,rfl,c,rfl⟩
  refine wpAny_pyIter_list hTl ?_
  have hTlt:T < s₁.heap.objs.size:=Heap.lt_size (N _ hT).1
  have hLlt:L < s₁.heap.objs.size:=F.ns.lt
  generalize hIo:({ cls:=.type "list_iterator",data:=.fields #[.ref T,.int 0 0] }:Obj)=io
  have hit:(s₁.heap.push io).IsListIter s₁.heap.objs.size T 0:=by subst hIo;exact ⟨_,Heap.get?_push_size _ rfl,rfl,rfl⟩
  have hsz:(s₁.heap.push io).objs.size=s₁.heap.objs.size + 1:=Heap.size_push ..
  have below:∀ b o,s₁.heap.get? b=some o→b∉[s₁.heap.objs.size]∧b≠(s₁.heap.push io).objs.size∧b≠(s₁.heap.push io).objs.size + 1:=fun b o e=>by
    have hb:=Heap.lt_size e
    rw [hsz]
    exact ⟨fun hm=>Nat.ne_of_lt hb (List.mem_singleton.mp hm),Nat.ne_of_lt (Nat.lt_succ_of_lt hb),Nat.ne_of_lt (Nat.lt_succ_of_lt (Nat.lt_succ_of_lt hb))⟩
  have hDlt:∀ b o,s₁.heap.get? b=some o→b < (s₁.heap.push io).objs.size:=fun b o e=>by rw [hsz];exact Nat.lt_succ_of_lt (Heap.lt_size e)
  refine compW (s₂:={ s₁ with heap:=s₁.heap.push io }) (fun i ys h=>(∀ b o,s₁.heap.get? b=some o→h.get? b=some o)∧ys=rs.take i) (Walks.list hA s₁.heap.objs.size T (Nat.ne_of_lt hTlt) (List.toArray vs)) (by simp only [List.size_toArray];omega) hcell hks hx
    ⟨hit,hTl.at fun o e=>Heap.get?_push_of_some _ e⟩ (fun b hb=>?_) (fun i ys h h' hk hJ=>⟨fun b o e=>hk b o (below b o e).1 (below b o e).2.1 (below b o e).2.2 (hJ.1 b o e),hJ.2⟩)
    (fun h' hk=>⟨fun b o e=>hk b o (Heap.get?_push_of_some _ e),by simp⟩) (fun i v ys h₃ tk m₃ hi hP hJ hns hm hyl hst hpl=>?_) (fun ys h' tk hJ hpl hyl=>?_)
  · rw [hsz]
    rcases List.mem_cons.mp hb with rfl|hb
    · exact Nat.lt_succ_self _
    · rw [List.mem_singleton.mp hb];exact Nat.lt_succ_of_lt hTlt
  · have hiv:vs[i]?=some v:=by simpa using hP
    have hil:i < rs.length:=by rw [hlen];simpa using hi
    have hir:rs[i]?=some rs[i]:=List.getElem?_eq_getElem hil
    refine wpAny_mono (hel i v rs[i] h₃ tk m₃ _ hiv hir (F.keeps hJ.1) (fun p hp=>⟨hJ.1 _ _ (N p hp).1,(N p hp).2⟩) hJ.1 hns hm) (fun y s₄ h₄=>?_) fun _ _ f=>f.elim
    obtain ⟨rfl,h₄,tk₄,rfl,k⟩:=h₄
    exact ⟨h₄,tk₄,rfl,⟨fun b o e=>k b o (hJ.1 b o e) (fun h=>nomatch h),by rw [hJ.2];exact take_snoc hir⟩,fun b o _ e=>k b o e (fun h=>nomatch h)⟩
  · have hys:ys=rs:=by rw [hJ.2];exact List.take_of_length_le (by simp [hlen])
    subst hys
    obtain ⟨c',hD⟩:=hpl
    have F':Fr g L h' m:=F.keeps hJ.1
    have hDL:(s₁.heap.push io).objs.size≠L:=Nat.ne_of_gt (by rw [hsz];exact Nat.lt_succ_of_lt hLlt)
    refine hQ _ c' h' tk F' (fun p hp=>?_) (fun p hp=>hDlt _ _ (N p hp).1) (by rw [hsz];exact Nat.lt_succ_of_lt hLlt)
    rcases List.mem_cons.mp hp with rfl|hp
    · refine ⟨hD,hDL,?_⟩
      cases q:g.get? (s₁.heap.push io).objs.size with
      | none=>rfl
      | some o=>exact absurd (hDlt _ _ (F.keep _ _ q)) (Nat.lt_irrefl _)
    · exact ⟨hJ.1 _ _ (N p hp).1,(N p hp).2⟩
end Z.Z2
theorem zu11:Up 11:=zu10.step (by with_unfolding_all exact Z.Z2.comp_map_core)
theorem comp_map {x:Str} (hA:A.handled=none) (hclos:closureFor scope env=pure cl) (hcell:∀ y∈scope.names,y.2≠.cell) (hks:scope.kind=.function) (hnames:∀ y∈scope.names,y.2=.local→scope.names.lookup y.1=some .local) (hx:scope.names.lookup x=some .local) (hs:∀ x,foldedSetIterable iter env x=pure x) (h:wpAny (model PySem.Challenge.rw_nz0031_01.row.prog w) A (eval iter env) (MapGo w base A env L x elt scope cl Q) E s):wpAny (model PySem.Challenge.rw_nz0031_01.row.prog w) A (eval (.ListComp elt [⟨.Name x px,iter,[],0⟩] scope pos) env) Q E s :=
  zu11.at { Zd with w,A_1:=A,env,base,s,Q,E,L,iter,px,pos,scope,cl,r:={ Zd.r with x,elt } } hA hclos hcell hks hnames hx hs h
theorem lstNew_of {g:Heap} {rs:List Value} {c:Nat} (N:News g L h' news) (m:(D,listOf (List.toArray rs) c)∈news) (hD:@LE.le Nat _ h.objs.size D):LstNew rs h (.ref D) h':=⟨D,c,rfl,hD,(N _ m).1⟩
section
example:True:=by
  k_with "r71"=>(skip)
  k_with "r72"=>(skip)
  k_with "r73"=>(skip)
  k_with "r74"=>(skip)
  k_with "r67"=>(skip)
  k_with "w leaving ref"=>((fail_if_success k_extra "r75");k_extra "y27")
  k_with "w Exists"=>((fail_if_success k_extra "r76");k_extra "y29")
  k_with "m enter"=>((fail_if_success k_extra "r77");k_extra "y20")
  k_with "m enterH"=>((fail_if_success k_extra "r78");k_extra "y21")
  k_with "w eval Call"=>((fail_if_success k_extra "r79");k_extra "y24")
  k_with "y54"=>((k_here;k_dflt (refine' comp_map rfl ?a_ ?b_ ?c_ ?d_ ?e_ ?i_ ?_;(case a_=>with_unfolding_all rfl);(case b_=>decide);(case c_=>exact rfl);(case d_=>decide);(case e_=>exact rfl);(case i_=>(intro _;with_unfolding_all rfl)))))
  k_with "w eval ListComp"=>((fail_if_success k_extra "r80");k_extra "y54")
  k_with "y55"=>((k_here;k_dflt (refine' ⟨_,_,_,_,_,_,_,rfl,?F_,?N_,?T_,?l_,?n_,?el_,?Q_⟩;(case n_=>assumption);(case F_|N_=>k_asm);(case T_=>k_mem);(case l_=>assumption);(case' Q_=>(intro D' c' h' tk' F' N' l1 lL';(try dsimp only);(try k_lt l1)));(case' el_=>(intro i' v' r' h' tk' m' C' hiv hir F' N' K' hns hm;(try dsimp only);(have hq:=(by assumption:NodesV _ _ _ _ _ _) _ _ _ hiv hir);obtain ⟨node',ev',hof'⟩:=hq;subst ev';clear hiv hir;(try k_unmd);(try k_fold))))))
  k_with "w MapGo"=>((fail_if_success k_extra "r81");k_extra "y55")
  k_with "y56"=>((k_here;refine methodCall_KW ?_))
  k_with "w eval Call Attribute"=>((fail_if_success k_extra "r82");k_extra "y56")
  k_with "y57"=>((k_dflt (first
  | (refine' nameZ_L ?k1_ ?k2_ ?k3_ ?k4_ ?_;(case k1_|k2_=>assumption);(case k3_|k4_=>exact rfl);k_whole)
  | (refine' nameZ_C (c:=_) ?k1_ ?k2_ ?k3_ ?k4_ ?_;(case k1_=>exact rfl);(case k2_=>exact ⟨_,News.get (by k_asm) (by k_mem),by assumption⟩);(case k3_|k4_=>exact rfl);k_whole))))
  k_with "w eval Name"=>((fail_if_success k_extra "r83");k_extra "y57")
  k_with "y58"=>((k_here;k_dflt (refine' OfS.useC ?S_ rfl rfl ?hd_ ?hu_ ?B_ ?F_ rfl rfl ?O_ ?q_ ?e_;(case S_=>assumption);(case hd_|hu_=>exact Nat.le_of_ble_eq_true rfl);(case B_|F_=>k_asm);(case O_=>exact Objs.on (by assumption) (keepO (by assumption) (by k_asm) (by k_asm) (by k_extra "m mems")) (self_none (by assumption)) rfl);(case' q_=>intro v' h' tk' e' k';(try dsimp only));(case e_=>exact fun _ _ _ _ _ f=>f.elim))))
  k_with "w call ref"=>((fail_if_success k_extra "r84");k_extra "y58")
  trivial
theorem values_ok (w:World) (base:Heap) (W:Wd w base) (objs:List (Addr×Obj)) (self sd dct nodes:Addr) (tsd:Tok) (items rs:List Value) (c:Nat) (ms:(self,instObj 356 sd)∈objs) (m2:(sd,sdO w dct tsd)∈objs) (mn:(nodes,listOf (List.toArray items) c)∈objs) (hl:items.length≤20) (hlen:rs.length=items.length) (hv:NodesV w base objs self items rs) :
    OfH w base 28 287 [.ref self,.ref nodes] objs (fun h v h'=>LstNew rs h v h') (fun _=>False):=by
  intro outer Q E s B O hret hflt
  have hN:=O.sub [(self,instObj 356 sd),(sd,sdO w dct tsd),(nodes,listOf (List.toArray items) c)] (fc ms (fc m2 (fc mn (List.forall_mem_nil _))))
  k_extra "m fill"
  w_strict (
    (refine wpAny_call ?_)
    k_dflt (refine' enterC (binds:=[(Str.ofString "self",.ref self),(Str.ofString "nodes",.ref nodes)]) W B _ hN ?ho_ ?hcd_ ?hroom_ ?hbind_ ?hkind_ ?hnd_ ?_ ?c2_ ?c3_ ?c4_);
    (case ho_=>k_is);
    (case hcd_=>k_is);
    (case hroom_=>exact Nat.le_of_ble_eq_true rfl);
    (case hbind_=>exact BindsTo.of_eq rfl);
    (case hkind_=>exact kindsX rfl);
    (case hnd_=>decide +kernel);
    (case c2_=>exact rfl);
    (case c3_=>exact rfl);
    (case c4_=>exact rfl);
    intro L h₁ p loose mean mg mb cells F N Y Bl X T lt eL tk;
    (dsimp only [List.map] at F N Bl X T);
    (obtain ⟨oc,hE,dc⟩:=CellsAre.one Y);
    subst hE;clear Y;
    (have eLN:@Eq Nat L s.heap.objs.size:=eL);
    (have dc1:oc.data=.cell (some (.ref self)):=dc);clear dc;
    (try simp only [List.cons_append,List.nil_append] at N);
    (try k_fold)
    k_steps
    all_goals (try dsimp (config:={zetaDelta:=true}) only)
    all_goals first
      | (refine' hret _ _ _ ?r_ ?e_;(case e_=>exact keepH hN (by k_asm) (by k_asm) (by k_extra "m mems"));(case r_=>(refine' lstNew_of ?N_ ?m_ ?d_;(case N_=>k_asm);(case m_=>k_mem);(case d_=>omega))))
      | exact ⟨by assumption,_,_,rfl,by assumption⟩
      | exact s.heap
      | exact Str.ofString ""
      | exact L
      | exact Value.none)
end
theorem NextS.but {i z:Addr} {val:Nat→Option Value} {At:Nat→Heap→Prop} (S:NextS prog w i fp val At) {k:Nat} (x:At k h) (hz:z∉fp) (hs:Heap.ExtBut z h h'):At k h' :=
  S.frame k h h' x fun b hb o e=>hs b o (fun q=>hz (q ▸ hb)) e
section
variable {prog:Program} {w:World} {A:Around} {s:Shared} {Q E:Value→Shared→Prop}
theorem next_tuple {it t:Addr} {x:Value} (hit:s.heap.IsTupleIter it t i) (ht:s.heap.IsTuple t items) (hx:items[i]?=some x) (hQ:∀ h',h'.IsTupleIter it t (i + 1)→Heap.SameBut it s.heap h'→Q x { s with heap:=h' }) :
    wpAny (model prog w) A (Builtin.SmallTypes.nextOf (.ref it)) Q E s:=by
  obtain ⟨o,ho,hc,hd⟩:=id hit
  obtain ⟨ot,hot,_,nt,hdt⟩:=ht
  unfold Builtin.SmallTypes.nextOf
  refine wpAny_bind (wpAny_callSpecial?_slot (name:=Str.ofString "__next__") hit.typeIs F.slot_tuple_iterator_next (wpAny_call_entry F.slot_tuple_iterator_next hit.typeIs F.entry_tuple_iterator_next ?_ (F.args_tuple_iterator_next_1 _)))
  show wpAny _ _ (field (.ref it) 0 >>= _) _ _ s
  refine wpAny_bind (wpAny_field ho hd (x:=.ref t) rfl ?_)
  show wpAny _ _ (if (Value.ref t == Value.none)=true then _ else _) _ _ s
  rw [if_neg (show ¬ ((Value.ref t == Value.none)=true) from Bool.false_ne_true)]
  show wpAny _ _ (field (.ref it) 1 >>= _) _ _ s
  refine wpAny_bind (wpAny_field ho hd (x:=.int i 0) rfl ?_)
  show wpAny _ _ (seqItems? (.ref t) >>= _) _ _ s
  refine wpAny_bind (wpAny_seqItems hot hdt ?_)
  simp only [Int.toNat_natCast,hx]
  refine wpAny_bind (wpAny_setField ho hd (by simp) (wpAny_pure ⟨x,rfl,wpAny_pure (hQ _ ?_ (Heap.SameBut.update ..))⟩))
  exact ⟨_,Heap.get?_update_self _ ho (Obj.isFreed_of_fields (Obj.data_mapFields hd _)),(Obj.cls_mapFields ..).trans hc,by rw [Obj.data_mapFields hd];simp [rawInt]⟩
theorem end_tuple {it t:Addr} (hh:A.handled=none) (hit:s.heap.IsTupleIter it t i) (ht:s.heap.IsTuple t items) (hx:items[i]?=none)
    (hE:∀ h' e,Heap.ExtBut it s.heap h'→(∃ o,h'.get? e=some o∧o.cls=.type "StopIteration")→E (.ref e) { s with heap:=h' }) :
    wpAny (model prog w) A (Builtin.SmallTypes.nextOf (.ref it)) Q E s:=by
  obtain ⟨o,ho,hc,hd⟩:=id hit
  obtain ⟨ot,hot,_,nt,hdt⟩:=ht
  unfold Builtin.SmallTypes.nextOf
  refine wpAny_bind (wpAny_callSpecial?_slot (name:=Str.ofString "__next__") hit.typeIs F.slot_tuple_iterator_next (wpAny_call_entry F.slot_tuple_iterator_next hit.typeIs F.entry_tuple_iterator_next ?_ (F.args_tuple_iterator_next_1 _)))
  show wpAny _ _ (field (.ref it) 0 >>= _) _ _ s
  refine wpAny_bind (wpAny_field ho hd (x:=.ref t) rfl ?_)
  show wpAny _ _ (if (Value.ref t == Value.none)=true then _ else _) _ _ s
  rw [if_neg (show ¬ ((Value.ref t == Value.none)=true) from Bool.false_ne_true)]
  show wpAny _ _ (field (.ref it) 1 >>= _) _ _ s
  refine wpAny_bind (wpAny_field ho hd (x:=.int i 0) rfl ?_)
  show wpAny _ _ (seqItems? (.ref t) >>= _) _ _ s
  refine wpAny_bind (wpAny_seqItems hot hdt ?_)
  simp only [Int.toNat_natCast,hx]
  refine wpAny_bind (wpAny_rule (wpAny_bind (wpAny_setField ho hd (by simp) ?_)))
  show wpAny _ _ (newExc (.type "StopIteration") [] >>= _) _ _ _
  refine wpAny_bind ?_
  simp only [newExc,newTuple]
  refine wpAny_bind (wpAny_newObj_type ?_ (by size_fits))
  refine wpAny_bind (m:=firstArgMember _ _) (wpAny_of_eq (a:=Value.none) (by first|rfl|(simp only [firstArgMember];rfl)) ?_)
  refine wpAny_newObj_type ?_ (by size_fits)
  simp only [raiseNew]
  refine wpAny_bind (wpAny_handled ?_)
  first|rw [show A.in1.handled=none from hh]|rw [hh]
  refine wpAny_bind (wpAny_pure (wpAny_throw ?_))
  exact hE _ _ (((Heap.SameBut.update ..).extBut.push _).push _) ⟨_,Heap.get?_push_size _ rfl,rfl⟩
end
theorem nextS_tuple {i t:Addr} (hl:t≠i):NextS prog w i [i,t] (fun k=>items[k]?) (fun k h=>h.IsTupleIter i t k∧h.IsTuple t items) where
  mem:=.head _
  live:=fun k h x=>by obtain ⟨⟨o,e,_⟩,_⟩:=x;exact ⟨o,e⟩
  frame:=fun k h h' x hk=>⟨x.1.at fun o e=>hk _ (.head _) o e,x.2.at fun o e=>hk _ (.tail _ (.head _)) o e⟩
  item:=fun A k x s Q E hx st hQ=>next_tuple st.1 st.2 hx fun h' hi hs=>hQ h' ⟨hi,st.2.extBut hs.extBut hl⟩ hs
  done:=fun A k s Q E hh hx st hQ=>end_tuple hh st.1 st.2 hx hQ
theorem nextS_list {i l:Addr} (hl:l≠i):NextS prog w i [i,l] (fun k=>items[k]?) (fun k h=>h.IsListIter i l k∧h.IsList l items) where
  mem:=.head _
  live:=fun k h x=>by obtain ⟨⟨o,e,_⟩,_⟩:=x;exact ⟨o,e⟩
  frame:=fun k h h' x hk=>⟨x.1.at fun o e=>hk _ (.head _) o e,x.2.at fun o e=>hk _ (.tail _ (.head _)) o e⟩
  item:=fun A k x s Q E hx st hQ=>wpAny_nextOf_list_item st.1 st.2 hx fun h' hi hs=>hQ h' ⟨hi,st.2.extBut hs.extBut hl⟩ hs
  done:=fun A k s Q E hh hx st hQ=>wpAny_nextOf_list_end hh st.1 st.2 hx hQ
section
variable {prog:Program} {w:World} {A:Around} {E:Value→Shared→Prop} {s:Shared} {z TI TO i1 i2:Addr} {fp1 fp2:List Addr} {v1 v2:Nat→Option Value} {At1 At2:Nat→Heap→Prop}
theorem ZipAt.butZ {f1:Value} {k1 k2:Nat} {a b:Value} (Z:ZipAt z TI TO i1 i2 At1 At2 f0 k1 k2 a b h) (S1:NextS prog w i1 fp1 v1 At1) (S2:NextS prog w i2 fp2 v2 At2) (D:Apart z TI TO i1 i2 fp1 fp2) (hs:Heap.ExtBut z h h') (hz:IsZip h' z TI TO f1):ZipAt z TI TO i1 i2 At1 At2 f1 k1 k2 a b h' :=
  ⟨hz,hs _ _ D.TIz Z.TI,hs _ _ D.TOz Z.TO,S1.but Z.a1 D.z1 hs,S2.but Z.a2 D.z2 hs⟩
theorem ZipAt.but1 {k1 k1' k2:Nat} {a b:Value} (Z:ZipAt z TI TO i1 i2 At1 At2 f0 k1 k2 a b h) (S1:NextS prog w i1 fp1 v1 At1) (S2:NextS prog w i2 fp2 v2 At2) (D:Apart z TI TO i1 i2 fp1 fp2) (hs:Heap.ExtBut i1 h h') (ha:At1 k1' h'):ZipAt z TI TO i1 i2 At1 At2 f0 k1' k2 a b h' :=
  ⟨hs _ _ (fun q=>D.z1 (q ▸ S1.mem)) Z.z,hs _ _ D.TI1 Z.TI,hs _ _ (fun q=>D.o1 (q ▸ S1.mem)) Z.TO,ha,S2.but Z.a2 D.i12 hs⟩
theorem ZipAt.but2 {k1 k2 k2':Nat} {a b:Value} (Z:ZipAt z TI TO i1 i2 At1 At2 f0 k1 k2 a b h) (S1:NextS prog w i1 fp1 v1 At1) (S2:NextS prog w i2 fp2 v2 At2) (D:Apart z TI TO i1 i2 fp1 fp2) (hs:Heap.ExtBut i2 h h') (ha:At2 k2' h'):ZipAt z TI TO i1 i2 At1 At2 f0 k1 k2' a b h' :=
  ⟨hs _ _ (fun q=>D.z2 (q ▸ S2.mem)) Z.z,hs _ _ D.TI2 Z.TI,hs _ _ (fun q=>D.o2 (q ▸ S2.mem)) Z.TO,S1.but Z.a1 D.i21 hs,ha⟩
theorem ZipAt.butO {k1 k2:Nat} {a b a' b':Value} (Z:ZipAt z TI TO i1 i2 At1 At2 f0 k1 k2 a b h) (S1:NextS prog w i1 fp1 v1 At1) (S2:NextS prog w i2 fp2 v2 At2) (D:Apart z TI TO i1 i2 fp1 fp2) (hs:Heap.ExtBut TO h h') (ho:IsPair h' TO a' b'):ZipAt z TI TO i1 i2 At1 At2 f0 k1 k2 a' b' h' :=
  ⟨hs _ _ D.TOz.symm Z.z,hs _ _ D.TITO Z.TI,ho,S1.but Z.a1 D.o1 hs,S2.but Z.a2 D.o2 hs⟩
theorem zipG_item {k1 k2:Nat} {x y a b:Value} {Q:Value→Shared→Prop} (S1:NextS prog w i1 fp1 v1 At1) (S2:NextS prog w i2 fp2 v2 At2) (D:Apart z TI TO i1 i2 fp1 fp2) (Z:ZipAt z TI TO i1 i2 At1 At2 .none k1 k2 a b s.heap) (hx:v1 k1=some x) (hy:v2 k2=some y)
    (hQ:∀ (h':Heap) (T:Addr),ZipAt z TI TO i1 i2 At1 At2 (rawInt T) (k1 + 1) (k2 + 1) x y h'→IsPair h' T x y→@LE.le Nat _ s.heap.objs.size T→(∀ c o,c≠z→c≠TO→c≠i1→c≠i2→s.heap.get? c=some o→h'.get? c=some o)→Q (.ref T) { s with heap:=h' }) :
    wpAny (model prog w) A (Builtin.«zip.__next__» ⟨[.ref z],[]⟩) (fun fin s'=>∃ v,fin=.done (.ret v)∧Q v s') E s:=by
  show wpAny _ _ (field (.ref z) 2 >>= _) _ _ _
  refine wpAny_bind (wpAny_field Z.z rfl (x:=.bool false) rfl ?_)
  show wpAny _ _ (field (.ref z) 3 >>= _) _ _ _
  refine wpAny_bind (wpAny_field Z.z rfl (x:=.ref TI) rfl ?_)
  refine wpAny_bind (wpAny_seqItems Z.TI rfl ?_)
  show wpAny _ _ (Builtin.SmallTypes.ownedTupleIsFree (.ref z) >>= _) _ _ _
  refine wpAny_bind ?_
  unfold Builtin.SmallTypes.ownedTupleIsFree
  refine wpAny_bind (wpAny_field Z.z rfl (x:=.none) rfl (wpAny_pure ?_))
  simp only [if_true]
  refine wpAny_bind (wpAny_rule ?_)
  refine wpAny_bind (wpAny_field Z.z rfl (x:=.ref TO) rfl ?_)
  refine wpAny_bind (wpAny_setField_rec Z.z (by simp) fun ha hza hsa=>?_)
  have Za:=Z.butZ S1 S2 D (f1:=.ellipsis) hsa.extBut hza
  refine wpAny_bind ?_
  simp only [List.zipIdx_cons,List.zipIdx_nil,List.forIn_cons,List.forIn_nil]
  refine wpAny_bind (wpAny_bind (wpAny_onRaise ?_))
  show wpAny _ _ (Builtin.SmallTypes.nextOf (.ref i1) >>= _) _ _ _
  refine wpAny_bind (S1.item _ k1 x _ _ _ hx Za.a1 fun hb hb1 hsb=>wpAny_pure ?_)
  have Zb:=Za.but1 S1 S2 D hsb.extBut hb1
  refine wpAny_bind (wpAny_seqItems Zb.TO rfl ?_)
  refine wpAny_bind (wpAny_updateSeq_pair Zb.TO fun hc hTc hsc=>?_)
  have Zc:=Zb.butO S1 S2 D (a':=x) (b':=b) hsc.extBut hTc
  refine wpAny_bind (wpAny_letGo (wpAny_pure ?_))
  refine wpAny_bind (wpAny_bind (wpAny_onRaise ?_))
  show wpAny _ _ (Builtin.SmallTypes.nextOf (.ref i2) >>= _) _ _ _
  refine wpAny_bind (S2.item _ k2 y _ _ _ hy Zc.a2 fun hd hd2 hsd=>wpAny_pure ?_)
  have Zd:=Zc.but2 S1 S2 D hsd.extBut hd2
  refine wpAny_bind (wpAny_seqItems Zd.TO rfl ?_)
  refine wpAny_bind (wpAny_updateSeq_pair Zd.TO fun he hTe hse=>?_)
  have Ze:=Zd.butO S1 S2 D (a':=x) (b':=y) hse.extBut hTe
  refine wpAny_bind (wpAny_letGo (wpAny_pure (wpAny_pure ?_)))
  refine wpAny_bind (wpAny_seqItems Ze.TO rfl ?_)
  refine wpAny_bind (wpAny_newTuple ?_)
  show wpAny _ _ (Builtin.SmallTypes.ownedTupleHandOut (.ref z) (.ref he.objs.size) >>= _) _ _ _
  refine wpAny_bind ?_
  unfold Builtin.SmallTypes.ownedTupleHandOut
  have hzf:IsZip (he.push { cls:=.type "tuple",data:=.seq #[x,y] }) z TI TO .ellipsis:=Heap.get?_push_of_some _ Ze.z
  refine wpAny_bind (wpAny_setField_rec hzf (by simp) fun hg hzg hsg=>?_)
  replace hzg:IsZip hg z TI TO (rawInt he.objs.size):=hzg
  refine wpAny_setField_rec hzg (by simp) fun hi hzi hsi=>?_
  replace hzi:IsZip hi z TI TO (rawInt he.objs.size):=hzi
  have up:∀ c o,c≠z→he.get? c=some o→hi.get? c=some o:=fun c o hc e=>hsi.extBut _ _ hc (hsg.extBut _ _ hc (Heap.get?_push_of_some _ e))
  have hzlt:z < he.objs.size:=Heap.lt_size Ze.z
  refine wpAny_pure ⟨_,rfl,?_⟩
  refine hQ hi he.objs.size (Ze.butZ S1 S2 D (fun c o hc e=>up c o hc e) hzi) (hsi.extBut _ _ (Nat.ne_of_gt hzlt) (hsg.extBut _ _ (Nat.ne_of_gt hzlt) (Heap.get?_push_size _ rfl))) ?_ fun c o c1 c2 c3 c4 e=>up c o c1 (hse.extBut _ _ c2 (hsd.extBut _ _ c4 (hsc.extBut _ _ c2 (hsb.extBut _ _ c3 (hsa.extBut _ _ c1 e)))))
  rw [hse.1,hsd.1,hsc.1,hsb.1,hsa.1]
  exact Nat.le_refl _
theorem zipG_end {k1 k2:Nat} {a b:Value} {Q:Fin→Shared→Prop} (hh:A.handled=none) (S1:NextS prog w i1 fp1 v1 At1) (S2:NextS prog w i2 fp2 v2 At2) (D:Apart z TI TO i1 i2 fp1 fp2) (Z:ZipAt z TI TO i1 i2 At1 At2 .none k1 k2 a b s.heap) (hx:v1 k1=none)
    (hE:∀ h' e,(∀ c o,c≠z→c≠TO→c≠i1→c≠i2→s.heap.get? c=some o→h'.get? c=some o)→(∃ o,h'.get? e=some o∧o.cls=.type "StopIteration")→E (.ref e) { s with heap:=h' }) :
    wpAny (model prog w) A (Builtin.«zip.__next__» ⟨[.ref z],[]⟩) Q E s:=by
  show wpAny _ _ (field (.ref z) 2 >>= _) _ _ _
  refine wpAny_bind (wpAny_field Z.z rfl (x:=.bool false) rfl ?_)
  show wpAny _ _ (field (.ref z) 3 >>= _) _ _ _
  refine wpAny_bind (wpAny_field Z.z rfl (x:=.ref TI) rfl ?_)
  refine wpAny_bind (wpAny_seqItems Z.TI rfl ?_)
  show wpAny _ _ (Builtin.SmallTypes.ownedTupleIsFree (.ref z) >>= _) _ _ _
  refine wpAny_bind ?_
  unfold Builtin.SmallTypes.ownedTupleIsFree
  refine wpAny_bind (wpAny_field Z.z rfl (x:=.none) rfl (wpAny_pure ?_))
  simp only [if_true]
  refine wpAny_bind (wpAny_rule ?_)
  refine wpAny_bind (wpAny_field Z.z rfl (x:=.ref TO) rfl ?_)
  refine wpAny_bind (wpAny_setField_rec Z.z (by simp) fun ha hza hsa=>?_)
  have Za:=Z.butZ S1 S2 D (f1:=.ellipsis) hsa.extBut hza
  refine wpAny_bind ?_
  simp only [List.zipIdx_cons,List.zipIdx_nil,List.forIn_cons,List.forIn_nil]
  refine wpAny_bind (wpAny_bind (wpAny_onRaise ?_))
  show wpAny _ _ (Builtin.SmallTypes.nextOf (.ref i1) >>= _) _ _ _
  refine wpAny_bind (S1.done _ k1 _ _ _ hh hx Za.a1 fun hb e hsb he=>?_)
  obtain ⟨oe,hoe,hce⟩:=he
  have hzb:IsZip hb z TI TO .ellipsis:=hsb _ _ (fun q=>D.z1 (q ▸ S1.mem)) Za.z
  have hez:e≠z:=fun q=>by subst q;rw [hzb] at hoe;cases hoe;simp at hce
  exact wpAny_setField_rec hzb (by simp) fun hc _ hsc=>hE hc e (fun c o c1 _ c3 _ q=>hsc.extBut _ _ c1 (hsb _ _ c3 (hsa.extBut _ _ c1 q))) ⟨oe,hsc.extBut _ _ hez hoe,hce⟩
end
example:True:=by
  k_with "r32"=>(skip)
  trivial
theorem meets_zipTL (t l:Addr) (xs ys:Array Value) :
    Meets (Builtin.«zip.__new__» ⟨[.type "zip",.ref t,.ref l],[]⟩) (fun _ R s=>s.heap.IsTuple t xs∧s.heap.IsList l ys∧R (.ok (.ret (.ref (zt4 s.heap t l).objs.size))) { s with heap:=zt5 s.heap t l }) :=
  .of_wp fun prog w A R s h=>by
    obtain ⟨hp,g,d,tk,os⟩:=s;obtain ⟨ht,hl,h⟩:=h
    have hsub:=sub_zip
    have hT1:Heap.IsTuple (Shared.heap ⟨hp,g,d,tk,os⟩) t xs:=ht
    have hL2:Heap.IsList (Shared.heap ⟨hp.push { cls:=.type "tuple_iterator",data:=.fields #[.ref t,.int 0 0] },g,d,tk,os⟩) l ys:=Heap.IsList.push hl _
    wp_walk using wpAny_pyIter_tuple hT1,wpAny_pyIter_list hL2
    exact ⟨_,rfl,h⟩
section
variable {prog:Program} {w:World} {A:Around} {E:Value→Shared→Prop} {s:Shared}
theorem call_zipTL {t l:Addr} {xs ys:Array Value} (ht:s.heap.IsTuple t xs) (hl:s.heap.IsList l ys)
    (h:∀ h',IsZip h' (s.heap.objs.size + 4) (s.heap.objs.size + 2) (s.heap.objs.size + 3) .none→IsPair h' (s.heap.objs.size + 2) (.ref s.heap.objs.size) (.ref (s.heap.objs.size + 1))→IsPair h' (s.heap.objs.size + 3) .none .none →
      h'.IsTupleIter s.heap.objs.size t 0→h'.IsListIter (s.heap.objs.size + 1) l 0→(∀ c o,s.heap.get? c=some o→h'.get? c=some o)→Q (.ref (s.heap.objs.size + 4)) { s with heap:=h' }) :
    wpAny (model prog w) A (call (.type "zip") [.ref t,.ref l]) Q E s:=by
  refine callType_new F.called_zip (by decide) (F.typeCall_zip_2 _ _) (F.newCall_zip_2 _ _) (fun obj=>F.args_object_init_3 obj _ _) F.entry_zip_new (meets_zipTL t l xs ys) ⟨ht,hl,?_⟩
  have z1:(zt1 s.heap t).objs.size=s.heap.objs.size + 1:=Heap.size_push ..
  have z2:(zt2 s.heap t l).objs.size=s.heap.objs.size + 2:=by rw [Heap.size_push,z1]
  have z3:(zt3 s.heap t l).objs.size=s.heap.objs.size + 3:=by rw [Heap.size_push,z2]
  have z4:(zt4 s.heap t l).objs.size=s.heap.objs.size + 4:=by rw [Heap.size_push,z3]
  have up4:∀ c o,(zt4 s.heap t l).get? c=some o→(zt5 s.heap t l).get? c=some o:=fun c o e=>Heap.get?_push_of_some _ e
  have up3:∀ c o,(zt3 s.heap t l).get? c=some o→(zt5 s.heap t l).get? c=some o:=fun c o e=>up4 c o (Heap.get?_push_of_some _ e)
  have up2:∀ c o,(zt2 s.heap t l).get? c=some o→(zt5 s.heap t l).get? c=some o:=fun c o e=>up3 c o (Heap.get?_push_of_some _ e)
  have up1:∀ c o,(zt1 s.heap t).get? c=some o→(zt5 s.heap t l).get? c=some o:=fun c o e=>up2 c o (Heap.get?_push_of_some _ e)
  have g5:(zt5 s.heap t l).get? (zt4 s.heap t l).objs.size=some _:=Heap.get?_push_size _ rfl
  have g4:(zt5 s.heap t l).get? (zt3 s.heap t l).objs.size=some _:=up4 _ _ (Heap.get?_push_size _ rfl)
  have g3:(zt5 s.heap t l).get? (zt2 s.heap t l).objs.size=some _:=up3 _ _ (Heap.get?_push_size _ rfl)
  have g2:(zt5 s.heap t l).get? (zt1 s.heap t).objs.size=some _:=up2 _ _ (Heap.get?_push_size _ rfl)
  have g1:(zt5 s.heap t l).get? s.heap.objs.size=some _:=up1 _ _ (Heap.get?_push_size _ rfl)
  show _∧_
  rw [z2,z3,z4] at g5
  rw [z3] at g4
  rw [z1,z2] at g3
  rw [z1] at g2
  rw [z4]
  exact ⟨⟨_,g5,rfl⟩,h _ g5 g3 g4 ⟨_,g1,rfl,rfl⟩ ⟨_,g2,rfl,rfl⟩ fun c o e=>up1 c o (Heap.get?_push_of_some _ e)⟩
variable {z TI TO i1 i2:Addr} {fp1 fp2:List Addr} {v1 v2:Nat→Option Value} {At1 At2:Nat→Heap→Prop}
theorem pyNext_zipG {k1 k2:Nat} {x y a b:Value} {Q:Option Value→Shared→Prop} (S1:NextS prog w i1 fp1 v1 At1) (S2:NextS prog w i2 fp2 v2 At2) (D:Apart z TI TO i1 i2 fp1 fp2) (Z:ZipAt z TI TO i1 i2 At1 At2 .none k1 k2 a b s.heap) (hx:v1 k1=some x) (hy:v2 k2=some y)
    (hQ:∀ (h':Heap) (T:Addr),ZipAt z TI TO i1 i2 At1 At2 (rawInt T) (k1 + 1) (k2 + 1) x y h'→IsPair h' T x y→@LE.le Nat _ s.heap.objs.size T→(∀ c o,c≠z→c≠TO→c≠i1→c≠i2→s.heap.get? c=some o→h'.get? c=some o)→Q (some (.ref T)) { s with heap:=h' }) :
    wpAny (model prog w) A (pyNext (.ref z)) Q E s:=by
  have hT:s.TypeIs (.ref z) "zip":=⟨_,Z.z,rfl⟩
  unfold pyNext
  exact wpAny_bind (wpAny_attempt (wpAny_callSpecial?_slot (name:=Str.ofString "__next__") hT F.slot_zip_next (wpAny_call_entry F.slot_zip_next hT F.entry_zip_next (zipG_item S1 S2 D Z hx hy fun h' T a1 a2 a3 a4=>wpAny_pure (hQ h' T a1 a2 a3 a4)) (F.args_zip_next_1 _))))
theorem pyNext_zipG_end {k1 k2:Nat} {a b:Value} {Q:Option Value→Shared→Prop} (hh:A.handled=none) (S1:NextS prog w i1 fp1 v1 At1) (S2:NextS prog w i2 fp2 v2 At2) (D:Apart z TI TO i1 i2 fp1 fp2) (Z:ZipAt z TI TO i1 i2 At1 At2 .none k1 k2 a b s.heap) (hx:v1 k1=none)
    (hQ:∀ h',(∀ c o,c≠z→c≠TO→c≠i1→c≠i2→s.heap.get? c=some o→h'.get? c=some o)→Q none { s with heap:=h' }):wpAny (model prog w) A (pyNext (.ref z)) Q E s:=by
  have hT:s.TypeIs (.ref z) "zip":=⟨_,Z.z,rfl⟩
  unfold pyNext
  refine wpAny_bind (wpAny_attempt (wpAny_callSpecial?_slot (name:=Str.ofString "__next__") hT F.slot_zip_next (wpAny_call_entry F.slot_zip_next hT F.entry_zip_next (zipG_end hh S1 S2 D Z hx fun h' e hk he=>?_) (F.args_zip_next_1 _))))
  obtain ⟨o,ho,hc⟩:=he
  exact wpAny_bind (wpAny_isInstance (T:="StopIteration") (b:=true) ⟨o,ho,hc⟩ isSubtype_stop (wpAny_pure (hQ _ hk)))
end
example:True:=by
  k_with "w omega"=>((fail_if_success k_extra "r85");k_extra "y0")
  trivial
theorem zip_loop {g:Heap} {z TI TO i1 i2:Addr} {fp1 fp2:List Addr} {v1 v2:Nat→Option Value} {At1 At2:Nat→Heap→Prop} {R:Result→Shared→Prop} {kx:Nat} {m0:Str→Option Value} {tk0:Nat} 
    (MI:Nat→(Str→Option Value)→Prop) (rest:List (Addr×Obj)) (hh:A.handled=none) (S1:NextS prog w i1 fp1 v1 At1) (S2:NextS prog w i2 fp2 v2 At2) (D:Apart z TI TO i1 i2 fp1 fp2)
    (hn1:∀ i,i < n→∃ x,v1 i=some x) (hn2:∀ i,i < n→∃ x,v2 i=some x) (hend:v1 n=none)
    (F0:Fr g L h0 m0) (N0:News g L h0 rest) (hM:MI 0 m0) (Z0:∃ a b,ZipAt z TI TO i1 i2 At1 At2 .none 0 0 a b h0)
    (hf1:∀ b∈fp1,b=i1∨∃ o,(b,o)∈rest) (hf2:∀ b∈fp2,b=i2∨∃ o,(b,o)∈rest)
    (fresh:∀ c∈[z,TI,TO,i1,i2],c≠L∧g.get? c=none) (hne:∀ p∈rest,p.1∉[z,TO,i1,i2])
    (turn:∀ i x y T h tk m o1 o2,i < n→v1 i=some x→v2 i=some y→MI i m→Fr g L h m→News g L h ((T,tupO [x,y])::zipFive z TI TO i1 i2 x y o1 o2 rest) →
      wpAny (model prog w) A (assign (.Tuple elts kx pos) env (.ref T)) (fun _ s₂=>wpAny (model prog w) A (execs body env) (ZipTurn g L s (zipFive z TI TO i1 i2 x y o1 o2 rest) (MI (i + 1))) (notedBy (model prog w) A env fun e s'=>R (.error e) s') s₂) (notedBy (model prog w) A env fun e s'=>R (.error e) s') { s with heap:=h,toks:=tk })
    (done:∀ h tk m,MI n m→Fr g L h m→News g L h rest→R (.ok .next) { s with heap:=h,toks:=tk }) :
    codeAny (model prog w) A (.forLoop (.Tuple elts kx pos) (.ref z) body [] env) R { s with heap:=h0,toks:=tk0 }:=by
  have fz:=fresh z (by simp)
  have fTI:=fresh TI (by simp)
  have fTO:=fresh TO (by simp)
  have f1:=fresh i1 (by simp)
  have f2:=fresh i2 (by simp)
  have keepFr:∀ {h h':Heap} {m:Str→Option Value},Fr g L h m→(∀ c o,c≠z→c≠TO→c≠i1→c≠i2→h.get? c=some o→h'.get? c=some o)→Fr g L h' m:=fun {h h' m} F hk=>by
    obtain ⟨⟨o,es,ep,e,r⟩,kp,ab⟩:=F
    refine ⟨⟨o,es,ep,hk _ _ (Ne.symm fz.1) (Ne.symm fTO.1) (Ne.symm f1.1) (Ne.symm f2.1) e,r⟩,fun b ob q=>hk b ob (fun x=>?_) (fun x=>?_) (fun x=>?_) (fun x=>?_) (kp b ob q),ab⟩
    · rw [x,fz.2] at q;cases q
    · rw [x,fTO.2] at q;cases q
    · rw [x,f1.2] at q;cases q
    · rw [x,f2.2] at q;cases q
  have keepN:∀ {h h':Heap},News g L h rest→(∀ c o,c≠z→c≠TO→c≠i1→c≠i2→h.get? c=some o→h'.get? c=some o)→News g L h' rest:=fun {h h'} N hk p hp=>by
    have q:=hne p hp
    simp only [List.mem_cons,List.not_mem_nil,or_false,not_or] at q
    exact ⟨hk _ _ q.1 q.2.1 q.2.2.1 q.2.2.2 (N p hp).1,(N p hp).2⟩
  refine codeAny_forLoop_any (fun k s'=>∃ i h tk m a b,i≤n∧k=n + 1 - i∧s'={ s with heap:=h,toks:=tk }∧Fr g L h m∧News g L h rest∧MI i m∧ZipAt z TI TO i1 i2 At1 At2 .none i i a b h) ?_ (n + 1)
    (let ⟨a,b,Z⟩:=Z0;⟨0,h0,tk0,m0,a,b,Nat.zero_le _,rfl,rfl,F0,N0,hM,Z⟩)
  rintro k s' ⟨i,h,tk,m,a,b,hi,rfl,rfl,F,N,hMi,Z⟩
  by_cases hlt:i < n
  · obtain ⟨x,hx⟩:=hn1 i hlt
    obtain ⟨y,hy⟩:=hn2 i hlt
    refine pyNext_zipG S1 S2 D Z hx hy fun h' T Z' hT hTs hk=>?_
    have F':=keepFr F hk
    have N':=keepN N hk
    refine wpAny_letOwnedTupleGo_zip Z'.z fun h'' hz'' hs''=>?_
    have Z'':=Z'.butZ S1 S2 D hs''.extBut hz''
    have hTz:T≠z:=fun q=>by rw [q] at hTs;exact Nat.lt_irrefl _ (Nat.lt_of_lt_of_le (Heap.lt_size Z.z) hTs)
    have hTL:T≠L:=fun q=>by rw [q] at hTs;exact Nat.lt_irrefl _ (Nat.lt_of_lt_of_le F.ns.lt hTs)
    have hTg:g.get? T=none:=by
      cases q:g.get? T with
      | none=>rfl
      | some o=>exact absurd (Nat.lt_of_lt_of_le (Heap.lt_size (F.keep _ _ q)) hTs) (Nat.lt_irrefl _)
    have hk2:∀ c o,c≠z→c≠TO→c≠i1→c≠i2→h'.get? c=some o→h''.get? c=some o:=fun c o c1 _ _ _ e=>hs''.extBut _ _ c1 e
    obtain ⟨o1,ho1⟩:=S1.live _ _ Z''.a1
    obtain ⟨o2,ho2⟩:=S2.live _ _ Z''.a2
    have NN:News g L h'' ((T,tupO [x,y])::zipFive z TI TO i1 i2 x y o1 o2 rest) :=
      fc ⟨hs''.extBut _ _ hTz hT,hTL,hTg⟩ (fc ⟨hz'',fz⟩ (fc ⟨Z''.TI,fTI⟩ (fc ⟨Z''.TO,fTO⟩ (fc ⟨ho1,f1⟩ (fc ⟨ho2,f2⟩ (keepN N' hk2))))))
    refine wpAny_mono (turn i x y T h'' tk m o1 o2 hlt hx hy hMi (keepFr F' hk2) NN) (fun _ s₂ h₂=>wpAny_mono h₂ (fun f s₃ h₃=>?_) fun _ _ q=>q) fun _ _ q=>q
    obtain ⟨rfl,h₃,tk₃,m₃,rfl,F₃,hM₃,hkp⟩:=h₃
    have N₃:News g L h₃ rest:=fun p hp=>⟨hkp p (.tail _ (.tail _ (.tail _ (.tail _ (.tail _ hp))))),(N p hp).2⟩
    refine ⟨n + 1 - (i + 1),by omega,i + 1,h₃,tk₃,m₃,x,y,hlt,rfl,rfl,F₃,N₃,hM₃,⟨hkp _ (.head _),hkp _ (.tail _ (.head _)),hkp _ (.tail _ (.tail _ (.head _))),S1.frame _ _ _ Z''.a1 fun c hc o e=>?_,S2.frame _ _ _ Z''.a2 fun c hc o e=>?_⟩⟩
    · rcases hf1 c hc with rfl|⟨oc,hoc⟩
      · rw [ho1] at e;cases e;exact hkp _ (.tail _ (.tail _ (.tail _ (.head _))))
      · have e2:=(keepN N' hk2 _ hoc).1
        rw [e2] at e;cases e
        exact hkp _ (.tail _ (.tail _ (.tail _ (.tail _ (.tail _ hoc)))))
    · rcases hf2 c hc with rfl|⟨oc,hoc⟩
      · rw [ho2] at e;cases e;exact hkp _ (.tail _ (.tail _ (.tail _ (.tail _ (.head _)))))
      · have e2:=(keepN N' hk2 _ hoc).1
        rw [e2] at e;cases e
        exact hkp _ (.tail _ (.tail _ (.tail _ (.tail _ (.tail _ hoc)))))
  · have hin:i=n:=by omega
    subst hin
    refine pyNext_zipG_end hh S1 S2 D Z hend fun h' hk=>?_
    exact wpAny_execs_nil (done h' tk m hMi (keepFr F hk) (keepN N hk))
example:True:=by
  k_with "r85"=>(skip)
  trivial
theorem isTuple_of {g:Heap} {xs:List Value} (N:News g L h news) (m:(R,tupO xs)∈news):h.IsTuple R (List.toArray xs):=⟨_,(N _ m).1,rfl,0,rfl⟩
theorem zip_for {g:Heap} {xs:List Value} {c:Nat} {kx:Nat} {m0:Str→Option Value} 
    (MI:Nat→(Str→Option Value)→Prop) (rest:List (Addr×Obj)) (hh:A.handled=none) (F:Fr g L s.heap m0) (N:News g L s.heap rest) (hR:(R,tupO xs)∈rest) (hD:(D,listOf (List.toArray ys) c)∈rest) (hx:xs.length=n) (hy:ys.length=n) (hM:MI 0 m0)
    (turn:∀ i x y T z TI TO i1 i2 h tk m o1 o2,i < n→xs[i]?=some x→ys[i]?=some y→MI i m→Fr g L h m→News g L h ((T,tupO [x,y])::zipFive z TI TO i1 i2 x y o1 o2 rest) →
      wpAny (model prog w) A (assign (.Tuple elts kx pos) env (.ref T)) (fun _ s₂=>wpAny (model prog w) A (execs body env) (ZipTurn g L s (zipFive z TI TO i1 i2 x y o1 o2 rest) (MI (i + 1))) (notedBy (model prog w) A env fun e s'=>Rr (.error e) s') s₂) (notedBy (model prog w) A env fun e s'=>Rr (.error e) s') { s with heap:=h,toks:=tk })
    (done:∀ h tk m,MI n m→Fr g L h m→News g L h rest→Rr (.ok .next) { s with heap:=h,toks:=tk }) :
    wpAny (model prog w) A (call (.type "zip") [.ref R,.ref D]) (fun xv s₁=>wpAny (model prog w) A (pyIter xv) (fun it s₂=>codeAny (model prog w) A (.forLoop (.Tuple elts kx pos) it body [] env) Rr s₂) E s₁) E s:=by
  have hRt:=isTuple_of N hR
  have hDl:=isList_of N hD
  refine call_zipTL hRt hDl fun h' hz hTI hTO h1 h2 hk=>?_
  refine wpAny_pyIter_zip hz ?_
  have hlt:∀ p∈rest,p.1 < s.heap.objs.size:=fun p hp=>Heap.lt_size (N p hp).1
  have hRlt:=hlt _ hR
  have hDlt:=hlt _ hD
  have hLlt:L < s.heap.objs.size:=F.ns.lt
  have ne0:∀ {a:Nat},a < s.heap.objs.size→∀ k,a≠s.heap.objs.size + k:=fun {a} h k=>Nat.ne_of_lt (Nat.lt_of_lt_of_le h (Nat.le_add_right _ _))
  have hg:∀ k,g.get? (s.heap.objs.size + k)=none:=fun k=>by
    cases q:g.get? (s.heap.objs.size + k) with
    | none=>rfl
    | some o=>exact absurd (Heap.lt_size (F.keep _ _ q)) (Nat.not_lt.mpr (Nat.le_add_right _ _))
  have n4:∀ (a b:Nat),a≠b→s.heap.objs.size + a≠s.heap.objs.size + b:=fun a b h q=>h (Nat.add_left_cancel q)
  have hR1:R≠s.heap.objs.size:=Nat.ne_of_lt hRlt
  have hD1:D≠s.heap.objs.size + 1:=ne0 hDlt 1
  have S1:=nextS_tuple (prog:=prog) (w:=w) (i:=s.heap.objs.size) (t:=R) (items:=List.toArray xs) hR1
  have S2:=nextS_list (prog:=prog) (w:=w) (i:=s.heap.objs.size + 1) (l:=D) (items:=List.toArray ys) hD1
  have z0:∀ k,s.heap.objs.size + (k + 1)≠s.heap.objs.size:=fun k q=>Nat.succ_ne_zero k (Nat.add_left_cancel (q.trans (Nat.add_zero _).symm))
  have mem2:∀ {a b c:Nat},a≠b→a≠c→a∉[b,c]:=fun {a b c} h1 h2 hm=>by
    rcases List.mem_cons.mp hm with q|q
    · exact h1 q
    · exact h2 (List.mem_singleton.mp q)
  have D5:Apart (s.heap.objs.size + 4) (s.heap.objs.size + 2) (s.heap.objs.size + 3) s.heap.objs.size (s.heap.objs.size + 1) [s.heap.objs.size,R] [s.heap.objs.size + 1,D] :=
    ⟨mem2 (z0 3) (ne0 hRlt 4).symm,mem2 (n4 4 1 (by decide)) (ne0 hDlt 4).symm,mem2 (z0 2) (ne0 hRlt 3).symm,mem2 (n4 3 1 (by decide)) (ne0 hDlt 3).symm,mem2 (z0 0).symm (Nat.ne_of_lt hDlt).symm,mem2 (z0 0) (ne0 hRlt 1).symm,
      n4 2 4 (by decide),n4 3 4 (by decide),n4 2 3 (by decide),z0 1,n4 2 1 (by decide)⟩
  refine zip_loop (tk0:=s.toks) (n:=n) MI rest hh S1 S2 D5 (fun i hi=>⟨_,List.getElem?_toArray .. ▸ List.getElem?_eq_getElem (by omega)⟩) (fun i hi=>⟨_,List.getElem?_toArray .. ▸ List.getElem?_eq_getElem (by omega)⟩) (by simp [hx]) (F.keeps hk) (fun p hp=>⟨hk _ _ (N p hp).1,(N p hp).2⟩) hM
    ⟨_,_,hz,hTI,hTO,⟨h1,hRt.at fun o e=>hk _ o e⟩,⟨h2,hDl.at fun o e=>hk _ o e⟩⟩ (fun b hb=>?_) (fun b hb=>?_) (fun b hb=>?_) (fun p hp=>?_) (fun i x y T h tk m o1 o2 hi hx hy hMi F' N'=>turn i x y T _ _ _ _ _ h tk m o1 o2 hi (by simpa using hx) (by simpa using hy) hMi F' N') done
  · rcases List.mem_cons.mp hb with rfl|hb
    · exact .inl rfl
    · rw [List.mem_singleton.mp hb];exact .inr ⟨_,hR⟩
  · rcases List.mem_cons.mp hb with rfl|hb
    · exact .inl rfl
    · rw [List.mem_singleton.mp hb];exact .inr ⟨_,hD⟩
  · have hcase:b=s.heap.objs.size + 4∨b=s.heap.objs.size + 2∨b=s.heap.objs.size + 3∨b=s.heap.objs.size + 0∨b=s.heap.objs.size + 1:=by simpa using hb
    rcases hcase with rfl|rfl|rfl|rfl|rfl <;> exact ⟨(ne0 hLlt _).symm,hg _⟩
  · have hp':=hlt p hp
    intro hm
    have hcase:p.1=s.heap.objs.size + 4∨p.1=s.heap.objs.size + 3∨p.1=s.heap.objs.size + 0∨p.1=s.heap.objs.size + 1:=by simpa using hm
    rcases hcase with q|q|q|q <;> exact ne0 hp' _ q
example:True:=by
  k_with "w omega"=>((fail_if_success k_extra "r86");k_extra "y0")
  trivial
theorem OfH.useL {f:Addr} {rs:List Value} (S:OfH w base n f vs objs (fun h v h'=>LstNew rs h v h') (fun _=>False))
    {g:Heap} 
    (hvs:vs'=vs) (hA:A.handled=none) (hfr:A.frames=some (env::outer)) (hd:A.depth≤900 - 6 * n) (hu:A.units≤9000 - 99 * n)
    (O:Objs base outer h0 objs) (B:Below A₀ base outer g) (F:Fr g L s.heap m) (N:News g L s.heap news) (hL:h0.get? L=none) (K0:∀ b o,h0.get? b=some o→s.heap.get? b=some o) (hf:env.frame=some L) (hk:env.scope.kind=.function)
    (h:∀ D c h' tk,Fr g L h' m→News g L h' ((D,listOf (List.toArray rs) c)::news)→(∀ p∈news,p.1 < D)→@LT.lt Nat _ L D→Q (.ref D) { s with heap:=h',toks:=tk }) :
    wpAny (model PySem.Challenge.rw_nz0031_01.row.prog w) A (call (.ref f) vs') Q E s :=
  S.use hvs hA hfr hd hu O B F N hL K0 hf hk (fun v h' tk o F' N'=>by
    obtain ⟨D,c,e,hD,hg⟩:=o
    subst e
    have q:=news_made F N N' hD hg
    exact h D c h' tk F' q.1 q.2 (Nat.lt_of_lt_of_le F.ns.lt hD)) (fun _ _ _ _ _ f _ _ _ _=>f.elim)
theorem item_listZ {c:Nat} 
    (N:News h₀ L s.heap news) (hm:(S,listOf (List.toArray vs) c)∈news) (hl:vs.length≤20) (h0:0≤k) (h1:k < vs.length) (h:∀ v,vs[k.toNat]?=some v→Q v s)
    (hs:subscripted slice false (.ref S) (.int k u)=operate [.ref S,.int k u] (getItem (.ref S) (.int k u)):=by with_unfolding_all rfl) (hg:∀ r,letTemporaryGo value (.ref S) r=pure ():=by intro _;with_unfolding_all rfl) :
    wpAny (model prog w) A (subscriptTail value slice (.ref S) (.int k u)) Q E s:=by
  have hk:k.toNat < vs.length:=by omega
  exact item_listL (isList_of N hm) h0 (by omega) (List.getElem?_eq_getElem hk) (h _ (List.getElem?_eq_getElem hk)) hs hg
theorem exc_useX {g:Heap} 
    (hA:A.handled=none) (hfr:A.frames=some (env::outer)) (hd:A.depth≤900 - 6 * 8) (hu:A.units≤9000 - 99 * 8)
    (W:Wd w base) (B:Below A₀ base outer g) (F:Fr g L s.heap m) (N:News g L s.heap news) (K0:∀ b o,h0.get? b=some o→s.heap.get? b=some o) (hf:env.frame=some L) (hk:env.scope.kind=.function)
    (h:∀ e dd h' tk,Fr g L h' m→News g L h' news→FlN h0 h' e dd sp→(∀ b o,h0.get? b=some o→h'.get? b=some o)→Q (.ref e) { s with heap:=h',toks:=tk }) :
    wpAny (model PySem.Challenge.rw_nz0031_01.row.prog w) A (call (.ref 116) [.str what t1,.int sp t2]) Q E s:=by
  refine wpAny_ak hA hfr hd hu (exc_ok w _ base s Q E what sp t1 t2 W (below_at B F hf hk) fun e h' tk dd k he hdd sd=>h e dd h' tk (fr_keep F k fun _ h=>nomatch h) (fun p hp=>⟨k _ _ (N p hp).1 (fun h=>nomatch h),(N p hp).2⟩) ?_ (fun b o q=>k b o (K0 b o q) (fun h=>nomatch h)))
  obtain ⟨hw,tw,vw,hs,ts,t,n,hdo,vs,h1,h2,h3⟩:=sd
  exact ⟨kts_none K0 he,kts_none K0 hdd,⟨hw,tw,vw,hs,ts,t,n,_,hdo⟩,vs,h1,h2,h3⟩
theorem leave_newX {g:Heap} {Q:Unit→Shared→Prop} {e:Addr} 
    (K0:∀ b o,h0.get? b=some o→s.heap.get? b=some o) (B:Below A₀ base outer g) (F:Fr g L s.heap m) (hL:h0.get? L=none) (fl:FlN h0 s.heap e dd sp) (hfr:A.frames=some (env::outer)) (hf:env.frame=some L) (hk:env.scope.kind=.function)
    (hQ:∀ h' tk,RelS (FrOf outer) h0 h'→h'.FunFrames base outer→FlT h0 h' e dd sp→Q () { s with heap:=h',toks:=tk }) :
    wpAny (model PySem.Challenge.rw_nz0031_01.row.prog w) A (leaving env (.ref e)) Q E s :=
  leave_own hfr hf (below_at (n:=0) B F hf hk).frames ⟨fun b o q _=>K0 b o q,fun b o q=>⟨o.slots,K0 b o q⟩⟩ hL (.inl fl) hQ
theorem for_newX {g:Heap} {e:Addr} 
    (K0:∀ b o,h0.get? b=some o→s.heap.get? b=some o) (B:Below A₀ base outer g) (F:Fr g L s.heap m) (hL:h0.get? L=none) (fl:FlN h0 s.heap e dd sp) (hfr:A.frames=some (env::outer)) (hf:env.frame=some L) (hk:env.scope.kind=.function)
    (hQ:∀ h' tk,RelS (FrOf outer) h0 h'→h'.FunFrames base (env::outer)→FlT h0 h' e dd sp→Q (.ref e) { s with heap:=h',toks:=tk }) :
    notedBy (model PySem.Challenge.rw_nz0031_01.row.prog w) A env Q (.ref e) s :=
  noteFrame_ok hfr hf (below_at (n:=0) B F hf hk).frames ⟨fun b o q _=>K0 b o q,fun b o q=>⟨o.slots,K0 b o q⟩⟩ hL (.inl fl) fun h' r _ ff fl'=>hQ h' s.toks r ff fl'
theorem came_back {e:Addr} (hff:s.heap.FunFrames base (env::outer)) (r:RelS (FrOf outer) h0 s.heap) (fl:FlT h0 s.heap e dd sp)
    (hE:∀ h' tk,RelS (FrOf outer) h0 h'→h'.FunFrames base (env::outer)→FlT h0 h' e dd sp→E (.ref e) { s with heap:=h',toks:=tk }):cameBackBy (model PySem.Challenge.rw_nz0031_01.row.prog w) A env E (.ref e) s:=by
  unfold cameBackBy
  have fl':=fl
  obtain ⟨_,_,_,vs,T,oT,ts,a1,a2,a3,_⟩:=fl'
  refine wpAny_bind (wpAny_field a1 rfl a3 ?_)
  rw [if_neg (by simp)]
  exact setFlight_ok (l:=env::outer) hff r fl env.frame fun h' r' _ f' fl'=>hE h' s.toks r' f' fl'
theorem elM_of {p q:Int} (h1:m (Str.ofString "some")=.some (.ref V)) (h2:m (Str.ofString "spot")=.some (.int 5 t1)) (h3:m (Str.ofString "place")=.some (.int p t)) (e:p=q):(m (Str.ofString "some")=.some (.ref V)∧m (Str.ofString "spot")=.some (.int 5 t1)∧∃ t,m (Str.ofString "place")=.some (.int q t)):=by subst e;exact ⟨h1,h2,t,h3⟩
theorem stay_of (hN:∀ p∈hid,h0.get? p.1=some p.2∧base.get? p.1=none∧p.1∉outer.filterMap (·.frame)) (F:Fr (hideAll h0 (hid.map (·.1))) L h m) (N:News (hideAll h0 (hid.map (·.1))) L h news) (hm:∀ p∈hid,p∈news):∀ b o,h0.get? b=some o→h.get? b=some o:=keepO hN F N hm
theorem ElM.of_and {q:Int} (h:m (Str.ofString "some")=.some (.ref V)∧m (Str.ofString "spot")=.some (.int 5 t1)∧∃ t,m (Str.ofString "place")=.some (.int q t)):ElM V t1 q m:=⟨h.1,h.2.1,h.2.2⟩
theorem pl2_of {M:Int} (e:M=(x - lo) * (hi1 - lo1 + 1)):M + y - lo1=pl2 lo lo1 hi1 x y:=by unfold pl2;rw [← e];omega
theorem pl2_bounds (h1:inR lo hi x) (h2:inR lo1 hi1 y) (hn:(n:Int)=(hi - lo + 1) * (hi1 - lo1 + 1)):0≤pl2 lo lo1 hi1 x y∧pl2 lo lo1 hi1 x y < n:=by
  unfold pl2
  obtain ⟨a,b⟩:=h1
  obtain ⟨c,d⟩:=h2
  have p:0≤(x - lo) * (hi1 - lo1 + 1):=Int.mul_nonneg (by omega) (by omega)
  have q:(x - lo + 1) * (hi1 - lo1 + 1)≤(hi - lo + 1) * (hi1 - lo1 + 1):=Int.mul_le_mul_of_nonneg_right (by omega) (by omega)
  have r:(x - lo + 1) * (hi1 - lo1 + 1)=(x - lo) * (hi1 - lo1 + 1) + (hi1 - lo1 + 1):=by rw [Int.add_mul,Int.one_mul]
  rw [hn]
  omega
section
example:True:=by
  k_with "r84"=>(skip)
  k_with "r77"=>(skip)
  k_with "r75"=>(skip)
  k_with "r78"=>(skip)
  k_with "r80"=>(skip)
  k_with "r45"=>(skip)
  k_with "r81"=>(skip)
  k_with "r82"=>(skip)
  k_with "r83"=>(skip)
  k_with "w k_lt $h:ident"=>((fail_if_success k_extra "r87");k_extra "y40")
  k_with "w k_ne"=>((fail_if_success k_extra "r88");k_extra "y41")
  k_with "w callWith ref"=>((fail_if_success k_extra "r89");k_extra "y42")
  k_with "w leaving ref"=>((fail_if_success k_extra "r90");k_extra "y43")
  k_with "y59"=>((k_here;k_dflt (first
  | (refine' leave_newX ?K_ ?B_ ?F_ ?hL_ ?fl_ rfl rfl rfl ?_;(case fl_|K_=>assumption);(case F_|B_=>k_asm);(case hL_=>exact self_none (by assumption));intro h9 tk9 r9 ff9 fl9;(try dsimp only))
  | (refine' leave_own rfl rfl ?ff_ ?rel_ ?hL_ (.inr ?fl_) ?_;(case fl_|ff_|rel_=>assumption);(case hL_=>exact self_none (by assumption));intro h9 tk9 r9 ff9 fl9;(try dsimp only)))))
  k_with "w leaving ref"=>((fail_if_success k_extra "r91");k_extra "y59")
  k_with "y60"=>((k_here;k_dflt (refine' came_back ?ff_ ?rel_ ?fl_ ?_;(case fl_|ff_|rel_=>assumption);intro h9 tk9 r9 ff9 fl9;(try dsimp only);(try dsimp only))))
  k_with "w cameBackBy"=>((fail_if_success k_extra "r92");k_extra "y60")
  k_with "y61"=>((k_dflt (refine' ⟨_,_,_,_,rfl,?X_,?fl_,?_⟩;(case fl_=>assumption);(case X_=>exact in_keeps (by k_asm) (by k_asm)))))
  k_with "w Exists"=>((fail_if_success k_extra "r93");k_extra "y61")
  k_with "m enter"=>((fail_if_success k_extra "r94");k_extra "y45")
  k_with "m enterH"=>((fail_if_success k_extra "r95");k_extra "y46")
  k_with "w subscriptTail Name Constant ref int"=>((fail_if_success k_extra "r96");k_extra "y15")
  k_with "y62"=>((k_here;k_dflt (refine' for_newX ?K_ ?B_ ?F_ ?hL_ ?fl_ rfl rfl rfl ?_;(case fl_|K_=>assumption);(case F_|B_=>k_asm);(case hL_=>exact self_none (by assumption));intro h9 tk9 r9 ff9 fl9;(try dsimp only);(try dsimp only))))
  k_with "w notedBy"=>((fail_if_success k_extra "r97");k_extra "y62")
  k_with "y63"=>((k_here;k_dflt (refine' call_zipTL ?t_ ?l_ ?_;(case t_=>exact News.isTup (by k_asm) (by k_mem));(case l_=>exact isList_of (by k_asm) (by k_mem));k_whole)))
  k_with "w call type:zip"=>((fail_if_success k_extra "r98");k_extra "y63")
  k_with "y64"=>((first|exact rfl|assumption))
  k_with "m nv"=>((fail_if_success k_extra "r99");k_extra "y64")
  k_with "y65"=>((repeat (first|exact List.forall_mem_nil _|refine fc (News.get (by k_asm) (by k_mem)) ?_)))
  k_with "m gets"=>(k_extra "y65")
  k_with "y66"=>((k_here;k_dflt (refine' item_listZ ?N_ ?m_ ?l_ ?a_ ?b_ ?_;(case N_=>k_asm);(case m_=>k_mem);(case l_=>assumption);(case a_|b_=>omega);k_whole;intro v' hv')))
  k_with "w subscriptTail Name Name ref int"=>((fail_if_success k_extra "r101");k_extra "y66")
  k_with "y67"=>((k_here;k_dflt (refine' mul_bnd ?a_ ?b_ ?_;(case a_|b_=>omega);k_whole;intro M' t' tk' eM' bM')))
  k_with "w binaryOp Mult int int"=>((fail_if_success k_extra "r102");k_extra "y67")
  k_with "y68"=>((k_here;k_dflt (first
  | (refine' exc_useX rfl rfl ?hd_ ?hu_ ?W_ ?B_ ?F_ ?N_ ?K0_ rfl rfl ?_;(case hd_|hu_=>first|exact Nat.le_of_ble_eq_true rfl|(dsimp only [Around.deeper];omega));(case W_|B_|F_|N_=>k_asm);(case K0_=>exact stay_of (by assumption) (by k_asm) (by k_asm) (by k_extra "m mems"));k_whole;intro e' dd' h' tk' F' N' fl' K';(try dsimp only))
  | (refine' OfS.useV (listof_arr _ _ ?W_ _ _ _ _ _ _ _ _ ?m1_ ?m2_) rfl rfl rfl ?hd_ ?hu_ ?O_ ?B_ ?F_ ?N_ ?hL_ ?K0_ rfl rfl (fun h' tk' F' N'=>?_);(case m1_|m2_|W_=>assumption);k_extra "m useO")
  | (refine' OfS.useV ?S_ rfl rfl rfl ?hd_ ?hu_ ?O_ ?B_ ?F_ ?N_ ?hL_ ?K0_ rfl rfl (fun h' tk' F' N'=>?_);(case S_=>assumption);k_extra "m useO")
  | (refine' OfH.useL ?S_ rfl rfl rfl ?hd_ ?hu_ ?O_ ?B_ ?F_ ?N_ ?hL_ ?K0_ rfl rfl (fun D' c' h' tk' F' N' l1' lL'=>?_);(case S_=>assumption);k_extra "m useO";(try k_lt l1'))
  | (refine' RaiseS.use (num_int_ok _ _ _ _ _) rfl rfl rfl ?hd_ ?hu_ ?W_ ?B_ ?F_ ?N_ rfl rfl (fun v' h' tk' c' F' N'=>?_) (fun e' dd' sp' h' tk' c' r' n' ff' fl'=>c'.1.elim);k_extra "m use2";obtain ⟨c8',t8',e8'⟩:=c';subst e8'))))
  k_with "w call ref"=>((fail_if_success k_extra "r103");k_extra "y68")
  trivial
namespace Z.Z3
theorem elem1_core:elem1_P Z.w Z.base Z.objs Z.self Z.sd Z.dct Z.node Z.nName Z.nodes Z.A Z.R Z.V Z.P0 Z.tsd Z.t0 Z.t1 Z.t2 Z.u0 Z.u1 Z.vsV Z.cV Z.cN Z.lo Z.hi Z.Z3.x Z.tx Z.outer Z.Q Z.E Z.s:=by
  intro W items ms m2 mn mN hit mA mV mR m0 hV hV2 b0 b1 b2 hn hvs
  intro B O hret hflt
  have hN:=O.sub [(self,instObj 356 sd),(sd,sdO w dct tsd),(node,tupO [.str (Str.ofString "index") t0,.int 5 t1,.ref nName,.ref nodes]),(nodes,listOf (List.toArray items) cN),(A,tupO [.ref R,.ref V]),(V,listOf (List.toArray vsV) cV),(R,tupO [.ref P0]),(P0,tupO [.int lo u0,.int hi u1])]
    (fc ms (fc m2 (fc mn (fc mN (fc mA (fc mV (fc mR (fc m0 (List.forall_mem_nil _)))))))))
  obtain ⟨v0,rfl⟩:=ln1 hit
  k_extra "m fill"
  w_strict (
    k_extra "m enterH"
    (have eLN:@Eq Nat s.heap.objs.size s.heap.objs.size:=rfl)
    repeat' ((fail_if_success (with_reducible show wpAny _ _ (exec (Stmt.For _ _ _ _ _) _) _ _ _));first|(k_unfold;(try dsimp only))|(k_end;wrow_close)|walk1|(dsimp only;walk1)|(leave1;walk_say "STEP leave1";try dsimp only)|fail "no step")
    refine wpAny_For ?_ (fun _=>by with_unfolding_all rfl)
    repeat' ((fail_if_success (with_reducible show wpAny _ _ (call (Value.type "zip") _) _ _ _));first|(k_unfold;(try dsimp only))|(k_end;wrow_close)|walk1|(dsimp only;walk1)|(leave1;walk_say "STEP leave1";try dsimp only)|fail "no step")
    (refine' zip_for (n:=1) (fun i m=>ElM V t1 (if i=0 then 0 else x - lo) m∧(i=0∨inR lo hi x)) _ rfl ?F_ ?N_ ?hR_ ?hD_ ?l1_ ?l2_ ?hM_ ?turn_ ?done_)
    (case F_|N_=>k_asm)
    (case hR_|hD_=>k_mem)
    (case l1_|l2_=>exact rfl)
    (case hM_=>exact ⟨⟨rfl,rfl,_,rfl⟩,.inl rfl⟩)
    (case done_ =>
      intro h9 tk9 m9 hMi F9 N9
      obtain ⟨⟨e1,e2,tp,e3⟩,hin⟩:=hMi
      (have hin2:inR lo hi x:=hin.resolve_left (by decide))
      (have e4:m9 (Str.ofString "place")=some (.int (x - lo) tp):=e3)
      clear e3 hin
      obtain ⟨q1,q2⟩:=hin2
      (try dsimp only)
      (try k_fold)
      k_steps
      all_goals (try dsimp (config:={zetaDelta:=true}) only)
      all_goals first
        | exact hret _ _ _ ⟨⟨q1,q2⟩,by assumption⟩ (keepH hN (by k_asm) (by k_asm) (by k_extra "m mems")))
    (case turn_ =>
      intro i9 x9 y9 T9 z9 TI9 TO9 i19 i29 h9 tk9 m9 o19 o29 hi9 hx9 hy9 hMi F9 N9
      (have ei:i9=0:=by omega)
      subst ei
      (have ex:x9=.ref P0:=by simpa using hx9.symm)
      (have ey:y9=.int x tx:=by simpa using hy9.symm)
      subst ex ey
      obtain ⟨⟨e1,e2,tp,e3⟩,_⟩:=hMi
      (have e4:m9 (Str.ofString "place")=some (.int 0 tp):=e3)
      clear e3 hx9 hy9
      (try simp only [zipFive] at N9)
      (try dsimp only)
      k_steps
      all_goals (try dsimp (config:={zetaDelta:=true}) only)
      all_goals first
        | exact hflt _ _ _ _ _ ⟨fun hq=>by (have q1:=hq.1;have q2:=hq.2;omega),rfl⟩ (by assumption) (by assumption) (by assumption)
        | ((refine' ⟨rfl,_,_,_,rfl,?F_,⟨ElM.of_and (elM_of ?e1_ ?e2_ ?e3_ ?e_),.inr ⟨?a_,?b_⟩⟩,?K_⟩)
           (case F_=>k_asm)
           (case e1_=>exact e1)
           (case e2_=>exact e2)
           (case e3_=>exact rfl)
           (case e_=>(show _=x - lo;omega))
           (case a_|b_=>omega)
           (case K_=>k_extra "m gets"))))
end Z.Z3
namespace Z.Z3
theorem elem2_core:elem2_P Z.w Z.base Z.objs Z.self Z.sd Z.dct Z.node Z.nName Z.nodes Z.A Z.R Z.V Z.P0 Z.P1 Z.tsd Z.t0 Z.t1 Z.t2 Z.u0 Z.u1 Z.u2 Z.u3 Z.vsV Z.cV Z.cN Z.lo Z.hi Z.lo1 Z.hi1 Z.Z3.x Z.y Z.tx Z.ty Z.outer Z.Q Z.E Z.s:=by
  intro W items ms m2 mn mN hit mA mV mR m0 m1 hV hV2 b0 b1 b2 b3 b4 b5 w0 w1 hn hvs
  intro B O hret hflt
  have hN:=O.sub [(self,instObj 356 sd),(sd,sdO w dct tsd),(node,tupO [.str (Str.ofString "index") t0,.int 5 t1,.ref nName,.ref nodes]),(nodes,listOf (List.toArray items) cN),(A,tupO [.ref R,.ref V]),(V,listOf (List.toArray vsV) cV),(R,tupO [.ref P0,.ref P1]),(P0,tupO [.int lo u0,.int hi u1]),(P1,tupO [.int lo1 u2,.int hi1 u3])]
    (fc ms (fc m2 (fc mn (fc mN (fc mA (fc mV (fc mR (fc m0 (fc m1 (List.forall_mem_nil _))))))))))
  obtain ⟨v0,v1,rfl⟩:=ln2 hit
  k_extra "m fill"
  w_strict (
    k_extra "m enterH"
    (have eLN:@Eq Nat s.heap.objs.size s.heap.objs.size:=rfl)
    repeat' ((fail_if_success (with_reducible show wpAny _ _ (exec (Stmt.For _ _ _ _ _) _) _ _ _));first|(k_unfold;(try dsimp only))|(k_end;wrow_close)|walk1|(dsimp only;walk1)|(leave1;walk_say "STEP leave1";try dsimp only)|fail "no step")
    refine wpAny_For ?_ (fun _=>by with_unfolding_all rfl)
    repeat' ((fail_if_success (with_reducible show wpAny _ _ (call (Value.type "zip") _) _ _ _));first|(k_unfold;(try dsimp only))|(k_end;wrow_close)|walk1|(dsimp only;walk1)|(leave1;walk_say "STEP leave1";try dsimp only)|fail "no step")
    (refine' zip_for (n:=2) (fun i m=>ElM V t1 (if i=0 then 0 else if i=1 then x - lo else pl2 lo lo1 hi1 x y) m∧(i=0∨inR lo hi x)∧(i≤1∨inR lo1 hi1 y)) _ rfl ?F_ ?N_ ?hR_ ?hD_ ?l1_ ?l2_ ?hM_ ?turn_ ?done_)
    (case F_|N_=>k_asm)
    (case hR_|hD_=>k_mem)
    (case l1_|l2_=>exact rfl)
    (case hM_=>exact ⟨⟨rfl,rfl,_,rfl⟩,.inl rfl,.inl (by decide)⟩)
    (case done_ =>
      intro h9 tk9 m9 hMi F9 N9
      obtain ⟨⟨e1,e2,tp,e3⟩,hin,hin'⟩:=hMi
      (have hin2:inR lo hi x:=hin.resolve_left (by decide))
      (have hin3:inR lo1 hi1 y:=hin'.resolve_left (by decide))
      (have e4:m9 (Str.ofString "place")=some (.int (pl2 lo lo1 hi1 x y) tp):=e3)
      clear e3 hin hin'
      (have hb:=pl2_bounds hin2 hin3 hV2)
      obtain ⟨p0,p1⟩:=hb
      (try dsimp only)
      (try k_fold)
      k_steps
      all_goals (try dsimp (config:={zetaDelta:=true}) only)
      all_goals first
        | exact hret _ _ _ ⟨⟨hin2,hin3⟩,by assumption⟩ (keepH hN (by k_asm) (by k_asm) (by k_extra "m mems")))
    (case turn_ =>
      intro i9 x9 y9 T9 z9 TI9 TO9 i19 i29 h9 tk9 m9 o19 o29 hi9 hx9 hy9 hMi F9 N9
      (have ei:i9=0∨i9=1:=by omega)
      rcases ei with ei|ei
      · subst ei
        (have ex:x9=.ref P0:=by simpa using hx9.symm)
        (have ey:y9=.int x tx:=by simpa using hy9.symm)
        subst ex ey
        obtain ⟨⟨e1,e2,tp,e3⟩,_⟩:=hMi
        (have e4:m9 (Str.ofString "place")=some (.int 0 tp):=e3)
        clear e3 hx9 hy9
        (try simp only [zipFive] at N9)
        (try dsimp only)
        k_steps
        all_goals (try dsimp (config:={zetaDelta:=true}) only)
        all_goals first
          | exact hflt _ _ _ _ _ ⟨fun hq=>by (have q1:=hq.1.1;have q2:=hq.1.2;omega),rfl⟩ (by assumption) (by assumption) (by assumption)
          | ((refine' ⟨rfl,_,_,_,rfl,?F_,⟨ElM.of_and (elM_of ?e1_ ?e2_ ?e3_ ?e_),.inr ⟨?a_,?b_⟩,.inl ?c_⟩,?K_⟩)
             (case F_=>k_asm)
             (case e1_=>exact e1)
             (case e2_=>exact e2)
             (case e3_=>exact rfl)
             (case e_=>(show _=x - lo;omega))
             (case a_|b_=>omega)
             (case c_=>decide)
             (case K_=>k_extra "m gets"))
      · subst ei
        (have ex:x9=.ref P1:=by simpa using hx9.symm)
        (have ey:y9=.int y ty:=by simpa using hy9.symm)
        subst ex ey
        obtain ⟨⟨e1,e2,tp,e3⟩,hin,_⟩:=hMi
        (have hin2:inR lo hi x:=hin.resolve_left (by decide))
        (have e4:m9 (Str.ofString "place")=some (.int (x - lo) tp):=e3)
        clear e3 hx9 hy9 hin
        (have q1:lo≤x:=hin2.1)
        (have q2:x≤hi:=hin2.2)
        (try simp only [zipFive] at N9)
        (try dsimp only)
        k_steps
        all_goals (try dsimp (config:={zetaDelta:=true}) only)
        all_goals first
          | exact hflt _ _ _ _ _ ⟨fun hq=>by (have q3:=hq.2.1;have q4:=hq.2.2;omega),rfl⟩ (by assumption) (by assumption) (by assumption)
          | ((refine' ⟨rfl,_,_,_,rfl,?F_,⟨ElM.of_and (elM_of ?e1_ ?e2_ ?e3_ ?e_),.inr hin2,.inr ⟨?a_,?b_⟩⟩,?K_⟩)
             (case F_=>k_asm)
             (case e1_=>exact e1)
             (case e2_=>exact e2)
             (case e3_=>exact rfl)
             (case e_=>exact pl2_of (by assumption))
             (case a_|b_=>omega)
             (case K_=>k_extra "m gets"))))
end Z.Z3
theorem zu12:Up 12:=zu11.step (by with_unfolding_all exact Z.Z3.elem1_core)
theorem elem1 (w:World) (base:Heap) (W:Wd w base) (objs:List (Addr×Obj)) (self sd dct node nName nodes A R V P0:Addr) (tsd t0 t1 t2 u0 u1:Tok) (vsV items:List Value) (cV cN:Nat) (lo hi x:Int) (tx:Tok) (ms:(self,instObj 356 sd)∈objs) (m2:(sd,sdO w dct tsd)∈objs) (mn:(node,tupO [.str (Str.ofString "index") t0,.int 5 t1,.ref nName,.ref nodes])∈objs) (mN:(nodes,listOf (List.toArray items) cN)∈objs) (hit:items.length=1) (mA:(A,tupO [.ref R,.ref V])∈objs) (mV:(V,listOf (List.toArray vsV) cV)∈objs) (mR:(R,tupO [.ref P0])∈objs) (m0:(P0,tupO [.int lo u0,.int hi u1])∈objs) (hV:vsV.length≤20) (hV2:(vsV.length:Int)=hi - lo + 1) (b0:-30≤lo∧lo≤30) (b1:-30≤hi∧hi≤30) (b2:-50≤x∧x≤50) (hn:OfS w base 26 282 [.ref self,.ref nName] objs (fun v=>v=.ref A) (fun _=>False)) (hvs:OfH w base 28 287 [.ref self,.ref nodes] objs (fun h v h'=>LstNew [.int x tx] h v h') (fun _=>False)):OfS w base 30 320 [.ref self,.ref node] objs (fun v=>inR lo hi x∧vsV[(x - lo).toNat]?=some v) (fun sp=>¬ inR lo hi x∧sp=5) :=
  fun outer Q E s=>zu12.at { Zd with w,base,objs,self,sd,dct,A,R,V,P0,tsd,t0,t1,t2,u0,u1,vsV,cV,lo,hi,outer,Q,E,s,r:={ Zd.r with node,nName,nodes,cN,x_1:=x,tx } } W items ms m2 mn mN hit mA mV mR m0 hV hV2 b0 b1 b2 hn hvs
theorem zu13:Up 13:=zu12.step (by with_unfolding_all exact Z.Z3.elem2_core)
theorem elem2 (w:World) (base:Heap) (W:Wd w base) (objs:List (Addr×Obj)) (self sd dct node nName nodes A R V P0 P1:Addr) (tsd t0 t1 t2 u0 u1 u2 u3:Tok) (vsV items:List Value) (cV cN:Nat) (lo hi lo1 hi1 x y:Int) (tx ty:Tok) (ms:(self,instObj 356 sd)∈objs) (m2:(sd,sdO w dct tsd)∈objs) (mn:(node,tupO [.str (Str.ofString "index") t0,.int 5 t1,.ref nName,.ref nodes])∈objs) (mN:(nodes,listOf (List.toArray items) cN)∈objs) (hit:items.length=2) (mA:(A,tupO [.ref R,.ref V])∈objs) (mV:(V,listOf (List.toArray vsV) cV)∈objs) (mR:(R,tupO [.ref P0,.ref P1])∈objs) (m0:(P0,tupO [.int lo u0,.int hi u1])∈objs) (m1:(P1,tupO [.int lo1 u2,.int hi1 u3])∈objs) (hV:vsV.length≤20) (hV2:(vsV.length:Int)=(hi - lo + 1) * (hi1 - lo1 + 1)) (b0:-30≤lo∧lo≤30) (b1:-30≤hi∧hi≤30) (b2:-50≤x∧x≤50) (b3:-30≤lo1∧lo1≤30) (b4:-30≤hi1∧hi1≤30) (b5:-50≤y∧y≤50) (w0:hi - lo + 1≤10) (w1:hi1 - lo1 + 1≤10) (hn:OfS w base 26 282 [.ref self,.ref nName] objs (fun v=>v=.ref A) (fun _=>False)) (hvs:OfH w base 28 287 [.ref self,.ref nodes] objs (fun h v h'=>LstNew [.int x tx,.int y ty] h v h') (fun _=>False)):OfS w base 30 320 [.ref self,.ref node] objs (fun v=>(inR lo hi x∧inR lo1 hi1 y)∧vsV[(pl2 lo lo1 hi1 x y).toNat]?=some v) (fun sp=>¬ (inR lo hi x∧inR lo1 hi1 y)∧sp=5) :=
  fun outer Q E s=>zu13.at { Zd with w,base,objs,self,sd,dct,A,R,V,P0,P1,tsd,t0,t1,t2,u0,u1,u2,vsV,cV,lo,hi,lo1,hi1,outer,Q,E,s,r:={ Zd.r with node,nName,nodes,u3,cN,x_1:=x,y,tx,ty } } W items ms m2 mn mN hit mA mV mR m0 m1 hV hV2 b0 b1 b2 b3 b4 b5 w0 w1 hn hvs
end
section
example:True:=by
  k_with "r91"=>(skip)
  k_with "r27"=>(skip)
  k_with "r87"=>(skip)
  k_with "r88"=>(skip)
  k_with "r97"=>(skip)
  k_with "y69"=>((have hc9:=allLt_of $h;dsimp only [AllLt] at hc9))
  k_with "w k_lt $h:ident"=>((fail_if_success k_extra "r104");k_extra "y69")
  k_with "y70"=>((refine neN ?_;(try dsimp only);(first|(with_reducible assumption)|exact Nat.ne_of_lt (all_lt (by with_reducible assumption) (by k_mem))|exact Nat.ne_of_gt (all_lt (by with_reducible assumption) (by k_mem))|(with_reducible exact Ne.symm (by assumption))|(with_reducible exact Nat.ne_of_lt (by assumption))|(with_reducible exact Nat.ne_of_gt (by assumption))|omega)))
  k_with "w k_ne"=>((fail_if_success k_extra "r105");k_extra "y70")
  k_with "y71"=>((k_here;k_dflt (first
  | (refine' leave_newX ?K_ ?B_ ?F_ ?hL_ ?fl_ rfl rfl rfl ?_;(case fl_|K_=>assumption);(case F_|B_=>k_asm);(case hL_=>exact self_none (by first|exact rfl|assumption));intro h9 tk9 r9 ff9 fl9;(try dsimp only))
  | (refine' leave_own rfl rfl ?ff_ ?rel_ ?hL_ (.inr ?fl_) ?_;(case fl_|ff_|rel_=>assumption);(case hL_=>exact self_none (by first|exact rfl|assumption));intro h9 tk9 r9 ff9 fl9;(try dsimp only)))))
  k_with "w leaving ref"=>((fail_if_success k_extra "r106");k_extra "y71")
  k_with "y72"=>(((case hd_|hu_=>first|exact Nat.le_of_ble_eq_true rfl|(dsimp only [Around.deeper];omega));(case O_=>assumption);(case B_|F_|N_=>k_asm);(case hL_=>exact self_none (by first|exact rfl|assumption));(case K0_=>exact keepO (by assumption) (by assumption) (by assumption) (by k_extra "m mems"));k_whole))
  k_with "m useO"=>((fail_if_success k_extra "r107");k_extra "y72")
  k_with "y73"=>((k_here;k_dflt (refine' for_newX ?K_ ?B_ ?F_ ?hL_ ?fl_ rfl rfl rfl ?_;(case fl_|K_=>assumption);(case F_|B_=>k_asm);(case hL_=>exact self_none (by first|exact rfl|assumption));intro h9 tk9 r9 ff9 fl9;(try dsimp only);(try dsimp only))))
  k_with "w notedBy"=>((fail_if_success k_extra "r108");k_extra "y73")
  trivial
namespace Z
theorem elem1x_core:elem1x_P Z.w Z.base Z.objs Z.self Z.sd Z.dct Z.node Z.nName Z.nodes Z.A Z.R Z.V Z.P0 Z.tsd Z.t0 Z.t1 Z.t2 Z.u0 Z.u1 Z.vsV Z.cV Z.cN Z.lo Z.hi Z.outer Z.Q Z.E Z.s:=by
  intro W items ms m2 mn mN hit mA mV mR m0 hV b0 b1 hn
  intro B O hret hflt
  have hN:=O.sub [(self,instObj 356 sd),(sd,sdO w dct tsd),(node,tupO [.str (Str.ofString "index") t0,.int 5 t1,.ref nName,.ref nodes]),(nodes,listOf (List.toArray items) cN),(A,tupO [.ref R,.ref V]),(V,listOf (List.toArray vsV) cV),(R,tupO [.ref P0]),(P0,tupO [.int lo u0,.int hi u1])]
    (fc ms (fc m2 (fc mn (fc mN (fc mA (fc mV (fc mR (fc m0 (List.forall_mem_nil _)))))))))
  obtain ⟨v0,v1,rfl⟩:=ln2 hit
  k_extra "m fill"
  w_strict (
    k_extra "m enterH"
    (have eLN:@Eq Nat s.heap.objs.size s.heap.objs.size:=rfl)
    repeat' ((fail_if_success (with_reducible show wpAny _ _ (exec (Stmt.For _ _ _ _ _) _) _ _ _));first|(k_unfold;(try dsimp only))|(k_end;wrow_close)|walk1|(dsimp only;walk1)|(leave1;walk_say "STEP leave1";try dsimp only)|fail "no step")
    all_goals (try dsimp (config:={zetaDelta:=true}) only)
    all_goals first
      | exact hflt _ _ _ _ _ rfl (by assumption) (by assumption) (by assumption))
end Z
theorem zu14:Up 14:=zu13.step (by with_unfolding_all exact Z.elem1x_core)
theorem elem1x (w:World) (base:Heap) (W:Wd w base) (objs:List (Addr×Obj)) (self sd dct node nName nodes A R V P0:Addr) (tsd t0 t1 t2 u0 u1:Tok) (vsV items:List Value) (cV cN:Nat) (lo hi:Int) (ms:(self,instObj 356 sd)∈objs) (m2:(sd,sdO w dct tsd)∈objs) (mn:(node,tupO [.str (Str.ofString "index") t0,.int 5 t1,.ref nName,.ref nodes])∈objs) (mN:(nodes,listOf (List.toArray items) cN)∈objs) (hit:items.length=2) (mA:(A,tupO [.ref R,.ref V])∈objs) (mV:(V,listOf (List.toArray vsV) cV)∈objs) (mR:(R,tupO [.ref P0])∈objs) (m0:(P0,tupO [.int lo u0,.int hi u1])∈objs) (hV:vsV.length≤20) (b0:-30≤lo∧lo≤30) (b1:-30≤hi∧hi≤30) (hn:OfS w base 26 282 [.ref self,.ref nName] objs (fun v=>v=.ref A) (fun _=>False)):OfS w base 30 320 [.ref self,.ref node] objs (fun _=>False) (fun sp=>sp=5) :=
  fun outer Q E s=>zu14.at { Zd with w,base,objs,self,sd,dct,A,R,V,P0,tsd,t0,t1,t2,u0,u1,vsV,cV,lo,hi,outer,Q,E,s,r:={ Zd.r with node,nName,nodes,cN } } W items ms m2 mn mN hit mA mV mR m0 hV b0 b1 hn
end
section
example:True:=by
  k_with "r89"=>(skip)
  k_with "r103"=>(skip)
  k_with "r106"=>(skip)
  k_with "r93"=>(skip)
  k_with "r102"=>(skip)
  k_with "r104"=>(skip)
  k_with "r105"=>(skip)
  k_with "r92"=>(skip)
  k_with "r108"=>(skip)
  k_with "r98"=>(skip)
  k_with "r101"=>(skip)
  k_with "y74"=>((k_here;k_dflt (refine' OfS.use ?S_ rfl rfl rfl ?hd_ ?hu_ ?O_ ?B_ ?F_ ?N_ ?hL_ ?K0_ rfl rfl (fun v' h' tk' c' F' N'=>?_) (fun e' dd' sp' h' tk' c' r' ff' fl' z'=>?_);(case S_=>assumption);k_extra "m useO")))
  k_with "w call ref"=>((fail_if_success k_extra "r109");k_extra "y74")
  trivial
namespace Z
theorem val_index_core:val_index_P Z.w Z.base Z.objs Z.self Z.sd Z.dct Z.node Z.nName Z.nodes Z.ts Z.t0 Z.t1 Z.outer Z.Q Z.E Z.s:=by
  intro W n hn okV flt m1 m2 m3 hof
  intro B O hret hflt
  have hN:=O.sub [(self,instObj 356 sd),(sd,sdO w dct ts),(node,tupO [.str (Str.ofString "index") t0,.int 5 t1,.ref nName,.ref nodes])] (fc m1 (fc m2 (fc m3 (List.forall_mem_nil _))))
  k_extra "m fill"
  w_strict (
    k_extra "m enterH"
    k_steps
    all_goals (try dsimp (config:={zetaDelta:=true}) only)
    all_goals first
      | exact hret _ _ _ (by assumption) (keepH hN (by assumption) (by assumption) (by k_extra "m mems"))
      | exact hflt _ _ _ _ _ (by assumption) (by assumption) (by assumption) (by assumption))
end Z
theorem zu15:Up 15:=zu14.step (by with_unfolding_all exact Z.val_index_core)
theorem val_index (w:World) (base:Heap) (W:Wd w base) (objs:List (Addr×Obj)) (self sd dct node nName nodes:Addr) (ts t0 t1:Tok) (n:Nat) (hn:26≤n∧n≤50) (okV:Value→Prop) (flt:Int→Prop) (m1:(self,instObj 356 sd)∈objs) (m2:(sd,sdO w dct ts)∈objs) (m3:(node,tupO [.str (Str.ofString "index") t0,.int 5 t1,.ref nName,.ref nodes])∈objs) (hof:OfS w base n 320 [.ref self,.ref node] objs okV flt):OfS w base (n + 2) 282 [.ref self,.ref node] objs okV flt :=
  fun outer Q E s=>zu15.at { Zd with w,base,objs,self,sd,dct,ts,t0,t1,outer,Q,E,s,r:={ Zd.r with node,nName,nodes } } W n hn okV flt m1 m2 m3 hof
end
section
variable {prog:Program} {w:World} {A:Around} {E:Value→Shared→Prop} {s:Shared}
theorem adjust_init (n:Nat) (hn:1≤n):Builtin.Slice.sliceAdjust none (some (-1)) 1 (n:Int)=(0,(n:Int) - 1):=by
  unfold Builtin.Slice.sliceAdjust
  have h1:¬ ((1:Int) < 0):=by omega
  have h2:((-1:Int) < 0):=by omega
  simp only [h1,h2,if_false,if_true]
  congr 1
  omega
theorem places_init (n:Nat) (hn:1≤n):Builtin.Slice.slicePlaces 0 ((n:Int) - 1) 1=n - 1:=by
  unfold Builtin.Slice.slicePlaces
  have h1:(1:Int) > 0:=by omega
  simp only [h1,if_true,Int.ediv_one]
  split <;> omega
theorem sliceApplied_init {sl:Addr} {Q:Int×Int×Nat→Shared→Prop} (hs:s.heap.IsSliceOf sl .none (.int (-1) u) .none) (hn:1≤n) (h:Q (0,1,n - 1) s) :
    wpAny (model prog w) A (Builtin.Slice.sliceApplied (.ref sl) (pure (n:Int))) Q E s:=by
  obtain ⟨os,hos,hcs,hds⟩:=id hs
  unfold Builtin.Slice.sliceApplied Builtin.Slice.sliceFields
  refine wpAny_bind (wpAny_bind (wpAny_field hos hds (x:=.none) rfl (wpAny_bind (wpAny_field hos hds (x:=.int (-1) u) rfl (wpAny_bind (wpAny_field hos hds (x:=.none) rfl (wpAny_pure ?_)))))))
  refine wpAny_bind (slicePart_none ?_)
  show wpAny _ _ (if ((1:Int) == 0)=true then _ else _) _ _ s
  rw [if_neg (by decide)]
  refine wpAny_bind (slicePart_none (wpAny_bind (slicePart_int (wpAny_bind (wpAny_pure ?_)))))
  show wpAny _ _ (match Builtin.Slice.sliceAdjust none (some (-1)) 1 (n:Int) with|(lo,hi)=>pure (lo,(1:Int),Builtin.Slice.slicePlaces lo hi 1)) _ _ s
  rw [adjust_init n hn]
  show wpAny _ _ (pure ((0:Int),(1:Int),Builtin.Slice.slicePlaces 0 ((n:Int) - 1) 1)) _ _ s
  rw [places_init n hn]
  exact wpAny_pure h
theorem pick_init2 (xs:Array Value):((List.range (xs.size - 1)).filterMap fun (k:Nat)=>xs[((0:Int) + (k:Int) * 1).toNat]?).toArray=xs.toList.dropLast.toArray:=by
  have e:(fun (k:Nat)=>xs[((0:Int) + (k:Int) * 1).toNat]?)=fun k=>xs[0 + k]?:=by
    funext k
    have:((0:Int) + (k:Int) * 1).toNat=0 + k:=by omega
    rw [this]
  rw [e]
  have:=pick_run xs 0 (xs.size - 1)
  rw [List.filterMap_map] at this
  have e2:((fun x=>xs[x]?) ∘ fun x=>0 + x)=fun k=>xs[0 + k]?:=rfl
  rw [e2] at this
  rw [this,List.dropLast_eq_take]
  simp
theorem getItem_tuple_init {t sl:Addr} (ht:IsTup s.heap t items) (hs:s.heap.IsSliceOf sl .none (.int (-1) u) .none) (hn:1≤items.size)
    (h:Q (.ref s.heap.objs.size) { s with heap:=s.heap.push { cls:=.type "tuple",data:=.seq items.toList.dropLast.toArray } })
    (hsz:items.size≤sizeLine):wpAny (model prog w) A (getItem (.ref t) (.ref sl)) Q E s:=by
  have hdrop:sizeOk (.seq items.toList.dropLast.toArray):=by
    show items.toList.dropLast.toArray.size≤sizeLine
    rw [List.size_toArray,List.length_dropLast,Array.length_toList]
    omega
  obtain ⟨os,hos,hcs,hds⟩:=id hs
  have hTs:s.TypeIs (.ref sl) "slice":=⟨os,hos,hcs⟩
  unfold getItem
  try with_reducible refine wpAny_holding ?_
  first|refine wpAny_bind (wpAny_pure ?_)|skip
  refine wpAny_bind (wpAny_sequenceKey ht.typeIs (by decide) ?_)
  refine wpAny_bind (wpAny_callSpecial?_slot (name:=Str.ofString "__getitem__") ht.typeIs slot_tuple_getitem
    (wpAny_call_entry slot_tuple_getitem ht.typeIs entry_tuple_getitem ?_ (args_tuple_getitem _ _)))
  show wpAny _ _ (Builtin.Tuple.tupleItemsOf (.ref t) >>= _) _ _ s
  refine wpAny_bind (tupleItemsOf_ ht ?_)
  refine wpAny_bind (wpAny_typeOf hTs ?_)
  rw [if_pos (by decide)]
  refine wpAny_bind (sliceApplied_init hs hn ?_)
  have hno:¬ (((0:Int) == 0 && (1:Int) == 1 && (items.size - 1) == items.size)=true):=by
    have:((items.size - 1) == items.size)=false:=by rw [beq_eq_false_iff_ne];omega
    rw [this];simp
  show wpAny _ _ (if ((0:Int) == 0 && (1:Int) == 1 && (items.size - 1) == items.size)=true then _ else _) _ _ s
  rw [if_neg hno,pick_init2 items]
  first
    | exact wpAny_bind (m:=Builtin.Tuple.tupleExact _) (wpAny_newObj_type (wpAny_pure ⟨_,rfl,wpAny_pure h⟩) hdrop)
    | exact wpAny_bind (m:=Builtin.Tuple.tupleExact _) (wpAny_newObj_type (wpAny_bind (wpAny_pure (wpAny_pure ⟨_,rfl,wpAny_pure h⟩))) hdrop)
    | exact wpAny_bind (wpAny_bind (m:=Builtin.Tuple.tupleExact _) (wpAny_newObj_type (wpAny_pure (wpAny_pure ⟨_,rfl,wpAny_pure h⟩)) hdrop))
    | exact wpAny_bind (wpAny_bind (m:=Builtin.Tuple.tupleExact _) (wpAny_newObj_type (wpAny_pure ⟨_,rfl,wpAny_pure h⟩) hdrop))
end
section
variable {prog:Program} {w:World} {A:Around} {E:Value→Shared→Prop} {s:Shared} {h₀:Heap} {L:Addr} {m:Str→Option Value} {news:List (Addr×Obj)}
theorem tuple_init {t:Addr} 
    (F:Fr h₀ L s.heap m) (N:News h₀ L s.heap news) (ht:IsTup s.heap t vs.toArray) (h1:1≤vs.length) (h2:vs.length≤20)
    (h:∀ D h',Fr h₀ L h' m→News h₀ L h' ((D,tupO vs.dropLast)::news)→(∀ p∈news,p.1 < D)→@LT.lt Nat _ L D→Q (.ref D) { s with heap:=h' })
    (hs:subscripted slice false (.ref t) (.ref s.heap.objs.size)=operate [.ref s.heap.objs.size,.ref t] (getItem (.ref t) (.ref s.heap.objs.size)):=by with_unfolding_all rfl)
    (hg:∀ r,letTemporaryGo value (.ref t) r=pure ():=by intro _;with_unfolding_all rfl) :
    wpAny (model prog w) A (subscriptTail value slice (.ref t) (.ref s.heap.objs.size)) Q E { s with heap:=s.heap.push { cls:=.type "slice",data:=.fields #[.none,.int (-1) u,.none] } }:=by
  have ht':IsTup (s.heap.push { cls:=.type "slice",data:=.fields #[.none,.int (-1) u,.none] }) t vs.toArray:=ht.keeps fun _ _ e=>Heap.get?_push_of_some _ e
  refine subscriptTail_ops (s:={ s with heap:=s.heap.push { cls:=.type "slice",data:=.fields #[.none,.int (-1) u,.none] } }) ht'.typeIs slot_tuple_getitem.lookup
    (getItem_tuple_init ht' (Heap.IsSliceOf.new ..) (by simpa using h1) ?_ (by rw [List.size_toArray,sizeLine_eq];omega)) hs hg
  have N1:=News.push (F.push { cls:=.type "slice",data:=.fields #[.none,.int (-1) u,.none] }) (N.grown fun _ _ e=>Heap.get?_push_of_some _ e) (tupO vs.dropLast)
  rw [Heap.size_push] at N1
  show Q (.ref (s.heap.push _).objs.size) _
  rw [Heap.size_push]
  exact h _ _ ((F.push _).push _) N1 (fun p hp=>Nat.lt_succ_of_lt (Heap.lt_size (N p hp).1)) (Nat.lt_succ_of_lt F.ns.lt)
end
theorem SetL.len (h:SetL l):l.length≤3:=by
  obtain ⟨a,_,_,rfl|rfl|⟨g,_,_,rfl|rfl⟩⟩:=h <;> simp
theorem setL_from {a n:Int} (h0:-3≤a) (h1:a≤3) (h2:0≤n) (h3:n≤3):SetL (intsFrom a (a + n - a).toNat):=by
  refine ⟨a,h0,h1,?_⟩
  have e:n=0∨n=1∨n=2∨n=3:=by omega
  have e2:(a + n - a)=n:=by omega
  rw [e2]
  rcases e with rfl|rfl|rfl|rfl
  · exact .inl rfl
  · exact .inr (.inl rfl)
  · exact .inr (.inr ⟨1,by omega,by omega,.inl rfl⟩)
  · exact .inr (.inr ⟨1,by omega,by omega,.inr rfl⟩)
theorem setL_gap {a n i:Int} (h0:-3≤a) (h1:a≤3) (h2:2≤n) (h3:n≤3) (hx:(intsFrom a (a + n - a).toNat)[(intsFrom a (a + n - a).toNat).length - 1]?=some x) (i0:0≤i) (i1:i≤1):SetL ((intsFrom a (a + n - a).toNat).dropLast++[x + 1 + i]):=by
  refine ⟨a,h0,h1,.inr (.inr ?_)⟩
  have e:n=2∨n=3:=by omega
  have e2:(a + n - a)=n:=by omega
  rw [e2] at hx ⊢
  rcases e with rfl|rfl
  · have e3:a + 1=x:=by simpa [intsFrom] using hx
    refine ⟨2 + i,by omega,by omega,.inl ?_⟩
    show [a,x + 1 + i]=_
    congr 2
    omega
  · have e3:a + 1 + 1=x:=by simpa [intsFrom] using hx
    refine ⟨2 + i,by omega,by omega,.inr ?_⟩
    show [a,a + 1,x + 1 + i]=_
    congr 3
    omega
theorem pset_of {g:Heap} (N:News g L h' news) (m:(D,tupO vs)∈news) (hi:IntsAre vs l) (hs:SetL l) (hD:@LE.le Nat _ h.objs.size D):PSet h (.ref D) h':=⟨D,vs,l,rfl,hD,(N _ m).1,hi,hs⟩
theorem add_gap {t b:Addr} 
    (F:Fr h₀ L s.heap m) (N:News h₀ L s.heap news) (ht:(t,tupO vs.dropLast)∈news) (hb:(b,tupO [v])∈news) (hi:IntsAre vs l) (h1:2≤l.length) (h2:l.length≤20)
    (h:∀ D h',Fr h₀ L h' m→News h₀ L h' ((D,tupO (vs.dropLast++[v]))::news)→(∀ p∈news,p.1 < D)→Q (.ref D) { s with heap:=h' }):wpAny (model prog w) A (binaryOp .Add (.ref t) (.ref b)) Q E s:=by
  have hl:=hi.length
  refine kde_addT F N (News.isTup N ht) (News.isTup N hb) ?_ (List.cons_ne_nil _ _) ?_ rfl (fun D h' F' N' l1=>h D h' F' N' l1)
  · intro e
    have:=congrArg List.length e
    simp at this
    omega
  · simp
    omega
theorem dl_ints (h:IntsAre vs l):IntsAre vs.dropLast l.dropLast:=by
  induction h with
  | nil=>exact .nil
  | cons a t r ih=>cases r with
    | nil=>exact .nil
    | cons b u r=>exact .cons a t ih
theorem gap_ints (h:IntsAre vs l):IntsAre (vs.dropLast++[.int x t]) (l.dropLast++[x]):=(dl_ints h).append (.cons x t .nil)
theorem intsFrom_len' {a b:Int} (h:IntsAre vs (intsFrom a (b - a).toNat)) (hb:a≤b):((intsFrom a (b - a).toNat).length:Int)=b - a:=by rw [intsFrom_len];omega
section
example:True:=by
  k_with "r2"=>(skip)
  k_with "r109"=>(skip)
  k_with "r96"=>(skip)
  k_with "r107"=>(skip)
  k_with "w k_lt $h:ident"=>((fail_if_success k_extra "r110");k_extra "y69")
  k_with "w k_ne"=>((fail_if_success k_extra "r111");k_extra "y70")
  k_with "w callWith ref"=>((fail_if_success k_extra "r112");k_extra "y42")
  k_with "m useO"=>(k_extra "y23")
  k_with "y75"=>((
    (refine wpAny_call ?_);
    k_dflt (refine' enterZ ?kW_ ?kB_ [(_,_)] ?k0_ ?ho_ ?hcd_ ?hroom_ ?hbind_ ?hloc_ ?_ ?c1_ ?c2_ ?c3_ ?c4_);
    (case kW_=>assumption);
    (case kB_=>assumption);
    (case k0_=>(intro p hp;rw [List.mem_singleton.mp hp];refine ⟨?_,?_,?_⟩ <;> assumption));
    (case ho_=>k_is);
    (case hcd_=>k_is);
    (case hroom_=>exact Nat.le_of_ble_eq_true rfl);
    (case hbind_=>exact BindsTo.of_eq rfl);
    (case hloc_=>exact locs rfl);
    (case c1_=>decide);
    (case c2_=>exact rfl);
    (case c3_=>exact rfl);
    (case c4_=>exact rfl);
    intro h₁ p loose mean mg mb F N Bl X T lt tk;
    (dsimp only [List.map] at F N Bl X T);
    (try k_fold)))
  k_with "m enterF"=>(k_extra "y75")
  k_with "y76"=>(((case hd_|hu_=>exact Nat.le_of_ble_eq_true rfl);(case W_|B_|F_|N_=>k_asm);(case U_=>k_updF);(case FO_|hS_|C_=>k_asm);(case k0_|k1_=>first|exact le_cell (by with_reducible assumption) (by k_mem)|exact le_cell2 (by with_reducible assumption) (by with_reducible assumption) (by k_mem)|omega);k_whole;intro v' h' tk' o' k' P' F' N' K' O' l1' l2';(try dsimp only);obtain ⟨i',t',e',b1',b2'⟩:=P';subst e';(try dsimp only at N')))
  k_with "m usd"=>((fail_if_success k_extra "r115");k_extra "y76")
  k_with "y77"=>((k_here;k_dflt (refine' DrawS.use (draw_ok _ _ _ ?h0_ ?h1_) rfl rfl rfl ?hd_ ?hu_ ?W_ ?B_ ?F_ ?N_ ?U_ rfl rfl ?FO_ ?hS_ ?C_ ?k0_ ?k1_ ?_;(case h0_|h1_=>decide);k_extra "m usd")))
  k_with "w call ref"=>((fail_if_success k_extra "r116");k_extra "y77")
  k_with "y78"=>((k_here;(rename IsRange _ _ _ _ _ _ _ _=>hrg);k_dflt (refine' tuple_rangeL ?hh_ ?F_ ?N_ hrg ?a_ ?b_ ?_;(case hh_=>exact rfl);(case F_|N_=>k_asm);(case a_|b_=>first|exact le_cell (by with_reducible assumption) (by k_mem)|exact le_cell2 (by with_reducible assumption) (by with_reducible assumption) (by k_mem)|omega);k_whole);intro D' vs' h' tk' F' N' i' l1 lL';(try dsimp only);(try k_lt l1);(have hn':=intsFrom_len' i' (by omega))))
  k_with "w call type:tuple"=>((fail_if_success k_extra "r117");k_extra "y78")
  k_with "y79"=>((k_here;k_dflt (refine' tuple_init ?F_ ?N_ ?t_ ?a_ ?b_ ?_ ?hs_ ?ht_;(case F_|N_=>k_asm);(case t_=>exact News.isTup (by k_asm) (by k_mem));(case a_|b_=>rw [IntsAre.length (by assumption)];omega);(case hs_=>with_unfolding_all rfl);(case ht_=>kmk_pure);k_whole);intro D' h' F' N' l1 lL';(try dsimp only);(try k_lt l1)))
  k_with "w subscriptTail Name Slice ref ref"=>((fail_if_success k_extra "r118");k_extra "y79")
  k_with "y80"=>((k_here;k_dflt (refine' item_tupZlast ?t_ ?i_ ?l_ ?b_ ?_;(case t_=>exact News.isTup (by k_asm) (by k_mem));(case i_=>assumption);(case l_|b_=>first|exact le_cell (by with_reducible assumption) (by k_mem)|exact le_cell2 (by with_reducible assumption) (by with_reducible assumption) (by k_mem)|omega);k_whole;intro n' u' hn')))
  k_with "w subscriptTail Name UnaryOp ref int"=>((fail_if_success k_extra "r119");k_extra "y80")
  k_with "y81"=>((k_here;k_dflt (refine' add_gap ?F_ ?N_ ?t_ ?b_ ?i_ ?a_ ?c_ ?_;(case F_|N_=>k_asm);(case i_=>assumption);(case t_|b_=>k_mem);(case a_|c_=>first|exact le_cell (by with_reducible assumption) (by k_mem)|exact le_cell2 (by with_reducible assumption) (by with_reducible assumption) (by k_mem)|omega);k_whole);intro D' h' F' N' l1;(try dsimp only);(try k_lt l1)))
  k_with "w binaryOp Add ref ref"=>((fail_if_success k_extra "r120");k_extra "y81")
  trivial
namespace Z
theorem lset_ok_core:lset_ok_P Z.w Z.outer Z.base Z.s Z.Q Z.E Z.fd Z.D Z.o Z.k:=by
  intro W B ho FO hb hf hS C hk0 hk1 hret
  have hne:=FO.ne ho C
  k_extra "m fill"
  w_strict (
    k_extra "m enterF"
    (have eLN:@Eq Nat s.heap.objs.size s.heap.objs.size:=rfl)
    (have C2:CellsAt (hideAll s.heap [fd]) D:=C.keep fun _ e=>hideAll_get _ e (by simp [hne]))
    k_steps
    all_goals (repeat (first|k_unfold|dsimp only))
    all_goals first
      | (refine' hret _ _ _ _ _ (pset_of ?N_ ?m_ ?i_ ?s_ ?d_) (Keep.of_fr ?F_) (News.get ?N2_ ?m2_) ?O_ ?a_ ?b_;(case N_=>k_asm);(case m_=>k_mem);(case i_=>assumption);(case s_=>exact setL_from (by omega) (by omega) (by omega) (by omega));(case d_=>first|exact le_cell (by with_reducible assumption) (by k_mem)|exact le_cell2 (by with_reducible assumption) (by with_reducible assumption) (by k_mem)|omega);(case F_|N2_=>k_asm);(case m2_=>k_mem);(case O_=>assumption);(case a_|b_=>first|exact le_cell (by with_reducible assumption) (by k_mem)|exact le_cell2 (by with_reducible assumption) (by with_reducible assumption) (by k_mem)|omega))
      | (refine' hret _ _ _ _ _ (pset_of ?N_ ?m_ ?i_ ?s_ ?d_) (Keep.of_fr ?F_) (News.get ?N2_ ?m2_) ?O_ ?a_ ?b_;(case N_=>k_asm);(case m_=>k_mem);(case i_=>exact gap_ints (by assumption));(case s_=>exact setL_gap (by omega) (by omega) (by omega) (by omega) (by assumption) (by omega) (by omega));(case d_=>first|exact le_cell (by with_reducible assumption) (by k_mem)|exact le_cell2 (by with_reducible assumption) (by with_reducible assumption) (by k_mem)|omega);(case F_|N2_=>k_asm);(case m2_=>k_mem);(case O_=>assumption);(case a_|b_=>first|exact le_cell (by with_reducible assumption) (by k_mem)|exact le_cell2 (by with_reducible assumption) (by with_reducible assumption) (by k_mem)|omega)))
end Z
theorem zu16:Up 16:=zu15.step (by with_unfolding_all exact Z.lset_ok_core)
theorem lset_ok (w:World):DrawS w 14 422 (fun fd=>[.ref fd]) 4 PSet :=
  fun outer base s Q E fd D o k=>zu16.at { Zd with w,outer,base,s,Q,E,fd,D,o,k } 
end
example:True:=by
  k_with "r110"=>(skip)
  k_with "r111"=>(skip)
  trivial
theorem small1 {a b:Int} (ha:-1000≤a∧a≤1000) (hb:-1000≤b∧b≤1000):Builtin.Range.small a b 1=true:=by
  unfold Builtin.Range.small
  rw [size_range1]
  simp only [fits_long a (by omega),fits_long b (by omega),fits_long 1 (by omega),fits_long ((b - a).toNat:Int) (by omega),Bool.and_self,gt_iff_lt,Int.zero_lt_one,if_true,Int.sub_self,Int.add_zero,Bool.or_true]
namespace Z.Z2
theorem comp_feed_core:comp_feed_P Z.w Z.Z2.A Z.env Z.s Z.Q Z.E Z.L Z.x Z.c Z.PF Z.elt Z.iter Z.px Z.pos Z.scope Z.cl Z.g₀ Z.m₀:=by
  intro hPF hA hclos hcell hks hnames hx _hF hs h
  rw [eval_ListComp]
  refine wpAny_comprehension_free (use:=none) rfl hs hclos hks hnames (wpAny_mono h (fun xv s₁ h₁=>?_) fun _ _ e=>e)
  obtain ⟨R,a,b,t,u,v,g,m,news,fd,D,o,k,G,rfl,hr,_,ha,hb,hab,F,N,U,FO,hel,hQ⟩:=h₁
  refine wpAny_pyIter_range hr (small1 ha hb) ?_
  have hLlt:L < s₁.heap.objs.size:=F.ns.lt
  have nf:=N _ (updF_mem U)
  have hfd:fd < s₁.heap.objs.size:=Heap.lt_size nf.1
  generalize hIo:({ cls:=.type "range_iterator",data:=.fields #[rawInt a,rawInt (Builtin.Range.rangeSize a b 1),rawInt 1] }:Obj)=io
  have hit:IsRangeIter (s₁.heap.push io) s₁.heap.objs.size (a + ((0:Nat):Int) * 1) (((b - a).toNat:Int) - ((0:Nat):Int)) 1:=by
    have e1:a + ((0:Nat):Int) * 1=a:=by omega
    have e2:((b - a).toNat:Int) - ((0:Nat):Int)=Builtin.Range.rangeSize a b 1:=by rw [size_range1];omega
    rw [e1,e2]
    subst hIo
    exact Heap.get?_push_size _ rfl
  have hsz:(s₁.heap.push io).objs.size=s₁.heap.objs.size + 1:=Heap.size_push ..
  have below:∀ b o,s₁.heap.get? b=some o→b∉[s₁.heap.objs.size]∧b≠(s₁.heap.push io).objs.size∧b≠(s₁.heap.push io).objs.size + 1:=fun b o e=>by
    have hb:=Heap.lt_size e
    rw [hsz]
    exact ⟨fun hm=>Nat.ne_of_lt hb (List.mem_singleton.mp hm),Nat.ne_of_lt (Nat.lt_succ_of_lt hb),Nat.ne_of_lt (Nat.lt_succ_of_lt (Nat.lt_succ_of_lt hb))⟩
  have hDlt:∀ b o,s₁.heap.get? b=some o→b < (s₁.heap.push io).objs.size:=fun b o e=>by rw [hsz];exact Nat.lt_succ_of_lt (Heap.lt_size e)
  have hfr:∀ (h₃:Heap) o₃,(∀ b o,b≠fd→s₁.heap.get? b=some o→h₃.get? b=some o)→h₃.get? fd=some o₃→Fr g L h₃ m∧News g L h₃ (G o₃):=fun h₃ o₃ k₃ hf₃=>by
    have K:Keep [fd] s₁.heap h₃:=fun b o e n=>k₃ b o (by simpa using n) e
    exact ⟨fr_keep F K fun a ha=>by rw [List.mem_singleton.mp ha];exact ⟨nf.2.2,nf.2.1⟩,news_updF N U K hf₃⟩
  refine compW (s₂:={ s₁ with heap:=s₁.heap.push io }) (fun i ys h=>(∀ b o,b≠fd→s₁.heap.get? b=some o→h.get? b=some o)∧(∃ o' k',h.get? fd=some o'∧FeedO w o' D k'∧k≤k'∧k'≤k + ((c * i:Nat):Int))∧∀ y∈ys,∃ hb:Heap,@LE.le Nat _ (s₁.heap.objs.size + 3) hb.objs.size∧PF hb y h)
    (Walks.range hA s₁.heap.objs.size a 1 (b - a).toNat) (by omega) hcell hks hx hit (fun b hb=>?_) (fun i ys h h' hk hJ=>?_)
    (fun h' hk=>⟨fun b o _ e=>hk b o (Heap.get?_push_of_some _ e),⟨o,k,hk _ _ (Heap.get?_push_of_some _ nf.1),FO,Int.le_refl _,by simp⟩,fun y hy=>by simp at hy⟩) (fun i v ys h₃ tk m₃ hi hP hJ hns hm hyl hst hpl=>?_) (fun ys h' tk hJ hpl hyl=>?_)
  · rw [hsz,List.mem_singleton.mp hb]
    exact Nat.lt_succ_self _
  · obtain ⟨j1,⟨o',k',j2,j3,j4,j5⟩,j6⟩:=hJ
    have hb:=below _ _ nf.1
    refine ⟨fun b o hne e=>hk b o (below b o e).1 (below b o e).2.1 (below b o e).2.2 (j1 b o hne e),⟨o',k',hk _ _ hb.1 hb.2.1 hb.2.2 j2,j3,j4,j5⟩,fun y hy=>?_⟩
    obtain ⟨hb,hb1,hb2⟩:=j6 y hy
    refine ⟨hb,hb1,hPF _ _ _ _ hb2 fun b o hle e=>hk b o ?_ ?_ ?_ e⟩
    · intro hm
      rw [List.mem_singleton.mp hm] at hle
      omega
    · have h9:@Ne Nat b (s₁.heap.push io).objs.size:=by rw [hsz];omega
      exact h9
    · have h9:@Ne Nat b ((s₁.heap.push io).objs.size + 1):=by rw [hsz];omega
      exact h9
  · obtain ⟨j1,⟨o',k',j2,j3,j4,j5⟩,j6⟩:=hJ
    obtain ⟨t',e'⟩:=hP
    have e2:a + (i:Int) * 1=a + i:=by omega
    rw [e2] at e'
    subst e'
    obtain ⟨F₃,N₃⟩:=hfr h₃ o' j1 j2
    have hCl:@LT.lt Nat _ ((s₁.heap.push io).objs.size + 1) h₃.objs.size:=hns.lt
    rw [hsz] at hCl
    refine wpAny_mono (hel i t' h₃ tk m₃ _ o' k' (by omega) F₃ N₃ j3 j4 j5 j1 hns hm) (fun y s₄ h₄=>?_) fun _ _ f=>f.elim
    obtain ⟨h₄,tk₄,o₄,k₄,rfl,q1,q2,q3,q4,q5,q6⟩:=h₄
    refine ⟨h₄,tk₄,rfl,⟨fun b o hne e=>q1 b o (j1 b o hne e) (by simpa using hne),⟨o₄,k₄,q2,q3,by omega,?_⟩,fun y' hy=>?_⟩,fun b o hbm e=>q1 b o e fun hm=>?_⟩
    · have e9:c * (i + 1)=c * i + c:=Nat.mul_succ c i
      rw [e9]
      push_cast
      push_cast at j5
      omega
    · rcases List.mem_append.mp hy with hy|hy
      · obtain ⟨hb,hb1,hb2⟩:=j6 y' hy
        refine ⟨hb,hb1,hPF _ _ _ _ hb2 fun b o hle e=>q1 b o e fun hm=>?_⟩
        rw [List.mem_singleton.mp hm] at hle
        have h9:@LT.lt Nat _ fd s₁.heap.objs.size:=hfd
        omega
      · rw [List.mem_singleton.mp hy]
        exact ⟨h₃,by omega,q6⟩
    · rw [List.mem_singleton.mp hm] at hbm
      have h9:@LT.lt Nat _ fd s₁.heap.objs.size:=hfd
      rcases hbm with hbm|hbm|hbm
      · rw [List.mem_singleton.mp hbm] at h9;exact Nat.lt_irrefl _ h9
      · have h8:@Eq Nat fd (s₁.heap.push io).objs.size:=hbm
        rw [hsz] at h8;omega
      · have h8:@Eq Nat fd ((s₁.heap.push io).objs.size + 1):=hbm
        rw [hsz] at h8;omega
  · obtain ⟨j1,⟨o',k',j2,j3,j4,j5⟩,j6⟩:=hJ
    obtain ⟨c',hD⟩:=hpl
    obtain ⟨F',N'⟩:=hfr h' o' j1 j2
    have hDL:(s₁.heap.push io).objs.size≠L:=Nat.ne_of_gt (by rw [hsz];exact Nat.lt_succ_of_lt hLlt)
    refine hQ _ c' ys h' tk o' k' F' (fun p hp=>?_) (fun p hp=>hDlt _ _ (N p hp).1) (by rw [hsz];exact Nat.lt_succ_of_lt hLlt) j3 j4 j5 hyl (fun y hy=>?_)
    · rcases List.mem_cons.mp hp with rfl|hp
      · refine ⟨hD,hDL,?_⟩
        cases q:g.get? (s₁.heap.push io).objs.size with
        | none=>rfl
        | some o=>
          have h9:=j1 _ _ (fun z=>by rw [← z] at hfd;rw [hsz] at hfd;exact Nat.lt_irrefl _ (Nat.lt_of_succ_lt hfd)) (F.keep _ _ q)
          exact absurd (hDlt _ _ (F.keep _ _ q)) (Nat.lt_irrefl _)
      · exact N' p hp
    · obtain ⟨hb,hb1,hb2⟩:=j6 y hy
      exact ⟨hb,by rw [hsz];exact hb1,hb2⟩
end Z.Z2
theorem zu17:Up 17:=zu16.step (by with_unfolding_all exact Z.Z2.comp_feed_core)
theorem comp_feed {x:Str} (c:Nat) (PF:Heap→Value→Heap→Prop) (hPF:∀ hb y h h',PF hb y h→(∀ b o,@LE.le Nat _ hb.objs.size b→h.get? b=some o→h'.get? b=some o)→PF hb y h') (hA:A.handled=none) (hclos:closureFor scope env=pure cl) (hcell:∀ y∈scope.names,y.2≠.cell) (hks:scope.kind=.function) (hnames:∀ y∈scope.names,y.2=.local→scope.names.lookup y.1=some .local) (hx:scope.names.lookup x=some .local) (_hF:Fr g₀ L s.heap m₀) (hs:∀ x,foldedSetIterable iter env x=pure x) (h:wpAny (model PySem.Challenge.rw_nz0031_01.row.prog w) A (eval iter env) (FeedGo w A env L x elt scope cl c PF Q) E s):wpAny (model PySem.Challenge.rw_nz0031_01.row.prog w) A (eval (.ListComp elt [⟨.Name x px,iter,[],0⟩] scope pos) env) Q E s :=
  zu17.at { Zd with w,A_1:=A,env,s,Q,E,L,iter,px,pos,scope,cl,r:={ Zd.r with x,c,PF,elt,g₀,m₀ } } hPF hA hclos hcell hks hnames hx _hF hs h
section
variable {prog:Program} {w:World} {A:Around} {E:Value→Shared→Prop} {env:Env}
theorem compWG (use:Option (Value→Sem Unit)) {x:Str} {s₂:Shared} {wr:List Addr} {P:Nat→Value→Prop} {St:Nat→Heap→Prop} 
    (J:Nat→List Value→Heap→Prop) (W:Walks prog w A I fp wr n P St) (hsz:n≤1000) (hcell:∀ y∈scope.names,y.2≠.cell) (hkind:scope.kind=.function) (hx:scope.names.lookup x=some .local)
    (hst:St 0 s₂.heap) (hfp:∀ b∈fp,b < s₂.heap.objs.size)
    (hJ:∀ i ys (h h':Heap),(∀ b o,b∉wr→b≠s₂.heap.objs.size→b≠s₂.heap.objs.size + 1→h.get? b=some o→h'.get? b=some o)→J i ys h→J i ys h')
    (h0:∀ h':Heap,(∀ b o,s₂.heap.get? b=some o→h'.get? b=some o)→J 0 [] h')
    (turn:∀ i v ys h₃ tk m₃,i < n→P i v→J i ys h₃→h₃.Ns (s₂.heap.objs.size + 1) m₃→m₃ x=some v→ys.length=i→St (i + 1) h₃→h₃.PlainList s₂.heap.objs.size ys.toArray →
      wpAny (model prog w) A (eval elt (compEnvC scope cl (s₂.heap.objs.size + 1) env)) (fun y s₄=>∃ h₄ tk₄,s₄={ s₂ with heap:=h₄,toks:=tk₄ }∧J (i + 1) (ys++[y]) h₄∧(∀ b o,b∈fp∨b=s₂.heap.objs.size∨b=s₂.heap.objs.size + 1→h₃.get? b=some o→h₄.get? b=some o))
        (notedBy (model prog w) A env (CompErr prog w A E (s₂.heap.objs.size + 1))) { s₂ with heap:=h₃,toks:=tk })
    (done:∀ ys h' tk m' f,J n ys h'→h'.PlainList s₂.heap.objs.size ys.toArray→h'.Ns (s₂.heap.objs.size + 1) m'→ys.length=n→compPost (model prog w) A E use Q (.ref s₂.heap.objs.size) (s₂.heap.objs.size + 1) (.ok f) { s₂ with heap:=h',toks:=tk }) :
    wpAny (model prog w) A (newList []) (fun acc s₃=>wpAny (model prog w) A (newFunctionEnv scope env.globals cl [] env.qual none .none (some env)) (fun cenv s₄ =>
      codeAny (model prog w) A (.compStart (.ListComp elt [⟨.Name x px,iter,[],0⟩] scope pos) 0 (.ref I) acc { cenv with scope:=relabel scope env }) (compPost (model prog w) A E use Q acc cenv.locals) s₄) E s₃) E s₂:=by
  refine wpAny_newObj_type (wpAny_newFunctionEnv hcell (by intro y hy;simp at hy) (fun h₁ hns₁ hsb₁=>?_) hkind)
  dsimp only at hns₁ hsb₁ ⊢
  generalize hH2:s₂.heap.push { cls:=.type "list",dict:=none,data:=.seq ([]:List Value).toArray }=H2 at hns₁ hsb₁ ⊢
  have hC:H2.objs.size=s₂.heap.objs.size + 1:=by rw [← hH2,Heap.size_push]
  rw [hC] at hns₁ hsb₁ ⊢
  have hDC:s₂.heap.objs.size≠s₂.heap.objs.size + 1:=Nat.ne_of_lt (Nat.lt_succ_self _)
  have below:∀ b,b < s₂.heap.objs.size→b≠s₂.heap.objs.size + 1∧b≠s₂.heap.objs.size:=fun b hb=>⟨Nat.ne_of_lt (Nat.lt_succ_of_lt hb),Nat.ne_of_lt hb⟩
  have hDf:s₂.heap.objs.size∉fp:=fun hm=>Nat.lt_irrefl _ (hfp _ hm)
  have hCf:s₂.heap.objs.size + 1∉fp:=fun hm=>by have:=hfp _ hm;exact Nat.lt_irrefl _ (Nat.lt_of_succ_lt this)
  have old:∀ b o,s₂.heap.get? b=some o→h₁.get? b=some o:=fun b o e=>hsb₁.extBut b o (below b (Heap.lt_size e)).1 (Heap.get?_push_of_some _ (hH2 ▸ Heap.get?_push_of_some _ e))
  have hacc:h₁.PlainList s₂.heap.objs.size #[]:=⟨_,hsb₁.extBut _ _ hDC (Heap.get?_push_of_some _ (hH2 ▸ Heap.get?_push_size _ rfl))⟩
  have hst₁:St 0 h₁:=W.frame _ _ _ hst fun b _ o e=>old b o e
  have hxl:(compEnvC scope cl (s₂.heap.objs.size + 1) env).kindOf x=some .local:=lookup_relabel_local hx
  have hpp:((compEnvC scope cl (s₂.heap.objs.size + 1) env).scope.kind == .class || ((compEnvC scope cl (s₂.heap.objs.size + 1) env).scope.kind == .module && (compEnvC scope cl (s₂.heap.objs.size + 1) env).locals != (compEnvC scope cl (s₂.heap.objs.size + 1) env).globals))=false:=by simp [compEnvC,relabel,hkind]
  have hEr:∀ (e:Value) (s':Shared),notedBy (model prog w) A env (CompErr prog w A E (s₂.heap.objs.size + 1)) e s'→notedBy (model prog w) A (compEnvC scope cl (s₂.heap.objs.size + 1) env) (fun e s'=>compPost (model prog w) A E use Q (.ref s₂.heap.objs.size) (s₂.heap.objs.size + 1) (.error e) s') e s':=fun e s' he=>by
    unfold notedBy at he ⊢
    rw [noteFrame_frame (env:=env) (env':=compEnvC scope cl (s₂.heap.objs.size + 1) env) rfl]
    cases use <;> exact he
  have loop:∀ s₃:Shared,s₃={ s₂ with heap:=h₁,toks:=s₂.toks + ([]:List (Str×Value)).length } →
      codeAny (model prog w) A (.compLoop (.ListComp elt [⟨.Name x px,iter,[],0⟩] scope pos) 0 (.ref I) (.ref s₂.heap.objs.size) (compEnvC scope cl (s₂.heap.objs.size + 1) env))
        (compPost (model prog w) A E use Q (.ref s₂.heap.objs.size) (s₂.heap.objs.size + 1)) s₃:=by
    rintro s₃ rfl
    refine codeAny_compLoop_tests
      (fun k s'=>∃ h' tk m' ys i,s'={ s₂ with heap:=h',toks:=tk }∧St i h'∧h'.PlainList s₂.heap.objs.size ys.toArray∧h'.Ns (s₂.heap.objs.size + 1) m'∧J i ys h'∧ys.length=i∧i≤n∧k=n + 1 - i) ?_ (n + 1)
      ⟨h₁,_,_,[],0,rfl,hst₁,hacc,hns₁,h0 h₁ old,rfl,Nat.zero_le _,rfl⟩
    rintro k s' ⟨H,tk,m',ys,i,rfl,hst',hacc',hn',hJ',hyl,hi,rfl⟩
    by_cases hlt:i < n
    · refine W.item i _ _ _ hlt hst' fun v h₂ tk₂ hP hst₂ hk₂=>?_
      have hns₂:h₂.Ns (s₂.heap.objs.size + 1) m':=hn'.at' fun o e=>hk₂ _ o (fun z=>hCf (W.sub _ z)) e
      refine wpAny_assign_Name (wpAny_storeName_local hxl hns₂ (fun h₃ hns₃ hs₃=>?_) hpp)
      have hst₃:St (i + 1) h₃:=W.frame _ _ _ hst₂ fun b hb o e=>hs₃.extBut b o (fun z=>hCf (by have z2:b=s₂.heap.objs.size + 1:=z;rw [← z2];exact hb)) e
      have hacc₃:h₃.PlainList s₂.heap.objs.size ys.toArray:=hacc'.at fun o e=>hs₃.extBut _ o hDC (hk₂ _ o (fun z=>hDf (W.sub _ z)) e)
      have hJ₃:J i ys h₃:=hJ i ys H h₃ (fun b o h1 h2 h3 e=>hs₃.extBut b o h3 (hk₂ b o h1 e)) hJ'
      refine wpAny_tests_nil ?_
      simp only [if_true]
      refine wpAny_mono (turn i v ys h₃ _ _ hlt hP hJ₃ hns₃ (by simp) hyl hst₃ hacc₃) (fun y s₄ h₄=>?_) (fun e s' he=>hEr e s' he)
      obtain ⟨h₄,tk₄,rfl,hJ₄,hk₄⟩:=h₄
      refine wpAny_list_append_plain (hsz:=by rw [List.size_toArray,sizeLine_eq];omega) (hacc₃.at fun o e=>hk₄ _ o (.inr (.inl rfl)) e) fun h₅ hl₅ hs₅=>?_
      have hns₅:=(hns₃.at' fun o e=>hk₄ _ o (.inr (.inr rfl)) e).sameBut hs₅ (Ne.symm hDC)
      refine ⟨n + 1 - (i + 1),by omega,h₅,tk₄,_,ys++[y],i + 1,rfl,W.frame _ _ _ hst₃ fun b hb o e=>hs₅.extBut b o (fun z=>hDf (z ▸ hb)) (hk₄ b o (.inl hb) e),by simpa using hl₅,hns₅,hJ _ _ h₄ h₅ (fun b o h1 h2 h3 e=>hs₅.extBut b o h2 e) hJ₄,by simp [hyl],hlt,rfl⟩
    · have hin:i=n:=by omega
      subst hin
      refine W.done _ _ _ hst' fun h₂ tk₂ hk₂=>?_
      exact done ys h₂ tk₂ m' _ (hJ _ _ H h₂ (fun b o h1 h2 h3 e=>hk₂ b o h1 e) hJ') (hacc'.at fun o e=>hk₂ _ o (fun z=>hDf (W.sub _ z)) e) (hn'.at' fun o e=>hk₂ _ o (fun z=>hCf (W.sub _ z)) e) hyl
  refine codeAny_compStart_list (loop _ rfl) (W.self 0 _ _ _ hst₁ (loop _ rfl))
end
namespace Z.Z4
theorem comp_feedU_core:comp_feedU_P Z.w Z.Z4.A Z.env Z.s Z.Z4.Q Z.E Z.x Z.Z4.y Z.c Z.PF Z.elt Z.iter Z.px Z.py Z.pos Z.spos Z.scope Z.cl:=by
  intro L hPF hA hLe hsw hy hp hclos hcell hks hnames hx hs h
  subst hLe
  rw [exec_Assign_Name_used _ _ _ _ hsw]
  refine wpAny_bind (wpAny_standAt (wpAny_bind ?_))
  show wpAny _ A (do let _ ← comprehension (.ListComp elt [⟨.Name x px,iter,[],0⟩] scope pos) scope env _ (newList []) false (eval iter env) (some (assign (.Name y py) env))) _ _ s
  refine wpAny_bind (wpAny_mono (wpAny_comprehension_free (use:=some (assign (.Name y py) env)) (Q:=fun _ s'=>Q .next s') rfl hs hclos hks hnames
    (wpAny_mono h (fun xv s₁ h₁=>?_) fun _ _ e=>e)) (fun _ s' hq=>wpAny_pure (wpAny_pure hq)) fun _ _ e=>e)
  obtain ⟨R,a,b,t,u,v,g,m,news,fd,D,o,k,G,rfl,hr,_,ha,hb,hab,F,N,U,FO,hel,hQ⟩:=h₁
  refine wpAny_pyIter_range hr (small1 ha hb) ?_
  have hLlt:env.locals < s₁.heap.objs.size:=F.ns.lt
  have nf:=N _ (updF_mem U)
  have hfd:fd < s₁.heap.objs.size:=Heap.lt_size nf.1
  generalize hIo:({ cls:=.type "range_iterator",data:=.fields #[rawInt a,rawInt (Builtin.Range.rangeSize a b 1),rawInt 1] }:Obj)=io
  have hit:IsRangeIter (s₁.heap.push io) s₁.heap.objs.size (a + ((0:Nat):Int) * 1) (((b - a).toNat:Int) - ((0:Nat):Int)) 1:=by
    have e1:a + ((0:Nat):Int) * 1=a:=by omega
    have e2:((b - a).toNat:Int) - ((0:Nat):Int)=Builtin.Range.rangeSize a b 1:=by rw [size_range1];omega
    rw [e1,e2]
    subst hIo
    exact Heap.get?_push_size _ rfl
  have hsz:(s₁.heap.push io).objs.size=s₁.heap.objs.size + 1:=Heap.size_push ..
  have below:∀ b o,s₁.heap.get? b=some o→b∉[s₁.heap.objs.size]∧b≠(s₁.heap.push io).objs.size∧b≠(s₁.heap.push io).objs.size + 1:=fun b o e=>by
    have hb:=Heap.lt_size e
    rw [hsz]
    exact ⟨fun hm=>Nat.ne_of_lt hb (List.mem_singleton.mp hm),Nat.ne_of_lt (Nat.lt_succ_of_lt hb),Nat.ne_of_lt (Nat.lt_succ_of_lt (Nat.lt_succ_of_lt hb))⟩
  have hDlt:∀ b o,s₁.heap.get? b=some o→b < (s₁.heap.push io).objs.size:=fun b o e=>by rw [hsz];exact Nat.lt_succ_of_lt (Heap.lt_size e)
  have hfr:∀ (h₃:Heap) o₃,(∀ b o,b≠fd→s₁.heap.get? b=some o→h₃.get? b=some o)→h₃.get? fd=some o₃→Fr g env.locals h₃ m∧News g env.locals h₃ (G o₃):=fun h₃ o₃ k₃ hf₃=>by
    have K:Keep [fd] s₁.heap h₃:=fun b o e n=>k₃ b o (by simpa using n) e
    exact ⟨fr_keep F K fun a ha=>by rw [List.mem_singleton.mp ha];exact ⟨nf.2.2,nf.2.1⟩,news_updF N U K hf₃⟩
  refine compWG (some (assign (.Name y py) env)) (s₂:={ s₁ with heap:=s₁.heap.push io }) (fun i ys h=>(∀ b o,b≠fd→s₁.heap.get? b=some o→h.get? b=some o)∧(∃ o' k',h.get? fd=some o'∧FeedO w o' D k'∧k≤k'∧k'≤k + ((c * i:Nat):Int))∧∀ y∈ys,∃ hb:Heap,@LE.le Nat _ (s₁.heap.objs.size + 3) hb.objs.size∧PF hb y h)
    (Walks.range hA s₁.heap.objs.size a 1 (b - a).toNat) (by omega) hcell hks hx hit (fun b hb=>?_) (fun i ys h h' hk hJ=>?_)
    (fun h' hk=>⟨fun b o _ e=>hk b o (Heap.get?_push_of_some _ e),⟨o,k,hk _ _ (Heap.get?_push_of_some _ nf.1),FO,Int.le_refl _,by simp⟩,fun y hy=>by simp at hy⟩) (fun i v ys h₃ tk m₃ hi hP hJ hns hm hyl hst hpl=>?_) (fun ys h' tk m' f hJ hpl hns' hyl=>?_)
  · rw [hsz,List.mem_singleton.mp hb]
    exact Nat.lt_succ_self _
  · obtain ⟨j1,⟨o',k',j2,j3,j4,j5⟩,j6⟩:=hJ
    have hb:=below _ _ nf.1
    refine ⟨fun b o hne e=>hk b o (below b o e).1 (below b o e).2.1 (below b o e).2.2 (j1 b o hne e),⟨o',k',hk _ _ hb.1 hb.2.1 hb.2.2 j2,j3,j4,j5⟩,fun y hy=>?_⟩
    obtain ⟨hb,hb1,hb2⟩:=j6 y hy
    refine ⟨hb,hb1,hPF _ _ _ _ hb2 fun b o hle e=>hk b o ?_ ?_ ?_ e⟩
    · intro hm
      rw [List.mem_singleton.mp hm] at hle
      omega
    · have h9:@Ne Nat b (s₁.heap.push io).objs.size:=by rw [hsz];omega
      exact h9
    · have h9:@Ne Nat b ((s₁.heap.push io).objs.size + 1):=by rw [hsz];omega
      exact h9
  · obtain ⟨j1,⟨o',k',j2,j3,j4,j5⟩,j6⟩:=hJ
    obtain ⟨t',e'⟩:=hP
    have e2:a + (i:Int) * 1=a + i:=by omega
    rw [e2] at e'
    subst e'
    obtain ⟨F₃,N₃⟩:=hfr h₃ o' j1 j2
    have hCl:@LT.lt Nat _ ((s₁.heap.push io).objs.size + 1) h₃.objs.size:=hns.lt
    rw [hsz] at hCl
    refine wpAny_mono (hel i t' h₃ tk m₃ _ o' k' (by omega) F₃ N₃ j3 j4 j5 j1 hns hm) (fun y s₄ h₄=>?_) fun _ _ f=>f.elim
    obtain ⟨h₄,tk₄,o₄,k₄,rfl,q1,q2,q3,q4,q5,q6⟩:=h₄
    refine ⟨h₄,tk₄,rfl,⟨fun b o hne e=>q1 b o (j1 b o hne e) (by simpa using hne),⟨o₄,k₄,q2,q3,by omega,?_⟩,fun y' hy=>?_⟩,fun b o hbm e=>q1 b o e fun hm=>?_⟩
    · have e9:c * (i + 1)=c * i + c:=Nat.mul_succ c i
      rw [e9]
      push_cast
      push_cast at j5
      omega
    · rcases List.mem_append.mp hy with hy|hy
      · obtain ⟨hb,hb1,hb2⟩:=j6 y' hy
        refine ⟨hb,hb1,hPF _ _ _ _ hb2 fun b o hle e=>q1 b o e fun hm=>?_⟩
        rw [List.mem_singleton.mp hm] at hle
        have h9:@LT.lt Nat _ fd s₁.heap.objs.size:=hfd
        omega
      · rw [List.mem_singleton.mp hy]
        exact ⟨h₃,by omega,q6⟩
    · rw [List.mem_singleton.mp hm] at hbm
      have h9:@LT.lt Nat _ fd s₁.heap.objs.size:=hfd
      rcases hbm with hbm|hbm|hbm
      · rw [List.mem_singleton.mp hbm] at h9;exact Nat.lt_irrefl _ h9
      · have h8:@Eq Nat fd (s₁.heap.push io).objs.size:=hbm
        rw [hsz] at h8;omega
      · have h8:@Eq Nat fd ((s₁.heap.push io).objs.size + 1):=hbm
        rw [hsz] at h8;omega
  · obtain ⟨j1,⟨o',k',j2,j3,j4,j5⟩,j6⟩:=hJ
    obtain ⟨c',hD⟩:=hpl
    obtain ⟨F',N'⟩:=hfr h' o' j1 j2
    have hDL:(s₁.heap.push io).objs.size≠env.locals:=Nat.ne_of_gt (by rw [hsz];exact Nat.lt_succ_of_lt hLlt)
    have hCL:(s₁.heap.push io).objs.size + 1≠env.locals:=Nat.ne_of_gt (by rw [hsz];exact Nat.lt_succ_of_lt (Nat.lt_succ_of_lt hLlt))
    have hL₀:g.get? env.locals=none:=Heap.get?_none_of_le F'.above
    have hgD:∀ b,s₁.heap.objs.size≤b→g.get? b=none:=fun b hb=>Heap.get?_none_of_le (Nat.le_trans F'.above (Nat.le_of_lt (Nat.lt_of_lt_of_le hLlt hb)))
    have hgC:g.get? ((s₁.heap.push io).objs.size + 1)=none:=hgD _ (by rw [hsz];exact Nat.le_succ_of_le (Nat.le_succ _))
    show wpAny _ A (assign (.Name y py) env (.ref (s₁.heap.push io).objs.size)) _ _ _
    refine wpAny_assign_Name (wpAny_storeName_local hy F'.ns (fun h₂ hn₂ hs₂=>?_) hp)
    have F₂:Fr g env.locals h₂ (fun z=>if z=y then some (.ref (s₁.heap.push io).objs.size) else m z):=⟨hn₂,fun b o e=>hs₂.extBut b o (fun q=>by rw [q,hL₀] at e;cases e) (F'.keep b o e),F'.above⟩
    refine ⟨m',hns'.sameBut hs₂ hCL,fun h'' hs''=>?_⟩
    have up:∀ b o,b≠env.locals→b≠(s₁.heap.push io).objs.size + 1→h'.get? b=some o→h''.get? b=some o:=fun b o h1 h2 e=>hs''.extBut b o h2 (hs₂.extBut b o h1 e)
    have ltC:∀ b o,s₁.heap.get? b=some o→b≠(s₁.heap.push io).objs.size + 1:=fun b o e=>(below b o e).2.2
    refine hQ _ c' ys h'' _ o' k' (F₂.change hs'' hCL hgC) (fun p hp=>?_) (fun p hp=>hDlt _ _ (N p hp).1) (by rw [hsz];exact Nat.lt_succ_of_lt hLlt) j3 j4 j5 hyl (fun y' hy'=>?_)
    · rcases List.mem_cons.mp hp with rfl|hp
      · exact ⟨up _ _ hDL (Nat.ne_of_lt (Nat.lt_succ_self _)) hD,hDL,hgD _ (by rw [hsz];exact Nat.le_succ _)⟩
      · have n:=N' p hp
        refine ⟨up _ _ n.2.1 ?_ n.1,n.2⟩
        obtain ⟨pre,post,e1,e2,_,_⟩:=U.split
        have hpn:∃ o,s₁.heap.get? p.1=some o:=by
          rw [e2] at hp
          rcases List.mem_append.mp hp with hp|hp
          · exact ⟨_,(N p (by rw [e1];exact List.mem_append_left _ hp)).1⟩
          · rcases List.mem_cons.mp hp with rfl|hp
            · exact ⟨_,nf.1⟩
            · exact ⟨_,(N p (by rw [e1];exact List.mem_append_right _ (.tail _ hp))).1⟩
        obtain ⟨op,hop⟩:=hpn
        exact ltC _ _ hop
    · obtain ⟨hb,hb1,hb2⟩:=j6 y' hy'
      refine ⟨hb,by rw [hsz];exact hb1,hPF _ _ _ _ hb2 fun b o hle e=>up b o ?_ ?_ e⟩
      · have h9:@LT.lt Nat _ env.locals s₁.heap.objs.size:=hLlt
        have h8:@Ne Nat b env.locals:=by omega
        exact h8
      · have h9:@Ne Nat b ((s₁.heap.push io).objs.size + 1):=by rw [hsz];omega
        exact h9
end Z.Z4
theorem zu18:Up 18:=zu17.step (by with_unfolding_all exact Z.Z4.comp_feedU_core)
theorem comp_feedU {Q:Flow→Shared→Prop} {x y:Str} (c:Nat) (PF:Heap→Value→Heap→Prop) (hPF:∀ hb y h h',PF hb y h→(∀ b o,@LE.le Nat _ hb.objs.size b→h.get? b=some o→h'.get? b=some o)→PF hb y h') {py spos:Pos} (hA:A.handled=none) (hLe:env.locals=L) (hsw:swapsWith (.ListComp elt [⟨.Name x px,iter,[],0⟩] scope pos) (some (.Name y py)) spos.line env=pure true) (hy:env.kindOf y=some .local) (hp:(env.scope.kind == .class || (env.scope.kind == .module && env.locals != env.globals))=false) (hclos:closureFor scope env=pure cl) (hcell:∀ y∈scope.names,y.2≠.cell) (hks:scope.kind=.function) (hnames:∀ y∈scope.names,y.2=.local→scope.names.lookup y.1=some .local) (hx:scope.names.lookup x=some .local) (hs:∀ x,foldedSetIterable iter env x=pure x) (h:wpAny (model PySem.Challenge.rw_nz0031_01.row.prog w) A (eval iter env) (FeedGoU w A env L x elt scope cl c PF y Q) E s):wpAny (model PySem.Challenge.rw_nz0031_01.row.prog w) A (exec (.Assign [.Name y py] (.ListComp elt [⟨.Name x px,iter,[],0⟩] scope pos) spos) env) Q E s :=
  zu18.at { Zd with w,A_1:=A,env,s,E,iter,px,pos,scope,cl,r:={ Zd.r with Q_1:=Q,x,y_1:=y,c,PF,elt,py,spos } } L hPF hA hLe hsw hy hp hclos hcell hks hnames hx hs h
section
example:True:=by
  k_with "r112"=>(skip)
  k_with "r116"=>(skip)
  k_with "r94"=>(skip)
  k_with "r90"=>(skip)
  k_with "r76"=>(skip)
  k_with "r95"=>(skip)
  k_with "r79"=>(skip)
  k_with "r118"=>(skip)
  k_with "r119"=>(skip)
  k_with "r117"=>(skip)
  k_with "r120"=>(skip)
  k_with "m enter"=>((fail_if_success k_extra "r121");k_extra "y9")
  k_with "w leaving ref"=>((fail_if_success k_extra "r122");k_extra "y11")
  k_with "w Exists"=>((fail_if_success k_extra "r123");k_extra "y13")
  k_with "m enterH"=>((fail_if_success k_extra "r124");k_extra "y14")
  k_with "w subscriptTail Name Constant ref int"=>((fail_if_success k_extra "r125");k_extra "y15")
  k_with "w subscriptTail Attribute Name Subscript ref str"=>((fail_if_success k_extra "r126");k_extra "y16")
  trivial
theorem lia_num (w:World) (x:Int) (tx:Tok):RaiseS w 20 429 [.int x tx] (fun v=>v=.bool false) (fun _=>False):=by
  intro outer base Q E s W B hret hflt
  k_extra "m fill"
  w_strict (
    k_extra "m enter"
    k_steps
    all_goals (try dsimp (config:={zetaDelta:=true}) only)
    all_goals first
      | exact hret _ _ _ rfl (Keep.of_fr (by assumption)))
theorem lia_txt (w:World) (x:Str) (tx:Tok):RaiseS w 20 429 [.str x tx] (fun v=>v=.bool false) (fun _=>False):=by
  intro outer base Q E s W B hret hflt
  k_extra "m fill"
  w_strict (
    k_extra "m enter"
    k_steps
    all_goals (try dsimp (config:={zetaDelta:=true}) only)
    all_goals first
      | exact hret _ _ _ rfl (Keep.of_fr (by assumption)))
theorem lia_arr (w:World) (base:Heap) (W:Wd w base) (objs:List (Addr×Obj)) (A R V:Addr) (vs:List Value) (c:Nat) (m1:(A,tupO [.ref R,.ref V])∈objs) (m2:(V,listOf vs.toArray c)∈objs) :
    OfS w base 20 429 [.ref A] objs (fun v=>v=.bool true) (fun _=>False):=by
  intro outer Q E s B O hret hflt
  have hN:=O.sub [(A,tupO [.ref R,.ref V]),(V,listOf vs.toArray c)] (fc m1 (fc m2 (List.forall_mem_nil _)))
  k_extra "m fill"
  w_strict (
    k_extra "m enterH"
    k_steps
    all_goals (try dsimp (config:={zetaDelta:=true}) only)
    all_goals first
      | exact hret _ _ _ rfl (keepH hN (by assumption) (by assumption) (by k_extra "m mems")))
example:True:=by
  k_with "w subscriptTail Name Constant ref int"=>((fail_if_success k_extra "r127");k_extra "y18")
  k_with "w call builtin:len"=>((fail_if_success k_extra "r128");k_extra "y19")
  trivial
theorem lia_set (w:World) (base:Heap) (W:Wd w base) (objs:List (Addr×Obj)) (a:Addr) (vs:List Value) (l:List Int) (hi:IntsAre vs l) (hl:l.length≤20) (m1:(a,tupO vs)∈objs) :
    OfS w base 20 429 [.ref a] objs (fun v=>v=.bool false) (fun _=>False):=by
  intro outer Q E s B O hret hflt
  have hN:=O.sub [(a,tupO vs)] (fc m1 (List.forall_mem_nil _))
  k_extra "m fill"
  w_strict (
    k_extra "m enterH"
    k_steps
    all_goals (try dsimp (config:={zetaDelta:=true}) only)
    all_goals first
      | exact hret _ _ _ (congrArg Value.bool (beq_false_of_ne (by assumption))) (keepH hN (by assumption) (by assumption) (by k_extra "m mems"))
      | exact hret _ _ _ rfl (keepH hN (by assumption) (by assumption) (by k_extra "m mems")))
end
theorem lia_ok (w:World) (base:Heap) (W:Wd w base) (objs:List (Addr×Obj)) (R V:Addr) (vsV:List Value) (c:Nat) (v:Value) (x:Arg) (hv:ArgV objs R V vsV c v x) :
    OfS w base 20 429 [v] objs (fun r=>r=.bool x.isArr) (fun _=>False):=by
  cases x with
  | set l=>obtain ⟨a,vs,rfl,m,hi,hl⟩:=hv;exact lia_set w base W objs a vs l hi hl m
  | arr=>obtain ⟨a,rfl,m1,m2⟩:=hv;exact lia_arr w base W objs a R V vsV c m1 m2
  | num=>obtain ⟨t,rfl⟩:=hv;exact (lia_num w 3 t).of W
  | txt=>obtain ⟨t,rfl⟩:=hv;exact (lia_txt w _ t).of W
section
variable {prog:Program} {w:World} {A:Around} {E:Value→Shared→Prop} {env:Env}
theorem compT {elt iter tst:PySem.Expr} {x:Str} {px:Pos} {scope:Scope} {cl:List (Str×Addr)} {pos:Pos} {s₂:Shared} {I:Addr} {fp wr:List Addr} {n:Nat} {P:Nat→Value→Prop} {St:Nat→Heap→Prop} {Q:Value→Shared→Prop}
    (J:Nat→List Value→Heap→Prop) (W:Walks prog w A I fp wr n P St) (hsz:n≤1000) (hcell:∀ y∈scope.names,y.2≠.cell) (hkind:scope.kind=.function) (hx:scope.names.lookup x=some .local)
    (hst:St 0 s₂.heap) (hfp:∀ b∈fp,b < s₂.heap.objs.size)
    (hJ:∀ i ys (h h':Heap),(∀ b o,b∉wr→b≠s₂.heap.objs.size→b≠s₂.heap.objs.size + 1→h.get? b=some o→h'.get? b=some o)→J i ys h→J i ys h')
    (h0:∀ h':Heap,(∀ b o,s₂.heap.get? b=some o→h'.get? b=some o)→J 0 [] h')
    (turn:∀ i v ys h₃ tk m₃,i < n→P i v→J i ys h₃→h₃.Ns (s₂.heap.objs.size + 1) m₃→m₃ x=some v→ys.length≤i→St (i + 1) h₃→h₃.PlainList s₂.heap.objs.size ys.toArray →
      wpAny (model prog w) A (isTrue tst (compEnvC scope cl (s₂.heap.objs.size + 1) env) (eval tst (compEnvC scope cl (s₂.heap.objs.size + 1) env))) (fun ok s₄=>∃ h₄ tk₄,s₄={ s₂ with heap:=h₄,toks:=tk₄ }∧(∀ b o,h₃.get? b=some o→h₄.get? b=some o) ∧
        (if ok=true then wpAny (model prog w) A (eval elt (compEnvC scope cl (s₂.heap.objs.size + 1) env)) (fun y s₅=>∃ h₅ tk₅,s₅={ s₂ with heap:=h₅,toks:=tk₅ }∧(∀ b o,h₄.get? b=some o→h₅.get? b=some o)∧J (i + 1) (ys++[y]) h₅) (fun _ _=>False) s₄ else J (i + 1) ys h₄)) (fun _ _=>False) { s₂ with heap:=h₃,toks:=tk })
    (done:∀ ys h' tk,J n ys h'→h'.PlainList s₂.heap.objs.size ys.toArray→Q (.ref s₂.heap.objs.size) { s₂ with heap:=h',toks:=tk }) :
    wpAny (model prog w) A (newList []) (fun acc s₃=>wpAny (model prog w) A (newFunctionEnv scope env.globals cl [] env.qual none .none (some env)) (fun cenv s₄ =>
      codeAny (model prog w) A (.compStart (.ListComp elt [⟨.Name x px,iter,[tst],0⟩] scope pos) 0 (.ref I) acc { cenv with scope:=relabel scope env }) (compPost (model prog w) A E none Q acc cenv.locals) s₄) E s₃) E s₂:=by
  refine wpAny_newObj_type (wpAny_newFunctionEnv hcell (by intro y hy;simp at hy) (fun h₁ hns₁ hsb₁=>?_) hkind)
  dsimp only at hns₁ hsb₁ ⊢
  generalize hH2:s₂.heap.push { cls:=.type "list",dict:=none,data:=.seq ([]:List Value).toArray }=H2 at hns₁ hsb₁ ⊢
  have hC:H2.objs.size=s₂.heap.objs.size + 1:=by rw [← hH2,Heap.size_push]
  rw [hC] at hns₁ hsb₁ ⊢
  have hDC:s₂.heap.objs.size≠s₂.heap.objs.size + 1:=Nat.ne_of_lt (Nat.lt_succ_self _)
  have below:∀ b,b < s₂.heap.objs.size→b≠s₂.heap.objs.size + 1∧b≠s₂.heap.objs.size:=fun b hb=>⟨Nat.ne_of_lt (Nat.lt_succ_of_lt hb),Nat.ne_of_lt hb⟩
  have hDf:s₂.heap.objs.size∉fp:=fun hm=>Nat.lt_irrefl _ (hfp _ hm)
  have hCf:s₂.heap.objs.size + 1∉fp:=fun hm=>by have:=hfp _ hm;exact Nat.lt_irrefl _ (Nat.lt_of_succ_lt this)
  have old:∀ b o,s₂.heap.get? b=some o→h₁.get? b=some o:=fun b o e=>hsb₁.extBut b o (below b (Heap.lt_size e)).1 (Heap.get?_push_of_some _ (hH2 ▸ Heap.get?_push_of_some _ e))
  have hacc:h₁.PlainList s₂.heap.objs.size #[]:=⟨_,hsb₁.extBut _ _ hDC (Heap.get?_push_of_some _ (hH2 ▸ Heap.get?_push_size _ rfl))⟩
  have hst₁:St 0 h₁:=W.frame _ _ _ hst fun b _ o e=>old b o e
  have hxl:(compEnvC scope cl (s₂.heap.objs.size + 1) env).kindOf x=some .local:=lookup_relabel_local hx
  have hpp:((compEnvC scope cl (s₂.heap.objs.size + 1) env).scope.kind == .class || ((compEnvC scope cl (s₂.heap.objs.size + 1) env).scope.kind == .module && (compEnvC scope cl (s₂.heap.objs.size + 1) env).locals != (compEnvC scope cl (s₂.heap.objs.size + 1) env).globals))=false:=by simp [compEnvC,relabel,hkind]
  have loop:∀ s₃:Shared,s₃={ s₂ with heap:=h₁,toks:=s₂.toks + ([]:List (Str×Value)).length } →
      codeAny (model prog w) A (.compLoop (.ListComp elt [⟨.Name x px,iter,[tst],0⟩] scope pos) 0 (.ref I) (.ref s₂.heap.objs.size) (compEnvC scope cl (s₂.heap.objs.size + 1) env))
        (compPost (model prog w) A E none Q (.ref s₂.heap.objs.size) (s₂.heap.objs.size + 1)) s₃:=by
    rintro s₃ rfl
    refine codeAny_compLoop_tests
      (fun k s'=>∃ h' tk m' ys i,s'={ s₂ with heap:=h',toks:=tk }∧St i h'∧h'.PlainList s₂.heap.objs.size ys.toArray∧h'.Ns (s₂.heap.objs.size + 1) m'∧J i ys h'∧ys.length≤i∧i≤n∧k=n + 1 - i) ?_ (n + 1)
      ⟨h₁,_,_,[],0,rfl,hst₁,hacc,hns₁,h0 h₁ old,Nat.le_refl _,Nat.zero_le _,rfl⟩
    rintro k s' ⟨H,tk,m',ys,i,rfl,hst',hacc',hn',hJ',hyl,hi,rfl⟩
    by_cases hlt:i < n
    · refine W.item i _ _ _ hlt hst' fun v h₂ tk₂ hP hst₂ hk₂=>?_
      have hns₂:h₂.Ns (s₂.heap.objs.size + 1) m':=hn'.at' fun o e=>hk₂ _ o (fun z=>hCf (W.sub _ z)) e
      refine wpAny_assign_Name (wpAny_storeName_local hxl hns₂ (fun h₃ hns₃ hs₃=>?_) hpp)
      have hst₃:St (i + 1) h₃:=W.frame _ _ _ hst₂ fun b hb o e=>hs₃.extBut b o (fun z=>hCf (by have z2:b=s₂.heap.objs.size + 1:=z;rw [← z2];exact hb)) e
      have hacc₃:h₃.PlainList s₂.heap.objs.size ys.toArray:=hacc'.at fun o e=>hs₃.extBut _ o hDC (hk₂ _ o (fun z=>hDf (W.sub _ z)) e)
      have hJ₃:J i ys h₃:=hJ i ys H h₃ (fun b o h1 h2 h3 e=>hs₃.extBut b o h3 (hk₂ b o h1 e)) hJ'
      refine wpAny_tests_one (wpAny_mono (turn i v ys h₃ _ _ hlt hP hJ₃ hns₃ (by simp) hyl hst₃ hacc₃) (fun ok s₄ h₄=>?_) (fun e s' he=>he.elim))
      obtain ⟨h₄,tk₄,rfl,hk₄,hif⟩:=h₄
      have hst₄:St (i + 1) h₄:=W.frame _ _ _ hst₃ fun b _ o e=>hk₄ b o e
      cases ok with
      | false =>
        exact ⟨n + 1 - (i + 1),by omega,h₄,tk₄,_,ys,i + 1,rfl,hst₄,hacc₃.at fun o e=>hk₄ _ o e,hns₃.at' fun o e=>hk₄ _ o e,hif,by omega,hlt,rfl⟩
      | true =>
        refine wpAny_mono hif (fun y s₅ h₅=>?_) (fun e s' he=>he.elim)
        obtain ⟨h₅,tk₅,rfl,hk₅,hJ₅⟩:=h₅
        refine wpAny_list_append_plain (hsz:=by rw [List.size_toArray,sizeLine_eq];omega) (hacc₃.at fun o e=>hk₅ _ o (hk₄ _ o e)) fun h₆ hl₆ hs₆=>?_
        have hns₆:=((hns₃.at' fun o e=>hk₅ _ o (hk₄ _ o e))).sameBut hs₆ (Ne.symm hDC)
        refine ⟨n + 1 - (i + 1),by omega,h₆,tk₅,_,ys++[y],i + 1,rfl,W.frame _ _ _ hst₄ fun b hb o e=>hs₆.extBut b o (fun z=>hDf (z ▸ hb)) (hk₅ b o e),by simpa using hl₆,hns₆,hJ _ _ h₅ h₆ (fun b o h1 h2 h3 e=>hs₆.extBut b o h2 e) hJ₅,by simpa using hyl,hlt,rfl⟩
    · have hin:i=n:=by omega
      subst hin
      refine W.done _ _ _ hst' fun h₂ tk₂ hk₂=>?_
      refine ⟨m',hn'.at' fun o e=>hk₂ _ o (fun z=>hCf (W.sub _ z)) e,fun h₃ hs₃=>?_⟩
      exact done ys h₃ tk₂ (hJ _ _ H h₃ (fun b o h1 h2 h3 e=>hs₃.extBut b o h3 (hk₂ b o h1 e)) hJ') (hacc'.at fun o e=>hs₃.extBut _ o hDC (hk₂ _ o (fun z=>hDf (W.sub _ z)) e))
  refine codeAny_compStart_list (loop _ rfl) (W.self 0 _ _ _ hst₁ (loop _ rfl))
end
theorem testDone_of {b:Bool} {h₃ h₄:Heap} {ok:Bool} (e:ok=b) (k:Keep [] h₃ h₄):TestDone b h₃ s₁ ok { s₁ with heap:=h₄,toks:=tk }:=⟨e,_,_,rfl,k⟩
theorem small1g {a b:Int} (ha:-1000≤a∧a≤1000) (hb:-1000≤b∧b≤1000):Builtin.Range.small a b 1=true:=by
  unfold Builtin.Range.small
  rw [size_range1]
  simp only [fits_long a (by omega),fits_long b (by omega),fits_long 1 (by omega),fits_long ((b - a).toNat:Int) (by omega),Bool.and_self,gt_iff_lt,Int.zero_lt_one,if_true,Int.sub_self,Int.add_zero,Bool.or_true]
theorem intsFrom_at:∀ (n:Nat) (a:Int) (i:Nat),i < n→(intsFrom a n)[i]?=some (a + i)
  | 0,_,_,h=>by omega
  | n + 1,a,0,_=>by simp [intsFrom]
  | n + 1,a,i + 1,h=>by
    rw [intsFrom,List.getElem?_cons_succ,intsFrom_at n (a + 1) i (by omega)]
    congr 1
    push_cast
    omega
namespace Z.Z2
theorem comp_filter_core:comp_filter_P Z.w Z.Z2.A Z.env Z.s Z.Q Z.E Z.L Z.x Z.p Z.iter Z.tst Z.px Z.pe Z.pos Z.scope Z.cl Z.g₀ Z.m₀:=by
  intro hA hclos hcell hks hnames hx hd _hF hs h
  rw [eval_ListComp]
  refine wpAny_comprehension_free (use:=none) rfl hs hclos hks hnames (wpAny_mono h (fun xv s₁ h₁=>?_) fun _ _ e=>e)
  obtain ⟨R,a,b,t,u,v,g,m,news,rfl,hr,ha,hb,hab,F,N,hel,hQ⟩:=h₁
  refine wpAny_pyIter_range hr (small1g ha hb) ?_
  have hLlt:L < s₁.heap.objs.size:=F.ns.lt
  generalize hIo:({ cls:=.type "range_iterator",data:=.fields #[rawInt a,rawInt (Builtin.Range.rangeSize a b 1),rawInt 1] }:Obj)=io
  have hit:IsRangeIter (s₁.heap.push io) s₁.heap.objs.size (a + ((0:Nat):Int) * 1) (((b - a).toNat:Int) - ((0:Nat):Int)) 1:=by
    have e1:a + ((0:Nat):Int) * 1=a:=by omega
    have e2:((b - a).toNat:Int) - ((0:Nat):Int)=Builtin.Range.rangeSize a b 1:=by rw [size_range1];omega
    rw [e1,e2]
    subst hIo
    exact Heap.get?_push_size _ rfl
  have hsz:(s₁.heap.push io).objs.size=s₁.heap.objs.size + 1:=Heap.size_push ..
  have below:∀ b o,s₁.heap.get? b=some o→b∉[s₁.heap.objs.size]∧b≠(s₁.heap.push io).objs.size∧b≠(s₁.heap.push io).objs.size + 1:=fun b o e=>by
    have hb:=Heap.lt_size e
    rw [hsz]
    exact ⟨fun hm=>Nat.ne_of_lt hb (List.mem_singleton.mp hm),Nat.ne_of_lt (Nat.lt_succ_of_lt hb),Nat.ne_of_lt (Nat.lt_succ_of_lt (Nat.lt_succ_of_lt hb))⟩
  have hDlt:∀ b o,s₁.heap.get? b=some o→b < (s₁.heap.push io).objs.size:=fun b o e=>by rw [hsz];exact Nat.lt_succ_of_lt (Heap.lt_size e)
  have hfr:∀ (h₃:Heap),(∀ b o,s₁.heap.get? b=some o→h₃.get? b=some o)→Fr g L h₃ m∧News g L h₃ news:=fun h₃ k₃=>⟨F.keeps k₃,fun p hp=>⟨k₃ _ _ (N p hp).1,(N p hp).2⟩⟩
  refine compT (s₂:={ s₁ with heap:=s₁.heap.push io }) (fun i ys h=>(∀ b o,s₁.heap.get? b=some o→h.get? b=some o)∧IntsAre ys (((intsFrom a (b - a).toNat).take i).filter p))
    (Walks.range hA s₁.heap.objs.size a 1 (b - a).toNat) (by omega) hcell hks hx hit (fun b hb=>?_) (fun i ys h h' hk hJ=>⟨fun b o e=>hk b o (below b o e).1 (below b o e).2.1 (below b o e).2.2 (hJ.1 b o e),hJ.2⟩)
    (fun h' hk=>⟨fun b o e=>hk b o (Heap.get?_push_of_some _ e),by simpa using IntsAre.nil⟩) (fun i v ys h₃ tk m₃ hi hP hJ hns hm hyl hst hpl=>?_) (fun ys h' tk hJ hpl=>?_)
  · rw [hsz,List.mem_singleton.mp hb]
    exact Nat.lt_succ_self _
  · obtain ⟨j1,j2⟩:=hJ
    obtain ⟨t',e'⟩:=hP
    have e2:a + (i:Int) * 1=a + i:=by omega
    rw [e2] at e'
    subst e'
    obtain ⟨F₃,N₃⟩:=hfr h₃ j1
    have hat:=intsFrom_at (b - a).toNat a i hi
    refine wpAny_mono (hel (a + i) t' h₃ tk m₃ _ (by omega) (by omega) F₃ N₃ hns hm) (fun ok s₄ h₄=>?_) fun _ _ f=>f.elim
    obtain ⟨rfl,h₄,tk₄,rfl,k⟩:=h₄
    have k4:∀ b o,h₃.get? b=some o→h₄.get? b=some o:=fun b o e=>k b o e (fun h=>nomatch h)
    refine ⟨h₄,tk₄,rfl,k4,?_⟩
    have e5:((intsFrom a (b - a).toNat).take (i + 1)).filter p=((intsFrom a (b - a).toNat).take i).filter p++(if p (a + i) then [a + (i:Int)] else []):=by
      rw [← take_snoc hat,List.filter_append]
      congr 1
      simp only [List.filter_cons,List.filter_nil]
    cases hp:p (a + i) with
    | false =>
      simp only [Bool.false_eq_true,if_false]
      refine ⟨fun b o e=>k4 b o (j1 b o e),?_⟩
      rw [e5,hp]
      simpa using j2
    | true =>
      simp only [if_true]
      refine nameZ_L (env:=env) (hns.at' fun o e=>k4 _ o e) hm hks (lookup_relabel_local hx) ⟨h₄,tk₄,rfl,fun _ _ e=>e,fun b o e=>k4 b o (j1 b o e),?_⟩ hd
      rw [e5,hp]
      exact j2.append (.cons _ _ .nil)
  · obtain ⟨j1,j2⟩:=hJ
    obtain ⟨c',hD⟩:=hpl
    obtain ⟨F',N'⟩:=hfr h' j1
    have hDL:(s₁.heap.push io).objs.size≠L:=Nat.ne_of_gt (by rw [hsz];exact Nat.lt_succ_of_lt hLlt)
    rw [List.take_of_length_le (by rw [intsFrom_len];exact Nat.le_refl _)] at j2
    refine hQ _ c' ys h' tk F' (fun p hp=>?_) (fun p hp=>hDlt _ _ (N p hp).1) (by rw [hsz];exact Nat.lt_succ_of_lt hLlt) j2
    rcases List.mem_cons.mp hp with rfl|hp
    · refine ⟨hD,hDL,?_⟩
      cases q:g.get? (s₁.heap.push io).objs.size with
      | none=>rfl
      | some o=>exact absurd (hDlt _ _ (F.keep _ _ q)) (Nat.lt_irrefl _)
    · exact N' p hp
end Z.Z2
theorem zu19:Up 19:=zu18.step (by with_unfolding_all exact Z.Z2.comp_filter_core)
theorem comp_filter {x:Str} (p:Int→Bool) {tst:PySem.Expr} {pe:Pos} (hA:A.handled=none) (hclos:closureFor scope env=pure cl) (hcell:∀ y∈scope.names,y.2≠.cell) (hks:scope.kind=.function) (hnames:∀ y∈scope.names,y.2=.local→scope.names.lookup y.1=some .local) (hx:scope.names.lookup x=some .local) (hd:(x == ("__debug__" : Str))=false) (_hF:Fr g₀ L s.heap m₀) (hs:∀ x,foldedSetIterable iter env x=pure x) (h:wpAny (model PySem.Challenge.rw_nz0031_01.row.prog w) A (eval iter env) (FiltGo w A env L x tst scope cl p Q) E s):wpAny (model PySem.Challenge.rw_nz0031_01.row.prog w) A (eval (.ListComp (.Name x pe) [⟨.Name x px,iter,[tst],0⟩] scope pos) env) Q E s :=
  zu19.at { Zd with w,A_1:=A,env,s,Q,E,L,iter,px,pos,scope,cl,r:={ Zd.r with x,p,tst,pe,g₀,m₀ } } hA hclos hcell hks hnames hx hd _hF hs h
theorem gapAt_eq (h1:l[k.toNat]?=some x) (h2:l[(k - 1).toNat]?=some y):(x != y + 1)=gapAt l k:=by
  unfold gapAt
  rw [h1,h2]
section
example:True:=by
  k_with "r121"=>(skip)
  k_with "r124"=>(skip)
  k_with "r127"=>(skip)
  k_with "r126"=>(skip)
  k_with "r128"=>(skip)
  k_with "m enter"=>((fail_if_success k_extra "r129");k_extra "y20")
  k_with "m enterH"=>((fail_if_success k_extra "r130");k_extra "y21")
  k_with "w eval Call"=>((fail_if_success k_extra "r131");k_extra "y24")
  k_with "y82"=>((k_here;(rename List Int=>lz);k_dflt (refine' comp_filter (gapAt lz) ?hA_ ?a_ ?b_ ?c_ ?d_ ?e_ ?g_ ?F_ ?i_ ?_;(case F_=>k_asm);(case hA_=>first|rfl|assumption);(case a_=>with_unfolding_all rfl);(case b_=>decide);(case c_=>exact rfl);(case d_=>decide);(case e_=>exact rfl);(case g_=>decide);(case i_=>(intro _;with_unfolding_all rfl)))))
  k_with "w eval ListComp"=>((fail_if_success k_extra "r132");k_extra "y82")
  k_with "y83"=>((k_here;(rename IsRange _ _ _ _ _ _ _ _=>hrg);k_dflt (refine' ⟨_,_,_,_,_,_,_,_,_,rfl,hrg,?a_,?b_,?ab_,?F_,?N_,?el_,?Q_⟩;(case a_|b_|ab_=>omega);(case F_|N_=>k_asm);(case' Q_=>(intro D' c' ys' h' tk' F' N' l1 lL' hn';(try dsimp only);(try k_lt l1)));(case' el_=>(intro k' t' h' tk' m' C' hk0 hk1 F' N' hns hm;(try dsimp only);(try k_unmd);(try k_fold))))))
  k_with "w FiltGo"=>((fail_if_success k_extra "r133");k_extra "y83")
  k_with "w eval Name"=>((fail_if_success k_extra "r134");k_extra "y57")
  k_with "y84"=>((k_here;k_dflt (refine' len_tupZ ?t_ ?i_ ?l_ ?_;(case t_=>exact IsTup.keeps (by assumption) (Fr.keep (by k_asm)));(case i_|l_=>assumption);k_whole)))
  k_with "w call builtin:len"=>((fail_if_success k_extra "r135");k_extra "y84")
  k_with "w subscriptTail Name Name ref int"=>((fail_if_success k_extra "r136");k_extra "y30")
  k_with "w subscriptTail Name BinOp ref int"=>((fail_if_success k_extra "r137");k_extra "y30")
  k_with "y85"=>((k_here;refine' testDone_of ?e_ ?k_;(case e_=>exact gapAt_eq (by assumption) (by assumption));(case k_=>exact fun b o e _=>by assumption)))
  k_with "w TestDone"=>((fail_if_success k_extra "r138");k_extra "y85")
  k_with "y86"=>((k_here;k_dflt (refine ke_ne_ints (by is_list) (by is_list) (by l_ints) (by l_ints) (by assumption) ?_)))
  k_with "w compareOp NotEq ref ref"=>((fail_if_success k_extra "r139");k_extra "y86")
  trivial
theorem gap_eval {g:Heap} {Q:Bool→Shared→Prop} {e:PySem.Expr} 
    (hsc:scOf w 434=some sc) (he:gapE w=some e) (hA:A.handled=none) (hu:A.units + 64 < cLine) (B:Below A₀ base outer g) (X:(Kt w.params).In g) (T:Top p loose mean mg mb g) (F:Fr g L s.heap m) (N:News g L s.heap news)
    (mc:(L + 1,oc)∈news) (hoc:oc.data=.cell (some (.ref D))) (hT:IsTup g D vs.toArray) (hi:IntsAre vs l) (hl:l.length≤20)
    (h:∀ h' tk,Fr g L h' m→News g L h' news→Q (gapB l) { s with heap:=h',toks:=tk }) :
    wpAny (model PySem.Challenge.rw_nz0031_01.row.prog w) A (isTrue e (envOfC (Str.ofString "_law_due") sc L 434 (.ref 433)) (eval e (envOfC (Str.ofString "_law_due") sc L 434 (.ref 433)))) Q E s:=by
  have hsc2:some _=some sc:=hsc
  clear hsc
  cases hsc2
  have he2:some _=some e:=he
  clear he
  cases he2
  k_extra "m fill"
  w_strict (
    k_steps
    all_goals (repeat (first|k_unfold|dsimp only))
    all_goals first
      | exact h _ _ (by assumption) (fun p hp=>(by assumption:News _ _ _ (_::_::news)) p (.tail _ (.tail _ hp))))
end
section
variable {prog:Program} {w:World} {A:Around} {E:Value→Shared→Prop} {s:Shared} {Q:Value→Shared→Prop}
theorem ne_tupZ {a b:Addr} {r:List Int} (ha:IsTup s.heap a vs.toArray) (hb:IsTup s.heap b us.toArray) (hi:IntsAre vs l) (hj:IntsAre us r) (hu:A.units + 64 < cLine) (h:Q (.bool (!decide (l=r))) s) :
    wpAny (model prog w) A (compareOp .NotEq (.ref a) (.ref b)) Q E s :=
  ne_dataH (reads_newDataT ha (ke_carried hi)) (reads_newDataT hb (ke_carried hj)) (by simp [SeqAt.shaped,PyData.canLay0,PyData.depth,ke_canLayAll0,ke_depthAll]) (by simp [SeqAt.shaped,PyData.canLay0,PyData.depth,ke_canLayAll0,ke_depthAll]) hu (by simpa only [PyData.eqv,ked_eqvAll] using h)
theorem ne_tupE {a b:Addr} (ha:IsTup s.heap a vs.toArray) (hb:IsTup s.heap b us.toArray) (hi:IntsAre vs l) (hj:IntsAre us []) (hu:A.units + 64 < cLine) (h1:l=[]→Q (.bool false) s) (h2:l≠[]→0 < l.length→Q (.bool true) s) :
    wpAny (model prog w) A (compareOp .NotEq (.ref a) (.ref b)) Q E s:=by
  refine ne_tupZ ha hb hi hj hu ?_
  by_cases e:l=[]
  · simpa [e] using h1 e
  · simpa [e] using h2 e (List.length_pos_iff.mpr e)
end
theorem news_drop2 {g:Heap} {a b:Addr×Obj} (N:News g L h (a::b::news)):News g L h (a::news):=fun p hp=>by
  rcases List.mem_cons.mp hp with e|hp
  · exact N p (e ▸ List.mem_cons_self ..)
  · exact N p (List.mem_cons_of_mem _ (List.mem_cons_of_mem _ hp))
theorem allLt_mem {d:Nat}:∀ {l:List (Addr×Obj)},AllLt d l→∀ p∈l,@LT.lt Nat _ p.1 d:=fun {l}=>by
  induction l with
  | nil=>intro _ p hp;cases hp
  | cons q r ih =>
    intro h p hp
    rcases List.mem_cons.mp hp with e|hp
    · rw [e];exact h.1
    · exact ih h.2 p hp
section
example:True:=by
  k_with "r135"=>(skip)
  k_with "r132"=>(skip)
  k_with "r134"=>(skip)
  k_with "r136"=>(skip)
  k_with "r133"=>(skip)
  k_with "r137"=>(skip)
  k_with "r138"=>(skip)
  k_with "r139"=>(skip)
  k_with "w subscriptTail Name Constant ref int"=>((fail_if_success k_extra "r140");k_extra "y30")
  k_with "y87"=>((k_here;k_dflt (refine' ne_tupE ?a_ ?b_ ?i_ ?j_ ?u_ ?h1_ ?h2_;(case a_=>exact IsTup.keeps (by assumption) (Fr.keep (by k_asm)));(case b_=>exact News.isTup (by k_asm) (by k_mem));(case i_=>assumption);(case j_=>exact .nil);(case u_=>assumption);(case' h1_=>intro e0');(case' h2_=>intro e0' p0'))))
  k_with "w compareOp NotEq ref ref"=>((fail_if_success k_extra "r141");k_extra "y87")
  k_with "y88"=>((k_here;k_dflt (refine' item_tupZlast ?t_ ?i_ ?l_ ?b_ ?_;(case t_=>exact IsTup.keeps (by assumption) (Fr.keep (by k_asm)));(case i_|l_=>assumption);(case b_=>omega);k_whole;intro n' u' hn')))
  k_with "w subscriptTail Name UnaryOp ref int"=>((fail_if_success k_extra "r142");k_extra "y88")
  k_with "y89"=>((k_here;(with_reducible show wpAny _ _ (eval (Expr.Name _ _) (envOfC _ _ _ _ _)) _ _ _);k_dflt (refine' nameX_C ?N_ ?c_ ?m_ ?d_ ?_ ?a_ ?b_;(case c_|a_|b_=>exact rfl);(case N_=>k_asm);(case m_=>first|assumption|exact List.mem_cons_of_mem _ (by assumption));(case d_=>assumption);k_whole)))
  k_with "w eval Name"=>((fail_if_success k_extra "r143");k_extra "y89")
  trivial
theorem lohi2_eval {g:Heap} {e:PySem.Expr} 
    (hsc:scOf w 434=some sc) (he:lohiE w=some e) (hA:A.handled=none) (hu:A.units + 64 < cLine) (B:Below A₀ base outer g) (X:(Kt w.params).In g) (T:Top p loose mean mg mb g) (F:Fr g L s.heap m) (N:News g L s.heap news)
    (mc:(L + 1,oc)∈news) (hoc:oc.data=.cell (some (.ref D))) (hT:IsTup g D vs.toArray) (hi:IntsAre vs l) (hl:l.length≤20)
    (h:∀ tu t u h' tk,Fr g L h' m→News g L h' ((tu,tupO [.int (loI l) t,.int (hiI l) u])::news)→(∀ p∈news,p.1 < tu)→Q (.ref tu) { s with heap:=h',toks:=tk }) :
    wpAny (model PySem.Challenge.rw_nz0031_01.row.prog w) A (eval e (envOfC (Str.ofString "_law_due") sc L 434 (.ref 433))) Q E s:=by
  have hsc2:some _=some sc:=hsc
  clear hsc
  cases hsc2
  have he2:some _=some e:=he
  clear he
  cases he2
  k_extra "m fill"
  w_strict (
    k_steps
    all_goals (repeat (first|k_unfold|dsimp only))
    all_goals first
      | ((rename l[Int.toNat 0]?=some _=>e1);(rename l[l.length - 1]?=some _=>e2);(rw [lo_of e1,hi_of e2] at h);exact h _ _ _ _ _ (by assumption) (news_drop2 (by assumption)) (allLt_mem (And.right (by assumption))))
      | ((rename l=[]=>e0);subst e0;exact h _ _ _ _ _ (by assumption) (news_drop2 (by assumption)) (allLt_mem (And.right (by assumption)))))
end
theorem gapB_is (h:SetL l):gapB l=decide (hiI l - loI l + 1≠(l.length:Int)):=by
  obtain ⟨a,_,_,rfl|rfl|⟨g,h1,h2,rfl|rfl⟩⟩:=h
  · rfl
  · simp [gapB,hiI,loI,intsFrom]
  · simp [gapB,hiI,loI,intsFrom,gapAt]
    omega
  · simp [gapB,hiI,loI,intsFrom,gapAt]
    omega
theorem gapB_t (h:SetL l) (e:gapB l=true):hiI l - loI l + 1≠(l.length:Int):=by
  rw [gapB_is h] at e
  exact of_decide_eq_true e
theorem gapB_f (h:SetL l) (e:gapB l=false):hiI l - loI l + 1=(l.length:Int):=by
  rw [gapB_is h] at e
  exact Classical.byContradiction (of_decide_eq_false e)
theorem idx_lenW1 {c:Nat} (hvs:ArgsV objs R V vsV c vs xs) (h:(vs.length:Int)≠2):okIdx false xs nv=none :=
  idx_len1 hvs (by rw [List.length_dropLast];omega)
theorem idx_lenW2 {c:Nat} (hvs:ArgsV objs R V vsV c vs xs) (h:(vs.length:Int)≠3):okIdx true xs nv=none :=
  idx_len2 hvs (by rw [List.length_dropLast];omega)
theorem shapeW1 {c:Nat} {x:Arg} (hvs:ArgsV objs R V vsV c vs xs) (hl:(vs.length:Int)=2) (hx:xs[xs.length - 1]?=some x) (ha:x.isArr=true) :
    ∃ v0 x0 a1,vs=[v0,.ref a1]∧xs=[x0,.arr]∧ArgV objs R V vsV c v0 x0∧(a1,tupO [.ref R,.ref V])∈objs:=by
  obtain ⟨hlen,hav⟩:=hvs
  obtain ⟨v0,v1,rfl⟩:=ln2 (l:=vs) (by omega)
  obtain ⟨x0,x1,rfl⟩:=ln2 hlen.symm
  have e:x1=x:=by simpa using hx
  subst e
  have h1:=hav 1 v1 x1 rfl rfl
  cases x1 with
  | arr=>obtain ⟨a1,rfl,m,_⟩:=h1;exact ⟨v0,x0,a1,rfl,rfl,hav 0 v0 x0 rfl rfl,m⟩
  | _=>cases ha
theorem shapeW2 {c:Nat} {x:Arg} (hvs:ArgsV objs R V vsV c vs xs) (hl:(vs.length:Int)=3) (hx:xs[xs.length - 1]?=some x) (ha:x.isArr=true) :
    ∃ v0 x0 v1 x1 a1,vs=[v0,v1,.ref a1]∧xs=[x0,x1,.arr]∧ArgV objs R V vsV c v0 x0∧ArgV objs R V vsV c v1 x1∧(a1,tupO [.ref R,.ref V])∈objs:=by
  obtain ⟨hlen,hav⟩:=hvs
  obtain ⟨v0,v1,v2,rfl⟩:=ln3 (l:=vs) (by omega)
  obtain ⟨x0,x1,x2,rfl⟩:=ln3 hlen.symm
  have e:x2=x:=by simpa using hx
  subst e
  have h1:=hav 2 v2 x2 rfl rfl
  cases x2 with
  | arr=>obtain ⟨a1,rfl,m,_⟩:=h1;exact ⟨v0,x0,v1,x1,a1,rfl,rfl,hav 0 v0 x0 rfl rfl,hav 1 v1 x1 rfl rfl,m⟩
  | _=>cases ha
theorem isi_tup {a:Addr} {vs:Array Value} (ht:IsTup s.heap a vs) (h:Q (.bool true) s) :
    wpAny (model prog w) A (call (.builtin "isinstance") [.ref a,.type "tuple"]) Q E s:=by
  obtain ⟨o,ho,hc,_⟩:=ht
  exact IsiPair.tuple_tuple ho hc h
theorem item_listLastE {c:Nat} 
    (N:News h₀ L s.heap news) (hm:(S,listOf (List.toArray vs) c)∈news) (hl:vs.length≤20) (h0:0 < vs.length) (e:vs.getLast?=some v) (h:Q v s)
    (hs:subscripted slice false (.ref S) (.int (-1) u)=operate [.ref S,.int (-1) u] (getItem (.ref S) (.int (-1) u)):=by with_unfolding_all rfl) (hg:∀ r,letTemporaryGo value (.ref S) r=pure ():=by intro _;with_unfolding_all rfl) :
    wpAny (model prog w) A (subscriptTail value slice (.ref S) (.int (-1) u)) Q E s :=
  item_listZlast N hm hl h0 (fun v' hv'=>by rw [← List.getLast?_eq_getElem?,e] at hv';cases hv';exact h) hs hg
theorem due_none (e:okIdx two xs nv=none):DueV two xs nv V h .none h':=.inl ⟨e,rfl⟩
theorem due_some (e:okIdx two xs nv=some rs) (a:ArrNew h v h' V rs):DueV two xs nv V h v h':=.inr ⟨rs,e,a⟩
theorem idx_x0 {x0:Arg} {r:List Arg} (hr:r≠[]) (h:x0.isSet=false):okIdx two (x0::r) nv=none:=idx_set ⟨x0,by cases r with|nil=>exact absurd rfl hr|cons a b=>exact List.mem_cons_self ..,h⟩
theorem idx_x1 {x0:Arg} {r:List Arg} (hr:r≠[]) (h:x1.isSet=false):okIdx two (x0::x1::r) nv=none:=idx_set ⟨x1,by cases r with|nil=>exact absurd rfl hr|cons a b=>exact List.mem_cons_of_mem _ (List.mem_cons_self ..),h⟩
section
example:True:=by
  k_with "r129"=>(skip)
  k_with "r130"=>(skip)
  k_with "r140"=>(skip)
  k_with "r142"=>(skip)
  k_with "r143"=>(skip)
  k_with "r141"=>(skip)
  k_with "w k_lt $h:ident"=>((fail_if_success k_extra "r144");k_extra "y40")
  k_with "w k_ne"=>((fail_if_success k_extra "r145");k_extra "y41")
  k_with "w callWith ref"=>((fail_if_success k_extra "r146");k_extra "y42")
  k_with "m enter"=>((fail_if_success k_extra "r147");k_extra "y45")
  k_with "m enterH"=>((fail_if_success k_extra "r148");k_extra "y46")
  k_with "y90"=>((k_here;(with_reducible show wpAny _ _ (subscriptTail _ (PySem.Expr.Slice none _ none _) (Value.ref _) (Value.ref _)) _ _ _);k_dflt (refine' slice_init ?F_ ?N_ ?m_ ?l_ ?z_ ?_ ?s_ ?t_;(case F_|N_=>k_asm);(case m_=>k_mem);(case l_|z_=>assumption);(case s_=>with_unfolding_all rfl);(case t_=>kmk_pure));intro D' h' F' N' l1;(try dsimp only);(try simp only [List.dropLast_cons_cons,List.dropLast_singleton] at N');(try k_lt l1)))
  k_with "w subscriptTail Name Slice ref ref"=>((fail_if_success k_extra "r149");k_extra "y90")
  k_with "y91"=>((k_here;(rename Fr _ _ _ _=>lF');(with_unfolding_all refine' For_turns lF' ?_;k_whole)))
  k_with "w exec For"=>((fail_if_success k_extra "r150");k_extra "y91")
  k_with "w call builtin:len"=>((fail_if_success k_extra "r151");k_extra "y34")
  k_with "y92"=>((k_here;k_dflt (first|(refine' item_listLastE ?N_ ?m_ ?l_ ?z_ ?e_ ?_;(case N_=>k_asm);(case m_=>k_mem);(case l_|z_=>assumption);(case e_=>exact rfl);k_whole;(try dsimp only [List.getLast]))|(refine' item_listZlast ?N_ ?m_ ?l_ ?z_ ?_;(case N_=>k_asm);(case m_=>k_mem);(case l_|z_=>assumption);k_whole;intro v' hv';(have hav':=argsV_last (by assumption) hv');obtain ⟨x',hx',hax'⟩:=hav'))))
  k_with "w subscriptTail Name UnaryOp ref int"=>((fail_if_success k_extra "r152");k_extra "y92")
  k_with "y93"=>((k_here;(with_reducible show wpAny _ _ (subscriptTail _ _ (Value.ref _) (Value.int _ _)) _ _ _);k_dflt (refine' item_tupleT ?t_ ?a_ ?b_ ?c_ ?d_ ?_;(case t_=>exact IsTup.keeps (by assumption) (Fr.keep (by k_asm)));(case a_|b_=>decide);(case c_|d_=>rfl);k_whole)))
  k_with "w subscriptTail Subscript Name UnaryOp Constant ref int"=>((fail_if_success k_extra "r153");k_extra "y93")
  k_with "y94"=>((k_here;(with_reducible show wpAny _ _ (call _ [Value.ref _,Value.type _]) _ _ _);k_dflt (refine' isi_tup ?t_ ?_;(case t_=>exact IsTup.keeps (by assumption) (Fr.keep (by k_asm)));k_whole)))
  k_with "w call builtin:isinstance"=>((fail_if_success k_extra "r154");k_extra "y94")
  k_with "w call builtin:list.append"=>((fail_if_success k_extra "r155");k_extra "y47")
  k_with "y95"=>((k_here;k_dflt (refine' lohi2_eval ?sc_ ?e_ rfl ?u_ ?B_ ?X_ ?T_ ?F_ ?N_ ?mc_ ?oc_ ?hT_ ?hi_ ?hl_ ?_;(case sc_|e_=>exact rfl);(case u_=>exact Nat.le_of_ble_eq_true rfl);(case B_|X_|T_|F_|N_=>k_asm);(case mc_=>k_mem);(case oc_|hT_|hi_|hl_=>assumption);k_whole);intro tu' t' u' h' tk' F' N' l1';(try dsimp only);(try k_lt l1')))
  k_with "w eval IfExp Compare Tuple Tuple"=>((fail_if_success k_extra "r156");k_extra "y95")
  k_with "y96"=>((k_here;k_dflt (refine' gap_eval ?sc_ ?e_ rfl ?u_ ?B_ ?X_ ?T_ ?F_ ?N_ ?mc_ ?oc_ ?hT_ ?hi_ ?hl_ ?_;(case sc_|e_=>exact rfl);(case u_=>exact Nat.le_of_ble_eq_true rfl);(case B_|X_|T_|F_|N_=>k_asm);(case mc_=>k_mem);(case oc_|hT_|hi_|hl_=>assumption);k_whole);intro h' tk' F' N';(try dsimp only)))
  k_with "w isTrue Compare ListComp cons cons"=>((fail_if_success k_extra "r157");k_extra "y96")
  k_with "w binaryOp Mult int int"=>((fail_if_success k_extra "r158");k_extra "y49")
  k_with "y97"=>((k_here;k_dflt (refine' OfS.useV (lia_ok _ _ ?W_ _ _ _ _ _ _ _ ?hv_) rfl rfl rfl ?hd_ ?hu_ ?O_ ?B_ ?F_ ?N_ ?hL_ ?K0_ rfl rfl (fun h' tk' F' N'=>?_);(case hv_|W_=>assumption);k_extra "m useO";(try simp only [Arg.isArr]))))
  k_with "w call ref"=>((fail_if_success k_extra "r159");k_extra "y97")
  trivial
namespace Z
theorem due1_core:due1_P Z.w Z.base Z.objs Z.R Z.V Z.S Z.vsV Z.cV Z.cS Z.tn Z.outer Z.Q Z.E Z.s:=by
  intro W vs xs mS mV hV hvs hn1 hn2 hsl
  intro B O hret hflt
  have hN:=O.sub [(S,listOf vs.toArray cS),(V,listOf vsV.toArray cV)] (fc mS (fc mV (List.forall_mem_nil _)))
  have hLs:∀ b∈[S,V],∃ vs c,s.heap.get? b=some (listOf vs c):=fc ⟨_,_,(hN _ (.head _)).1⟩ (fc ⟨_,_,(hN _ (.tail _ (.head _))).1⟩ (List.forall_mem_nil _))
  k_extra "m fill"
  w_strict (
    (refine wpAny_call ?_)
    k_dflt (refine' enterC (binds:=[(Str.ofString "name",.str (Str.ofString "array1d") tn),(Str.ofString "some",.ref S)]) W B _ hN ?ho_ ?hcd_ ?hroom_ ?hbind_ ?hkind_ ?hnd_ ?_ ?c2_ ?c3_ ?c4_);
    (case ho_=>k_is);
    (case hcd_=>k_is);
    (case hroom_=>exact Nat.le_of_ble_eq_true rfl);
    (case hbind_=>exact BindsTo.of_eq rfl);
    (case hkind_=>exact kindsX rfl);
    (case hnd_=>decide +kernel);
    (case c2_=>exact rfl);
    (case c3_=>exact rfl);
    (case c4_=>exact rfl);
    intro L h₁ p loose mean mg mb cells F N Y Bl X T lt eL tk;subst eL;
    (dsimp only [List.map] at F N Bl X T);
    (obtain ⟨oc,hE,dc⟩:=CellsAre.one Y);
    subst hE;clear Y;
    (simp only [AllLt,and_true] at lt);
    (have eLN:@Eq Nat s.heap.objs.size s.heap.objs.size:=rfl);
    (have dc1:oc.data=.cell none:=dc);clear dc;
    (try simp only [List.cons_append,List.nil_append] at N);
    (try k_fold)
    repeat' ((fail_if_success (with_reducible show wpAny _ _ (exec (Stmt.For _ _ _ _ _) _) _ _ _));first|(k_unfold;(try dsimp only))|(k_end;wrow_close)|walk1|(dsimp only;walk1)|(leave1;walk_say "STEP leave1";try dsimp only)|fail "no step")
    all_goals (try dsimp (config:={zetaDelta:=true}) only)
    all_goals first
      | exact hret _ _ _ (due_none (idx_lenW1 hvs (by assumption))) (keepH hN (by k_asm) (by k_asm) (by k_extra "m mems"))
      | exact hret _ _ _ (due_none (idx_arr (by assumption) (by assumption))) (keepH hN (by k_asm) (by k_asm) (by k_extra "m mems"))
      | skip
    (rename (vs.length:Int)=2=>hl1)
    (rename xs[xs.length - 1]?=some _=>hx9)
    (rename Arg.isArr _=true=>hxa9)
    (obtain ⟨v0,x0,a9,e1,e2,hv0,ma9⟩:=shapeW1 hvs hl1 hx9 hxa9)
    have hT9:=tup_ground O ma9 hLs
    subst e1 e2
    (cases x0 with
    | num=>(obtain ⟨t0,e0⟩:=hv0;subst e0;k_steps;all_goals (try dsimp (config:={zetaDelta:=true}) only);exact hret _ _ _ (due_none (idx_x0 (List.cons_ne_nil _ _) rfl)) (keepH hN (by k_asm) (by k_asm) (by k_extra "m mems")))
    | txt=>(obtain ⟨t0,e0⟩:=hv0;subst e0;k_steps;all_goals (try dsimp (config:={zetaDelta:=true}) only);exact hret _ _ _ (due_none (idx_x0 (List.cons_ne_nil _ _) rfl)) (keepH hN (by k_asm) (by k_asm) (by k_extra "m mems")))
    | arr=>(obtain ⟨a0,e0,m0,m0'⟩:=id hv0;subst e0;have hTa:=tup_ground O m0 hLs;k_steps;all_goals (try dsimp (config:={zetaDelta:=true}) only);exact hret _ _ _ (due_none (idx_x0 (List.cons_ne_nil _ _) rfl)) (keepH hN (by k_asm) (by k_asm) (by k_extra "m mems")))
    | set l0 =>
      (obtain ⟨a0,vs0,ev0,ma0,hi0,hl0⟩:=id hv0;subst ev0;have hT0:=tup_ground O ma0 hLs;have hs0:=hsl l0 (by simp);k_steps
       all_goals (try dsimp (config:={zetaDelta:=true}) only)
       all_goals first
        | exact hret _ _ _ (due_none (idx_gap1 (gapB_t hs0 (by assumption)))) (keepH hN (by k_asm) (by k_asm) (by k_extra "m mems"))
        | exact hret _ _ _ (due_none (many1 (by assumption) (by assumption))) (keepH hN (by k_asm) (by k_asm) (by k_extra "m mems"))
        | (refine' hret _ _ _ (due_some (ok1 (x:=.arr) rfl rfl (gapB_f hs0 (by assumption)) (by assumption) (by assumption)) ?r_) ?e_;(case e_=>exact (keepH hN (by k_asm) (by k_asm) (by k_extra "m mems")));(case r_=>(refine' arrNew1 ?N_ ?m1_ ?m2_ ?m3_ ?b1_ ?b2_ ?b3_;(case N_=>k_asm);(case m1_|m2_|m3_=>k_mem);(case b1_|b2_|b3_=>first|exact le_cell (by with_reducible assumption) (by k_mem)|exact le_cell2 (by with_reducible assumption) (by with_reducible assumption) (by k_mem)|omega)))))))
end Z
namespace Z
theorem due2_core:due2_P Z.w Z.base Z.objs Z.R Z.V Z.S Z.vsV Z.cV Z.cS Z.tn Z.outer Z.Q Z.E Z.s:=by
  intro W vs xs mS mV hV hvs hn1 hn2 hsl
  intro B O hret hflt
  have hN:=O.sub [(S,listOf vs.toArray cS),(V,listOf vsV.toArray cV)] (fc mS (fc mV (List.forall_mem_nil _)))
  have hLs:∀ b∈[S,V],∃ vs c,s.heap.get? b=some (listOf vs c):=fc ⟨_,_,(hN _ (.head _)).1⟩ (fc ⟨_,_,(hN _ (.tail _ (.head _))).1⟩ (List.forall_mem_nil _))
  k_extra "m fill"
  w_strict (
    (refine wpAny_call ?_)
    k_dflt (refine' enterC (binds:=[(Str.ofString "name",.str (Str.ofString "array2d") tn),(Str.ofString "some",.ref S)]) W B _ hN ?ho_ ?hcd_ ?hroom_ ?hbind_ ?hkind_ ?hnd_ ?_ ?c2_ ?c3_ ?c4_);
    (case ho_=>k_is);
    (case hcd_=>k_is);
    (case hroom_=>exact Nat.le_of_ble_eq_true rfl);
    (case hbind_=>exact BindsTo.of_eq rfl);
    (case hkind_=>exact kindsX rfl);
    (case hnd_=>decide +kernel);
    (case c2_=>exact rfl);
    (case c3_=>exact rfl);
    (case c4_=>exact rfl);
    intro L h₁ p loose mean mg mb cells F N Y Bl X T lt eL tk;subst eL;
    (dsimp only [List.map] at F N Bl X T);
    (obtain ⟨oc,hE,dc⟩:=CellsAre.one Y);
    subst hE;clear Y;
    (simp only [AllLt,and_true] at lt);
    (have eLN:@Eq Nat s.heap.objs.size s.heap.objs.size:=rfl);
    (have dc1:oc.data=.cell none:=dc);clear dc;
    (try simp only [List.cons_append,List.nil_append] at N);
    (try k_fold)
    repeat' ((fail_if_success (with_reducible show wpAny _ _ (exec (Stmt.For _ _ _ _ _) _) _ _ _));first|(k_unfold;(try dsimp only))|(k_end;wrow_close)|walk1|(dsimp only;walk1)|(leave1;walk_say "STEP leave1";try dsimp only)|fail "no step")
    all_goals (try dsimp (config:={zetaDelta:=true}) only)
    all_goals first
      | exact hret _ _ _ (due_none (idx_lenW2 hvs (by assumption))) (keepH hN (by k_asm) (by k_asm) (by k_extra "m mems"))
      | exact hret _ _ _ (due_none (idx_arr (by assumption) (by assumption))) (keepH hN (by k_asm) (by k_asm) (by k_extra "m mems"))
      | skip
    (rename (vs.length:Int)=3=>hl1)
    (rename xs[xs.length - 1]?=some _=>hx9)
    (rename Arg.isArr _=true=>hxa9)
    (obtain ⟨v0,x0,v1,x1,a9,e1,e2,hv0,hv1,ma9⟩:=shapeW2 hvs hl1 hx9 hxa9)
    have hT9:=tup_ground O ma9 hLs
    subst e1 e2
    (cases x0 with
    | num=>(obtain ⟨t0,e0⟩:=hv0;subst e0;k_steps;all_goals (try dsimp (config:={zetaDelta:=true}) only);exact hret _ _ _ (due_none (idx_x0 (List.cons_ne_nil _ _) rfl)) (keepH hN (by k_asm) (by k_asm) (by k_extra "m mems")))
    | txt=>(obtain ⟨t0,e0⟩:=hv0;subst e0;k_steps;all_goals (try dsimp (config:={zetaDelta:=true}) only);exact hret _ _ _ (due_none (idx_x0 (List.cons_ne_nil _ _) rfl)) (keepH hN (by k_asm) (by k_asm) (by k_extra "m mems")))
    | arr=>(obtain ⟨a0,e0,m0,m0'⟩:=id hv0;subst e0;have hTa:=tup_ground O m0 hLs;k_steps;all_goals (try dsimp (config:={zetaDelta:=true}) only);exact hret _ _ _ (due_none (idx_x0 (List.cons_ne_nil _ _) rfl)) (keepH hN (by k_asm) (by k_asm) (by k_extra "m mems")))
    | set l0 =>
      (obtain ⟨a0,vs0,ev0,ma0,hi0,hl0⟩:=id hv0;subst ev0;have hT0:=tup_ground O ma0 hLs;have hs0:=hsl l0 (by simp)
       (cases x1 with
       | num => (obtain ⟨t1,e1⟩:=hv1;subst e1;k_steps
                 all_goals (try dsimp (config:={zetaDelta:=true}) only)
                 all_goals first
                  | exact hret _ _ _ (due_none (idx_x1 (List.cons_ne_nil _ _) rfl)) (keepH hN (by k_asm) (by k_asm) (by k_extra "m mems")))
       | txt => (obtain ⟨t1,e1⟩:=hv1;subst e1;k_steps
                 all_goals (try dsimp (config:={zetaDelta:=true}) only)
                 all_goals first
                  | exact hret _ _ _ (due_none (idx_x1 (List.cons_ne_nil _ _) rfl)) (keepH hN (by k_asm) (by k_asm) (by k_extra "m mems")))
       | arr => (obtain ⟨a1,e1,m1,m1'⟩:=id hv1;subst e1;have hTa:=tup_ground O m1 hLs;k_steps
                 all_goals (try dsimp (config:={zetaDelta:=true}) only)
                 all_goals first
                  | exact hret _ _ _ (due_none (idx_x1 (List.cons_ne_nil _ _) rfl)) (keepH hN (by k_asm) (by k_asm) (by k_extra "m mems")))
       | set lq =>
         (obtain ⟨a1,vs1,ev1,ma1,hi1,hl1⟩:=id hv1;subst ev1;have hT1:=tup_ground O ma1 hLs;have hs1:=hsl lq (by simp);k_steps
          all_goals (try dsimp (config:={zetaDelta:=true}) only)
          all_goals first
           | exact hret _ _ _ (due_none (idx_gap2a (gapB_t hs0 (by assumption)))) (keepH hN (by k_asm) (by k_asm) (by k_extra "m mems"))
           | exact hret _ _ _ (due_none (idx_gap2b (gapB_t hs1 (by assumption)))) (keepH hN (by k_asm) (by k_asm) (by k_extra "m mems"))
           | exact hret _ _ _ (due_none (many2 (by assumption) (by assumption) (by assumption))) (keepH hN (by k_asm) (by k_asm) (by k_extra "m mems"))
           | (refine' hret _ _ _ (due_some (ok2 (x:=.arr) rfl rfl (gapB_f hs0 (by assumption)) (gapB_f hs1 (by assumption)) (by assumption) (by assumption) (by assumption)) ?r_) ?e_;(case e_=>exact (keepH hN (by k_asm) (by k_asm) (by k_extra "m mems")));(case r_=>(refine' arrNew2 ?N_ ?m1_ ?m2_ ?m3_ ?m4_ ?b1_ ?b2_ ?b3_ ?b4_;(case N_=>k_asm);(case m1_|m2_|m3_|m4_=>k_mem);(case b1_|b2_|b3_|b4_=>first|exact le_cell (by with_reducible assumption) (by k_mem)|exact le_cell2 (by with_reducible assumption) (by with_reducible assumption) (by k_mem)|omega)))))))))
end Z
theorem zu20:Up 20:=zu19.step (by with_unfolding_all exact Z.due1_core)
theorem due1 (w:World) (base:Heap) (W:Wd w base) (objs:List (Addr×Obj)) (R V S:Addr) (vsV vs:List Value) (xs:List Arg) (cV cS:Nat) (tn:Tok) (mS:(S,listOf vs.toArray cS)∈objs) (mV:(V,listOf vsV.toArray cV)∈objs) (hV:vsV.length≤20) (hvs:ArgsV objs R V vsV cV vs xs) (hn1:0 < vs.length) (hn2:vs.length≤20) (hsl:SetsL xs):OfH w base 40 434 [.str (Str.ofString "array1d") tn,.ref S] objs (DueV false xs vsV.length V) (fun _=>False) :=
  fun outer Q E s=>zu20.at { Zd with w,base,objs,R,V,S,vsV,cV,cS,tn,outer,Q,E,s } W vs xs mS mV hV hvs hn1 hn2 hsl
theorem zu21:Up 21:=zu20.step (by with_unfolding_all exact Z.due2_core)
theorem due2 (w:World) (base:Heap) (W:Wd w base) (objs:List (Addr×Obj)) (R V S:Addr) (vsV vs:List Value) (xs:List Arg) (cV cS:Nat) (tn:Tok) (mS:(S,listOf vs.toArray cS)∈objs) (mV:(V,listOf vsV.toArray cV)∈objs) (hV:vsV.length≤20) (hvs:ArgsV objs R V vsV cV vs xs) (hn1:0 < vs.length) (hn2:vs.length≤20) (hsl:SetsL xs):OfH w base 40 434 [.str (Str.ofString "array2d") tn,.ref S] objs (DueV true xs vsV.length V) (fun _=>False) :=
  fun outer Q E s=>zu21.at { Zd with w,base,objs,R,V,S,vsV,cV,cS,tn,outer,Q,E,s } W vs xs mS mV hV hvs hn1 hn2 hsl
end
example:True:=by
  k_with "r144"=>(skip)
  k_with "r145"=>(skip)
  trivial
theorem news_late {g:Heap} (F:Fr g L h m) (N:News g L h news) (hD:@LT.lt Nat _ L D) (ho:h.get? D=some o):News g L h ((D,o)::news):=fun p hp=>by
  rcases List.mem_cons.mp hp with rfl|hp
  · exact ⟨ho,Nat.ne_of_gt hD,Heap.get?_none_of_le (Nat.le_trans F.above (Nat.le_of_lt hD))⟩
  · exact N p hp
theorem feed_one {g:Heap} {D':Addr} (F:Fr g L h m) (N:News g L h news) (hl:ys.length=1) (hD:@LT.lt Nat _ L D')
    (ha:∀ y∈ys,∃ hb:Heap,@LE.le Nat _ (D' + 2) hb.objs.size∧PSet hb y h) :
    ∃ D0 vs0 l0,ys=[.ref D0]∧News g L h ((D0,tupO vs0)::news)∧IntsAre vs0 l0∧SetL l0∧@LT.lt Nat _ D' D0:=by
  obtain ⟨y,rfl⟩:=ln1 hl
  obtain ⟨hb,h1,D0,vs0,l0,rfl,h2,h3,h4,h5⟩:=ha y (.head _)
  exact ⟨D0,vs0,l0,rfl,news_late F N (by omega) h3,h4,h5,by omega⟩
theorem feed_two {g:Heap} {D':Addr} (F:Fr g L h m) (N:News g L h news) (hl:ys.length=2) (hD:@LT.lt Nat _ L D')
    (ha:∀ y∈ys,∃ hb:Heap,@LE.le Nat _ (D' + 2) hb.objs.size∧PSet hb y h) :
    ∃ D0 vs0 l0 D1 vs1 l1,ys=[.ref D0,.ref D1]∧News g L h ((D0,tupO vs0)::(D1,tupO vs1)::news)∧IntsAre vs0 l0∧SetL l0∧IntsAre vs1 l1∧SetL l1∧@LT.lt Nat _ D' D0∧@LT.lt Nat _ D' D1:=by
  obtain ⟨y,y',rfl⟩:=ln2 hl
  obtain ⟨hb,h1,D0,vs0,l0,rfl,h2,h3,h4,h5⟩:=ha y (.head _)
  obtain ⟨hb',h1',D1,vs1,l1,rfl,h2',h3',h4',h5'⟩:=ha y' (.tail _ (.head _))
  exact ⟨D0,vs0,l0,D1,vs1,l1,rfl,news_late F (news_late F N (by omega) h3') (by omega) h3,h4,h5,h4',h5',by omega,by omega⟩
theorem pset_stay:∀ (hb:Heap) y (h h':Heap),PSet hb y h→(∀ b o,@LE.le Nat _ hb.objs.size b→h.get? b=some o→h'.get? b=some o)→PSet hb y h':=fun hb y h h' x k=>by
  obtain ⟨D,vs,l,e,h1,h2,h3⟩:=x
  exact ⟨D,vs,l,e,h1,k _ _ h1 h2,h3⟩
theorem pnum_stay:∀ (hb:Heap) y (h h':Heap),PNum hb y h→(∀ b o,@LE.le Nat _ hb.objs.size b→h.get? b=some o→h'.get? b=some o)→PNum hb y h':=fun hb y h h' x k=>x
theorem feed_nums {D':Nat}:∀ {ys:List Value},(∀ y∈ys,∃ hb:Heap,@LE.le Nat _ D' hb.objs.size∧PNum hb y h)→∃ ns,IntsAre ys ns
  | [],_=>⟨[],.nil⟩
  | y::ys,ha=>by
    obtain ⟨_,_,i,t,rfl⟩:=ha y (.head _)
    obtain ⟨ns,hn⟩:=feed_nums (ys:=ys) fun y hy=>ha y (.tail _ hy)
    exact ⟨i::ns,.cons i t hn⟩
theorem mul_three {a b:Int} (ha:0≤a∧a≤3) (hb:0≤b∧b≤3) (h:∀ M t tk,0≤M∧M≤9→Q (.int M t) { s with toks:=tk }) :
    wpAny (model prog w) A (binaryOp Operator.Mult (Value.int a t) (Value.int b u)) Q E s:=by
  refine mul_int (h _ _ _ ⟨Int.mul_nonneg ha.1 hb.1,?_⟩) (mul_small (by omega) (by omega))
  exact Int.le_trans (Int.mul_le_mul_of_nonneg_right ha.2 hb.1) (by omega)
theorem item_six {t:Addr} {i:Int} {t3 t4 t5:Tok} (ht:IsTup s.heap t [Value.int 0 t0,.int 0 t1,.int 0 t2,.int 0 t3,.int 1 t4,.int (-1) t5].toArray)
    (h0:0≤i) (h1:i≤5) (h:∀ d t',-1≤d∧d≤1→Q (.int d t') s)
    (hs:∀ k u,subscripted slice false (.ref t) (.int k u)=operate [.ref t,.int k u] (getItem (.ref t) (.int k u)):=by intro _ _;with_unfolding_all rfl) :
    wpAny (model prog w) A (subscriptTail value slice (.ref t) (.int i u)) Q E s:=by
  have h6:i=0∨i=1∨i=2∨i=3∨i=4∨i=5:=by omega
  rcases h6 with rfl|rfl|rfl|rfl|rfl|rfl <;> exact item_tupleT ht (by decide) (by decide) rfl rfl (h _ _ (by omega)) (hs _ _)
theorem mul_ten {b:Int} (hb:0≤b∧b≤100) (h:∀ t tk,Q (.int (10 * b) t) { s with toks:=tk }) :
    wpAny (model prog w) A (binaryOp Operator.Mult (Value.int 10 t) (Value.int b u)) Q E s:=mul_int (h _ _) (mul_small (by omega) (by omega))
theorem turn_end {c:Nat} {PF:Heap→Value→Heap→Prop} {h₃ h₄:Heap} {k₃ k₄:Int} {y:Value} {g:Heap} (K:Keep [fd] h₃ h₄) (N:News g L h₄ news) (m:(fd,o)∈news) (O:FeedO w o D k₄) (l1:k₃≤k₄) (l2:k₄≤k₃ + c) (P:PF h₃ y h₄) :
    FeedTurn w fd D c PF h₃ k₃ s₁ y { s₁ with heap:=h₄,toks:=tk }:=⟨h₄,tk,o,k₄,rfl,K,(N _ m).1,O,l1,l2,P⟩
theorem bud_pack {k0:Int} (_:FeedO w o D k) (_:IntsAre ys ns) (a:0≤k0) (b:k0 + (30:Nat)≤100000) (c:k0≤k) (d:k≤k0 + 20) (e:ns.length≤10):BudP k0 k ns:=⟨a,b,c,d,e⟩
theorem argsW_sets {A:Addr} {l1:List Int} (h:ArgsW A D0 D1 l0 l1 vs xs) (s0:SetL l0) (s1:SetL l1):SetsL xs:=by
  induction h with
  | nil=>intro l hl;cases hl
  | a _ ih=>intro l hl;rcases List.mem_cons.mp hl with e|hl;(cases e);exact ih l hl
  | s0 _ ih=>intro l hl;rcases List.mem_cons.mp hl with e|hl;(cases e;exact s0);exact ih l hl
  | s1 _ ih=>intro l hl;rcases List.mem_cons.mp hl with e|hl;(cases e;exact s1);exact ih l hl
  | n _ _ ih=>intro l hl;rcases List.mem_cons.mp hl with e|hl;(cases e);exact ih l hl
  | x _ _ ih=>intro l hl;rcases List.mem_cons.mp hl with e|hl;(cases e);exact ih l hl
theorem argsV_cons {c:Nat} {x:Arg} (h:ArgV objs R V vsV c v x) (r:ArgsV objs R V vsV c vs xs):ArgsV objs R V vsV c (v::vs) (x::xs):=by
  refine ⟨by simp [r.1],fun i v' x' hv hx=>?_⟩
  cases i with
  | zero=>cases hv;cases hx;exact h
  | succ i=>exact r.2 i v' x' hv hx
theorem argsW_V {A:Addr} {l1:List Int} {c:Nat} (h:ArgsW A D0 D1 l0 l1 vs xs) (mV:(V,listOf (List.toArray vsV) c)∈objs) (mA:(A,tupO [.ref R,.ref V])∈objs) (m0:(D0,tupO vs0)∈objs) (m1:(D1,tupO vs1)∈objs)
    (i0:IntsAre vs0 l0) (i1:IntsAre vs1 l1) (s0:SetL l0) (s1:SetL l1):ArgsV objs R V vsV c vs xs:=by
  induction h with
  | nil=>exact ⟨rfl,fun i v x hv hx=>by simp at hv⟩
  | a _ ih=>exact argsV_cons ⟨_,rfl,mA,mV⟩ ih
  | s0 _ ih=>exact argsV_cons ⟨_,_,rfl,m0,i0,Nat.le_trans s0.len (by decide)⟩ ih
  | s1 _ ih=>exact argsV_cons ⟨_,_,rfl,m1,i1,Nat.le_trans s1.len (by decide)⟩ ih
  | n t _ ih=>exact argsV_cons ⟨t,rfl⟩ ih
  | x t _ ih=>exact argsV_cons ⟨t,rfl⟩ ih
theorem pargs {g:Heap} {A:Addr} {l1:List Int} (N:News g L h' news) (mS:(S,listOf (List.toArray vs) cS)∈news) (mV:(V,listOf (List.toArray vsV) cV)∈news) (mA:(A,tupO [.ref R,.ref V])∈news) (m0:(D0,tupO vs0)∈news) (m1:(D1,tupO vs1)∈news)
    (bS:@LE.le Nat _ h.objs.size S) (bV:@LE.le Nat _ h.objs.size V) (bA:@LE.le Nat _ h.objs.size A) (b0:@LE.le Nat _ h.objs.size D0) (b1:@LE.le Nat _ h.objs.size D1) (hW:ArgsW A D0 D1 l0 l1 vs xs) (hl:0 < vs.length∧vs.length≤4)
    (hn:IntsAre vsV nsV) (hz:nsV.length≤10) (hq:IntsAre vs0 l0∧SetL l0∧IntsAre vs1 l1∧SetL l1):PArgs h (.ref S) h' :=
  let ⟨i0,s0,i1,s1⟩:=hq
  ⟨S,cS,vs,xs,R,V,cV,vsV,nsV,A,D0,D1,vs0,vs1,rfl,
    fc ⟨bS,(N _ mS).1⟩ (fc ⟨bV,(N _ mV).1⟩ (fc ⟨bA,(N _ mA).1⟩ (fc ⟨b0,(N _ m0).1⟩ (fc ⟨b1,(N _ m1).1⟩ (List.forall_mem_nil _))))),
    argsW_V hW (.tail _ (.head _)) (.tail _ (.tail _ (.head _))) (.tail _ (.tail _ (.tail _ (.head _)))) (.tail _ (.tail _ (.tail _ (.tail _ (.head _))))) i0 i1 s0 s1,hl.1,hl.2,hn,hz,argsW_sets hW s0 s1⟩
section
variable {prog:Program} {w:World} {A:Around} {E:Value→Shared→Prop} {s:Shared}
theorem eq_yes {a b:Int} (e:a=b) (h:Q (.bool true) s):wpAny (model prog w) A (compareOp .Eq (.int a t) (.int b u)) Q E s:=by subst e;exact PyProof.Rows.eq_int (by simpa using h)
theorem eq_no {a b:Int} (e:a≠b) (h:Q (.bool false) s):wpAny (model prog w) A (compareOp .Eq (.int a t) (.int b u)) Q E s:=PyProof.Rows.eq_int (by rw [beq_false_of_ne e];exact h)
variable {h₀:Heap} {L D:Addr} {m:Str→Option Value} {news n0 n1 n2:List (Addr×Obj)} {x y z v:Value} {n:Nat} {i:Int} {t:Tok} {Q:Unit→Shared→Prop}
theorem set_two (F:Fr h₀ L s.heap m) (N:News h₀ L s.heap news) (U0:Upd D (listOf (List.toArray [x,y]) n) (listOf (List.toArray [v,y]) n) news n0) (U1:Upd D (listOf (List.toArray [x,y]) n) (listOf (List.toArray [x,v]) n) news n1) (a:0≤i) (b:i≤1)
    (q0:∀ h',Fr h₀ L h' m→News h₀ L h' n0→Q () { s with heap:=h' }) (q1:∀ h',Fr h₀ L h' m→News h₀ L h' n1→Q () { s with heap:=h' }):wpAny (model prog w) A (setItem (.ref D) (.int i t) v) Q E s:=by
  have e:i=0∨i=1:=by omega
  rcases e with rfl|rfl
  · exact ki_set F N (by decide) (by decide) rfl U0 q0
  · exact ki_set F N (by decide) (by decide) rfl U1 q1
theorem set_three (F:Fr h₀ L s.heap m) (N:News h₀ L s.heap news) (U0:Upd D (listOf (List.toArray [x,y,z]) n) (listOf (List.toArray [v,y,z]) n) news n0) (U1:Upd D (listOf (List.toArray [x,y,z]) n) (listOf (List.toArray [x,v,z]) n) news n1) (U2:Upd D (listOf (List.toArray [x,y,z]) n) (listOf (List.toArray [x,y,v]) n) news n2) (a:0≤i) (b:i≤2)
    (q0:∀ h',Fr h₀ L h' m→News h₀ L h' n0→Q () { s with heap:=h' }) (q1:∀ h',Fr h₀ L h' m→News h₀ L h' n1→Q () { s with heap:=h' }) (q2:∀ h',Fr h₀ L h' m→News h₀ L h' n2→Q () { s with heap:=h' }):wpAny (model prog w) A (setItem (.ref D) (.int i t) v) Q E s:=by
  have e:i=0∨i=1∨i=2:=by omega
  rcases e with rfl|rfl|rfl
  · exact ki_set F N (by decide) (by decide) rfl U0 q0
  · exact ki_set F N (by decide) (by decide) rfl U1 q1
  · exact ki_set F N (by decide) (by decide) rfl U2 q2
end
theorem keepF (F:Fr (hideAll h0 [fd]) L h m):Keep [fd] h0 h:=fun b o e n=>F.keep _ _ (hideAll_get _ e n)
section
-- own rules of args
example:True:=by
  k_with "r159"=>(skip)
  k_with "r122"=>(skip)
  k_with "r123"=>(skip)
  k_with "r125"=>(skip)
  k_with "r151"=>(skip)
  k_with "r149"=>(skip)
  k_with "r155"=>(skip)
  k_with "r158"=>(skip)
  k_with "r152"=>(skip)
  k_with "r156"=>(skip)
  k_with "r115"=>(skip)
  k_with "r150"=>(skip)
  k_with "r153"=>(skip)
  k_with "r154"=>(skip)
  k_with "r157"=>(skip)
  k_with "w k_lt $h:ident"=>((fail_if_success k_extra "r160");k_extra "y40")
  k_with "w k_ne"=>((fail_if_success k_extra "r161");k_extra "y41")
  k_with "w leaving ref"=>((fail_if_success k_extra "r162");k_extra "y43")
  k_with "w Exists"=>((fail_if_success k_extra "r163");k_extra "y29")
  k_with "y98"=>(((case hd_|hu_=>first|exact Nat.le_of_ble_eq_true rfl|(dsimp only [Around.deeper];omega));(case W_|B_|F_|N_=>k_asm);(case U_=>k_updF);(case FO_|hS_|C_=>k_asm);(case k0_|k1_=>omega);k_whole;intro v' h' tk' o' k' P' F' N' K' O' l1' l2';(try dsimp only)))
  k_with "m usd"=>((fail_if_success k_extra "r164");k_extra "y98")
  k_with "y99"=>((k_here;k_dflt (first
  | (refine' DrawS.use (draw_ok _ _ _ ?h0_ ?h1_) rfl rfl rfl ?hd_ ?hu_ ?W_ ?B_ ?F_ ?N_ ?U_ rfl rfl ?FO_ ?hS_ ?C_ ?k0_ ?k1_ ?_;(case h0_|h1_=>decide);(case hd_|hu_=>first|exact Nat.le_of_ble_eq_true rfl|(dsimp only [Around.deeper];omega));(case W_|B_|F_|N_=>k_asm);(case U_=>k_updF);(case FO_|hS_|C_=>k_asm);(case k0_|k1_=>omega);k_whole;intro v' h' tk' o' k' P' F' N' K' O' l1' l2';(try dsimp only);(obtain ⟨i',t',e',b1',b2'⟩:=P');subst e';(try dsimp only at N'))
  | (refine' DrawS.use (lset_ok _) rfl rfl rfl ?hd_ ?hu_ ?W_ ?B_ ?F_ ?N_ ?U_ rfl rfl ?FO_ ?hS_ ?C_ ?k0_ ?k1_ ?_;(case hd_|hu_=>first|exact Nat.le_of_ble_eq_true rfl|(dsimp only [Around.deeper];omega));(case W_|B_|F_|N_=>k_asm);(case U_=>k_updF);(case FO_|hS_|C_=>k_asm);(case k0_|k1_=>omega);k_whole;intro v' h' tk' o' k' P' F' N' K' O' l1' l2';(try dsimp only);(try dsimp only at N')))))
  k_with "w call ref"=>((fail_if_success k_extra "r165");k_extra "y99")
  k_with "y100"=>((k_here;k_dflt (first
  | (refine' comp_feed 1 PNum pnum_stay rfl ?a_ ?b_ ?c_ ?d_ ?e_ ?F_ ?i_ ?_;(case F_=>k_asm);(case a_=>with_unfolding_all rfl);(case b_=>decide);(case c_=>exact rfl);(case d_=>decide);(case e_=>exact rfl);(case i_=>(intro _;with_unfolding_all rfl));skip))))
  k_with "w eval ListComp"=>((fail_if_success k_extra "r166");k_extra "y100")
  k_with "y101"=>((k_here;k_dflt (refine' comp_feedU 4 PSet pset_stay rfl rfl ?w_ ?y_ ?p_ ?a_ ?b_ ?c_ ?d_ ?e_ ?i_ ?_;(case w_=>with_unfolding_all rfl);(case y_|p_=>exact rfl);(case a_=>with_unfolding_all rfl);(case b_=>decide);(case c_=>exact rfl);(case d_=>decide);(case e_=>exact rfl);(case i_=>(intro _;with_unfolding_all rfl));skip)))
  k_with "w exec Assign cons ListComp"=>((fail_if_success k_extra "r167");k_extra "y101")
  k_with "y102"=>((k_here;(rename IsRange _ _ _ _ _ _ _ _=>hrg);k_dflt (refine' ⟨_,_,_,_,_,_,_,_,_,_,_,_,_,_,rfl,hrg,?hS_,?a_,?b_,?ab_,?F_,?N_,?U_,?FO_,?_,?_⟩;(case hS_=>assumption);(case a_|b_|ab_=>omega);(case F_|N_=>k_asm);(case U_=>k_updF);(case FO_=>k_asm);(intro i' t' h' tk' m' C' o' k' hi' F' N' O' l1' l2' K' hns hm;(try dsimp only);(try dsimp only at N');(try k_unmd);(try k_fold));rotate_left;(intro D' c' ys' h' tk' o' k' F' N' l1 lL' O' l1' l2' hl' ha';(try dsimp only);(try dsimp only at N');(try k_lt l1);(have hq':=feed_one F' N' hl' lL' ha');obtain ⟨D0',vs0',l0',e',N0',i0',s0',b0'⟩:=hq';subst e';clear N' ha' hl';(have q0':=SetL.len s0');(have qq':=And.intro i0' (And.intro s0' (And.intro i0' s0'))));rotate_right)))
  k_with "w FeedGoU"=>((fail_if_success k_extra "r168");k_extra "y102")
  k_with "y103"=>((k_here;(rename IsRange _ _ _ _ _ _ _ _=>hrg);k_dflt (refine' ⟨_,_,_,_,_,_,_,_,_,_,_,_,_,_,rfl,hrg,?hS_,?a_,?b_,?ab_,?F_,?N_,?U_,?FO_,?_,?_⟩;(case hS_=>assumption);(case a_|b_|ab_=>omega);(case F_|N_=>k_asm);(case U_=>k_updF);(case FO_=>k_asm);(intro i' t' h' tk' m' C' o' k' hi' F' N' O' l1' l2' K' hns hm;(try dsimp only);(try dsimp only at N');(try k_unmd);(try k_fold));rotate_left;(intro D' c' ys' h' tk' o' k' F' N' l1 lL' O' l1' l2' hl' ha';(try dsimp only);(try dsimp only at N');(try k_lt l1);(have hq':=feed_nums ha');obtain ⟨ns',hn'⟩:=hq';clear ha');rotate_right)))
  k_with "w FeedGo"=>((fail_if_success k_extra "r169");k_extra "y103")
  k_with "y104"=>((k_here;refine' turn_end ?K_ ?N_ ?m_ ?O_ ?a_ ?b_ ?P_;(case K_=>assumption);(case N_=>k_asm);(case m_=>k_mem);(case O_=>assumption);(case a_|b_=>omega);(case P_=>first|assumption|exact ⟨_,_,rfl⟩)))
  k_with "w FeedTurn"=>((fail_if_success k_extra "r170");k_extra "y104")
  k_with "y105"=>((k_here;k_dflt (refine' len_tupZ ?t_ ?i_ ?l_ ?_;(case t_=>exact News.isTup (by k_asm) (by k_mem));(case i_=>assumption);(case l_=>omega);k_whole)))
  k_with "w call builtin:len"=>((fail_if_success k_extra "r171");k_extra "y105")
  k_with "y106"=>((k_here;k_dflt (first|(refine' mul_three ?a_ ?b_ ?_;(case a_|b_=>omega);k_whole;intro M' t' tk' bM')|(refine' mul_ten ?b_ ?_;(case b_=>omega);k_whole;intro t' tk'))))
  k_with "w binaryOp Mult int int"=>((fail_if_success k_extra "r172");k_extra "y106")
  k_with "y107"=>((k_here;k_dflt (refine' item_six ?t_ ?a_ ?b_ ?_ ?hs_;(case t_=>exact News.isTup (by k_asm) (by k_mem));(case a_|b_=>omega);(case hs_=>(intro _ _;with_unfolding_all rfl));k_whole;intro d' t' bd')))
  k_with "w subscriptTail Tuple cons Call ref int"=>((fail_if_success k_extra "r173");k_extra "y107")
  k_with "y108"=>((first|(with_reducible refine eq_yes (by omega) ?_)|(with_reducible refine eq_no (by omega) ?_)|(with_reducible refine PyProof.Rows.eq_int ?_)))
  k_with "w compareOp Eq int int"=>((fail_if_success k_extra "r174");k_extra "y108")
  k_with "y109"=>((repeat (any_goals (first|with_reducible exact ArgsW.nil|with_reducible refine' ArgsW.a ?_|with_reducible refine' ArgsW.s0 ?_|with_reducible refine' ArgsW.s1 ?_|with_reducible refine' ArgsW.n _ ?_|with_reducible refine' ArgsW.x _ ?_))))
  k_with "m argsW"=>(k_extra "y109")
  k_with "y110"=>(k_extra "m sets")
  k_with "w setItem ref int int"=>((fail_if_success k_extra "r176");k_extra "y110")
  k_with "w setItem ref int str"=>((fail_if_success k_extra "r177");k_extra "y110")
  k_with "y111"=>((k_here;k_dflt (refine' set_two ?F_ ?N_ ?U_ ?V_ ?a_ ?b_ ?_ ?_;(case F_|N_=>k_asm);(case U_|V_=>k_upd);(case a_|b_=>omega);all_goals (intro h' F' N';(try dsimp only)))))
  k_with "m sets"=>((fail_if_success k_extra "r178");k_extra "y111")
  trivial
namespace Z
theorem args1_core:args1_P Z.w Z.tn Z.outer Z.base Z.s Z.Q Z.E Z.fd Z.D Z.o Z.k:=by
  intro W B ho FO hb hf hS C hk0 hk1 hret
  have hne:=FO.ne ho C
  have hN:∀ p∈[(fd,o)],s.heap.get? p.1=some p.2∧base.get? p.1=none∧p.1∉outer.filterMap (·.frame):=fc ⟨ho,hb,hf⟩ (List.forall_mem_nil _)
  k_extra "m fill"
  w_strict (
    (refine wpAny_call ?_)
    k_dflt (refine' enterC (binds:=[(Str.ofString "feed",.ref fd),(Str.ofString "name",.str (Str.ofString "array1d") tn)]) W B _ hN ?ho_ ?hcd_ ?hroom_ ?hbind_ ?hkind_ ?hnd_ ?_ ?c2_ ?c3_ ?c4_);
    (case ho_=>k_is);
    (case hcd_=>k_is);
    (case hroom_=>exact Nat.le_of_ble_eq_true rfl);
    (case hbind_=>exact BindsTo.of_eq rfl);
    (case hkind_=>exact kindsX rfl);
    (case hnd_=>decide +kernel);
    (case c2_=>exact rfl);
    (case c3_=>exact rfl);
    (case c4_=>exact rfl);
    intro L h₁ p loose mean mg mb cells F N Y Bl X T lt eL tk;subst eL;
    (dsimp only [List.map] at F N Bl X T);
    (obtain ⟨oc,hE,dc⟩:=CellsAre.one Y);
    subst hE;clear Y;
    (simp only [AllLt,and_true] at lt);
    (have eLN:@Eq Nat s.heap.objs.size s.heap.objs.size:=rfl);
    (have dc1:oc.data=.cell (some (.ref fd)):=dc);clear dc;
    (have C2:CellsAt (hideAll s.heap [fd]) D:=C.keep fun _ e=>hideAll_get _ e (by simp [hne]))
    (try simp only [List.cons_append,List.nil_append] at N);
    (try k_fold)
    repeat' ((fail_if_success (with_reducible show wpAny _ _ (binaryOp Operator.Add (Value.ref _) (Value.ref _)) _ _ _));first|(k_unfold;(try dsimp only))|(k_end;wrow_close)|walk1|(dsimp only;walk1)|(leave1;walk_say "STEP leave1";try dsimp only)|fail "no step")
    (rename FeedO _ _ _ _=>hF9)
    (rename IntsAre _ _=>hn9)
    (have hz9:=IntsAre.length hn9)
    (have hB9:=bud_pack (k0:=k) hF9 hn9 hk0 hk1 (by omega) (by clear hz9;split at * <;> omega) (by split at * <;> omega))
    (clear hz9)
    (repeat ((with_reducible rename @LE.le Int _ _ _=>hx9);clear hx9))
    (repeat ((with_reducible rename And (@LE.le Int _ _ _) _=>hx9);clear hx9))
    (repeat ((with_reducible rename List.length _=Int.toNat _=>hx9);clear hx9))
    (obtain ⟨hk0,hk1,hq0,hq1,hz9⟩:=hB9)
    k_steps
    all_goals (repeat (first|k_unfold|dsimp only))
    all_goals focus (
       refine' hret _ _ _ _ _ (pargs ?N_ ?mS_ ?mV_ ?mA_ ?m0_ ?m1_ ?bS_ ?bV_ ?bA_ ?b0_ ?b1_ ?hW_ ?hl_ ?hn_ ?hz_ ?hq_) (keepF (by k_asm)) ?get_ ?FO_ ?k0_ ?k1_;(case N_=>k_asm);(case hq_=>assumption);(case mS_|mA_|mV_|m0_|m1_=>k_mem);(case hW_=>k_extra "m argsW");(case bS_|bV_|bA_|b0_|b1_=>first|exact le_cell (by with_reducible assumption) (by k_mem)|exact le_cell2 (by with_reducible assumption) (by with_reducible assumption) (by k_mem)|omega);(case hl_=>exact ⟨Nat.le_of_ble_eq_true rfl,Nat.le_of_ble_eq_true rfl⟩);(case hn_|hz_=>assumption);(case get_=>exact News.get (by k_asm) (by k_mem));(case FO_=>assumption);(case k0_|k1_=>omega)))
end Z
end
section
-- own rules of args
example:True:=by
  k_with "r168"=>(skip)
  k_with "r178"=>(skip)
  k_with "y112"=>((k_here;(rename IsRange _ _ _ _ _ _ _ _=>hrg);k_dflt (refine' ⟨_,_,_,_,_,_,_,_,_,_,_,_,_,_,rfl,hrg,?hS_,?a_,?b_,?ab_,?F_,?N_,?U_,?FO_,?_,?_⟩;(case hS_=>assumption);(case a_|b_|ab_=>omega);(case F_|N_=>k_asm);(case U_=>k_updF);(case FO_=>k_asm);(intro i' t' h' tk' m' C' o' k' hi' F' N' O' l1' l2' K' hns hm;(try dsimp only);(try dsimp only at N');(try k_unmd);(try k_fold));rotate_left;(intro D' c' ys' h' tk' o' k' F' N' l1 lL' O' l1' l2' hl' ha';(try dsimp only);(try dsimp only at N');(try k_lt l1);(have hq':=feed_two F' N' hl' lL' ha');obtain ⟨D0',vs0',l0',D1',vs1',l1',e',N0',i0',s0',i1',s1',b0',b1'⟩:=hq';subst e';clear N' ha' hl';(have q0':=SetL.len s0');(have q1':=SetL.len s1');(have qq':=And.intro i0' (And.intro s0' (And.intro i1' s1'))));rotate_right)))
  k_with "w FeedGoU"=>((fail_if_success k_extra "r179");k_extra "y112")
  k_with "y113"=>((k_here;k_dflt (refine' set_three ?F_ ?N_ ?U_ ?V_ ?W_ ?a_ ?b_ ?_ ?_ ?_;(case F_|N_=>k_asm);(case U_|V_|W_=>k_upd);(case a_|b_=>omega);all_goals (intro h' F' N';(try dsimp only)))))
  k_with "m sets"=>(k_extra "y113")
  trivial
namespace Z
theorem args2_core:args2_P Z.w Z.tn Z.outer Z.base Z.s Z.Q Z.E Z.fd Z.D Z.o Z.k:=by
  intro W B ho FO hb hf hS C hk0 hk1 hret
  have hne:=FO.ne ho C
  have hN:∀ p∈[(fd,o)],s.heap.get? p.1=some p.2∧base.get? p.1=none∧p.1∉outer.filterMap (·.frame):=fc ⟨ho,hb,hf⟩ (List.forall_mem_nil _)
  k_extra "m fill"
  w_strict (
    (refine wpAny_call ?_)
    k_dflt (refine' enterC (binds:=[(Str.ofString "feed",.ref fd),(Str.ofString "name",.str (Str.ofString "array2d") tn)]) W B _ hN ?ho_ ?hcd_ ?hroom_ ?hbind_ ?hkind_ ?hnd_ ?_ ?c2_ ?c3_ ?c4_);
    (case ho_=>k_is);
    (case hcd_=>k_is);
    (case hroom_=>exact Nat.le_of_ble_eq_true rfl);
    (case hbind_=>exact BindsTo.of_eq rfl);
    (case hkind_=>exact kindsX rfl);
    (case hnd_=>decide +kernel);
    (case c2_=>exact rfl);
    (case c3_=>exact rfl);
    (case c4_=>exact rfl);
    intro L h₁ p loose mean mg mb cells F N Y Bl X T lt eL tk;subst eL;
    (dsimp only [List.map] at F N Bl X T);
    (obtain ⟨oc,hE,dc⟩:=CellsAre.one Y);
    subst hE;clear Y;
    (simp only [AllLt,and_true] at lt);
    (have eLN:@Eq Nat s.heap.objs.size s.heap.objs.size:=rfl);
    (have dc1:oc.data=.cell (some (.ref fd)):=dc);clear dc;
    (have C2:CellsAt (hideAll s.heap [fd]) D:=C.keep fun _ e=>hideAll_get _ e (by simp [hne]))
    (try simp only [List.cons_append,List.nil_append] at N);
    (try k_fold)
    repeat' ((fail_if_success (with_reducible show wpAny _ _ (binaryOp Operator.Add (Value.ref _) (Value.ref _)) _ _ _));first|(k_unfold;(try dsimp only))|(k_end;wrow_close)|walk1|(dsimp only;walk1)|(leave1;walk_say "STEP leave1";try dsimp only)|fail "no step")
    (rename FeedO _ _ _ _=>hF9)
    (rename IntsAre _ _=>hn9)
    (have hz9:=IntsAre.length hn9)
    (have hB9:=bud_pack (k0:=k) hF9 hn9 hk0 hk1 (by omega) (by clear hz9;split at * <;> omega) (by split at * <;> omega))
    (clear hz9)
    (repeat ((with_reducible rename @LE.le Int _ _ _=>hx9);clear hx9))
    (repeat ((with_reducible rename And (@LE.le Int _ _ _) _=>hx9);clear hx9))
    (repeat ((with_reducible rename List.length _=Int.toNat _=>hx9);clear hx9))
    (obtain ⟨hk0,hk1,hq0,hq1,hz9⟩:=hB9)
    k_steps
    all_goals (repeat (first|k_unfold|dsimp only))
    all_goals focus (
       refine' hret _ _ _ _ _ (pargs ?N_ ?mS_ ?mV_ ?mA_ ?m0_ ?m1_ ?bS_ ?bV_ ?bA_ ?b0_ ?b1_ ?hW_ ?hl_ ?hn_ ?hz_ ?hq_) (keepF (by k_asm)) ?get_ ?FO_ ?k0_ ?k1_;(case N_=>k_asm);(case hq_=>assumption);(case mS_|mA_|mV_|m0_|m1_=>k_mem);(case hW_=>k_extra "m argsW");(case bS_|bV_|bA_|b0_|b1_=>first|exact le_cell (by with_reducible assumption) (by k_mem)|exact le_cell2 (by with_reducible assumption) (by with_reducible assumption) (by k_mem)|omega);(case hl_=>exact ⟨Nat.le_of_ble_eq_true rfl,Nat.le_of_ble_eq_true rfl⟩);(case hn_|hz_=>assumption);(case get_=>exact News.get (by k_asm) (by k_mem));(case FO_=>assumption);(case k0_|k1_=>omega)))
end Z
theorem zu22:Up 22:=zu21.step (by with_unfolding_all exact Z.args1_core)
theorem args1 (w:World) (tn:Tok):DrawS w 18 439 (fun fd=>[.ref fd,.str (Str.ofString "array1d") tn]) 30 PArgs :=
  fun outer base s Q E fd D o k=>zu22.at { Zd with w,tn,outer,base,s,Q,E,fd,D,o,k } 
theorem zu23:Up 23:=zu22.step (by with_unfolding_all exact Z.args2_core)
theorem args2 (w:World) (tn:Tok):DrawS w 18 439 (fun fd=>[.ref fd,.str (Str.ofString "array2d") tn]) 30 PArgs :=
  fun outer base s Q E fd D o k=>zu23.at { Zd with w,tn,outer,base,s,Q,E,fd,D,o,k } 
end
example:True:=by
  k_with "r86"=>(skip)
  k_with "r160"=>(skip)
  k_with "r161"=>(skip)
  trivial
theorem allNeN_of {d:Addr} (hd:h.get? d=none):∀ {news:List (Addr×Obj)},News h₀ L h news→AllNeN d news
  | [],_=>trivial
  | p::r,N=>⟨(fun z=>by have:=(N p (.head _)).1;rw [show p.1=d from z,hd] at this;cases this),allNeN_of hd fun q hq=>N q (.tail _ hq)⟩
theorem size_fr {g:Heap} (F:Fr g L h m) (e:L=h0.objs.size):@LE.le Nat _ h0.objs.size h.objs.size:=by rw [← e];exact Nat.le_of_lt F.ns.lt
section
example:True:=by
  k_with "r146"=>(skip)
  k_with "r165"=>(skip)
  k_with "r162"=>(skip)
  k_with "r16"=>(skip)
  k_with "r163"=>(skip)
  k_with "r171"=>(skip)
  k_with "r131"=>(skip)
  k_with "r166"=>(skip)
  k_with "r172"=>(skip)
  k_with "r167"=>(skip)
  k_with "r179"=>(skip)
  k_with "r169"=>(skip)
  k_with "r170"=>(skip)
  k_with "r173"=>(skip)
  k_with "r174"=>(skip)
  k_with "r176"=>(skip)
  k_with "r177"=>(skip)
  k_with "y114"=>((k_here;k_dflt (refine' wpAny_Try_except ?_)))
  k_with "w exec Try"=>((fail_if_success k_extra "r181");k_extra "y114")
  trivial
namespace Z.Z5
theorem heardH_ok_core:heardH_ok_P Z.w Z.outer Z.base Z.s Z.Q Z.E Z.Z5.c Z.Z5.cl Z.Z5.dct Z.okV Z.flt:=by
  intro fd sl W B hc hcall hret hret2
  k_extra "m fill"
  w_strict (
    (refine wpAny_call ?_);
    k_dflt (refine' enter W B [] ?k0_ ?ho_ ?hcd_ ?hroom_ ?hbind_ ?hloc_ ?_ ?c1_ ?c2_ ?c3_ ?c4_);
    (case k0_=>exact fun _ h=>nomatch h);
    (case ho_=>k_is);
    (case hcd_=>k_is);
    (case hroom_=>exact Nat.le_of_ble_eq_true rfl);
    (case hbind_=>exact BindsTo.of_eq rfl);
    (case hloc_=>exact locs rfl);
    (case c1_=>decide);
    (case c2_=>exact rfl);
    (case c3_=>exact rfl);
    (case c4_=>exact rfl);
    intro L h₁ p loose mean mg mb F N Bl X T lt eL tk;
    (dsimp only [List.map,hideAll] at F N Bl X T);
    (try k_fold)
    k_steps
    (refine callWith_of (P:=fun h=>h.get? c=some ⟨cl,dct,.func fd,sl⟩) rfl (fun h e=>⟨.frame,.inl rfl,fn_keeper e⟩) (evalArgs_nil3 ⟨F.keep _ _ hc,?_⟩))
    (refine wpAny_ak rfl rfl (Nat.le_of_ble_eq_true rfl) (Nat.le_of_ble_eq_true rfl) (hcall _ _ rfl (kts_self F) _ _ _ (fun b o e _=>Fr.keep (by assumption) b o e) (size_fr (by assumption) eL) (below_at (by assumption) (by assumption) rfl rfl) (fun v h' tk okv hk=>?_) fun e dd sp h' tk hf hr hu hff fl=>?_))
    · (repeat (first|k_unfold|dsimp only))
      exact hret _ _ _ okv (fun b o e n=>hk _ _ (F.keep _ _ e) n)
    · have hL:s.heap.get? L=none:=kts_self F
      have hr0:RelS (FrOf outer) s.heap h':=⟨fun b o e' nm=>hr.keep b o (F.keep b o e') (fun hm=>by
          have hLo:∀ env:Env,env.frame=some L→FrOf (env::outer)=L::FrOf outer:=fun env hf=>by unfold FrOf;rw [List.filterMap_cons,hf]
          rw [hLo _ rfl] at hm
          rcases List.mem_cons.mp hm with z|z
          · rw [z,hL] at e';cases e'
          · exact nm z),fun b o e'=>hr.slot b o (F.keep b o e')⟩
      have fl0:FlT s.heap h' e dd sp:=FlT.lower F.keep fl
      refine noteFrame_ok rfl rfl hff hr0 hL (.inr fl0) fun h2 r2 u2 f2 fl2=>?_
      refine setFlight_ok (l:=_::outer) f2 r2 fl2 none fun h3 r3 u3 f3 fl3=>?_
      refine wpAny_handleBy_cons (codeAny_handlers_test ?_) (by intro q;cases q)
      obtain ⟨g2,rg2,T2,F2,B2⟩:=reground Bl (u3.ns (u2.ns (hu.ns F.ns))) F.above r3
      have X2:=W.K.keeps B2.stays
      obtain ⟨p2,loose2,mean2,mg2,mb2,Tp2⟩:=W.top
      have TT2:=Tp2.keeps B2.stays
      have F0:=F
      have Bl0:=Bl
      clear F N Bl X T
      k_steps
      have X3:=X2.keeps F2.keep
      obtain ⟨vs3,he3⟩:∃ vs3,h3.get? e=some (excD (some dd) vs3):=by obtain ⟨_,_,_,vs3,_,_,_,he3,_⟩:=fl3;exact ⟨vs3,he3⟩
      refine matches_ownS X3 he3 ?_
      show codeAny _ _ _ _ _
      refine codeAny_handlers_suite_as ?_
      refine setFlight_ok (l:=_::outer) f3 r3 fl3 none fun h4 r4 u4 f4 fl4=>?_
      obtain ⟨g4,rg4,T4,F4,B4⟩:=reground Bl0 (u4.ns (u3.ns (u2.ns (hu.ns F0.ns)))) F0.above r4
      have X4:=W.K.keeps B4.stays
      have TT4:=Tp2.keeps B4.stays
      clear F2 B2 X2 TT2 T2 rg2 X3
      obtain ⟨ge,gd,⟨hw,tw,vw,hs,ts',tv,nn,sld,hdd⟩,vs4,T4',oT4,ts4,he4,_⟩:=fl4
      have N4:News g4 L h4 [(e,excD (some dd) vs4),(dd,⟨.type "dict",none,.dict [⟨hw,.str (Str.ofString "what") tw,vw⟩,⟨hs,.str (Str.ofString "spot") ts',.int sp tv⟩].toArray nn,sld⟩)]:=by
        obtain ⟨oL,_,_,hoL,_⟩:=F0.ns
        intro p hp
        rcases List.mem_cons.mp hp with rfl|hp
        · exact ⟨he4,(fun (z:e=L)=>by have h9:h₁.get? e=none:=fl.1;rw [z,hoL] at h9;cases h9),T4.none_ _ ge⟩
        · rw [List.mem_singleton.mp hp]
          exact ⟨hdd,(fun (z:dd=L)=>by have h9:h₁.get? dd=none:=fl.2.1;rw [z,hoL] at h9;cases h9),T4.none_ _ gd⟩
      k_steps
      k_here
      k_dflt (refine' spot_attrS ?F_ ?N_ X4 ?he_ ?hd_ ?_)
      (case F_|N_=>k_asm)
      (case he_|hd_=>k_mem)
      intro tv5
      k_steps
      (repeat (first|k_unfold|dsimp only))
      refine hret2 _ _ _ sp hf ⟨fun b o e n=>Fr.keep (by assumption) _ _ (rg4.keep b o e n),fun b o e=>(rg4.slot b o e).imp fun _ q=>Fr.keep (by assumption) _ _ q⟩ (B4.frames.of_keeps fun b o e _=>⟨_,Fr.keep (by assumption) _ _ e,rfl⟩) (rg4.none (News.fresh (by assumption) (by k_mem))) ⟨_,_,News.get (by assumption) (by k_mem)⟩)
end Z.Z5
theorem zu24:Up 24:=zu23.step (by with_unfolding_all exact Z.Z5.heardH_ok_core)
theorem heardH_ok (w:World) (outer:List Env) (base:Heap) (s:Shared) (Q E:Value→Shared→Prop) (c:Addr) (fd:FuncData) (cl:Value) (dct:Option Addr) (sl:Array (Option Value)) (okV:Value→Heap→Prop) (flt:Int→Prop) (W:Wd w base) (B:Below (Ak 60 outer) base outer s.heap) (hc:s.heap.get? c=some ⟨cl,dct,.func fd,sl⟩) (hcall:∀ env L,env.frame=some L→s.heap.get? L=none→RaiseAtH w (Ak 58 (env::outer)) base (env::outer) s.heap (call (.ref c) []) okV flt) (hret:∀ v h' tk,okV v h'→Keep [] s.heap h'→Q v { s with heap:=h',toks:=tk }) (hret2:∀ tu h' tk sp,flt sp→RelS (FrOf outer) s.heap h'→h'.FunFrames base outer→s.heap.get? tu=none→FaultT h' tu sp→Q (.ref tu) { s with heap:=h',toks:=tk }):wpAny (model PySem.Challenge.rw_nz0031_01.row.prog w) (Ak 60 outer) (call (.ref 415) [.ref c]) Q E s :=
  zu24.at { Zd with w,outer,base,s,Q,E,r:={ Zd.r with c_1:=c,cl_1:=cl,dct_1:=dct,okV,flt } } fd sl W B hc hcall hret hret2
end
theorem objs_of_news {g:Heap} (B:Below A₀ base outer g) (N:News g L h news) (hf:env.frame=some L) (hm:∀ p∈objs,p∈news):Objs base (env::outer) h objs:=by
  intro p hp
  have n:=N p (hm p hp)
  refine ⟨n.1,?_,fun hq=>?_⟩
  · cases q:base.get? p.1 with
    | none=>rfl
    | some o=>have:=B.stays _ _ q;rw [n.2.2] at this;cases this
  · rw [List.filterMap_cons,hf] at hq
    rcases List.mem_cons.mp hq with e|hq
    · exact n.2.1 e
    · obtain ⟨_,ob,hob,_⟩:=B.frames.mem hq
      rw [n.2.2] at hob;cases hob
theorem heardH_use {okV:Value→Heap→Prop} {c:Addr} {fd:FuncData} {cl:Value} {dct:Option Addr} 
    {g:Heap} 
    (hA:A.handled=none) (hfr:A.frames=some (env::outer)) (hd:A.depth≤900 - 6 * 60) (hu:A.units≤9000 - 99 * 60)
    (W:Wd w base) (B:Below A₀ base outer g) (F:Fr g L s.heap m) (N:News g L s.heap news) (hf:env.frame=some L) (hk:env.scope.kind=.function)
    (hc:(c,(⟨cl,dct,.func fd,sl⟩:Obj))∈news)
    (hcall:∀ env' L',env'.frame=some L'→s.heap.get? L'=none→RaiseAtH w (Ak 58 (env'::env::outer)) base (env'::env::outer) s.heap (call (.ref c) []) okV flt)
    (h:∀ v h' tk,okV v h'→Fr g L h' m→News g L h' news→Q v { s with heap:=h',toks:=tk })
    (hx:∀ tu t1 t2 sp g' h' tk,flt sp→RelS (FrOf outer) g g'→Fr g' L h' m→News g' L h' ((tu,tupO [.str (Str.ofString "fault") t1,.int sp t2])::news)→AllNeN tu news→Below A₀ base outer g'→Q (.ref tu) { s with heap:=h',toks:=tk }) :
    wpAny (model PySem.Challenge.rw_nz0031_01.row.prog w) A (call (.ref 415) [.ref c]) Q E s:=by
  have hB:=below_at (n:=60) B F hf hk
  refine wpAny_ak hA hfr hd hu (heardH_ok w _ base s Q E c fd cl dct sl okV flt W hB (N _ hc).1 hcall
    (fun v h' tk o k=>h v h' tk o (fr_keep F k fun _ h=>nomatch h) (fun p hp=>⟨k _ _ (N p hp).1 (fun h=>nomatch h),(N p hp).2⟩))
    fun tu h' tk sp o r ff hn ht=>?_)
  obtain ⟨t1,t2,ht⟩:=ht
  obtain ⟨g',rg,T,F',B'⟩:=reground B (relS_ns F.ns r) F.above (relS_call F hf r)
  have hL:tu≠L:=by
    obtain ⟨o,_,_,e,_⟩:=F.ns
    rintro rfl
    rw [hn] at e;cases e
  refine hx tu t1 t2 sp g' h' tk o rg F' (fun p hp=>?_) (allNeN_of hn N) B'
  rcases List.mem_cons.mp hp with rfl|hp
  · exact ⟨ht,hL,T.none_ _ (kts_none F.keep hn)⟩
  · have n:=N p hp
    refine ⟨r.keep _ _ n.1 fun hm=>?_,n.2.1,T.none_ _ n.2.2⟩
    have hLo:FrOf (env::outer)=L::FrOf outer:=by unfold FrOf;rw [List.filterMap_cons,hf]
    rw [hLo] at hm
    rcases List.mem_cons.mp hm with z|z
    · exact n.2.1 z
    · obtain ⟨_,ob,hob,_⟩:=B.frames.mem z
      rw [n.2.2] at hob;cases hob
example:True:=by
  k_with "w omega"=>((fail_if_success k_extra "r182");k_extra "y0")
  trivial
theorem up_of {g:Heap} (r:RelS fr g h):g.UpToSlots h:=fun b o e _=>r.slot b o e
theorem OfS.useN {f:Addr} (S:OfS w base n f vs objs okV flt)
    {g:Heap} 
    (hvs:vs'=vs) (hA:A.handled=none) (hfr:A.frames=some (env::outer)) (hd:A.depth≤900 - 6 * n) (hu:A.units≤9000 - 99 * n)
    (hm:∀ p∈objs,p∈news) (B:Below A₀ base outer g) (F:Fr g L s.heap m) (N:News g L s.heap news) (hL:h0.get? L=none) (K0:∀ b o,h0.get? b=some o→s.heap.get? b=some o) (hf:env.frame=some L) (hk:env.scope.kind=.function)
    (h:∀ v h' tk,okV v→Keep [] s.heap h'→Q v { s with heap:=h',toks:=tk })
    (hx:∀ e dd sp h' tk,flt sp→RelS (FrOf outer) h0 h'→h'.FunFrames base (env::outer)→FlT h0 h' e dd sp→h0.get? L=none→E (.ref e) { s with heap:=h',toks:=tk }) :
    wpAny (model PySem.Challenge.rw_nz0031_01.row.prog w) A (call (.ref f) vs') Q E s:=by
  subst hvs
  refine wpAny_ak hA hfr hd hu (S _ Q E s (below_at B F hf hk) (objs_of_news B N hf hm) (fun v h' tk o k=>h v h' tk o k)
    fun e dd sp h' tk o r ff fl=>hx e dd sp h' tk o ?_ ff (fl.lower K0) hL)
  refine ⟨fun b o e nm=>r.keep b o (K0 b o e) fun hm=>?_,fun b o e=>r.slot b o (K0 b o e)⟩
  have hLo:FrOf (env::outer)=L::FrOf outer:=by unfold FrOf;rw [List.filterMap_cons,hf]
  rw [hLo] at hm
  rcases List.mem_cons.mp hm with z|z
  · rw [z,hL] at e;cases e
  · exact nm z
section
example:True:=by
  k_with "r147"=>(skip)
  k_with "r148"=>(skip)
  k_with "r181"=>(skip)
  k_with "w leaving ref"=>((fail_if_success k_extra "r183");k_extra "y11")
  k_with "w exec Raise some none"=>((fail_if_success k_extra "r184");k_extra "y12")
  k_with "w Exists"=>((fail_if_success k_extra "r185");k_extra "y13")
  k_with "w subscriptTail Name Constant ref int"=>((fail_if_success k_extra "r186");k_extra "y15")
  k_with "m enter"=>((fail_if_success k_extra "r187");k_extra "y20")
  k_with "m enterH"=>((fail_if_success k_extra "r188");k_extra "y21")
  k_with "w eval Call"=>((fail_if_success k_extra "r189");k_extra "y24")
  k_with "y115"=>(((repeat (refine fc (by k_mem) ?_));first|exact List.forall_mem_nil _|(intro p9 hp9;repeat (first|exact hp9|refine List.mem_cons_of_mem _ ?_))))
  k_with "m memsT"=>(k_extra "y115")
  k_with "y116"=>((k_here;(with_reducible show wpAny _ _ (eval (PySem.Expr.Name _ _) (envX _ _ _ _ _ _)) _ _ _);k_dflt (refine' nameX_F ?N_ ?c_ ?m_ ?d_ ?_ ?a_ ?b_;(case c_=>first|assumption|rfl);(case a_|b_=>rfl);(case N_=>k_asm);(case m_=>k_mem);(case d_=>k_asm);k_whole)))
  k_with "w eval Name"=>((fail_if_success k_extra "r191");k_extra "y116")
  k_with "w eval Call Attribute"=>((fail_if_success k_extra "r192");k_extra "y56")
  k_with "y117"=>((k_here;(rename ∀ _ _ _ _ _ _ _,OfS _ _ _ _ _ _ _ _=>hEv9);k_dflt (refine' OfS.useN (hEv9 _ _ _ _ _ _ _) rfl rfl rfl ?hd_ ?hu_ ?mm_ ?B_ ?F_ ?N_ ?hL_ ?K0_ rfl rfl (fun v' h' tk' c' k'=>?_) (fun e' dd' sp' h' tk' c' r' ff' fl' z'=>?_);(case F_|N_|B_=>k_asm);(case mm_=>k_extra "m memsT");(case hd_|hu_=>exact Nat.le_of_ble_eq_true rfl);(case hL_=>exact self_none (by assumption));(case K0_=>exact keepO (by assumption) (by assumption) (by assumption) (by k_extra "m memsT"));k_whole)))
  k_with "w call ref"=>((fail_if_success k_extra "r193");k_extra "y117")
  trivial
theorem at_call (w:World) (outer:List Env) (base h0:Heap) (W:Wd w base) (f c' cr cn self sd dct nodes:Addr) (or on:Obj) (tsd:Tok) (name qual:Str) (p:Arguments) (bd:PySem.Expr) (sc:Scope) (cl:List (Str×Addr)) (pm ctv:Value) (objs:List (Addr×Obj)) (okV:Value→Prop) (flt:Int→Prop)
    (hlam:lamAt w=some (p,bd,sc)) (hlr:cl.lookup (Str.ofString "reader")=some cr) (hln:cl.lookup (Str.ofString "nodes")=some cn)
    (O:Objs base outer h0 ((f,kla_obj name qual p bd sc cl pm c' ctv)::(cr,or)::(cn,on)::(self,instObj 356 sd)::(sd,sdO w dct tsd)::objs))
    (hdr:or.data=.cell (some (.ref self))) (hdn:on.data=.cell (some (.ref nodes))) (hcr:h0.CodeRec (.ref c') qual)
    (hEv:∀ nName node t0 t1 u0 u1 u2,OfS w base 32 282 [.ref self,.ref node] ((node,tupO [.str (Str.ofString "index") t0,.int 5 t1,.ref nName,.ref nodes])::(nName,tupO [.str (Str.ofString "name") u0,.int 2 u1,.str (Str.ofString "a") u2])::(self,instObj 356 sd)::(sd,sdO w dct tsd)::objs) okV flt) :
    RaiseAtH w (Ak 58 outer) base outer h0 (call (.ref f) []) (fun v _=>okV v) flt:=by
  intro Q E s K0 _ B hret hflt
  have hN:∀ (q:Addr×Obj),q∈_→s.heap.get? q.1=some q.2∧base.get? q.1=none∧q.1∉outer.filterMap (·.frame):=fun (q:Addr×Obj) hq=>⟨K0 q.1 q.2 (O q hq).1 List.not_mem_nil,(O q hq).2⟩
  have hcr':s.heap.CodeRec (.ref c') qual:=hcr.keeps fun b o e=>K0 _ _ e List.not_mem_nil
  clear O K0 hcr
  have hlam2:some (_,_,_)=some (p,bd,sc):=hlam
  clear hlam
  cases hlam2
  k_extra "m fill"
  w_strict (
    (refine wpAny_call ?_);
    k_dflt (refine' enterE W B _ hN ?ho_ hcr' ?hroom_ ?hbind_ ?hloc_ ?_ ?c1_ ?c2_ ?c3_ ?c4_);
    (case ho_=>exact (hN _ (List.mem_cons_self ..)).1);
    (case hroom_=>exact Nat.le_of_ble_eq_true rfl);
    (case hbind_=>exact rfl);
    (case hloc_=>exact fun _ h=>nomatch h);
    (case c1_=>decide);
    (case c2_=>exact rfl);
    (case c3_=>exact rfl);
    (case c4_=>exact rfl);
    intro L h₁ p loose mean mg mb F N Bl X T lt eL tk;
    (dsimp only [List.map] at F N Bl X T);
    (try k_fold);
    k_steps
    all_goals (repeat (first|k_unfold|dsimp only))
    all_goals first
      | exact hret _ _ _ (by assumption) (Keep.trans (fun b o e _=>keepO hN (by assumption) (by assumption) (by k_extra "m memsT") b o e) (by assumption))
      | exact hflt _ _ _ _ _ (by assumption) (by assumption) (up_of (by assumption)) (by assumption) (by assumption))
end
namespace Z.Z2
theorem comp_nodes_core:comp_nodes_P Z.w Z.Z2.A Z.env Z.s Z.Q Z.E Z.L Z.x Z.iter Z.px Z.pos Z.q1 Z.q2 Z.q3 Z.q4 Z.k1 Z.k2 Z.k3 Z.scope Z.cl Z.g₀ Z.m₀:=by
  intro hA hclos hcell hks hnames hx hd _hF hs h
  rw [eval_ListComp]
  refine wpAny_comprehension_free (use:=none) rfl hs hclos hks hnames (wpAny_mono h (fun xv s₁ h₁=>?_) fun _ _ e=>e)
  obtain ⟨T,c,vs,g,m,news,rfl,F,N,hT,hl20,hQ⟩:=h₁
  have hTl:s₁.heap.IsList T (List.toArray vs):=⟨_,(N _ hT).1,rfl,c,rfl⟩
  refine wpAny_pyIter_list hTl ?_
  have hTlt:T < s₁.heap.objs.size:=Heap.lt_size (N _ hT).1
  have hLlt:L < s₁.heap.objs.size:=F.ns.lt
  generalize hIo:({ cls:=.type "list_iterator",data:=.fields #[.ref T,.int 0 0] }:Obj)=io
  have hit:(s₁.heap.push io).IsListIter s₁.heap.objs.size T 0:=by subst hIo;exact ⟨_,Heap.get?_push_size _ rfl,rfl,rfl⟩
  have hsz:(s₁.heap.push io).objs.size=s₁.heap.objs.size + 1:=Heap.size_push ..
  have below:∀ b o,s₁.heap.get? b=some o→b∉[s₁.heap.objs.size]∧b≠(s₁.heap.push io).objs.size∧b≠(s₁.heap.push io).objs.size + 1:=fun b o e=>by
    have hb:=Heap.lt_size e
    rw [hsz]
    exact ⟨fun hm=>Nat.ne_of_lt hb (List.mem_singleton.mp hm),Nat.ne_of_lt (Nat.lt_succ_of_lt hb),Nat.ne_of_lt (Nat.lt_succ_of_lt (Nat.lt_succ_of_lt hb))⟩
  have hDlt:∀ b o,s₁.heap.get? b=some o→b < (s₁.heap.push io).objs.size:=fun b o e=>by rw [hsz];exact Nat.lt_succ_of_lt (Heap.lt_size e)
  refine compW (s₂:={ s₁ with heap:=s₁.heap.push io }) (fun i ys h=>(∀ b o,s₁.heap.get? b=some o→h.get? b=some o)∧ys.length=i∧∀ (j:Nat) v,j < i→vs[j]?=some v→∃ y,ys[j]?=some y∧NodeAt (s₁.heap.objs.size + 3) h v y) (Walks.list hA s₁.heap.objs.size T (Nat.ne_of_lt hTlt) (List.toArray vs)) (by simp only [List.size_toArray];omega) hcell hks hx
    ⟨hit,hTl.at fun o e=>Heap.get?_push_of_some _ e⟩ (fun b hb=>?_) (fun i ys h h' hk hJ=>⟨fun b o e=>hk b o (below b o e).1 (below b o e).2.1 (below b o e).2.2 (hJ.1 b o e),hJ.2.1,fun j v hj hv=>?_⟩)
    (fun h' hk=>⟨fun b o e=>hk b o (Heap.get?_push_of_some _ e),rfl,fun j v hj=>absurd hj (Nat.not_lt_zero _)⟩) (fun i v ys h₃ tk m₃ hi hP hJ hns hm hyl hst hpl=>?_) (fun ys h' tk hJ hpl hyl=>?_)
  · rw [hsz]
    rcases List.mem_cons.mp hb with rfl|hb
    · exact Nat.lt_succ_self _
    · rw [List.mem_singleton.mp hb];exact Nat.lt_succ_of_lt hTlt
  · obtain ⟨y,hy,n,a,b,e,hn,hg⟩:=hJ.2.2 j v hj hv
    refine ⟨y,hy,n,a,b,e,hn,hk n _ ?_ ?_ ?_ hg⟩
    · intro hm
      rw [List.mem_singleton.mp hm] at hn
      omega
    · have h9:@Ne Nat n (s₁.heap.push io).objs.size:=by rw [hsz];omega
      exact h9
    · have h9:@Ne Nat n ((s₁.heap.push io).objs.size + 1):=by rw [hsz];omega
      exact h9
  · have hiv:vs[i]?=some v:=by simpa using hP
    have hCl:@LT.lt Nat _ ((s₁.heap.push io).objs.size + 1) h₃.objs.size:=hns.lt
    rw [hsz] at hCl
    refine Tuple_ (spliced_more (Constant_str (spliced_more (wpAny_Constant_int (spliced_more (nameZ_L (env:=env) hns hm hks (lookup_relabel_local hx) (spliced_none ?_) hd))))))
    refine wpAny_newTuple ?_
    refine ⟨_,_,rfl,⟨fun b o e=>Heap.get?_push_of_some _ (hJ.1 b o e),by simp [hJ.2.1],fun j u hj hu=>?_⟩,fun b o _ e=>Heap.get?_push_of_some _ e⟩
    rcases Nat.lt_succ_iff_lt_or_eq.mp hj with hj|rfl
    · obtain ⟨y,hy,n,a,b,e,hn,hg⟩:=hJ.2.2 j u hj hu
      exact ⟨y,by rw [List.getElem?_append_left (by rw [hJ.2.1];exact hj)];exact hy,n,a,b,e,hn,Heap.get?_push_of_some _ hg⟩
    · rw [hiv] at hu;cases hu
      exact ⟨_,by rw [List.getElem?_append_right (by rw [hJ.2.1];exact Nat.le_refl _),hJ.2.1,Nat.sub_self];rfl,_,_,_,rfl,(show @LE.le Nat _ (s₁.heap.objs.size + 3) h₃.objs.size by omega),Heap.get?_push_size _ rfl⟩
  · obtain ⟨c',hD⟩:=hpl
    have F':Fr g L h' m:=F.keeps hJ.1
    have hDL:(s₁.heap.push io).objs.size≠L:=Nat.ne_of_gt (by rw [hsz];exact Nat.lt_succ_of_lt hLlt)
    refine hQ _ c' ys h' tk F' (fun p hp=>?_) (fun p hp=>hDlt _ _ (N p hp).1) (by rw [hsz];exact Nat.lt_succ_of_lt hLlt) (by simpa using hyl) (fun j v hv=>?_)
    · rcases List.mem_cons.mp hp with rfl|hp
      · refine ⟨hD,hDL,?_⟩
        cases q:g.get? (s₁.heap.push io).objs.size with
        | none=>rfl
        | some o=>exact absurd (hDlt _ _ (F.keep _ _ q)) (Nat.lt_irrefl _)
      · exact ⟨hJ.1 _ _ (N p hp).1,(N p hp).2⟩
    · obtain ⟨hjl,_⟩:=List.getElem?_eq_some_iff.mp hv
      obtain ⟨y,hy,r⟩:=hJ.2.2 j v (by simpa using hjl) hv
      refine ⟨y,hy,?_⟩
      rw [hsz]
      exact r
end Z.Z2
theorem zu25:Up 25:=zu24.step (by with_unfolding_all exact Z.Z2.comp_nodes_core)
theorem comp_nodes {x:Str} {q1 q2 q3 q4:Pos} {k1 k2 k3:Nat} (hA:A.handled=none) (hclos:closureFor scope env=pure cl) (hcell:∀ y∈scope.names,y.2≠.cell) (hks:scope.kind=.function) (hnames:∀ y∈scope.names,y.2=.local→scope.names.lookup y.1=some .local) (hx:scope.names.lookup x=some .local) (hd:(x == ("__debug__" : Str))=false) (_hF:Fr g₀ L s.heap m₀) (hs:∀ x,foldedSetIterable iter env x=pure x) (h:wpAny (model PySem.Challenge.rw_nz0031_01.row.prog w) A (eval iter env) (NodesGo w L Q) E s):wpAny (model PySem.Challenge.rw_nz0031_01.row.prog w) A (eval (.ListComp (.Tuple [.Constant (.str (Str.ofString "int")) k1 q1,.Constant (.int 6) k2 q2,.Name x q3] k3 q4) [⟨.Name x px,iter,[],0⟩] scope pos) env) Q E s :=
  zu25.at { Zd with w,A_1:=A,env,s,Q,E,L,iter,px,pos,scope,cl,r:={ Zd.r with x,q1,q2,q3,q4,k1,k2,k3,g₀,m₀ } } hA hclos hcell hks hnames hx hd _hF hs h
theorem nodes_one {g:Heap} (F:Fr g L h m) (N:News g L h news) (hD:@LT.lt Nat _ L D) (hl:ys.length=1) (hy:∀ (j:Nat) u,[v][j]?=some u→∃ y,ys[j]?=some y∧NodeAt (D + 2) h u y) :
    ∃ n0 a0 b0,ys=[.ref n0]∧News g L h ((n0,tupO [.str (Str.ofString "int") a0,.int 6 b0,v])::news)∧@LT.lt Nat _ D n0:=by
  obtain ⟨y,rfl⟩:=ln1 hl
  obtain ⟨y',e,n,a,b,rfl,hn,hg⟩:=hy 0 v rfl
  cases e
  exact ⟨n,a,b,rfl,news_late F N (by omega) hg,by omega⟩
theorem nodes_two {g:Heap} {u:Value} (F:Fr g L h m) (N:News g L h news) (hD:@LT.lt Nat _ L D) (hl:ys.length=2) (hy:∀ (j:Nat) r,[v,u][j]?=some r→∃ y,ys[j]?=some y∧NodeAt (D + 2) h r y) :
    ∃ n0 a0 b0 n1 a1 b1,ys=[.ref n0,.ref n1]∧News g L h ((n0,tupO [.str (Str.ofString "int") a0,.int 6 b0,v])::(n1,tupO [.str (Str.ofString "int") a1,.int 6 b1,u])::news)∧@LT.lt Nat _ D n0∧@LT.lt Nat _ D n1:=by
  obtain ⟨y,z,rfl⟩:=ln2 hl
  obtain ⟨y',e,n,a,b,rfl,hn,hg⟩:=hy 0 v rfl
  cases e
  obtain ⟨z',e,n',a',b',rfl,hn',hg'⟩:=hy 1 u rfl
  cases e
  exact ⟨n,a,b,n',a',b',rfl,news_late F (news_late F N (by omega) hg') (by omega) hg,by omega,by omega⟩
theorem rec_relS {g:Heap} (x:g.CodeRec v q) (r:RelS fr g h):h.CodeRec v q:=by
  obtain ⟨c,o,vs,t,e1,e2,e3,e4⟩:=x
  obtain ⟨sl,e5⟩:=r.slot _ _ e2
  exact ⟨c,_,vs,t,e1,e5,e3,e4⟩
theorem tabL_hide2 {vs:Array Value} {c:Nat} (hP:h.get? T=some (tabObj ps)) (hl:h.get? pl=some (listOf vs c)) (t:TabL ln co q h ps):TabL ln co q (hideAll h [T,pl]) ps:=by
  have t0:=t
  rcases t with rfl|⟨c',rfl,cc,oc,ws,u,e1,e2,e3,e4⟩
  · exact .inl rfl
  · refine .inr ⟨c',rfl,cc,oc,ws,u,e1,hideAll_get _ e2 ?_,e3,e4⟩
    simp only [List.mem_cons,List.not_mem_nil,or_false,not_or]
    refine ⟨fun z=>?_,fun z=>?_⟩
    · rw [z,hP] at e2;cases e2;cases e3;cases e4
    · rw [z,hl] at e2;cases e2;cases e3
theorem objs_app {a b:List (Addr×Obj)} (x:Objs base outer h a) (y:Objs base outer h b):Objs base outer h (a++b):=fun p hp=>by
  rcases List.mem_append.mp hp with z|z
  · exact x p z
  · exact y p z
theorem allNeN_at {d:Nat} {p:Addr×Obj}:∀ {l:List (Addr×Obj)},AllNeN d l→p∈l→@Ne Nat p.1 d:=fun {l}=>by
  induction l with
  | nil=>intro _ h;cases h
  | cons q r ih =>
    intro h hp
    rcases List.mem_cons.mp hp with e|hp
    · rw [e];exact h.1
    · exact ih h.2 hp
theorem at_hcall {g:Heap} (ks:List (Addr×Obj)) {c cr nodes:Addr} {or on:Obj} {p:Arguments} 
    (W:Wd w base) (B:Below A₀ base outer g) (N:News g L s.heap news) (hf:env.frame=some L) (O0:Objs base outer h0 objs) (K0:∀ b o,h0.get? b=some o→s.heap.get? b=some o) (hL0:h0.get? L=none)
    (hc:(c,kla_obj name qual p bd sc cl pm c' ctv)∈news)
    (hlam:lamAt w=some (p,bd,sc)) (hlr:cl.lookup (Str.ofString "reader")=some cr) (hln:cl.lookup (Str.ofString "nodes")=some cn)
    (m1:(cr,or)∈news) (m2:(cn,on)∈news) (hdr:or.data=.cell (some (.ref self))) (hdn:on.data=.cell (some (.ref nodes))) (hcr:s.heap.CodeRec (.ref c') qual)
    (ms:(self,instObj 356 sd)∈objs) (md:(sd,sdO w dct tsd)∈objs) (mk:∀ p∈ks,p∈news)
    (hEv:∀ nName node t0 t1 u0 u1 u2,OfS w base 32 282 [.ref self,.ref node] (idxO w objs ks self sd dct nodes nName node tsd t0 t1 u0 u1 u2) okV flt) :
    ∀ env' L',env'.frame=some L'→s.heap.get? L'=none→RaiseAtH w (Ak 58 (env'::env::outer)) base (env'::env::outer) s.heap (call (.ref c) []) (fun v _=>okV v) flt :=
  fun env' L' he hL=>by
    have O1:Objs base (env::outer) s.heap objs:=O0.on K0 hL0 hf
    exact at_call w (env'::env::outer) base s.heap W c c' cr cn self sd dct nodes or on tsd name qual p bd sc cl pm ctv (ks++objs) okV flt hlam hlr hln
      (Objs.on (objs_app (objs_of_news B N hf (fc hc (fc m1 (fc m2 (List.forall_mem_nil _)))))
        (objs_app (a:=[(self,instObj 356 sd),(sd,sdO w dct tsd)]) (fun p hp=>O1 p (by
            rcases List.mem_cons.mp hp with rfl|hp
            · exact ms
            · rw [List.mem_singleton.mp hp];exact md)) (objs_app (objs_of_news B N hf mk) O1))) (fun _ _ e=>e) hL he) hdr hdn hcr hEv
theorem keepT (hpl:h0.get? pl=some (listOf its cp))
    (F:Fr (hideAll h0 [448,pl]) L h m) (N:News (hideAll h0 [448,pl]) L h news) (mp:(pl,listOf its cp)∈news):∀ b o,(hideAll h0 [448]).get? b=some o→h.get? b=some o:=fun b o e=>by
  by_cases hb:b=pl
  · have e2:=of_hideAll _ e
    rw [hb,hpl] at e2;cases e2
    rw [hb];exact (N _ mp).1
  · refine F.keep _ _ (hideAll_get _ (of_hideAll _ e) ?_)
    simp only [List.mem_cons,List.not_mem_nil,or_false,not_or]
    refine ⟨fun z=>?_,hb⟩
    rw [z,hideAll_none _ (List.mem_singleton.mpr rfl)] at e;cases e
theorem objs_hide (O:Objs base outer h objs) (hno:∀ p∈objs,p.1≠T):Objs base outer (hideAll h [T]) objs:=fun p hp=>⟨hideAll_get _ (O p hp).1 (fun z=>hno p hp (List.mem_singleton.mp z)),(O p hp).2⟩
theorem hideT_none (e:L=h.objs.size):(hideAll h [T]).get? L=none:=by
  cases q:(hideAll h [T]).get? L with
  | none=>rfl
  | some o=>have:=of_hideAll _ q;rw [self_none e] at this;cases this
theorem at_endV (hret:AtPost w outer s tp okV flt Q) (hpl:s.heap.get? pl=some (listOf its cp))
    (F:Fr (hideAll s.heap [448,pl]) L h m) (N:News (hideAll s.heap [448,pl]) L h news) (mp:(pl,listOf its cp)∈news) (mt:(448,tabObj tp')∈news) (T:TabS 476 22 qualA s.heap tp h tp') (ov:okV v):Q v { s with heap:=h,toks:=tk }:=by
  have k:=keepT hpl F N mp
  exact hret v h tk tp' (.inl ov) ⟨fun b o e _=>k b o e,fun b o e=>⟨o.slots,k b o e⟩⟩ (N _ mt).1 T
theorem at_endF {tu:Addr} (hret:AtPost w outer s tp okV flt Q) (hpl:s.heap.get? pl=some (listOf its cp))
    (r:RelS (FrOf outer) (hideAll s.heap [448,pl]) g') (F:Fr g' L h m) (N:News g' L h news) (mp:(pl,listOf its cp)∈news) (mt:(448,tabObj tp')∈news) (mu:(tu,tupO [.str (Str.ofString "fault") t1,.int sp t2])∈news) (n1:@Ne Nat 448 tu) (n2:@Ne Nat pl tu) (T:TabS 476 22 qualA s.heap tp h tp') (ov:flt sp):Q (.ref tu) { s with heap:=h,toks:=tk }:=by
  have key:∀ b o,(hideAll s.heap [448]).get? b=some o→b≠pl→(hideAll s.heap [448,pl]).get? b=some o:=fun b o e hb=>by
    refine hideAll_get _ (of_hideAll _ e) ?_
    simp only [List.mem_cons,List.not_mem_nil,or_false,not_or]
    refine ⟨fun z=>?_,hb⟩
    rw [z,hideAll_none _ (List.mem_singleton.mpr rfl)] at e;cases e
  have kp:∀ o,(hideAll s.heap [448]).get? pl=some o→h.get? pl=some o:=fun o e=>by
    have e2:=of_hideAll _ e
    rw [hpl] at e2;cases e2
    exact (N _ mp).1
  have R:=r.trans (relS_fr (fr:=FrOf outer) F)
  refine hret _ h tk tp' (.inr ⟨sp,tu,ov,rfl,?_,t1,t2,(N _ mu).1⟩) ⟨fun b o e nm=>?_,fun b o e=>?_⟩ (N _ mt).1 T
  · have g0:=r.none (N _ mu).2.2
    cases q:s.heap.get? tu with
    | none=>rfl
    | some o =>
      rw [hideAll_get _ q (by
        simp only [List.mem_cons,List.not_mem_nil,or_false,not_or]
        exact ⟨fun z=>n1 z.symm,fun z=>n2 z.symm⟩)] at g0
      cases g0
  · by_cases hb:b=pl
    · rw [hb] at e ⊢;exact kp o e
    · exact R.keep b o (key b o e hb) nm
  · by_cases hb:b=pl
    · rw [hb] at e ⊢;exact ⟨o.slots,kp o e⟩
    · exact R.slot b o (key b o e hb)
section
example:True:=by
  k_with "r193"=>(skip)
  k_with "r187"=>(skip)
  k_with "r188"=>(skip)
  k_with "r192"=>(skip)
  k_with "r191"=>(skip)
  k_with "w k_lt $h:ident"=>((fail_if_success k_extra "r194");k_extra "y69")
  k_with "w k_ne"=>((fail_if_success k_extra "r195");k_extra "y70")
  k_with "m enter"=>((fail_if_success k_extra "r196");k_extra "y45")
  k_with "m enterH"=>((fail_if_success k_extra "r197");k_extra "y46")
  k_with "y118"=>((k_here;k_dflt (refine' callWith_K ?k1_ ?k2_ ?_;(case k1_=>k_asm);(case k2_=>k_is);k_whole)))
  k_with "w callWith ref"=>((fail_if_success k_extra "r198");k_extra "y118")
  k_with "y119"=>((k_here;(rename ∀ _ _ _ _ _ _ _ _ _ _ _ _,OfS _ _ _ _ _ _ _ _=>hEv9);k_dflt (refine' heardH_use rfl rfl ?hd_ ?hu_ ?W_ ?B_ ?F_ ?N_ rfl rfl ?hc_ (at_hcall _ ?W2_ ?B2_ ?N2_ rfl ?O_ ?K0_ ?hL0_ ?hc2_ ?hlam_ ?hlr_ ?hln_ ?m1_ ?m2_ ?hdr_ ?hdn_ ?hcr_ ?ms_ ?md_ ?mk_ (hEv9 _ _ _ _ _)) (fun v' h' tk' c' F' N'=>?_) (fun tu' t1' t2' sp' g' h' tk' c' r' F' N' l' B'=>?_);(case hd_|hu_=>exact Nat.le_of_ble_eq_true rfl);(case W_|W2_|B_|B2_|F_|N_|N2_=>k_asm);(case hc_|hc2_=>k_mem);(case hlam_|hlr_|hln_=>exact rfl);(case m1_|m2_=>k_mem);(case hdr_|hdn_=>k_asm);(case hcr_=>first|exact codeRec_news (by k_asm) (by k_mem) (by assumption) (by assumption)|exact Heap.CodeRec.keeps (by assumption) (Fr.keep (by assumption)));(case ms_|md_=>assumption);(case mk_=>k_extra "m memsT");(case O_=>assumption);(case hL0_=>exact hideT_none (by assumption));(case K0_=>exact keepT (by assumption) (by k_asm) (by k_asm) (by k_mem));skip)))
  k_with "w call ref"=>((fail_if_success k_extra "r199");k_extra "y119")
  k_with "y120"=>((k_here;k_dflt (refine' comp_nodes rfl ?a_ ?b_ ?c_ ?d_ ?e_ ?f_ ?F_ ?i_ ?_;(case F_=>k_asm);(case a_=>with_unfolding_all rfl);(case b_=>decide);(case c_=>exact rfl);(case d_=>decide);(case e_=>exact rfl);(case f_=>decide);(case i_=>(intro _;with_unfolding_all rfl)))))
  k_with "w eval ListComp"=>((fail_if_success k_extra "r200");k_extra "y120")
  k_with "y121"=>((k_here;k_dflt (refine' ⟨_,_,_,_,_,_,rfl,?F_,?N_,?T_,?l_,?Q_⟩;(case F_|N_=>k_asm);(case T_=>k_mem);(case l_=>exact Nat.le_of_ble_eq_true rfl);(case' Q_=>(intro D' c' ys' h' tk' F' N' l1 lL' hl' hy';(try dsimp only);(try k_lt l1);(have hq':=nodes_one F' N' lL' hl' hy');obtain ⟨n0',a0',b0',e',N0',o0'⟩:=hq';subst e';clear N' hy' hl')))))
  k_with "w NodesGo"=>((fail_if_success k_extra "r201");k_extra "y121")
  trivial
namespace Z.Z3
theorem lawat1_core:lawat1_P Z.w Z.base Z.objs Z.self Z.sd Z.dct Z.pl Z.tsd Z.Z3.x Z.tx Z.cp Z.flt Z.outer Z.s Z.Q Z.E:=by
  intro W okV ms md mpl hno hEv tp B O hP hPT hPb hPf hret
  have hpl:=O _ mpl
  have hpl1:=hpl.1
  have hne:@Ne Nat pl 448:=fun z=>by
    have e1:=hpl.1
    rw [show pl=448 from z,hP] at e1
    cases e1
  have hN:∀ p∈[(448,tabObj tp),(pl,listOf (List.toArray [.int x tx]) cp)],s.heap.get? p.1=some p.2∧base.get? p.1=none∧p.1∉outer.filterMap (·.frame):=fc ⟨hP,hPb,hPf⟩ (fc hpl (List.forall_mem_nil _))
  have hPT:=tabL_hide2 hP hpl.1 hPT
  have O2:=objs_hide O hno
  have HC0:CodeHd base 450 448:=codeHd_of_K W.K (by kernel_rfl)
  k_extra "m fill"
  w_strict (
    (refine wpAny_call ?_);
    k_dflt (refine' enterC (binds:=[(Str.ofString "reader",.ref self),(Str.ofString "places",.ref pl)]) W B _ hN ?ho_ ?hcd_ ?hroom_ ?hbind_ ?hkind_ ?hnd_ ?_ ?c2_ ?c3_ ?c4_);
    (case ho_=>k_is);
    (case hcd_=>k_is);
    (case hroom_=>exact Nat.le_of_ble_eq_true rfl);
    (case hbind_=>exact BindsTo.of_eq rfl);
    (case hkind_=>exact kindsX rfl);
    (case hnd_=>decide +kernel);
    (case c2_=>exact rfl);
    (case c3_=>exact rfl);
    (case c4_=>exact rfl);
    intro L h₁ p loose mean mg mb cells F N Y Bl X T lt eL tk;subst eL;
    (dsimp only [List.map] at F N Bl X T);
    (simp only [AllLt,and_true] at lt);
    (have eL2:@Eq Nat s.heap.objs.size s.heap.objs.size:=rfl);
    (obtain ⟨on,or,hE,dn0,dr0⟩:=CellsAre.two Y);
    subst hE;clear Y;
    (have dr:or.data=.cell (some (.ref self)):=dr0);
    (have dn:on.data=.cell none:=dn0);
    clear dr0 dn0;
    (try simp only [List.cons_append,List.nil_append] at N);
    have HC:CodeHd _ 450 448:=CodeHd.keeps HC0 (Below.stays Bl);
    (try k_fold)
    repeat' ((fail_if_success (with_reducible show wpAny _ _ (eval (Expr.Lambda _ _ _ _) _) _ _ _));first|(k_unfold;(try dsimp only))|(k_end;wrow_close)|walk1|(dsimp only;walk1)|(leave1;walk_say "STEP leave1";try dsimp only)|fail "no step")
    all_goals (rcases hPT with rfl|⟨c',rfl,hcr⟩)
    all_goals (k_steps)
    all_goals (repeat (first|k_unfold|dsimp only))
    all_goals first
      | (refine' at_endV hret hpl.1 ?F_ ?N_ ?mp_ ?mt_ ?T_ (by assumption);(case F_|N_=>k_asm);(case mp_|mt_=>k_mem);(case T_=>first|exact ⟨_,rfl,codeRec_news (by k_asm) (by k_mem) (by assumption) (by assumption),.inl ⟨rfl,by omega⟩⟩|exact ⟨_,rfl,Heap.CodeRec.keeps (by assumption) (Fr.keep (by k_asm)),.inr rfl⟩))
      | (refine' at_endF hret hpl.1 ?r_ ?F_ ?N_ ?mp_ ?mt_ ?mu_ ?n1_ ?n2_ ?T_ (by assumption);(case r_=>assumption);(case F_|N_=>k_asm);(case mp_|mt_|mu_=>k_mem);(case n1_=>exact allNeN_at (p:=(448,_)) (by assumption) (by k_mem));(case n2_=>exact allNeN_at (p:=(pl,_)) (by assumption) (by k_mem));(case T_=>first|exact ⟨_,rfl,codeRec_news (by k_asm) (by k_mem) (by assumption) (by assumption),.inl ⟨rfl,by omega⟩⟩|exact ⟨_,rfl,rec_relS (by assumption) (RelS.trans (by assumption) (relS_fr (by k_asm))),.inr rfl⟩)))
end Z.Z3
end
section
example:True:=by
  k_with "r199"=>(skip)
  k_with "r194"=>(skip)
  k_with "r195"=>(skip)
  k_with "r201"=>(skip)
  k_with "y122"=>((k_here;(rename ∀ _ _ _ _ _ _ _ _ _ _ _ _ _ _ _,OfS _ _ _ _ _ _ _ _=>hEv9);k_dflt (refine' heardH_use rfl rfl ?hd_ ?hu_ ?W_ ?B_ ?F_ ?N_ rfl rfl ?hc_ (at_hcall _ ?W2_ ?B2_ ?N2_ rfl ?O_ ?K0_ ?hL0_ ?hc2_ ?hlam_ ?hlr_ ?hln_ ?m1_ ?m2_ ?hdr_ ?hdn_ ?hcr_ ?ms_ ?md_ ?mk_ (hEv9 _ _ _ _ _ _ _ _)) (fun v' h' tk' c' F' N'=>?_) (fun tu' t1' t2' sp' g' h' tk' c' r' F' N' l' B'=>?_);(case hd_|hu_=>exact Nat.le_of_ble_eq_true rfl);(case W_|W2_|B_|B2_|F_|N_|N2_=>k_asm);(case hc_|hc2_=>k_mem);(case hlam_|hlr_|hln_=>exact rfl);(case m1_|m2_=>k_mem);(case hdr_|hdn_=>k_asm);(case hcr_=>first|exact codeRec_news (by k_asm) (by k_mem) (by assumption) (by assumption)|exact Heap.CodeRec.keeps (by assumption) (Fr.keep (by assumption)));(case ms_|md_=>assumption);(case mk_=>k_extra "m memsT");(case O_=>assumption);(case hL0_=>exact hideT_none (by assumption));(case K0_=>exact keepT (by assumption) (by k_asm) (by k_asm) (by k_mem));skip)))
  k_with "w call ref"=>((fail_if_success k_extra "r202");k_extra "y122")
  k_with "y123"=>((k_here;k_dflt (refine' ⟨_,_,_,_,_,_,rfl,?F_,?N_,?T_,?l_,?Q_⟩;(case F_|N_=>k_asm);(case T_=>k_mem);(case l_=>exact Nat.le_of_ble_eq_true rfl);(case' Q_=>(intro D' c' ys' h' tk' F' N' l1 lL' hl' hy';(try dsimp only);(try k_lt l1);(have hq':=nodes_two F' N' lL' hl' hy');obtain ⟨n0',a0',b0',n1',a1',b1',e',N0',o0',o1'⟩:=hq';subst e';clear N' hy' hl')))))
  k_with "w NodesGo"=>((fail_if_success k_extra "r203");k_extra "y123")
  k_with "m dummy"=>(k_extra "y40")
  trivial
namespace Z.Z3
theorem lawat2_core:lawat2_P Z.w Z.base Z.objs Z.self Z.sd Z.dct Z.pl Z.tsd Z.Z3.x Z.y Z.tx Z.ty Z.cp Z.flt Z.outer Z.s Z.Q Z.E:=by
  intro W okV ms md mpl hno hEv tp B O hP hPT hPb hPf hret
  have hpl:=O _ mpl
  have hpl1:=hpl.1
  have hne:@Ne Nat pl 448:=fun z=>by
    have e1:=hpl.1
    rw [show pl=448 from z,hP] at e1
    cases e1
  have hN:∀ p∈[(448,tabObj tp),(pl,listOf (List.toArray [.int x tx,.int y ty]) cp)],s.heap.get? p.1=some p.2∧base.get? p.1=none∧p.1∉outer.filterMap (·.frame):=fc ⟨hP,hPb,hPf⟩ (fc hpl (List.forall_mem_nil _))
  have hPT:=tabL_hide2 hP hpl.1 hPT
  have O2:=objs_hide O hno
  have HC0:CodeHd base 450 448:=codeHd_of_K W.K (by kernel_rfl)
  k_extra "m fill"
  w_strict (
    (refine wpAny_call ?_);
    k_dflt (refine' enterC (binds:=[(Str.ofString "reader",.ref self),(Str.ofString "places",.ref pl)]) W B _ hN ?ho_ ?hcd_ ?hroom_ ?hbind_ ?hkind_ ?hnd_ ?_ ?c2_ ?c3_ ?c4_);
    (case ho_=>k_is);
    (case hcd_=>k_is);
    (case hroom_=>exact Nat.le_of_ble_eq_true rfl);
    (case hbind_=>exact BindsTo.of_eq rfl);
    (case hkind_=>exact kindsX rfl);
    (case hnd_=>decide +kernel);
    (case c2_=>exact rfl);
    (case c3_=>exact rfl);
    (case c4_=>exact rfl);
    intro L h₁ p loose mean mg mb cells F N Y Bl X T lt eL tk;subst eL;
    (dsimp only [List.map] at F N Bl X T);
    (simp only [AllLt,and_true] at lt);
    (have eL2:@Eq Nat s.heap.objs.size s.heap.objs.size:=rfl);
    (obtain ⟨on,or,hE,dn0,dr0⟩:=CellsAre.two Y);
    subst hE;clear Y;
    (have dr:or.data=.cell (some (.ref self)):=dr0);
    (have dn:on.data=.cell none:=dn0);
    clear dr0 dn0;
    (try simp only [List.cons_append,List.nil_append] at N);
    have HC:CodeHd _ 450 448:=CodeHd.keeps HC0 (Below.stays Bl);
    (try k_fold)
    repeat' ((fail_if_success (with_reducible show wpAny _ _ (eval (Expr.Lambda _ _ _ _) _) _ _ _));first|(k_unfold;(try dsimp only))|(k_end;wrow_close)|walk1|(dsimp only;walk1)|(leave1;walk_say "STEP leave1";try dsimp only)|fail "no step")
    all_goals (rcases hPT with rfl|⟨c',rfl,hcr⟩)
    all_goals (k_steps)
    all_goals (repeat (first|k_unfold|dsimp only))
    all_goals first
      | (refine' at_endV hret hpl.1 ?F_ ?N_ ?mp_ ?mt_ ?T_ (by assumption);(case F_|N_=>k_asm);(case mp_|mt_=>k_mem);(case T_=>first|exact ⟨_,rfl,codeRec_news (by k_asm) (by k_mem) (by assumption) (by assumption),.inl ⟨rfl,by omega⟩⟩|exact ⟨_,rfl,Heap.CodeRec.keeps (by assumption) (Fr.keep (by k_asm)),.inr rfl⟩))
      | (refine' at_endF hret hpl.1 ?r_ ?F_ ?N_ ?mp_ ?mt_ ?mu_ ?n1_ ?n2_ ?T_ (by assumption);(case r_=>assumption);(case F_|N_=>k_asm);(case mp_|mt_|mu_=>k_mem);(case n1_=>exact allNeN_at (p:=(448,_)) (by assumption) (by k_mem));(case n2_=>exact allNeN_at (p:=(pl,_)) (by assumption) (by k_mem));(case T_=>first|exact ⟨_,rfl,codeRec_news (by k_asm) (by k_mem) (by assumption) (by assumption),.inl ⟨rfl,by omega⟩⟩|exact ⟨_,rfl,rec_relS (by assumption) (RelS.trans (by assumption) (relS_fr (by k_asm))),.inr rfl⟩)))
end Z.Z3
theorem zu26:Up 26:=zu25.step (by with_unfolding_all exact Z.Z3.lawat1_core)
theorem lawat1 (w:World) (base:Heap) (W:Wd w base) (objs:List (Addr×Obj)) (self sd dct pl:Addr) (tsd:Tok) (x:Int) (tx:Tok) (cp:Nat) (okV:Value→Prop) (flt:Int→Prop) (ms:(self,instObj 356 sd)∈objs) (md:(sd,sdO w dct tsd)∈objs) (mpl:(pl,listOf (List.toArray [.int x tx]) cp)∈objs) (hno:∀ p∈objs,p.1≠448) (hEv:∀ nodes cn n0 a0 b0 nName node t0 t1 u0 u1 u2,OfS w base 32 282 [.ref self,.ref node] (idxO w objs [(nodes,listOf (List.toArray [.ref n0]) cn),(n0,tupO [.str (Str.ofString "int") a0,.int 6 b0,.int x tx])] self sd dct nodes nName node tsd t0 t1 u0 u1 u2) okV flt) (outer:List Env) (s:Shared) (Q E:Value→Shared→Prop) (tp:Array Value) (B:Below (Ak 70 outer) base outer s.heap) (O:Objs base outer s.heap objs) (hP:s.heap.get? 448=some (tabObj tp)) (hPT:TabL 476 22 qualA s.heap tp) (hPb:base.get? 448=none) (hPf:448∉outer.filterMap (·.frame)) (hret:AtPost w outer s tp okV flt Q):wpAny (model PySem.Challenge.rw_nz0031_01.row.prog w) (Ak 70 outer) (call (.ref 451) [.ref self,.ref pl]) Q E s :=
  zu26.at { Zd with w,base,objs,self,sd,dct,tsd,outer,s,Q,E,r:={ Zd.r with pl,x_1:=x,tx,cp,flt } } W okV ms md mpl hno hEv tp B O hP hPT hPb hPf hret
theorem zu27:Up 27:=zu26.step (by with_unfolding_all exact Z.Z3.lawat2_core)
theorem lawat2 (w:World) (base:Heap) (W:Wd w base) (objs:List (Addr×Obj)) (self sd dct pl:Addr) (tsd:Tok) (x y:Int) (tx ty:Tok) (cp:Nat) (okV:Value→Prop) (flt:Int→Prop) (ms:(self,instObj 356 sd)∈objs) (md:(sd,sdO w dct tsd)∈objs) (mpl:(pl,listOf (List.toArray [.int x tx,.int y ty]) cp)∈objs) (hno:∀ p∈objs,p.1≠448) (hEv:∀ nodes cn n0 a0 b0 n1 a1 b1 nName node t0 t1 u0 u1 u2,OfS w base 32 282 [.ref self,.ref node] (idxO w objs [(nodes,listOf (List.toArray [.ref n0,.ref n1]) cn),(n0,tupO [.str (Str.ofString "int") a0,.int 6 b0,.int x tx]),(n1,tupO [.str (Str.ofString "int") a1,.int 6 b1,.int y ty])] self sd dct nodes nName node tsd t0 t1 u0 u1 u2) okV flt) (outer:List Env) (s:Shared) (Q E:Value→Shared→Prop) (tp:Array Value) (B:Below (Ak 70 outer) base outer s.heap) (O:Objs base outer s.heap objs) (hP:s.heap.get? 448=some (tabObj tp)) (hPT:TabL 476 22 qualA s.heap tp) (hPb:base.get? 448=none) (hPf:448∉outer.filterMap (·.frame)) (hret:AtPost w outer s tp okV flt Q):wpAny (model PySem.Challenge.rw_nz0031_01.row.prog w) (Ak 70 outer) (call (.ref 451) [.ref self,.ref pl]) Q E s :=
  zu27.at { Zd with w,base,objs,self,sd,dct,tsd,outer,s,Q,E,r:={ Zd.r with pl,x_1:=x,y,tx,ty,cp,flt } } W okV ms md mpl hno hEv tp B O hP hPT hPb hPf hret
end
section
variable {prog:Program} {w:World} {A:Around} {s:Shared} {R:Result→Shared→Prop} {target:PySem.Expr} {body:List Stmt} {env:Env}
theorem forStep {it:Value}
    (h:wpAny (model prog w) A (pyNext it) (fun r s₁=>match r with
      | none=>R (.ok .next) s₁
      | some v=>wpAny (model prog w) A (letOwnedTupleGo target it v) (fun _ s₁'=>wpAny (model prog w) A (assign target env v) (fun _ s₂=>wpAny (model prog w) A (execs body env) (TurnEnd prog w A target it body env R) (notedBy (model prog w) A env fun e s'=>R (.error e) s') s₂) (notedBy (model prog w) A env fun e s'=>R (.error e) s') s₁') (notedBy (model prog w) A env fun e s'=>R (.error e) s') s₁) (notedBy (model prog w) A env fun e s'=>R (.error e) s') s) :
    codeAny (model prog w) A (.forLoop target it body [] env) R s:=by
  refine codeAny_loop' rfl (fun _ s'=>s'=s) (fun n s' hI=>?_) 0 rfl
  subst hI
  show wpAny _ A ((forTurn target it body [] env).onRaise (fun x=>do noteFrame x env;theTreesLotGoes x)) _ _ s'
  refine wpAny_noted ?_
  simp only [forTurn]
  refine wpAny_bind (wpAny_standAt (wpAny_bind (wpAny_onRaise (wpAny_mono h (fun r s₁ h₁=>?_) fun _ _ h'=>wpAny_standAt h'))))
  cases r with
  | none=>exact wpAny_pure (.inr ⟨rfl,codeAny_block (wpAny_execs_nil h₁)⟩)
  | some v =>
    refine wpAny_bind (wpAny_mono h₁ (fun _ s₁' h₁'=>?_) fun _ _ h'=>h')
    refine wpAny_bind (wpAny_mono h₁' (fun _ s₂ h₂=>wpAny_bind (wpAny_mono h₂ (fun f s₃ h₃=>?_) fun _ _ h'=>h')) fun _ _ h'=>h')
    cases f with
    | next=>exact wpAny_pure (.inr ⟨rfl,h₃⟩)
    | cont=>exact wpAny_pure (.inr ⟨rfl,h₃⟩)
    | brk=>exact wpAny_pure h₃
    | ret v=>exact wpAny_pure h₃
theorem owned_tupit {x1:Nat} {l:Addr} {Q:Unit→Shared→Prop} (hit:s.heap.IsTupleIter I l i) (hQ:Q () s) :
    wpAny (model prog w) A (letOwnedTupleGo (.Tuple elts x1 pos) (.ref I) v) Q E s:=by
  cases v with
  | ref T =>
    obtain ⟨o,ho,hc,hd⟩:=hit
    unfold letOwnedTupleGo
    refine wpAny_bind (wpAny_load ho ?_)
    rw [hc,hd]
    show wpAny _ A (if (["enumerate","zip","dict_itemiterator","dict_reverseitemiterator","odict_iterator","itertools.zip_longest","itertools.pairwise"].contains "tuple_iterator" && _)=true then _ else _) Q E s
    rw [if_neg (by
      intro h
      rw [show (["enumerate","zip","dict_itemiterator","dict_reverseitemiterator","odict_iterator","itertools.zip_longest","itertools.pairwise"].contains "tuple_iterator")=false from by decide,Bool.false_and] at h
      cases h)]
    exact wpAny_pure hQ
  | _=>exact wpAny_pure hQ
theorem upd_it {g:Heap} {d:Addr} {o':Obj} (F:Fr g L h m) (N:News g L h news) (U:UpdF d o news G) (hs:Heap.SameBut d h h') (ho':h'.get? d=some o'):Fr g L h' m∧News g L h' (G o'):=by
  obtain ⟨own,rest,rfl,hg,h1,h2⟩:=U.split
  have hm:=N (d,o) (List.mem_append_right _ (.head _))
  exact ⟨F.change hs hm.2.1 hm.2.2,hg o' ▸ N.setAt h1 h2 hs ho'⟩
variable {g:Heap} {L It T:Addr} {m:Str→Option Value} {news:List (Addr×Obj)} {oI:Obj} {G:Obj→List (Addr×Obj)} {items:List Value} {i:Nat} {v:Value} {elts:List PySem.Expr} {x1:Nat} {tpos:Pos}
theorem forStep_tup (F:Fr g L s.heap m) (N:News g L s.heap news) (U:UpdF It oI news G) (hI:TupIt oI T i) (mT:(T,tupO items)∈news) (hx:items[i]?=some v)
    (h:∀ h' oI',Fr g L h' m→News g L h' (G oI')→TupIt oI' T (i + 1) →
      wpAny (model prog w) A (assign (.Tuple elts x1 tpos) env v) (fun _ s₂=>wpAny (model prog w) A (execs body env) (TurnEnd prog w A (.Tuple elts x1 tpos) (.ref It) body env R) (notedBy (model prog w) A env fun e s'=>R (.error e) s') s₂) (notedBy (model prog w) A env fun e s'=>R (.error e) s') { s with heap:=h' }) :
    codeAny (model prog w) A (.forLoop (.Tuple elts x1 tpos) (.ref It) body [] env) R s:=by
  have hit:s.heap.IsTupleIter It T i:=⟨oI,(N _ (updF_mem U)).1,hI⟩
  have hT:s.heap.IsTuple T (List.toArray items):=⟨_,(N _ mT).1,rfl,0,rfl⟩
  refine forStep (wpAny_pyNext_tuple_item hit hT (by simpa using hx) fun h' hit' hs=>?_)
  refine owned_tupit hit' ?_
  obtain ⟨o',ho',hc',hd'⟩:=hit'
  obtain ⟨F',N'⟩:=upd_it F N U hs ho'
  exact h h' o' F' N' ⟨hc',hd'⟩
theorem forEnd_tup {tgt:PySem.Expr} (hh:A.handled=none) (F:Fr g L s.heap m) (N:News g L s.heap news) (U:UpdF It oI news G) (hI:TupIt oI T i) (mT:(T,tupO items)∈news) (hx:items[i]?=none)
    (h:∀ h',Fr g L h' m→(∀ p∈news,p.1≠It→h'.get? p.1=some p.2∧p.1≠L∧g.get? p.1=none)→R (.ok .next) { s with heap:=h' }) :
    codeAny (model prog w) A (.forLoop tgt (.ref It) body [] env) R s:=by
  have nI:=N _ (updF_mem U)
  have hit:s.heap.IsTupleIter It T i:=⟨oI,nI.1,hI⟩
  have hT:s.heap.IsTuple T (List.toArray items):=⟨_,(N _ mT).1,rfl,0,rfl⟩
  refine forStep (wpAny_pyNext_tuple_end hh hit hT (by simpa using hx) fun h' he=>?_)
  exact h h' ⟨F.ns.extBut he (Ne.symm nI.2.1),fun b ob e=>he b ob (fun z=>by rw [z,nI.2.2] at e;cases e) (F.keep b ob e),F.above⟩ fun p hp hne=>⟨he _ _ hne (N p hp).1,(N p hp).2⟩
theorem iter_tupF (F:Fr g L s.heap m) (N:News g L s.heap news) (mT:(T,tupO items)∈news)
    (h:∀ D oI h',Fr g L h' m→News g L h' ((D,oI)::news)→(∀ p∈news,p.1 < D)→TupIt oI T 0→Q (.ref D) { s with heap:=h' }):wpAny (model prog w) A (pyIter (.ref T)) Q E s:=by
  have hT:s.heap.IsTuple T (List.toArray items):=⟨_,(N _ mT).1,rfl,0,rfl⟩
  refine wpAny_pyIter_tuple hT (h _ _ _ (F.push _) (News.push F N _) (fun p hp=>Heap.lt_size (N p hp).1) ⟨rfl,rfl⟩)
end
theorem objs_rel {base h h':Heap} {outer:List Env} {objs:List (Addr×Obj)} (O:Objs base outer h objs) (r:RelS (FrOf outer) h h'):Objs base outer h' objs:=fun p hp=>⟨r.keep _ _ (O p hp).1 (O p hp).2.2,(O p hp).2⟩
theorem objs_ground {g:Heap} (O:Objs base outer g objs) (F:Fr g L h m) (hf:env.frame=some L):Objs base (env::outer) h objs:=O.on F.keep (kts_self F) hf
theorem relS_up {g:Heap} {chg:List Addr} (F:Fr g L h m) (hf:env.frame=some L) (hc:∀ a∈chg,g.get? a=none) (r:RelS (FrOf (env::outer)) (hideAll h chg) h'):RelS (FrOf outer) g h':=by
  have kg:∀ b o,g.get? b=some o→(hideAll h chg).get? b=some o:=fun b o e=>hideAll_get _ (F.keep b o e) (fun hm=>by rw [hc b hm] at e;cases e)
  have hLo:FrOf (env::outer)=L::FrOf outer:=by unfold FrOf;rw [List.filterMap_cons,hf]
  have hL:=kts_self F
  exact ⟨fun b o e nm=>r.keep b o (kg b o e) fun hm=>by
      rw [hLo] at hm
      rcases List.mem_cons.mp hm with z|z
      · rw [z,hL] at e;cases e
      · exact nm z,fun b o e=>r.slot b o (kg b o e)⟩
theorem reT {A₀:Around} {base g h h':Heap} {outer:List Env} {env:Env} {L T:Addr} {m:Str→Option Value} {o o':Obj} {news:List (Addr×Obj)} {G:Obj→List (Addr×Obj)}
    (B:Below A₀ base outer g) (F:Fr g L h m) (N:News g L h news) (hf:env.frame=some L) (U:UpdF T o news G) (r:RelS (FrOf (env::outer)) (hideAll h [T]) h') (ho':h'.get? T=some o') :
    ∃ g',RelS (FrOf outer) g g'∧Fr g' L h' m∧News g' L h' (G o')∧Below A₀ base outer g'∧∀ b,g.get? b=none→g'.get? b=none:=by
  obtain ⟨pre,post,rfl,hG,h1,h2⟩:=U.split
  have nT:=N (T,o) (List.mem_append_right _ (.head _))
  have rg:=relS_up F hf (chg:=[T]) (fun a ha=>by rw [List.mem_singleton.mp ha];exact nT.2.2) r
  have hns:h'.Ns L m:=by
    obtain ⟨oL,es,ep,e1,e2⟩:=F.ns
    have e3:(hideAll h [T]).get? L=some oL:=hideAll_get _ e1 (fun hm=>nT.2.1 (List.mem_singleton.mp hm).symm)
    obtain ⟨sl,e4⟩:=r.slot _ _ e3
    exact ⟨_,es,ep,e4,e2⟩
  obtain ⟨g',rg',KT,F',B'⟩:=reground B hns F.above rg
  refine ⟨g',rg',F',?_,B',fun b e=>KT.none_ _ e⟩
  rw [hG]
  have keep:∀ p∈pre++(T,o)::post,p.1≠T→h'.get? p.1=some p.2∧p.1≠L∧g'.get? p.1=none:=fun p hp hne=>by
    have n:=N p hp
    refine ⟨r.keep _ _ (hideAll_get _ n.1 fun hm=>hne (List.mem_singleton.mp hm)) fun hm=>?_,n.2.1,KT.none_ _ n.2.2⟩
    have hLo:FrOf (env::outer)=L::FrOf outer:=by unfold FrOf;rw [List.filterMap_cons,hf]
    rw [hLo] at hm
    rcases List.mem_cons.mp hm with z|z
    · exact n.2.1 z
    · obtain ⟨_,ob,hob,_⟩:=B.frames.mem z
      rw [n.2.2] at hob;cases hob
  intro p hp
  rcases List.mem_append.mp hp with hp|hp
  · exact keep p (List.mem_append_left _ hp) (h1 p hp)
  · rcases List.mem_cons.mp hp with rfl|hp
    · exact ⟨ho',nT.2.1,KT.none_ _ nT.2.2⟩
    · exact keep p (List.mem_append_right _ (.tail _ hp)) (h2 p hp)
theorem mono_tup:Mono (fun h v h'=>P∧TupNew l h v h'):=fun h1 h2 v h' hle x=>by
  obtain ⟨p,D,vs,e,hD,r⟩:=x
  exact ⟨p,D,vs,e,Nat.le_trans hle hD,r⟩
theorem pairsAt_mono {h1 h2:Heap} (hle:@LE.le Nat _ h1.objs.size h2.objs.size):∀ {refs:List Value} {rs:List (Int×Int)},PairsAt h2 h' refs rs→PairsAt h1 h' refs rs:=by
  intro refs
  induction refs with
  | nil=>intro rs x;cases rs with
    | nil=>trivial
    | cons _ _=>exact (x:False).elim
  | cons r refs ih=>intro rs x;cases rs with
    | nil=>exact (x:False).elim
    | cons p rs =>
      obtain ⟨⟨a,t,u,e,hl,hg⟩,r⟩:=x
      exact ⟨⟨a,t,u,e,Nat.le_trans hle hl,hg⟩,ih r⟩
theorem mono_arr:Mono (fun h v h'=>∃ rs,okIdx two xs nv=some rs∧ArrNew h v h' V rs):=fun h1 h2 v h' hle x=>by
  obtain ⟨rs,e,A,P,refs,e2,hA,hP,r1,r2,r3⟩:=x
  exact ⟨rs,e,A,P,refs,e2,Nat.le_trans hle hA,Nat.le_trans hle hP,r1,r2,pairsAt_mono hle r3⟩
section
example:True:=by
  k_with "r198"=>(skip)
  k_with "r202"=>(skip)
  k_with "r196"=>(skip)
  k_with "r197"=>(skip)
  k_with "r200"=>(skip)
  k_with "r203"=>(skip)
  k_with "m enter"=>((fail_if_success k_extra "r205");k_extra "y20")
  k_with "m enterH"=>((fail_if_success k_extra "r206");k_extra "y21")
  k_with "w eval Name"=>((fail_if_success k_extra "r207");k_extra "y116")
  k_with "y124"=>((k_here;(rename ∀ _,OfH _ _ _ _ _ _ _ _=>hS9);k_dflt (refine' OfH.use (hS9 _) rfl rfl rfl ?hd_ ?hu_ ?O_ ?B_ ?F_ ?N_ ?hL_ ?K0_ rfl rfl (fun v' h' tk' c' F' N'=>?_) (fun e' dd' sp' h' tk' c' r' ff' fl' z'=>?_);(case O_=>assumption);(case F_|N_|B_=>k_asm);(case hd_|hu_=>exact Nat.le_of_ble_eq_true rfl);(case hL_=>exact self_none (by assumption));(case K0_=>exact keepO (by assumption) (by assumption) (by assumption) (by k_extra "m mems")))))
  k_with "w call ref"=>((fail_if_success k_extra "r208");k_extra "y124")
  trivial
theorem told_call (w:World) (outer:List Env) (base h0:Heap) (W:Wd w base) (f c' ca cn A:Addr) (oa on:Obj) (ns:Str) (tn:Tok) (name qual:Str) (p:Arguments) (bd:PySem.Expr) (sc:Scope) (cl:List (Str×Addr)) (pm ctv:Value) (objs:List (Addr×Obj)) (okV:Heap→Value→Heap→Prop) (flt:Int→Prop) (hm:Mono okV)
    (hlam:lamTold w=some (p,bd,sc)) (hla:cl.lookup (Str.ofString "array")=some ca) (hln:cl.lookup (Str.ofString "name")=some cn)
    (O0:Objs base outer h0 objs) (O:Objs base outer h0 [(f,kla_obj name qual p bd sc cl pm c' ctv),(ca,oa),(cn,on)])
    (hda:oa.data=.cell (some (.ref A))) (hdn:on.data=.cell (some (.str ns tn))) (hcr:h0.CodeRec (.ref c') qual)
    (hS:∀ ts,OfH w base 30 389 [.str ns tn,.ref A,.int 4 ts] objs okV flt) :
    RaiseAtH w (Ak 58 outer) base outer h0 (call (.ref f) []) (fun v h'=>okV h0 v h') flt:=by
  intro Q E s K0 hz B hret hflt
  have hN:∀ (q:Addr×Obj),q∈_→s.heap.get? q.1=some q.2∧base.get? q.1=none∧q.1∉outer.filterMap (·.frame):=fun (q:Addr×Obj) hq=>⟨K0 q.1 q.2 (O q hq).1 List.not_mem_nil,(O q hq).2⟩
  have O1:Objs base outer s.heap objs:=fun p hp=>⟨K0 _ _ (O0 p hp).1 List.not_mem_nil,(O0 p hp).2⟩
  have hcr':s.heap.CodeRec (.ref c') qual:=hcr.keeps fun b o e=>K0 _ _ e List.not_mem_nil
  clear O O0 K0 hcr
  have hlam2:some (_,_,_)=some (p,bd,sc):=hlam
  clear hlam
  cases hlam2
  k_extra "m fill"
  w_strict (
    (refine wpAny_call ?_);
    k_dflt (refine' enterE W B _ hN ?ho_ hcr' ?hroom_ ?hbind_ ?hloc_ ?_ ?c1_ ?c2_ ?c3_ ?c4_);
    (case ho_=>exact (hN _ (List.mem_cons_self ..)).1);
    (case hroom_=>exact Nat.le_of_ble_eq_true rfl);
    (case hbind_=>exact rfl);
    (case hloc_=>exact fun _ h=>nomatch h);
    (case c1_=>decide);
    (case c2_=>exact rfl);
    (case c3_=>exact rfl);
    (case c4_=>exact rfl);
    intro L h₁ p loose mean mg mb F N Bl X T lt eL tk;
    (dsimp only [List.map] at F N Bl X T);
    have hz1:@LE.le Nat _ h0.objs.size h₁.objs.size:=Nat.le_trans hz (size_fr F eL);
    (try k_fold);
    k_steps
    all_goals (repeat (first|k_unfold|dsimp only))
    all_goals first
      | exact hret _ _ _ (hm _ _ _ _ hz1 (by assumption)) (keepH hN (by k_asm) (by k_asm) (by k_extra "m mems"))
      | exact hflt _ _ _ _ _ (by assumption) (by assumption) (up_of (by assumption)) (by assumption) (by assumption))
theorem law_call (w:World) (outer:List Env) (base h0:Heap) (W:Wd w base) (f c' ca cn A:Addr) (oa on:Obj) (ns:Str) (tn:Tok) (name qual:Str) (p:Arguments) (bd:PySem.Expr) (sc:Scope) (cl:List (Str×Addr)) (pm ctv:Value) (objs:List (Addr×Obj)) (okV:Heap→Value→Heap→Prop) (flt:Int→Prop) (hm:Mono okV)
    (hlam:lamLawE w=some (p,bd,sc)) (hla:cl.lookup (Str.ofString "some")=some ca) (hln:cl.lookup (Str.ofString "name")=some cn)
    (O0:Objs base outer h0 objs) (O:Objs base outer h0 [(f,kla_obj name qual p bd sc cl pm c' ctv),(ca,oa),(cn,on)])
    (hda:oa.data=.cell (some (.ref A))) (hdn:on.data=.cell (some (.str ns tn))) (hcr:h0.CodeRec (.ref c') qual)
    (hS:∀ ts,OfH w base 30 394 [.str ns tn,.ref A,.int 9 ts] objs okV flt) :
    RaiseAtH w (Ak 58 outer) base outer h0 (call (.ref f) []) (fun v h'=>okV h0 v h') flt:=by
  intro Q E s K0 hz B hret hflt
  have hN:∀ (q:Addr×Obj),q∈_→s.heap.get? q.1=some q.2∧base.get? q.1=none∧q.1∉outer.filterMap (·.frame):=fun (q:Addr×Obj) hq=>⟨K0 q.1 q.2 (O q hq).1 List.not_mem_nil,(O q hq).2⟩
  have O1:Objs base outer s.heap objs:=fun p hp=>⟨K0 _ _ (O0 p hp).1 List.not_mem_nil,(O0 p hp).2⟩
  have hcr':s.heap.CodeRec (.ref c') qual:=hcr.keeps fun b o e=>K0 _ _ e List.not_mem_nil
  clear O O0 K0 hcr
  have hlam2:some (_,_,_)=some (p,bd,sc):=hlam
  clear hlam
  cases hlam2
  k_extra "m fill"
  w_strict (
    (refine wpAny_call ?_);
    k_dflt (refine' enterE W B _ hN ?ho_ hcr' ?hroom_ ?hbind_ ?hloc_ ?_ ?c1_ ?c2_ ?c3_ ?c4_);
    (case ho_=>exact (hN _ (List.mem_cons_self ..)).1);
    (case hroom_=>exact Nat.le_of_ble_eq_true rfl);
    (case hbind_=>exact rfl);
    (case hloc_=>exact fun _ h=>nomatch h);
    (case c1_=>decide);
    (case c2_=>exact rfl);
    (case c3_=>exact rfl);
    (case c4_=>exact rfl);
    intro L h₁ p loose mean mg mb F N Bl X T lt eL tk;
    (dsimp only [List.map] at F N Bl X T);
    have hz1:@LE.le Nat _ h0.objs.size h₁.objs.size:=Nat.le_trans hz (size_fr F eL);
    (try k_fold);
    k_steps
    all_goals (repeat (first|k_unfold|dsimp only))
    all_goals first
      | exact hret _ _ _ (hm _ _ _ _ hz1 (by assumption)) (keepH hN (by k_asm) (by k_asm) (by k_extra "m mems"))
      | exact hflt _ _ _ _ _ (by assumption) (by assumption) (up_of (by assumption)) (by assumption) (by assumption))
end
example:True:=by
  k_with "r182"=>(skip)
  trivial
theorem told_hcall {g:Heap} {okV:Heap→Value→Heap→Prop} {c A:Addr} {on:Obj} {ns:Str} {p:Arguments} (hm:Mono okV)
    (W:Wd w base) (B:Below A₀ base outer g) (F:Fr g L s.heap m) (N:News g L s.heap news) (hf:env.frame=some L) (O0:Objs base outer g objs)
    (hc:(c,kla_obj name qual p bd sc cl pm c' ctv)∈news)
    (hlam:lamTold w=some (p,bd,sc)) (hla:cl.lookup (Str.ofString "array")=some ca) (hln:cl.lookup (Str.ofString "name")=some cn)
    (m1:(ca,oa)∈news) (m2:(cn,on)∈news) (hda:oa.data=.cell (some (.ref A))) (hdn:on.data=.cell (some (.str ns tn))) (hcr:s.heap.CodeRec (.ref c') qual)
    (hS:∀ ts,OfH w base 30 389 [.str ns tn,.ref A,.int 4 ts] objs okV flt) :
    ∀ env' L',env'.frame=some L'→s.heap.get? L'=none→RaiseAtH w (Ak 58 (env'::env::outer)) base (env'::env::outer) s.heap (call (.ref c) []) (fun v h'=>okV s.heap v h') flt :=
  fun env' L' he hL=>told_call w (env'::env::outer) base s.heap W c c' ca cn A oa on ns tn name qual p bd sc cl pm ctv objs okV flt hm hlam hla hln
    (Objs.on (objs_ground O0 F hf) (fun _ _ e=>e) hL he)
    (Objs.on (objs_of_news B N hf (fc hc (fc m1 (fc m2 (List.forall_mem_nil _))))) (fun _ _ e=>e) hL he) hda hdn hcr hS
section
variable {w:World} {A A₀:Around} {env:Env} {outer:List Env} {base g:Heap} {s:Shared} {Q E:Value→Shared→Prop} {L:Addr} {m:Str→Option Value} {news objs:List (Addr×Obj)} {c:Addr} {fdt:FuncData} {clv:Value} {dct:Option Addr} {sl:Array (Option Value)}
theorem hear_T {l:List Int} {okV:Value→Heap→Prop} {flt:Int→Prop} (hv:∀ v h',okV v h'→TupNew l s.heap v h') (hff:∀ sp,¬ flt sp)
    (hA:A.handled=none) (hfr:A.frames=some (env::outer)) (hd:A.depth≤900 - 6 * 60) (hu:A.units≤9000 - 99 * 60)
    (W:Wd w base) (B:Below A₀ base outer g) (F:Fr g L s.heap m) (N:News g L s.heap news) (hf:env.frame=some L) (hk:env.scope.kind=.function)
    (hc:(c,(⟨clv,dct,.func fdt,sl⟩:Obj))∈news)
    (hcall:∀ env' L',env'.frame=some L'→s.heap.get? L'=none→RaiseAtH w (Ak 58 (env'::env::outer)) base (env'::env::outer) s.heap (call (.ref c) []) okV flt)
    (h:∀ D vs h' tk,IntsAre vs l→Fr g L h' m→News g L h' ((D,tupO vs)::news)→(∀ p∈news,p.1 < D)→@LT.lt Nat _ L D→Q (.ref D) { s with heap:=h',toks:=tk }) :
    wpAny (model PySem.Challenge.rw_nz0031_01.row.prog w) A (call (.ref 415) [.ref c]) Q E s :=
  heardH_use hA hfr hd hu W B F N hf hk hc hcall (fun v h' tk o F' N'=>by
    obtain ⟨D,ws,e,hD,hg,hi⟩:=hv v h' o
    subst e
    have q:=news_made F N N' hD hg
    exact h D ws h' tk hi F' q.1 q.2 (Nat.lt_of_lt_of_le F.ns.lt hD)) (fun _ _ _ sp _ _ _ f _ _ _ _ _=>(hff sp f).elim)
theorem gnd_of (W:Wd w base) (B':Below A₀ base outer g') (r:RelS (FrOf outer) g g'):Gnd w base g g' outer:=by
  obtain ⟨p,lo,me,mg,mb,T⟩:=W.top
  exact ⟨W.K.keeps B'.stays,⟨p,lo,me,mg,mb,T.keeps B'.stays⟩,fun c P x=>x.keeps B'.stays,fun v q x=>rec_relS x r,fun os O=>objs_rel O r⟩
theorem hear_F {sp0:Int} {okV:Value→Heap→Prop} {flt:Int→Prop} (hv:∀ v h',¬ okV v h') (hff:∀ sp,flt sp→sp=sp0)
    (hA:A.handled=none) (hfr:A.frames=some (env::outer)) (hd:A.depth≤900 - 6 * 60) (hu:A.units≤9000 - 99 * 60)
    (W:Wd w base) (B:Below A₀ base outer g) (F:Fr g L s.heap m) (N:News g L s.heap news) (hf:env.frame=some L) (hk:env.scope.kind=.function)
    (hc:(c,(⟨clv,dct,.func fdt,sl⟩:Obj))∈news)
    (hcall:∀ env' L',env'.frame=some L'→s.heap.get? L'=none→RaiseAtH w (Ak 58 (env'::env::outer)) base (env'::env::outer) s.heap (call (.ref c) []) okV flt)
    (hx:∀ tu t1 t2 g' h' tk,RelS (FrOf outer) g g'→Fr g' L h' m→News g' L h' ((tu,tupO [.str (Str.ofString "fault") t1,.int sp0 t2])::news)→AllNeN tu news→Below A₀ base outer g'→Gnd w base g g' outer→Q (.ref tu) { s with heap:=h',toks:=tk }) :
    wpAny (model PySem.Challenge.rw_nz0031_01.row.prog w) A (call (.ref 415) [.ref c]) Q E s :=
  heardH_use hA hfr hd hu W B F N hf hk hc hcall (fun v h' _ f _ _=>(hv v h' f).elim) (fun tu t1 t2 sp g' h' tk e r F' N' l B'=>by
    have e2:=hff sp e
    subst e2
    exact hx tu t1 t2 g' h' tk r F' N' l B' (gnd_of W B' r))
end
theorem relS_un (hpl:h0.get? pl=some o) (R:RelS fr (hideAll h0 [T,pl]) h) (hp:h.get? pl=some o):RelS fr (hideAll h0 [T]) h:=by
  have key:∀ b o,(hideAll h0 [T]).get? b=some o→b≠pl→(hideAll h0 [T,pl]).get? b=some o:=fun b o e hb=>by
    refine hideAll_get _ (of_hideAll _ e) ?_
    simp only [List.mem_cons,List.not_mem_nil,or_false,not_or]
    refine ⟨fun z=>?_,hb⟩
    rw [z,hideAll_none _ (List.mem_singleton.mpr rfl)] at e;cases e
  have kp:∀ o,(hideAll h0 [T]).get? pl=some o→h.get? pl=some o:=fun o e=>by
    have e2:=of_hideAll _ e
    rw [hpl] at e2;cases e2
    exact hp
  refine ⟨fun b o e nm=>?_,fun b o e=>?_⟩
  · by_cases hb:b=pl
    · rw [hb] at e ⊢;exact kp o e
    · exact R.keep b o (key b o e hb) nm
  · by_cases hb:b=pl
    · rw [hb] at e ⊢;exact ⟨o.slots,kp o e⟩
    · exact R.slot b o (key b o e hb)
theorem rec_kept {c:Addr} {g:Heap} {vs:Array Value} (K:KeptBut It L g h news) (hm:(c,oc)∈news) (hne:@Ne Nat c It) (hd:oc.data=.fields vs) (hv:vs[1]?=some (.str qual t)):h.CodeRec (.ref c) qual:=⟨c,oc,vs,t,rfl,(K _ hm hne).1,hd,hv⟩
theorem told_end {oS:Obj} {gN:Heap} 
    (hret:∀ h' tk tp',RelS fr (hideAll s.heap [441]) h'→h'.get? 441=some (tabObj tp')→TabS 471 22 qualT s.heap tp h' tp'→Q (.bool true) { s with heap:=h',toks:=tk })
    (hpl:s.heap.get? S=some oS) (r:RelS fr (hideAll s.heap [441,S]) h) (K:KeptBut It L gN h news) (mS:(S,oS)∈news) (mT:(441,tabObj tp')∈news) (n1:@Ne Nat S It) (n2:@Ne Nat 441 It) (T:TabS 471 22 qualT s.heap tp h tp'):Q (.bool true) { s with heap:=h,toks:=tk } :=
  hret h tk tp' (relS_un hpl r (K _ mS n1).1) (K _ mT n2).1 T
theorem tup_objs {g:Heap} {a:Addr} (O:Objs base outer g objs) (m:(a,tupO vs)∈objs):IsTup g a (List.toArray vs):=⟨_,(O _ m).1,rfl,0,rfl⟩
theorem mono_no:Mono (fun _ _ _=>False):=fun _ _ _ _ _ f=>f
section
variable {prog:Program} {w:World} {A:Around} {E:Value→Shared→Prop} {s:Shared} {Q:Value→Shared→Prop}
theorem len_listN (n:Int) {c:Nat} (N:News h₀ L s.heap news) (hm:(S,listOf (List.toArray vs) c)∈news) (hl:vs.length≤20) (e:(vs.length:Int)=n) (h:Q (.int n (s.toks + 1)) { s with toks:=s.toks + 1 + 1 }) :
    wpAny (model prog w) A (call (.builtin "len") [.ref S]) Q E s:=len_listZ N hm hl (by rw [e];exact h)
theorem ne_tupSame {a b:Addr} (ha:IsTup s.heap a vs.toArray) (hb:IsTup s.heap b us.toArray) (hi:IntsAre vs l) (hj:IntsAre us l) (hu:A.units + 64 < cLine) (h:Q (.bool false) s) :
    wpAny (model prog w) A (compareOp .NotEq (.ref a) (.ref b)) Q E s:=ne_tupZ ha hb hi hj hu (by simpa using h)
theorem ne_fault {g:Heap} {a b:Addr} (N:News g L s.heap news) (ma:(a,tupO [.str (Str.ofString "fault") t1,.int sp t2])∈news) (mb:(b,tupO [.str (Str.ofString "fault") u1,.int sp u2])∈news) (hu:A.units + 64 < cLine) (h:Q (.bool false) s) :
    wpAny (model prog w) A (compareOp .NotEq (.ref a) (.ref b)) Q E s:=by
  refine ne_dataH (reads_tuple_at (N _ ma).1 rfl rfl (.cons (.str _ _) (.cons (.int _ _) .nil))) (reads_tuple_at (N _ mb).1 rfl rfl (.cons (.str _ _) (.cons (.int _ _) .nil))) (by simp [SeqAt.shaped,PyData.canLay0,PyData.canLayAll0,PyData.depth,PyData.depthAll];decide +kernel) (by simp [SeqAt.shaped,PyData.canLay0,PyData.canLayAll0,PyData.depth,PyData.depthAll];decide +kernel) hu ?_
  have e:PyData.eqv (.tuple [.str (Str.ofString "fault"),.int sp]) (.tuple [.str (Str.ofString "fault"),.int sp])=true:=by simp [PyData.eqv,PyData.eqvAll]
  rw [e]
  exact h
end
section
variable {w:World} {base:Heap} {objs:List (Addr×Obj)} {self sd dct A R V:Addr} {oD:Obj} {tsd:Tok} {vsV:List Value} {cV:Nat}
example:True:=by
  k_with "w omega"=>((fail_if_success k_extra "r209");k_extra "y0")
  trivial
theorem idx_in {ks:List (Addr×Obj)} {nodes nName node:Addr} {p:Addr×Obj} (h:p∈objs):p∈idxO w objs ks self sd dct nodes nName node tsd t0 t1 u0 u1 u2:=.tail _ (.tail _ (.tail _ (.tail _ (List.mem_append_right _ h))))
theorem nodesV1 (W:Wd w base) {os:List (Addr×Obj)} {n0:Addr} {a0 b0:Tok} (m:(n0,tupO [.str (Str.ofString "int") a0,.int 6 b0,.int x tx])∈os):NodesV w base os self [.ref n0] [.int x tx]:=fun i v r hv hr=>by
  match i with
  | 0=>cases hv;cases hr;exact ⟨n0,rfl,val_int_ok w base W os self n0 a0 b0 x 6 tx m⟩
  | i + 1=>cases hv
theorem nodesV2 (W:Wd w base) {os:List (Addr×Obj)} {n0 n1:Addr} {a0 b0 a1 b1:Tok} (m:(n0,tupO [.str (Str.ofString "int") a0,.int 6 b0,.int x tx])∈os) (m':(n1,tupO [.str (Str.ofString "int") a1,.int 6 b1,.int y ty])∈os):NodesV w base os self [.ref n0,.ref n1] [.int x tx,.int y ty]:=fun i v r hv hr=>by
  match i with
  | 0=>cases hv;cases hr;exact ⟨n0,rfl,val_int_ok w base W os self n0 a0 b0 x 6 tx m⟩
  | 1=>cases hv;cases hr;exact ⟨n1,rfl,val_int_ok w base W os self n1 a1 b1 y 6 ty m'⟩
  | i + 2=>cases hv
theorem atc1 (W:Wd w base) (D:RdO w objs self sd dct A R V oD tsd vsV cV) (mpl:(pl,listOf (List.toArray [.int x tx]) cp)∈objs) (mR:(R,tupO [.ref P0])∈objs) (m0:(P0,tupO [.int lo u0,.int hi u1])∈objs) (hV2:(vsV.length:Int)=hi - lo + 1)
    (b0:-30≤lo∧lo≤30) (b1:-30≤hi∧hi≤30) (b2:-50≤x∧x≤50) :
    AtC w base objs self pl (fun v=>inR lo hi x∧vsV[(x - lo).toNat]?=some v) (fun sp=>¬ inR lo hi x∧sp=5):=fun outer s Q E tp B O hP hPT hPb hPf hret =>
  lawat1 w base W objs self sd dct pl tsd x tx cp _ _ D.ms D.md mpl D.no (fun nodes cn n0 a0 b0' nName node t0 t1 u0' u1' u2' =>
    val_index w base W _ self sd dct node nName nodes tsd t0 t1 30 (by decide) _ _ (.tail _ (.tail _ (.head _))) (.tail _ (.tail _ (.tail _ (.head _)))) (.head _)
      (elem1 w base W _ self sd dct node nName nodes A R V P0 tsd t0 t1 0 u0 u1 vsV [.ref n0] cV cn lo hi x tx (.tail _ (.tail _ (.head _))) (.tail _ (.tail _ (.tail _ (.head _)))) (.head _) (.tail _ (.tail _ (.tail _ (.tail _ (.head _))))) rfl
        (idx_in D.mA) (idx_in D.mV) (idx_in mR) (idx_in m0) D.hV hV2 b0 b1 b2
        (val_name1 w base W _ self sd dct nName A oD tsd u0' u1' u2' 2 D.hD D.hS (.tail _ (.tail _ (.head _))) (.tail _ (.tail _ (.tail _ (.head _)))) (idx_in D.mD) (.tail _ (.head _)))
        (values_ok w base W _ self sd dct nodes tsd [.ref n0] [.int x tx] cn (.tail _ (.tail _ (.head _))) (.tail _ (.tail _ (.tail _ (.head _)))) (.tail _ (.tail _ (.tail _ (.tail _ (.head _))))) (Nat.le_of_ble_eq_true rfl) rfl
          (nodesV1 W (.tail _ (.tail _ (.tail _ (.tail _ (.tail _ (.head _)))))))))) outer s Q E tp B O hP hPT hPb hPf hret
theorem atc1x (W:Wd w base) (D:RdO w objs self sd dct A R V oD tsd vsV cV) (mpl:(pl,listOf (List.toArray [.int x tx,.int y ty]) cp)∈objs) (mR:(R,tupO [.ref P0])∈objs) (m0:(P0,tupO [.int lo u0,.int hi u1])∈objs)
    (b0:-30≤lo∧lo≤30) (b1:-30≤hi∧hi≤30) :
    AtC w base objs self pl (fun _=>False) (fun sp=>sp=5):=fun outer s Q E tp B O hP hPT hPb hPf hret =>
  lawat2 w base W objs self sd dct pl tsd x y tx ty cp _ _ D.ms D.md mpl D.no (fun nodes cn n0 a0 b0' n1 a1 b1' nName node t0 t1 u0' u1' u2' =>
    val_index w base W _ self sd dct node nName nodes tsd t0 t1 30 (by decide) _ _ (.tail _ (.tail _ (.head _))) (.tail _ (.tail _ (.tail _ (.head _)))) (.head _)
      (elem1x w base W _ self sd dct node nName nodes A R V P0 tsd t0 t1 0 u0 u1 vsV [.ref n0,.ref n1] cV cn lo hi (.tail _ (.tail _ (.head _))) (.tail _ (.tail _ (.tail _ (.head _)))) (.head _) (.tail _ (.tail _ (.tail _ (.tail _ (.head _))))) rfl
        (idx_in D.mA) (idx_in D.mV) (idx_in mR) (idx_in m0) D.hV b0 b1
        (val_name1 w base W _ self sd dct nName A oD tsd u0' u1' u2' 2 D.hD D.hS (.tail _ (.tail _ (.head _))) (.tail _ (.tail _ (.tail _ (.head _)))) (idx_in D.mD) (.tail _ (.head _))))) outer s Q E tp B O hP hPT hPb hPf hret
theorem atc2 (W:Wd w base) (D:RdO w objs self sd dct A R V oD tsd vsV cV) (mpl:(pl,listOf (List.toArray [.int x tx,.int y ty]) cp)∈objs) (mR:(R,tupO [.ref P0,.ref P1])∈objs) (m0:(P0,tupO [.int lo u0,.int hi u1])∈objs) (m1:(P1,tupO [.int lo1 u2,.int hi1 u3])∈objs) (hV2:(vsV.length:Int)=(hi - lo + 1) * (hi1 - lo1 + 1))
    (b0:-30≤lo∧lo≤30) (b1:-30≤hi∧hi≤30) (b2:-50≤x∧x≤50) (b3:-30≤lo1∧lo1≤30) (b4:-30≤hi1∧hi1≤30) (b5:-50≤y∧y≤50) (w0:hi - lo + 1≤10) (w1:hi1 - lo1 + 1≤10) :
    AtC w base objs self pl (fun v=>(inR lo hi x∧inR lo1 hi1 y)∧vsV[(pl2 lo lo1 hi1 x y).toNat]?=some v) (fun sp=>¬ (inR lo hi x∧inR lo1 hi1 y)∧sp=5):=fun outer s Q E tp B O hP hPT hPb hPf hret =>
  lawat2 w base W objs self sd dct pl tsd x y tx ty cp _ _ D.ms D.md mpl D.no (fun nodes cn n0 a0 b0' n1 a1 b1' nName node t0 t1 u0' u1' u2' =>
    val_index w base W _ self sd dct node nName nodes tsd t0 t1 30 (by decide) _ _ (.tail _ (.tail _ (.head _))) (.tail _ (.tail _ (.tail _ (.head _)))) (.head _)
      (elem2 w base W _ self sd dct node nName nodes A R V P0 P1 tsd t0 t1 0 u0 u1 u2 u3 vsV [.ref n0,.ref n1] cV cn lo hi lo1 hi1 x y tx ty (.tail _ (.tail _ (.head _))) (.tail _ (.tail _ (.tail _ (.head _)))) (.head _) (.tail _ (.tail _ (.tail _ (.tail _ (.head _))))) rfl
        (idx_in D.mA) (idx_in D.mV) (idx_in mR) (idx_in m0) (idx_in m1) D.hV hV2 b0 b1 b2 b3 b4 b5 w0 w1
        (val_name1 w base W _ self sd dct nName A oD tsd u0' u1' u2' 2 D.hD D.hS (.tail _ (.tail _ (.head _))) (.tail _ (.tail _ (.tail _ (.head _)))) (idx_in D.mD) (.tail _ (.head _)))
        (values_ok w base W _ self sd dct nodes tsd [.ref n0,.ref n1] [.int x tx,.int y ty] cn (.tail _ (.tail _ (.head _))) (.tail _ (.tail _ (.tail _ (.head _)))) (.tail _ (.tail _ (.tail _ (.tail _ (.head _))))) (Nat.le_of_ble_eq_true rfl) rfl
          (nodesV2 W (.tail _ (.tail _ (.tail _ (.tail _ (.tail _ (.head _)))))) (.tail _ (.tail _ (.tail _ (.tail _ (.tail _ (.tail _ (.head _))))))))))) outer s Q E tp B O hP hPT hPb hPf hret
end
theorem tabD_l {g:Heap} (D:tp=#[]∨TabD ln co q g c0 o0 tp) (F:Fr g L h m) (N:News g L h news) (mc:(c0,o0)∈news):TabL ln co q h tp:=by
  rcases D with e|⟨c',e,x|⟨rfl,vs,t,x⟩⟩
  · exact .inl e
  · exact .inr ⟨c',e,x.keeps F.keep⟩
  · exact .inr ⟨c0,e,codeRec_news N mc x.1 x.2⟩
theorem tabN_on {L:Nat} (hL:@LT.lt Nat _ L h.objs.size) (T:TabS ln co q h tp h' tp'):∀ tp0,TabN L tp0 tp→TabN L tp0 tp':=fun tp0 x=>by
  obtain ⟨c',e',_,⟨e0,hle⟩|e0⟩:=T
  · rcases x with e|⟨_,c2,a,b,e,_⟩
    · exact .inr ⟨e ▸ e0,c',_,_,e',Nat.le_trans (Nat.le_of_lt hL) hle⟩
    · rw [e0] at e;exact absurd (congrArg Array.size e) (by simp)
  · rw [e0];exact x
theorem tab_on {ln co:Int} {q:Str} {g g' h h':Heap} {L c0 T:Addr} {o0:Obj} {tp tp':Array Value} {m:Str→Option Value} {news:List (Addr×Obj)} {G:Obj→List (Addr×Obj)} (D:tp=#[]∨TabD ln co q g c0 o0 tp) (F:Fr g L h m) (N:News g L h news) (U:UpdF T (tabObj tp) news G) (mc:(c0,o0)∈news) (hc:@Ne Nat c0 T)
    (hr:∀ v q,g.CodeRec v q→g'.CodeRec v q) (kn:∀ b,g.get? b=none→g'.get? b=none) (N':News g' L h' (G (tabObj tp'))) (T':TabS ln co q h tp h' tp') :
    ∃ c1 o1,News g' L h' ((c1,o1)::G (tabObj tp'))∧TabD ln co q g' c1 o1 tp'∧∀ q,@Ne Nat c0 q→(∃ o,(q,o)∈news)→@Ne Nat c1 q:=by
  obtain ⟨pre,post,eN,hG,h1,h2⟩:=U.split
  obtain ⟨c',e',rc,hT⟩:=T'
  rcases hT with ⟨e0,hle⟩|e0
  · obtain ⟨cc,oc,vs,t,e1,e2,e3,e4⟩:=rc
    cases e1
    have hLc:@LT.lt Nat _ L c':=Nat.lt_of_lt_of_le F.ns.lt hle
    refine ⟨c',oc,fun p hp=>?_,⟨c',e',.inr ⟨rfl,vs,t,e3,e4⟩⟩,fun q _ hq=>?_⟩
    · rcases List.mem_cons.mp hp with rfl|hp
      · exact ⟨e2,Nat.ne_of_gt hLc,kn _ (Heap.get?_none_of_le (Nat.le_trans F.above (Nat.le_of_lt hLc)))⟩
      · exact N' p hp
    · obtain ⟨o,ho⟩:=hq
      exact Nat.ne_of_gt (Nat.lt_of_lt_of_le (Heap.lt_size (N _ ho).1) hle)
  · subst e0
    rcases D with e|⟨c2,e2,x⟩
    · rw [e] at e';exact absurd (congrArg Array.size e') (by simp)
    · refine ⟨c0,o0,fun p hp=>?_,⟨c2,e2,?_⟩,fun q hq _=>hq⟩
      · rcases List.mem_cons.mp hp with e|hp
        · rw [e]
          refine N' _ ?_
          rw [hG]
          rw [eN] at mc
          rcases List.mem_append.mp mc with z|z
          · exact List.mem_append_left _ z
          · rcases List.mem_cons.mp z with z|z
            · exact absurd (congrArg Prod.fst z) hc
            · exact List.mem_append_right _ (.tail _ z)
        · exact N' p hp
      · rcases x with x|x
        · exact .inl (hr _ _ x)
        · exact .inr x
section
variable {c0:Addr} {o0:Obj} {w:World} {A A₀:Around} {env:Env} {outer:List Env} {base g:Heap} {s:Shared} {Q E:Value→Shared→Prop} {L self pl:Addr} {m:Str→Option Value} {news objs:List (Addr×Obj)} {tp:Array Value} {G:Obj→List (Addr×Obj)} {okV:Value→Prop} {flt:Int→Prop} {c0:Addr} {o0:Obj}
theorem at_use (S:AtC w base objs self pl okV flt) (hA:A.handled=none) (hfr:A.frames=some (env::outer)) (hd:A.depth≤900 - 6 * 70) (hu:A.units≤9000 - 99 * 70)
    (W:Wd w base) (B:Below A₀ base outer g) (F:Fr g L s.heap m) (N:News g L s.heap news) (U:UpdF 448 (tabObj tp) news G) (hf:env.frame=some L) (hk:env.scope.kind=.function) (hT:tp=#[]∨TabD 476 22 qualA g c0 o0 tp) (mc:(c0,o0)∈news) (hc:@Ne Nat c0 448) (O:Objs base (env::outer) s.heap objs)
    (h:∀ v g' h' tk tp' c1 o1,(okV v∨∃ sp tu,flt sp∧v=.ref tu∧s.heap.get? tu=none∧FaultT h' tu sp)→RelS (FrOf outer) g g'→Fr g' L h' m→News g' L h' ((c1,o1)::G (tabObj tp'))→Below A₀ base outer g'→Gnd w base g g' outer→TabD 476 22 qualA g' c1 o1 tp'→(∀ q,@Ne Nat c0 q→(∃ o,(q,o)∈news)→@Ne Nat c1 q)→(∀ tp0,TabN L tp0 tp→TabN L tp0 tp')→(∀ b,g.get? b=none→g'.get? b=none)→Q v { s with heap:=h',toks:=tk }) :
    wpAny (model PySem.Challenge.rw_nz0031_01.row.prog w) A (call (.ref 451) [.ref self,.ref pl]) Q E s:=by
  have nT:=N _ (updF_mem U)
  have hb:=(objs_of_news B N hf (objs:=[(448,tabObj tp)]) (by intro p hp;rw [List.mem_singleton.mp hp];exact updF_mem U)) _ (.head _)
  refine wpAny_ak hA hfr hd hu (S (env::outer) s Q E tp (below_at B F hf hk) O nT.1 (tabD_l hT F N mc) hb.2.1 hb.2.2 fun v h' tk tp' o r hg T=>?_)
  obtain ⟨g',r',F',N',B',kn⟩:=reT B F N hf U r hg
  obtain ⟨c1,o1,N1,D1,q1⟩:=tab_on hT F N U mc hc (fun v q x=>rec_relS x r') kn N' T
  exact h v g' h' tk tp' c1 o1 o r' F' N1 B' (gnd_of W B' r') D1 q1 (tabN_on F.ns.lt T) kn
theorem at_V (S:AtC w base objs self pl okV flt) (hff:∀ sp,¬ flt sp) (hA:A.handled=none) (hfr:A.frames=some (env::outer)) (hd:A.depth≤900 - 6 * 70) (hu:A.units≤9000 - 99 * 70)
    (W:Wd w base) (B:Below A₀ base outer g) (F:Fr g L s.heap m) (N:News g L s.heap news) (U:UpdF 448 (tabObj tp) news G) (hf:env.frame=some L) (hk:env.scope.kind=.function) (hT:tp=#[]∨TabD 476 22 qualA g c0 o0 tp) (mc:(c0,o0)∈news) (hc:@Ne Nat c0 448) (O:Objs base (env::outer) s.heap objs)
    (h:∀ v g' h' tk tp' c1 o1,okV v→RelS (FrOf outer) g g'→Fr g' L h' m→News g' L h' ((c1,o1)::G (tabObj tp'))→Below A₀ base outer g'→Gnd w base g g' outer→TabD 476 22 qualA g' c1 o1 tp'→(∀ q,@Ne Nat c0 q→(∃ o,(q,o)∈news)→@Ne Nat c1 q)→(∀ tp0,TabN L tp0 tp→TabN L tp0 tp')→Q v { s with heap:=h',toks:=tk }) :
    wpAny (model PySem.Challenge.rw_nz0031_01.row.prog w) A (call (.ref 451) [.ref self,.ref pl]) Q E s :=
  at_use S hA hfr hd hu W B F N U hf hk hT mc hc O fun v g' h' tk tp' c1 o1 o r' F' N' B' G' T q1 tn _=>by
    rcases o with o|⟨sp,_,f,_⟩
    · exact h v g' h' tk tp' c1 o1 o r' F' N' B' G' T q1 tn
    · exact (hff sp f).elim
theorem at_F {sp0:Int} (S:AtC w base objs self pl okV flt) (hvv:∀ v,¬ okV v) (hff:∀ sp,flt sp→sp=sp0) (hA:A.handled=none) (hfr:A.frames=some (env::outer)) (hd:A.depth≤900 - 6 * 70) (hu:A.units≤9000 - 99 * 70)
    (W:Wd w base) (B:Below A₀ base outer g) (F:Fr g L s.heap m) (N:News g L s.heap news) (U:UpdF 448 (tabObj tp) news G) (hf:env.frame=some L) (hk:env.scope.kind=.function) (hT:tp=#[]∨TabD 476 22 qualA g c0 o0 tp) (mc:(c0,o0)∈news) (hc:@Ne Nat c0 448) (O:Objs base (env::outer) s.heap objs)
    (h:∀ tu t1 t2 g' h' tk tp' c1 o1,RelS (FrOf outer) g g'→Fr g' L h' m→News g' L h' ((tu,tupO [.str (Str.ofString "fault") t1,.int sp0 t2])::(c1,o1)::G (tabObj tp'))→AllNeN tu news→Below A₀ base outer g'→Gnd w base g g' outer→TabD 476 22 qualA g' c1 o1 tp'→(∀ q,@Ne Nat c0 q→(∃ o,(q,o)∈news)→@Ne Nat c1 q)→(∀ tp0,TabN L tp0 tp→TabN L tp0 tp')→Q (.ref tu) { s with heap:=h',toks:=tk }) :
    wpAny (model PySem.Challenge.rw_nz0031_01.row.prog w) A (call (.ref 451) [.ref self,.ref pl]) Q E s :=
  at_use S hA hfr hd hu W B F N U hf hk hT mc hc O fun v g' h' tk tp' c1 o1 o r' F' N' B' G' T q1 tn kn=>by
    rcases o with o|⟨sp,tu,f,e,hn,t1,t2,hg⟩
    · exact (hvv v o).elim
    · subst e
      have e:=hff sp f
      subst e
      refine h tu t1 t2 g' h' tk tp' c1 o1 r' F' (fun p hp=>?_) (allNeN_of hn N) B' G' T q1 tn
      rcases List.mem_cons.mp hp with e|hp
      · rw [e]
        refine ⟨hg,?_,kn _ (kts_none F.keep hn)⟩
        obtain ⟨oL,_,_,e1,_⟩:=F.ns
        rintro rfl
        rw [hn] at e1;cases e1
      · exact N' p hp
end
theorem any_ints:((l.map PyData.int).any fun d=>PyData.eqv d (.int k))=decide (k∈l):=by
  induction l with
  | nil=>simp
  | cons a r ih =>
    simp only [List.map_cons,List.any_cons,ih,PyData.eqv]
    by_cases h:a=k
    · subst h;simp
    · have h2:¬ k=a:=fun z=>h z.symm
      simp [h,h2]
section
variable {prog:Program} {w:World} {A:Around} {E:Value→Shared→Prop} {s:Shared} {Q:Value→Shared→Prop}
theorem mem_from:∀ {n:Nat} {a k:Int},k∈intsFrom a n↔a≤k∧k < a + n
  | 0,a,k=>by
    simp only [intsFrom,List.not_mem_nil,false_iff]
    omega
  | n + 1,a,k=>by
    rw [intsFrom,List.mem_cons,mem_from]
    push_cast
    omega
theorem in_tupL {a:Addr} (ha:IsTup s.heap a vs.toArray) (hi:IntsAre vs l) (hu:A.units + 65 < cLine) (h:Q (.bool (decide (k∈l))) s) :
    wpAny (model prog w) A (compareOp .In (.int k t) (.ref a)) Q E s :=
  SeqAt.in_tuple_reads (reads_newDataT ha (ke_carried hi)) (.int k t) (ke_canLayAll0 l) rfl (by
    have e:min (PyData.depthAll (l.map PyData.int)) (PyData.depth (.int k))≤0:=by rw [ke_depthAll];exact Nat.min_le_left _ _
    have e2:(64:Nat)≤65:=by decide
    omega) (by rw [any_ints];exact h)
theorem in_yes {a:Addr} (ha:IsTup s.heap a vs.toArray) (hi':IntsAre vs (intsFrom lo (hi + 1 - lo).toNat)) (hin:inR lo hi k) (hu:A.units + 65 < cLine) (h:Q (.bool true) s) :
    wpAny (model prog w) A (compareOp .In (.int k t) (.ref a)) Q E s:=in_tupL ha hi' hu (by
  have e:k∈intsFrom lo (hi + 1 - lo).toNat:=mem_from.mpr ⟨hin.1,by have:=hin.2;have:=hin.1;omega⟩
  simpa [e] using h)
theorem in_not {a:Addr} (ha:IsTup s.heap a vs.toArray) (hi':IntsAre vs (intsFrom lo (hi + 1 - lo).toNat)) (hin:¬ inR lo hi k) (hu:A.units + 65 < cLine) (h:Q (.bool false) s) :
    wpAny (model prog w) A (compareOp .In (.int k t) (.ref a)) Q E s:=in_tupL ha hi' hu (by
  have e:¬ k∈intsFrom lo (hi + 1 - lo).toNat:=fun z=>hin ⟨(mem_from.mp z).1,by have:=(mem_from.mp z).2;have:=(mem_from.mp z).1;omega⟩
  simpa [e] using h)
theorem ne_sameI {n:Int} (h:Q (.bool false) s):wpAny (model prog w) A (compareOp .NotEq (.int n t) (.int n u)) Q E s:=PyProof.Rows.ne_int (by simpa using h)
theorem item_listI {c:Nat} (N:News h₀ L s.heap news) (hm:(S,listOf (List.toArray vs) c)∈news) (hi:IntsAre vs ns) (hl:vs.length≤20) (h0:0≤k) (h1:k < vs.length)
    (h:∀ n t,vs[k.toNat]?=some (.int n t)→Q (.int n t) s)
    (hs:subscripted slice false (.ref S) (.int k u)=operate [.ref S,.int k u] (getItem (.ref S) (.int k u)):=by with_unfolding_all rfl) (hg:∀ r,letTemporaryGo value (.ref S) r=pure ():=by intro _;with_unfolding_all rfl) :
    wpAny (model prog w) A (subscriptTail value slice (.ref S) (.int k u)) Q E s :=
  item_listZ N hm hl h0 h1 (fun v hv=>by
    have hn:=hi.length
    have hlt:k.toNat < ns.length:=by omega
    obtain ⟨n,u',e,hn'⟩:=hi.at k.toNat v hv
    subst e
    exact h n u' hv) hs hg
end
theorem forR {prog:Program} {w:World} {A:Around} {env:Env} {x:Str} {px:Pos} {body:List Stmt} {It:Addr} {R:Result→Shared→Prop} {s:Shared} (hh:A.handled=none) (a:Int) (n:Nat) (J:Nat→Shared→Prop) (h0:J 0 s)
    (hit:∀ i s,J i s→IsRangeIter s.heap It (a + i) ((n:Int) - i) 1)
    (turn:∀ i s₁ h',i < n→J i s₁→IsRangeIter h' It (a + ((i + 1:Nat):Int)) ((n:Int) - ((i + 1:Nat):Int)) 1→Heap.SameBut It s₁.heap h' →
      wpAny (model prog w) A (storeName env x (.int (a + i) s₁.toks)) (fun _ s₂=>wpAny (model prog w) A (execs body env) (fun f s₃=>(f=.next∨f=.cont)∧J (i + 1) s₃) (fun _ _=>False) s₂) (fun _ _=>False) { s₁ with heap:=h',toks:=s₁.toks + 1 })
    (done:∀ s₁ h',J n s₁→Heap.ExtBut It s₁.heap h'→R (.ok .next) { s₁ with heap:=h' }) :
    codeAny (model prog w) A (.forLoop (.Name x px) (.ref It) body [] env) R s:=by
  refine codeAny_forLoop (fun k s'=>∃ i,i≤n∧k=n + 1 - i∧J i s') ?_ (n + 1) ⟨0,Nat.zero_le _,rfl,h0⟩
  rintro k s' ⟨i,hi,rfl,hJ⟩
  have h1:=hit i s' hJ
  by_cases hlt:i < n
  · refine wpAny_pyNext_range_item h1 (by omega) fun h₁ hit₁ hs₁=>?_
    have e1:a + (i:Int) + 1=a + ((i + 1:Nat):Int):=by push_cast;omega
    have e2:(n:Int) - (i:Int) - 1=(n:Int) - ((i + 1:Nat):Int):=by push_cast;omega
    rw [e1,e2] at hit₁
    refine wpAny_assign_Name (wpAny_mono (turn i s' h₁ hlt hJ hit₁ hs₁) (fun _ s₂ h₂=>wpAny_mono h₂ (fun f s₃ h₃=>?_) fun _ _ x=>x.elim) fun _ _ x=>x.elim)
    obtain ⟨rfl|rfl,hJ'⟩:=h₃
    · exact ⟨n + 1 - (i + 1),by omega,i + 1,by omega,rfl,hJ'⟩
    · exact ⟨n + 1 - (i + 1),by omega,i + 1,by omega,rfl,hJ'⟩
  · have h6:i=n:=by omega
    subst h6
    refine wpAny_pyNext_range_end hh h1 (by omega) fun h₁ he₁=>wpAny_execs_nil ?_
    exact done s' h₁ hJ he₁
theorem nads_of {ads:List Nat} (q:∀ q,@Ne Nat c0 q→(∃ o,(q,o)∈news)→@Ne Nat c1 q) (_:AdsAre ads) (n:∀ q∈ads,@Ne Nat c0 q) (m:∀ q∈ads,∃ o,((q:Addr),o)∈news):∀ q∈ads,@Ne Nat c1 q:=fun a h=>q a (n a h) (m a h)
theorem elJ_end {s0:Shared} {g:Heap} {A:Addr} {lS:List Value} {its:List (Addr×Obj)} {ads:List Nat} {P:(Str→Option Value)→Prop} 
    (B:Below (Ak 74 outer) base outer g) (r:RelS (FrOf outer) g0 g) (F:Fr g L h m) (N:News g L h news) (mi:∀ p∈its,p∈news) (mc:(c0,o0)∈news) (m1:(448,tabObj tp)∈news) (m2:(self,instObj 356 sd)∈news) (m3:(sd,sdO w dct tsd)∈news) (m4:(dct,oD)∈news) (m5:(S,listOf (List.toArray lS) cS)∈news) (m6:(V,listOf (List.toArray vsV) cV)∈news)
    (e:EM m A S self R k) (p:P m) (T:tp=#[]∨TabD 476 22 qualA g c0 o0 tp) (n1:@Ne Nat c0 448) (n2:∀ q∈ads,@Ne Nat c0 q) (n3:TabN L tp0 tp) (O:Objs base outer g objs):ElJ w base outer s0 g0 L A R V S self sd dct oD tsd lS vsV cS cV objs its tp0 ads P k { s0 with heap:=h,toks:=tk }:=by
  refine ⟨g,h,tk,m,tp,c0,o0,rfl,B,r,F,e,p,fun q hq=>?_,T,n1,n2,n3,O⟩
  rcases List.mem_append.mp hq with hq|hq
  · exact N q (mi q hq)
  · exact N q ((fc mc (fc m1 (fc m2 (fc m3 (fc m4 (fc m5 (fc m6 (List.forall_mem_nil _))))))):∀ q∈(c0,o0)::elNews w tp S V self sd dct oD tsd lS vsV cS cV,q∈news) q hq)
section
variable {w:World} {base:Heap} {objs:List (Addr×Obj)} {A R V S self sd dct L:Addr} {oD:Obj} {tsd:Tok} {vsV:List Value} {nsV:List Int} {cV:Nat}
theorem ElF.rd (C:ElF w base objs A R V S self sd dct L oD vsV nsV) {op:Obj} (hp:@Ne Nat pl 448):RdO w (elO w pl op self sd dct V oD tsd vsV cV objs) self sd dct A R V oD tsd vsV cV where
  ms:=.tail _ (.head _)
  md:=.tail _ (.tail _ (.head _))
  mD:=.tail _ (.tail _ (.tail _ (.head _)))
  hD:=C.hD
  hS:=C.hS
  mA:=List.mem_append_right _ C.mA
  mV:=.tail _ (.tail _ (.tail _ (.tail _ (.head _))))
  hV:=C.hV
  no:=fun p hm=>by
    obtain ⟨z1,z2,z3,z4,z5,z6,z7,z8⟩:=C.ap
    rcases List.mem_append.mp hm with hm|hm
    · simp only [List.mem_cons,List.not_mem_nil,or_false] at hm
      rcases hm with rfl|rfl|rfl|rfl|rfl
      · exact hp
      · exact neN (by dsimp only;omega)
      · exact neN (by dsimp only;omega)
      · exact neN (by dsimp only;omega)
      · exact z5
    · exact C.no p hm
variable {A₁ A₀:Around} {env:Env} {outer:List Env} {g:Heap} {s:Shared} {Q E:Value→Shared→Prop} {pl:Addr} {m:Str→Option Value} {news:List (Addr×Obj)} {tp:Array Value} {G:Obj→List (Addr×Obj)} {cp:Nat} {c0:Addr} {o0:Obj}
theorem elO_objs {op:Obj} (B:Below A₀ base outer g) (F:Fr g L s.heap m) (N:News g L s.heap news) (hf:env.frame=some L) (O:Objs base outer g objs) (mp:(pl,op)∈news) (ms:(self,instObj 356 sd)∈news) (md:(sd,sdO w dct tsd)∈news) (mD:(dct,oD)∈news) (mV:(V,listOf (List.toArray vsV) cV)∈news) :
    Objs base (env::outer) s.heap (elO w pl op self sd dct V oD tsd vsV cV objs) :=
  objs_app (objs_of_news B N hf (fc mp (fc ms (fc md (fc mD (fc mV (List.forall_mem_nil _))))))) (objs_ground O F hf)
theorem el_V {op:Obj} {okV:Value→Prop} {flt:Int→Prop} {v0:Value} (C:ElF w base objs A R V S self sd dct L oD vsV nsV) (Sc:AtC w base (elO w pl op self sd dct V oD tsd vsV cV objs) self pl okV flt) (hok:∀ v,okV v→v=v0) (hff:∀ sp,¬ flt sp)
    (hA:A₁.handled=none) (hfr:A₁.frames=some (env::outer)) (hd:A₁.depth≤900 - 6 * 70) (hu:A₁.units≤9000 - 99 * 70)
    (B:Below A₀ base outer g) (F:Fr g L s.heap m) (N:News g L s.heap news) (U:UpdF 448 (tabObj tp) news G) (hf:env.frame=some L) (hk:env.scope.kind=.function) (hT:tp=#[]∨TabD 476 22 qualA g c0 o0 tp) (mc:(c0,o0)∈news) (hc:@Ne Nat c0 448) (O:Objs base outer g objs)
    (mp:(pl,op)∈news) (ms:(self,instObj 356 sd)∈news) (md:(sd,sdO w dct tsd)∈news) (mD:(dct,oD)∈news) (mV:(V,listOf (List.toArray vsV) cV)∈news)
    (h:∀ g' h' tk tp' c1 o1,RelS (FrOf outer) g g'→Fr g' L h' m→News g' L h' ((c1,o1)::G (tabObj tp'))→Below A₀ base outer g'→Gnd w base g g' outer→TabD 476 22 qualA g' c1 o1 tp'→(∀ q,@Ne Nat c0 q→(∃ o,(q,o)∈news)→@Ne Nat c1 q)→(∀ tp0,TabN L tp0 tp→TabN L tp0 tp')→Q v0 { s with heap:=h',toks:=tk }) :
    wpAny (model PySem.Challenge.rw_nz0031_01.row.prog w) A₁ (call (.ref 451) [.ref self,.ref pl]) Q E s :=
  at_V Sc hff hA hfr hd hu C.W B F N U hf hk hT mc hc (elO_objs B F N hf O mp ms md mD mV) fun v g' h' tk tp' c1 o1 o=>by
    have e:=hok v o
    subst e
    exact h g' h' tk tp' c1 o1
theorem el_F {op:Obj} {okV:Value→Prop} {flt:Int→Prop} (C:ElF w base objs A R V S self sd dct L oD vsV nsV) (Sc:AtC w base (elO w pl op self sd dct V oD tsd vsV cV objs) self pl okV flt) (hvv:∀ v,¬ okV v) (hff:∀ sp,flt sp→sp=5)
    (hA:A₁.handled=none) (hfr:A₁.frames=some (env::outer)) (hd:A₁.depth≤900 - 6 * 70) (hu:A₁.units≤9000 - 99 * 70)
    (B:Below A₀ base outer g) (F:Fr g L s.heap m) (N:News g L s.heap news) (U:UpdF 448 (tabObj tp) news G) (hf:env.frame=some L) (hk:env.scope.kind=.function) (hT:tp=#[]∨TabD 476 22 qualA g c0 o0 tp) (mc:(c0,o0)∈news) (hc:@Ne Nat c0 448) (O:Objs base outer g objs)
    (mp:(pl,op)∈news) (ms:(self,instObj 356 sd)∈news) (md:(sd,sdO w dct tsd)∈news) (mD:(dct,oD)∈news) (mV:(V,listOf (List.toArray vsV) cV)∈news)
    (h:∀ tu t1 t2 g' h' tk tp' c1 o1,RelS (FrOf outer) g g'→Fr g' L h' m→News g' L h' ((tu,tupO [.str (Str.ofString "fault") t1,.int 5 t2])::(c1,o1)::G (tabObj tp'))→AllNeN tu news→Below A₀ base outer g'→Gnd w base g g' outer→TabD 476 22 qualA g' c1 o1 tp'→(∀ q,@Ne Nat c0 q→(∃ o,(q,o)∈news)→@Ne Nat c1 q)→(∀ tp0,TabN L tp0 tp→TabN L tp0 tp')→Q (.ref tu) { s with heap:=h',toks:=tk }) :
    wpAny (model PySem.Challenge.rw_nz0031_01.row.prog w) A₁ (call (.ref 451) [.ref self,.ref pl]) Q E s :=
  at_F Sc hvv hff hA hfr hd hu C.W B F N U hf hk hT mc hc (elO_objs B F N hf O mp ms md mD mV) h
end
section
variable {w:World} {base:Heap} {objs:List (Addr×Obj)} {A R V S self sd dct L P0 a0:Addr} {oD:Obj} {tsd u0 u1:Tok} {vsV vs0:List Value} {nsV:List Int} {cV:Nat} {lo hi:Int}
variable {A₁ A₀:Around} {env:Env} {outer:List Env} {g:Heap} {s:Shared} {Q E:Value→Shared→Prop} {pl:Addr} {m:Str→Option Value} {news:List (Addr×Obj)} {tp:Array Value} {G:Obj→List (Addr×Obj)} {cp:Nat} {x:Int} {tx:Tok} {c0:Addr} {o0:Obj}
theorem el1_V {v0:Value} (K:El1K w base objs A R V S self sd dct L P0 a0 oD vsV vs0 nsV lo hi u0 u1) (hin:inR lo hi x) (eka:k=x - lo) (hv:vsV[k.toNat]?=some v0) (bx:-50≤x∧x≤50)
    (hA:A₁.handled=none) (hfr:A₁.frames=some (env::outer)) (hd:A₁.depth≤900 - 6 * 70) (hu:A₁.units≤9000 - 99 * 70)
    (B:Below A₀ base outer g) (F:Fr g L s.heap m) (N:News g L s.heap news) (U:UpdF 448 (tabObj tp) news G) (hf:env.frame=some L) (hk:env.scope.kind=.function) (hT:tp=#[]∨TabD 476 22 qualA g c0 o0 tp) (mc:(c0,o0)∈news) (hc:@Ne Nat c0 448) (O:Objs base outer g objs)
    (mp:(pl,listOf (List.toArray [.int x tx]) cp)∈news) (hp:@Ne Nat pl 448) (ms:(self,instObj 356 sd)∈news) (md:(sd,sdO w dct tsd)∈news) (mD:(dct,oD)∈news) (mV:(V,listOf (List.toArray vsV) cV)∈news)
    (h:∀ g' h' tk tp' c1 o1,RelS (FrOf outer) g g'→Fr g' L h' m→News g' L h' ((c1,o1)::G (tabObj tp'))→Below A₀ base outer g'→Gnd w base g g' outer→TabD 476 22 qualA g' c1 o1 tp'→(∀ q,@Ne Nat c0 q→(∃ o,(q,o)∈news)→@Ne Nat c1 q)→(∀ tp0,TabN L tp0 tp→TabN L tp0 tp')→Q v0 { s with heap:=h',toks:=tk }) :
    wpAny (model PySem.Challenge.rw_nz0031_01.row.prog w) A₁ (call (.ref 451) [.ref self,.ref pl]) Q E s :=
  el_V K.C (atc1 (x:=x) (tx:=tx) (cp:=cp) K.C.W (K.C.rd hp) (.head _) (List.mem_append_right _ K.mR) (List.mem_append_right _ K.m0) K.hV2 K.b0 K.b1 bx) (fun v o=>by
    have e:=o.2
    rw [← eka,hv] at e
    exact (Option.some.inj e).symm) (fun sp f=>f.1 hin) hA hfr hd hu B F N U hf hk hT mc hc O mp ms md mD mV h
theorem el1_F (K:El1K w base objs A R V S self sd dct L P0 a0 oD vsV vs0 nsV lo hi u0 u1) (hin:¬ inR lo hi x) (bx:-50≤x∧x≤50)
    (hA:A₁.handled=none) (hfr:A₁.frames=some (env::outer)) (hd:A₁.depth≤900 - 6 * 70) (hu:A₁.units≤9000 - 99 * 70)
    (B:Below A₀ base outer g) (F:Fr g L s.heap m) (N:News g L s.heap news) (U:UpdF 448 (tabObj tp) news G) (hf:env.frame=some L) (hk:env.scope.kind=.function) (hT:tp=#[]∨TabD 476 22 qualA g c0 o0 tp) (mc:(c0,o0)∈news) (hc:@Ne Nat c0 448) (O:Objs base outer g objs)
    (mp:(pl,listOf (List.toArray [.int x tx]) cp)∈news) (hp:@Ne Nat pl 448) (ms:(self,instObj 356 sd)∈news) (md:(sd,sdO w dct tsd)∈news) (mD:(dct,oD)∈news) (mV:(V,listOf (List.toArray vsV) cV)∈news)
    (h:∀ tu t1 t2 g' h' tk tp' c1 o1,RelS (FrOf outer) g g'→Fr g' L h' m→News g' L h' ((tu,tupO [.str (Str.ofString "fault") t1,.int 5 t2])::(c1,o1)::G (tabObj tp'))→AllNeN tu news→Below A₀ base outer g'→Gnd w base g g' outer→TabD 476 22 qualA g' c1 o1 tp'→(∀ q,@Ne Nat c0 q→(∃ o,(q,o)∈news)→@Ne Nat c1 q)→(∀ tp0,TabN L tp0 tp→TabN L tp0 tp')→Q (.ref tu) { s with heap:=h',toks:=tk }) :
    wpAny (model PySem.Challenge.rw_nz0031_01.row.prog w) A₁ (call (.ref 451) [.ref self,.ref pl]) Q E s :=
  el_F K.C (atc1 (x:=x) (tx:=tx) (cp:=cp) K.C.W (K.C.rd hp) (.head _) (List.mem_append_right _ K.mR) (List.mem_append_right _ K.m0) K.hV2 K.b0 K.b1 bx) (fun v o=>hin o.1) (fun sp f=>f.2) hA hfr hd hu B F N U hf hk hT mc hc O mp ms md mD mV h
theorem el1_X (K:El1K w base objs A R V S self sd dct L P0 a0 oD vsV vs0 nsV lo hi u0 u1)
    (hA:A₁.handled=none) (hfr:A₁.frames=some (env::outer)) (hd:A₁.depth≤900 - 6 * 70) (hu:A₁.units≤9000 - 99 * 70)
    (B:Below A₀ base outer g) (F:Fr g L s.heap m) (N:News g L s.heap news) (U:UpdF 448 (tabObj tp) news G) (hf:env.frame=some L) (hk:env.scope.kind=.function) (hT:tp=#[]∨TabD 476 22 qualA g c0 o0 tp) (mc:(c0,o0)∈news) (hc:@Ne Nat c0 448) (O:Objs base outer g objs)
    (mp:(pl,listOf (List.toArray [.int x tx,.int y ty]) cp)∈news) (hp:@Ne Nat pl 448) (ms:(self,instObj 356 sd)∈news) (md:(sd,sdO w dct tsd)∈news) (mD:(dct,oD)∈news) (mV:(V,listOf (List.toArray vsV) cV)∈news)
    (h:∀ tu t1 t2 g' h' tk tp' c1 o1,RelS (FrOf outer) g g'→Fr g' L h' m→News g' L h' ((tu,tupO [.str (Str.ofString "fault") t1,.int 5 t2])::(c1,o1)::G (tabObj tp'))→AllNeN tu news→Below A₀ base outer g'→Gnd w base g g' outer→TabD 476 22 qualA g' c1 o1 tp'→(∀ q,@Ne Nat c0 q→(∃ o,(q,o)∈news)→@Ne Nat c1 q)→(∀ tp0,TabN L tp0 tp→TabN L tp0 tp')→Q (.ref tu) { s with heap:=h',toks:=tk }) :
    wpAny (model PySem.Challenge.rw_nz0031_01.row.prog w) A₁ (call (.ref 451) [.ref self,.ref pl]) Q E s :=
  el_F K.C (atc1x (x:=x) (y:=y) (tx:=tx) (ty:=ty) (cp:=cp) K.C.W (K.C.rd hp) (.head _) (List.mem_append_right _ K.mR) (List.mem_append_right _ K.m0) K.b0 K.b1) (fun v o=>o) (fun sp f=>f) hA hfr hd hu B F N U hf hk hT mc hc O mp ms md mD mV h
end
theorem mn0 (h:¬ (1≤i∧i≤n)):min (i - 1) n=min i n:=by
  rcases i with _|i
  · rfl
  · have l:n≤i:=Nat.le_of_lt_succ (Nat.lt_of_not_le fun l=>h ⟨Nat.succ_pos _,l⟩)
    rw [Nat.add_sub_cancel,Nat.min_eq_right l,Nat.min_eq_right (Nat.le_succ_of_le l)]
theorem mn1 (h1:1≤i) (h2:i≤n + 1):((min (i - 1) n:Nat):Int)=(i:Int) - 1:=by
  rw [Nat.min_eq_left (Nat.sub_le_of_le_add h2),Int.ofNat_sub h1];rfl
theorem in_i (hV:(n:Int)=hi - lo + 1):(lo≤lo - 1 + (i:Int)∧lo - 1 + (i:Int)≤hi)↔(1≤i∧i≤n):=by omega
theorem sp_in {k1:Int} (eka:((min (i - 1) n:Nat):Int)=k) (ekb:((min i n:Nat):Int)=k1) (h:lo≤lo - 1 + (i:Int)∧lo - 1 + (i:Int)≤hi) (hV:(n:Int)=hi - lo + 1):k + 1=k1:=by
  have x:=(in_i hV).mp h
  rw [← eka,← ekb,mn1 x.1 (Nat.le_succ_of_le x.2),Nat.min_eq_left x.2];exact Int.sub_add_cancel _ _
theorem sp_out {k1:Int} (eka:((min (i - 1) n:Nat):Int)=k) (ekb:((min i n:Nat):Int)=k1) (h:¬ (lo≤lo - 1 + (i:Int)∧lo - 1 + (i:Int)≤hi)) (hV:(n:Int)=hi - lo + 1):k + 0=k1:=by
  rw [← eka,← ekb,mn0 fun x=>h ((in_i hV).mpr x)];exact Int.add_zero _
theorem em_k {k':Int} (e:k=k'):(some (Value.int k t):Option Value)=some (Value.int k' t):=by rw [e]
theorem len_tup1 (n:Int) {a:Addr} (ht:IsTup s.heap a (List.toArray vs)) (e:(vs.length:Int)=n) (hl:vs.length≤20) (h:Q (.int n (s.toks + 1)) { s with toks:=s.toks + 1 + 1 }):wpAny (model prog w) A (call (.builtin "len") [.ref a]) Q E s :=
  len_tuple ht (by simp only [List.size_toArray];omega) (by rw [← e] at h;simpa using h)
theorem sp1_st (h:¬ (1≤i∧i≤n)):Sp1 n i=Sp1 n (i + 1):=by
  show ((min (i - 1) n:Nat):Int)=((min (i + 1 - 1) n:Nat):Int)
  rw [mn0 h,Nat.add_sub_cancel]
theorem sp1_nx (h:i≤n):Sp1 n (i + 1)=(i:Int):=by
  show ((min (i + 1 - 1) n:Nat):Int)=_
  rw [Nat.add_sub_cancel,Nat.min_eq_left h]
section
example:True:=by
  k_with "r208"=>(skip)
  k_with "r99"=>(skip)
  k_with "r207"=>(skip)
  k_with "w k_lt $h:ident"=>((fail_if_success k_extra "r210");k_extra "y40")
  k_with "w k_ne"=>((fail_if_success k_extra "r211");k_extra "y70")
  k_with "w callWith ref"=>((fail_if_success k_extra "r212");k_extra "y42")
  k_with "y125"=>((k_here;(with_reducible show wpAny _ _ (subscriptTail _ _ (Value.ref _) (Value.int _ _)) _ _ _);(with_reducible rename Objs _ _ _ _=>hO9);k_dflt (first
  | (refine' item_tupleT ?t_ ?a_ ?b_ ?c_ ?d_ ?_;(case t_=>exact IsTup.keeps (tup_objs hO9 (by assumption)) (Fr.keep (by k_asm)));(case a_|b_=>decide);(case c_|d_=>rfl);k_whole))))
  k_with "w subscriptTail Name Constant ref int"=>((fail_if_success k_extra "r213");k_extra "y125")
  k_with "y126"=>(((rename EM _ _ _ _ _ _=>hE9);first|exact rfl|exact hE9.1|exact hE9.2.1|exact hE9.2.2.1|exact hE9.2.2.2.1|exact (Classical.choose_spec hE9.2.2.2.2)))
  k_with "m nv"=>((fail_if_success k_extra "r214");k_extra "y126")
  k_with "y127"=>((k_here;k_dflt (refine kba_turn (value':=PySem.Expr.Name (PySem.Str.ofString "_") ⟨0,0,0,0⟩) (fun _=>rfl) ?_);k_dflt (refine' item_listI ?N_ ?m_ ?i_ ?l_ ?a_ ?b_ ?_;(case N_=>k_asm);(case m_=>k_mem);(case i_|l_=>assumption);(case a_|b_=>omega);k_whole;intro n' u' hn')))
  k_with "w subscriptTail Subscript Name Constant Name ref int"=>((fail_if_success k_extra "r215");k_extra "y127")
  k_with "y128"=>((k_here;(with_reducible rename Objs _ _ _ _=>hO9);k_dflt (first
  | (refine' in_yes ?a_ ?i_ ?n_ ?u_ ?_;(case a_=>exact IsTup.keeps (tup_objs hO9 (by assumption)) (Fr.keep (by k_asm)));(case i_|n_=>assumption);(case u_=>exact Nat.le_of_ble_eq_true rfl);k_whole)
  | (refine' in_not ?a_ ?i_ ?n_ ?u_ ?_;(case a_=>exact IsTup.keeps (tup_objs hO9 (by assumption)) (Fr.keep (by k_asm)));(case i_|n_=>assumption);(case u_=>exact Nat.le_of_ble_eq_true rfl);k_whole))))
  k_with "w compareOp In int ref"=>((fail_if_success k_extra "r216");k_extra "y128")
  k_with "y129"=>((k_here;refine ne_sameI ?_))
  k_with "w compareOp NotEq int int"=>((fail_if_success k_extra "r217");k_extra "y129")
  k_with "y130"=>((k_here;k_dflt (refine' ne_fault ?N_ ?a_ ?b_ ?u_ ?_;(case N_=>k_asm);(case a_|b_=>k_mem);(case u_=>exact Nat.le_of_ble_eq_true rfl);k_whole)))
  k_with "w compareOp NotEq ref ref"=>((fail_if_success k_extra "r218");k_extra "y130")
  k_with "y131"=>((k_here;(with_reducible rename Objs _ _ _ _=>hO9);k_dflt (refine' len_tup1 1 ?t_ ?e_ ?l_ ?_;(case t_=>exact IsTup.keeps (tup_objs hO9 (by assumption)) (Fr.keep (by k_asm)));(case e_=>exact rfl);(case l_=>exact Nat.le_of_ble_eq_true rfl);k_whole)))
  k_with "w call builtin:len"=>((fail_if_success k_extra "r219");k_extra "y131")
  k_with "y132"=>((repeat (first|exact List.forall_mem_nil _|refine fc ⟨_,by k_mem⟩ ?_)))
  k_with "m ads"=>(k_extra "y132")
  k_with "y133"=>(((case K_=>assumption);(case hd_|hu_=>exact Nat.le_of_ble_eq_true rfl);(case B_=>k_asm);(case U_=>k_updF);(case hT_=>first|exact .inr (by with_reducible assumption)|with_reducible assumption);(case mc_=>k_mem);(case hc_=>k_ne);(case O_=>with_reducible assumption);(case hp_=>k_ne);(case ms_|md_|mD_|mV_=>k_mem)))
  k_with "m elu"=>(k_extra "y133")
  k_with "y134"=>((k_here;k_dflt (first
  | (refine' el1_V ?K_ ?hin_ ?eka_ ?hv_ ?bx_ rfl rfl ?hd_ ?hu_ ?B_ ?F_ ?N_ ?U_ rfl rfl ?hT_ ?mc_ ?hc_ ?O_ ?mp_ ?hp_ ?ms_ ?md_ ?mD_ ?mV_ (fun g' h' tk' tp' c1' o1' r' F' N' B' G' T' q1' tn'=>?_);(case F_|N_=>k_asm);(case mp_=>k_mem);(case hin_|hv_=>assumption);(case eka_|bx_=>omega);k_extra "m elu";(try dsimp only at N');(have X':=Gnd.X G');(have Tp':=Gnd.T G');obtain ⟨p',lo',me',mg',mb',Tp'⟩:=Tp';(with_reducible rename Objs _ _ _ _=>hO8);(have O':=Gnd.O G' _ hO8);(have n1':=q1' 448 (by k_ne) ⟨_,by k_mem⟩);(with_reducible rename AdsAre _=>hAd9);(have n2':=nads_of q1' hAd9 (by with_reducible assumption) (by k_extra "m ads"));(have tN':=tn' _ (by with_reducible assumption));clear G' q1' tn')
  | (refine' el1_F ?K_ ?hin_ ?bx_ rfl rfl ?hd_ ?hu_ ?B_ ?F_ ?N_ ?U_ rfl rfl ?hT_ ?mc_ ?hc_ ?O_ ?mp_ ?hp_ ?ms_ ?md_ ?mD_ ?mV_ (fun tu' t1' t2' g' h' tk' tp' c1' o1' r' F' N' l' B' G' T' q1' tn'=>?_);(case F_|N_=>k_asm);(case mp_=>k_mem);(case hin_=>assumption);(case bx_=>omega);k_extra "m elu";(try dsimp only at N');(try dsimp only [AllNeN] at l');(have X':=Gnd.X G');(have Tp':=Gnd.T G');obtain ⟨p',lo',me',mg',mb',Tp'⟩:=Tp';(with_reducible rename Objs _ _ _ _=>hO8);(have O':=Gnd.O G' _ hO8);(have n1':=q1' 448 (by k_ne) ⟨_,by k_mem⟩);(with_reducible rename AdsAre _=>hAd9);(have n2':=nads_of q1' hAd9 (by with_reducible assumption) (by k_extra "m ads"));(have tN':=tn' _ (by with_reducible assumption));clear G' q1' tn')
  | (refine' el1_X ?K_ rfl rfl ?hd_ ?hu_ ?B_ ?F_ ?N_ ?U_ rfl rfl ?hT_ ?mc_ ?hc_ ?O_ ?mp_ ?hp_ ?ms_ ?md_ ?mD_ ?mV_ (fun tu' t1' t2' g' h' tk' tp' c1' o1' r' F' N' l' B' G' T' q1' tn'=>?_);(case F_|N_=>k_asm);(case mp_=>k_mem);k_extra "m elu";(try dsimp only at N');(try dsimp only [AllNeN] at l');(have X':=Gnd.X G');(have Tp':=Gnd.T G');obtain ⟨p',lo',me',mg',mb',Tp'⟩:=Tp';(with_reducible rename Objs _ _ _ _=>hO8);(have O':=Gnd.O G' _ hO8);(have n1':=q1' 448 (by k_ne) ⟨_,by k_mem⟩);(with_reducible rename AdsAre _=>hAd9);(have n2':=nads_of q1' hAd9 (by with_reducible assumption) (by k_extra "m ads"));(have tN':=tn' _ (by with_reducible assumption));clear G' q1' tn'))))
  k_with "w call ref"=>((fail_if_success k_extra "r222");k_extra "y134")
  k_with "y135"=>((first|with_reducible assumption|exact RelS.trans (by with_reducible assumption) (by k_extra "m rel")))
  k_with "m rel"=>((fail_if_success k_extra "r223");k_extra "y135")
  trivial
namespace Z
theorem el1_turn_core:el1_turn_P Z.w Z.base Z.outer Z.s0 Z.g0 Z.L Z.A Z.R Z.V Z.S Z.self Z.sd Z.dct Z.P0 Z.a0 Z.It Z.oD Z.tsd Z.u0 Z.u1 Z.vsV Z.vs0 Z.nsV Z.cS Z.cV Z.objs Z.lo Z.hi Z.tp0 Z.n Z.i Z.h':=by
  intro body sc hb K f0 f1 f2 f3 en hlt s₁ J hit hs
  have hb2:some (_,_)=some (body,sc):=hb
  clear hb
  cases hb2
  obtain ⟨g,h,tk,m,tp,c0,o0,rfl,B,r0,F0,hE,_,N0,hT,nc1,nc2,nc4,O⟩:=J
  obtain ⟨z1,z2,z3,z4,z5,z6,z7,z8⟩:=K.C.ap
  obtain ⟨p,loose,mean,mg,mb,T⟩:=K.C.W.top
  have T:=T.keeps B.stays
  have X:=K.C.W.K.keeps B.stays
  have hAds:AdsAre [It]:=trivial
  have nc3:@Ne Nat c0 It:=nc2 It (.head _)
  have mA:=K.C.mA
  have mR:=K.mR
  have m0:=K.m0
  have ma:=K.ma
  have i0:=K.i0
  have hI:=K.C.hI
  have hV:=K.C.hV
  have hV2:=K.hV2
  have b0:=K.b0
  have b1:=K.b1
  have eka:((min (i - 1) vsV.length:Nat):Int)=Sp1 vsV.length i:=rfl
  have ekb:((min i vsV.length:Nat):Int)=Sp1 vsV.length (i + 1):=rfl
  generalize Sp1 vsV.length (i + 1)=k1 at ekb ⊢
  generalize Sp1 vsV.length i=k at eka hE
  by_cases hin:inR lo hi (lo - 1 + (i:Int))
  all_goals (have hin2:=hin;simp only [inR] at hin2)
  all_goals (
    k_extra "m fill"
    w_strict (
      (dsimp only [elNews,List.cons_append,List.nil_append] at N0)
      (have FN:=upd_it F0 N0 (o':=itR (lo - 1 + ((i + 1:Nat):Int)) ((n:Int) - ((i + 1:Nat):Int))) (by k_updF) hs hit)
      (obtain ⟨F,N⟩:=FN)
      (try dsimp only [List.cons_append,List.nil_append] at N)
      clear F0 N0
      (try k_fold)
      k_steps
      all_goals (repeat (first|k_unfold|dsimp only))
      all_goals first
        | exact .inr rfl
        | exact .inl rfl
        | (refine' elJ_end ?B_ ?r_ ?F_ ?N_ ?mi_ ?mc_ ?m1_ ?m2_ ?m3_ ?m4_ ?m5_ ?m6_ ?e_ trivial ?T_ ?n1_ ?n2_ ?n3_ ?O_;(case F_|N_|B_=>k_asm);(case mi_=>k_extra "m mems");(case T_=>exact .inr (by with_reducible assumption));(case mc_|m1_|m2_|m3_|m4_|m5_|m6_=>k_mem);(case n1_=>k_ne);(case n2_|n3_|O_=>with_reducible assumption);(case r_=>k_extra "m rel");(case e_=>((rename EM _ _ _ _ _ _=>hEz);exact ⟨hEz.1,hEz.2.1,hEz.2.2.1,hEz.2.2.2.1,_,em_k (by first|exact sp_in eka ekb hin2 hV2|exact sp_out eka ekb hin2 hV2)⟩)))))
end Z
theorem zu28:Up 28:=zu27.step (by with_unfolding_all exact Z.el1_turn_core)
theorem el1_turn (w:World) (base:Heap) (outer:List Env) (s0:Shared) (g0:Heap) (L A R V S self sd dct P0 a0 It:Addr) (oD:Obj) (tsd u0 u1:Tok) (vsV vs0:List Value) (nsV:List Int) (cS cV:Nat) (objs:List (Addr×Obj)) (lo hi:Int) (tp0:Array Value) (body:List Stmt) (sc:Scope) (hb:elBody w=some (body,sc)) (K:El1K w base objs A R V S self sd dct L P0 a0 oD vsV vs0 nsV lo hi u0 u1) (f0:@LT.lt Nat _ L It) (f1:@Ne Nat It self) (f2:@Ne Nat It sd) (f3:@Ne Nat It dct) (n i:Nat) (en:(n:Int)=hi + 2 - (lo - 1)) (hlt:i < n) (s₁:Shared) (h':Heap) (J:ElJ w base outer s0 g0 L A R V S self sd dct oD tsd [.ref a0] vsV cS cV objs [(It,itR (lo - 1 + (i:Int)) ((n:Int) - (i:Int)))] tp0 [It] (fun _=>True) (Sp1 vsV.length i) s₁) (hit:IsRangeIter h' It (lo - 1 + ((i + 1:Nat):Int)) ((n:Int) - ((i + 1:Nat):Int)) 1) (hs:Heap.SameBut It s₁.heap h'):wpAny (model PySem.Challenge.rw_nz0031_01.row.prog w) ((Ak 74 outer).deeper (envOf (Str.ofString "_law_elements_right") sc L 458 (.ref 457))) (storeName (envOf (Str.ofString "_law_elements_right") sc L 458 (.ref 457)) (Str.ofString "one") (.int (lo - 1 + (i:Int)) s₁.toks))
      (fun _ s₂=>wpAny (model PySem.Challenge.rw_nz0031_01.row.prog w) ((Ak 74 outer).deeper (envOf (Str.ofString "_law_elements_right") sc L 458 (.ref 457))) (execs body (envOf (Str.ofString "_law_elements_right") sc L 458 (.ref 457))) (fun f s₃=>(f=.next∨f=.cont)∧ElJ w base outer s0 g0 L A R V S self sd dct oD tsd [.ref a0] vsV cS cV objs [(It,itR (lo - 1 + ((i + 1:Nat):Int)) ((n:Int) - ((i + 1:Nat):Int)))] tp0 [It] (fun _=>True) (Sp1 vsV.length (i + 1)) s₃) (fun _ _=>False) s₂)
      (fun _ _=>False) { s₁ with heap:=h',toks:=s₁.toks + 1 } :=
  zu28.at { Zd with w,base,outer,L,A,R,V,S,self,sd,dct,P0,a0,It,tsd,u0,u1,vsV,vs0,nsV,cS,cV,objs,lo,hi,r:={ Zd.r with s0,g0,oD,tp0,n,i,h' } } body sc hb K f0 f1 f2 f3 en hlt s₁ J hit hs
end
example:True:=by
  k_with "r210"=>(skip)
  k_with "r211"=>(skip)
  trivial
theorem relS_unL {hs:List (Addr×Obj)} (h1:∀ p∈hs,h0.get? p.1=some p.2) (R:RelS fr (hideAll h0 (T::hs.map (·.1))) h) (h2:∀ p∈hs,h.get? p.1=some p.2):RelS fr (hideAll h0 [T]) h:=by
  have key:∀ b o,(hideAll h0 [T]).get? b=some o→b∉hs.map (·.1)→(hideAll h0 (T::hs.map (·.1))).get? b=some o:=fun b o e hb=>by
    refine hideAll_get _ (of_hideAll _ e) fun hm=>?_
    rcases List.mem_cons.mp hm with z|z
    · rw [z,hideAll_none _ (List.mem_singleton.mpr rfl)] at e;cases e
    · exact hb z
  have kp:∀ b o,(hideAll h0 [T]).get? b=some o→b∈hs.map (·.1)→h.get? b=some o:=fun b o e hb=>by
    obtain ⟨p,hp,rfl⟩:=List.mem_map.mp hb
    have e2:=of_hideAll _ e
    rw [h1 p hp] at e2;cases e2
    exact h2 p hp
  refine ⟨fun b o e nm=>?_,fun b o e=>?_⟩
  · by_cases hb:b∈hs.map (·.1)
    · exact kp b o e hb
    · exact R.keep b o (key b o e hb) nm
  · by_cases hb:b∈hs.map (·.1)
    · exact ⟨o.slots,kp b o e hb⟩
    · exact R.slot b o (key b o e hb)
theorem tabQ_of {g:Heap} (eL:L=h0.objs.size) (D:tp'=#[]∨TabD 476 22 q g c0 o0 tp') (F:Fr g L h m) (N:News g L h news) (mc:(c0,o0)∈news) (x:TabN L tp tp'):TabQ 476 22 q h0 tp h tp':=by
  rcases x with e|⟨e0,c',a,b,e,hle⟩
  · exact .inl e
  · rcases D with z|⟨c2,e2,y⟩
    · rw [z] at e;exact absurd (congrArg Array.size e) (by simp)
    · refine .inr ⟨e0,c2,e2,?_,?_⟩
      · rcases y with y|⟨rfl,vs,t,y⟩
        · exact y.keeps F.keep
        · exact codeRec_news N mc y.1 y.2
      · have e3:c'=c2:=by
          have e4:=e.symm.trans e2
          have e5:(#[a,b,Value.ref c']:Array Value)[2]?=(#[rawInt 476,rawInt 22,Value.ref c2]:Array Value)[2]?:=by rw [e4]
          simpa using e5
        rw [← e3,← eL];exact hle
theorem sp_end {N:Nat} (h:N=n + 2):Sp1 n N=(n:Int):=by
  subst h
  show ((min (n + 2 - 1) n:Nat):Int)=n
  omega
theorem el1_loop {A:Addr} 
    (hb:elBody w=some (body,sc)) (K:El1K w base objs A R V S self sd dct L P0 a0 oD vsV vs0 nsV lo hi u0 u1)
    (B:Below (Ak 74 outer) base outer g0) (F:Fr g0 L h m) (N:News g0 L h news) (hE:EM m A S self R 0) (hT:tp0=#[]∨TabD 476 22 qualA g0 self (instObj 356 sd) tp0) (O:Objs base outer g0 objs)
    (m1:(448,tabObj tp0)∈news) (m2:(self,instObj 356 sd)∈news) (m3:(sd,sdO w dct tsd)∈news) (m4:(dct,oD)∈news) (m5:(S,listOf (List.toArray [.ref a0]) cS)∈news) (m6:(V,listOf (List.toArray vsV) cV)∈news)
    (done:∀ g' h' tk' m' tp' c1 o1,Below (Ak 74 outer) base outer g'→RelS (FrOf outer) g0 g'→Fr g' L h' m'→EM m' A S self R (vsV.length:Int)→News g' L h' ((c1,o1)::elNews w tp' S V self sd dct oD tsd [.ref a0] vsV cS cV)→(tp'=#[]∨TabD 476 22 qualA g' c1 o1 tp')→TabN L tp0 tp'→Objs base outer g' objs→Gnd w base g0 g' outer→Rr (.ok .next) { s with heap:=h',toks:=tk' }) :
    codeAny (model PySem.Challenge.rw_nz0031_01.row.prog w) ((Ak 74 outer).deeper (envE sc L)) (.forLoop (.Name (Str.ofString "one") px) (.ref h.objs.size) body [] (envE sc L)) Rr
      { s with heap:=h.push { cls:=.type "range_iterator",data:=.fields #[rawInt (lo - 1),rawInt (Builtin.Range.rangeSize (lo - 1) (hi + 2) 1),rawInt 1] },toks:=tk }:=by
  have hV2:=K.hV2
  obtain ⟨z1,z2,z3,z4,z5,z6,z7,z8⟩:=K.C.ap
  have en:(((hi + 2 - (lo - 1)).toNat:Nat):Int)=hi + 2 - (lo - 1):=by omega
  have l2:@LT.lt Nat _ self h.objs.size:=Heap.lt_size (N _ m2).1
  have l3:@LT.lt Nat _ sd h.objs.size:=Heap.lt_size (N _ m3).1
  have l4:@LT.lt Nat _ dct h.objs.size:=Heap.lt_size (N _ m4).1
  have l5:@LT.lt Nat _ S h.objs.size:=Heap.lt_size (N _ m5).1
  have l6:@LT.lt Nat _ V h.objs.size:=Heap.lt_size (N _ m6).1
  have l1:@LT.lt Nat _ 448 h.objs.size:=Heap.lt_size (N _ m1).1
  have lL:@LT.lt Nat _ L h.objs.size:=F.ns.lt
  have eS:Builtin.Range.rangeSize (lo - 1) (hi + 2) 1=(((hi + 2 - (lo - 1)).toNat:Nat):Int):=size_range1 _ _
  rw [eS]
  have F':=F.push (itR (lo - 1) (((hi + 2 - (lo - 1)).toNat:Nat):Int))
  have N':=News.push F N (itR (lo - 1) (((hi + 2 - (lo - 1)).toNat:Nat):Int))
  refine forR rfl (lo - 1) (hi + 2 - (lo - 1)).toNat (J:=fun i s'=>ElJ w base outer s g0 L A R V S self sd dct oD tsd [.ref a0] vsV cS cV objs [(h.objs.size,itR (lo - 1 + (i:Int)) ((((hi + 2 - (lo - 1)).toNat:Nat):Int) - (i:Int)))] tp0 [h.objs.size] (fun _=>True) (Sp1 vsV.length i) s') ?_ ?_ ?_ ?_
  · have e1:lo - 1 + ((0:Nat):Int)=lo - 1:=by simp
    have e2:(((hi + 2 - (lo - 1)).toNat:Nat):Int) - ((0:Nat):Int)=(((hi + 2 - (lo - 1)).toNat:Nat):Int):=by simp
    rw [e1,e2]
    refine elJ_end B (RelS.refl _ _) F' N' (fc (.head _) (List.forall_mem_nil _)) (.tail _ m2) (.tail _ m1) (.tail _ m2) (.tail _ m3) (.tail _ m4) (.tail _ m5) (.tail _ m6) ?_ trivial hT (Nat.ne_of_gt z6) (fun q hq=>by rw [List.mem_singleton.mp hq];exact Nat.ne_of_lt l2) (.inl rfl) O
    have e3:Sp1 vsV.length 0=0:=congrArg Int.ofNat (Nat.zero_min _)
    rw [e3];exact hE
  · rintro i s' ⟨g,h',tk',m',tp,c0,o0,rfl,_,_,_,_,_,N1,_⟩
    exact (N1 _ (.head _)).1
  · rintro i s' h' hi J hit hs
    exact el1_turn w base outer s g0 L A R V S self sd dct P0 a0 h.objs.size oD tsd u0 u1 vsV vs0 nsV cS cV objs lo _ tp0 body sc hb K lL (Nat.ne_of_gt l2) (Nat.ne_of_gt l3) (Nat.ne_of_gt l4) _ i en hi s' h' J hit hs
  · rintro s' h' ⟨g,h1,tk',m',tp,c0,o0,rfl,B1,r1,F1,hE1,_,N1,D1,n1,n2,t1,O1⟩ he
    have nI:=N1 _ (.head _)
    rw [sp_end (by omega)] at hE1
    have F2:Fr g L h' m':=⟨F1.ns.extBut he (Nat.ne_of_lt lL),fun b ob e=>he b ob (fun z=>by rw [z,nI.2.2] at e;cases e) (F1.keep b ob e),F1.above⟩
    refine done g h' tk' m' tp c0 o0 B1 r1 F2 hE1 (fun p hp=>?_) D1 t1 O1 (gnd_of K.C.W B1 r1)
    have n:=N1 p (.tail _ hp)
    refine ⟨he _ _ ?_ n.1,n.2⟩
    rcases List.mem_cons.mp hp with e|hp
    · rw [e];exact n2 _ (.head _)
    · simp only [elNews,List.mem_cons,List.not_mem_nil,or_false] at hp
      rcases hp with rfl|rfl|rfl|rfl|rfl|rfl
      · exact Nat.ne_of_lt l1
      · exact Nat.ne_of_lt l2
      · exact Nat.ne_of_lt l3
      · exact Nat.ne_of_lt l4
      · exact Nat.ne_of_lt l5
      · exact Nat.ne_of_lt l6
theorem tabL_d {g:Heap} (x:TabL ln co q g tp):tp=#[]∨TabD ln co q g c0 o0 tp:=by
  rcases x with e|⟨c',e,r⟩
  · exact .inl e
  · exact .inr ⟨c',e,.inl r⟩
theorem tabL_hide3 {a b:Addr} {vs us:Array Value} {c d:Nat} (hP:h.get? T=some (tabObj ps)) (ha:h.get? a=some (listOf vs c)) (hb:h.get? b=some (listOf us d)) (t:TabL ln co q h ps):TabL ln co q (hideAll h [T,a,b]) ps:=by
  have t0:=t
  rcases t with rfl|⟨c',rfl,cc,oc,ws,u,e1,e2,e3,e4⟩
  · exact .inl rfl
  · refine .inr ⟨c',rfl,cc,oc,ws,u,e1,hideAll_get _ e2 ?_,e3,e4⟩
    simp only [List.mem_cons,List.not_mem_nil,or_false,not_or]
    refine ⟨fun z=>?_,fun z=>?_,fun z=>?_⟩
    · rw [z,hP] at e2;cases e2;cases e3;cases e4
    · rw [z,ha] at e2;cases e2;cases e3
    · rw [z,hb] at e2;cases e2;cases e3
section
example:True:=by
  k_with "r222"=>(skip)
  k_with "r205"=>(skip)
  k_with "r206"=>(skip)
  k_with "r213"=>(skip)
  k_with "r219"=>(skip)
  k_with "r214"=>(skip)
  k_with "r215"=>(skip)
  k_with "r218"=>(skip)
  k_with "r216"=>(skip)
  k_with "r217"=>(skip)
  k_with "w k_lt $h:ident"=>((fail_if_success k_extra "r224");k_extra "y69")
  k_with "w k_ne"=>((fail_if_success k_extra "r225");k_extra "y70")
  k_with "y136"=>((k_here;(with_reducible show wpAny _ _ (subscriptTail _ _ (Value.ref _) (Value.int _ _)) _ _ _);(with_reducible rename Objs _ _ _ _=>hO9);k_dflt (refine' item_tupleT ?t_ ?a_ ?b_ ?c_ ?d_ ?_;(case t_=>exact IsTup.keeps (tup_objs hO9 (by assumption)) (Fr.keep (by k_asm)));(case a_|b_=>decide);(case c_|d_=>rfl);k_whole)))
  k_with "w subscriptTail Name Constant ref int"=>((fail_if_success k_extra "r226");k_extra "y136")
  k_with "m enter"=>((fail_if_success k_extra "r227");k_extra "y45")
  k_with "m enterH"=>((fail_if_success k_extra "r228");k_extra "y46")
  k_with "w subscriptTail Subscript Name Constant Constant ref int"=>((fail_if_success k_extra "r229");k_extra "y136")
  k_with "y137"=>((k_here;k_dflt (refine' kdn_str ?q_ ?F_ ?N_ ?b_ ?a_ ?l_ ?e_ ?n_ ?_;(case q_|a_|l_=>rfl);(case F_|N_=>k_asm);(case b_=>exact Top.nolimit (by k_asm));(case e_=>exact List.cons_ne_nil _ _);(case n_=>exact Nat.le_of_ble_eq_true rfl));intro d' h' o' F' N' l1 lo' hd';(try dsimp only);(try k_lt l1)))
  k_with "w eval Dict"=>((fail_if_success k_extra "r230");k_extra "y137")
  k_with "y138"=>((k_here;k_dflt (refine' len_listZ ?N_ ?m_ ?l_ ?_;(case N_=>k_asm);(case m_=>k_mem);(case l_=>assumption);k_whole)))
  k_with "w call builtin:len"=>((fail_if_success k_extra "r231");k_extra "y138")
  k_with "y139"=>((with_reducible refine eq_yes rfl ?_))
  k_with "w compareOp Eq int int"=>((fail_if_success k_extra "r232");k_extra "y139")
  k_with "y140"=>(((with_reducible rename EM _ _ _ _ _ _=>hE9);first|exact hE9.1|exact hE9.2.1|exact hE9.2.2.1|exact hE9.2.2.2.1|exact (Classical.choose_spec hE9.2.2.2.2)))
  k_with "m nv"=>((fail_if_success k_extra "r233");k_extra "y140")
  trivial
namespace Z
theorem elR1_core:elR1_P Z.w Z.base Z.objs Z.A Z.R Z.V Z.S Z.P0 Z.a0 Z.cS Z.cV Z.vsV Z.vs0 Z.nsV Z.lo Z.hi Z.u0 Z.u1 Z.outer Z.s Z.Q Z.E:=by
  intro W mA mR m0 ma i0 hI hVl hV2 b0 b1 hno hSV tp B O OS hP hPT hPb hPf hret
  have hS1:=(OS _ (.head _)).1
  have hV1:=(OS _ (.tail _ (.head _))).1
  have hneS:@Ne Nat S 448:=fun z=>by rw [show S=448 from z,hP] at hS1;cases hS1
  have hneV:@Ne Nat V 448:=fun z=>by rw [show V=448 from z,hP] at hV1;cases hV1
  have hN:∀ p∈[(448,tabObj tp),(S,listOf (List.toArray [.ref a0]) cS),(V,listOf (List.toArray vsV) cV)],s.heap.get? p.1=some p.2∧base.get? p.1=none∧p.1∉outer.filterMap (·.frame):=fc ⟨hP,hPb,hPf⟩ OS
  have hPT:=tabL_hide3 hP hS1 hV1 hPT
  have O2:Objs base outer (hideAll s.heap [448,S,V]) objs:=fun p hp=>⟨hideAll_get _ (O p hp).1 (by
    simp only [List.mem_cons,List.not_mem_nil,or_false,not_or]
    exact hno p hp),(O p hp).2⟩
  clear O
  k_extra "m fill"
  w_strict (
    (refine wpAny_call ?_);
    k_dflt (refine' enter W B _ hN ?ho_ ?hcd_ ?hroom_ ?hbind_ ?hloc_ ?_ ?c1_ ?c2_ ?c3_ ?c4_);
    (case ho_=>k_is);
    (case hcd_=>k_is);
    (case hroom_=>exact Nat.le_of_ble_eq_true rfl);
    (case hbind_=>exact BindsTo.of_eq rfl);
    (case hloc_=>exact locs rfl);
    (case c1_=>decide);
    (case c2_=>exact rfl);
    (case c3_=>exact rfl);
    (case c4_=>exact rfl);
    intro L h₁ p loose mean mg mb F N Bl X T lt eL tk;subst eL;
    (dsimp only [List.map] at F N Bl X T);
    (try k_fold)
    (simp only [AllLt,and_true] at lt);
    (have eL2:@Eq Nat s.heap.objs.size s.heap.objs.size:=rfl);
    repeat' ((fail_if_success (with_reducible show wpAny _ _ (exec (Stmt.For _ _ _ _ _) _) _ _ _));first|(k_unfold;(try dsimp only))|(k_end;wrow_close)|walk1|(dsimp only;walk1)|(leave1;walk_say "STEP leave1";try dsimp only)|fail "no step")
    refine wpAny_For ?_ (fun _=>by with_unfolding_all rfl)
    repeat' ((fail_if_success (with_reducible show wpAny _ _ (pyIter _) _ _ _));first|(k_unfold;(try dsimp only))|(k_end;wrow_close)|walk1|(dsimp only;walk1)|(leave1;walk_say "STEP leave1";try dsimp only)|fail "no step")
    (rename IsRange _ _ _ _ _ _ _ _=>hrg)
    refine wpAny_pyIter_range hrg (small1g (by omega) (by omega)) ?_
    (refine' el1_loop ?hb_ ⟨⟨W,mA,?hD_,?hS_,hVl,?hI_,fun p hp=>(hno p hp).1,?ap_⟩,mR,m0,ma,?i0_,hV2,b0,b1⟩ ?B_ ?F_ ?N_ ?hE_ ?hT_ ?O_ ?m1_ ?m2_ ?m3_ ?m4_ ?m5_ ?m6_ ?_)
    (case F_|N_=>k_asm)
    (case B_=>assumption)
    (case hb_=>exact rfl)
    (case m1_=>k_mem)
    (case hE_=>exact ⟨rfl,rfl,rfl,rfl,_,rfl⟩)
    (case m2_|m3_|m4_|m5_|m6_=>k_mem)
    (case hD_|hS_|hI_|i0_=>assumption)
    (case ap_=>exact ⟨by omega,by omega,by omega,hneS,hneV,by omega,by omega,by omega⟩)
    (case hT_=>exact tabL_d hPT)
    (case O_=>with_reducible assumption)
    intro g' h' tk' m' tp' c1 o1 B' r' F' hE' N' D' t' O' G'
    have X':=G'.X
    obtain ⟨p',lo',me',mg',mb',T'⟩:=G'.T
    (dsimp only [elNews] at N')
    (try dsimp only)
    k_steps
    all_goals (repeat (first|k_unfold|dsimp only))
    refine hret _ _ _ (relS_unL (hs:=[(S,listOf (List.toArray [.ref a0]) cS),(V,listOf (List.toArray vsV) cV)]) (fc hS1 (fc hV1 (List.forall_mem_nil _))) (r'.trans (relS_fr (by assumption))) (fc (News.get (by assumption) (by k_mem)) (fc (News.get (by assumption) (by k_mem)) (List.forall_mem_nil _)))) (News.get (by assumption) (by k_mem)) (tabQ_of rfl D' (by assumption) (by assumption) (by k_mem) t'))
end Z
end
section
variable {w:World} {base:Heap} {objs:List (Addr×Obj)} {A R V S self sd dct L P0 P1 a0 a1:Addr} {oD:Obj} {tsd u0 u1 u2 u3:Tok} {vsV vs0 vs1:List Value} {nsV:List Int} {cV:Nat} {lo hi lo1 hi1:Int}
variable {A₁ A₀:Around} {env:Env} {outer:List Env} {g:Heap} {s:Shared} {Q E:Value→Shared→Prop} {pl:Addr} {m:Str→Option Value} {news:List (Addr×Obj)} {tp:Array Value} {G:Obj→List (Addr×Obj)} {cp:Nat} {x y:Int} {tx ty:Tok} {c0:Addr} {o0:Obj}
example:True:=by
  k_with "r224"=>(skip)
  k_with "r225"=>(skip)
  trivial
theorem el2_V (K:El2K w base objs A R V S self sd dct L P0 P1 a0 a1 oD vsV vs0 vs1 nsV lo hi lo1 hi1 u0 u1 u2 u3) (hin:inR lo hi x) (hin1:inR lo1 hi1 y) (ek:k=pl2 lo lo1 hi1 x y) (bx:-50≤x∧x≤50) (bY:-50≤y∧y≤50)
    (hA:A₁.handled=none) (hfr:A₁.frames=some (env::outer)) (hd:A₁.depth≤900 - 6 * 70) (hu:A₁.units≤9000 - 99 * 70)
    (B:Below A₀ base outer g) (F:Fr g L s.heap m) (N:News g L s.heap news) (U:UpdF 448 (tabObj tp) news G) (hf:env.frame=some L) (hk:env.scope.kind=.function) (hT:tp=#[]∨TabD 476 22 qualA g c0 o0 tp) (mc:(c0,o0)∈news) (hc:@Ne Nat c0 448) (O:Objs base outer g objs)
    (mp:(pl,listOf (List.toArray [.int x tx,.int y ty]) cp)∈news) (hp:@Ne Nat pl 448) (ms:(self,instObj 356 sd)∈news) (md:(sd,sdO w dct tsd)∈news) (mD:(dct,oD)∈news) (mV:(V,listOf (List.toArray vsV) cV)∈news)
    (h:∀ n t g' h' tk tp' c1 o1,vsV[k.toNat]?=some (.int n t)→RelS (FrOf outer) g g'→Fr g' L h' m→News g' L h' ((c1,o1)::G (tabObj tp'))→Below A₀ base outer g'→Gnd w base g g' outer→TabD 476 22 qualA g' c1 o1 tp'→(∀ q,@Ne Nat c0 q→(∃ o,(q,o)∈news)→@Ne Nat c1 q)→(∀ tp0,TabN L tp0 tp→TabN L tp0 tp')→Q (.int n t) { s with heap:=h',toks:=tk }) :
    wpAny (model PySem.Challenge.rw_nz0031_01.row.prog w) A₁ (call (.ref 451) [.ref self,.ref pl]) Q E s :=
  at_V (atc2 (x:=x) (y:=y) (tx:=tx) (ty:=ty) (cp:=cp) K.C.W (K.C.rd hp) (.head _) (List.mem_append_right _ K.mR) (List.mem_append_right _ K.m0) (List.mem_append_right _ K.m1) K.hV2 K.b0 K.b1 bx K.b3 K.b4 bY K.w0.2 K.w1.2) (fun sp f=>f.1 ⟨hin,hin1⟩) hA hfr hd hu K.C.W B F N U hf hk hT mc hc (elO_objs B F N hf O mp ms md mD mV) fun v g' h' tk tp' c1 o1 o=>by
    have e:=o.2
    rw [← ek] at e
    obtain ⟨n,t,e2,_⟩:=K.C.hI.at k.toNat v e
    subst e2
    exact h n t g' h' tk tp' c1 o1 e
theorem el2_F (K:El2K w base objs A R V S self sd dct L P0 P1 a0 a1 oD vsV vs0 vs1 nsV lo hi lo1 hi1 u0 u1 u2 u3) (hin:¬ (inR lo hi x∧inR lo1 hi1 y)) (bx:-50≤x∧x≤50) (bY:-50≤y∧y≤50)
    (hA:A₁.handled=none) (hfr:A₁.frames=some (env::outer)) (hd:A₁.depth≤900 - 6 * 70) (hu:A₁.units≤9000 - 99 * 70)
    (B:Below A₀ base outer g) (F:Fr g L s.heap m) (N:News g L s.heap news) (U:UpdF 448 (tabObj tp) news G) (hf:env.frame=some L) (hk:env.scope.kind=.function) (hT:tp=#[]∨TabD 476 22 qualA g c0 o0 tp) (mc:(c0,o0)∈news) (hc:@Ne Nat c0 448) (O:Objs base outer g objs)
    (mp:(pl,listOf (List.toArray [.int x tx,.int y ty]) cp)∈news) (hp:@Ne Nat pl 448) (ms:(self,instObj 356 sd)∈news) (md:(sd,sdO w dct tsd)∈news) (mD:(dct,oD)∈news) (mV:(V,listOf (List.toArray vsV) cV)∈news)
    (h:∀ tu t1 t2 g' h' tk tp' c1 o1,RelS (FrOf outer) g g'→Fr g' L h' m→News g' L h' ((tu,tupO [.str (Str.ofString "fault") t1,.int 5 t2])::(c1,o1)::G (tabObj tp'))→AllNeN tu news→Below A₀ base outer g'→Gnd w base g g' outer→TabD 476 22 qualA g' c1 o1 tp'→(∀ q,@Ne Nat c0 q→(∃ o,(q,o)∈news)→@Ne Nat c1 q)→(∀ tp0,TabN L tp0 tp→TabN L tp0 tp')→Q (.ref tu) { s with heap:=h',toks:=tk }) :
    wpAny (model PySem.Challenge.rw_nz0031_01.row.prog w) A₁ (call (.ref 451) [.ref self,.ref pl]) Q E s :=
  el_F K.C (atc2 (x:=x) (y:=y) (tx:=tx) (ty:=ty) (cp:=cp) K.C.W (K.C.rd hp) (.head _) (List.mem_append_right _ K.mR) (List.mem_append_right _ K.m0) (List.mem_append_right _ K.m1) K.hV2 K.b0 K.b1 bx K.b3 K.b4 bY K.w0.2 K.w1.2) (fun v o=>hin o.1) (fun sp f=>f.2) hA hfr hd hu B F N U hf hk hT mc hc O mp ms md mD mV h
end
theorem ne_sameV {n n':Int} (h1:vs[k.toNat]?=some (.int n t)) (h2:vs[k.toNat]?=some (.int n' u)) (h:Q (.bool false) s):wpAny (model prog w) A (compareOp .NotEq (.int n t) (.int n' u)) Q E s:=by
  rw [h1] at h2
  cases h2
  exact ne_sameI h
theorem sp2_out {j:Nat} (h:¬ inR lo hi x):Sp2 kb lo hi x n j=kb:=by simp [Sp2,h]
theorem sp2_in {j:Nat} (h:inR lo hi x):Sp2 kb lo hi x n j=kb + Sp1 n j:=by simp [Sp2,h]
section
example:True:=by
  k_with "r227"=>(skip)
  k_with "r228"=>(skip)
  k_with "r226"=>(skip)
  k_with "r231"=>(skip)
  k_with "r233"=>(skip)
  k_with "r232"=>(skip)
  k_with "r229"=>(skip)
  k_with "r230"=>(skip)
  k_with "w k_lt $h:ident"=>((fail_if_success k_extra "r234");k_extra "y40")
  k_with "w k_ne"=>((fail_if_success k_extra "r235");k_extra "y70")
  k_with "w subscriptTail Name Constant ref int"=>((fail_if_success k_extra "r236");k_extra "y125")
  k_with "m enter"=>((fail_if_success k_extra "r237");k_extra "y20")
  k_with "m enterH"=>((fail_if_success k_extra "r238");k_extra "y21")
  k_with "y141"=>(((with_reducible rename EM _ _ _ _ _ _=>hE9);(with_reducible rename OneI _ _=>hP9);first|exact rfl|exact hE9.1|exact hE9.2.1|exact hE9.2.2.1|exact hE9.2.2.2.1|exact (Classical.choose_spec hP9)|exact (Classical.choose_spec hE9.2.2.2.2)))
  k_with "m nv"=>((fail_if_success k_extra "r239");k_extra "y141")
  k_with "w subscriptTail Subscript Name Constant Name ref int"=>((fail_if_success k_extra "r240");k_extra "y127")
  k_with "y142"=>((k_here;(with_reducible rename Objs _ _ _ _=>hO9);k_dflt (first
  | (refine' in_yes ?a_ ?i_ ?n_ ?u_ ?_;(case a_=>exact IsTup.keeps (tup_objs hO9 (by assumption)) (Fr.keep (by k_asm)));(case i_=>assumption);(case n_=>with_reducible assumption);(case u_=>exact Nat.le_of_ble_eq_true rfl);k_whole)
  | (refine' in_not ?a_ ?i_ ?n_ ?u_ ?_;(case a_=>exact IsTup.keeps (tup_objs hO9 (by assumption)) (Fr.keep (by k_asm)));(case i_=>assumption);(case n_=>with_reducible assumption);(case u_=>exact Nat.le_of_ble_eq_true rfl);k_whole))))
  k_with "w compareOp In int ref"=>((fail_if_success k_extra "r241");k_extra "y142")
  k_with "y143"=>((k_here;k_dflt (refine ne_sameV (by assumption) (by assumption) ?_)))
  k_with "w compareOp NotEq int int"=>((fail_if_success k_extra "r242");k_extra "y143")
  k_with "w compareOp NotEq ref ref"=>((fail_if_success k_extra "r243");k_extra "y130")
  k_with "y144"=>((k_here;(with_reducible rename Objs _ _ _ _=>hO9);k_dflt (refine' len_tup1 2 ?t_ ?e_ ?l_ ?_;(case t_=>exact IsTup.keeps (tup_objs hO9 (by assumption)) (Fr.keep (by k_asm)));(case e_=>exact rfl);(case l_=>exact Nat.le_of_ble_eq_true rfl);k_whole)))
  k_with "w call builtin:len"=>((fail_if_success k_extra "r244");k_extra "y144")
  k_with "y145"=>((k_here;k_dflt (first
  | (refine' el2_V ?K_ ?hin_ ?hin1_ ?ek_ ?bx_ ?bY_ rfl rfl ?hd_ ?hu_ ?B_ ?F_ ?N_ ?U_ rfl rfl ?hT_ ?mc_ ?hc_ ?O_ ?mp_ ?hp_ ?ms_ ?md_ ?mD_ ?mV_ (fun n' t' g' h' tk' tp' c1' o1' hv' r' F' N' B' G' T' q1' tn'=>?_);(case F_|N_=>k_asm);(case mp_=>k_mem);(case hin_|hin1_|ek_|bx_|bY_=>assumption);k_extra "m elu";(try dsimp only at N');(have X':=Gnd.X G');(have Tp':=Gnd.T G');obtain ⟨p',lo',me',mg',mb',Tp'⟩:=Tp';(with_reducible rename Objs _ _ _ _=>hO8);(have O':=Gnd.O G' _ hO8);(have n1':=q1' 448 (by k_ne) ⟨_,by k_mem⟩);(with_reducible rename AdsAre _=>hAd9);(have n2':=nads_of q1' hAd9 (by with_reducible assumption) (by k_extra "m ads"));(have tN':=tn' _ (by with_reducible assumption));clear G' q1' tn')
  | (refine' el2_F ?K_ ?hin_ ?bx_ ?bY_ rfl rfl ?hd_ ?hu_ ?B_ ?F_ ?N_ ?U_ rfl rfl ?hT_ ?mc_ ?hc_ ?O_ ?mp_ ?hp_ ?ms_ ?md_ ?mD_ ?mV_ (fun tu' t1' t2' g' h' tk' tp' c1' o1' r' F' N' l' B' G' T' q1' tn'=>?_);(case F_|N_=>k_asm);(case mp_=>k_mem);(case hin_|bx_|bY_=>assumption);k_extra "m elu";(try dsimp only [AllNeN] at l');(try dsimp only at N');(have X':=Gnd.X G');(have Tp':=Gnd.T G');obtain ⟨p',lo',me',mg',mb',Tp'⟩:=Tp';(with_reducible rename Objs _ _ _ _=>hO8);(have O':=Gnd.O G' _ hO8);(have n1':=q1' 448 (by k_ne) ⟨_,by k_mem⟩);(with_reducible rename AdsAre _=>hAd9);(have n2':=nads_of q1' hAd9 (by with_reducible assumption) (by k_extra "m ads"));(have tN':=tn' _ (by with_reducible assumption));clear G' q1' tn'))))
  k_with "w call ref"=>((fail_if_success k_extra "r245");k_extra "y145")
  trivial
namespace Z.Z3
theorem el2_in_core:el2_in_P Z.w Z.base Z.outer Z.s0 Z.g0 Z.L Z.A Z.R Z.V Z.S Z.self Z.sd Z.dct Z.P0 Z.P1 Z.a0 Z.a1 Z.It Z.It2 Z.oI Z.oD Z.tsd Z.u0 Z.u1 Z.u2 Z.u3 Z.vsV Z.vs0 Z.vs1 Z.nsV Z.cS Z.cV Z.objs Z.lo Z.hi Z.lo1 Z.hi1 Z.Z3.x Z.kb Z.tp0 Z.len1 Z.n Z.i Z.h':=by
  intro body sc hlen hb K f0 f1 f2 f3 f4 f5 f6 f7 f8 hkb bx en hlt s₁ J hit hs
  have hb2:some (_,_)=some (body,sc):=hb
  clear hb
  cases hb2
  obtain ⟨g,h,tk,m,tp,c0,o0,rfl,B,r0,F0,hE,hP,N0,hT,nc1,nc2,nc4,O⟩:=J
  obtain ⟨z1,z2,z3,z4,z5,z6,z7,z8⟩:=K.C.ap
  obtain ⟨p,loose,mean,mg,mb,T⟩:=K.C.W.top
  have T:=T.keeps B.stays
  have X:=K.C.W.K.keeps B.stays
  have hAds:AdsAre [It2,It]:=trivial
  have nc3:@Ne Nat c0 It:=nc2 It (.tail _ (.head _))
  have nc5:@Ne Nat c0 It2:=nc2 It2 (.head _)
  have mA:=K.C.mA
  have mR:=K.mR
  have ma:=K.ma
  have mb':=K.mb
  have i0:=K.i0
  have i1:=K.i1
  have hI:=K.C.hI
  have hV:=K.C.hV
  have b3:=K.b3
  have b4:=K.b4
  have hY:-50≤lo1 - 1 + (i:Int)∧lo1 - 1 + (i:Int)≤50:=by omega
  have hfin:∀ k1,k1=Sp2 kb lo hi x len1 (i + 1)→Sp2 kb lo hi x len1 (i + 1)=k1:=fun _ e=>e.symm
  by_cases hin:inR lo hi x
  · by_cases hin1:inR lo1 hi1 (lo1 - 1 + (i:Int))
    · have hin2:=hin1
      simp only [inR] at hin2
      have xx:=(in_i hlen).mp hin1
      have eS1:Sp1 len1 i=(i:Int) - 1:=mn1 xx.1 (Nat.le_succ_of_le xx.2)
      have eS2:Sp1 len1 (i + 1)=(i:Int):=sp1_nx xx.2
      clear xx
      have ek:Sp2 kb lo hi x len1 i=pl2 lo lo1 hi1 x (lo1 - 1 + (i:Int)):=by rw [sp2_in hin,eS1,hkb hin];unfold pl2;omega
      have ek1:Sp2 kb lo hi x len1 i + 1=Sp2 kb lo hi x len1 (i + 1):=by rw [sp2_in hin,sp2_in hin,eS1,eS2,Int.add_assoc,Int.sub_add_cancel]
      have hbd:=pl2_bounds hin hin1 K.hV2
      rw [← ek] at hbd
      generalize Sp2 kb lo hi x len1 (i + 1)=k1 at ek1 ⊢
      generalize Sp2 kb lo hi x len1 i=k at ek ek1 hE hbd
      obtain ⟨hbd1,hbd2⟩:=hbd
      clear hin2 eS1 eS2 hfin
      (
        k_extra "m fill"
        w_strict (
          (dsimp only [elNews,List.cons_append,List.nil_append] at N0)
          (have FN:=upd_it F0 N0 (o':=itR (lo1 - 1 + ((i + 1:Nat):Int)) ((n:Int) - ((i + 1:Nat):Int))) (by k_updF) hs hit)
          (obtain ⟨F,N⟩:=FN)
          (try dsimp only [List.cons_append,List.nil_append] at N)
          clear F0 N0
          (try k_fold)
          k_steps
          all_goals (repeat (first|k_unfold|dsimp only))
          all_goals first
            | exact .inl rfl
            | exact .inr rfl
            | (refine' elJ_end ?B_ ?r_ ?F_ ?N_ ?mi_ ?mc_ ?m1_ ?m2_ ?m3_ ?m4_ ?m5_ ?m6_ ?e_ ?pp_ ?T_ ?n1_ ?n2_ ?n3_ ?O_;(case F_|N_|B_=>k_asm);(case mi_=>k_extra "m mems");(case T_=>exact .inr (by with_reducible assumption));(case mc_|m1_|m2_|m3_|m4_|m5_|m6_=>k_mem);(case n1_=>k_ne);(case n2_|n3_|O_=>with_reducible assumption);(case r_=>k_extra "m rel");(case pp_=>((with_reducible rename OneI _ _=>hPz);exact ⟨_,Classical.choose_spec hPz⟩));(case e_=>((rename EM _ _ _ _ _ _=>hEz);exact ⟨hEz.1,hEz.2.1,hEz.2.2.1,hEz.2.2.2.1,_,em_k ek1⟩)))))
    · have hnot:¬ (inR lo hi x∧inR lo1 hi1 (lo1 - 1 + (i:Int))):=fun z=>hin1 z.2
      have hin2:=hin1
      simp only [inR] at hin2
      have ek1:Sp2 kb lo hi x len1 i + 0=Sp2 kb lo hi x len1 (i + 1):=by
        rw [sp2_in hin,sp2_in hin]
        have e:Sp1 len1 i=Sp1 len1 (i + 1):=sp1_st fun y=>hin1 ((in_i hlen).mpr y)
        rw [e];exact Int.add_zero _
      generalize Sp2 kb lo hi x len1 (i + 1)=k1 at ek1 ⊢
      generalize Sp2 kb lo hi x len1 i=k at ek1 hE
      clear hin2 hfin
      (
        k_extra "m fill"
        w_strict (
          (dsimp only [elNews,List.cons_append,List.nil_append] at N0)
          (have FN:=upd_it F0 N0 (o':=itR (lo1 - 1 + ((i + 1:Nat):Int)) ((n:Int) - ((i + 1:Nat):Int))) (by k_updF) hs hit)
          (obtain ⟨F,N⟩:=FN)
          (try dsimp only [List.cons_append,List.nil_append] at N)
          clear F0 N0
          (try k_fold)
          k_steps
          all_goals (repeat (first|k_unfold|dsimp only))
          all_goals first
            | exact .inl rfl
            | exact .inr rfl
            | (refine' elJ_end ?B_ ?r_ ?F_ ?N_ ?mi_ ?mc_ ?m1_ ?m2_ ?m3_ ?m4_ ?m5_ ?m6_ ?e_ ?pp_ ?T_ ?n1_ ?n2_ ?n3_ ?O_;(case F_|N_|B_=>k_asm);(case mi_=>k_extra "m mems");(case T_=>exact .inr (by with_reducible assumption));(case mc_|m1_|m2_|m3_|m4_|m5_|m6_=>k_mem);(case n1_=>k_ne);(case n2_|n3_|O_=>with_reducible assumption);(case r_=>k_extra "m rel");(case pp_=>((with_reducible rename OneI _ _=>hPz);exact ⟨_,Classical.choose_spec hPz⟩));(case e_=>((rename EM _ _ _ _ _ _=>hEz);exact ⟨hEz.1,hEz.2.1,hEz.2.2.1,hEz.2.2.2.1,_,em_k ek1⟩)))))
  · have hnot:¬ (inR lo hi x∧inR lo1 hi1 (lo1 - 1 + (i:Int))):=fun z=>hin z.1
    have ek1:Sp2 kb lo hi x len1 i + 0=Sp2 kb lo hi x len1 (i + 1):=by rw [sp2_out hin,sp2_out hin];exact Int.add_zero _
    generalize Sp2 kb lo hi x len1 (i + 1)=k1 at ek1 ⊢
    generalize Sp2 kb lo hi x len1 i=k at ek1 hE
    clear hfin
    (
      k_extra "m fill"
      w_strict (
        (dsimp only [elNews,List.cons_append,List.nil_append] at N0)
        (have FN:=upd_it F0 N0 (o':=itR (lo1 - 1 + ((i + 1:Nat):Int)) ((n:Int) - ((i + 1:Nat):Int))) (by k_updF) hs hit)
        (obtain ⟨F,N⟩:=FN)
        (try dsimp only [List.cons_append,List.nil_append] at N)
        clear F0 N0
        (try k_fold)
        k_steps
        all_goals (repeat (first|k_unfold|dsimp only))
        all_goals first
          | exact .inl rfl
          | exact .inr rfl
          | (refine' elJ_end ?B_ ?r_ ?F_ ?N_ ?mi_ ?mc_ ?m1_ ?m2_ ?m3_ ?m4_ ?m5_ ?m6_ ?e_ ?pp_ ?T_ ?n1_ ?n2_ ?n3_ ?O_;(case F_|N_|B_=>k_asm);(case mi_=>k_extra "m mems");(case T_=>exact .inr (by with_reducible assumption));(case mc_|m1_|m2_|m3_|m4_|m5_|m6_=>k_mem);(case n1_=>k_ne);(case n2_|n3_|O_=>with_reducible assumption);(case r_=>k_extra "m rel");(case pp_=>((with_reducible rename OneI _ _=>hPz);exact ⟨_,Classical.choose_spec hPz⟩));(case e_=>((rename EM _ _ _ _ _ _=>hEz);exact ⟨hEz.1,hEz.2.1,hEz.2.2.1,hEz.2.2.2.1,_,em_k ek1⟩)))))
end Z.Z3
theorem zu29:Up 29:=zu28.step (by with_unfolding_all exact Z.Z3.el2_in_core)
theorem el2_in (w:World) (base:Heap) (outer:List Env) (s0:Shared) (g0:Heap) (L A R V S self sd dct P0 P1 a0 a1 It It2:Addr) (oI oD:Obj) (tsd u0 u1 u2 u3:Tok) (vsV vs0 vs1:List Value) (nsV:List Int) (cS cV:Nat) (objs:List (Addr×Obj)) (lo hi lo1 hi1 x kb:Int) (tp0:Array Value) (body:List Stmt) (sc:Scope) (len1:Nat) (hlen:(len1:Int)=hi1 - lo1 + 1) (hb:elBody2 w=some (body,sc)) (K:El2K w base objs A R V S self sd dct L P0 P1 a0 a1 oD vsV vs0 vs1 nsV lo hi lo1 hi1 u0 u1 u2 u3) (f0:@LT.lt Nat _ L It∧@LT.lt Nat _ L It2) (f1:@Ne Nat It2 self) (f2:@Ne Nat It2 sd) (f3:@Ne Nat It2 dct) (f4:@Ne Nat It2 It) (f5:@Ne Nat It self) (f6:@Ne Nat It sd) (f7:@Ne Nat It dct) (f8:@LT.lt Nat _ 448 L) (hkb:inR lo hi x→kb=(x - lo) * (hi1 - lo1 + 1)) (bx:-50≤x∧x≤50) (n i:Nat) (en:(n:Int)=hi1 + 2 - (lo1 - 1)) (hlt:i < n) (s₁:Shared) (h':Heap) (J:ElJ w base outer s0 g0 L A R V S self sd dct oD tsd [.ref a0,.ref a1] vsV cS cV objs [(It2,itR (lo1 - 1 + (i:Int)) ((n:Int) - (i:Int))),(It,oI)] tp0 [It2,It] (fun m=>OneI m x) (Sp2 kb lo hi x len1 i) s₁) (hit:IsRangeIter h' It2 (lo1 - 1 + ((i + 1:Nat):Int)) ((n:Int) - ((i + 1:Nat):Int)) 1) (hs:Heap.SameBut It2 s₁.heap h'):wpAny (model PySem.Challenge.rw_nz0031_01.row.prog w) ((Ak 74 outer).deeper (envE sc L)) (storeName (envE sc L) (Str.ofString "other") (.int (lo1 - 1 + (i:Int)) s₁.toks))
      (fun _ s₂=>wpAny (model PySem.Challenge.rw_nz0031_01.row.prog w) ((Ak 74 outer).deeper (envE sc L)) (execs body (envE sc L)) (fun f s₃=>(f=.next∨f=.cont)∧ElJ w base outer s0 g0 L A R V S self sd dct oD tsd [.ref a0,.ref a1] vsV cS cV objs [(It2,itR (lo1 - 1 + ((i + 1:Nat):Int)) ((n:Int) - ((i + 1:Nat):Int))),(It,oI)] tp0 [It2,It] (fun m=>OneI m x) (Sp2 kb lo hi x len1 (i + 1)) s₃) (fun _ _=>False) s₂)
      (fun _ _=>False) { s₁ with heap:=h',toks:=s₁.toks + 1 } :=
  zu29.at { Zd with w,base,outer,L,A,R,V,S,self,sd,dct,P0,P1,a0,It,tsd,u0,u1,u2,vsV,vs0,nsV,cS,cV,objs,lo,hi,lo1,hi1,r:={ Zd.r with s0,g0,a1,It2,oI,oD,u3,vs1,x_1:=x,kb,tp0,len1,n,i,h' } } body sc hlen hb K f0 f1 f2 f3 f4 f5 f6 f7 f8 hkb bx en hlt s₁ J hit hs
end
example:True:=by
  k_with "r234"=>(skip)
  k_with "r235"=>(skip)
  trivial
theorem el2_iloop {A:Addr} {len1:Nat} (hlen:(len1:Int)=hi1 - lo1 + 1)
    (hb:elBody2 w=some (body,sc)) (K:El2K w base objs A R V S self sd dct L P0 P1 a0 a1 oD vsV vs0 vs1 nsV lo hi lo1 hi1 u0 u1 u2 u3) (f0:@LT.lt Nat _ L It) (f5:@Ne Nat It self) (f6:@Ne Nat It sd) (f7:@Ne Nat It dct) (f8:@LT.lt Nat _ 448 L)
    (hkb:inR lo hi x→kb=(x - lo) * (hi1 - lo1 + 1)) (bx:-50≤x∧x≤50)
    (B:Below (Ak 74 outer) base outer g0) (F:Fr g0 L h m) (N:News g0 L h news) (hE:EM m A S self R kb) (hP:OneI m x) (hT:tp=#[]∨TabD 476 22 qualA g0 c0 o0 tp) (nc1:@Ne Nat c0 448) (nc2:@Ne Nat c0 It) (tn:TabN L tp0 tp) (O:Objs base outer g0 objs)
    (mI:(It,oI)∈news) (mc:(c0,o0)∈news) (m1:(448,tabObj tp)∈news) (m2:(self,instObj 356 sd)∈news) (m3:(sd,sdO w dct tsd)∈news) (m4:(dct,oD)∈news) (m5:(S,listOf (List.toArray [.ref a0,.ref a1]) cS)∈news) (m6:(V,listOf (List.toArray vsV) cV)∈news)
    (done:∀ g' h' tk' m' tp' c1 o1,Below (Ak 74 outer) base outer g'→RelS (FrOf outer) g0 g'→Fr g' L h' m'→EM m' A S self R (kb + @ite _ (inR lo hi x) (Classical.propDecidable _) (len1:Int) 0)→News g' L h' ((It,oI)::(c1,o1)::elNews w tp' S V self sd dct oD tsd [.ref a0,.ref a1] vsV cS cV)→(tp'=#[]∨TabD 476 22 qualA g' c1 o1 tp')→@Ne Nat c1 448→(∀ q∈[It],@Ne Nat c1 q)→TabN L tp0 tp'→Objs base outer g' objs→Gnd w base g0 g' outer→Rr (.ok .next) { s with heap:=h',toks:=tk' }) :
    codeAny (model PySem.Challenge.rw_nz0031_01.row.prog w) ((Ak 74 outer).deeper (envE sc L)) (.forLoop (.Name (Str.ofString "other") px) (.ref h.objs.size) body [] (envE sc L)) Rr
      { s with heap:=h.push { cls:=.type "range_iterator",data:=.fields #[rawInt (lo1 - 1),rawInt (Builtin.Range.rangeSize (lo1 - 1) (hi1 + 2) 1),rawInt 1] },toks:=tk }:=by
  obtain ⟨z1,z2,z3,z4,z5,z6,z7,z8⟩:=K.C.ap
  have en:(((hi1 + 2 - (lo1 - 1)).toNat:Nat):Int)=hi1 + 2 - (lo1 - 1):=by have:=K.w1.1;omega
  have lI:@LT.lt Nat _ It h.objs.size:=Heap.lt_size (N _ mI).1
  have l0:@LT.lt Nat _ c0 h.objs.size:=Heap.lt_size (N _ mc).1
  have l2:@LT.lt Nat _ self h.objs.size:=Heap.lt_size (N _ m2).1
  have l3:@LT.lt Nat _ sd h.objs.size:=Heap.lt_size (N _ m3).1
  have l4:@LT.lt Nat _ dct h.objs.size:=Heap.lt_size (N _ m4).1
  have l5:@LT.lt Nat _ S h.objs.size:=Heap.lt_size (N _ m5).1
  have l6:@LT.lt Nat _ V h.objs.size:=Heap.lt_size (N _ m6).1
  have l1:@LT.lt Nat _ 448 h.objs.size:=Heap.lt_size (N _ m1).1
  have lL:@LT.lt Nat _ L h.objs.size:=F.ns.lt
  have eS:Builtin.Range.rangeSize (lo1 - 1) (hi1 + 2) 1=(((hi1 + 2 - (lo1 - 1)).toNat:Nat):Int):=size_range1 _ _
  rw [eS]
  have F':=F.push (itR (lo1 - 1) (((hi1 + 2 - (lo1 - 1)).toNat:Nat):Int))
  have N':=News.push F N (itR (lo1 - 1) (((hi1 + 2 - (lo1 - 1)).toNat:Nat):Int))
  refine forR rfl (lo1 - 1) (hi1 + 2 - (lo1 - 1)).toNat (J:=fun i s'=>ElJ w base outer s g0 L A R V S self sd dct oD tsd [.ref a0,.ref a1] vsV cS cV objs [(h.objs.size,itR (lo1 - 1 + (i:Int)) ((((hi1 + 2 - (lo1 - 1)).toNat:Nat):Int) - (i:Int))),(It,oI)] tp0 [h.objs.size,It] (fun m=>OneI m x) (Sp2 kb lo hi x len1 i) s') ?_ ?_ ?_ ?_
  · have e1:lo1 - 1 + ((0:Nat):Int)=lo1 - 1:=by simp
    have e2:(((hi1 + 2 - (lo1 - 1)).toNat:Nat):Int) - ((0:Nat):Int)=(((hi1 + 2 - (lo1 - 1)).toNat:Nat):Int):=by simp
    rw [e1,e2]
    refine elJ_end B (RelS.refl _ _) F' N' (fc (.head _) (fc (.tail _ mI) (List.forall_mem_nil _))) (.tail _ mc) (.tail _ m1) (.tail _ m2) (.tail _ m3) (.tail _ m4) (.tail _ m5) (.tail _ m6) ?_ hP hT nc1 (fc (Nat.ne_of_lt l0) (fc nc2 (List.forall_mem_nil _))) tn O
    have e3:Sp2 kb lo hi x len1 0=kb:=by
      by_cases hin:inR lo hi x
      · rw [sp2_in hin];show kb + ((min (0 - 1) len1:Nat):Int)=kb;omega
      · exact sp2_out hin
    rw [e3];exact hE
  · rintro i s' ⟨g,h',tk',m',tp,c0,o0,rfl,_,_,_,_,_,N1,_⟩
    exact (N1 _ (.head _)).1
  · rintro i s' h' hi J hit hs
    exact el2_in w base outer s g0 L A R V S self sd dct P0 P1 a0 a1 It h.objs.size oI oD tsd u0 u1 u2 u3 vsV vs0 vs1 nsV cS cV objs lo _ lo1 hi1 x kb tp0 body sc len1 hlen hb K ⟨f0,lL⟩ (Nat.ne_of_gt l2) (Nat.ne_of_gt l3) (Nat.ne_of_gt l4) (Nat.ne_of_gt lI) f5 f6 f7 f8 hkb bx _ i en hi s' h' J hit hs
  · rintro s' h' ⟨g,h1,tk',m',tp,c0,o0,rfl,B1,r1,F1,hE1,hP1,N1,D1,n1,n2,t1,O1⟩ he
    have nI:=N1 _ (.head _)
    have e9:Sp2 kb lo hi x len1 (hi1 + 2 - (lo1 - 1)).toNat=kb + @ite _ (inR lo hi x) (Classical.propDecidable _) (len1:Int) 0:=by
      by_cases hin:inR lo hi x
      · rw [sp2_in hin,sp_end (n:=len1) (by omega)];simp [hin]
      · rw [sp2_out hin];simp [hin]
    rw [e9] at hE1
    have F2:Fr g L h' m':=⟨F1.ns.extBut he (Nat.ne_of_lt lL),fun b ob e=>he b ob (fun z=>by rw [z,nI.2.2] at e;cases e) (F1.keep b ob e),F1.above⟩
    refine done g h' tk' m' tp c0 o0 B1 r1 F2 hE1 (fun p hp=>?_) D1 n1 (fc (n2 _ (.tail _ (.head _))) (List.forall_mem_nil _)) t1 O1 (gnd_of K.C.W B1 r1)
    have n:=N1 p (.tail _ hp)
    refine ⟨he _ _ ?_ n.1,n.2⟩
    rcases List.mem_cons.mp hp with e|hp
    · rw [e];exact Nat.ne_of_lt lI
    · rcases List.mem_cons.mp hp with e|hp
      · rw [e];exact n2 _ (.head _)
      · simp only [elNews,List.mem_cons,List.not_mem_nil,or_false] at hp
        rcases hp with rfl|rfl|rfl|rfl|rfl|rfl
        · exact Nat.ne_of_lt l1
        · exact Nat.ne_of_lt l2
        · exact Nat.ne_of_lt l3
        · exact Nat.ne_of_lt l4
        · exact Nat.ne_of_lt l5
        · exact Nat.ne_of_lt l6
theorem spR_in {n0:Nat} {w1:Int} (h0:(n0:Int)=hi - lo + 1) (ex:x=lo - 1 + (i:Int)) (h:inR lo hi x):SpR n0 i w1=(x - lo) * w1∧SpR n0 i w1 + w1=SpR n0 (i + 1) w1:=by
  subst ex
  have y:=(in_i h0).mp h
  have e1:Sp1 n0 i=(i:Int) - 1:=mn1 y.1 (Nat.le_succ_of_le y.2)
  have e2:Sp1 n0 (i + 1)=((i:Int) - 1) + 1:=(sp1_nx y.2).trans (Int.sub_add_cancel _ _).symm
  have e3:lo - 1 + (i:Int) - lo=(i:Int) - 1:=by clear h y e1 e2 h0;omega
  unfold SpR
  rw [e1,e2,e3]
  exact ⟨rfl,by rw [Int.add_mul,Int.one_mul]⟩
theorem spR_out {n0 N:Nat} {w1:Int} (h0:(n0:Int)=hi - lo + 1) (ex:x=lo - 1 + (i:Int)) (h:¬ inR lo hi x) (eN:(N:Int)=hi + 2 - (lo - 1)) (hlt:i < N):SpR n0 i w1 + 0=SpR n0 (i + 1) w1:=by
  subst ex
  have e:Sp1 n0 i=Sp1 n0 (i + 1):=sp1_st fun y=>h ((in_i h0).mpr y)
  unfold SpR
  rw [e];exact Int.add_zero _
section
example:True:=by
  k_with "r245"=>(skip)
  k_with "r236"=>(skip)
  k_with "r244"=>(skip)
  k_with "r239"=>(skip)
  k_with "r240"=>(skip)
  k_with "r243"=>(skip)
  k_with "r241"=>(skip)
  k_with "r242"=>(skip)
  k_with "w k_lt $h:ident"=>((fail_if_success k_extra "r246");k_extra "y40")
  k_with "w k_ne"=>((fail_if_success k_extra "r247");k_extra "y70")
  k_with "w subscriptTail Name Constant ref int"=>((fail_if_success k_extra "r248");k_extra "y15")
  k_with "w subscriptTail Name Constant ref int"=>((fail_if_success k_extra "r249");k_extra "y136")
  k_with "m enter"=>((fail_if_success k_extra "r250");k_extra "y20")
  k_with "m enterH"=>((fail_if_success k_extra "r251");k_extra "y21")
  k_with "m use2"=>((fail_if_success k_extra "r252");k_extra "y22")
  k_with "m useO"=>((fail_if_success k_extra "r253");k_extra "y23")
  k_with "w eval Call"=>((fail_if_success k_extra "r254");k_extra "y24")
  k_with "w subscriptTail Subscript Name Constant Constant ref int"=>((fail_if_success k_extra "r255");k_extra "y136")
  k_with "w eval Dict"=>((fail_if_success k_extra "r256");k_extra "y137")
  k_with "y146"=>((k_here;(with_reducible rename Objs _ _ _ _=>hO9);k_dflt (first|(refine' len_tup1 2 ?t_ ?e_ ?l_ ?_;(case t_=>exact IsTup.keeps (tup_objs hO9 (by assumption)) (Fr.keep (by k_asm)));(case e_=>exact rfl);(case l_=>exact Nat.le_of_ble_eq_true rfl);k_whole)|(refine' len_listZ ?N_ ?m_ ?l_ ?_;(case N_=>k_asm);(case m_=>k_mem);(case l_=>assumption);k_whole))))
  k_with "w call builtin:len"=>((fail_if_success k_extra "r257");k_extra "y146")
  k_with "y147"=>((first|with_reducible refine eq_yes rfl ?_|refine eq_no (by decide) ?_))
  k_with "w compareOp Eq int int"=>((fail_if_success k_extra "r258");k_extra "y147")
  k_with "m nv"=>((fail_if_success k_extra "r259");k_extra "y140")
  trivial
namespace Z
theorem el2_turn_core:el2_turn_P Z.w Z.base Z.outer Z.s0 Z.g0 Z.L Z.A Z.R Z.V Z.S Z.self Z.sd Z.dct Z.P0 Z.P1 Z.a0 Z.a1 Z.It Z.oD Z.tsd Z.u0 Z.u1 Z.u2 Z.u3 Z.vsV Z.vs0 Z.vs1 Z.nsV Z.cS Z.cV Z.objs Z.lo Z.hi Z.lo1 Z.hi1 Z.tp0 Z.len0 Z.len1 Z.n Z.i Z.h':=by
  intro body sc hl0 hl1 hb K f0 f1 f2 f3 en hlt s₁ J hit hs
  have hb2:some (_,_)=some (body,sc):=hb
  clear hb
  cases hb2
  obtain ⟨g,h,tk,m,tp,c0,o0,rfl,B,r0,F0,hE,_,N0,hT,nc1,nc2,nc4,O⟩:=J
  obtain ⟨z1,z2,z3,z4,z5,z6,z7,z8⟩:=K.C.ap
  obtain ⟨p,loose,mean,mg,mb,T⟩:=K.C.W.top
  have T:=T.keeps B.stays
  have X:=K.C.W.K.keeps B.stays
  have nc3:@Ne Nat c0 It:=nc2 It (.head _)
  have mA:=K.C.mA
  have mR:=K.mR
  have m0:=K.m0
  have m1:=K.m1
  have b0:=K.b0
  have b1:=K.b1
  have b3:=K.b3
  have b4:=K.b4
  have hX:-50≤lo - 1 + (i:Int)∧lo - 1 + (i:Int)≤50:=by omega
  have hkb:inR lo hi (lo - 1 + (i:Int))→SpR len0 i (hi1 - lo1 + 1)=(lo - 1 + (i:Int) - lo) * (hi1 - lo1 + 1):=fun hin=>(spR_in hl0 rfl hin).1
  have hke:SpR len0 i (hi1 - lo1 + 1) + @ite _ (inR lo hi (lo - 1 + (i:Int))) (Classical.propDecidable _) (len1:Int) 0=SpR len0 (i + 1) (hi1 - lo1 + 1):=by
    by_cases hin:inR lo hi (lo - 1 + (i:Int))
    · simp only [hin,if_true]
      rw [hl1];exact (spR_in hl0 rfl hin).2
    · simp only [hin,if_false]
      exact spR_out hl0 rfl hin en hlt
  generalize SpR len0 (i + 1) (hi1 - lo1 + 1)=k1 at hke ⊢
  generalize SpR len0 i (hi1 - lo1 + 1)=k at hkb hke hE
  k_extra "m fill"
  w_strict (
    (dsimp only [elNews,List.cons_append,List.nil_append] at N0)
    (have FN:=upd_it F0 N0 (o':=itR (lo - 1 + ((i + 1:Nat):Int)) ((n:Int) - ((i + 1:Nat):Int))) (by k_updF) hs hit)
    (obtain ⟨F,N⟩:=FN)
    (try dsimp only [List.cons_append,List.nil_append] at N)
    clear F0 N0
    (try k_fold)
    repeat' ((fail_if_success (with_reducible show wpAny _ _ (exec (Stmt.For _ _ _ _ _) _) _ _ _));first|(k_unfold;(try dsimp only))|(k_end;wrow_close)|walk1|(dsimp only;walk1)|(leave1;walk_say "STEP leave1";try dsimp only)|fail "no step")
    refine wpAny_For ?_ (fun _=>by with_unfolding_all rfl)
    repeat' ((fail_if_success (with_reducible show wpAny _ _ (pyIter _) _ _ _));first|(k_unfold;(try dsimp only))|(k_end;wrow_close)|walk1|(dsimp only;walk1)|(leave1;walk_say "STEP leave1";try dsimp only)|fail "no step")
    (rename IsRange _ _ _ _ _ _ _ _=>hrg)
    refine wpAny_pyIter_range hrg (small1g (by omega) (by omega)) ?_
    (refine' el2_iloop hl1 ?hb_ K f0 f1 f2 f3 z1 hkb hX ?B_ ?F_ ?N_ ?hE_ ?hP_ ?hT_ nc1 nc3 nc4 ?O_ ?mI_ ?mc_ ?m1_ ?m2_ ?m3_ ?m4_ ?m5_ ?m6_ ?_)
    (case F_|N_=>k_asm)
    (case B_=>assumption)
    (case hb_=>exact rfl)
    (case mI_|mc_|m1_=>k_mem)
    (case hE_=>((rename EM _ _ _ _ _ _=>hEz);exact ⟨hEz.1,hEz.2.1,hEz.2.2.1,hEz.2.2.2.1,_,Classical.choose_spec hEz.2.2.2.2⟩))
    (case hP_=>exact ⟨_,rfl⟩)
    (case m2_|m3_|m4_|m5_|m6_=>k_mem)
    (case hT_=>exact hT)
    (case O_=>with_reducible assumption)
    intro g' h' tk' m' tp' c1 o1 B' r' F' hE' N' D' n1' n2' t' O' G'
    (dsimp only [elNews] at N')
    (try dsimp only)
    k_steps
    all_goals (repeat (first|k_unfold|dsimp only))
    all_goals first
      | exact .inl rfl
      | exact .inr rfl
      | exact ⟨.inl rfl,elJ_end B' (r0.trans r') F' N' (by k_extra "m mems") (by k_mem) (by k_mem) (by k_mem) (by k_mem) (by k_mem) (by k_mem) (by k_mem) (hke ▸ hE') trivial D' n1' n2' t' O'⟩
      | exact elJ_end B' (r0.trans r') F' N' (by k_extra "m mems") (by k_mem) (by k_mem) (by k_mem) (by k_mem) (by k_mem) (by k_mem) (by k_mem) (hke ▸ hE') trivial D' n1' n2' t' O')
end Z
theorem zu30:Up 30:=zu29.step (by with_unfolding_all exact Z.el2_turn_core)
theorem el2_turn (w:World) (base:Heap) (outer:List Env) (s0:Shared) (g0:Heap) (L A R V S self sd dct P0 P1 a0 a1 It:Addr) (oD:Obj) (tsd u0 u1 u2 u3:Tok) (vsV vs0 vs1:List Value) (nsV:List Int) (cS cV:Nat) (objs:List (Addr×Obj)) (lo hi lo1 hi1:Int) (tp0:Array Value) (body:List Stmt) (sc:Scope) (len0 len1:Nat) (hl0:(len0:Int)=hi - lo + 1) (hl1:(len1:Int)=hi1 - lo1 + 1) (hb:elBody w=some (body,sc)) (K:El2K w base objs A R V S self sd dct L P0 P1 a0 a1 oD vsV vs0 vs1 nsV lo hi lo1 hi1 u0 u1 u2 u3) (f0:@LT.lt Nat _ L It) (f1:@Ne Nat It self) (f2:@Ne Nat It sd) (f3:@Ne Nat It dct) (n i:Nat) (en:(n:Int)=hi + 2 - (lo - 1)) (hlt:i < n) (s₁:Shared) (h':Heap) (J:ElJ w base outer s0 g0 L A R V S self sd dct oD tsd [.ref a0,.ref a1] vsV cS cV objs [(It,itR (lo - 1 + (i:Int)) ((n:Int) - (i:Int)))] tp0 [It] (fun _=>True) (SpR len0 i (hi1 - lo1 + 1)) s₁) (hit:IsRangeIter h' It (lo - 1 + ((i + 1:Nat):Int)) ((n:Int) - ((i + 1:Nat):Int)) 1) (hs:Heap.SameBut It s₁.heap h'):wpAny (model PySem.Challenge.rw_nz0031_01.row.prog w) ((Ak 74 outer).deeper (envE sc L)) (storeName (envE sc L) (Str.ofString "one") (.int (lo - 1 + (i:Int)) s₁.toks))
      (fun _ s₂=>wpAny (model PySem.Challenge.rw_nz0031_01.row.prog w) ((Ak 74 outer).deeper (envE sc L)) (execs body (envE sc L)) (fun f s₃=>(f=.next∨f=.cont)∧ElJ w base outer s0 g0 L A R V S self sd dct oD tsd [.ref a0,.ref a1] vsV cS cV objs [(It,itR (lo - 1 + ((i + 1:Nat):Int)) ((n:Int) - ((i + 1:Nat):Int)))] tp0 [It] (fun _=>True) (SpR len0 (i + 1) (hi1 - lo1 + 1)) s₃) (fun _ _=>False) s₂)
      (fun _ _=>False) { s₁ with heap:=h',toks:=s₁.toks + 1 } :=
  zu30.at { Zd with w,base,outer,L,A,R,V,S,self,sd,dct,P0,P1,a0,It,tsd,u0,u1,u2,vsV,vs0,nsV,cS,cV,objs,lo,hi,lo1,hi1,r:={ Zd.r with s0,g0,a1,oD,u3,vs1,tp0,len0,len1,n,i,h' } } body sc hl0 hl1 hb K f0 f1 f2 f3 en hlt s₁ J hit hs
end
example:True:=by
  k_with "r246"=>(skip)
  k_with "r247"=>(skip)
  trivial
theorem el2_loop {A:Addr} 
    (hb:elBody w=some (body,sc)) (K:El2K w base objs A R V S self sd dct L P0 P1 a0 a1 oD vsV vs0 vs1 nsV lo hi lo1 hi1 u0 u1 u2 u3)
    (B:Below (Ak 74 outer) base outer g0) (F:Fr g0 L h m) (N:News g0 L h news) (hE:EM m A S self R 0) (hT:tp0=#[]∨TabD 476 22 qualA g0 self (instObj 356 sd) tp0) (O:Objs base outer g0 objs)
    (m1:(448,tabObj tp0)∈news) (m2:(self,instObj 356 sd)∈news) (m3:(sd,sdO w dct tsd)∈news) (m4:(dct,oD)∈news) (m5:(S,listOf (List.toArray [.ref a0,.ref a1]) cS)∈news) (m6:(V,listOf (List.toArray vsV) cV)∈news)
    (done:∀ g' h' tk' m' tp' c1 o1,Below (Ak 74 outer) base outer g'→RelS (FrOf outer) g0 g'→Fr g' L h' m'→EM m' A S self R (vsV.length:Int)→News g' L h' ((c1,o1)::elNews w tp' S V self sd dct oD tsd [.ref a0,.ref a1] vsV cS cV)→(tp'=#[]∨TabD 476 22 qualA g' c1 o1 tp')→TabN L tp0 tp'→Objs base outer g' objs→Gnd w base g0 g' outer→Rr (.ok .next) { s with heap:=h',toks:=tk' }) :
    codeAny (model PySem.Challenge.rw_nz0031_01.row.prog w) ((Ak 74 outer).deeper (envE sc L)) (.forLoop (.Name (Str.ofString "one") px) (.ref h.objs.size) body [] (envE sc L)) Rr
      { s with heap:=h.push { cls:=.type "range_iterator",data:=.fields #[rawInt (lo - 1),rawInt (Builtin.Range.rangeSize (lo - 1) (hi + 2) 1),rawInt 1] },toks:=tk }:=by
  have hV2:=K.hV2
  have hw0:=K.w0.1
  have hl0:(((hi - lo + 1).toNat:Nat):Int)=hi - lo + 1:=by omega
  have hl1:(((hi1 - lo1 + 1).toNat:Nat):Int)=hi1 - lo1 + 1:=by have:=K.w1.1;omega
  obtain ⟨z1,z2,z3,z4,z5,z6,z7,z8⟩:=K.C.ap
  have en:(((hi + 2 - (lo - 1)).toNat:Nat):Int)=hi + 2 - (lo - 1):=by omega
  have l2:@LT.lt Nat _ self h.objs.size:=Heap.lt_size (N _ m2).1
  have l3:@LT.lt Nat _ sd h.objs.size:=Heap.lt_size (N _ m3).1
  have l4:@LT.lt Nat _ dct h.objs.size:=Heap.lt_size (N _ m4).1
  have l5:@LT.lt Nat _ S h.objs.size:=Heap.lt_size (N _ m5).1
  have l6:@LT.lt Nat _ V h.objs.size:=Heap.lt_size (N _ m6).1
  have l1:@LT.lt Nat _ 448 h.objs.size:=Heap.lt_size (N _ m1).1
  have lL:@LT.lt Nat _ L h.objs.size:=F.ns.lt
  have eS:Builtin.Range.rangeSize (lo - 1) (hi + 2) 1=(((hi + 2 - (lo - 1)).toNat:Nat):Int):=size_range1 _ _
  rw [eS]
  have F':=F.push (itR (lo - 1) (((hi + 2 - (lo - 1)).toNat:Nat):Int))
  have N':=News.push F N (itR (lo - 1) (((hi + 2 - (lo - 1)).toNat:Nat):Int))
  refine forR rfl (lo - 1) (hi + 2 - (lo - 1)).toNat (J:=fun i s'=>ElJ w base outer s g0 L A R V S self sd dct oD tsd [.ref a0,.ref a1] vsV cS cV objs [(h.objs.size,itR (lo - 1 + (i:Int)) ((((hi + 2 - (lo - 1)).toNat:Nat):Int) - (i:Int)))] tp0 [h.objs.size] (fun _=>True) (SpR (hi - lo + 1).toNat i (hi1 - lo1 + 1)) s') ?_ ?_ ?_ ?_
  · have e1:lo - 1 + ((0:Nat):Int)=lo - 1:=by simp
    have e2:(((hi + 2 - (lo - 1)).toNat:Nat):Int) - ((0:Nat):Int)=(((hi + 2 - (lo - 1)).toNat:Nat):Int):=by simp
    rw [e1,e2]
    refine elJ_end B (RelS.refl _ _) F' N' (fc (.head _) (List.forall_mem_nil _)) (.tail _ m2) (.tail _ m1) (.tail _ m2) (.tail _ m3) (.tail _ m4) (.tail _ m5) (.tail _ m6) ?_ trivial hT (Nat.ne_of_gt z6) (fun q hq=>by rw [List.mem_singleton.mp hq];exact Nat.ne_of_lt l2) (.inl rfl) O
    have e3:SpR (hi - lo + 1).toNat 0 (hi1 - lo1 + 1)=0:=by
      have e4:Sp1 (hi - lo + 1).toNat 0=0:=congrArg Int.ofNat (Nat.zero_min _)
      unfold SpR;rw [e4];omega
    rw [e3];exact hE
  · rintro i s' ⟨g,h',tk',m',tp,c0,o0,rfl,_,_,_,_,_,N1,_⟩
    exact (N1 _ (.head _)).1
  · rintro i s' h' hi J hit hs
    exact el2_turn w base outer s g0 L A R V S self sd dct P0 P1 a0 a1 h.objs.size oD tsd u0 u1 u2 u3 vsV vs0 vs1 nsV cS cV objs lo _ lo1 hi1 tp0 body sc _ _ hl0 hl1 hb K lL (Nat.ne_of_gt l2) (Nat.ne_of_gt l3) (Nat.ne_of_gt l4) _ i en hi s' h' J hit hs
  · rintro s' h' ⟨g,h1,tk',m',tp,c0,o0,rfl,B1,r1,F1,hE1,_,N1,D1,n1,n2,t1,O1⟩ he
    have nI:=N1 _ (.head _)
    have e9:SpR (hi - lo + 1).toNat (hi + 2 - (lo - 1)).toNat (hi1 - lo1 + 1)=(vsV.length:Int):=by
      unfold SpR
      rw [sp_end (n:=(hi - lo + 1).toNat) (by omega),hV2,hl0]
    rw [e9] at hE1
    have F2:Fr g L h' m':=⟨F1.ns.extBut he (Nat.ne_of_lt lL),fun b ob e=>he b ob (fun z=>by rw [z,nI.2.2] at e;cases e) (F1.keep b ob e),F1.above⟩
    refine done g h' tk' m' tp c0 o0 B1 r1 F2 hE1 (fun p hp=>?_) D1 t1 O1 (gnd_of K.C.W B1 r1)
    have n:=N1 p (.tail _ hp)
    refine ⟨he _ _ ?_ n.1,n.2⟩
    rcases List.mem_cons.mp hp with e|hp
    · rw [e];exact n2 _ (.head _)
    · simp only [elNews,List.mem_cons,List.not_mem_nil,or_false] at hp
      rcases hp with rfl|rfl|rfl|rfl|rfl|rfl
      · exact Nat.ne_of_lt l1
      · exact Nat.ne_of_lt l2
      · exact Nat.ne_of_lt l3
      · exact Nat.ne_of_lt l4
      · exact Nat.ne_of_lt l5
      · exact Nat.ne_of_lt l6
section
example:True:=by
  k_with "r237"=>(skip)
  k_with "r250"=>(skip)
  k_with "r238"=>(skip)
  k_with "r251"=>(skip)
  k_with "r257"=>(skip)
  k_with "r258"=>(skip)
  k_with "w k_lt $h:ident"=>((fail_if_success k_extra "r260");k_extra "y69")
  k_with "w k_ne"=>((fail_if_success k_extra "r261");k_extra "y70")
  k_with "m enter"=>((fail_if_success k_extra "r262");k_extra "y45")
  k_with "m enter"=>((fail_if_success k_extra "r263");k_extra "y45")
  k_with "m enterH"=>((fail_if_success k_extra "r264");k_extra "y46")
  k_with "m enterH"=>((fail_if_success k_extra "r265");k_extra "y46")
  k_with "w call builtin:len"=>((fail_if_success k_extra "r266");k_extra "y138")
  k_with "w compareOp Eq int int"=>((fail_if_success k_extra "r267");k_extra "y139")
  trivial
namespace Z
theorem elR2_core:elR2_P Z.w Z.base Z.objs Z.A Z.R Z.V Z.S Z.P0 Z.P1 Z.a0 Z.a1 Z.cS Z.cV Z.vsV Z.vs0 Z.vs1 Z.nsV Z.lo Z.hi Z.lo1 Z.hi1 Z.u0 Z.u1 Z.u2 Z.u3 Z.outer Z.s Z.Q Z.E:=by
  intro W mA mR m0 m1 ma mb9 i0 i1 hI hVl hV2 b0 b1 b3 b4 w0 w1 hno hSV tp B O OS hP hPT hPb hPf hret
  have hS1:=(OS _ (.head _)).1
  have hV1:=(OS _ (.tail _ (.head _))).1
  have hneS:@Ne Nat S 448:=fun z=>by rw [show S=448 from z,hP] at hS1;cases hS1
  have hneV:@Ne Nat V 448:=fun z=>by rw [show V=448 from z,hP] at hV1;cases hV1
  have hN:∀ p∈[(448,tabObj tp),(S,listOf (List.toArray [.ref a0,.ref a1]) cS),(V,listOf (List.toArray vsV) cV)],s.heap.get? p.1=some p.2∧base.get? p.1=none∧p.1∉outer.filterMap (·.frame):=fc ⟨hP,hPb,hPf⟩ OS
  have hPT:=tabL_hide3 hP hS1 hV1 hPT
  have O2:Objs base outer (hideAll s.heap [448,S,V]) objs:=fun p hp=>⟨hideAll_get _ (O p hp).1 (by
    simp only [List.mem_cons,List.not_mem_nil,or_false,not_or]
    exact hno p hp),(O p hp).2⟩
  clear O
  k_extra "m fill"
  w_strict (
    (refine wpAny_call ?_);
    k_dflt (refine' enter W B _ hN ?ho_ ?hcd_ ?hroom_ ?hbind_ ?hloc_ ?_ ?c1_ ?c2_ ?c3_ ?c4_);
    (case ho_=>k_is);
    (case hcd_=>k_is);
    (case hroom_=>exact Nat.le_of_ble_eq_true rfl);
    (case hbind_=>exact BindsTo.of_eq rfl);
    (case hloc_=>exact locs rfl);
    (case c1_=>decide);
    (case c2_=>exact rfl);
    (case c3_=>exact rfl);
    (case c4_=>exact rfl);
    intro L h₁ p loose mean mg mb F N Bl X T lt eL tk;subst eL;
    (dsimp only [List.map] at F N Bl X T);
    (try k_fold)
    (simp only [AllLt,and_true] at lt);
    (have eL2:@Eq Nat s.heap.objs.size s.heap.objs.size:=rfl);
    repeat' ((fail_if_success (with_reducible show wpAny _ _ (exec (Stmt.For _ _ _ _ _) _) _ _ _));first|(k_unfold;(try dsimp only))|(k_end;wrow_close)|walk1|(dsimp only;walk1)|(leave1;walk_say "STEP leave1";try dsimp only)|fail "no step")
    refine wpAny_For ?_ (fun _=>by with_unfolding_all rfl)
    repeat' ((fail_if_success (with_reducible show wpAny _ _ (pyIter _) _ _ _));first|(k_unfold;(try dsimp only))|(k_end;wrow_close)|walk1|(dsimp only;walk1)|(leave1;walk_say "STEP leave1";try dsimp only)|fail "no step")
    (rename IsRange _ _ _ _ _ _ _ _=>hrg)
    refine wpAny_pyIter_range hrg (small1g (by omega) (by omega)) ?_
    (refine' el2_loop ?hb_ ⟨⟨W,mA,?hD_,?hS_,hVl,?hI_,fun p hp=>(hno p hp).1,?ap_⟩,mR,m0,m1,ma,mb9,?i0_,?i1_,hV2,b0,b1,b3,b4,w0,w1⟩ ?B_ ?F_ ?N_ ?hE_ ?hT_ ?O_ ?m1_ ?m2_ ?m3_ ?m4_ ?m5_ ?m6_ ?_)
    (case F_|N_=>k_asm)
    (case B_=>assumption)
    (case hb_=>exact rfl)
    (case m1_=>k_mem)
    (case hE_=>exact ⟨rfl,rfl,rfl,rfl,_,rfl⟩)
    (case m2_|m3_|m4_|m5_|m6_=>k_mem)
    (case hD_|hS_|hI_|i0_|i1_=>assumption)
    (case ap_=>exact ⟨by omega,by omega,by omega,hneS,hneV,by omega,by omega,by omega⟩)
    (case hT_=>exact tabL_d hPT)
    (case O_=>with_reducible assumption)
    intro g' h' tk' m' tp' c1 o1 B' r' F' hE' N' D' t' O' G'
    have X':=G'.X
    obtain ⟨p',lo',me',mg',mb',T'⟩:=G'.T
    (dsimp only [elNews] at N')
    (try dsimp only)
    k_steps
    all_goals (repeat (first|k_unfold|dsimp only))
    refine hret _ _ _ (relS_unL (hs:=[(S,listOf (List.toArray [.ref a0,.ref a1]) cS),(V,listOf (List.toArray vsV) cV)]) (fc hS1 (fc hV1 (List.forall_mem_nil _))) (r'.trans (relS_fr (by assumption))) (fc (News.get (by assumption) (by k_mem)) (fc (News.get (by assumption) (by k_mem)) (List.forall_mem_nil _)))) (News.get (by assumption) (by k_mem)) (tabQ_of rfl D' (by assumption) (by assumption) (by k_mem) t'))
end Z
theorem zu31:Up 31:=zu30.step (by with_unfolding_all exact Z.elR1_core)
theorem elR1 (w:World) (base:Heap) (W:Wd w base) (objs:List (Addr×Obj)) (A R V S P0 a0:Addr) (cS cV:Nat) (vsV vs0:List Value) (nsV:List Int) (lo hi:Int) (u0 u1:Tok) (mA:(A,tupO [.ref R,.ref V])∈objs) (mR:(R,tupO [.ref P0])∈objs) (m0:(P0,tupO [.int lo u0,.int hi u1])∈objs) (ma:(a0,tupO vs0)∈objs) (i0:IntsAre vs0 (intsFrom lo (hi + 1 - lo).toNat)) (hI:IntsAre vsV nsV) (hVl:vsV.length≤20) (hV2:(vsV.length:Int)=hi - lo + 1) (b0:-30≤lo∧lo≤30) (b1:-30≤hi∧hi≤30) (hno:∀ p∈objs,p.1≠448∧p.1≠S∧p.1≠V) (hSV:@Ne Nat S V) (outer:List Env) (s:Shared) (Q E:Value→Shared→Prop) (tp:Array Value) (B:Below (Ak 74 outer) base outer s.heap) (O:Objs base outer s.heap objs) (OS:Objs base outer s.heap [(S,listOf (List.toArray [.ref a0]) cS),(V,listOf (List.toArray vsV) cV)]) (hP:s.heap.get? 448=some (tabObj tp)) (hPT:TabL 476 22 qualA s.heap tp) (hPb:base.get? 448=none) (hPf:448∉outer.filterMap (·.frame)) (hret:∀ h' tk tp',RelS (FrOf outer) (hideAll s.heap [448]) h'→h'.get? 448=some (tabObj tp')→TabQ 476 22 qualA s.heap tp h' tp'→Q (.bool true) { s with heap:=h',toks:=tk }):wpAny (model PySem.Challenge.rw_nz0031_01.row.prog w) (Ak 74 outer) (call (.ref 458) [.ref A,.ref S]) Q E s :=
  zu31.at { Zd with w,base,objs,A,R,V,S,P0,a0,cS,cV,vsV,vs0,nsV,lo,hi,u0,u1,outer,s,Q,E } W mA mR m0 ma i0 hI hVl hV2 b0 b1 hno hSV tp B O OS hP hPT hPb hPf hret
theorem zu32:Up 32:=zu31.step (by with_unfolding_all exact Z.elR2_core)
theorem elR2 (w:World) (base:Heap) (W:Wd w base) (objs:List (Addr×Obj)) (A R V S P0 P1 a0 a1:Addr) (cS cV:Nat) (vsV vs0 vs1:List Value) (nsV:List Int) (lo hi lo1 hi1:Int) (u0 u1 u2 u3:Tok) (mA:(A,tupO [.ref R,.ref V])∈objs) (mR:(R,tupO [.ref P0,.ref P1])∈objs) (m0:(P0,tupO [.int lo u0,.int hi u1])∈objs) (m1:(P1,tupO [.int lo1 u2,.int hi1 u3])∈objs) (ma:(a0,tupO vs0)∈objs) (mb9:(a1,tupO vs1)∈objs) (i0:IntsAre vs0 (intsFrom lo (hi + 1 - lo).toNat)) (i1:IntsAre vs1 (intsFrom lo1 (hi1 + 1 - lo1).toNat)) (hI:IntsAre vsV nsV) (hVl:vsV.length≤20) (hV2:(vsV.length:Int)=(hi - lo + 1) * (hi1 - lo1 + 1)) (b0:-30≤lo∧lo≤30) (b1:-30≤hi∧hi≤30) (b3:-30≤lo1∧lo1≤30) (b4:-30≤hi1∧hi1≤30) (w0:0≤hi - lo + 1∧hi - lo + 1≤10) (w1:0≤hi1 - lo1 + 1∧hi1 - lo1 + 1≤10) (hno:∀ p∈objs,p.1≠448∧p.1≠S∧p.1≠V) (hSV:@Ne Nat S V) (outer:List Env) (s:Shared) (Q E:Value→Shared→Prop) (tp:Array Value) (B:Below (Ak 74 outer) base outer s.heap) (O:Objs base outer s.heap objs) (OS:Objs base outer s.heap [(S,listOf (List.toArray [.ref a0,.ref a1]) cS),(V,listOf (List.toArray vsV) cV)]) (hP:s.heap.get? 448=some (tabObj tp)) (hPT:TabL 476 22 qualA s.heap tp) (hPb:base.get? 448=none) (hPf:448∉outer.filterMap (·.frame)) (hret:∀ h' tk tp',RelS (FrOf outer) (hideAll s.heap [448]) h'→h'.get? 448=some (tabObj tp')→TabQ 476 22 qualA s.heap tp h' tp'→Q (.bool true) { s with heap:=h',toks:=tk }):wpAny (model PySem.Challenge.rw_nz0031_01.row.prog w) (Ak 74 outer) (call (.ref 458) [.ref A,.ref S]) Q E s :=
  zu32.at { Zd with w,base,objs,A,R,V,S,P0,P1,a0,cS,cV,vsV,vs0,nsV,lo,hi,lo1,hi1,u0,u1,u2,outer,s,Q,E,r:={ Zd.r with a1,vs1,u3 } } W mA mR m0 m1 ma mb9 i0 i1 hI hVl hV2 b0 b1 b3 b4 w0 w1 hno hSV tp B O OS hP hPT hPb hPf hret
end
example:True:=by
  k_with "r260"=>(skip)
  k_with "r261"=>(skip)
  trivial
theorem fr_back {g g' h':Heap} {L:Addr} {m m':Str→Option Value} {h:Heap} (r:RelS (FrOf []) g g') (F':Fr g' L h' m') (F:Fr g L h m):Fr g L h' m' :=
  ⟨F'.ns,fun b o e=>F'.keep b o (r.keep b o e List.not_mem_nil),F.above⟩
theorem news_back {g:Heap} (r:RelS (FrOf []) g g') (N':News g' L h' news):News g L h' news:=fun p hp=>⟨(N' p hp).1,(N' p hp).2.1,r.none (N' p hp).2.2⟩
theorem reL {g h h':Heap} {env:Env} {L T:Addr} {m:Str→Option Value} {o o':Obj} {news:List (Addr×Obj)} {G:Obj→List (Addr×Obj)}
    (F:Fr g L h m) (N:News g L h news) (hf:env.frame=some L) (U:UpdF T o news G) (r:RelS (FrOf [env]) (hideAll h [T]) h') (ho':h'.get? T=some o'):Fr g L h' m∧News g L h' (G o'):=by
  have hLo:FrOf [env]=[L]:=by unfold FrOf;rw [List.filterMap_cons,hf];rfl
  obtain ⟨pre,post,rfl,hG,h1,h2⟩:=U.split
  have nT:=N (T,o) (List.mem_append_right _ (.head _))
  have hL:=kts_self F
  have keep:∀ b o,h.get? b=some o→b≠T→b≠L→h'.get? b=some o:=fun b o e n1 n2=>r.keep b o (hideAll_get _ e fun hm=>n1 (List.mem_singleton.mp hm)) (by rw [hLo];exact fun hm=>n2 (List.mem_singleton.mp hm))
  have hns:h'.Ns L m:=by
    obtain ⟨oL,es,ep,e1,e2⟩:=F.ns
    have e3:(hideAll h [T]).get? L=some oL:=hideAll_get _ e1 (fun hm=>nT.2.1 (List.mem_singleton.mp hm).symm)
    obtain ⟨sl,e4⟩:=r.slot _ _ e3
    exact ⟨_,es,ep,e4,e2⟩
  refine ⟨⟨hns,fun b o e=>keep b o (F.keep b o e) (fun z=>by rw [z,nT.2.2] at e;cases e) (fun z=>by rw [z,hL] at e;cases e),F.above⟩,?_⟩
  rw [hG]
  intro p hp
  rcases List.mem_append.mp hp with hp|hp
  · have n:=N p (List.mem_append_left _ hp)
    exact ⟨keep _ _ n.1 (h1 p hp) n.2.1,n.2⟩
  · rcases List.mem_cons.mp hp with rfl|hp
    · exact ⟨ho',nT.2⟩
    · have n:=N p (List.mem_append_right _ (.tail _ hp))
      exact ⟨keep _ _ n.1 (h2 p hp) n.2.1,n.2⟩
theorem idx_some1 (h:okIdx false xs nv=some rs):∃ l,xs=[.set l,.arr]∧rs=[(loI l,hiI l)]∧hiI l - loI l + 1=(l.length:Int)∧l.length=nv:=by
  unfold okIdx at h
  split at h
  · rename_i l
    split at h
    · rename_i c;exact ⟨l,rfl,(Option.some.inj h).symm,c.2.1,c.2.2⟩
    · cases h
  · split at h
    · rename_i c;cases c.1
    · cases h
  · cases h
theorem idx_some2 (h:okIdx true xs nv=some rs):∃ l l',xs=[.set l,.set l',.arr]∧rs=[(loI l,hiI l),(loI l',hiI l')]∧hiI l - loI l + 1=(l.length:Int)∧hiI l' - loI l' + 1=(l'.length:Int)∧l.length * l'.length=nv:=by
  unfold okIdx at h
  split at h
  · split at h
    · rename_i c;cases c.1
    · cases h
  · rename_i l l'
    split at h
    · rename_i c;exact ⟨l,l',rfl,(Option.some.inj h).symm,c.2.1,c.2.2.1,c.2.2.2⟩
    · cases h
  · cases h
theorem setL_range {l:List Int} (h:SetL l) (e:hiI l - loI l + 1=(l.length:Int)):l=intsFrom (loI l) (hiI l + 1 - loI l).toNat∧-30≤loI l∧loI l≤30∧-30≤hiI l∧hiI l≤30:=by
  obtain ⟨a,h1,h2,rfl|rfl|⟨g,g1,g2,rfl|rfl⟩⟩:=h
  · simp [loI,hiI,intsFrom]
  · simp only [loI,hiI,List.getLast?_singleton]
    refine ⟨?_,by omega,by omega,by omega,by omega⟩
    rw [show (a + 1 - a).toNat=1 by omega];rfl
  · simp only [loI,hiI,List.getLast?_cons_cons,List.getLast?_singleton,List.length_cons,List.length_nil] at e ⊢
    have e2:g=1:=by omega
    subst e2
    refine ⟨?_,by omega,by omega,by omega,by omega⟩
    rw [show (a + 1 + 1 - a).toNat=2 by omega];rfl
  · simp only [loI,hiI,List.getLast?_cons_cons,List.getLast?_singleton,List.length_cons,List.length_nil] at e ⊢
    have e2:g=1:=by omega
    subst e2
    refine ⟨?_,by omega,by omega,by omega,by omega⟩
    rw [show (a + 1 + 1 + 1 - a).toNat=3 by omega];rfl
theorem row_ends {n:Nat}:loI (intsFrom 1 n)=1∧hiI (intsFrom 1 n)=(n:Int):=by
  cases n with
  | zero=>exact ⟨rfl,rfl⟩
  | succ n =>
    refine ⟨rfl,?_⟩
    unfold hiI
    rw [List.getLast?_eq_getElem?,intsFrom_len,intsFrom_at _ _ _ (by omega)]
    simp only
    push_cast
    omega
theorem row_ok:okIdx false [.set (intsFrom 1 n),.arr] n=some [(1,(n:Int))]:=by
  simp only [okIdx]
  rw [if_pos ⟨trivial,by rw [row_ends.1,row_ends.2,intsFrom_len];omega,intsFrom_len _ _⟩,row_ends.1,row_ends.2]
theorem news_new {g h h':Heap} {L D:Addr} {m:Str→Option Value} {news:List (Addr×Obj)} {o:Obj} (F:Fr g L h m) (N':News g L h' news) (hD:@LE.le Nat _ h.objs.size D) (ho:h'.get? D=some o):News g L h' ((D,o)::news):=fun p hp=>by
  have hL:@LT.lt Nat _ L D:=Nat.lt_of_lt_of_le F.ns.lt hD
  rcases List.mem_cons.mp hp with e|hp
  · rw [e];exact ⟨ho,Nat.ne_of_gt hL,Heap.get?_none_of_le (Nat.le_trans F.above (Nat.le_of_lt hL))⟩
  · exact N' p hp
theorem arr_new1 {g:Heap} (F:Fr g L h m) (N':News g L h' news) (x:ArrNew h v h' V [(lo,hi)]) :
    ∃ A P a t u,v=.ref A∧News g L h' ((A,tupO [.ref P,.ref V])::(P,tupO [.ref a])::(a,tupO [.int lo t,.int hi u])::news)∧@LE.le Nat _ h.objs.size A∧@LE.le Nat _ h.objs.size P∧@LE.le Nat _ h.objs.size a:=by
  obtain ⟨A,P,refs,e,hA,hP,gA,gP,hr⟩:=x
  rcases refs with _|⟨r,_|⟨r2,q⟩⟩
  · exact hr.elim
  · obtain ⟨⟨a,t,u,rfl,ha,ga⟩,_⟩:=hr
    exact ⟨A,P,a,t,u,e,news_new F (news_new F (news_new F N' ha ga) hP gP) hA gA,hA,hP,ha⟩
  · exact hr.2.elim
theorem arr_new2 {g:Heap} (F:Fr g L h m) (N':News g L h' news) (x:ArrNew h v h' V [(lo,hi),(lo1,hi1)]) :
    ∃ A P a b t u t1 u1,v=.ref A∧News g L h' ((A,tupO [.ref P,.ref V])::(P,tupO [.ref a,.ref b])::(a,tupO [.int lo t,.int hi u])::(b,tupO [.int lo1 t1,.int hi1 u1])::news)∧@LE.le Nat _ h.objs.size A∧@LE.le Nat _ h.objs.size P∧@LE.le Nat _ h.objs.size a∧@LE.le Nat _ h.objs.size b:=by
  obtain ⟨A,P,refs,e,hA,hP,gA,gP,hr⟩:=x
  rcases refs with _|⟨r,_|⟨r2,_|⟨r3,q⟩⟩⟩
  · exact hr.elim
  · exact hr.2.elim
  · obtain ⟨⟨a,t,u,rfl,ha,ga⟩,⟨b,t1,u1,rfl,hb,gb⟩,_⟩:=hr
    exact ⟨A,P,a,b,t,u,t1,u1,e,news_new F (news_new F (news_new F (news_new F N' hb gb) ha ga) hP gP) hA gA,hA,hP,ha,hb⟩
  · exact hr.2.2.elim
theorem lam_law {M:Model} {A:Around} {E:Value→Shared→Prop} {s:Shared} {h₀:Heap} {L a c P:Addr} {m mg mb:Str→Option Value} {cn:Str} {cs:Scope} {ccd:Value} {cl:List (Str×Addr)} {news:List (Addr×Obj)} {g:Obj→List (Addr×Obj)}
    {p:Program} {loose:List Str} {mean:ExcName→Option Value} {params:Arguments} {body:PySem.Expr} {scope:Scope} {ps:Array Value} {pos:Pos} {clos:List (Str×Addr)} {Q:Value→Shared→Prop} {c0:Addr} {o0:Obj} {ln co:Int} {q:Str}
    (hdef:defaultsOf params (envX cn cs L a ccd cl)=([],[])) (hq:(envX cn cs L a ccd cl).qual++Str.ofString "<lambda>"=q) (F:Fr h₀ L s.heap m) (N:News h₀ L s.heap news) (T:Top p loose mean mg mb h₀) (C:CodeHd h₀ c P) (hcd:ccd=.ref c) (U:UpdF P (tabObj ps) news g)
    (D:ps=#[]∨TabD ln co q h₀ c0 o0 ps) (mc:(c0,o0)∈news) (hl:pos.line=ln) (hc:pos.col=co)
    (ht0:TriplesOk []) (hn:codeAmong pos []=none) (ht:∀ c',TriplesOk [rawInt ln,rawInt co,.ref c']) (hf:∀ c',codeAmong pos [rawInt ln,rawInt co,.ref c']=some (.ref c'))
    (hcl:closureFor scope (envX cn cs L a ccd cl)=pure clos)
    (h:∀ f c' ctv c1 o1 h' tk,Fr h₀ L h' m→News h₀ L h' ((f,kla_obj (Str.ofString "<lambda>") q params body scope clos ((mg "__name__").getD .none) c' ctv)::(c1,o1)::g (tabObj #[rawInt ln,rawInt co,.ref c']))→TabD ln co q h₀ c1 o1 #[rawInt ln,rawInt co,.ref c']→h'.CodeRec (.ref c') q →
      (∀ q,@Ne Nat c0 q→(∃ o,(q,o)∈news)→@Ne Nat c1 q)→(∀ q∈news,@LT.lt Nat _ q.1 f)→Q (.ref f) { s with heap:=h',toks:=tk }) :
    wpAny M A (eval (.Lambda params body scope pos) (envX cn cs L a ccd cl)) Q E s:=by
  subst hl hc hq
  refine kla_eval hdef ?_
  rcases D with rfl|⟨c',rfl,x⟩
  · refine kla_nest F N T C hcd U ht0 hn hcl fun f c' oc vs t ctv h' tk F' N' hd hv l1 l2=>?_
    refine h f c' ctv c' oc h' tk F' N' ⟨c',rfl,.inr ⟨rfl,vs,t,hd,hv⟩⟩ (codeRec_news N' (.tail _ (.head _)) hd hv) (fun q _ hq=>?_) (fun q hq=>Nat.lt_trans (l1 q hq) l2)
    obtain ⟨o,ho⟩:=hq
    exact Nat.ne_of_gt (l1 _ ho)
  · obtain ⟨pre,post,eN,hG,_⟩:=U.split
    have eg:g (tabObj #[rawInt pos.line,rawInt pos.col,Value.ref c'])=news:=by rw [hG,eN]
    refine kla_hit F N T C hcd (updF_mem U) (ht c') (hf c') hcl fun f ctv h' tk F' N' l1=>?_
    refine h f c' ctv c0 o0 h' tk F' (fun p hp=>?_) ⟨c',rfl,x⟩ ?_ (fun q hq _=>hq) l1
    · rcases List.mem_cons.mp hp with e|hp
      · rw [e];exact N' _ (.head _)
      · rcases List.mem_cons.mp hp with e|hp
        · rw [e];exact N' _ (.tail _ mc)
        · rw [eg] at hp;exact N' _ (.tail _ hp)
    · rcases x with x|⟨rfl,vs,t,x⟩
      · exact x.keeps F'.keep
      · exact codeRec_news N' (.tail _ mc) x.1 x.2
example:True:=by
  k_with "r209"=>(skip)
  trivial
theorem all_neN {d a:Addr} {l:List (Addr×Obj)} (h:AllNeN d l) (m:(a,o)∈l):@Ne Nat a d:=allNeN_at h m
theorem CN3.a {c a b d:Addr} (h:CN3 c a b d):@Ne Nat c a:=h.1
theorem CN3.b {c a b d:Addr} (h:CN3 c a b d):@Ne Nat c b:=h.2.1
theorem CN3.d {c a b d:Addr} (h:CN3 c a b d):@Ne Nat c d:=h.2.2
theorem cn3_on {a b d:Addr} (h:CN3 c0 a b d) (q:∀ q,@Ne Nat c0 q→(∃ o,(q,o)∈news)→@Ne Nat c1 q) (ma:∃ o,(a,o)∈news) (mb:∃ o,(b,o)∈news) (md:∃ o,(d,o)∈news):CN3 c1 a b d:=⟨q _ h.1 ma,q _ h.2.1 mb,q _ h.2.2 md⟩
theorem cn3_start {tgt:PySem.Expr} {R:Result→Shared→Prop} {c a b:Addr} (ha:@Ne Nat c a) (hb:@Ne Nat c b) (hd:@Ne Nat c It) (h:CN3 c a b It→codeAny M A (.forLoop tgt (.ref It) body [] env) R s):codeAny M A (.forLoop tgt (.ref It) body [] env) R s:=h ⟨ha,hb,hd⟩
theorem tabD_on {g:Heap} (hr:∀ v q,g.CodeRec v q→g'.CodeRec v q) (D:tp=#[]∨TabD ln co q g c0 o0 tp):tp=#[]∨TabD ln co q g' c0 o0 tp:=by
  rcases D with e|⟨c',e,x|x⟩
  · exact .inl e
  · exact .inr ⟨c',e,.inl (hr _ _ x)⟩
  · exact .inr ⟨c',e,.inr x⟩
theorem tabN_trans {L:Nat} {a b c:Array Value} (x:TabN L a b) (y:TabN L b c):TabN L a c:=by
  rcases y with e|⟨e0,c',u,v,e,hle⟩
  · rw [e];exact x
  · rcases x with e1|⟨_,c2,u2,v2,e2,_⟩
    · exact .inr ⟨e1 ▸ e0,c',u,v,e,hle⟩
    · rw [e0] at e2;exact absurd (congrArg Array.size e2) (by simp)
theorem tabS_of {g:Heap} {o1:Obj} (eL:L=h0.objs.size) (D:tp'=#[]∨TabD 471 22 q g c1 o1 tp') (hne:tp'≠#[]) (F:Fr g L h m) (K:KeptBut It L g h news) (mc:(c1,o1)∈news) (hi:@Ne Nat c1 It) (x:TabN L tp tp'):TabS 471 22 q h0 tp h tp':=by
  rcases D with z|⟨c2,e2,y⟩
  · exact absurd z hne
  · have hc:h.CodeRec (.ref c2) q:=by
      rcases y with y|⟨rfl,vs,t,y⟩
      · exact y.keeps F.keep
      · exact rec_kept K mc hi y.1 y.2
    refine ⟨c2,e2,hc,?_⟩
    rcases x with e|⟨e0,c',a,b,e,hle⟩
    · exact .inr e
    · have e3:c'=c2:=by
        have e4:=e.symm.trans e2
        have e5:(#[a,b,Value.ref c']:Array Value)[2]?=(#[rawInt 471,rawInt 22,Value.ref c2]:Array Value)[2]?:=by rw [e4]
        simpa using e5
      exact .inl ⟨e0,by rw [← e3,← eL];exact hle⟩
theorem lam_tab {a c P:Addr} {cn:Str} {cs:Scope} {ccd:Value} {g:Obj→List (Addr×Obj)}
    {params:Arguments} {body:PySem.Expr} {clos:List (Str×Addr)} {oL:Obj} 
    (hdef:defaultsOf params (envX cn cs L a ccd cl)=([],[])) (hq:(envX cn cs L a ccd cl).qual++Str.ofString "<lambda>"=q) (F:Fr h₀ L s.heap m) (N:News h₀ L s.heap news) (T:Top p loose mean mg mb h₀) (C:CodeHd h₀ c P) (hcd:ccd=.ref c) (U:UpdF P (tabObj ps) news g)
    (D:ps=#[]∨TabD ln co q h₀ c0 o0 ps) (mc:(c0,o0)∈news) (mL:(L + 1,oL)∈news) (TN:TabN L tp0 ps) (hl:pos.line=ln) (hc:pos.col=co)
    (ht0:TriplesOk []) (hn:codeAmong pos []=none) (ht:∀ c',TriplesOk [rawInt ln,rawInt co,.ref c']) (hf:∀ c',codeAmong pos [rawInt ln,rawInt co,.ref c']=some (.ref c'))
    (hcl:closureFor scope (envX cn cs L a ccd cl)=pure clos)
    (h:∀ f c' ctv c1 o1 h' tk,Fr h₀ L h' m→News h₀ L h' ((f,kla_obj (Str.ofString "<lambda>") q params body scope clos ((mg "__name__").getD .none) c' ctv)::(c1,o1)::g (tabObj #[rawInt ln,rawInt co,.ref c']))→#[rawInt ln,rawInt co,Value.ref c']=#[]∨TabD ln co q h₀ c1 o1 #[rawInt ln,rawInt co,.ref c']→TabN L tp0 #[rawInt ln,rawInt co,.ref c']→h'.CodeRec (.ref c') q →
      (∀ q,@Ne Nat c0 q→(∃ o,(q,o)∈news)→@Ne Nat c1 q)→(∀ q∈news,@LT.lt Nat _ q.1 f)→Q (.ref f) { s with heap:=h',toks:=tk }) :
    wpAny M A (eval (.Lambda params body scope pos) (envX cn cs L a ccd cl)) Q E s:=by
  subst hl hc hq
  refine kla_eval hdef ?_
  rcases D with rfl|⟨c',rfl,x⟩
  · refine kla_nest F N T C hcd U ht0 hn hcl fun f c' oc vs t ctv h' tk F' N' hd hv l1 l2=>?_
    refine h f c' ctv c' oc h' tk F' N' (.inr ⟨c',rfl,.inr ⟨rfl,vs,t,hd,hv⟩⟩) (tabN_trans TN (.inr ⟨rfl,c',_,_,rfl,Nat.le_of_lt (Nat.lt_trans (Nat.lt_succ_self L) (l1 _ mL))⟩)) (codeRec_news N' (.tail _ (.head _)) hd hv) (fun q _ hq=>?_) (fun q hq=>Nat.lt_trans (l1 q hq) l2)
    obtain ⟨o,ho⟩:=hq
    exact Nat.ne_of_gt (l1 _ ho)
  · obtain ⟨pre,post,eN,hG,_⟩:=U.split
    have eg:g (tabObj #[rawInt pos.line,rawInt pos.col,Value.ref c'])=news:=by rw [hG,eN]
    refine kla_hit F N T C hcd (updF_mem U) (ht c') (hf c') hcl fun f ctv h' tk F' N' l1=>?_
    refine h f c' ctv c0 o0 h' tk F' (fun p hp=>?_) (.inr ⟨c',rfl,x⟩) TN ?_ (fun q hq _=>hq) l1
    · rcases List.mem_cons.mp hp with e|hp
      · rw [e];exact N' _ (.head _)
      · rcases List.mem_cons.mp hp with e|hp
        · rw [e];exact N' _ (.tail _ mc)
        · rw [eg] at hp;exact N' _ (.tail _ hp)
    · rcases x with x|⟨rfl,vs,t,x⟩
      · exact x.keeps F'.keep
      · exact codeRec_news N' (.tail _ mc) x.1 x.2
section
example:True:=by
  k_with "r262"=>(skip)
  k_with "r263"=>(skip)
  k_with "r264"=>(skip)
  k_with "r265"=>(skip)
  k_with "r248"=>(skip)
  k_with "r249"=>(skip)
  k_with "r266"=>(skip)
  k_with "r252"=>(skip)
  k_with "r253"=>(skip)
  k_with "r254"=>(skip)
  k_with "r267"=>(skip)
  k_with "r223"=>(skip)
  k_with "r255"=>(skip)
  k_with "r256"=>(skip)
  k_with "w k_lt $h:ident"=>((fail_if_success k_extra "r268");k_extra "y40")
  k_with "y148"=>((refine neN ?_;(try dsimp only);(first|(with_reducible assumption)|exact CN3.a (by with_reducible assumption)|exact CN3.b (by with_reducible assumption)|exact CN3.d (by with_reducible assumption)|exact Ne.symm (CN3.a (by with_reducible assumption))|exact Ne.symm (CN3.b (by with_reducible assumption))|exact Ne.symm (CN3.d (by with_reducible assumption))|exact all_neN (by with_reducible assumption) (by k_mem)|exact Ne.symm (all_neN (by with_reducible assumption) (by k_mem))|exact Nat.ne_of_lt (all_lt (by with_reducible assumption) (by k_mem))|exact Nat.ne_of_gt (all_lt (by with_reducible assumption) (by k_mem))|(with_reducible exact Ne.symm (by assumption))|(with_reducible exact Nat.ne_of_lt (by assumption))|(with_reducible exact Nat.ne_of_gt (by assumption))|exact Nat.ne_of_lt (all_lt2 (by with_reducible assumption) (by with_reducible assumption) (by k_mem))|exact Nat.ne_of_gt (all_lt2 (by with_reducible assumption) (by with_reducible assumption) (by k_mem))|omega)))
  k_with "w k_ne"=>((fail_if_success k_extra "r269");k_extra "y148")
  k_with "m enter"=>((fail_if_success k_extra "r270");k_extra "y20")
  k_with "m enterH"=>((fail_if_success k_extra "r271");k_extra "y21")
  k_with "y149"=>((k_here;k_dflt (refine' lam_tab (q:=qualT) (ln:=471) (co:=22) ?hdef_ ?hq_ ?F_ ?N_ ?T_ ?C_ ?hcd_ ?U_ ?D_ ?mc_ ?mL_ ?TN_ ?hl_ ?hc_ ?ht0_ ?hn_ ?ht_ ?hf_ ?hcl_ ?_;(case hdef_|hq_=>exact rfl);(case F_|N_|T_=>k_asm);(case hcd_=>exact rfl);(case C_=>assumption);(case U_=>k_updF);(case hl_|hc_=>exact rfl);(case D_=>with_reducible assumption);(case mc_|mL_=>k_mem);(case TN_=>assumption);(case ht0_=>kn_triples);(case hn_=>kn_among);(case ht_=>(intro _;kn_triples));(case hf_=>(intro _;kn_hit));(case hcl_=>exact rfl);k_whole;intro f' c' ctv' c1' o1' h' tk' F' N' D' t' R' q' l1;(try dsimp only);(try dsimp only at N');(have z':=cn3_on (by assumption) q' ⟨_,by k_mem⟩ ⟨_,by k_mem⟩ ⟨_,by k_mem⟩);clear q')))
  k_with "w eval Lambda Call"=>((fail_if_success k_extra "r272");k_extra "y149")
  k_with "y150"=>((k_dflt (first
  | (refine' forStep_tup ?F_ ?N_ ?U_ ?hI_ ?mT_ ?hx_ ?_;(case F_|N_=>k_asm);(case U_=>k_updF);(case hI_=>assumption);(case mT_=>k_mem);(case hx_=>exact rfl);intro h' oI' F' N' hI';(try dsimp only);(try dsimp only at N');(try k_fold))
  | (refine' forEnd_tup rfl ?F_ ?N_ ?U_ ?hI_ ?mT_ ?hx_ ?_;(case F_|N_=>k_asm);(case U_=>k_updF);(case hI_=>assumption);(case mT_=>k_mem);(case hx_=>exact rfl);intro h' F' K';(try dsimp only)))))
  k_with "m next"=>(k_extra "y150")
  k_with "y151"=>((k_here;k_dflt (refine wpAny_For ?_ (fun _=>by first|rfl|with_unfolding_all rfl))))
  k_with "w exec For Tuple Tuple cons nil"=>((fail_if_success k_extra "r274");k_extra "y151")
  k_with "y152"=>((k_here;k_dflt (refine' iter_tupF ?F_ ?N_ ?m_ ?_;(case F_|N_=>k_asm);(case m_=>k_mem));intro D' oI' h' F' N' l1 hI';(try dsimp only);(try k_lt l1)))
  k_with "w pyIter ref"=>((fail_if_success k_extra "r275");k_extra "y152")
  k_with "y153"=>((dsimp only [TurnEnd]))
  k_with "w TurnEnd"=>((fail_if_success k_extra "r276");k_extra "y153")
  k_with "y154"=>((k_here;k_dflt (refine' len_listN 1 ?N_ ?m_ ?l_ ?e_ ?_;(case N_=>k_asm);(case m_=>k_mem);(case l_=>exact Nat.le_of_ble_eq_true rfl);(case e_=>exact rfl);k_whole)))
  k_with "w call builtin:len"=>((fail_if_success k_extra "r277");k_extra "y154")
  k_with "y155"=>((k_here;(with_reducible rename Objs _ _ _ _=>hO9);k_dflt (first
  | (refine' ne_tupSame ?a_ ?b_ ?i_ ?j_ ?u_ ?_;(case a_=>exact News.isTup (by k_asm) (by k_mem));(case b_=>exact IsTup.keeps (tup_objs hO9 (by assumption)) (Fr.keep (by k_asm)));(case i_|j_=>assumption);(case u_=>exact Nat.le_of_ble_eq_true rfl);k_whole)
  | (refine' ne_fault ?N_ ?a_ ?b_ ?u_ ?_;(case N_=>k_asm);(case a_|b_=>k_mem);(case u_=>exact Nat.le_of_ble_eq_true rfl)))))
  k_with "w compareOp NotEq ref ref"=>((fail_if_success k_extra "r278");k_extra "y155")
  k_with "y156"=>((first|exact relS_fr (by assumption)|exact RelS.trans (by assumption) (by k_extra "m rel")))
  k_with "m rel"=>(k_extra "y156")
  k_with "y157"=>((first|with_reducible assumption|assumption|exact codeRec_news (by k_asm) (by k_mem) (by assumption) (by assumption)|exact Heap.CodeRec.keeps (by assumption) (Fr.keep (by k_asm))))
  k_with "m cr"=>(k_extra "y157")
  k_with "y158"=>((k_here;k_dflt (first
  | (refine' hear_T ?hv_ ?hff_ rfl rfl ?hd_ ?hu_ ?W_ ?B_ ?F_ ?N_ rfl rfl ?hc_ (told_hcall mono_tup ?W2_ ?B2_ ?F2_ ?N2_ rfl ?O_ ?hc2_ ?hlam_ ?hla_ ?hln_ ?m1_ ?m2_ ?hda_ ?hdn_ ?hcr_ ?hS_) (fun D' vs' h' tk' i' F' N' l1 lL'=>?_);k_extra "m hear";(case hS_=>first|(rename ∀ _ _,OfH _ _ _ _ (Value.str (Str.ofString "index_set") _::_) _ _ _=>hS9;exact hS9 _));(case hv_=>exact fun _ _ o'=>And.right o');(case hff_=>exact fun _ f'=>f');(try k_lt l1))
  | (refine' hear_F ?hv_ ?hff_ rfl rfl ?hd_ ?hu_ ?W_ ?B_ ?F_ ?N_ rfl rfl ?hc_ (told_hcall mono_no ?W2_ ?B2_ ?F2_ ?N2_ rfl ?O_ ?hc2_ ?hlam_ ?hla_ ?hln_ ?m1_ ?m2_ ?hda_ ?hdn_ ?hcr_ ?hS_) (fun tu' t1' t2' g' h' tk' r' F' N' l' B' G'=>?_);k_extra "m hear";(case hS_=>first|(rename ∀ _ _,OfH _ _ _ _ (Value.str (Str.ofString "index_set_1of2") _::_) _ _ _=>hS9;exact hS9 _)|(rename ∀ _ _,OfH _ _ _ _ (Value.str (Str.ofString "index_set_2of2") _::_) _ _ _=>hS9;exact hS9 _));(case hv_=>exact fun _ _ o'=>o');(case hff_=>exact fun _ f'=>f');(have X':=Gnd.X G');(have T':=Gnd.T G');obtain ⟨p',lo',me',mg',mb',T'⟩:=T';(with_reducible rename Objs _ _ _ _=>hO8);(have O':=Gnd.O G' _ hO8);(rename CodeHd _ _ _=>HC9);(have H':=Gnd.H G' _ _ HC9);(have HC8:=HC9);clear HC9;(have D':=tabD_on (Gnd.C G') (by assumption));clear G'))))
  k_with "w call ref"=>((fail_if_success k_extra "r281");k_extra "y158")
  k_with "y159"=>(((case hd_|hu_=>exact Nat.le_of_ble_eq_true rfl);(case W_|W2_|B_|B2_|F_|F2_|N_|N2_=>k_asm);(case hc_|hc2_=>k_mem);(case hlam_|hla_|hln_=>exact rfl);(case m1_|m2_=>k_mem);(case hda_|hdn_=>k_asm);(case hcr_=>k_extra "m cr");(case O_=>with_reducible assumption)))
  k_with "m hear"=>(k_extra "y159")
  trivial
namespace Z
theorem told1_core:told1_P Z.w Z.base Z.objs Z.A Z.S Z.cS Z.a0 Z.vs0 Z.l0 Z.outer Z.s Z.Q Z.E:=by
  intro W ma0 hi0 hS0 hS1 hS2 hno tp B O OS hP hPT hPb hPf hret
  have hpl:=OS _ (.head _)
  have hpl1:=hpl.1
  have hne:@Ne Nat S 441:=fun z=>by
    have e1:=hpl.1
    rw [show S=441 from z,hP] at e1
    cases e1
  have hN:∀ p∈[(441,tabObj tp),(S,listOf (List.toArray [.ref a0]) cS)],s.heap.get? p.1=some p.2∧base.get? p.1=none∧p.1∉outer.filterMap (·.frame):=fc ⟨hP,hPb,hPf⟩ (fc hpl (List.forall_mem_nil _))
  have hPT:=tabL_hide2 hP hpl1 hPT
  have O2:Objs base outer (hideAll s.heap [441,S]) objs:=fun p hp=>⟨hideAll_get _ (O p hp).1 (by
    simp only [List.mem_cons,List.not_mem_nil,or_false,not_or]
    exact hno p hp),(O p hp).2⟩
  have HC0:CodeHd base 445 441:=codeHd_of_K W.K (by kernel_rfl)
  k_extra "m fill"
  w_strict (
    (refine wpAny_call ?_);
    k_dflt (refine' enterC (binds:=[(Str.ofString "array",.ref A),(Str.ofString "some",.ref S)]) W B _ hN ?ho_ ?hcd_ ?hroom_ ?hbind_ ?hkind_ ?hnd_ ?_ ?c2_ ?c3_ ?c4_);
    (case ho_=>k_is);
    (case hcd_=>k_is);
    (case hroom_=>exact Nat.le_of_ble_eq_true rfl);
    (case hbind_=>exact BindsTo.of_eq rfl);
    (case hkind_=>exact kindsX rfl);
    (case hnd_=>decide +kernel);
    (case c2_=>exact rfl);
    (case c3_=>exact rfl);
    (case c4_=>exact rfl);
    intro L h₁ p loose mean mg mb cells F N Y Bl X T lt eL tk;subst eL;
    (dsimp only [List.map] at F N Bl X T);
    (simp only [AllLt,and_true] at lt);
    
    (obtain ⟨on,oa,hE,dn0,da0⟩:=CellsAre.two Y);
    subst hE;clear Y;
    (have da:oa.data=.cell (some (.ref A)):=da0);
    (have dn:on.data=.cell none:=dn0);
    clear dn0 da0;
    (try simp only [List.cons_append,List.nil_append] at N);
    have HC:CodeHd _ 445 441:=CodeHd.keeps HC0 (Below.stays Bl);
    (have HC1:=HC0);clear HC0;
    (try k_fold)
    (have D0:=tabL_d (c0:=S) (o0:=listOf (List.toArray [.ref a0]) cS) hPT)
    (have t0:TabN s.heap.objs.size tp tp:=Or.inl rfl)
    k_steps
    (refine' cn3_start (c:=S) (a:=441) (b:=s.heap.objs.size + 1 + 1) ?ha9_ ?hb9_ ?hd9_ (fun hC9=>?_))
    (case ha9_=>exact hne)
    (case hb9_|hd9_=>k_ne)
    k_extra "m next"
    k_steps
    k_extra "m next"
    k_steps
    k_extra "m next"
    k_steps
    k_extra "m next"
    k_steps
    all_goals (repeat (first|k_unfold|dsimp only))
    all_goals first
      | (refine' told_end hret hpl1 ?r_ ?K_ ?mS_ ?mT_ ?n1_ ?n2_ ?T_;(case K_=>assumption);(case r_=>k_extra "m rel");(case mS_|mT_=>k_mem);(case n1_|n2_=>k_ne);(case T_=>(refine' tabS_of rfl ?D9_ ?hne9_ ?F9_ ?K9_ ?mc9_ ?hi9_ ?x9_;(case D9_=>with_reducible assumption);(case F9_=>k_asm);(case K9_=>assumption);(case mc9_=>k_mem);(case hi9_=>k_ne);(case x9_=>assumption);(case hne9_=>exact fun z9=>absurd (congrArg Array.size z9) (by simp))))))
end Z
end
section
example:True:=by
  k_with "r281"=>(skip)
  k_with "r277"=>(skip)
  k_with "y160"=>((k_here;k_dflt (refine' len_listN 2 ?N_ ?m_ ?l_ ?e_ ?_;(case N_=>k_asm);(case m_=>k_mem);(case l_=>exact Nat.le_of_ble_eq_true rfl);(case e_=>exact rfl);k_whole)))
  k_with "w call builtin:len"=>((fail_if_success k_extra "r283");k_extra "y160")
  k_with "y161"=>((k_here;k_dflt (first
  | (refine' hear_T ?hv_ ?hff_ rfl rfl ?hd_ ?hu_ ?W_ ?B_ ?F_ ?N_ rfl rfl ?hc_ (told_hcall mono_tup ?W2_ ?B2_ ?F2_ ?N2_ rfl ?O_ ?hc2_ ?hlam_ ?hla_ ?hln_ ?m1_ ?m2_ ?hda_ ?hdn_ ?hcr_ ?hS_) (fun D' vs' h' tk' i' F' N' l1 lL'=>?_);k_extra "m hear";(case hS_=>first|(rename ∀ _ _,OfH _ _ _ _ (Value.str (Str.ofString "index_set_1of2") _::_) _ _ _=>hS9;exact hS9 _)|(rename ∀ _ _,OfH _ _ _ _ (Value.str (Str.ofString "index_set_2of2") _::_) _ _ _=>hS9;exact hS9 _));(case hv_=>exact fun _ _ o'=>And.right o');(case hff_=>exact fun _ f'=>f');(try k_lt l1))
  | (refine' hear_F ?hv_ ?hff_ rfl rfl ?hd_ ?hu_ ?W_ ?B_ ?F_ ?N_ rfl rfl ?hc_ (told_hcall mono_no ?W2_ ?B2_ ?F2_ ?N2_ rfl ?O_ ?hc2_ ?hlam_ ?hla_ ?hln_ ?m1_ ?m2_ ?hda_ ?hdn_ ?hcr_ ?hS_) (fun tu' t1' t2' g' h' tk' r' F' N' l' B' G'=>?_);k_extra "m hear";(case hS_=>first|(rename ∀ _ _,OfH _ _ _ _ (Value.str (Str.ofString "index_set") _::_) _ _ _=>hS9;exact hS9 _));(case hv_=>exact fun _ _ o'=>o');(case hff_=>exact fun _ f'=>f');(have X':=Gnd.X G');(have T':=Gnd.T G');obtain ⟨p',lo',me',mg',mb',T'⟩:=T';(with_reducible rename Objs _ _ _ _=>hO8);(have O':=Gnd.O G' _ hO8);(rename CodeHd _ _ _=>HC9);(have H':=Gnd.H G' _ _ HC9);(have HC8:=HC9);clear HC9;(have D':=tabD_on (Gnd.C G') (by assumption));clear G'))))
  k_with "w call ref"=>((fail_if_success k_extra "r284");k_extra "y161")
  trivial
namespace Z
theorem told2_core:told2_P Z.w Z.base Z.objs Z.A Z.S Z.cS Z.a0 Z.a1 Z.vs0 Z.vs1 Z.l0 Z.l1 Z.outer Z.s Z.Q Z.E:=by
  intro W ma0 hi0 ma1 hi1 hS0 hS1 hS2 hno tp B O OS hP hPT hPb hPf hret
  have hpl:=OS _ (.head _)
  have hpl1:=hpl.1
  have hne:@Ne Nat S 441:=fun z=>by
    have e1:=hpl.1
    rw [show S=441 from z,hP] at e1
    cases e1
  have hN:∀ p∈[(441,tabObj tp),(S,listOf (List.toArray [.ref a0,.ref a1]) cS)],s.heap.get? p.1=some p.2∧base.get? p.1=none∧p.1∉outer.filterMap (·.frame):=fc ⟨hP,hPb,hPf⟩ (fc hpl (List.forall_mem_nil _))
  have hPT:=tabL_hide2 hP hpl1 hPT
  have O2:Objs base outer (hideAll s.heap [441,S]) objs:=fun p hp=>⟨hideAll_get _ (O p hp).1 (by
    simp only [List.mem_cons,List.not_mem_nil,or_false,not_or]
    exact hno p hp),(O p hp).2⟩
  have HC0:CodeHd base 445 441:=codeHd_of_K W.K (by kernel_rfl)
  k_extra "m fill"
  w_strict (
    (refine wpAny_call ?_);
    k_dflt (refine' enterC (binds:=[(Str.ofString "array",.ref A),(Str.ofString "some",.ref S)]) W B _ hN ?ho_ ?hcd_ ?hroom_ ?hbind_ ?hkind_ ?hnd_ ?_ ?c2_ ?c3_ ?c4_);
    (case ho_=>k_is);
    (case hcd_=>k_is);
    (case hroom_=>exact Nat.le_of_ble_eq_true rfl);
    (case hbind_=>exact BindsTo.of_eq rfl);
    (case hkind_=>exact kindsX rfl);
    (case hnd_=>decide +kernel);
    (case c2_=>exact rfl);
    (case c3_=>exact rfl);
    (case c4_=>exact rfl);
    intro L h₁ p loose mean mg mb cells F N Y Bl X T lt eL tk;subst eL;
    (dsimp only [List.map] at F N Bl X T);
    (simp only [AllLt,and_true] at lt);
    
    (obtain ⟨on,oa,hE,dn0,da0⟩:=CellsAre.two Y);
    subst hE;clear Y;
    (have da:oa.data=.cell (some (.ref A)):=da0);
    (have dn:on.data=.cell none:=dn0);
    clear dn0 da0;
    (try simp only [List.cons_append,List.nil_append] at N);
    have HC:CodeHd _ 445 441:=CodeHd.keeps HC0 (Below.stays Bl);
    (have HC1:=HC0);clear HC0;
    (try k_fold)
    (have D0:=tabL_d (c0:=S) (o0:=listOf (List.toArray [.ref a0,.ref a1]) cS) hPT)
    (have t0:TabN s.heap.objs.size tp tp:=Or.inl rfl)
    k_steps
    (refine' cn3_start (c:=S) (a:=441) (b:=s.heap.objs.size + 1 + 1) ?ha9_ ?hb9_ ?hd9_ (fun hC9=>?_))
    (case ha9_=>exact hne)
    (case hb9_|hd9_=>k_ne)
    k_extra "m next"
    k_steps
    k_extra "m next"
    k_steps
    k_extra "m next"
    k_steps
    k_extra "m next"
    k_steps
    all_goals (repeat (first|k_unfold|dsimp only))
    all_goals first
      | (refine' told_end hret hpl1 ?r_ ?K_ ?mS_ ?mT_ ?n1_ ?n2_ ?T_;(case K_=>assumption);(case r_=>k_extra "m rel");(case mS_|mT_=>k_mem);(case n1_|n2_=>k_ne);(case T_=>(refine' tabS_of rfl ?D9_ ?hne9_ ?F9_ ?K9_ ?mc9_ ?hi9_ ?x9_;(case D9_=>with_reducible assumption);(case F9_=>k_asm);(case K9_=>assumption);(case mc9_=>k_mem);(case hi9_=>k_ne);(case x9_=>assumption);(case hne9_=>exact fun z9=>absurd (congrArg Array.size z9) (by simp))))))
end Z
theorem zu33:Up 33:=zu32.step (by with_unfolding_all exact Z.told1_core)
theorem told1 (w:World) (base:Heap) (W:Wd w base) (objs:List (Addr×Obj)) (A S:Addr) (cS:Nat) (a0:Addr) (vs0:List Value) (l0:List Int) (ma0:(a0,tupO vs0)∈objs) (hi0:IntsAre vs0 l0) (hS0:∀ tn ts,OfH w base 30 389 [.str (Str.ofString "index_set") tn,.ref A,.int 4 ts] objs (fun h v h'=>True∧TupNew l0 h v h') (fun _=>False)) (hS1:∀ tn ts,OfH w base 30 389 [.str (Str.ofString "index_set_1of2") tn,.ref A,.int 4 ts] objs (fun _ _ _=>False) (fun sp=>sp=4)) (hS2:∀ tn ts,OfH w base 30 389 [.str (Str.ofString "index_set_2of2") tn,.ref A,.int 4 ts] objs (fun _ _ _=>False) (fun sp=>sp=4)) (hno:∀ p∈objs,p.1≠441∧p.1≠S) (outer:List Env) (s:Shared) (Q E:Value→Shared→Prop) (tp:Array Value) (B:Below (Ak 70 outer) base outer s.heap) (O:Objs base outer s.heap objs) (OS:Objs base outer s.heap [(S,listOf (List.toArray [.ref a0]) cS)]) (hP:s.heap.get? 441=some (tabObj tp)) (hPT:TabL 471 22 qualT s.heap tp) (hPb:base.get? 441=none) (hPf:441∉outer.filterMap (·.frame)) (hret:∀ h' tk tp',RelS (FrOf outer) (hideAll s.heap [441]) h'→h'.get? 441=some (tabObj tp')→TabS 471 22 qualT s.heap tp h' tp'→Q (.bool true) { s with heap:=h',toks:=tk }):wpAny (model PySem.Challenge.rw_nz0031_01.row.prog w) (Ak 70 outer) (call (.ref 446) [.ref A,.ref S]) Q E s :=
  zu33.at { Zd with w,base,objs,A,S,cS,a0,vs0,outer,s,Q,E,r:={ Zd.r with l0 } } W ma0 hi0 hS0 hS1 hS2 hno tp B O OS hP hPT hPb hPf hret
theorem zu34:Up 34:=zu33.step (by with_unfolding_all exact Z.told2_core)
theorem told2 (w:World) (base:Heap) (W:Wd w base) (objs:List (Addr×Obj)) (A S:Addr) (cS:Nat) (a0 a1:Addr) (vs0 vs1:List Value) (l0 l1:List Int) (ma0:(a0,tupO vs0)∈objs) (hi0:IntsAre vs0 l0) (ma1:(a1,tupO vs1)∈objs) (hi1:IntsAre vs1 l1) (hS0:∀ tn ts,OfH w base 30 389 [.str (Str.ofString "index_set") tn,.ref A,.int 4 ts] objs (fun _ _ _=>False) (fun sp=>sp=4)) (hS1:∀ tn ts,OfH w base 30 389 [.str (Str.ofString "index_set_1of2") tn,.ref A,.int 4 ts] objs (fun h v h'=>True∧TupNew l0 h v h') (fun _=>False)) (hS2:∀ tn ts,OfH w base 30 389 [.str (Str.ofString "index_set_2of2") tn,.ref A,.int 4 ts] objs (fun h v h'=>True∧TupNew l1 h v h') (fun _=>False)) (hno:∀ p∈objs,p.1≠441∧p.1≠S) (outer:List Env) (s:Shared) (Q E:Value→Shared→Prop) (tp:Array Value) (B:Below (Ak 70 outer) base outer s.heap) (O:Objs base outer s.heap objs) (OS:Objs base outer s.heap [(S,listOf (List.toArray [.ref a0,.ref a1]) cS)]) (hP:s.heap.get? 441=some (tabObj tp)) (hPT:TabL 471 22 qualT s.heap tp) (hPb:base.get? 441=none) (hPf:441∉outer.filterMap (·.frame)) (hret:∀ h' tk tp',RelS (FrOf outer) (hideAll s.heap [441]) h'→h'.get? 441=some (tabObj tp')→TabS 471 22 qualT s.heap tp h' tp'→Q (.bool true) { s with heap:=h',toks:=tk }):wpAny (model PySem.Challenge.rw_nz0031_01.row.prog w) (Ak 70 outer) (call (.ref 446) [.ref A,.ref S]) Q E s :=
  zu34.at { Zd with w,base,objs,A,S,cS,a0,vs0,outer,s,Q,E,r:={ Zd.r with a1,vs1,l0,l1 } } W ma0 hi0 ma1 hi1 hS0 hS1 hS2 hno tp B O OS hP hPT hPb hPf hret
end
section
variable {prog:Program} {w:World} {A:Around} {E:Value→Shared→Prop} {s:Shared} {Q:Value→Shared→Prop} {g:Heap} {L:Addr} {news:List (Addr×Obj)}
example:True:=by
  k_with "r268"=>(skip)
  k_with "r269"=>(skip)
  k_with "w omega"=>((fail_if_success k_extra "r285");k_extra "y0")
  trivial
theorem ne_arr1 {A2 P2 a2:Addr} (N:News g L s.heap news) (m1:(A1,tupO [.ref P1,.ref V])∈news) (p1:(P1,tupO [.ref a1])∈news) (r1:(a1,tupO [.int lo t,.int hi u])∈news)
    (m2:(A2,tupO [.ref P2,.ref V])∈news) (p2:(P2,tupO [.ref a2])∈news) (r2:(a2,tupO [.int lo t',.int hi u'])∈news) (mV:(V,listOf (List.toArray vsV) cV)∈news) (hI:IntsAre vsV nsV) (hu:A.units + 64 < cLine) (h:Q (.bool false) s) :
    wpAny (model prog w) A (compareOp .NotEq (.ref A1) (.ref A2)) Q E s:=by
  have rV:Reads s.heap (.ref V) (.list (nsV.map PyData.int)) [V]:=reads_newData (isList_of N mV) (ke_carried hI)
  have rA:∀ {A1 P1 a1:Addr} {t u:Tok},(A1,tupO [.ref P1,.ref V])∈news→(P1,tupO [.ref a1])∈news→(a1,tupO [.int lo t,.int hi u])∈news→Reads s.heap (.ref A1) (.tuple [.tuple [.tuple [.int lo,.int hi]],.list (nsV.map PyData.int)]) _:=fun m1 p1 r1 =>
    reads_tuple_at (N _ m1).1 rfl rfl (.cons (reads_tuple_at (N _ p1).1 rfl rfl (.cons (reads_tuple_at (N _ r1).1 rfl rfl (.cons (.int _ _) (.cons (.int _ _) .nil))) .nil)) (.cons rV .nil))
  have hs:SeqAt.shaped (.tuple [.tuple [.tuple [.int lo,.int hi]],.list (nsV.map PyData.int)])=true:=by simp [SeqAt.shaped,PyData.canLay0,PyData.canLayAll0,PyData.depth,PyData.depthAll,ke_canLayAll0,ke_depthAll]
  refine ne_dataH (rA m1 p1 r1) (rA m2 p2 r2) hs hs hu ?_
  simpa [PyData.eqv,PyData.eqvAll,ked_eqvAll] using h
theorem ne_arr2 {b1 A2 P2 a2 b2:Addr} {t1' u1':Tok} (N:News g L s.heap news) (m1:(A1,tupO [.ref P1,.ref V])∈news) (p1:(P1,tupO [.ref a1,.ref b1])∈news) (r1:(a1,tupO [.int lo t,.int hi u])∈news) (q1:(b1,tupO [.int lo1 t1,.int hi1 u1])∈news)
    (m2:(A2,tupO [.ref P2,.ref V])∈news) (p2:(P2,tupO [.ref a2,.ref b2])∈news) (r2:(a2,tupO [.int lo t',.int hi u'])∈news) (q2:(b2,tupO [.int lo1 t1',.int hi1 u1'])∈news) (mV:(V,listOf (List.toArray vsV) cV)∈news) (hI:IntsAre vsV nsV) (hu:A.units + 64 < cLine) (h:Q (.bool false) s) :
    wpAny (model prog w) A (compareOp .NotEq (.ref A1) (.ref A2)) Q E s:=by
  have rV:Reads s.heap (.ref V) (.list (nsV.map PyData.int)) [V]:=reads_newData (isList_of N mV) (ke_carried hI)
  have rA:∀ {A1 P1 a1 b1:Addr} {t u t1 u1:Tok},(A1,tupO [.ref P1,.ref V])∈news→(P1,tupO [.ref a1,.ref b1])∈news→(a1,tupO [.int lo t,.int hi u])∈news→(b1,tupO [.int lo1 t1,.int hi1 u1])∈news→Reads s.heap (.ref A1) (.tuple [.tuple [.tuple [.int lo,.int hi],.tuple [.int lo1,.int hi1]],.list (nsV.map PyData.int)]) _:=fun m1 p1 r1 q1 =>
    reads_tuple_at (N _ m1).1 rfl rfl (.cons (reads_tuple_at (N _ p1).1 rfl rfl (.cons (reads_tuple_at (N _ r1).1 rfl rfl (.cons (.int _ _) (.cons (.int _ _) .nil))) (.cons (reads_tuple_at (N _ q1).1 rfl rfl (.cons (.int _ _) (.cons (.int _ _) .nil))) .nil))) (.cons rV .nil))
  have hs:SeqAt.shaped (.tuple [.tuple [.tuple [.int lo,.int hi],.tuple [.int lo1,.int hi1]],.list (nsV.map PyData.int)])=true:=by simp [SeqAt.shaped,PyData.canLay0,PyData.canLayAll0,PyData.depth,PyData.depthAll,ke_canLayAll0,ke_depthAll]
  refine ne_dataH (rA m1 p1 r1 q1) (rA m2 p2 r2 q2) hs hs hu ?_
  simpa [PyData.eqv,PyData.eqvAll,ked_eqvAll] using h
theorem news_ne {a b:Addr} {o o':Obj} {h:Heap} (N:News g L h news) (ma:(a,o)∈news) (mb:(b,o')∈news) (hn:o.cls≠o'.cls):@Ne Nat a b:=fun z=>by
  have e1:=(N _ ma).1
  have e2:=(N _ mb).1
  rw [show a=b from z] at e1
  have e3:o=o':=Option.some.inj (e1.symm.trans e2)
  exact hn (by rw [e3])
theorem news_lt {a:Addr} (N:News g L h news) (ma:(a,o)∈news):@LT.lt Nat _ a h.objs.size:=Heap.lt_size (N _ ma).1
end
theorem OfH.useN {f:Addr} {okV:Heap→Value→Heap→Prop} (S:OfH w base n f vs objs okV flt) (hff:∀ sp,¬ flt sp)
    {g:Heap} 
    (hvs:vs'=vs) (hA:A.handled=none) (hfr:A.frames=some (env::outer)) (hd:A.depth≤900 - 6 * n) (hu:A.units≤9000 - 99 * n)
    (hm:∀ p∈objs,p∈news) (B:Below A₀ base outer g) (F:Fr g L s.heap m) (N:News g L s.heap news) (hf:env.frame=some L) (hk:env.scope.kind=.function)
    (h:∀ v h' tk,okV s.heap v h'→Fr g L h' m→News g L h' news→Q v { s with heap:=h',toks:=tk }) :
    wpAny (model PySem.Challenge.rw_nz0031_01.row.prog w) A (call (.ref f) vs') Q E s:=by
  subst hvs
  exact wpAny_ak hA hfr hd hu (S _ Q E s (below_at B F hf hk) (objs_of_news B N hf hm) (fun v h' tk o k=>h v h' tk o (fr_keep F k fun _ h=>nomatch h) (fun p hp=>⟨k _ _ (N p hp).1 (fun h=>nomatch h),(N p hp).2⟩))
    fun e dd sp h' tk o r ff fl=>(hff sp o).elim)
section
variable {w:World} {A A₀:Around} {env:Env} {base g:Heap} {s:Shared} {Q E:Value→Shared→Prop} {L:Addr} {m:Str→Option Value} {news objs:List (Addr×Obj)}
theorem args_use (S:DrawS w 18 439 mk 30 PArgs) 
    (hvs:vs'=mk fd) (hA:A.handled=none) (hfr:A.frames=some [env]) (hd:A.depth≤900 - 6 * 18) (hu:A.units≤9000 - 99 * 18)
    (W:Wd w base) (B:Below A₀ base [] g) (F:Fr g L s.heap m) (N:News g L s.heap news) (U:UpdF fd o news G) (hf:env.frame=some L) (hk:env.scope.kind=.function)
    (FO:FeedO w o D k) (hS:(fd == sysModules)=false) (C:CellsAt s.heap D) (h0:0≤k) (h1:k + 30≤100000) (hx:@LT.lt Nat _ (L + 1 + 1) s.heap.objs.size)
    (h:∀ S cS vs xs R V cV vsV nsV A D0 D1 vs0 vs1 h' tk o' k',ArgsV (args5 S vs cS V vsV cV A R D0 D1 vs0 vs1) R V vsV cV vs xs→0 < vs.length→vs.length≤4→IntsAre vsV nsV→vsV.length≤10→SetsL xs →
      Fr g L h' m→News g L h' ((S,listOf (List.toArray vs) cS)::(V,listOf (List.toArray vsV) cV)::(A,tupO [.ref R,.ref V])::(D0,tupO vs0)::(D1,tupO vs1)::G o')→(∀ p∈news,@LT.lt Nat _ p.1 S)→@LT.lt Nat _ (L + 1 + 1) S→@LT.lt Nat _ (L + 1 + 1) V→@LT.lt Nat _ (L + 1 + 1) A→@LT.lt Nat _ (L + 1 + 1) D0→@LT.lt Nat _ (L + 1 + 1) D1→FeedO w o' D k'→k≤k'→k'≤k + 30→Q (.ref S) { s with heap:=h',toks:=tk }) :
    wpAny (model PySem.Challenge.rw_nz0031_01.row.prog w) A (call (.ref 439) vs') Q E s:=by
  subst hvs
  have hm:=N _ (updF_mem U)
  have hB:=below_at (n:=18) B F hf hk
  have hb:=(objs_of_news B N hf (objs:=[(fd,o)]) (by intro p hp;rw [List.mem_singleton.mp hp];exact updF_mem U)) _ (.head _)
  refine wpAny_ak hA hfr hd hu (S _ base s Q E fd D o k W hB hm.1 FO hb.2.1 hb.2.2 hS C h0 h1 fun v h' tk o' k' hP hK ho' hF' l1 l2=>?_)
  obtain ⟨S9,cS,vs,xs,R,V,cV,vsV,nsV,A9,D0,D1,vs0,vs1,rfl,h5,hav,p1,p2,hi,hl,hs⟩:=hP
  have F':=fr_keep F hK fun a ha=>by rw [List.mem_singleton.mp ha];exact ⟨hm.2.2,hm.2.1⟩
  have N':=news_updF N U hK ho'
  have h51:=h5 _ (.head _)
  have h52:=h5 _ (.tail _ (.head _))
  have h53:=h5 _ (.tail _ (.tail _ (.head _)))
  have h54:=h5 _ (.tail _ (.tail _ (.tail _ (.head _))))
  have h55:=h5 _ (.tail _ (.tail _ (.tail _ (.tail _ (.head _)))))
  refine h S9 cS vs xs R V cV vsV nsV A9 D0 D1 vs0 vs1 h' tk o' k' hav p1 p2 hi (by rw [hi.length];exact hl) hs F'
    (news_new F (news_new F (news_new F (news_new F (news_new F N' h55.1 h55.2) h54.1 h54.2) h53.1 h53.2) h52.1 h52.2) h51.1 h51.2) (fun p hp=>Nat.lt_of_lt_of_le (news_lt N hp) h51.1)
    (Nat.lt_of_lt_of_le hx h51.1) (Nat.lt_of_lt_of_le hx h52.1) (Nat.lt_of_lt_of_le hx h53.1) (Nat.lt_of_lt_of_le hx h54.1) (Nat.lt_of_lt_of_le hx h55.1) hF' l1 l2
example:True:=by
  k_with "r212"=>(skip)
  k_with "r284"=>(skip)
  k_with "r183"=>(skip)
  k_with "r184"=>(skip)
  k_with "r185"=>(skip)
  k_with "r186"=>(skip)
  k_with "r283"=>(skip)
  k_with "r189"=>(skip)
  k_with "r278"=>(skip)
  k_with "r272"=>(skip)
  k_with "r274"=>(skip)
  k_with "r275"=>(skip)
  k_with "r276"=>(skip)
  trivial
theorem law_hcall {okV:Heap→Value→Heap→Prop} {c:Addr} {on:Obj} {ns:Str} {p:Arguments} (hm:Mono okV)
    (W:Wd w base) (B:Below A₀ base [] g) (N:News g L s.heap news) (hf:env.frame=some L) (hob:∀ p∈objs,p∈news)
    (hc:(c,kla_obj name qual p bd sc cl pm c' ctv)∈news)
    (hlam:lamLawE w=some (p,bd,sc)) (hla:cl.lookup (Str.ofString "some")=some ca) (hln:cl.lookup (Str.ofString "name")=some cn)
    (m1:(ca,oa)∈news) (m2:(cn,on)∈news) (hda:oa.data=.cell (some (.ref S))) (hdn:on.data=.cell (some (.str ns tn))) (hcr:s.heap.CodeRec (.ref c') qual)
    (hS:∀ ts,OfH w base 30 394 [.str ns tn,.ref S,.int 9 ts] objs okV flt) :
    ∀ env' L',env'.frame=some L'→s.heap.get? L'=none→RaiseAtH w (Ak 58 (env'::env::[])) base (env'::env::[]) s.heap (call (.ref c) []) (fun v h'=>okV s.heap v h') flt :=
  fun env' L' he hL=>law_call w (env'::env::[]) base s.heap W c c' ca cn S oa on ns tn name qual p bd sc cl pm ctv objs okV flt hm hlam hla hln
    (Objs.on (objs_of_news B N hf hob) (fun _ _ e=>e) hL he)
    (Objs.on (objs_of_news B N hf (fc hc (fc m1 (fc m2 (List.forall_mem_nil _))))) (fun _ _ e=>e) hL he) hda hdn hcr hS
variable {c V:Addr} {fdt:FuncData} {clv:Value} {dct:Option Addr} {sl:Array (Option Value)} {two:Bool} {xs:List Arg} {nv:Nat}
theorem hear_no (e:okIdx two xs nv=none)
    (hA:A.handled=none) (hfr:A.frames=some [env]) (hd:A.depth≤900 - 6 * 60) (hu:A.units≤9000 - 99 * 60)
    (W:Wd w base) (B:Below A₀ base [] g) (F:Fr g L s.heap m) (N:News g L s.heap news) (hf:env.frame=some L) (hk:env.scope.kind=.function)
    (hc:(c,(⟨clv,dct,.func fdt,sl⟩:Obj))∈news)
    (hcall:∀ env' L',env'.frame=some L'→s.heap.get? L'=none→RaiseAtH w (Ak 58 (env'::env::[])) base (env'::env::[]) s.heap (call (.ref c) []) (fun v h'=>∃ rs,okIdx two xs nv=some rs∧ArrNew s.heap v h' V rs) (fun sp=>okIdx two xs nv=none∧sp=9))
    (h:∀ tu t1 t2 h' tk,Fr g L h' m→News g L h' ((tu,tupO [.str (Str.ofString "fault") t1,.int 9 t2])::news)→Q (.ref tu) { s with heap:=h',toks:=tk }) :
    wpAny (model PySem.Challenge.rw_nz0031_01.row.prog w) A (call (.ref 415) [.ref c]) Q E s :=
  heardH_use hA hfr hd hu W B F N hf hk hc hcall (fun v h' _ f _ _=>by obtain ⟨rs,e2,_⟩:=f;rw [e] at e2;cases e2) (fun tu t1 t2 sp g' h' tk e r F' N' l B'=>by
    rw [e.2] at N'
    exact h tu t1 t2 h' tk (fr_back r F' F) (news_back r N'))
theorem hear_ar1 {lo hi:Int} (e:okIdx two xs nv=some [(lo,hi)])
    (hA:A.handled=none) (hfr:A.frames=some [env]) (hd:A.depth≤900 - 6 * 60) (hu:A.units≤9000 - 99 * 60)
    (W:Wd w base) (B:Below A₀ base [] g) (F:Fr g L s.heap m) (N:News g L s.heap news) (hf:env.frame=some L) (hk:env.scope.kind=.function)
    (hc:(c,(⟨clv,dct,.func fdt,sl⟩:Obj))∈news)
    (hcall:∀ env' L',env'.frame=some L'→s.heap.get? L'=none→RaiseAtH w (Ak 58 (env'::env::[])) base (env'::env::[]) s.heap (call (.ref c) []) (fun v h'=>∃ rs,okIdx two xs nv=some rs∧ArrNew s.heap v h' V rs) (fun sp=>okIdx two xs nv=none∧sp=9))
    (h:∀ A P a t u h' tk,Fr g L h' m→News g L h' ((A,tupO [.ref P,.ref V])::(P,tupO [.ref a])::(a,tupO [.int lo t,.int hi u])::news)→@LT.lt Nat _ L A→@LT.lt Nat _ L P→@LT.lt Nat _ L a→Q (.ref A) { s with heap:=h',toks:=tk }) :
    wpAny (model PySem.Challenge.rw_nz0031_01.row.prog w) A (call (.ref 415) [.ref c]) Q E s :=
  heardH_use hA hfr hd hu W B F N hf hk hc hcall (fun v h' tk f F' N'=>by
    obtain ⟨rs,e2,x⟩:=f
    rw [e] at e2
    cases e2
    obtain ⟨A9,P,a,t,u,rfl,N9,z1,z2,z3⟩:=arr_new1 F N' x
    exact h A9 P a t u h' tk F' N9 (Nat.lt_of_lt_of_le F.ns.lt z1) (Nat.lt_of_lt_of_le F.ns.lt z2) (Nat.lt_of_lt_of_le F.ns.lt z3)) (fun tu t1 t2 sp g' h' tk f _ _ _ _ _=>by rw [e] at f;cases f.1)
theorem hear_ar2 (e:okIdx two xs nv=some [(lo,hi),(lo1,hi1)])
    (hA:A.handled=none) (hfr:A.frames=some [env]) (hd:A.depth≤900 - 6 * 60) (hu:A.units≤9000 - 99 * 60)
    (W:Wd w base) (B:Below A₀ base [] g) (F:Fr g L s.heap m) (N:News g L s.heap news) (hf:env.frame=some L) (hk:env.scope.kind=.function)
    (hc:(c,(⟨clv,dct,.func fdt,sl⟩:Obj))∈news)
    (hcall:∀ env' L',env'.frame=some L'→s.heap.get? L'=none→RaiseAtH w (Ak 58 (env'::env::[])) base (env'::env::[]) s.heap (call (.ref c) []) (fun v h'=>∃ rs,okIdx two xs nv=some rs∧ArrNew s.heap v h' V rs) (fun sp=>okIdx two xs nv=none∧sp=9))
    (h:∀ A P a b t u t1 u1 h' tk,Fr g L h' m→News g L h' ((A,tupO [.ref P,.ref V])::(P,tupO [.ref a,.ref b])::(a,tupO [.int lo t,.int hi u])::(b,tupO [.int lo1 t1,.int hi1 u1])::news)→@LT.lt Nat _ L A→@LT.lt Nat _ L P→@LT.lt Nat _ L a→@LT.lt Nat _ L b→Q (.ref A) { s with heap:=h',toks:=tk }) :
    wpAny (model PySem.Challenge.rw_nz0031_01.row.prog w) A (call (.ref 415) [.ref c]) Q E s :=
  heardH_use hA hfr hd hu W B F N hf hk hc hcall (fun v h' tk f F' N'=>by
    obtain ⟨rs,e2,x⟩:=f
    rw [e] at e2
    cases e2
    obtain ⟨A9,P,a,b,t,u,t1,u1,rfl,N9,z1,z2,z3,z4⟩:=arr_new2 F N' x
    exact h A9 P a b t u t1 u1 h' tk F' N9 (Nat.lt_of_lt_of_le F.ns.lt z1) (Nat.lt_of_lt_of_le F.ns.lt z2) (Nat.lt_of_lt_of_le F.ns.lt z3) (Nat.lt_of_lt_of_le F.ns.lt z4)) (fun tu t1 t2 sp g' h' tk f _ _ _ _ _=>by rw [e] at f;cases f.1)
variable {f:Addr} {vs vs':List Value} {n:Nat}
theorem due_no (S:OfH w base n f vs objs (DueV two xs nv V) (fun _=>False)) (e:okIdx two xs nv=none)
    (hvs:vs'=vs) (hA:A.handled=none) (hfr:A.frames=some [env]) (hd:A.depth≤900 - 6 * n) (hu:A.units≤9000 - 99 * n)
    (hm:∀ p∈objs,p∈news) (B:Below A₀ base [] g) (F:Fr g L s.heap m) (N:News g L s.heap news) (hf:env.frame=some L) (hk:env.scope.kind=.function)
    (h:∀ h' tk,Fr g L h' m→News g L h' news→Q .none { s with heap:=h',toks:=tk }) :
    wpAny (model PySem.Challenge.rw_nz0031_01.row.prog w) A (call (.ref f) vs') Q E s :=
  S.useN (fun _ f=>f) hvs hA hfr hd hu hm B F N hf hk fun v h' tk o F' N'=>by
    rcases o with ⟨_,rfl⟩|⟨rs,e2,_⟩
    · exact h h' tk F' N'
    · rw [e] at e2;cases e2
theorem due_ar1 (S:OfH w base n f vs objs (DueV two xs nv V) (fun _=>False)) (e:okIdx two xs nv=some [(lo,hi)])
    (hvs:vs'=vs) (hA:A.handled=none) (hfr:A.frames=some [env]) (hd:A.depth≤900 - 6 * n) (hu:A.units≤9000 - 99 * n)
    (hm:∀ p∈objs,p∈news) (B:Below A₀ base [] g) (F:Fr g L s.heap m) (N:News g L s.heap news) (hf:env.frame=some L) (hk:env.scope.kind=.function)
    (h:∀ A P a t u h' tk,Fr g L h' m→News g L h' ((A,tupO [.ref P,.ref V])::(P,tupO [.ref a])::(a,tupO [.int lo t,.int hi u])::news)→@LT.lt Nat _ L A→@LT.lt Nat _ L P→@LT.lt Nat _ L a→Q (.ref A) { s with heap:=h',toks:=tk }) :
    wpAny (model PySem.Challenge.rw_nz0031_01.row.prog w) A (call (.ref f) vs') Q E s :=
  S.useN (fun _ f=>f) hvs hA hfr hd hu hm B F N hf hk fun v h' tk o F' N'=>by
    rcases o with ⟨e2,_⟩|⟨rs,e2,x⟩
    · rw [e] at e2;cases e2
    · rw [e] at e2
      cases e2
      obtain ⟨A9,P,a,t,u,rfl,N9,z1,z2,z3⟩:=arr_new1 F N' x
      exact h A9 P a t u h' tk F' N9 (Nat.lt_of_lt_of_le F.ns.lt z1) (Nat.lt_of_lt_of_le F.ns.lt z2) (Nat.lt_of_lt_of_le F.ns.lt z3)
theorem due_ar2 (S:OfH w base n f vs objs (DueV two xs nv V) (fun _=>False)) (e:okIdx two xs nv=some [(lo,hi),(lo1,hi1)])
    (hvs:vs'=vs) (hA:A.handled=none) (hfr:A.frames=some [env]) (hd:A.depth≤900 - 6 * n) (hu:A.units≤9000 - 99 * n)
    (hm:∀ p∈objs,p∈news) (B:Below A₀ base [] g) (F:Fr g L s.heap m) (N:News g L s.heap news) (hf:env.frame=some L) (hk:env.scope.kind=.function)
    (h:∀ A P a b t u t1 u1 h' tk,Fr g L h' m→News g L h' ((A,tupO [.ref P,.ref V])::(P,tupO [.ref a,.ref b])::(a,tupO [.int lo t,.int hi u])::(b,tupO [.int lo1 t1,.int hi1 u1])::news)→@LT.lt Nat _ L A→@LT.lt Nat _ L P→@LT.lt Nat _ L a→@LT.lt Nat _ L b→Q (.ref A) { s with heap:=h',toks:=tk }) :
    wpAny (model PySem.Challenge.rw_nz0031_01.row.prog w) A (call (.ref f) vs') Q E s :=
  S.useN (fun _ f=>f) hvs hA hfr hd hu hm B F N hf hk fun v h' tk o F' N'=>by
    rcases o with ⟨e2,_⟩|⟨rs,e2,x⟩
    · rw [e] at e2;cases e2
    · rw [e] at e2
      cases e2
      obtain ⟨A9,P,a,b,t,u,t1,u1,rfl,N9,z1,z2,z3,z4⟩:=arr_new2 F N' x
      exact h A9 P a b t u t1 u1 h' tk F' N9 (Nat.lt_of_lt_of_le F.ns.lt z1) (Nat.lt_of_lt_of_le F.ns.lt z2) (Nat.lt_of_lt_of_le F.ns.lt z3) (Nat.lt_of_lt_of_le F.ns.lt z4)
theorem idx_due {flt:Int→Prop} (S:OfH w base n f vs objs (fun h v h'=>∃ rs,okIdx two xs nv=some rs∧ArrNew h v h' V rs) flt) (hff:∀ sp,¬ flt sp):OfH w base n f vs objs (DueV two xs nv V) (fun _=>False) :=
  fun outer Q E s B O hret hflt=>S outer Q E s B O (fun v h' tk o k=>hret v h' tk (.inr o) k) (fun e dd sp h' tk o _ _ _=>(hff sp o).elim)
end
theorem cls_tl {ws:Array Value} {c:Nat}:(tupO vs).cls≠(listOf ws c).cls:=by
  intro h
  injection h with e
  exact absurd e (by decide)
theorem cls_tt:(tupO vs).cls≠(tabObj tp).cls:=by
  intro h;cases h
theorem cls_lt {ws:Array Value} {c:Nat}:(listOf ws c).cls≠(tabObj tp).cls:=by
  intro h;cases h
theorem tab_onQ {g:Heap} (D:tp=#[]∨TabD ln co q g c0 o0 tp) (F:Fr g L h m) (N:News g L h news) (U:UpdF T (tabObj tp) news G) (mc:(c0,o0)∈news) (hc:@Ne Nat c0 T)
    (N':News g L h' (G (tabObj tp'))) (T':TabQ ln co q h tp h' tp') :
    ∃ c1 o1,News g L h' ((c1,o1)::G (tabObj tp'))∧(tp'=#[]∨TabD ln co q g c1 o1 tp')∧∀ q,@Ne Nat c0 q→(∃ o,(q,o)∈news)→@Ne Nat c1 q:=by
  rcases T' with rfl|⟨e0,c',e',rc,hle⟩
  · obtain ⟨pre,post,eN,hG,h1,h2⟩:=U.split
    refine ⟨c0,o0,fun p hp=>?_,D,fun q hq _=>hq⟩
    rcases List.mem_cons.mp hp with e|hp
    · rw [e]
      refine N' _ ?_
      rw [hG]
      rw [eN] at mc
      rcases List.mem_append.mp mc with z|z
      · exact List.mem_append_left _ z
      · rcases List.mem_cons.mp z with z|z
        · exact absurd (congrArg Prod.fst z) hc
        · exact List.mem_append_right _ (.tail _ z)
    · exact N' p hp
  · obtain ⟨c1,o1,N1,D1,q1⟩:=tab_on D F N U mc hc (fun _ _ x=>x) (fun _ x=>x) N' ⟨c',e',rc,.inl ⟨e0,hle⟩⟩
    exact ⟨c1,o1,N1,.inr D1,q1⟩
section
variable {w:World} {A A₀:Around} {env:Env} {base g:Heap} {s:Shared} {Q E:Value→Shared→Prop} {L:Addr} {m:Str→Option Value} {news:List (Addr×Obj)} {tp:Array Value} {G:Obj→List (Addr×Obj)} {c0:Addr} {o0:Obj}
variable {A1 P a b V S a0 a1:Addr} {lo hi lo1 hi1:Int} {t u t1 u1:Tok} {vsV vs0 vs1:List Value} {nsV:List Int} {cV cS:Nat}
theorem told_use1 (hA:A.handled=none) (hfr:A.frames=some [env]) (hd:A.depth≤900 - 6 * 70) (hu:A.units≤9000 - 99 * 70)
    (W:Wd w base) (B:Below A₀ base [] g) (F:Fr g L s.heap m) (N:News g L s.heap news) (U:UpdF 441 (tabObj tp) news G) (hf:env.frame=some L) (hk:env.scope.kind=.function) (hT:tp=#[]∨TabD 471 22 qualT g c0 o0 tp) (mc:(c0,o0)∈news) (hc:@Ne Nat c0 441)
    (mA:(A1,tupO [.ref P,.ref V])∈news) (mP:(P,tupO [.ref a])∈news) (ma:(a,tupO [.int lo t,.int hi u])∈news) (mV:(V,listOf (List.toArray vsV) cV)∈news) (mS:(S,listOf (List.toArray [.ref a0]) cS)∈news) (m0:(a0,tupO vs0)∈news)
    (i0:IntsAre vs0 (intsFrom lo (hi + 1 - lo).toNat)) (b0:-30≤lo∧lo≤30) (b1:-30≤hi∧hi≤30) (hVS:@Ne Nat V S)
    (h:∀ h' tk tp' c1 o1,Fr g L h' m→News g L h' ((c1,o1)::G (tabObj tp'))→TabD 471 22 qualT g c1 o1 tp'→(∀ q,@Ne Nat c0 q→(∃ o,(q,o)∈news)→@Ne Nat c1 q)→Q (.bool true) { s with heap:=h',toks:=tk }) :
    wpAny (model PySem.Challenge.rw_nz0031_01.row.prog w) A (call (.ref 446) [.ref A1,.ref S]) Q E s:=by
  have mT:=updF_mem U
  have nT:=N _ mT
  have hb:=(objs_of_news B N hf (objs:=[(441,tabObj tp)]) (by intro p hp;rw [List.mem_singleton.mp hp];exact mT)) _ (.head _)
  have b0':-100≤lo∧lo≤100:=⟨by omega,by omega⟩
  have b1':-100≤hi∧hi≤100:=⟨by omega,by omega⟩
  have hno:∀ p∈[(A1,tupO [.ref P,.ref V]),(P,tupO [.ref a]),(a,tupO [.int lo t,.int hi u]),(V,listOf (List.toArray vsV) cV),(a0,tupO vs0)],p.1≠441∧p.1≠S :=
    fc ⟨news_ne N mA mT cls_tt,news_ne N mA mS cls_tl⟩ (fc ⟨news_ne N mP mT cls_tt,news_ne N mP mS cls_tl⟩ (fc ⟨news_ne N ma mT cls_tt,news_ne N ma mS cls_tl⟩ (fc ⟨news_ne N mV mT cls_lt,hVS⟩ (fc ⟨news_ne N m0 mT cls_tt,news_ne N m0 mS cls_tl⟩ (List.forall_mem_nil _)))))
  refine wpAny_ak hA hfr hd hu (told1 w base W [(A1,tupO [.ref P,.ref V]),(P,tupO [.ref a]),(a,tupO [.int lo t,.int hi u]),(V,listOf (List.toArray vsV) cV),(a0,tupO vs0)] A1 S cS a0 vs0 _ (by first|k_mem|simp) i0
    (fun tn ts=>iof1_0 w base W _ A1 P V a vsV cV lo hi t u tn ts 4 (by first|k_mem|simp) (by first|k_mem|simp) (by first|k_mem|simp) (by first|k_mem|simp) b0' b1')
    (fun tn ts=>iof1_1 w base W _ A1 P V a vsV cV lo hi t u tn ts 4 (by first|k_mem|simp) (by first|k_mem|simp) (by first|k_mem|simp) (by first|k_mem|simp) b0' b1')
    (fun tn ts=>iof1_2 w base W _ A1 P V a vsV cV lo hi t u tn ts 4 (by first|k_mem|simp) (by first|k_mem|simp) (by first|k_mem|simp) (by first|k_mem|simp) b0' b1')
    hno [env] s Q E tp (below_at B F hf hk) (objs_of_news B N hf (fc mA (fc mP (fc ma (fc mV (fc m0 (List.forall_mem_nil _)))))))
    (objs_of_news B N hf (fc mS (List.forall_mem_nil _))) nT.1 (tabD_l hT F N mc) hb.2.1 hb.2.2 fun h' tk tp' r hg T=>?_)
  obtain ⟨F',N'⟩:=reL F N hf U r hg
  obtain ⟨c1,o1,N1,D1,q1⟩:=tab_on hT F N U mc hc (fun _ _ x=>x) (fun _ x=>x) N' T
  exact h h' tk tp' c1 o1 F' N1 D1 q1
theorem told_use2 (hA:A.handled=none) (hfr:A.frames=some [env]) (hd:A.depth≤900 - 6 * 70) (hu:A.units≤9000 - 99 * 70)
    (W:Wd w base) (B:Below A₀ base [] g) (F:Fr g L s.heap m) (N:News g L s.heap news) (U:UpdF 441 (tabObj tp) news G) (hf:env.frame=some L) (hk:env.scope.kind=.function) (hT:tp=#[]∨TabD 471 22 qualT g c0 o0 tp) (mc:(c0,o0)∈news) (hc:@Ne Nat c0 441)
    (mA:(A1,tupO [.ref P,.ref V])∈news) (mP:(P,tupO [.ref a,.ref b])∈news) (ma:(a,tupO [.int lo t,.int hi u])∈news) (mb:(b,tupO [.int lo1 t1,.int hi1 u1])∈news) (mV:(V,listOf (List.toArray vsV) cV)∈news) (mS:(S,listOf (List.toArray [.ref a0,.ref a1]) cS)∈news) (m0:(a0,tupO vs0)∈news) (m1:(a1,tupO vs1)∈news)
    (i0:IntsAre vs0 (intsFrom lo (hi + 1 - lo).toNat)) (i1:IntsAre vs1 (intsFrom lo1 (hi1 + 1 - lo1).toNat)) (b0:-30≤lo∧lo≤30) (b1:-30≤hi∧hi≤30) (b2:-30≤lo1∧lo1≤30) (b3:-30≤hi1∧hi1≤30) (hVS:@Ne Nat V S)
    (h:∀ h' tk tp' c1 o1,Fr g L h' m→News g L h' ((c1,o1)::G (tabObj tp'))→TabD 471 22 qualT g c1 o1 tp'→(∀ q,@Ne Nat c0 q→(∃ o,(q,o)∈news)→@Ne Nat c1 q)→Q (.bool true) { s with heap:=h',toks:=tk }) :
    wpAny (model PySem.Challenge.rw_nz0031_01.row.prog w) A (call (.ref 446) [.ref A1,.ref S]) Q E s:=by
  have mT:=updF_mem U
  have nT:=N _ mT
  have hb:=(objs_of_news B N hf (objs:=[(441,tabObj tp)]) (by intro p hp;rw [List.mem_singleton.mp hp];exact mT)) _ (.head _)
  have b0':-100≤lo∧lo≤100:=⟨by omega,by omega⟩
  have b1':-100≤hi∧hi≤100:=⟨by omega,by omega⟩
  have b2':-100≤lo1∧lo1≤100:=⟨by omega,by omega⟩
  have b3':-100≤hi1∧hi1≤100:=⟨by omega,by omega⟩
  have hno:∀ p∈[(A1,tupO [.ref P,.ref V]),(P,tupO [.ref a,.ref b]),(a,tupO [.int lo t,.int hi u]),(b,tupO [.int lo1 t1,.int hi1 u1]),(V,listOf (List.toArray vsV) cV),(a0,tupO vs0),(a1,tupO vs1)],p.1≠441∧p.1≠S :=
    fc ⟨news_ne N mA mT cls_tt,news_ne N mA mS cls_tl⟩ (fc ⟨news_ne N mP mT cls_tt,news_ne N mP mS cls_tl⟩ (fc ⟨news_ne N ma mT cls_tt,news_ne N ma mS cls_tl⟩ (fc ⟨news_ne N mb mT cls_tt,news_ne N mb mS cls_tl⟩ (fc ⟨news_ne N mV mT cls_lt,hVS⟩ (fc ⟨news_ne N m0 mT cls_tt,news_ne N m0 mS cls_tl⟩ (fc ⟨news_ne N m1 mT cls_tt,news_ne N m1 mS cls_tl⟩ (List.forall_mem_nil _)))))))
  refine wpAny_ak hA hfr hd hu (told2 w base W [(A1,tupO [.ref P,.ref V]),(P,tupO [.ref a,.ref b]),(a,tupO [.int lo t,.int hi u]),(b,tupO [.int lo1 t1,.int hi1 u1]),(V,listOf (List.toArray vsV) cV),(a0,tupO vs0),(a1,tupO vs1)] A1 S cS a0 a1 vs0 vs1 _ _ (by first|k_mem|simp) i0 (by first|k_mem|simp) i1
    (fun tn ts=>iof2_0 w base W _ A1 P V a b vsV cV lo hi lo1 hi1 t u t1 u1 tn ts 4 (by first|k_mem|simp) (by first|k_mem|simp) (by first|k_mem|simp) (by first|k_mem|simp) (by first|k_mem|simp) b0' b1' b2' b3')
    (fun tn ts=>iof2_1 w base W _ A1 P V a b vsV cV lo hi lo1 hi1 t u t1 u1 tn ts 4 (by first|k_mem|simp) (by first|k_mem|simp) (by first|k_mem|simp) (by first|k_mem|simp) (by first|k_mem|simp) b0' b1' b2' b3')
    (fun tn ts=>iof2_2 w base W _ A1 P V a b vsV cV lo hi lo1 hi1 t u t1 u1 tn ts 4 (by first|k_mem|simp) (by first|k_mem|simp) (by first|k_mem|simp) (by first|k_mem|simp) (by first|k_mem|simp) b0' b1' b2' b3')
    hno [env] s Q E tp (below_at B F hf hk) (objs_of_news B N hf (fc mA (fc mP (fc ma (fc mb (fc mV (fc m0 (fc m1 (List.forall_mem_nil _)))))))))
    (objs_of_news B N hf (fc mS (List.forall_mem_nil _))) nT.1 (tabD_l hT F N mc) hb.2.1 hb.2.2 fun h' tk tp' r hg T=>?_)
  obtain ⟨F',N'⟩:=reL F N hf U r hg
  obtain ⟨c1,o1,N1,D1,q1⟩:=tab_on hT F N U mc hc (fun _ _ x=>x) (fun _ x=>x) N' T
  exact h h' tk tp' c1 o1 F' N1 D1 q1
theorem elr_use1 (hA:A.handled=none) (hfr:A.frames=some [env]) (hd:A.depth≤900 - 6 * 74) (hu:A.units≤9000 - 99 * 74)
    (W:Wd w base) (B:Below A₀ base [] g) (F:Fr g L s.heap m) (N:News g L s.heap news) (U:UpdF 448 (tabObj tp) news G) (hf:env.frame=some L) (hk:env.scope.kind=.function) (hT:tp=#[]∨TabD 476 22 qualA g c0 o0 tp) (mc:(c0,o0)∈news) (hc:@Ne Nat c0 448)
    (mA:(A1,tupO [.ref P,.ref V])∈news) (mP:(P,tupO [.ref a])∈news) (ma:(a,tupO [.int lo t,.int hi u])∈news) (mV:(V,listOf (List.toArray vsV) cV)∈news) (mS:(S,listOf (List.toArray [.ref a0]) cS)∈news) (m0:(a0,tupO vs0)∈news)
    (i0:IntsAre vs0 (intsFrom lo (hi + 1 - lo).toNat)) (hI:IntsAre vsV nsV) (hVl:vsV.length≤10) (hV2:(vsV.length:Int)=hi - lo + 1) (b0:-30≤lo∧lo≤30) (b1:-30≤hi∧hi≤30) (hVS:@Ne Nat V S)
    (h:∀ h' tk tp' c1 o1,Fr g L h' m→News g L h' ((c1,o1)::G (tabObj tp'))→(tp'=#[]∨TabD 476 22 qualA g c1 o1 tp')→(∀ q,@Ne Nat c0 q→(∃ o,(q,o)∈news)→@Ne Nat c1 q)→Q (.bool true) { s with heap:=h',toks:=tk }) :
    wpAny (model PySem.Challenge.rw_nz0031_01.row.prog w) A (call (.ref 458) [.ref A1,.ref S]) Q E s:=by
  have mT:=updF_mem U
  have nT:=N _ mT
  have hb:=(objs_of_news B N hf (objs:=[(448,tabObj tp)]) (by intro p hp;rw [List.mem_singleton.mp hp];exact mT)) _ (.head _)
  have hno:∀ p∈[(A1,tupO [.ref P,.ref V]),(P,tupO [.ref a]),(a,tupO [.int lo t,.int hi u]),(a0,tupO vs0)],p.1≠448∧p.1≠S∧p.1≠V :=
    fc ⟨news_ne N mA mT cls_tt,news_ne N mA mS cls_tl,news_ne N mA mV cls_tl⟩ (fc ⟨news_ne N mP mT cls_tt,news_ne N mP mS cls_tl,news_ne N mP mV cls_tl⟩ (fc ⟨news_ne N ma mT cls_tt,news_ne N ma mS cls_tl,news_ne N ma mV cls_tl⟩ (fc ⟨news_ne N m0 mT cls_tt,news_ne N m0 mS cls_tl,news_ne N m0 mV cls_tl⟩ (List.forall_mem_nil _))))
  refine wpAny_ak hA hfr hd hu (elR1 w base W [(A1,tupO [.ref P,.ref V]),(P,tupO [.ref a]),(a,tupO [.int lo t,.int hi u]),(a0,tupO vs0)] A1 P V S a a0 cS cV vsV vs0 nsV lo hi t u (by first|k_mem|simp) (by first|k_mem|simp) (by first|k_mem|simp) (by first|k_mem|simp) i0 hI (by omega) hV2 b0 b1
    hno (Ne.symm hVS) [env] s Q E tp (below_at B F hf hk) (objs_of_news B N hf (fc mA (fc mP (fc ma (fc m0 (List.forall_mem_nil _))))))
    (objs_of_news B N hf (fc mS (fc mV (List.forall_mem_nil _)))) nT.1 (tabD_l hT F N mc) hb.2.1 hb.2.2 fun h' tk tp' r hg T=>?_)
  obtain ⟨F',N'⟩:=reL F N hf U r hg
  obtain ⟨c1,o1,N1,D1,q1⟩:=tab_onQ hT F N U mc hc N' T
  exact h h' tk tp' c1 o1 F' N1 D1 q1
theorem elr_use2 (hA:A.handled=none) (hfr:A.frames=some [env]) (hd:A.depth≤900 - 6 * 74) (hu:A.units≤9000 - 99 * 74)
    (W:Wd w base) (B:Below A₀ base [] g) (F:Fr g L s.heap m) (N:News g L s.heap news) (U:UpdF 448 (tabObj tp) news G) (hf:env.frame=some L) (hk:env.scope.kind=.function) (hT:tp=#[]∨TabD 476 22 qualA g c0 o0 tp) (mc:(c0,o0)∈news) (hc:@Ne Nat c0 448)
    (mA:(A1,tupO [.ref P,.ref V])∈news) (mP:(P,tupO [.ref a,.ref b])∈news) (ma:(a,tupO [.int lo t,.int hi u])∈news) (mb:(b,tupO [.int lo1 t1,.int hi1 u1])∈news) (mV:(V,listOf (List.toArray vsV) cV)∈news) (mS:(S,listOf (List.toArray [.ref a0,.ref a1]) cS)∈news) (m0:(a0,tupO vs0)∈news) (m1:(a1,tupO vs1)∈news)
    (i0:IntsAre vs0 (intsFrom lo (hi + 1 - lo).toNat)) (i1:IntsAre vs1 (intsFrom lo1 (hi1 + 1 - lo1).toNat)) (hI:IntsAre vsV nsV) (hVl:vsV.length≤10) (hV2:(vsV.length:Int)=(hi - lo + 1) * (hi1 - lo1 + 1)) (b0:-30≤lo∧lo≤30) (b1:-30≤hi∧hi≤30) (b2:-30≤lo1∧lo1≤30) (b3:-30≤hi1∧hi1≤30) (w0:0≤hi - lo + 1∧hi - lo + 1≤10) (w1:0≤hi1 - lo1 + 1∧hi1 - lo1 + 1≤10) (hVS:@Ne Nat V S)
    (h:∀ h' tk tp' c1 o1,Fr g L h' m→News g L h' ((c1,o1)::G (tabObj tp'))→(tp'=#[]∨TabD 476 22 qualA g c1 o1 tp')→(∀ q,@Ne Nat c0 q→(∃ o,(q,o)∈news)→@Ne Nat c1 q)→Q (.bool true) { s with heap:=h',toks:=tk }) :
    wpAny (model PySem.Challenge.rw_nz0031_01.row.prog w) A (call (.ref 458) [.ref A1,.ref S]) Q E s:=by
  have mT:=updF_mem U
  have nT:=N _ mT
  have hb:=(objs_of_news B N hf (objs:=[(448,tabObj tp)]) (by intro p hp;rw [List.mem_singleton.mp hp];exact mT)) _ (.head _)
  have hno:∀ p∈[(A1,tupO [.ref P,.ref V]),(P,tupO [.ref a,.ref b]),(a,tupO [.int lo t,.int hi u]),(b,tupO [.int lo1 t1,.int hi1 u1]),(a0,tupO vs0),(a1,tupO vs1)],p.1≠448∧p.1≠S∧p.1≠V :=
    fc ⟨news_ne N mA mT cls_tt,news_ne N mA mS cls_tl,news_ne N mA mV cls_tl⟩ (fc ⟨news_ne N mP mT cls_tt,news_ne N mP mS cls_tl,news_ne N mP mV cls_tl⟩ (fc ⟨news_ne N ma mT cls_tt,news_ne N ma mS cls_tl,news_ne N ma mV cls_tl⟩ (fc ⟨news_ne N mb mT cls_tt,news_ne N mb mS cls_tl,news_ne N mb mV cls_tl⟩ (fc ⟨news_ne N m0 mT cls_tt,news_ne N m0 mS cls_tl,news_ne N m0 mV cls_tl⟩ (fc ⟨news_ne N m1 mT cls_tt,news_ne N m1 mS cls_tl,news_ne N m1 mV cls_tl⟩ (List.forall_mem_nil _))))))
  refine wpAny_ak hA hfr hd hu (elR2 w base W [(A1,tupO [.ref P,.ref V]),(P,tupO [.ref a,.ref b]),(a,tupO [.int lo t,.int hi u]),(b,tupO [.int lo1 t1,.int hi1 u1]),(a0,tupO vs0),(a1,tupO vs1)] A1 P V S a b a0 a1 cS cV vsV vs0 vs1 nsV lo hi lo1 hi1 t u t1 u1 (by first|k_mem|simp) (by first|k_mem|simp) (by first|k_mem|simp) (by first|k_mem|simp) (by first|k_mem|simp) (by first|k_mem|simp) i0 i1 hI (by omega) hV2 b0 b1 b2 b3 w0 w1
    hno (Ne.symm hVS) [env] s Q E tp (below_at B F hf hk) (objs_of_news B N hf (fc mA (fc mP (fc ma (fc mb (fc m0 (fc m1 (List.forall_mem_nil _))))))))
    (objs_of_news B N hf (fc mS (fc mV (List.forall_mem_nil _)))) nT.1 (tabD_l hT F N mc) hb.2.1 hb.2.2 fun h' tk tp' r hg T=>?_)
  obtain ⟨F',N'⟩:=reL F N hf U r hg
  obtain ⟨c1,o1,N1,D1,q1⟩:=tab_onQ hT F N U mc hc N' T
  exact h h' tk tp' c1 o1 F' N1 D1 q1
end
theorem cne_on {l:List Addr} (h:CNe c0 l) (q:∀ q,@Ne Nat c0 q→(∃ o,(q,o)∈news)→@Ne Nat c1 q) (m:∀ q∈l,∃ o,(q,o)∈news):CNe c1 l:=fun a ha=>q a (h a ha) (m a ha)
theorem CNe.a {c:Addr} (h:CNe c (tgs fd It L)):@Ne Nat c 441:=h _ (.head _)
theorem CNe.b {c:Addr} (h:CNe c (tgs fd It L)):@Ne Nat c 448:=h _ (.tail _ (.head _))
theorem CNe.c {c:Addr} (h:CNe c (tgs fd It L)):@Ne Nat c 460:=h _ (.tail _ (.tail _ (.head _)))
theorem CNe.d {c:Addr} (h:CNe c (tgs fd It L)):@Ne Nat c fd:=h _ (.tail _ (.tail _ (.tail _ (.head _))))
theorem CNe.e {c:Addr} (h:CNe c (tgs fd It L)):@Ne Nat c It:=h _ (.tail _ (.tail _ (.tail _ (.tail _ (.head _)))))
theorem CNe.f {c:Addr} (h:CNe c (tgs fd It L)):@Ne Nat c (L + 1 + 1):=h _ (.tail _ (.tail _ (.tail _ (.tail _ (.tail _ (.head _))))))
theorem CNe.g {c:Addr} (h:CNe c (tgs fd It L)):@Ne Nat c (L + 1):=h _ (.tail _ (.tail _ (.tail _ (.tail _ (.tail _ (.tail _ (.head _)))))))
theorem lapJ_of {g:Heap} {ob:Obj} {K:Int} {s0:Shared} {va vb:Option Value} {tp1 tp2 tp3:Array Value} {c2 c3:Addr} {o1 o2 o3:Obj} (F:Fr g L h m) (hF:FeedIs m fd) (N:News g L h news) (hs:∀ p∈lapN L fd It D o oI oD ob oa tp1 tp2 tp3 c1 c2 c3 o1 o2 o3,p∈news)
    (FO:FeedO w o D k) (k0:0≤k) (k1:k≤K) (da:oa.data=.cell va) (db:ob.data=.cell vb) (t1:T1 g c1 o1 tp1) (t2:T2 g c2 o2 tp2) (t3:T3 g c3 o3 tp3) (n1:CNe c1 (tgs fd It L)) (n2:CNe c2 (tgs fd It L)) (n3:CNe c3 (tgs fd It L)):LapJ w g L fd It D oI oD K s0 { s0 with heap:=h,toks:=tk } :=
  ⟨h,tk,m,o,k,ob,oa,va,vb,tp1,tp2,tp3,c1,c2,c3,o1,o2,o3,rfl,F,hF,fun p hp=>N p (hs p hp),FO,k0,k1,da,db,t1,t2,t3,n1,n2,n3⟩
theorem argsV_sa {a:Addr} {c:Nat} (ma:(a,tupO vs)∈objs) (hi:IntsAre vs l) (hl:l.length≤20) (mA:(A1,tupO [.ref R,.ref V])∈objs) (mV:(V,listOf vsV.toArray c)∈objs):ArgsV objs R V vsV c [.ref a,.ref A1] [.set l,.arr] :=
  ⟨rfl,fun i v x hv hx=>by
    match i with
    | 0=>cases hv;cases hx;exact ⟨a,vs,rfl,ma,hi,hl⟩
    | 1=>cases hv;cases hx;exact ⟨A1,rfl,mA,mV⟩
    | i + 2=>cases hv⟩
theorem argsV_ssa {a b:Addr} {c:Nat} (ma:(a,tupO vs)∈objs) (hi:IntsAre vs l) (hl:l.length≤20) (mb:(b,tupO vs')∈objs) (hi':IntsAre vs' l') (hl':l'.length≤20) (mA:(A1,tupO [.ref R,.ref V])∈objs) (mV:(V,listOf vsV.toArray c)∈objs):ArgsV objs R V vsV c [.ref a,.ref b,.ref A1] [.set l,.set l',.arr] :=
  ⟨rfl,fun i v x hv hx=>by
    match i with
    | 0=>cases hv;cases hx;exact ⟨a,vs,rfl,ma,hi,hl⟩
    | 1=>cases hv;cases hx;exact ⟨b,vs',rfl,mb,hi',hl'⟩
    | 2=>cases hv;cases hx;exact ⟨A1,rfl,mA,mV⟩
    | i + 3=>cases hv⟩
section
variable {w:World} {A A₀:Around} {env:Env} {base g:Heap} {s:Shared} {Q E:Value→Shared→Prop} {L:Addr} {m:Str→Option Value} {news:List (Addr×Obj)}
variable {A1 P V S a0 a1:Addr} {lo hi lo1 hi1:Int} {vsV vs0 vs1:List Value} {cV cS:Nat} {l l':List Int} {tn ts:Tok}
theorem idx1_use (hA:A.handled=none) (hfr:A.frames=some [env]) (hd:A.depth≤900 - 6 * 30) (hu:A.units≤9000 - 99 * 30)
    (W:Wd w base) (B:Below A₀ base [] g) (F:Fr g L s.heap m) (N:News g L s.heap news) (hf:env.frame=some L) (hk:env.scope.kind=.function)
    (mS:(S,listOf (List.toArray [.ref a0,.ref A1]) cS)∈news) (m0:(a0,tupO vs0)∈news) (i0:IntsAre vs0 l) (hl:l.length≤20) (mA:(A1,tupO [.ref P,.ref V])∈news) (mV:(V,listOf (List.toArray vsV) cV)∈news) (hV:vsV.length≤10) (e:okIdx false [.set l,.arr] vsV.length=some [(lo,hi)])
    (h:∀ A P a t u h' tk,Fr g L h' m→News g L h' ((A,tupO [.ref P,.ref V])::(P,tupO [.ref a])::(a,tupO [.int lo t,.int hi u])::news)→@LT.lt Nat _ L A→@LT.lt Nat _ L P→@LT.lt Nat _ L a→Q (.ref A) { s with heap:=h',toks:=tk }) :
    wpAny (model PySem.Challenge.rw_nz0031_01.row.prog w) A (call (.ref 394) [.str (Str.ofString "array1d") tn,.ref S,.int 9 ts]) Q E s :=
  due_ar1 (idx_due (indexed1 w base W [(S,listOf (List.toArray [.ref a0,.ref A1]) cS),(a0,tupO vs0),(A1,tupO [.ref P,.ref V]),(V,listOf (List.toArray vsV) cV)] P V S vsV [.ref a0,.ref A1] [.set l,.arr] cV cS tn ts 9 (by first|k_mem|simp) (by first|k_mem|simp) (by omega)
      (argsV_sa (by first|k_mem|simp) i0 hl (by first|k_mem|simp) (by first|k_mem|simp)) (by first|k_mem|simp) (by first|k_mem|simp)) (fun sp f=>by rw [e] at f;cases f.1)) e rfl hA hfr hd hu
    (fc mS (fc m0 (fc mA (fc mV (List.forall_mem_nil _))))) B F N hf hk h
theorem idx2_use (hA:A.handled=none) (hfr:A.frames=some [env]) (hd:A.depth≤900 - 6 * 30) (hu:A.units≤9000 - 99 * 30)
    (W:Wd w base) (B:Below A₀ base [] g) (F:Fr g L s.heap m) (N:News g L s.heap news) (hf:env.frame=some L) (hk:env.scope.kind=.function)
    (mS:(S,listOf (List.toArray [.ref a0,.ref a1,.ref A1]) cS)∈news) (m0:(a0,tupO vs0)∈news) (i0:IntsAre vs0 l) (hl:l.length≤20) (m1:(a1,tupO vs1)∈news) (i1:IntsAre vs1 l') (hl':l'.length≤20) (mA:(A1,tupO [.ref P,.ref V])∈news) (mV:(V,listOf (List.toArray vsV) cV)∈news) (hV:vsV.length≤10) (e:okIdx true [.set l,.set l',.arr] vsV.length=some [(lo,hi),(lo1,hi1)])
    (h:∀ A P a b t u t1 u1 h' tk,Fr g L h' m→News g L h' ((A,tupO [.ref P,.ref V])::(P,tupO [.ref a,.ref b])::(a,tupO [.int lo t,.int hi u])::(b,tupO [.int lo1 t1,.int hi1 u1])::news)→@LT.lt Nat _ L A→@LT.lt Nat _ L P→@LT.lt Nat _ L a→@LT.lt Nat _ L b→Q (.ref A) { s with heap:=h',toks:=tk }) :
    wpAny (model PySem.Challenge.rw_nz0031_01.row.prog w) A (call (.ref 394) [.str (Str.ofString "array2d") tn,.ref S,.int 9 ts]) Q E s :=
  due_ar2 (idx_due (indexed2 w base W [(S,listOf (List.toArray [.ref a0,.ref a1,.ref A1]) cS),(a0,tupO vs0),(a1,tupO vs1),(A1,tupO [.ref P,.ref V]),(V,listOf (List.toArray vsV) cV)] P V S vsV [.ref a0,.ref a1,.ref A1] [.set l,.set l',.arr] cV cS tn ts 9 (by first|k_mem|simp) (by first|k_mem|simp) (by omega)
      (argsV_ssa (by first|k_mem|simp) i0 hl (by first|k_mem|simp) i1 hl' (by first|k_mem|simp) (by first|k_mem|simp)) (by first|k_mem|simp) (by first|k_mem|simp)) (fun sp f=>by rw [e] at f;cases f.1)) e rfl hA hfr hd hu
    (fc mS (fc m0 (fc m1 (fc mA (fc mV (List.forall_mem_nil _)))))) B F N hf hk h
end
section
theorem rowI (h:IntsAre vs (intsFrom 1 ((n:Int) + 1 - 1).toNat)):IntsAre vs (intsFrom 1 n):=by
  rw [show ((n:Int) + 1 - 1).toNat=n by omega] at h
  exact h
example:True:=by
  k_with "r259"=>(skip)
  k_with "w k_lt $h:ident"=>((fail_if_success k_extra "r286");k_extra "y40")
  k_with "w k_ne"=>((fail_if_success k_extra "r287");k_extra "y41")
  k_with "w callWith ref"=>((fail_if_success k_extra "r288");k_extra "y42")
  k_with "w leaving ref"=>((fail_if_success k_extra "r289");k_extra "y11")
  k_with "w exec Raise some none"=>((fail_if_success k_extra "r290");k_extra "y12")
  k_with "w Exists"=>((fail_if_success k_extra "r291");k_extra "y13")
  k_with "w subscriptTail Name Constant ref int"=>((fail_if_success k_extra "r292");k_extra "y15")
  k_with "w eval Call"=>((fail_if_success k_extra "r293");k_extra "y24")
  k_with "y162"=>(((with_reducible rename LM _ _ _ _=>hE9);first|exact rfl|exact hE9.1|exact hE9.2.1|exact hE9.2.2))
  k_with "m nv"=>((fail_if_success k_extra "r294");k_extra "y162")
  k_with "y163"=>((k_here;(with_reducible show wpAny _ _ (subscriptTail _ (PySem.Expr.Slice none _ none _) (Value.ref _) (Value.ref _)) _ _ _);k_dflt (refine' slice_init ?F_ ?N_ ?m_ ?l_ ?z_ ?_ ?s_ ?t_;(case F_|N_=>k_asm);(case m_=>k_mem);(case l_|z_=>exact Nat.le_of_ble_eq_true rfl);(case s_=>with_unfolding_all rfl);(case t_=>kmk_pure));intro D' h' F' N' l1;(try dsimp only);(try simp only [List.dropLast_cons_cons,List.dropLast_singleton] at N');(try k_lt l1)))
  k_with "w subscriptTail Name Slice ref ref"=>((fail_if_success k_extra "r295");k_extra "y163")
  k_with "y164"=>((k_here;k_dflt (refine' len_listZ ?N_ ?m_ ?l_ ?_;(case N_=>k_asm);(case m_=>k_mem);(case l_=>omega);k_whole)))
  k_with "w call builtin:len"=>((fail_if_success k_extra "r296");k_extra "y164")
  k_with "y165"=>((k_here;(rename IsRange _ _ _ _ _ _ _ _=>hrg);k_dflt (refine' tuple_rangeL ?hh_ ?F_ ?N_ hrg ?a_ ?b_ ?_;(case hh_=>exact rfl);(case F_|N_=>k_asm);(case a_|b_=>omega);k_whole);intro D' vs' h' tk' F' N' i' l1 lL';(try dsimp only);(try k_lt l1);(have i':=rowI i')))
  k_with "w call type:tuple"=>((fail_if_success k_extra "r297");k_extra "y165")
  k_with "y166"=>((k_here;k_dflt (first
  | (refine' ne_arr1 ?N_ ?m1_ ?p1_ ?r1_ ?m2_ ?p2_ ?r2_ ?mV_ ?hI_ ?u_ ?_;(case N_=>k_asm);(case m1_|m2_|p1_|p2_|r1_|r2_|mV_=>k_mem);(case hI_=>assumption);(case u_=>exact Nat.le_of_ble_eq_true rfl);k_whole)
  | (refine' ne_arr2 ?N_ ?m1_ ?p1_ ?r1_ ?q1_ ?m2_ ?p2_ ?r2_ ?q2_ ?mV_ ?hI_ ?u_ ?_;(case N_=>k_asm);(case m1_|m2_|p1_|p2_|r1_|q1_|r2_|q2_|mV_=>k_mem);(case hI_=>assumption);(case u_=>exact Nat.le_of_ble_eq_true rfl);k_whole))))
  k_with "w compareOp NotEq ref ref"=>((fail_if_success k_extra "r298");k_extra "y166")
  k_with "y167"=>(((case hd_|hu_=>exact Nat.le_of_ble_eq_true rfl);(case W_|B_|F_|N_=>k_asm)))
  k_with "m usL"=>(k_extra "y167")
  k_with "m exs"=>(k_extra "y132")
  k_with "y168"=>((k_here;k_dflt (first
  | (refine' idx1_use rfl rfl ?hd_ ?hu_ ?W_ ?B_ ?F_ ?N_ rfl rfl ?mS_ ?m0_ ?i0_ ?hl_ ?mA_ ?mV_ ?hV_ ?e_ ?_;k_extra "m usL";(case mS_|m0_|mA_|mV_=>k_mem);(case i0_=>assumption);(case hl_=>first|assumption|(rw [intsFrom_len];omega));(case hV_=>assumption);(case e_=>first|assumption|exact row_ok);k_whole;intro A' P' a' t' u' h' tk' F' N' l1' l2' l3';(try dsimp only))
  | (refine' idx2_use rfl rfl ?hd_ ?hu_ ?W_ ?B_ ?F_ ?N_ rfl rfl ?mS_ ?m0_ ?i0_ ?hl_ ?m1_ ?i1_ ?hl'_ ?mA_ ?mV_ ?hV_ ?e_ ?_;k_extra "m usL";(case mS_|m0_|m1_|mA_|mV_=>k_mem);(case i0_|i1_|hl_|hl'_|hV_|e_=>assumption);k_whole;intro A' P' a' b' t' u' t1' u1' h' tk' F' N' l1' l2' l3' l4';(try dsimp only))
  | (refine' told_use1 rfl rfl ?hd_ ?hu_ ?W_ ?B_ ?F_ ?N_ ?U_ rfl rfl ?hT_ ?mc_ ?hc_ ?mA_ ?mP_ ?ma_ ?mV_ ?mS_ ?m0_ ?i0_ ?b0_ ?b1_ ?hVS_ ?_;k_extra "m usL";(case U_=>k_updF);(case hT_=>assumption);(case mc_=>k_mem);(case hc_=>k_ne);(case mA_|mP_|ma_|mV_|mS_|m0_=>k_mem);(case i0_|b0_|b1_=>assumption);(case hVS_=>k_ne);k_whole;intro h' tk' tp' c' o' F' N' D' q';(try dsimp only);(have z':=cne_on (by assumption) q' (by k_extra "m exs"));(have z1':=CNe.b z');clear q';(try dsimp only at N');(have D':=Or.inr (a:=tp'=#[]) D'))
  | (refine' elr_use1 rfl rfl ?hd_ ?hu_ ?W_ ?B_ ?F_ ?N_ ?U_ rfl rfl ?hT_ ?mc_ ?hc_ ?mA_ ?mP_ ?ma_ ?mV_ ?mS_ ?m0_ ?i0_ ?hI_ ?hVl_ ?hV2_ ?b0_ ?b1_ ?hVS_ ?_;k_extra "m usL";(case U_=>k_updF);(case hT_=>assumption);(case mc_=>k_mem);(case hc_=>k_ne);(case mA_|mP_|ma_|mV_|mS_|m0_=>k_mem);(case i0_|hI_|hVl_|hV2_|b0_|b1_=>assumption);(case hVS_=>k_ne);k_whole;intro h' tk' tp' c' o' F' N' D' q';(try dsimp only);(have z':=cne_on (by assumption) q' (by k_extra "m exs"));clear q';(try dsimp only at N'))
  )))
  k_with "w call ref"=>((fail_if_success k_extra "r301");k_extra "y168")
  trivial
namespace Z.Z6
theorem lap_if1_core:lap_if1_P Z.w Z.base Z.g Z.L Z.fd Z.It Z.D Z.oI Z.oD Z.K Z.s Z.Z6.Q Z.E Z.m Z.o Z.ob Z.oa Z.k Z.tp1 Z.tp2 Z.tp3 Z.c1 Z.c2 Z.c3 Z.o1 Z.o2 Z.o3 Z.S Z.V Z.A0 Z.R0 Z.a0 Z.Ad Z.Pd Z.rd Z.At Z.Pt Z.rt Z.cS Z.cV Z.vsV Z.vs0 Z.nsV Z.lo Z.hi Z.t1 Z.u1 Z.t2 Z.u2 Z.tn:=by
  intro W B st sc hb f1 f2 f3 f4 F hE N FO k0 k1 da db t1' t2' t3' n1 n2 n3 lS lV lA la lAd lPd lrd lAt lPt lrt hI hVl i0 hl0 e hV2 b0 b1 h
  have hb2:some (_,_)=some (st,sc):=hb
  clear hb
  cases hb2
  have T:=W.top
  obtain ⟨p,loose,mean,mg,mb,T⟩:=T
  have T:=T.keeps B.stays
  have X:=W.K.keeps B.stays
  have HC0:CodeHd base 464 460:=codeHd_of_K W.K (by kernel_rfl)
  have HC:=HC0.keeps B.stays
  have z11:=n1.a
  have z12:=n1.b
  have z21:=n2.a
  have z22:=n2.b
  have z31:=n3.a
  have z32:=n3.b
  k_extra "m fill"
  w_strict (
    (try k_fold)
    k_steps
    all_goals (repeat (first|k_unfold|dsimp only))
    all_goals first
      | (refine' h _ (lapJ_of ?F_ ?fd_ ?N_ ?hs_ ?FO_ ?k0_ ?k1_ ?da_ ?db_ ?t1_ ?t2_ ?t3_ ?n1_ ?n2_ ?n3_);(case F_|N_=>k_asm);(case t1_|t2_|t3_|n1_|n2_|n3_=>assumption);(case hs_=>k_extra "m mems");(case fd_=>(rename LM _ _ _ _=>hE8;exact hE8.1));(case FO_|k0_|k1_|da_|db_=>assumption)))
end Z.Z6
end
section
example:True:=by
  k_with "r301"=>(skip)
  k_with "y169"=>((k_here;k_dflt (first
  | (refine' idx1_use rfl rfl ?hd_ ?hu_ ?W_ ?B_ ?F_ ?N_ rfl rfl ?mS_ ?m0_ ?i0_ ?hl_ ?mA_ ?mV_ ?hV_ ?e_ ?_;k_extra "m usL";(case mS_|m0_|mA_|mV_=>k_mem);(case i0_=>assumption);(case hl_=>first|assumption|(rw [intsFrom_len];omega));(case hV_=>assumption);(case e_=>first|assumption|exact row_ok);k_whole;intro A' P' a' t' u' h' tk' F' N' l1' l2' l3';(try dsimp only))
  | (refine' idx2_use rfl rfl ?hd_ ?hu_ ?W_ ?B_ ?F_ ?N_ rfl rfl ?mS_ ?m0_ ?i0_ ?hl_ ?m1_ ?i1_ ?hl'_ ?mA_ ?mV_ ?hV_ ?e_ ?_;k_extra "m usL";(case mS_|m0_|m1_|mA_|mV_=>k_mem);(case i0_|i1_|hl_|hl'_|hV_|e_=>assumption);k_whole;intro A' P' a' b' t' u' t1' u1' h' tk' F' N' l1' l2' l3' l4';(try dsimp only))
  | (refine' told_use2 rfl rfl ?hd_ ?hu_ ?W_ ?B_ ?F_ ?N_ ?U_ rfl rfl ?hT_ ?mc_ ?hc_ ?mA_ ?mP_ ?ma_ ?mb_ ?mV_ ?mS_ ?m0_ ?m1_ ?i0_ ?i1_ ?b0_ ?b1_ ?b2_ ?b3_ ?hVS_ ?_;k_extra "m usL";(case U_=>k_updF);(case hT_=>assumption);(case mc_=>k_mem);(case hc_=>k_ne);(case mA_|mP_|ma_|mV_|mS_|m0_=>k_mem);(case i0_=>assumption);(case mb_|m1_=>k_mem);(case i1_|b2_|b3_|b0_|b1_=>assumption);(case hVS_=>k_ne);k_whole;intro h' tk' tp' c' o' F' N' D' q';(try dsimp only);(have z':=cne_on (by assumption) q' (by k_extra "m exs"));(have z1':=CNe.b z');clear q';(try dsimp only at N');(have D':=Or.inr (a:=tp'=#[]) D'))
  | (refine' elr_use2 rfl rfl ?hd_ ?hu_ ?W_ ?B_ ?F_ ?N_ ?U_ rfl rfl ?hT_ ?mc_ ?hc_ ?mA_ ?mP_ ?ma_ ?mb_ ?mV_ ?mS_ ?m0_ ?m1_ ?i0_ ?i1_ ?hI_ ?hVl_ ?hV2_ ?b0_ ?b1_ ?b2_ ?b3_ ?w0_ ?w1_ ?hVS_ ?_;k_extra "m usL";(case U_=>k_updF);(case hT_=>assumption);(case mc_=>k_mem);(case hc_=>k_ne);(case mA_|mP_|ma_|mV_|mS_|m0_=>k_mem);(case i0_=>assumption);(case mb_|m1_=>k_mem);(case i1_|b2_|b3_|w0_|w1_|hI_|hVl_|hV2_|b0_|b1_=>assumption);(case hVS_=>k_ne);k_whole;intro h' tk' tp' c' o' F' N' D' q';(try dsimp only);(have z':=cne_on (by assumption) q' (by k_extra "m exs"));clear q';(try dsimp only at N'))
  )))
  k_with "w call ref"=>((fail_if_success k_extra "r302");k_extra "y169")
  trivial
namespace Z.Z6
theorem lap_if2_core:lap_if2_P Z.w Z.base Z.g Z.L Z.fd Z.It Z.D Z.oI Z.oD Z.K Z.s Z.Z6.Q Z.E Z.m Z.o Z.ob Z.oa Z.k Z.tp1 Z.tp2 Z.tp3 Z.c1 Z.c2 Z.c3 Z.o1 Z.o2 Z.o3 Z.S Z.V Z.A0 Z.R0 Z.a0 Z.Ad Z.Pd Z.rd Z.At Z.Pt Z.rt Z.a1 Z.rd1 Z.rt1 Z.cS Z.cV Z.vsV Z.vs0 Z.vs1 Z.nsV Z.lo Z.hi Z.lo1 Z.hi1 Z.t1 Z.u1 Z.t2 Z.u2 Z.t3 Z.u3 Z.t4 Z.u4 Z.tn:=by
  intro W B st sc hb f1 f2 f3 f4 F hE N FO k0 k1 da db t1' t2' t3' n1 n2 n3 lS lV lA la la1 lAd lPd lrd lrd1 lAt lPt lrt lrt1 hI hVl i0 hl0 i1 hl1 e hV2 b0 b1 b2 b3 w0 w1 h
  have hb2:some (_,_)=some (st,sc):=hb
  clear hb
  cases hb2
  have T:=W.top
  obtain ⟨p,loose,mean,mg,mb,T⟩:=T
  have T:=T.keeps B.stays
  have X:=W.K.keeps B.stays
  have HC0:CodeHd base 464 460:=codeHd_of_K W.K (by kernel_rfl)
  have HC:=HC0.keeps B.stays
  have z11:=n1.a
  have z12:=n1.b
  have z21:=n2.a
  have z22:=n2.b
  have z31:=n3.a
  have z32:=n3.b
  k_extra "m fill"
  w_strict (
    (try k_fold)
    k_steps
    all_goals (repeat (first|k_unfold|dsimp only))
    all_goals first
      | (refine' h _ (lapJ_of ?F_ ?fd_ ?N_ ?hs_ ?FO_ ?k0_ ?k1_ ?da_ ?db_ ?t1_ ?t2_ ?t3_ ?n1_ ?n2_ ?n3_);(case F_|N_=>k_asm);(case t1_|t2_|t3_|n1_|n2_|n3_=>assumption);(case hs_=>k_extra "m mems");(case fd_=>(rename LM _ _ _ _=>hE8;exact hE8.1));(case FO_|k0_|k1_|da_|db_=>assumption)))
end Z.Z6
theorem zu35:Up 35:=zu34.step (by with_unfolding_all exact Z.Z6.lap_if1_core)
theorem lap_if1 (w:World) (base g:Heap) (W:Wd w base) (B:Below (Ak 90 []) base [] g) (L fd It D:Addr) (oI oD:Obj) (K:Int) (st:Stmt) (sc:Scope) (hb:lawIfS w=some (st,sc)) (f1:@LT.lt Nat _ (L + 1 + 1) fd) (f2:@LT.lt Nat _ fd D) (f3:@LT.lt Nat _ D It) (f4:@LT.lt Nat _ 465 L) (s:Shared) (Q:Flow→Shared→Prop) (E:Value→Shared→Prop) (m:Str→Option Value) (o ob oa:Obj) (k:Int) (tp1 tp2 tp3:Array Value) (c1 c2 c3:Addr) (o1 o2 o3:Obj) (S V A0 R0 a0 Ad Pd rd At Pt rt:Addr) (cS cV:Nat) (vsV vs0:List Value) (nsV:List Int) (lo hi:Int) (t1 u1 t2 u2 tn:Tok) (F:Fr g L s.heap m) (hE:LM m fd Ad At) (N:News g L s.heap [(fd,o),(It,oI),(D,oD),(L + 1 + 1,ob),(L + 1,oa),(441,tabObj tp1),(448,tabObj tp2),(460,tabObj tp3),(c1,o1),(c2,o2),(c3,o3),(S,listOf (List.toArray [.ref a0,.ref A0]) cS),(V,listOf (List.toArray vsV) cV),(A0,tupO [.ref R0,.ref V]),(a0,tupO vs0),(Ad,tupO [.ref Pd,.ref V]),(Pd,tupO [.ref rd]),(rd,tupO [.int lo t1,.int hi u1]),(At,tupO [.ref Pt,.ref V]),(Pt,tupO [.ref rt]),(rt,tupO [.int lo t2,.int hi u2])]) (FO:FeedO w o D k) (k0:0≤k) (k1:k≤K) (da:oa.data=.cell (some (.str (Str.ofString "array1d") tn))) (db:ob.data=.cell (some (.ref S))) (t1':T1 g c1 o1 tp1) (t2':T2 g c2 o2 tp2) (t3':T3 g c3 o3 tp3) (n1:CNe c1 (tgs fd It L)) (n2:CNe c2 (tgs fd It L)) (n3:CNe c3 (tgs fd It L)) (lS:@LT.lt Nat _ L S) (lV:@LT.lt Nat _ L V) (lA:@LT.lt Nat _ L A0) (la:@LT.lt Nat _ L a0) (lAd:@LT.lt Nat _ L Ad) (lPd:@LT.lt Nat _ L Pd) (lrd:@LT.lt Nat _ L rd) (lAt:@LT.lt Nat _ L At) (lPt:@LT.lt Nat _ L Pt) (lrt:@LT.lt Nat _ L rt) (hI:IntsAre vsV nsV) (hVl:vsV.length≤10) (i0:IntsAre vs0 (intsFrom lo (hi + 1 - lo).toNat)) (hl0:(intsFrom lo (hi + 1 - lo).toNat).length≤20) (e:okIdx false [.set (intsFrom lo (hi + 1 - lo).toNat),.arr] vsV.length=some [(lo,hi)]) (hV2:(vsV.length:Int)=hi - lo + 1) (b0:-30≤lo∧lo≤30) (b1:-30≤hi∧hi≤30) (h:∀ s',LapJ w g L fd It D oI oD K s s'→Q .next s'):wpAny (model PySem.Challenge.rw_nz0031_01.row.prog w) ((Ak 90 []).deeper (envOfC (Str.ofString "law") sc L 465 (.ref 464))) (exec st (envOfC (Str.ofString "law") sc L 465 (.ref 464))) Q E s :=
  zu35.at { Zd with w,base,L,fd,It,D,s,E,o,k,S,V,a0,cS,cV,vsV,vs0,nsV,lo,hi,t1,u1,t2,u2,tn,r:={ Zd.r with g,oI,oD,K,Q_1:=Q,m,ob,oa,tp1,tp2,tp3,c1,c2,c3,o1,o2,o3,A0,R0,Ad,Pd,rd,At,Pt,rt } } W B st sc hb f1 f2 f3 f4 F hE N FO k0 k1 da db t1' t2' t3' n1 n2 n3 lS lV lA la lAd lPd lrd lAt lPt lrt hI hVl i0 hl0 e hV2 b0 b1 h
theorem zu36:Up 36:=zu35.step (by with_unfolding_all exact Z.Z6.lap_if2_core)
theorem lap_if2 (w:World) (base g:Heap) (W:Wd w base) (B:Below (Ak 90 []) base [] g) (L fd It D:Addr) (oI oD:Obj) (K:Int) (st:Stmt) (sc:Scope) (hb:lawIfS w=some (st,sc)) (f1:@LT.lt Nat _ (L + 1 + 1) fd) (f2:@LT.lt Nat _ fd D) (f3:@LT.lt Nat _ D It) (f4:@LT.lt Nat _ 465 L) (s:Shared) (Q:Flow→Shared→Prop) (E:Value→Shared→Prop) (m:Str→Option Value) (o ob oa:Obj) (k:Int) (tp1 tp2 tp3:Array Value) (c1 c2 c3:Addr) (o1 o2 o3:Obj) (S V A0 R0 a0 Ad Pd rd At Pt rt a1 rd1 rt1:Addr) (cS cV:Nat) (vsV vs0 vs1:List Value) (nsV:List Int) (lo hi lo1 hi1:Int) (t1 u1 t2 u2 t3 u3 t4 u4 tn:Tok) (F:Fr g L s.heap m) (hE:LM m fd Ad At) (N:News g L s.heap [(fd,o),(It,oI),(D,oD),(L + 1 + 1,ob),(L + 1,oa),(441,tabObj tp1),(448,tabObj tp2),(460,tabObj tp3),(c1,o1),(c2,o2),(c3,o3),(S,listOf (List.toArray [.ref a0,.ref a1,.ref A0]) cS),(V,listOf (List.toArray vsV) cV),(A0,tupO [.ref R0,.ref V]),(a0,tupO vs0),(a1,tupO vs1),(Ad,tupO [.ref Pd,.ref V]),(Pd,tupO [.ref rd,.ref rd1]),(rd,tupO [.int lo t1,.int hi u1]),(rd1,tupO [.int lo1 t3,.int hi1 u3]),(At,tupO [.ref Pt,.ref V]),(Pt,tupO [.ref rt,.ref rt1]),(rt,tupO [.int lo t2,.int hi u2]),(rt1,tupO [.int lo1 t4,.int hi1 u4])]) (FO:FeedO w o D k) (k0:0≤k) (k1:k≤K) (da:oa.data=.cell (some (.str (Str.ofString "array2d") tn))) (db:ob.data=.cell (some (.ref S))) (t1':T1 g c1 o1 tp1) (t2':T2 g c2 o2 tp2) (t3':T3 g c3 o3 tp3) (n1:CNe c1 (tgs fd It L)) (n2:CNe c2 (tgs fd It L)) (n3:CNe c3 (tgs fd It L)) (lS:@LT.lt Nat _ L S) (lV:@LT.lt Nat _ L V) (lA:@LT.lt Nat _ L A0) (la:@LT.lt Nat _ L a0) (la1:@LT.lt Nat _ L a1) (lAd:@LT.lt Nat _ L Ad) (lPd:@LT.lt Nat _ L Pd) (lrd:@LT.lt Nat _ L rd) (lrd1:@LT.lt Nat _ L rd1) (lAt:@LT.lt Nat _ L At) (lPt:@LT.lt Nat _ L Pt) (lrt:@LT.lt Nat _ L rt) (lrt1:@LT.lt Nat _ L rt1) (hI:IntsAre vsV nsV) (hVl:vsV.length≤10) (i0:IntsAre vs0 (intsFrom lo (hi + 1 - lo).toNat)) (hl0:(intsFrom lo (hi + 1 - lo).toNat).length≤20) (i1:IntsAre vs1 (intsFrom lo1 (hi1 + 1 - lo1).toNat)) (hl1:(intsFrom lo1 (hi1 + 1 - lo1).toNat).length≤20) (e:okIdx true [.set (intsFrom lo (hi + 1 - lo).toNat),.set (intsFrom lo1 (hi1 + 1 - lo1).toNat),.arr] vsV.length=some [(lo,hi),(lo1,hi1)]) (hV2:(vsV.length:Int)=(hi - lo + 1) * (hi1 - lo1 + 1)) (b0:-30≤lo∧lo≤30) (b1:-30≤hi∧hi≤30) (b2:-30≤lo1∧lo1≤30) (b3:-30≤hi1∧hi1≤30) (w0:0≤hi - lo + 1∧hi - lo + 1≤10) (w1:0≤hi1 - lo1 + 1∧hi1 - lo1 + 1≤10) (h:∀ s',LapJ w g L fd It D oI oD K s s'→Q .next s'):wpAny (model PySem.Challenge.rw_nz0031_01.row.prog w) ((Ak 90 []).deeper (envOfC (Str.ofString "law") sc L 465 (.ref 464))) (exec st (envOfC (Str.ofString "law") sc L 465 (.ref 464))) Q E s :=
  zu36.at { Zd with w,base,L,fd,It,D,s,E,o,k,S,V,a0,cS,cV,vsV,vs0,nsV,lo,hi,lo1,hi1,t1,u1,t2,u2,tn,r:={ Zd.r with g,oI,oD,K,Q_1:=Q,m,ob,oa,tp1,tp2,tp3,c1,c2,c3,o1,o2,o3,A0,R0,Ad,Pd,rd,At,Pt,rt,a1,rd1,rt1,vs1,t3,u3,t4,u4 } } W B st sc hb f1 f2 f3 f4 F hE N FO k0 k1 da db t1' t2' t3' n1 n2 n3 lS lV lA la la1 lAd lPd lrd lrd1 lAt lPt lrt lrt1 hI hVl i0 hl0 i1 hl1 e hV2 b0 b1 b2 b3 w0 w1 h
end
example:True:=by
  k_with "r286"=>(skip)
  k_with "r287"=>(skip)
  trivial
theorem cells_news {g:Heap} {ws:List Value} {c:Nat} (N:News g L h news) (hm:(D,listOf ws.toArray c)∈news) (hi:IntsAre ws ns) (hl:ns.length≤60):CellsAt h D :=
  ⟨ws,ns,⟨_,(N _ hm).1,rfl,c,rfl⟩,hi,hl⟩
theorem item_nm2 {t:Addr} {i:Int} (ht:IsTup s.heap t [Value.str (Str.ofString "array1d") t0,.str (Str.ofString "array2d") t1].toArray)
    (h0:0≤i) (h1:i < 2) (hp:∀ t',Q (.str (Str.ofString "array1d") t') s) (hq:∀ t',Q (.str (Str.ofString "array2d") t') s)
    (hs:∀ k u,subscripted slice false (.ref t) (.int k u)=operate [.ref t,.int k u] (getItem (.ref t) (.int k u)):=by intro _ _;with_unfolding_all rfl) :
    wpAny (model prog w) A (subscriptTail value slice (.ref t) (.int i u)) Q E s:=by
  have h6:i=0∨i=1:=by omega
  rcases h6 with rfl|rfl
  · exact item_tupleT ht (by decide) (by decide) rfl rfl (hp _) (hs _ _)
  · exact item_tupleT ht (by decide) (by decide) rfl rfl (hq _) (hs _ _)
theorem args5_lt {L:Nat} (l1:@LT.lt Nat _ L S) (l2:@LT.lt Nat _ L V) (l3:@LT.lt Nat _ L A1) (l4:@LT.lt Nat _ L D0) (l5:@LT.lt Nat _ L D1):∀ p∈args5 S vs cS V vsV cV A1 R D0 D1 vs0 vs1,@LT.lt Nat _ L p.1 :=
  fc l1 (fc l2 (fc l3 (fc l4 (fc l5 (List.forall_mem_nil _)))))
theorem shape_sa {c:Nat} (h:ArgsV objs R V vsV c vs [.set l,.arr]):∃ a A1 vs0,vs=[.ref a,.ref A1]∧(a,tupO vs0)∈objs∧IntsAre vs0 l∧l.length≤20∧(A1,tupO [.ref R,.ref V])∈objs:=by
  obtain ⟨hlen,hav⟩:=h
  obtain ⟨v0,v1,rfl⟩:=ln2 hlen
  obtain ⟨a,vs0,rfl,m0,i0,l0⟩:=hav 0 v0 _ rfl rfl
  obtain ⟨A1,rfl,mA,_⟩:=hav 1 v1 _ rfl rfl
  exact ⟨a,A1,vs0,rfl,m0,i0,l0,mA⟩
theorem shape_ssa {c:Nat} (h:ArgsV objs R V vsV c vs [.set l,.set l',.arr]):∃ a b A1 vs0 vs1,vs=[.ref a,.ref b,.ref A1]∧(a,tupO vs0)∈objs∧IntsAre vs0 l∧l.length≤20∧(b,tupO vs1)∈objs∧IntsAre vs1 l'∧l'.length≤20∧(A1,tupO [.ref R,.ref V])∈objs:=by
  obtain ⟨hlen,hav⟩:=h
  obtain ⟨v0,v1,v2,rfl⟩:=ln3 hlen
  obtain ⟨a,vs0,rfl,m0,i0,l0⟩:=hav 0 v0 _ rfl rfl
  obtain ⟨b,vs1,rfl,m1,i1,l1⟩:=hav 1 v1 _ rfl rfl
  obtain ⟨A1,rfl,mA,_⟩:=hav 2 v2 _ rfl rfl
  exact ⟨a,b,A1,vs0,vs1,rfl,m0,i0,l0,m1,i1,l1,mA⟩
theorem setL_wide (h:SetL l) (e:hiI l - loI l + 1=(l.length:Int)):0≤hiI l - loI l + 1∧hiI l - loI l + 1≤10:=by
  have:=SetL.len h
  omega
section
variable {w:World} {A A₀:Around} {env:Env} {base g:Heap} {s:Shared} {Q E:Value→Shared→Prop} {L:Addr} {m:Str→Option Value} {news:List (Addr×Obj)}
variable {fd D:Addr} {o:Obj} {k:Int} {G:Obj→List (Addr×Obj)}
theorem draw_useN
    {c:Nat} {f:Addr} {P:Heap→Value→Heap→Prop} (S:DrawS w n f mk c P) 
    (hvs:vs=mk fd) (hA:A.handled=none) (hfr:A.frames=some [env]) (hd:A.depth≤900 - 6 * n) (hu:A.units≤9000 - 99 * n)
    (W:Wd w base) (B:Below A₀ base [] g) (F:Fr g L s.heap m) (N:News g L s.heap news) (U:UpdF fd o news G) (hf:env.frame=some L) (hk:env.scope.kind=.function)
    (FO:FeedO w o D k) (hS:(fd == sysModules)=false) (C:CellsAt s.heap D) (h0:0≤k) (h1:k + c≤100000)
    (h:∀ v h' tk o' k',P s.heap v h'→Fr g L h' m→News g L h' (G o')→Keep [fd] s.heap h'→FeedO w o' D k'→k≤k'→k'≤k + c→Q v { s with heap:=h',toks:=tk }) :
    wpAny (model PySem.Challenge.rw_nz0031_01.row.prog w) A (call (.ref f) vs) Q E s:=by
  subst hvs
  have hm:=N _ (updF_mem U)
  have hB:=below_at (n:=n) B F hf hk
  have hb:=(objs_of_news B N hf (objs:=[(fd,o)]) (by intro p hp;rw [List.mem_singleton.mp hp];exact updF_mem U)) _ (.head _)
  refine wpAny_ak hA hfr hd hu (S _ base s Q E fd D o k W hB hm.1 FO hb.2.1 hb.2.2 hS C h0 h1 fun v h' tk o' k' hP hK ho' hF' l1 l2 =>
    h v h' tk o' k' hP (fr_keep F hK fun a ha=>by rw [List.mem_singleton.mp ha];exact ⟨hm.2.2,hm.2.1⟩) (news_updF N U hK ho') hK hF' l1 l2)
theorem args_useA (S:DrawS w 18 439 mk 30 PArgs) 
    (hvs:vs'=mk fd) (hA:A.handled=none) (hfr:A.frames=some [env]) (hd:A.depth≤900 - 6 * 18) (hu:A.units≤9000 - 99 * 18)
    (W:Wd w base) (B:Below A₀ base [] g) (F:Fr g L s.heap m) (N:News g L s.heap news) (U:UpdF fd o news G) (hf:env.frame=some L) (hk:env.scope.kind=.function)
    (FO:FeedO w o D k) (hS:(fd == sysModules)=false) (C:CellsAt s.heap D) (h0:0≤k) (h1:k + 30≤100000) (hx:@LT.lt Nat _ (L + 1 + 1) s.heap.objs.size)
    (hno:∀ S cS vs xs R V cV vsV A D0 D1 vs0 vs1 h' tk o' k',ArgsV (args5 S vs cS V vsV cV A R D0 D1 vs0 vs1) R V vsV cV vs xs→0 < vs.length→vs.length≤20→vsV.length≤20→SetsL xs→okIdx false xs vsV.length=none →
      Fr g L h' m→News g L h' ((S,listOf (List.toArray vs) cS)::(V,listOf (List.toArray vsV) cV)::(A,tupO [.ref R,.ref V])::(D0,tupO vs0)::(D1,tupO vs1)::G o')→@LT.lt Nat _ (L + 1 + 1) S→@LT.lt Nat _ (L + 1 + 1) V→@LT.lt Nat _ (L + 1 + 1) A→@LT.lt Nat _ (L + 1 + 1) D0→@LT.lt Nat _ (L + 1 + 1) D1→FeedO w o' D k'→k≤k'→k'≤k + 30→Q (.ref S) { s with heap:=h',toks:=tk })
    (hyes:∀ S cS R V cV vsV nsV A a0 vs0 lo hi h' tk o' k',ArgsV [(S,listOf (List.toArray [.ref a0,.ref A]) cS),(V,listOf (List.toArray vsV) cV),(A,tupO [.ref R,.ref V]),(a0,tupO vs0)] R V vsV cV [.ref a0,.ref A] [.set (intsFrom lo (hi + 1 - lo).toNat),.arr]→SetsL [.set (intsFrom lo (hi + 1 - lo).toNat),.arr]→okIdx false [.set (intsFrom lo (hi + 1 - lo).toNat),.arr] vsV.length=some [(lo,hi)] →
      IntsAre vsV nsV→vsV.length≤10→vsV.length≤20→IntsAre vs0 (intsFrom lo (hi + 1 - lo).toNat)→(intsFrom lo (hi + 1 - lo).toNat).length≤20→(vsV.length:Int)=hi - lo + 1→(-30≤lo∧lo≤30)→(-30≤hi∧hi≤30) →
      Fr g L h' m→News g L h' ((S,listOf (List.toArray [.ref a0,.ref A]) cS)::(V,listOf (List.toArray vsV) cV)::(A,tupO [.ref R,.ref V])::(a0,tupO vs0)::G o')→@LT.lt Nat _ (L + 1 + 1) S→@LT.lt Nat _ (L + 1 + 1) V→@LT.lt Nat _ (L + 1 + 1) A→@LT.lt Nat _ (L + 1 + 1) a0→FeedO w o' D k'→k≤k'→k'≤k + 30→Q (.ref S) { s with heap:=h',toks:=tk }) :
    wpAny (model PySem.Challenge.rw_nz0031_01.row.prog w) A (call (.ref 439) vs') Q E s:=by
  refine args_use S hvs hA hfr hd hu W B F N U hf hk FO hS C h0 h1 hx fun S9 cS vs xs R V cV vsV nsV A9 D0 D1 vs0 vs1 h' tk o' k' hav p1 p2 hi hl hs F' N' _ l1 l2 l3 l4 l5 FO' k1 k2=>?_
  cases e:okIdx false xs vsV.length with
  | none=>exact hno S9 cS vs xs R V cV vsV A9 D0 D1 vs0 vs1 h' tk o' k' hav p1 (by omega) (by omega) hs e F' N' l1 l2 l3 l4 l5 FO' k1 k2
  | some rs =>
    obtain ⟨l,rfl,rfl,e1,e2⟩:=idx_some1 e
    obtain ⟨a,A1,vs9,rfl,m0,i0,hl0,mA⟩:=shape_sa hav
    have sl:=hs l (.head _)
    obtain ⟨el,b1,b2,b3,b4⟩:=setL_range sl e1
    have ll:=args5_lt (vs:=[.ref a,.ref A1]) (vsV:=vsV) (vs0:=vs0) (vs1:=vs1) (cS:=cS) (cV:=cV) (R:=R) l1 l2 l3 l4 l5
    have sub:∀ p∈args5 S9 [.ref a,.ref A1] cS V vsV cV A9 R D0 D1 vs0 vs1,p∈(S9,listOf (List.toArray [.ref a,.ref A1]) cS)::(V,listOf (List.toArray vsV) cV)::(A9,tupO [.ref R,.ref V])::(D0,tupO vs0)::(D1,tupO vs1)::G o':=fun p hp=>List.mem_append_left (G o') hp
    refine hyes S9 cS R V cV vsV nsV A1 a vs9 (loI l) (hiI l) h' tk o' k' (by rw [← el];exact argsV_sa (by first|k_mem|simp) i0 hl0 (by first|k_mem|simp) (by first|k_mem|simp)) (by rw [← el];exact hs) (by rw [← el];exact e) hi hl (by omega) (by rw [← el];exact i0) (by rw [← el];exact hl0) (by omega) ⟨b1,b2⟩ ⟨b3,b4⟩ F'
      (fun p hp=>?_) l1 l2 (ll _ mA) (ll _ m0) FO' k1 k2
    rcases List.mem_cons.mp hp with rfl|hp
    · exact N' _ (.head _)
    · rcases List.mem_cons.mp hp with rfl|hp
      · exact N' _ (.tail _ (.head _))
      · rcases List.mem_cons.mp hp with rfl|hp
        · exact N' _ (sub _ mA)
        · rcases List.mem_cons.mp hp with rfl|hp
          · exact N' _ (sub _ m0)
          · exact N' _ (.tail _ (.tail _ (.tail _ (.tail _ (.tail _ hp)))))
theorem args_useB (S:DrawS w 18 439 mk 30 PArgs) 
    (hvs:vs'=mk fd) (hA:A.handled=none) (hfr:A.frames=some [env]) (hd:A.depth≤900 - 6 * 18) (hu:A.units≤9000 - 99 * 18)
    (W:Wd w base) (B:Below A₀ base [] g) (F:Fr g L s.heap m) (N:News g L s.heap news) (U:UpdF fd o news G) (hf:env.frame=some L) (hk:env.scope.kind=.function)
    (FO:FeedO w o D k) (hS:(fd == sysModules)=false) (C:CellsAt s.heap D) (h0:0≤k) (h1:k + 30≤100000) (hx:@LT.lt Nat _ (L + 1 + 1) s.heap.objs.size)
    (hno:∀ S cS vs xs R V cV vsV A D0 D1 vs0 vs1 h' tk o' k',ArgsV (args5 S vs cS V vsV cV A R D0 D1 vs0 vs1) R V vsV cV vs xs→0 < vs.length→vs.length≤20→vsV.length≤20→SetsL xs→okIdx true xs vsV.length=none →
      Fr g L h' m→News g L h' ((S,listOf (List.toArray vs) cS)::(V,listOf (List.toArray vsV) cV)::(A,tupO [.ref R,.ref V])::(D0,tupO vs0)::(D1,tupO vs1)::G o')→@LT.lt Nat _ (L + 1 + 1) S→@LT.lt Nat _ (L + 1 + 1) V→@LT.lt Nat _ (L + 1 + 1) A→@LT.lt Nat _ (L + 1 + 1) D0→@LT.lt Nat _ (L + 1 + 1) D1→FeedO w o' D k'→k≤k'→k'≤k + 30→Q (.ref S) { s with heap:=h',toks:=tk })
    (hyes:∀ S cS R V cV vsV nsV A a0 vs0 lo hi a1 vs1 lo1 hi1 h' tk o' k',ArgsV [(S,listOf (List.toArray [.ref a0,.ref a1,.ref A]) cS),(V,listOf (List.toArray vsV) cV),(A,tupO [.ref R,.ref V]),(a0,tupO vs0),(a1,tupO vs1)] R V vsV cV [.ref a0,.ref a1,.ref A] [.set (intsFrom lo (hi + 1 - lo).toNat),.set (intsFrom lo1 (hi1 + 1 - lo1).toNat),.arr]→SetsL [.set (intsFrom lo (hi + 1 - lo).toNat),.set (intsFrom lo1 (hi1 + 1 - lo1).toNat),.arr]→okIdx true [.set (intsFrom lo (hi + 1 - lo).toNat),.set (intsFrom lo1 (hi1 + 1 - lo1).toNat),.arr] vsV.length=some [(lo,hi),(lo1,hi1)] →
      IntsAre vsV nsV→vsV.length≤10→vsV.length≤20→IntsAre vs0 (intsFrom lo (hi + 1 - lo).toNat)→(intsFrom lo (hi + 1 - lo).toNat).length≤20→IntsAre vs1 (intsFrom lo1 (hi1 + 1 - lo1).toNat)→(intsFrom lo1 (hi1 + 1 - lo1).toNat).length≤20→(vsV.length:Int)=(hi - lo + 1) * (hi1 - lo1 + 1)→(-30≤lo∧lo≤30)→(-30≤hi∧hi≤30)→(-30≤lo1∧lo1≤30)→(-30≤hi1∧hi1≤30)→(0≤hi - lo + 1∧hi - lo + 1≤10)→(0≤hi1 - lo1 + 1∧hi1 - lo1 + 1≤10) →
      Fr g L h' m→News g L h' ((S,listOf (List.toArray [.ref a0,.ref a1,.ref A]) cS)::(V,listOf (List.toArray vsV) cV)::(A,tupO [.ref R,.ref V])::(a0,tupO vs0)::(a1,tupO vs1)::G o')→@LT.lt Nat _ (L + 1 + 1) S→@LT.lt Nat _ (L + 1 + 1) V→@LT.lt Nat _ (L + 1 + 1) A→@LT.lt Nat _ (L + 1 + 1) a0→@LT.lt Nat _ (L + 1 + 1) a1→FeedO w o' D k'→k≤k'→k'≤k + 30→Q (.ref S) { s with heap:=h',toks:=tk }) :
    wpAny (model PySem.Challenge.rw_nz0031_01.row.prog w) A (call (.ref 439) vs') Q E s:=by
  refine args_use S hvs hA hfr hd hu W B F N U hf hk FO hS C h0 h1 hx fun S9 cS vs xs R V cV vsV nsV A9 D0 D1 vs0 vs1 h' tk o' k' hav p1 p2 hi hl hs F' N' _ l1 l2 l3 l4 l5 FO' k1 k2=>?_
  cases e:okIdx true xs vsV.length with
  | none=>exact hno S9 cS vs xs R V cV vsV A9 D0 D1 vs0 vs1 h' tk o' k' hav p1 (by omega) (by omega) hs e F' N' l1 l2 l3 l4 l5 FO' k1 k2
  | some rs =>
    obtain ⟨l,l',rfl,rfl,e1,e1',e2⟩:=idx_some2 e
    obtain ⟨a,b,A1,vs9,vs8,rfl,m0,i0,hl0,m1,i1,hl1,mA⟩:=shape_ssa hav
    have sl:=hs l (.head _)
    have sl':=hs l' (.tail _ (.head _))
    obtain ⟨el,b1,b2,b3,b4⟩:=setL_range sl e1
    obtain ⟨el',b1',b2',b3',b4'⟩:=setL_range sl' e1'
    have ll:=args5_lt (vs:=[.ref a,.ref b,.ref A1]) (vsV:=vsV) (vs0:=vs0) (vs1:=vs1) (cS:=cS) (cV:=cV) (R:=R) l1 l2 l3 l4 l5
    have sub:∀ p∈args5 S9 [.ref a,.ref b,.ref A1] cS V vsV cV A9 R D0 D1 vs0 vs1,p∈(S9,listOf (List.toArray [.ref a,.ref b,.ref A1]) cS)::(V,listOf (List.toArray vsV) cV)::(A9,tupO [.ref R,.ref V])::(D0,tupO vs0)::(D1,tupO vs1)::G o':=fun p hp=>List.mem_append_left (G o') hp
    have hmul:(vsV.length:Int)=(hiI l - loI l + 1) * (hiI l' - loI l' + 1):=by rw [e1,e1',← e2];push_cast;rfl
    refine hyes S9 cS R V cV vsV nsV A1 a vs9 (loI l) (hiI l) b vs8 (loI l') (hiI l') h' tk o' k' (by rw [← el,← el'];exact argsV_ssa (by first|k_mem|simp) i0 hl0 (by first|k_mem|simp) i1 hl1 (by first|k_mem|simp) (by first|k_mem|simp)) (by rw [← el,← el'];exact hs) (by rw [← el,← el'];exact e) hi hl (by omega) (by rw [← el];exact i0) (by rw [← el];exact hl0) (by rw [← el'];exact i1) (by rw [← el'];exact hl1) hmul ⟨b1,b2⟩ ⟨b3,b4⟩ ⟨b1',b2'⟩ ⟨b3',b4'⟩ (setL_wide sl e1) (setL_wide sl' e1') F'
      (fun p hp=>?_) l1 l2 (ll _ mA) (ll _ m0) (ll _ m1) FO' k1 k2
    rcases List.mem_cons.mp hp with rfl|hp
    · exact N' _ (.head _)
    · rcases List.mem_cons.mp hp with rfl|hp
      · exact N' _ (.tail _ (.head _))
      · rcases List.mem_cons.mp hp with rfl|hp
        · exact N' _ (sub _ mA)
        · rcases List.mem_cons.mp hp with rfl|hp
          · exact N' _ (sub _ m0)
          · rcases List.mem_cons.mp hp with rfl|hp
            · exact N' _ (sub _ m1)
            · exact N' _ (.tail _ (.tail _ (.tail _ (.tail _ (.tail _ hp)))))
theorem law_hcallI {c:Addr} {on:Obj} {ns:Str} {p:Arguments} 
    (W:Wd w base) (B:Below A₀ base [] g) (N:News g L s.heap news) (hf:env.frame=some L) (hob:∀ p∈objs,p∈news)
    (hc:(c,kla_obj name qual p bd sc cl pm c' ctv)∈news)
    (hlam:lamLawE w=some (p,bd,sc)) (hla:cl.lookup (Str.ofString "some")=some ca) (hln:cl.lookup (Str.ofString "name")=some cn)
    (m1:(ca,oa)∈news) (m2:(cn,on)∈news) (hda:oa.data=.cell (some (.ref S))) (hdn:on.data=.cell (some (.str ns tn))) (hcr:s.heap.CodeRec (.ref c') qual)
    (hS:∀ ts,OfH w base 30 394 [.str ns tn,.ref S,.int 9 ts] objs (fun h v h'=>∃ rs,okIdx two xs nv=some rs∧ArrNew h v h' V rs) (fun sp=>okIdx two xs nv=none∧sp=9)) :
    ∀ env' L',env'.frame=some L'→s.heap.get? L'=none→RaiseAtH w (Ak 58 (env'::env::[])) base (env'::env::[]) s.heap (call (.ref c) []) (fun v h'=>∃ rs,okIdx two xs nv=some rs∧ArrNew s.heap v h' V rs) (fun sp=>okIdx two xs nv=none∧sp=9) :=
  law_hcall mono_arr W B N hf hob hc hlam hla hln m1 m2 hda hdn hcr hS
end
theorem ind1_all (w:World) (base:Heap) (W:Wd w base) (objs:List (Addr×Obj)) (R V S:Addr) (vsV vs:List Value) (xs:List Arg) (cV cS:Nat) (tn:Tok)
    (mS:(S,listOf vs.toArray cS)∈objs) (mV:(V,listOf vsV.toArray cV)∈objs) (hV:vsV.length≤20) (hvs:ArgsV objs R V vsV cV vs xs) (hn1:0 < vs.length) (hn2:vs.length≤20) :
    ∀ ts,OfH w base 30 394 [.str (Str.ofString "array1d") tn,.ref S,.int 9 ts] objs (fun h v h'=>∃ rs,okIdx false xs vsV.length=some rs∧ArrNew h v h' V rs) (fun sp=>okIdx false xs vsV.length=none∧sp=9) :=
  fun ts=>indexed1 w base W objs R V S vsV vs xs cV cS tn ts 9 mS mV hV hvs hn1 hn2
theorem ind2_all (w:World) (base:Heap) (W:Wd w base) (objs:List (Addr×Obj)) (R V S:Addr) (vsV vs:List Value) (xs:List Arg) (cV cS:Nat) (tn:Tok)
    (mS:(S,listOf vs.toArray cS)∈objs) (mV:(V,listOf vsV.toArray cV)∈objs) (hV:vsV.length≤20) (hvs:ArgsV objs R V vsV cV vs xs) (hn1:0 < vs.length) (hn2:vs.length≤20) :
    ∀ ts,OfH w base 30 394 [.str (Str.ofString "array2d") tn,.ref S,.int 9 ts] objs (fun h v h'=>∃ rs,okIdx true xs vsV.length=some rs∧ArrNew h v h' V rs) (fun sp=>okIdx true xs vsV.length=none∧sp=9) :=
  fun ts=>indexed2 w base W objs R V S vsV vs xs cV cS tn ts 9 mS mV hV hvs hn1 hn2
section
theorem lt_two {a b:Addr} (h:@LT.lt Nat _ (a + 1 + 1) b):@LT.lt Nat _ a b:=Nat.lt_trans (Nat.lt_trans (Nat.lt_succ_self a) (Nat.lt_succ_self _)) h
theorem feed_put {x:Str} {v:Option Value} (h:FeedIs m fd) (hx:Str.ofString "feed"≠x):FeedIs (fun y=>if y=x then v else m y) fd:=(if_neg hx).trans h
theorem news_sub {g:Heap} {news':List (Addr×Obj)} (N:News g L h news) (hs:∀ p∈news',p∈news):News g L h news':=fun p hp=>N p (hs p hp)
theorem lapJ_re {g:Heap} {K K':Int} {s0 s':Shared} (J:LapJ w g L fd It D oI oD K { s0 with heap:=h,toks:=tk } s') (hk:K≤K'):LapJ w g L fd It D oI oD K' s0 s':=by
  obtain ⟨h,tk,m,o,k,ob,oa,va,vb,tp1,tp2,tp3,c1,c2,c3,o1,o2,o3,rfl,F0,hFd,N0,FO,k0,k1,r⟩:=J
  exact ⟨h,tk,m,o,k,ob,oa,va,vb,tp1,tp2,tp3,c1,c2,c3,o1,o2,o3,rfl,F0,hFd,N0,FO,k0,Int.le_trans k1 hk,r⟩
example:True:=by
  k_with "r302"=>(skip)
  k_with "r296"=>(skip)
  k_with "r295"=>(skip)
  k_with "r294"=>(skip)
  k_with "r297"=>(skip)
  k_with "r164"=>(skip)
  k_with "r298"=>(skip)
  k_with "w k_lt $h:ident"=>((fail_if_success k_extra "r303");k_extra "y40")
  k_with "w k_ne"=>((fail_if_success k_extra "r304");k_extra "y41")
  k_with "y170"=>((k_here;k_dflt (first
  | (refine' ne_fault ?N_ ?a_ ?b_ ?u_ ?_;(case N_=>k_asm);(case a_|b_=>k_mem);(case u_=>exact Nat.le_of_ble_eq_true rfl);k_whole)
  | (refine' ne_arr1 ?N_ ?m1_ ?p1_ ?r1_ ?m2_ ?p2_ ?r2_ ?mV_ ?hI_ ?u_ ?_;(case N_=>k_asm);(case m1_|m2_|p1_|p2_|r1_|r2_|mV_=>k_mem);(case hI_=>assumption);(case u_=>exact Nat.le_of_ble_eq_true rfl);k_whole)
  | (refine' ne_arr2 ?N_ ?m1_ ?p1_ ?r1_ ?q1_ ?m2_ ?p2_ ?r2_ ?q2_ ?mV_ ?hI_ ?u_ ?_;(case N_=>k_asm);(case m1_|m2_|p1_|p2_|r1_|q1_|r2_|q2_|mV_=>k_mem);(case hI_=>assumption);(case u_=>exact Nat.le_of_ble_eq_true rfl);k_whole))))
  k_with "w compareOp NotEq ref ref"=>((fail_if_success k_extra "r305");k_extra "y170")
  k_with "y171"=>((first|exact rfl|exact if_pos rfl|(refine (if_neg (by decide)).trans ?_;k_extra "m nm")))
  k_with "m nm"=>(k_extra "y171")
  k_with "y172"=>((repeat (first|with_reducible assumption|refine feed_put ?_ (by decide))))
  k_with "m feed"=>(k_extra "y172")
  k_with "y173"=>(((with_reducible rename FeedIs _ _=>hF9);first|exact rfl|exact hF9))
  k_with "m nv"=>(k_extra "y173")
  k_with "y174"=>((k_here;(with_reducible show wpAny _ _ (subscriptTail _ _ (Value.ref _) (Value.int _ _)) _ _ _);k_dflt (refine' item_nm2 ?t_ ?a_ ?b_ ?p_ ?q_;(case t_=>exact News.isTup (by k_asm) (by k_mem));(case a_=>assumption);(case b_=>omega);(case' p_|q_=>(intro t';skip)))))
  k_with "w subscriptTail Tuple cons Call ref int"=>((fail_if_success k_extra "r309");k_extra "y174")
  k_with "y175"=>(((case hd_|hu_=>exact Nat.le_of_ble_eq_true rfl);(case W_|B_|F_|N_=>k_asm);(case U_=>k_updF);(case FO_|hS_=>k_asm);(case C_=>exact cells_news (by k_asm) (by k_mem) (by assumption) (by assumption));(case k0_|k1_=>omega)))
  k_with "m usd"=>(k_extra "y175")
  k_with "y176"=>(exact List.mem_cons_self ..)
  k_with "m h0"=>(k_extra "y176")
  k_with "y177"=>(exact List.mem_cons_of_mem _ (List.mem_cons_self ..))
  k_with "m h1"=>(k_extra "y177")
  k_with "y178"=>(((case hvs_|e_=>assumption);(case hd_|hu_=>exact Nat.le_of_ble_eq_true rfl);(case W2_=>assumption);(case mS_=>k_extra "m h0");(case mV_=>k_extra "m h1");(case hV_=>assumption);(case n1_|n2_=>first|assumption|exact Nat.le_of_ble_eq_true rfl);(case B_|F_|N_=>k_asm);(case hm_=>k_extra "m mems")))
  k_with "m dus"=>(k_extra "y178")
  k_with "y179"=>((k_extra "m dus";(case hsl_=>assumption);k_whole))
  k_with "m dud"=>(k_extra "y179")
  k_with "y180"=>(((case N2_=>k_asm);k_extra "m dus";(case W_|W3_|B2_=>k_asm);(case hc_|hc2_=>k_mem);(case hlam_|hla_|hln_=>exact rfl);(case m1_|m2_=>k_mem);(case hda_|hdn_=>k_asm);(case hcr_=>assumption);k_whole))
  k_with "m hea"=>(k_extra "y180")
  k_with "y181"=>((k_here;k_dflt (refine' lam_law (q:=qualW) ?hdef_ ?hq_ ?F_ ?N_ ?T_ ?C_ ?hcd_ ?U_ ?D_ ?mc_ ?hl_ ?hc_ ?ht0_ ?hn_ ?ht_ ?hf_ ?hcl_ ?_;(case hdef_|hq_=>exact rfl);(case F_|N_|T_=>k_asm);(case hcd_=>exact rfl);(case C_=>assumption);(case U_=>k_updF);(case hl_|hc_=>exact rfl);(case D_=>assumption);(case mc_=>k_mem);(case ht0_=>kn_triples);(case hn_=>kn_among);(case ht_=>(intro _;kn_triples));(case hf_=>(intro _;kn_hit));(case hcl_=>exact rfl);k_whole);intro f' c' ctv' c1' o1' h' tk' F' N' D' R' q' l1;(try dsimp only);(try dsimp only at N');(try k_lt l1);(have z':=cne_on (by assumption) q' (by k_extra "m exs"));clear q';(have D':=Or.inr (a:=#[rawInt 497,rawInt 54,Value.ref c']=#[]) D')))
  k_with "w eval Lambda"=>((fail_if_success k_extra "r316");k_extra "y181")
  k_with "y182"=>((k_here;k_dflt (first
  | (refine' draw_useN (draw_ok _ _ _ ?h0_ ?h1_) rfl rfl rfl ?hd_ ?hu_ ?W_ ?B_ ?F_ ?N_ ?U_ rfl rfl ?FO_ ?hS_ ?C_ ?k0_ ?k1_ ?_;(case h0_|h1_=>decide);k_extra "m usd";k_whole;intro v' h' tk' o' k' P' F' N' K' O' l1' l2';(try dsimp only);obtain ⟨i',t',e',b1',b2'⟩:=P';subst e';(try dsimp only at N'))
  | (refine' args_useA (args1 _ _) rfl rfl rfl ?hd_ ?hu_ ?W_ ?B_ ?F_ ?N_ ?U_ rfl rfl ?FO_ ?hS_ ?C_ ?k0_ ?k1_ ?hx_ ?hno_ ?hyes_;k_extra "m usd";(case hx_=>exact news_lt (by k_asm) (by k_mem));(case' hno_=>(k_whole;intro S' cS' vs' xs' R' V' cV' vsV' A' D0' D1' vs0' vs1' h' tk' o' k' hav' n1' n2' n3' sl' e' F' N' l1 l2 l3 l4 l5 O' l1' l2';(try dsimp only);(try dsimp only at N')));(case' hyes_=>(k_whole;intro S' cS' R' V' cV' vsV' nsV' A' a0' vs0' lo' hi' h' tk' o' k' hav' sl' e' hI' n1' n2' i0' n3' hl' b0' b1' F' N' l1 l2 l3 l4 O' l1' l2';(try dsimp only);(try dsimp only at N'))))
  | (refine' args_useB (args2 _ _) rfl rfl rfl ?hd_ ?hu_ ?W_ ?B_ ?F_ ?N_ ?U_ rfl rfl ?FO_ ?hS_ ?C_ ?k0_ ?k1_ ?hx_ ?hno_ ?hyes_;k_extra "m usd";(case hx_=>exact news_lt (by k_asm) (by k_mem));(case' hno_=>(k_whole;intro S' cS' vs' xs' R' V' cV' vsV' A' D0' D1' vs0' vs1' h' tk' o' k' hav' n1' n2' n3' sl' e' F' N' l1 l2 l3 l4 l5 O' l1' l2';(try dsimp only);(try dsimp only at N')));(case' hyes_=>(k_whole;intro S' cS' R' V' cV' vsV' nsV' A' a0' vs0' lo' hi' a1' vs1' lo1' hi1' h' tk' o' k' hav' sl' e' hI' n1' n2' i0' n3' i1' n4' hl' b0' b1' b2' b3' w0' w1' F' N' l1 l2 l3 l4 l5 O' l1' l2';(try dsimp only);(try dsimp only at N'))))
  | (refine' due_no (due1 _ _ ?W2_ _ _ _ _ _ _ _ _ _ _ ?mS_ ?mV_ ?hV_ ?hvs_ ?n1_ ?n2_ ?hsl_) ?e_ rfl rfl rfl ?hd_ ?hu_ ?hm_ ?B_ ?F_ ?N_ rfl rfl ?_;k_extra "m dud";intro h' tk' F' N';(try dsimp only))
  | (refine' due_ar1 (due1 _ _ ?W2_ _ _ _ _ _ _ _ _ _ _ ?mS_ ?mV_ ?hV_ ?hvs_ ?n1_ ?n2_ ?hsl_) ?e_ rfl rfl rfl ?hd_ ?hu_ ?hm_ ?B_ ?F_ ?N_ rfl rfl ?_;k_extra "m dud";intro A' P' a' t' u' h' tk' F' N' l1 l2 l3;(try dsimp only))
  | (refine' due_no (due2 _ _ ?W2_ _ _ _ _ _ _ _ _ _ _ ?mS_ ?mV_ ?hV_ ?hvs_ ?n1_ ?n2_ ?hsl_) ?e_ rfl rfl rfl ?hd_ ?hu_ ?hm_ ?B_ ?F_ ?N_ rfl rfl ?_;k_extra "m dud";intro h' tk' F' N';(try dsimp only))
  | (refine' due_ar2 (due2 _ _ ?W2_ _ _ _ _ _ _ _ _ _ _ ?mS_ ?mV_ ?hV_ ?hvs_ ?n1_ ?n2_ ?hsl_) ?e_ rfl rfl rfl ?hd_ ?hu_ ?hm_ ?B_ ?F_ ?N_ rfl rfl ?_;k_extra "m dud";intro A' P' a' b' t' u' t1' u1' h' tk' F' N' l1 l2 l3 l4;(try dsimp only))
  | (refine' hear_no ?e_ rfl rfl ?hd_ ?hu_ ?W_ ?B_ ?F_ ?N_ rfl rfl ?hc_ (law_hcallI ?W3_ ?B2_ ?N2_ rfl ?hm_ ?hc2_ ?hlam_ ?hla_ ?hln_ ?m1_ ?m2_ ?hda_ ?hdn_ ?hcr_ (ind1_all _ _ ?W2_ _ _ _ _ _ _ _ _ _ _ ?mS_ ?mV_ ?hV_ ?hvs_ ?n1_ ?n2_)) ?_;k_extra "m hea";intro tu' t1' t2' h' tk' F' N';(try dsimp only))
  | (refine' hear_ar1 ?e_ rfl rfl ?hd_ ?hu_ ?W_ ?B_ ?F_ ?N_ rfl rfl ?hc_ (law_hcallI ?W3_ ?B2_ ?N2_ rfl ?hm_ ?hc2_ ?hlam_ ?hla_ ?hln_ ?m1_ ?m2_ ?hda_ ?hdn_ ?hcr_ (ind1_all _ _ ?W2_ _ _ _ _ _ _ _ _ _ _ ?mS_ ?mV_ ?hV_ ?hvs_ ?n1_ ?n2_)) ?_;k_extra "m hea";intro A' P' a' t' u' h' tk' F' N' l1 l2 l3;(try dsimp only))
  | (refine' hear_no ?e_ rfl rfl ?hd_ ?hu_ ?W_ ?B_ ?F_ ?N_ rfl rfl ?hc_ (law_hcallI ?W3_ ?B2_ ?N2_ rfl ?hm_ ?hc2_ ?hlam_ ?hla_ ?hln_ ?m1_ ?m2_ ?hda_ ?hdn_ ?hcr_ (ind2_all _ _ ?W2_ _ _ _ _ _ _ _ _ _ _ ?mS_ ?mV_ ?hV_ ?hvs_ ?n1_ ?n2_)) ?_;k_extra "m hea";intro tu' t1' t2' h' tk' F' N';(try dsimp only))
  | (refine' hear_ar2 ?e_ rfl rfl ?hd_ ?hu_ ?W_ ?B_ ?F_ ?N_ rfl rfl ?hc_ (law_hcallI ?W3_ ?B2_ ?N2_ rfl ?hm_ ?hc2_ ?hlam_ ?hla_ ?hln_ ?m1_ ?m2_ ?hda_ ?hdn_ ?hcr_ (ind2_all _ _ ?W2_ _ _ _ _ _ _ _ _ _ _ ?mS_ ?mV_ ?hV_ ?hvs_ ?n1_ ?n2_)) ?_;k_extra "m hea";intro A' P' a' b' t' u' t1' u1' h' tk' F' N' l1 l2 l3 l4;(try dsimp only))
  )))
  k_with "w call ref"=>((fail_if_success k_extra "r317");k_extra "y182")
  k_with "y183"=>((k_here;(with_reducible rename FeedIs _ _=>hF8);k_dflt (first
  | (refine' lap_if1 _ _ _ ?W_ ?B_ _ _ _ _ _ _ _ _ _ ?hb_ ?f1_ ?f2_ ?f3_ ?f4_ _ _ _ _ _ _ _ _ _ _ _ _ _ _ _ _ _ _ _ _ _ _ _ _ _ _ _ _ _ _ _ _ _ _ _ _ _ _ _ _ ?F_ ?hE_ (news_sub ?N_ ?hs_) ?FO_ ?k0_ ?k1_ ?da_ ?db_ ?t1_ ?t2_ ?t3_ ?n1_ ?n2_ ?n3_ ?lS_ ?lV_ ?lA_ ?la_ ?lAd_ ?lPd_ ?lrd_ ?lAt_ ?lPt_ ?lrt_ ?hI_ ?hVl_ ?i0_ ?hl0_ ?e_ ?hV2_ ?b0_ ?b1_ ?_;(case hb_=>exact rfl);(case F_|N_=>k_asm);(case FO_=>assumption);(case hE_=>exact ⟨by k_extra "m feed",by k_extra "m nm",by k_extra "m nm"⟩);(case f4_|f1_|f2_|f3_|W_|B_|da_|db_|e_|i0_|hI_|t1_|t2_|t3_|n1_|n2_|n3_=>assumption);(case hs_=>k_extra "m mems");k_extra "m rest";k_whole;intro s' J')
  | (refine' lap_if2 _ _ _ ?W_ ?B_ _ _ _ _ _ _ _ _ _ ?hb_ ?f1_ ?f2_ ?f3_ ?f4_ _ _ _ _ _ _ _ _ _ _ _ _ _ _ _ _ _ _ _ _ _ _ _ _ _ _ _ _ _ _ _ _ _ _ _ _ _ _ _ _ _ _ _ _ _ _ _ _ _ _ ?F_ ?hE_ (news_sub ?N_ ?hs_) ?FO_ ?k0_ ?k1_ ?da_ ?db_ ?t1_ ?t2_ ?t3_ ?n1_ ?n2_ ?n3_ ?lS_ ?lV_ ?lA_ ?la_ ?la1_ ?lAd_ ?lPd_ ?lrd_ ?lrd1_ ?lAt_ ?lPt_ ?lrt_ ?lrt1_ ?hI_ ?hVl_ ?i0_ ?hl0_ ?i1_ ?hl1_ ?e_ ?hV2_ ?b0_ ?b1_ ?b2_ ?b3_ ?w0_ ?w1_ ?_;(case hb_=>exact rfl);(case F_|N_=>k_asm);(case FO_=>assumption);(case hE_=>exact ⟨by k_extra "m feed",by k_extra "m nm",by k_extra "m nm"⟩);(case f4_|f1_|f2_|f3_|W_|B_|da_|db_|e_|i0_|i1_|hI_|t1_|t2_|t3_|n1_|n2_|n3_=>assumption);(case hs_=>k_extra "m mems");(case la1_=>exact lt_two (by assumption));(case lrd1_|lrt1_|hl1_|b2_|b3_|w0_|w1_=>assumption);k_extra "m rest";k_whole;intro s' J'))))
  k_with "w exec If Compare cons nil"=>((fail_if_success k_extra "r318");k_extra "y183")
  k_with "y184"=>(((case k0_|k1_=>omega);(case lS_|lV_|lA_|la_=>exact lt_two (by assumption));(case lAd_|lPd_|lrd_|lAt_|lPt_|lrt_|hVl_|hl0_|hV2_|b0_|b1_=>assumption)))
  k_with "m rest"=>(k_extra "y184")
  trivial
namespace Z.Z6
theorem lap_core1_core:lap_core1_P Z.w Z.base Z.g Z.L Z.fd Z.It Z.D Z.ws Z.ns Z.cD Z.oI Z.K Z.s Z.Z6.Q Z.E Z.m Z.o Z.ob Z.oa Z.k Z.vb Z.tp1 Z.tp2 Z.tp3 Z.c1 Z.c2 Z.c3 Z.o1 Z.o2 Z.o3 Z.tn:=by
  intro W B hS rest sc hb f1 f2 f3 f4 hI0 hlen hK F hFd N FO k0 k1 da db t1 t2 t3 n1 n2 n3 h
  have hb2:some (_,_)=some (rest,sc):=hb
  clear hb
  cases hb2
  have T:=W.top
  obtain ⟨p,loose,mean,mg,mb,T⟩:=T
  have T:=T.keeps B.stays
  have X:=W.K.keeps B.stays
  have HC0:CodeHd base 464 460:=codeHd_of_K W.K (by kernel_rfl)
  have HC:=HC0.keeps B.stays
  have za1:=n1.c
  have za2:=n1.d
  have za3:=n1.e
  have za4:=n1.f
  have za5:=n1.g
  have zb1:=n2.c
  have zb2:=n2.d
  have zb3:=n2.e
  have zb4:=n2.f
  have zb5:=n2.g
  have zc1:=n3.c
  have zc2:=n3.d
  have zc3:=n3.e
  have zc4:=n3.f
  have zc5:=n3.g
  k_extra "m fill"
  w_strict (
    (try dsimp only at N)
    (try k_fold)
    k_steps
    all_goals (repeat (first|k_unfold|dsimp only))
    all_goals first
      | (rename LapJ _ _ _ _ _ _ _ _ _ _ _=>hJ8;exact h _ (lapJ_re hJ8 (by omega)))
      | (refine' h _ (lapJ_of ?F_ ?fd_ ?N_ ?hs_ ?FO_ ?k0_ ?k1_ ?da_ ?db_ ?t1_ ?t2_ ?t3_ ?n1_ ?n2_ ?n3_);(case F_|N_=>k_asm);(case t1_|t2_|t3_|n1_|n2_|n3_=>assumption);(case hs_=>k_extra "m mems");(case fd_=>k_extra "m feed");(case FO_=>assumption);(case k0_|k1_=>omega);(case da_|db_=>assumption)))
end Z.Z6
end
section
namespace Z.Z6
theorem lap_core2_core:lap_core2_P Z.w Z.base Z.g Z.L Z.fd Z.It Z.D Z.ws Z.ns Z.cD Z.oI Z.K Z.s Z.Z6.Q Z.E Z.m Z.o Z.ob Z.oa Z.k Z.vb Z.tp1 Z.tp2 Z.tp3 Z.c1 Z.c2 Z.c3 Z.o1 Z.o2 Z.o3 Z.tn:=by
  intro W B hS rest sc hb f1 f2 f3 f4 hI0 hlen hK F hFd N FO k0 k1 da db t1 t2 t3 n1 n2 n3 h
  have hb2:some (_,_)=some (rest,sc):=hb
  clear hb
  cases hb2
  have T:=W.top
  obtain ⟨p,loose,mean,mg,mb,T⟩:=T
  have T:=T.keeps B.stays
  have X:=W.K.keeps B.stays
  have HC0:CodeHd base 464 460:=codeHd_of_K W.K (by kernel_rfl)
  have HC:=HC0.keeps B.stays
  have za1:=n1.c
  have za2:=n1.d
  have za3:=n1.e
  have za4:=n1.f
  have za5:=n1.g
  have zb1:=n2.c
  have zb2:=n2.d
  have zb3:=n2.e
  have zb4:=n2.f
  have zb5:=n2.g
  have zc1:=n3.c
  have zc2:=n3.d
  have zc3:=n3.e
  have zc4:=n3.f
  have zc5:=n3.g
  k_extra "m fill"
  w_strict (
    (try dsimp only at N)
    (try k_fold)
    k_steps
    all_goals (repeat (first|k_unfold|dsimp only))
    all_goals first
      | (rename LapJ _ _ _ _ _ _ _ _ _ _ _=>hJ8;exact h _ (lapJ_re hJ8 (by omega)))
      | (refine' h _ (lapJ_of ?F_ ?fd_ ?N_ ?hs_ ?FO_ ?k0_ ?k1_ ?da_ ?db_ ?t1_ ?t2_ ?t3_ ?n1_ ?n2_ ?n3_);(case F_|N_=>k_asm);(case t1_|t2_|t3_|n1_|n2_|n3_=>assumption);(case hs_=>k_extra "m mems");(case fd_=>k_extra "m feed");(case FO_=>assumption);(case k0_|k1_=>omega);(case da_|db_=>assumption)))
end Z.Z6
theorem zu37:Up 37:=zu36.step (by with_unfolding_all exact Z.Z6.lap_core1_core)
theorem lap_core1 (w:World) (base g:Heap) (W:Wd w base) (B:Below (Ak 90 []) base [] g) (L fd It D:Addr) (hS:(fd == sysModules)=false) (rest:List Stmt) (sc:Scope) (hb:lawRestS w=some (rest,sc)) (f1:@LT.lt Nat _ (L + 1 + 1) fd) (f2:@LT.lt Nat _ fd D) (f3:@LT.lt Nat _ D It) (f4:@LT.lt Nat _ 465 L) (ws:List Value) (ns:List Int) (cD:Nat) (hI0:IntsAre ws ns) (hlen:ns.length≤60) (oI:Obj) (K:Int) (hK:K + 30≤100000) (s:Shared) (Q:Flow→Shared→Prop) (E:Value→Shared→Prop) (m:Str→Option Value) (o ob oa:Obj) (k:Int) (vb:Option Value) (tp1 tp2 tp3:Array Value) (c1 c2 c3:Addr) (o1 o2 o3:Obj) (tn:Tok) (F:Fr g L s.heap m) (hFd:FeedIs m fd) (N:News g L s.heap (lapN L fd It D o oI (listOf (List.toArray ws) cD) ob oa tp1 tp2 tp3 c1 c2 c3 o1 o2 o3)) (FO:FeedO w o D k) (k0:0≤k) (k1:k≤K) (da:oa.data=.cell (some (.str (Str.ofString "array1d") tn))) (db:ob.data=.cell vb) (t1:T1 g c1 o1 tp1) (t2:T2 g c2 o2 tp2) (t3:T3 g c3 o3 tp3) (n1:CNe c1 (tgs fd It L)) (n2:CNe c2 (tgs fd It L)) (n3:CNe c3 (tgs fd It L)) (h:∀ s',LapJ w g L fd It D oI (listOf (List.toArray ws) cD) (K + 30) s s'→Q .next s'):wpAny (model PySem.Challenge.rw_nz0031_01.row.prog w) ((Ak 90 []).deeper (envOfC (Str.ofString "law") sc L 465 (.ref 464))) (execs rest (envOfC (Str.ofString "law") sc L 465 (.ref 464))) Q E s :=
  zu37.at { Zd with w,base,L,fd,It,D,s,E,o,k,tn,r:={ Zd.r with g,ws,ns,cD,oI,K,Q_1:=Q,m,ob,oa,vb,tp1,tp2,tp3,c1,c2,c3,o1,o2,o3 } } W B hS rest sc hb f1 f2 f3 f4 hI0 hlen hK F hFd N FO k0 k1 da db t1 t2 t3 n1 n2 n3 h
theorem zu38:Up 38:=zu37.step (by with_unfolding_all exact Z.Z6.lap_core2_core)
theorem lap_core2 (w:World) (base g:Heap) (W:Wd w base) (B:Below (Ak 90 []) base [] g) (L fd It D:Addr) (hS:(fd == sysModules)=false) (rest:List Stmt) (sc:Scope) (hb:lawRestS w=some (rest,sc)) (f1:@LT.lt Nat _ (L + 1 + 1) fd) (f2:@LT.lt Nat _ fd D) (f3:@LT.lt Nat _ D It) (f4:@LT.lt Nat _ 465 L) (ws:List Value) (ns:List Int) (cD:Nat) (hI0:IntsAre ws ns) (hlen:ns.length≤60) (oI:Obj) (K:Int) (hK:K + 30≤100000) (s:Shared) (Q:Flow→Shared→Prop) (E:Value→Shared→Prop) (m:Str→Option Value) (o ob oa:Obj) (k:Int) (vb:Option Value) (tp1 tp2 tp3:Array Value) (c1 c2 c3:Addr) (o1 o2 o3:Obj) (tn:Tok) (F:Fr g L s.heap m) (hFd:FeedIs m fd) (N:News g L s.heap (lapN L fd It D o oI (listOf (List.toArray ws) cD) ob oa tp1 tp2 tp3 c1 c2 c3 o1 o2 o3)) (FO:FeedO w o D k) (k0:0≤k) (k1:k≤K) (da:oa.data=.cell (some (.str (Str.ofString "array2d") tn))) (db:ob.data=.cell vb) (t1:T1 g c1 o1 tp1) (t2:T2 g c2 o2 tp2) (t3:T3 g c3 o3 tp3) (n1:CNe c1 (tgs fd It L)) (n2:CNe c2 (tgs fd It L)) (n3:CNe c3 (tgs fd It L)) (h:∀ s',LapJ w g L fd It D oI (listOf (List.toArray ws) cD) (K + 30) s s'→Q .next s'):wpAny (model PySem.Challenge.rw_nz0031_01.row.prog w) ((Ak 90 []).deeper (envOfC (Str.ofString "law") sc L 465 (.ref 464))) (execs rest (envOfC (Str.ofString "law") sc L 465 (.ref 464))) Q E s :=
  zu38.at { Zd with w,base,L,fd,It,D,s,E,o,k,tn,r:={ Zd.r with g,ws,ns,cD,oI,K,Q_1:=Q,m,ob,oa,vb,tp1,tp2,tp3,c1,c2,c3,o1,o2,o3 } } W B hS rest sc hb f1 f2 f3 f4 hI0 hlen hK F hFd N FO k0 k1 da db t1 t2 t3 n1 n2 n3 h
end
section
example:True:=by
  k_with "r304"=>(skip)
  k_with "w k_ne"=>((fail_if_success k_extra "r320");k_extra "y70")
  trivial
namespace Z
theorem lap_ok_core:lap_ok_P Z.w Z.base Z.g Z.L Z.fd Z.It Z.D Z.ws Z.ns Z.cD Z.n Z.i Z.K Z.s0 Z.h':=by
  intro W B hS body sc hb f1 f2 f3 f4 hI0 hlen hK s₁ J hit hs
  have hb2:some (_,_)=some (body,sc):=hb
  clear hb
  cases hb2
  obtain ⟨h,tk,m,o,k,ob,oa,va,vb,tp1,tp2,tp3,c1,c2,c3,o1,o2,o3,rfl,F0,hFd,N0,FO,k0,k1,da,db,t1,t2,t3,n1,n2,n3⟩:=J
  have T:=W.top
  obtain ⟨p,loose,mean,mg,mb,T⟩:=T
  have T:=T.keeps B.stays
  have X:=W.K.keeps B.stays
  have za3:=n1.e
  have za4:=n1.f
  have za5:=n1.g
  have zb3:=n2.e
  have zb4:=n2.f
  have zb5:=n2.g
  have zc3:=n3.e
  have zc4:=n3.f
  have zc5:=n3.g
  have za2:=n1.d
  have zb2:=n2.d
  have zc2:=n3.d
  k_extra "m fill"
  w_strict (
    (have FN:=upd_it F0 N0 (o':=itR (0 + ((i + 1:Nat):Int)) ((n:Int) - ((i + 1:Nat):Int))) (by k_updF) hs hit)
    (obtain ⟨F,N⟩:=FN)
    (try dsimp only at N)
    clear F0 N0
    (try k_fold)
    repeat' ((fail_if_success (with_reducible show wpAny _ _ (subscriptTail (Expr.Tuple (_::_) _ _) (Expr.Call _ _ _ _) (Value.ref _) (Value.int _ _)) _ _ _));first|(k_unfold;(try dsimp only))|(k_end;wrow_close)|walk1|(dsimp only;walk1)|(leave1;walk_say "STEP leave1";try dsimp only)|fail "no step")
    walk_at "subscriptTail Tuple cons Call ref int"
    case' p_ =>
      repeat' ((fail_if_success (with_reducible show wpAny _ _ (execs (Stmt.Assign _ _ _::_::_) _) _ _ _));first|(k_unfold;(try dsimp only))|(k_end;wrow_close)|walk1|(dsimp only;walk1)|(leave1;walk_say "STEP leave1";try dsimp only)|fail "no step")
      (refine' lap_core1 w base g W B L fd It D hS _ _ ?hbp_ f1 f2 f3 f4 ws ns cD hI0 hlen _ (K + 1) ?hKp_ _ _ _ _ _ _ _ _ _ _ _ _ _ _ _ _ _ _ _ ?Fp_ ?fdp_ (news_sub ?Np_ ?hsp_) ?FOp_ ?k0p_ ?k1p_ ?dap_ ?dbp_ ?t1p_ ?t2p_ ?t3p_ ?n1p_ ?n2p_ ?n3p_ ?_)
      (case hbp_=>exact rfl)
      (case hKp_=>omega)
      (case Fp_=>k_asm)
      (case FOp_=>assumption)
      (case fdp_=>k_extra "m feed")
      (case Np_=>k_asm)
      (case k0p_|k1p_=>omega)
      (case dap_=>assumption)
      (case dbp_=>exact db)
      (case t1p_|t2p_|t3p_|n1p_|n2p_|n3p_=>assumption)
      (case hsp_=>k_extra "m mems")
      (intro s' J';exact ⟨.inl rfl,lapJ_re J' (by omega)⟩)
    case' q_ =>
      repeat' ((fail_if_success (with_reducible show wpAny _ _ (execs (Stmt.Assign _ _ _::_::_) _) _ _ _));first|(k_unfold;(try dsimp only))|(k_end;wrow_close)|walk1|(dsimp only;walk1)|(leave1;walk_say "STEP leave1";try dsimp only)|fail "no step")
      (refine' lap_core2 w base g W B L fd It D hS _ _ ?hbq_ f1 f2 f3 f4 ws ns cD hI0 hlen _ (K + 1) ?hKq_ _ _ _ _ _ _ _ _ _ _ _ _ _ _ _ _ _ _ _ ?Fq_ ?fdq_ (news_sub ?Nq_ ?hsq_) ?FOq_ ?k0q_ ?k1q_ ?daq_ ?dbq_ ?t1q_ ?t2q_ ?t3q_ ?n1q_ ?n2q_ ?n3q_ ?_)
      (case hbq_=>exact rfl)
      (case hKq_=>omega)
      (case Fq_=>k_asm)
      (case FOq_=>assumption)
      (case fdq_=>k_extra "m feed")
      (case Nq_=>k_asm)
      (case k0q_|k1q_=>omega)
      (case daq_=>assumption)
      (case dbq_=>exact db)
      (case t1q_|t2q_|t3q_|n1q_|n2q_|n3q_=>assumption)
      (case hsq_=>k_extra "m mems")
      (intro s' J';exact ⟨.inl rfl,lapJ_re J' (by omega)⟩))
end Z
theorem zu39:Up 39:=zu38.step (by with_unfolding_all exact Z.lap_ok_core)
theorem lap_ok (w:World) (base g:Heap) (W:Wd w base) (B:Below (Ak 90 []) base [] g) (L fd It D:Addr) (hS:(fd == sysModules)=false) (body:List Stmt) (sc:Scope) (hb:lawBodyS w=some (body,sc)) (f1:@LT.lt Nat _ (L + 1 + 1) fd) (f2:@LT.lt Nat _ fd D) (f3:@LT.lt Nat _ D It) (f4:@LT.lt Nat _ 465 L) (ws:List Value) (ns:List Int) (cD:Nat) (hI0:IntsAre ws ns) (hlen:ns.length≤60) (n i:Nat) (K:Int) (hK:K + 31≤100000) (s0 s₁:Shared) (h':Heap) (J:LapJ w g L fd It D (itR (0 + (i:Int)) ((n:Int) - (i:Int))) (listOf (List.toArray ws) cD) K s0 s₁) (hit:IsRangeIter h' It (0 + ((i + 1:Nat):Int)) ((n:Int) - ((i + 1:Nat):Int)) 1) (hs:Heap.SameBut It s₁.heap h'):wpAny (model PySem.Challenge.rw_nz0031_01.row.prog w) ((Ak 90 []).deeper (envOfC (Str.ofString "law") sc L 465 (.ref 464))) (storeName (envOfC (Str.ofString "law") sc L 465 (.ref 464)) (Str.ofString "lap") (.int (0 + (i:Int)) s₁.toks))
      (fun _ s₂=>wpAny (model PySem.Challenge.rw_nz0031_01.row.prog w) ((Ak 90 []).deeper (envOfC (Str.ofString "law") sc L 465 (.ref 464))) (execs body (envOfC (Str.ofString "law") sc L 465 (.ref 464))) (fun f s₃=>(f=.next∨f=.cont)∧LapJ w g L fd It D (itR (0 + ((i + 1:Nat):Int)) ((n:Int) - ((i + 1:Nat):Int))) (listOf (List.toArray ws) cD) (K + 31) s0 s₃) (fun _ _=>False) s₂)
      (fun _ _=>False) { s₁ with heap:=h',toks:=s₁.toks + 1 } :=
  zu39.at { Zd with w,base,L,fd,It,D,r:={ Zd.r with g,ws,ns,cD,n,i,K,s0,h' } } W B hS body sc hb f1 f2 f3 f4 hI0 hlen hK s₁ J hit hs
end
example:True:=by
  k_with "r303"=>(skip)
  k_with "r320"=>(skip)
  trivial
theorem law_loop {ws:List Value} {c:Nat} {lo ob:Obj} {va vb:Option Value} {R:Result→Shared→Prop}
    (W:Wd w base) (B:Below (Ak 90 []) base [] g0) (F:Fr g0 L h m)
    (N:News g0 L h [(D,listOf (List.toArray ws) c),(D1,lo),(fd,o),(L + 1 + 1,ob),(L + 1,oa),(441,tabObj #[]),(448,tabObj #[]),(460,tabObj #[])])
    (hFd:FeedIs m fd) (hS:(fd == sysModules)=false) (FO:FeedO w o D 0) (hI:IntsAre ws ns) (hl:ns.length≤60) (da:oa.data=.cell va) (db:ob.data=.cell vb)
    (f1:@LT.lt Nat _ (L + 1 + 1) fd) (f2:@LT.lt Nat _ fd D) (f4:@LT.lt Nat _ 465 L) (hb:lawBodyS w=some (body,sc))
    (done:∀ h' tk m' tp1 tp2 tp3,Fr g0 L h' m'→News g0 L h' [(441,tabObj tp1),(448,tabObj tp2),(460,tabObj tp3)]→R (.ok .next) { s with heap:=h',toks:=tk }) :
    codeAny (model PySem.Challenge.rw_nz0031_01.row.prog w) ((Ak 90 []).deeper (envOfC (Str.ofString "law") sc L 465 (.ref 464))) (.forLoop (.Name (Str.ofString "lap") px) (.ref h.objs.size) body [] (envOfC (Str.ofString "law") sc L 465 (.ref 464))) R
      { s with heap:=h.push { cls:=.type "range_iterator",data:=.fields #[rawInt 0,rawInt (Builtin.Range.rangeSize 0 5 1),rawInt 1] },toks:=tk }:=by
  have f3:@LT.lt Nat _ D h.objs.size:=Heap.lt_size (N _ (.head _)).1
  have lL:@LT.lt Nat _ L h.objs.size:=F.ns.lt
  have f1':@LT.lt Nat _ (Nat.succ (Nat.succ L)) fd:=f1
  have F':=F.push (itR (0 + ((0:Nat):Int)) (((5:Nat):Int) - ((0:Nat):Int)))
  have N':=News.push F N (itR (0 + ((0:Nat):Int)) (((5:Nat):Int) - ((0:Nat):Int)))
  have N2:News g0 L (h.push (itR (0 + ((0:Nat):Int)) (((5:Nat):Int) - ((0:Nat):Int)))) (lapN L fd h.objs.size D o (itR (0 + ((0:Nat):Int)) (((5:Nat):Int) - ((0:Nat):Int))) (listOf (List.toArray ws) c) ob oa #[] #[] #[] D D D (listOf (List.toArray ws) c) (listOf (List.toArray ws) c) (listOf (List.toArray ws) c)) :=
    fc (N' _ (by k_mem)) (fc (N' _ (by k_mem)) (fc (N' _ (by k_mem)) (fc (N' _ (by k_mem)) (fc (N' _ (by k_mem)) (fc (N' _ (by k_mem)) (fc (N' _ (by k_mem)) (fc (N' _ (by k_mem)) (fc (N' _ (by k_mem)) (fc (N' _ (by k_mem)) (fc (N' _ (by k_mem)) (List.forall_mem_nil _)))))))))))
  have nz:CNe D (tgs fd h.objs.size L):=by
    have z:@LT.lt Nat _ L D:=Nat.lt_trans (Nat.lt_trans (Nat.lt_succ_of_lt (Nat.lt_succ_self L)) f1') f2
    have z1:@LT.lt Nat _ 465 D:=Nat.lt_trans f4 z
    have z2:@LT.lt Nat _ (L + 1 + 1) D:=Nat.lt_trans f1 f2
    have z3:@LT.lt Nat _ (L + 1) D:=Nat.lt_trans (Nat.lt_succ_self _) z2
    exact fc (Nat.ne_of_gt (Nat.lt_trans (by decide) z1)) (fc (Nat.ne_of_gt (Nat.lt_trans (by decide) z1)) (fc (Nat.ne_of_gt (Nat.lt_trans (by decide) z1)) (fc (Nat.ne_of_gt f2) (fc (Nat.ne_of_lt f3) (fc (Nat.ne_of_gt z2) (fc (Nat.ne_of_gt z3) (List.forall_mem_nil _)))))))
  refine forR rfl 0 5 (J:=fun i s'=>LapJ w g0 L fd h.objs.size D (itR (0 + (i:Int)) (((5:Nat):Int) - (i:Int))) (listOf (List.toArray ws) c) (31 * (i:Int)) s s') ?_ ?_ ?_ ?_
  · exact ⟨_,_,m,o,0,ob,oa,va,vb,#[],#[],#[],D,D,D,_,_,_,rfl,F',hFd,N2,FO,by omega,by omega,da,db,.inl rfl,.inl rfl,.inl rfl,nz,nz,nz⟩
  · rintro i s' ⟨h',tk',m',o',k',ob',oa',va',vb',tp1,tp2,tp3,c1,c2,c3,o1,o2,o3,rfl,_,_,N1,_⟩
    exact (N1 _ (.tail _ (.head _))).1
  · rintro i s' h' hi J hit hs
    have e1:(31:Int) * ((i + 1:Nat):Int)=31 * (i:Int) + 31:=by push_cast;omega
    simp only [e1]
    exact lap_ok w base g0 W B L fd h.objs.size D hS body sc hb f1 f2 f3 f4 ws ns c hI hl 5 i (31 * (i:Int)) (by omega) s s' h' J hit hs
  · rintro s' h' ⟨h1,tk',m',o',k',ob',oa',va',vb',tp1,tp2,tp3,c1,c2,c3,o1,o2,o3,rfl,F1,_,N1,_⟩ he
    have nI:=N1 _ (.tail _ (.head _))
    have F2:Fr g0 L h' m':=⟨F1.ns.extBut he (Nat.ne_of_lt lL),fun b ob e=>he b ob (fun z=>by rw [z,nI.2.2] at e;cases e) (F1.keep b ob e),F1.above⟩
    have kb:∀ p∈lapN L fd h.objs.size D o' _ _ ob' oa' tp1 tp2 tp3 c1 c2 c3 o1 o2 o3,@LT.lt Nat _ p.1 h.objs.size→h'.get? p.1=some p.2∧p.1≠L∧g0.get? p.1=none:=fun p hp hlt=>⟨he _ _ (Nat.ne_of_lt hlt) (N1 p hp).1,(N1 p hp).2⟩
    have z1:@LT.lt Nat _ 465 h.objs.size:=Nat.lt_trans f4 lL
    exact done h' tk' m' tp1 tp2 tp3 F2 (fc (kb _ (by k_mem) (Nat.lt_trans (show @LT.lt Nat _ 441 465 by decide) z1)) (fc (kb _ (by k_mem) (Nat.lt_trans (show @LT.lt Nat _ 448 465 by decide) z1)) (fc (kb _ (by k_mem) (Nat.lt_trans (show @LT.lt Nat _ 460 465 by decide) z1)) (List.forall_mem_nil _))))
theorem len60:(List.take (Int.toNat 60) ns).length≤60:=by rw [List.length_take];exact Nat.min_le_left _ _
section
example:True:=by
  k_with "r288"=>(skip)
  k_with "r317"=>(skip)
  k_with "r270"=>(skip)
  k_with "r271"=>(skip)
  k_with "r305"=>(skip)
  k_with "r309"=>(skip)
  k_with "r316"=>(skip)
  k_with "r318"=>(skip)
  k_with "w k_lt $h:ident"=>((fail_if_success k_extra "r321");k_extra "y69")
  k_with "w k_ne"=>((fail_if_success k_extra "r322");k_extra "y70")
  k_with "m enter"=>(k_extra "y45")
  k_with "m enterH"=>(k_extra "y46")
  k_with "w callWith ref"=>((fail_if_success k_extra "r325");k_extra "y118")
  k_with "y185"=>((k_here;(with_reducible show wpAny _ _ (subscriptTail _ (PySem.Expr.Slice _ _ none _) (Value.ref _) (Value.ref _)) _ _ _);k_dflt (refine' kmk_slice_ints ?F_ ?N_ ?l_ ?p_ ?q_ ?i_ ?m_ ?c_ ?_ ?s_ ?t_ ?z_;(case F_|N_=>k_asm);(case l_=>kmk_list);(case p_|q_=>kmk_part);(case i_=>l_ints);(case m_=>kmk_nums);(case c_=>kmk_len);(case s_=>with_unfolding_all rfl);(case t_=>kmk_pure);(case z_=>assumption);k_whole);intro D' ws' h' F' N' l1 i1' i2' i3';(try dsimp only);(try k_lt l1)))
  k_with "w subscriptTail Name Slice ref ref"=>((fail_if_success k_extra "r326");k_extra "y185")
  trivial
namespace Z.Z7
theorem law_ok_core:law_ok_P Z.w Z.base Z.s Z.Z7.R:=by
  intro sc vs ns W B hl hi hz hP hPb hR hRb hT hTb hret
  have hN:∀ p∈[(441,tabObj #[]),(448,tabObj #[]),(460,tabObj #[])],s.heap.get? p.1=some p.2∧base.get? p.1=none∧p.1∉([]:List Env).filterMap (·.frame):=fc ⟨hP,hPb,List.not_mem_nil⟩ (fc ⟨hR,hRb,List.not_mem_nil⟩ (fc ⟨hT,hTb,List.not_mem_nil⟩ (List.forall_mem_nil _)))
  have hl2:(hideAll s.heap [441,448,460]).IsList sc vs.toArray:=by
    obtain ⟨o,e,h1,h2⟩:=hl
    refine ⟨o,hideAll_get _ e ?_,h1,h2⟩
    simp only [List.mem_cons,List.not_mem_nil,or_false,not_or]
    refine ⟨fun z=>?_,fun z=>?_,fun z=>?_⟩
    · rw [z,hP] at e;cases e;cases h1
    · rw [z,hR] at e;cases e;cases h1
    · rw [z,hT] at e;cases e;cases h1
  have HC0:CodeHd base 464 460:=codeHd_of_K W.K (by kernel_rfl)
  have f465:@LT.lt Nat _ 465 s.heap.objs.size:=by
    have e1:((Kt w.params).lookup 465).isSome=true:=by kernel_rfl
    obtain ⟨o,ho⟩:=Option.isSome_iff_exists.mp e1
    exact Heap.lt_size ((W.K.keeps B.stays) _ _ ho)
  k_extra "m fill"
  w_strict (
    k_dflt (refine' enterC (binds:=[(Str.ofString "script",.ref sc)]) W B _ hN ?ho_ ?hcd_ ?hroom_ ?hbind_ ?hkind_ ?hnd_ ?_ ?c2_ ?c3_ ?c4_);
    (case ho_=>k_is);
    (case hcd_=>k_is);
    (case hroom_=>exact Nat.le_of_ble_eq_true rfl);
    (case hbind_=>exact BindsTo.of_eq rfl);
    (case hkind_=>exact kindsX rfl);
    (case hnd_=>decide +kernel);
    (case c2_=>exact rfl);
    (case c3_=>exact rfl);
    (case c4_=>exact rfl);
    intro L h₁ p loose mean mg mb cells F N Y Bl X T lt eL tk;subst eL;
    (dsimp only [List.map] at F N Bl X T);
    (simp only [AllLt,and_true] at lt);
    (obtain ⟨ob,oa,hE,db0,da0⟩:=CellsAre.two Y);
    subst hE;clear Y;
    (have da:oa.data=.cell none:=da0);
    (have db:ob.data=.cell none:=db0);
    clear da0 db0;
    (try simp only [List.cons_append,List.nil_append] at N);
    have HC:CodeHd _ 464 460:=CodeHd.keeps HC0 (Below.stays Bl);
    (try k_fold)
    repeat' ((fail_if_success (with_reducible show wpAny _ _ (exec (Stmt.For _ _ _ _ _) _) _ _ _));first|(k_unfold;(try dsimp only))|(k_end;wrow_close)|walk1|(dsimp only;walk1)|(leave1;walk_say "STEP leave1";try dsimp only)|fail "no step")
    refine wpAny_For ?_ (fun _=>by with_unfolding_all rfl)
    repeat' ((fail_if_success (with_reducible show wpAny _ _ (pyIter _) _ _ _));first|(k_unfold;(try dsimp only))|(k_end;wrow_close)|walk1|(dsimp only;walk1)|(leave1;walk_say "STEP leave1";try dsimp only)|fail "no step")
    (rename IsRange _ _ _ _ _ _ _ _=>hrg)
    refine wpAny_pyIter_range hrg (by decide) ?_
    (refine' law_loop ?W_ ?B_ ?F_ ?N_ ?fd_ ?hS_ ?FO_ ?hI_ ?hl_ ?da_ ?db_ ?f1_ ?f2_ ?f4_ ?hb_ ?_)
    (case W_|B_|F_|N_=>assumption)
    (case fd_=>exact rfl)
    (case hS_=>assumption)
    (case FO_=>exact ⟨_,by assumption⟩)
    (case hI_=>assumption)
    (case hl_=>exact len60)
    (case da_|db_=>assumption)
    (case f1_|f2_=>omega)
    (case f4_=>exact Nat.lt_of_lt_of_eq f465 rfl)
    (case hb_=>exact rfl)
    intro h' tk' m' tp1 tp2 tp3 F' N'
    (try dsimp only)
    k_steps
    all_goals (repeat (first|k_unfold|dsimp only))
    exact hret _ _ (fun b o nb e=>Fr.keep (by assumption) b o (hideAll_get _ e nb)) ⟨_,News.get (by assumption) (by k_mem)⟩ ⟨_,News.get (by assumption) (by k_mem)⟩ ⟨_,News.get (by assumption) (by k_mem)⟩)
end Z.Z7
theorem zu40:Up 40:=zu39.step (by with_unfolding_all exact Z.Z7.law_ok_core)
theorem law_ok (w:World) (base:Heap) (s:Shared) (R:Result→Shared→Prop) (sc:Addr) (vs:List Value) (ns:List Int) (W:Wd w base) (B:Below (Ak 90 []) base [] s.heap) (hl:s.heap.IsList sc vs.toArray) (hi:IntsAre vs ns) (hz:vs.toArray.size≤sizeLine) (hP:s.heap.get? 441=some (tabObj #[])) (hPb:base.get? 441=none) (hR:s.heap.get? 448=some (tabObj #[])) (hRb:base.get? 448=none) (hT:s.heap.get? 460=some (tabObj #[])) (hTb:base.get? 460=none) (hret:∀ h' tk,(∀ b o,b∉[441,448,460]→s.heap.get? b=some o→h'.get? b=some o)→(∃ ps,h'.get? 441=some (tabObj ps))→(∃ ps,h'.get? 448=some (tabObj ps))→(∃ ps,h'.get? 460=some (tabObj ps))→R (.ok (.ret (.bool true))) { s with heap:=h',toks:=tk }):codeAny (model PySem.Challenge.rw_nz0031_01.row.prog w) (Ak 90 []) (.call (.ref 465) ⟨[.ref sc],[]⟩) R s :=
  zu40.at { Zd with w,base,s,r:={ Zd.r with R_1:=R } } sc vs ns W B hl hi hz hP hPb hR hRb hT hTb hret
end
example:True:=by
  k_with "r285"=>(skip)
  k_with "r321"=>(skip)
  k_with "r322"=>(skip)
  trivial
theorem ads_no:∀ a∈ads,a∉[441,448,460]:=by decide +kernel
theorem ghost_wd (hT:TabsAt [(445,441),(450,448),(464,460)] s₁.heap) (KX:(K1 w.params).In s₁.heap) (T:Top p loose mean mg mb s₁.heap):Wd w (ghostOf s₁.heap [(445,441),(450,448),(464,460)]) :=
  ⟨K1_in KX fun a o ha e=>ghost_ne e (ads_no a ha),_,_,_,_,_,ghost_top hT T⟩
theorem ghost_bel {tabs:List (Addr×Addr)}:Below (Ak n []) (ghostOf h tabs) [] h:=⟨rfl,fun b o e=>of_hideAll _ e,trivial⟩
theorem caller_weak {α:Type} {t:Sem α} {Q:α→Shared→Prop} (h:wpAny M (Ak 90 []) t Q E s):wpAny M callerA t Q E s :=
  wpAny_weak (A:=callerA) (A':=Ak 90 []) rfl (Nat.le_of_ble_eq_true rfl) (fun l e=>e) (fun l e=>by cases e) (Nat.le_of_ble_eq_true rfl) h
theorem fa_is {fa:Addr} (KX:(K1 w.params).In h) (G:h.Ns mainGlobals mg) (hm:mg (Str.ofString "law")=some (.ref fa)):fa=465:=by
  have e:=mg_of KX G (show nsIn (K1 w.params) mainGlobals (Str.ofString "law")=some (some (.ref 465)) by kernel_rfl)
  rw [hm] at e
  injection e with e
  injection e
theorem few (hI:IntsAre vs ns) (h:¬ (63:Int) < (ns.length:Int)):vs.toArray.size≤sizeLine:=by
  rw [List.size_toArray,hI.length,sizeLine_eq];omega
example:True:=by
  k_with "r325"=>(skip)
  k_with "r289"=>(skip)
  k_with "r290"=>(skip)
  k_with "r291"=>(skip)
  k_with "r292"=>(skip)
  k_with "r293"=>(skip)
  k_with "r326"=>(skip)
  trivial
end Mine
open Mine in
set_option maxHeartbeats 8000000 in
theorem PySem.Challenge.cw_nz0031_01_holds : PySem.Challenge.rw_nz0031_01.Holds := by
  w_on
  refine holds_law said0 fun said=>?_
  refine holds_open (q:=q0) (loose:=loose0) (Xt:=Xt0) (XP:=XL q0 []) (Yf:=Hook.obs H0) (Ya:=Hook.val H0) (YP:=Hook.says H0) (N:=6100) left1 (Hook.of H0) (Hook.keeps H0) (fun s e=>xl_of s (Bool.and_eq_true_iff.mp e).1) XL.keeps (by rfl) (by rfl) (by rfl) (fun s e=>recFacts_of (Bool.and_eq_true_iff.mp e).2) (by rfl) said (by kernel_rfl) prom0 ?hw_ ?hc_
  case hw_=>w_witness2
  case hc_ =>
    w_strict (
    intro w s₀ s₁ mg mb G Y fa o pm cd doc dV kV ho hd hcd hD hmg hg args vals as hpre hlay hrd hwl hlo
    have KX:=kIn_of Y
    refine Ground.open G ?_
    intro T B D TE TW
    have hfa:=fa_is KX T.g hmg
    subst hfa
    clear hmg hD hcd hd ho D
    have hT9:TabsAt [(445,441),(450,448),(464,460)] s₁.heap:=List.forall_mem_cons.mpr ⟨⟨codeHd_of_K (c:=445) (P:=441) KX (by kernel_rfl),KX _ _ (by kernel_rfl)⟩,List.forall_mem_cons.mpr ⟨⟨codeHd_of_K (c:=450) (P:=448) KX (by kernel_rfl),KX _ _ (by kernel_rfl)⟩,List.forall_mem_cons.mpr ⟨⟨codeHd_of_K (c:=464) (P:=460) KX (by kernel_rfl),KX _ _ (by kernel_rfl)⟩,List.forall_mem_nil _⟩⟩⟩
    wrow_args hpre hlay hrd hwl hlo
    all_goals (
      refine caller_weak (enter_call (kn_post hT9 (fun _ _=>rfl) ?_))
      refine law_ok w (ghostOf s₁.heap [(445,441),(450,448),(464,460)]) s₁ _ _ _ _ (ghost_wd hT9 KX T) ghost_bel (by assumption) (by assumption) (few (by assumption) (by assumption)) (hT9 (445,441) (.head _)).2 (hideAll_none _ (.head _)) (hT9 (450,448) (.tail _ (.head _))).2 (hideAll_none _ (.tail _ (.head _))) (hT9 (464,460) (.tail _ (.tail _ (.head _)))).2 (hideAll_none _ (.tail _ (.tail _ (.head _)))) fun h' tk hk hp1 hp2 hp3=>?_
      refine ⟨⟨.inl ⟨.bool true,.bool true,[],rfl,fun _=>rfl,.bool true,?post_,fun _=>⟨List.nodup_nil,fun _ h=>nomatch h⟩⟩,fun b o e=>hk b o (fun hm=>?_) (of_hideAll _ e),rfl,hg⟩,hp1,hp2,hp3,trivial⟩
      (case post_=>exact postW_of rfl (w_eq_bool (w_res rfl) w_lit) rfl)
      have e2:(hideAll s₁.heap [441,448,460]).get? b=some o:=e
      rw [hideAll_none _ hm] at e2;cases e2))
