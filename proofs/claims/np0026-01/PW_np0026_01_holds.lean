import PyProof.Rows.All
import Wide.All
import OpenK.AllK
import Wide.FinOn
import PySem.Challenge.RW_np0026_01
open PySem PySem.W PyProof.Rows
set_option Elab.async false
set_option maxRecDepth 100000
set_option linter.all false
namespace Mine
open PySem PySem.W PySem.Spec PySem.Calls PyProof.Rows
noncomputable def nt (l : List Stmt) (i : Nat) : Stmt := (l.drop i).headD (.Pass ⟨0, 0, 0, 0⟩)
noncomputable def ms (i : Nat) : Stmt := nt PySem.Challenge.pw_np0026_01.main.body i
noncomputable def fA : Stmt → Arguments
  | .FunctionDef _ a _ _ _ _ _ _ _ _ => a
  | _ => ⟨[], [], none, [], [], none, []⟩
noncomputable def fB : Stmt → List Stmt
  | .FunctionDef _ _ b _ _ _ _ _ _ _ => b
  | _ => []
noncomputable def fS : Stmt → Scope
  | .FunctionDef _ _ _ _ _ _ s _ _ _ => s
  | _ => ⟨.function, [], false, false, []⟩
noncomputable def cB : Stmt → List Stmt
  | .ClassDef _ _ _ b _ _ _ _ _ _ _ => b
  | _ => []
noncomputable def en (P : Params) (k : Str) (t : Tok) (v : Value) : DictEntry := ⟨PyData.keyHash P k, .str k t, v⟩
noncomputable abbrev hd.pE : Program := (OpenRow.toRowW (OpenLaw.row PySem.Challenge.rw_np0026_01)).1
noncomputable def o43 (P : Params) : Obj := ⟨(.type "tuple"), none, (.seq #[] 0), #[]⟩
noncomputable def o44 (P : Params) : Obj := ⟨.none, none, (.fields #[]), #[]⟩
noncomputable def o45 (P : Params) : Obj := ⟨(.type "code"), none, (.fields #[(.str "<module>" 182), (.str "<module>" 183), (.str "/claim/cut.py" 184), (.int 1 0), (.int 0 0), (.int 0 0), (.int 0 0), (.int 0 0), (.ref 11), (.bool false), (.int 181 0), (.ref 12), .none, .none, .none, .none, (.int 185 0), (.int 1 0), (.str "/claim/cut.py" 186)]), #[]⟩
noncomputable def o46 (P : Params) : Obj := ⟨(.type "frame"), none, .plain, #[(some (.ref 13)), (some (.ref 3)), (some (.ref 3)), none, (some (.str "__main__" 164)), none, (some (.ref 0))]⟩
noncomputable def o49 (P : Params) : Obj := ⟨.none, none, (.dict #[en P "type.__subclasses__.Exception.0" 216 (.int 31 0), en P "type.__subclasses__.Exception.n" 217 (.int 1 0)] 2), #[]⟩
noncomputable def o50 (P : Params) : Obj := ⟨(.type "dict"), none, (.dict #[en P "__name__" 165 (.str "emacs.modes" 220), en P "__doc__" 166 .none, en P "__package__" 167 .none, en P "__loader__" 168 (.builtin "__main__.__loader__#opaque"), en P "__spec__" 169 .none, en P "__annotations__" 170 (.ref 6), en P "__builtins__" 171 (.ref 4), en P "__file__" 173 (.str "/claim/cut.py" 172), en P "__cached__" 174 .none, en P "LispSignal" 219 (.ref 31), en P "CHANGE" 223 (.int 0 222), en P "KILL" 225 (.int 1 224), en P "BODY" 227 (.int 2 226), en P "HOOK" 229 (.int 3 228), en P "BEHIND" 231 (.int 4 230)] 15), #[]⟩
noncomputable def o51 (P : Params) : Obj := ⟨.none, none, (.fields #[(.int 2 0), (.int 0 0), (.ref 20)]), #[]⟩
noncomputable def o52 (P : Params) : Obj := ⟨(.type "tuple"), none, (.seq #[(.type "Exception")] 0), #[]⟩
noncomputable def o53 (P : Params) : Obj := ⟨(.type "builtin_function_or_method"), none, (.fields #[(.builtin "type.__prepare__"), (.type "type")]), #[]⟩
noncomputable def o54 (P : Params) : Obj := ⟨(.type "dict"), none, (.dict #[en P "__module__" 196 (.str "emacs.errors" 187), en P "__qualname__" 198 (.str "LispSignal" 197), en P "__firstlineno__" 200 (.int 2 199), en P "__init__" 209 (.ref 28), en P "__static_attributes__" 212 (.ref 29)] 5), #[]⟩
noncomputable def o55 (P : Params) : Obj := ⟨(.type "tuple"), none, (.seq #[] 0), #[]⟩
noncomputable def o56 (P : Params) : Obj := ⟨.none, none, (.fields #[(.int 4 0), (.int 4 0), (.ref 27)]), #[]⟩
noncomputable def o57 (P : Params) : Obj := ⟨(.type "code"), none, (.fields #[(.str "LispSignal" 191), (.str "LispSignal" 192), (.str "/claim/cut.py" 193), (.int 2 0), (.int 0 0), (.int 0 0), (.int 0 0), (.int 0 0), (.ref 18), (.bool false), (.int 181 0), (.ref 19), .none, .none, .none, .none, (.int 194 0), (.int 2 0), (.str "/claim/cut.py" 195)]), #[]⟩
noncomputable def o58 (P : Params) : Obj := ⟨(.type "frame"), none, .plain, #[(some (.ref 20)), (some (.ref 3)), (some (.ref 17)), none, (some (.str "emacs.errors" 187)), none, (some (.ref 0))]⟩
noncomputable def o59 (P : Params) : Obj := ⟨(.type "tuple"), none, (.seq #[] 0), #[]⟩
noncomputable def o60 (P : Params) : Obj := ⟨.none, none, (.fields #[]), #[]⟩
noncomputable def o61 (P : Params) : Obj := ⟨(.type "tuple"), none, (.seq #[(.str "self" 204), (.str "symbol" 205), (.str "data" 206)] 0), #[]⟩
noncomputable def o62 (P : Params) : Obj := ⟨(.type "tuple"), none, (.seq #[] 0), #[]⟩
noncomputable def o63 (P : Params) : Obj := ⟨.none, none, (.func ⟨"__init__", "LispSignal.__init__", (fA (nt (cB (ms 1)) 0)), (.stmts (fB (nt (cB (ms 1)) 0))), (fS (nt (cB (ms 1)) 0)), 0, [], .none, .none, .none, .none, none, .none, .none, 0⟩), #[]⟩
noncomputable def o64 (P : Params) : Obj := ⟨(.type "code"), none, (.fields #[(.str "__init__" 201), (.str "LispSignal.__init__" 202), (.str "/claim/cut.py" 203), (.int 4 0), (.int 3 0), (.int 0 0), (.int 0 0), (.int 3 0), (.ref 22), (.bool true), (.int 181 0), (.ref 23), .none, (.ref 24), (.ref 25), (.ref 26), (.int 207 0), (.int 4 0), (.str "/claim/cut.py" 208)]), #[]⟩
noncomputable def o65 (P : Params) : Obj := ⟨(.type "function"), none, (.func ⟨"__init__", "LispSignal.__init__", (fA (nt (cB (ms 1)) 0)), (.stmts (fB (nt (cB (ms 1)) 0))), (fS (nt (cB (ms 1)) 0)), 3, [], .none, .none, .none, (.str "emacs.errors" 187), none, (.ref 27), .none, 0⟩), #[]⟩
noncomputable def o66 (P : Params) : Obj := ⟨(.type "tuple"), none, (.seq #[(.str "data" 210), (.str "symbol" 211)] 0), #[]⟩
noncomputable def o67 (P : Params) : Obj := ⟨(.type "dict"), none, (.dict #[en P "__module__" 196 (.str "emacs.errors" 187), en P "__firstlineno__" 200 (.int 2 199), en P "__init__" 209 (.ref 28), en P "__static_attributes__" 212 (.ref 29), en P "__weakref__" 214 (.ref 32), en P "__doc__" 215 .none] 3), #[]⟩
noncomputable def o68 (P : Params) : Obj := ⟨(.type "type"), none, (.cls ⟨"LispSignal", [(.type "Exception")], [(.ref 31), (.type "Exception"), (.type "BaseException"), (.type "object")], 30, "LispSignal", true, [], [], false, none, false⟩), #[(some (.ref 15)), none, (some (.str "LispSignal" 189)), (some (.str "LispSignal" 197)), (some (.builtin "Exception.__new__")), (some (.bool true))]⟩
noncomputable def o69 (P : Params) : Obj := ⟨(.type "getset_descriptor"), none, (.fields #[(.str "__weakref__" 213), (.ref 31), (.builtin "ExceptionGroup.__weakref__"), .none]), #[]⟩
noncomputable def o70 (P : Params) : Obj := ⟨(.type "super"), none, (.fields #[(.ref 31), (.ref 31), (.ref 31)]), #[]⟩
noncomputable def o71 (P : Params) : Obj := ⟨(.type "builtin_function_or_method"), none, (.fields #[(.builtin "object.__init_subclass__"), (.ref 31)]), #[]⟩
noncomputable def o72 (P : Params) : Obj := ⟨(.type "dict"), none, (.dict #[en P "__name__" 165 (.str "emacs.modes" 220), en P "__doc__" 166 .none, en P "__package__" 167 .none, en P "__loader__" 168 (.builtin "__main__.__loader__#opaque"), en P "__spec__" 169 .none, en P "__annotations__" 170 (.ref 6), en P "__builtins__" 171 (.ref 4), en P "__file__" 173 (.str "/claim/cut.py" 172), en P "__cached__" 174 .none, en P "LispSignal" 219 (.ref 31), en P "CHANGE" 223 (.int 0 222), en P "KILL" 225 (.int 1 224), en P "BODY" 227 (.int 2 226), en P "HOOK" 229 (.int 3 228), en P "BEHIND" 231 (.int 4 230), en P "Mode" 272 (.ref 51)] 16), #[]⟩
noncomputable def o73 (P : Params) : Obj := ⟨.none, none, (.fields #[(.int 2 0), (.int 0 0), (.ref 20), (.int 13 0), (.int 0 0), (.ref 40)]), #[]⟩
noncomputable def o74 (P : Params) : Obj := ⟨(.type "tuple"), none, (.seq #[] 0), #[]⟩
noncomputable def o75 (P : Params) : Obj := ⟨(.type "builtin_function_or_method"), none, (.fields #[(.builtin "type.__prepare__"), (.type "type")]), #[]⟩
noncomputable def o76 (P : Params) : Obj := ⟨(.type "dict"), none, (.dict #[en P "__module__" 239 (.str "emacs.modes" 220), en P "__qualname__" 241 (.str "Mode" 240), en P "__firstlineno__" 243 (.int 13 242), en P "__init__" 257 (.ref 48), en P "__static_attributes__" 265 (.ref 49)] 5), #[]⟩
noncomputable def o77 (P : Params) : Obj := ⟨(.type "tuple"), none, (.seq #[] 0), #[]⟩
noncomputable def o78 (P : Params) : Obj := ⟨.none, none, (.fields #[(.int 15 0), (.int 4 0), (.ref 47)]), #[]⟩
noncomputable def o79 (P : Params) : Obj := ⟨(.type "code"), none, (.fields #[(.str "Mode" 234), (.str "Mode" 235), (.str "/claim/cut.py" 236), (.int 13 0), (.int 0 0), (.int 0 0), (.int 0 0), (.int 0 0), (.ref 38), (.bool false), (.int 181 0), (.ref 39), .none, .none, .none, .none, (.int 237 0), (.int 13 0), (.str "/claim/cut.py" 238)]), #[]⟩
noncomputable def o80 (P : Params) : Obj := ⟨(.type "frame"), none, .plain, #[(some (.ref 40)), (some (.ref 3)), (some (.ref 37)), none, (some (.str "emacs.modes" 220)), none, (some (.ref 0))]⟩
noncomputable def o81 (P : Params) : Obj := ⟨(.type "tuple"), none, (.seq #[] 0), #[]⟩
noncomputable def o82 (P : Params) : Obj := ⟨.none, none, (.fields #[]), #[]⟩
noncomputable def o83 (P : Params) : Obj := ⟨(.type "tuple"), none, (.seq #[(.str "self" 247), (.str "symbol" 248), (.str "title" 249), (.str "parent" 250), (.str "keymap" 251), (.str "syntax" 252), (.str "body" 253), (.str "hook" 254)] 0), #[]⟩
noncomputable def o84 (P : Params) : Obj := ⟨(.type "tuple"), none, (.seq #[] 0), #[]⟩
noncomputable def o85 (P : Params) : Obj := ⟨.none, none, (.func ⟨"__init__", "Mode.__init__", (fA (nt (cB (ms 8)) 0)), (.stmts (fB (nt (cB (ms 8)) 0))), (fS (nt (cB (ms 8)) 0)), 0, [], .none, .none, .none, .none, none, .none, .none, 0⟩), #[]⟩
noncomputable def o86 (P : Params) : Obj := ⟨(.type "code"), none, (.fields #[(.str "__init__" 244), (.str "Mode.__init__" 245), (.str "/claim/cut.py" 246), (.int 15 0), (.int 8 0), (.int 0 0), (.int 0 0), (.int 3 0), (.ref 42), (.bool true), (.int 181 0), (.ref 43), .none, (.ref 44), (.ref 45), (.ref 46), (.int 255 0), (.int 15 0), (.str "/claim/cut.py" 256)]), #[]⟩
noncomputable def o87 (P : Params) : Obj := ⟨(.type "function"), none, (.func ⟨"__init__", "Mode.__init__", (fA (nt (cB (ms 8)) 0)), (.stmts (fB (nt (cB (ms 8)) 0))), (fS (nt (cB (ms 8)) 0)), 3, [], .none, .none, .none, (.str "emacs.modes" 220), none, (.ref 47), .none, 0⟩), #[]⟩
noncomputable def o88 (P : Params) : Obj := ⟨(.type "tuple"), none, (.seq #[(.str "body" 258), (.str "hook" 259), (.str "keymap" 260), (.str "parent" 261), (.str "symbol" 262), (.str "syntax" 263), (.str "title" 264)] 0), #[]⟩
noncomputable def o89 (P : Params) : Obj := ⟨(.type "dict"), none, (.dict #[en P "__module__" 239 (.str "emacs.modes" 220), en P "__firstlineno__" 243 (.int 13 242), en P "__init__" 257 (.ref 48), en P "__static_attributes__" 265 (.ref 49), en P "__dict__" 267 (.ref 52), en P "__weakref__" 269 (.ref 53), en P "__doc__" 270 .none] 4), #[]⟩
noncomputable def o90 (P : Params) : Obj := ⟨(.type "type"), none, (.cls ⟨"Mode", [(.type "object")], [(.ref 51), (.type "object")], 50, "Mode", true, [], [], false, none, false⟩), #[none, none, (some (.str "Mode" 232)), (some (.str "Mode" 240)), (some (.builtin "object.__new__")), (some (.bool true))]⟩
noncomputable def o91 (P : Params) : Obj := ⟨(.type "getset_descriptor"), none, (.fields #[(.str "__dict__" 266), (.ref 51), (.builtin "function.__dict__"), (.builtin "function.__dict__#set")]), #[]⟩
noncomputable def o92 (P : Params) : Obj := ⟨(.type "getset_descriptor"), none, (.fields #[(.str "__weakref__" 268), (.ref 51), (.builtin "ExceptionGroup.__weakref__"), .none]), #[]⟩
noncomputable def o93 (P : Params) : Obj := ⟨(.type "super"), none, (.fields #[(.ref 51), (.ref 51), (.ref 51)]), #[]⟩
noncomputable def o94 (P : Params) : Obj := ⟨(.type "builtin_function_or_method"), none, (.fields #[(.builtin "object.__init_subclass__"), (.ref 51)]), #[]⟩
noncomputable def o95 (P : Params) : Obj := ⟨(.type "dict"), none, (.dict #[en P "__name__" 165 (.str "emacs.modes" 220), en P "__doc__" 166 .none, en P "__package__" 167 .none, en P "__loader__" 168 (.builtin "__main__.__loader__#opaque"), en P "__spec__" 169 .none, en P "__annotations__" 170 (.ref 6), en P "__builtins__" 171 (.ref 4), en P "__file__" 173 (.str "/claim/cut.py" 172), en P "__cached__" 174 .none, en P "LispSignal" 219 (.ref 31), en P "CHANGE" 223 (.int 0 222), en P "KILL" 225 (.int 1 224), en P "BODY" 227 (.int 2 226), en P "HOOK" 229 (.int 3 228), en P "BEHIND" 231 (.int 4 230), en P "Mode" 272 (.ref 51), en P "Minor" 309 (.ref 72)] 17), #[]⟩
noncomputable def o96 (P : Params) : Obj := ⟨.none, none, (.fields #[(.int 2 0), (.int 0 0), (.ref 20), (.int 13 0), (.int 0 0), (.ref 40), (.int 23 0), (.int 0 0), (.ref 61)]), #[]⟩
noncomputable def o97 (P : Params) : Obj := ⟨(.type "tuple"), none, (.seq #[] 0), #[]⟩
noncomputable def o98 (P : Params) : Obj := ⟨(.type "builtin_function_or_method"), none, (.fields #[(.builtin "type.__prepare__"), (.type "type")]), #[]⟩
noncomputable def o99 (P : Params) : Obj := ⟨(.type "dict"), none, (.dict #[en P "__module__" 280 (.str "emacs.modes" 220), en P "__qualname__" 282 (.str "Minor" 281), en P "__firstlineno__" 284 (.int 23 283), en P "__init__" 296 (.ref 69), en P "__static_attributes__" 302 (.ref 70)] 5), #[]⟩
noncomputable def o100 (P : Params) : Obj := ⟨(.type "tuple"), none, (.seq #[] 0), #[]⟩
noncomputable def o101 (P : Params) : Obj := ⟨.none, none, (.fields #[(.int 25 0), (.int 4 0), (.ref 68)]), #[]⟩
noncomputable def o102 (P : Params) : Obj := ⟨(.type "code"), none, (.fields #[(.str "Minor" 275), (.str "Minor" 276), (.str "/claim/cut.py" 277), (.int 23 0), (.int 0 0), (.int 0 0), (.int 0 0), (.int 0 0), (.ref 59), (.bool false), (.int 181 0), (.ref 60), .none, .none, .none, .none, (.int 278 0), (.int 23 0), (.str "/claim/cut.py" 279)]), #[]⟩
noncomputable def o103 (P : Params) : Obj := ⟨(.type "frame"), none, .plain, #[(some (.ref 61)), (some (.ref 3)), (some (.ref 58)), none, (some (.str "emacs.modes" 220)), none, (some (.ref 0))]⟩
noncomputable def o104 (P : Params) : Obj := ⟨(.type "tuple"), none, (.seq #[] 0), #[]⟩
noncomputable def o105 (P : Params) : Obj := ⟨.none, none, (.fields #[]), #[]⟩
noncomputable def o106 (P : Params) : Obj := ⟨(.type "tuple"), none, (.seq #[(.str "self" 288), (.str "symbol" 289), (.str "lighter" 290), (.str "keymap" 291), (.str "body" 292), (.str "hook" 293)] 0), #[]⟩
noncomputable def o107 (P : Params) : Obj := ⟨(.type "tuple"), none, (.seq #[] 0), #[]⟩
noncomputable def o108 (P : Params) : Obj := ⟨.none, none, (.func ⟨"__init__", "Minor.__init__", (fA (nt (cB (ms 9)) 0)), (.stmts (fB (nt (cB (ms 9)) 0))), (fS (nt (cB (ms 9)) 0)), 0, [], .none, .none, .none, .none, none, .none, .none, 0⟩), #[]⟩
noncomputable def o109 (P : Params) : Obj := ⟨(.type "code"), none, (.fields #[(.str "__init__" 285), (.str "Minor.__init__" 286), (.str "/claim/cut.py" 287), (.int 25 0), (.int 6 0), (.int 0 0), (.int 0 0), (.int 3 0), (.ref 63), (.bool true), (.int 181 0), (.ref 64), .none, (.ref 65), (.ref 66), (.ref 67), (.int 294 0), (.int 25 0), (.str "/claim/cut.py" 295)]), #[]⟩
noncomputable def o110 (P : Params) : Obj := ⟨(.type "function"), none, (.func ⟨"__init__", "Minor.__init__", (fA (nt (cB (ms 9)) 0)), (.stmts (fB (nt (cB (ms 9)) 0))), (fS (nt (cB (ms 9)) 0)), 3, [], .none, .none, .none, (.str "emacs.modes" 220), none, (.ref 68), .none, 0⟩), #[]⟩
noncomputable def o111 (P : Params) : Obj := ⟨(.type "tuple"), none, (.seq #[(.str "body" 297), (.str "hook" 298), (.str "keymap" 299), (.str "lighter" 300), (.str "symbol" 301)] 0), #[]⟩
noncomputable def o112 (P : Params) : Obj := ⟨(.type "dict"), none, (.dict #[en P "__module__" 280 (.str "emacs.modes" 220), en P "__firstlineno__" 284 (.int 23 283), en P "__init__" 296 (.ref 69), en P "__static_attributes__" 302 (.ref 70), en P "__dict__" 304 (.ref 73), en P "__weakref__" 306 (.ref 74), en P "__doc__" 307 .none] 4), #[]⟩
noncomputable def o113 (P : Params) : Obj := ⟨(.type "type"), none, (.cls ⟨"Minor", [(.type "object")], [(.ref 72), (.type "object")], 71, "Minor", true, [], [], false, none, false⟩), #[none, none, (some (.str "Minor" 273)), (some (.str "Minor" 281)), (some (.builtin "object.__new__")), (some (.bool true))]⟩
noncomputable def o114 (P : Params) : Obj := ⟨(.type "getset_descriptor"), none, (.fields #[(.str "__dict__" 303), (.ref 72), (.builtin "function.__dict__"), (.builtin "function.__dict__#set")]), #[]⟩
noncomputable def o115 (P : Params) : Obj := ⟨(.type "getset_descriptor"), none, (.fields #[(.str "__weakref__" 305), (.ref 72), (.builtin "ExceptionGroup.__weakref__"), .none]), #[]⟩
noncomputable def o116 (P : Params) : Obj := ⟨(.type "super"), none, (.fields #[(.ref 72), (.ref 72), (.ref 72)]), #[]⟩
noncomputable def o117 (P : Params) : Obj := ⟨(.type "builtin_function_or_method"), none, (.fields #[(.builtin "object.__init_subclass__"), (.ref 72)]), #[]⟩
noncomputable def o118 (P : Params) : Obj := ⟨(.type "dict"), none, (.dict #[en P "__name__" 165 (.str "emacs.modes" 220), en P "__doc__" 166 .none, en P "__package__" 167 .none, en P "__loader__" 168 (.builtin "__main__.__loader__#opaque"), en P "__spec__" 169 .none, en P "__annotations__" 170 (.ref 6), en P "__builtins__" 171 (.ref 4), en P "__file__" 173 (.str "/claim/cut.py" 172), en P "__cached__" 174 .none, en P "LispSignal" 219 (.ref 31), en P "CHANGE" 223 (.int 0 222), en P "KILL" 225 (.int 1 224), en P "BODY" 227 (.int 2 226), en P "HOOK" 229 (.int 3 228), en P "BEHIND" 231 (.int 4 230), en P "Mode" 272 (.ref 51), en P "Minor" 309 (.ref 72), en P "ModeTable" 406 (.ref 147)] 18), #[]⟩
noncomputable def o119 (P : Params) : Obj := ⟨.none, none, (.fields #[(.int 2 0), (.int 0 0), (.ref 20), (.int 13 0), (.int 0 0), (.ref 40), (.int 23 0), (.int 0 0), (.ref 61), (.int 31 0), (.int 0 0), (.ref 82)]), #[]⟩
noncomputable def o120 (P : Params) : Obj := ⟨(.type "tuple"), none, (.seq #[] 0), #[]⟩
noncomputable def o121 (P : Params) : Obj := ⟨(.type "builtin_function_or_method"), none, (.fields #[(.builtin "type.__prepare__"), (.type "type")]), #[]⟩
noncomputable def o122 (P : Params) : Obj := ⟨(.type "dict"), none, (.dict #[en P "__module__" 317 (.str "emacs.modes" 220), en P "__qualname__" 319 (.str "ModeTable" 318), en P "__firstlineno__" 321 (.int 31 320), en P "__init__" 328 (.ref 90), en P "define" 336 (.ref 97), en P "define_minor" 344 (.ref 104), en P "major" 352 (.ref 111), en P "minor" 360 (.ref 118), en P "line_of" 370 (.ref 125), en P "is_derived" 376 (.ref 130), en P "keymap_line" 386 (.ref 137), en P "syntax_of" 395 (.ref 144), en P "__static_attributes__" 399 (.ref 145)] 13), #[]⟩
noncomputable def o123 (P : Params) : Obj := ⟨(.type "tuple"), none, (.seq #[] 0), #[]⟩
noncomputable def o124 (P : Params) : Obj := ⟨.none, none, (.fields #[(.int 33 0), (.int 4 0), (.ref 89), (.int 38 0), (.int 4 0), (.ref 96), (.int 41 0), (.int 4 0), (.ref 103), (.int 46 0), (.int 4 0), (.ref 110), (.int 51 0), (.int 4 0), (.ref 117), (.int 56 0), (.int 4 0), (.ref 124), (.int 65 0), (.int 4 0), (.ref 129), (.int 68 0), (.int 4 0), (.ref 136), (.int 75 0), (.int 4 0), (.ref 143)]), #[]⟩
noncomputable def o125 (P : Params) : Obj := ⟨(.type "code"), none, (.fields #[(.str "ModeTable" 312), (.str "ModeTable" 313), (.str "/claim/cut.py" 314), (.int 31 0), (.int 0 0), (.int 0 0), (.int 0 0), (.int 0 0), (.ref 80), (.bool false), (.int 181 0), (.ref 81), .none, .none, .none, .none, (.int 315 0), (.int 31 0), (.str "/claim/cut.py" 316)]), #[]⟩
noncomputable def o126 (P : Params) : Obj := ⟨(.type "frame"), none, .plain, #[(some (.ref 82)), (some (.ref 3)), (some (.ref 79)), none, (some (.str "emacs.modes" 220)), none, (some (.ref 0))]⟩
noncomputable def o127 (P : Params) : Obj := ⟨(.type "tuple"), none, (.seq #[] 0), #[]⟩
noncomputable def o128 (P : Params) : Obj := ⟨.none, none, (.fields #[]), #[]⟩
noncomputable def o129 (P : Params) : Obj := ⟨(.type "tuple"), none, (.seq #[(.str "self" 325)] 0), #[]⟩
noncomputable def o130 (P : Params) : Obj := ⟨(.type "tuple"), none, (.seq #[] 0), #[]⟩
noncomputable def o131 (P : Params) : Obj := ⟨.none, none, (.func ⟨"__init__", "ModeTable.__init__", (fA (nt (cB (ms 10)) 0)), (.stmts (fB (nt (cB (ms 10)) 0))), (fS (nt (cB (ms 10)) 0)), 0, [], .none, .none, .none, .none, none, .none, .none, 0⟩), #[]⟩
noncomputable def o132 (P : Params) : Obj := ⟨(.type "code"), none, (.fields #[(.str "__init__" 322), (.str "ModeTable.__init__" 323), (.str "/claim/cut.py" 324), (.int 33 0), (.int 1 0), (.int 0 0), (.int 0 0), (.int 3 0), (.ref 84), (.bool true), (.int 181 0), (.ref 85), .none, (.ref 86), (.ref 87), (.ref 88), (.int 326 0), (.int 33 0), (.str "/claim/cut.py" 327)]), #[]⟩
noncomputable def o133 (P : Params) : Obj := ⟨(.type "function"), none, (.func ⟨"__init__", "ModeTable.__init__", (fA (nt (cB (ms 10)) 0)), (.stmts (fB (nt (cB (ms 10)) 0))), (fS (nt (cB (ms 10)) 0)), 3, [], .none, .none, .none, (.str "emacs.modes" 220), none, (.ref 89), .none, 0⟩), #[]⟩
noncomputable def o134 (P : Params) : Obj := ⟨(.type "tuple"), none, (.seq #[] 0), #[]⟩
noncomputable def o135 (P : Params) : Obj := ⟨.none, none, (.fields #[]), #[]⟩
noncomputable def o136 (P : Params) : Obj := ⟨(.type "tuple"), none, (.seq #[(.str "self" 332), (.str "mode" 333)] 0), #[]⟩
noncomputable def o137 (P : Params) : Obj := ⟨(.type "tuple"), none, (.seq #[] 0), #[]⟩
noncomputable def o138 (P : Params) : Obj := ⟨.none, none, (.func ⟨"define", "ModeTable.define", (fA (nt (cB (ms 10)) 1)), (.stmts (fB (nt (cB (ms 10)) 1))), (fS (nt (cB (ms 10)) 1)), 0, [], .none, .none, .none, .none, none, .none, .none, 0⟩), #[]⟩
noncomputable def o139 (P : Params) : Obj := ⟨(.type "code"), none, (.fields #[(.str "define" 329), (.str "ModeTable.define" 330), (.str "/claim/cut.py" 331), (.int 38 0), (.int 2 0), (.int 0 0), (.int 0 0), (.int 3 0), (.ref 91), (.bool true), (.int 181 0), (.ref 92), .none, (.ref 93), (.ref 94), (.ref 95), (.int 334 0), (.int 38 0), (.str "/claim/cut.py" 335)]), #[]⟩
noncomputable def o140 (P : Params) : Obj := ⟨(.type "function"), none, (.func ⟨"define", "ModeTable.define", (fA (nt (cB (ms 10)) 1)), (.stmts (fB (nt (cB (ms 10)) 1))), (fS (nt (cB (ms 10)) 1)), 3, [], .none, .none, .none, (.str "emacs.modes" 220), none, (.ref 96), .none, 0⟩), #[]⟩
noncomputable def o141 (P : Params) : Obj := ⟨(.type "tuple"), none, (.seq #[] 0), #[]⟩
noncomputable def o142 (P : Params) : Obj := ⟨.none, none, (.fields #[]), #[]⟩
noncomputable def o143 (P : Params) : Obj := ⟨(.type "tuple"), none, (.seq #[(.str "self" 340), (.str "minor" 341)] 0), #[]⟩
noncomputable def o144 (P : Params) : Obj := ⟨(.type "tuple"), none, (.seq #[] 0), #[]⟩
noncomputable def o145 (P : Params) : Obj := ⟨.none, none, (.func ⟨"define_minor", "ModeTable.define_minor", (fA (nt (cB (ms 10)) 2)), (.stmts (fB (nt (cB (ms 10)) 2))), (fS (nt (cB (ms 10)) 2)), 0, [], .none, .none, .none, .none, none, .none, .none, 0⟩), #[]⟩
noncomputable def o146 (P : Params) : Obj := ⟨(.type "code"), none, (.fields #[(.str "define_minor" 337), (.str "ModeTable.define_minor" 338), (.str "/claim/cut.py" 339), (.int 41 0), (.int 2 0), (.int 0 0), (.int 0 0), (.int 3 0), (.ref 98), (.bool true), (.int 181 0), (.ref 99), .none, (.ref 100), (.ref 101), (.ref 102), (.int 342 0), (.int 41 0), (.str "/claim/cut.py" 343)]), #[]⟩
noncomputable def o147 (P : Params) : Obj := ⟨(.type "function"), none, (.func ⟨"define_minor", "ModeTable.define_minor", (fA (nt (cB (ms 10)) 2)), (.stmts (fB (nt (cB (ms 10)) 2))), (fS (nt (cB (ms 10)) 2)), 3, [], .none, .none, .none, (.str "emacs.modes" 220), none, (.ref 103), .none, 0⟩), #[]⟩
noncomputable def o148 (P : Params) : Obj := ⟨(.type "tuple"), none, (.seq #[] 0), #[]⟩
noncomputable def o149 (P : Params) : Obj := ⟨.none, none, (.fields #[]), #[]⟩
noncomputable def o150 (P : Params) : Obj := ⟨(.type "tuple"), none, (.seq #[(.str "self" 348), (.str "symbol" 349)] 0), #[]⟩
noncomputable def o151 (P : Params) : Obj := ⟨(.type "tuple"), none, (.seq #[] 0), #[]⟩
noncomputable def o152 (P : Params) : Obj := ⟨.none, none, (.func ⟨"major", "ModeTable.major", (fA (nt (cB (ms 10)) 3)), (.stmts (fB (nt (cB (ms 10)) 3))), (fS (nt (cB (ms 10)) 4)), 0, [], .none, .none, .none, .none, none, .none, .none, 0⟩), #[]⟩
noncomputable def o153 (P : Params) : Obj := ⟨(.type "code"), none, (.fields #[(.str "major" 345), (.str "ModeTable.major" 346), (.str "/claim/cut.py" 347), (.int 46 0), (.int 2 0), (.int 0 0), (.int 0 0), (.int 3 0), (.ref 105), (.bool true), (.int 181 0), (.ref 106), .none, (.ref 107), (.ref 108), (.ref 109), (.int 350 0), (.int 46 0), (.str "/claim/cut.py" 351)]), #[]⟩
noncomputable def o154 (P : Params) : Obj := ⟨(.type "function"), none, (.func ⟨"major", "ModeTable.major", (fA (nt (cB (ms 10)) 3)), (.stmts (fB (nt (cB (ms 10)) 3))), (fS (nt (cB (ms 10)) 4)), 3, [], .none, .none, .none, (.str "emacs.modes" 220), none, (.ref 110), .none, 0⟩), #[]⟩
noncomputable def o155 (P : Params) : Obj := ⟨(.type "tuple"), none, (.seq #[] 0), #[]⟩
noncomputable def o156 (P : Params) : Obj := ⟨.none, none, (.fields #[]), #[]⟩
noncomputable def o157 (P : Params) : Obj := ⟨(.type "tuple"), none, (.seq #[(.str "self" 356), (.str "symbol" 357)] 0), #[]⟩
noncomputable def o158 (P : Params) : Obj := ⟨(.type "tuple"), none, (.seq #[] 0), #[]⟩
noncomputable def o159 (P : Params) : Obj := ⟨.none, none, (.func ⟨"minor", "ModeTable.minor", (fA (nt (cB (ms 10)) 4)), (.stmts (fB (nt (cB (ms 10)) 4))), (fS (nt (cB (ms 10)) 4)), 0, [], .none, .none, .none, .none, none, .none, .none, 0⟩), #[]⟩
noncomputable def o160 (P : Params) : Obj := ⟨(.type "code"), none, (.fields #[(.str "minor" 353), (.str "ModeTable.minor" 354), (.str "/claim/cut.py" 355), (.int 51 0), (.int 2 0), (.int 0 0), (.int 0 0), (.int 3 0), (.ref 112), (.bool true), (.int 181 0), (.ref 113), .none, (.ref 114), (.ref 115), (.ref 116), (.int 358 0), (.int 51 0), (.str "/claim/cut.py" 359)]), #[]⟩
noncomputable def o161 (P : Params) : Obj := ⟨(.type "function"), none, (.func ⟨"minor", "ModeTable.minor", (fA (nt (cB (ms 10)) 4)), (.stmts (fB (nt (cB (ms 10)) 4))), (fS (nt (cB (ms 10)) 4)), 3, [], .none, .none, .none, (.str "emacs.modes" 220), none, (.ref 117), .none, 0⟩), #[]⟩
noncomputable def o162 (P : Params) : Obj := ⟨(.type "tuple"), none, (.seq #[] 0), #[]⟩
noncomputable def o163 (P : Params) : Obj := ⟨.none, none, (.fields #[]), #[]⟩
noncomputable def o164 (P : Params) : Obj := ⟨(.type "tuple"), none, (.seq #[(.str "self" 364), (.str "symbol" 365), (.str "found" 366), (.str "at" 367)] 0), #[]⟩
noncomputable def o165 (P : Params) : Obj := ⟨(.type "tuple"), none, (.seq #[] 0), #[]⟩
noncomputable def o166 (P : Params) : Obj := ⟨.none, none, (.func ⟨"line_of", "ModeTable.line_of", (fA (nt (cB (ms 10)) 5)), (.stmts (fB (nt (cB (ms 10)) 5))), (fS (nt (cB (ms 10)) 5)), 0, [], .none, .none, .none, .none, none, .none, .none, 0⟩), #[]⟩
noncomputable def o167 (P : Params) : Obj := ⟨(.type "code"), none, (.fields #[(.str "line_of" 361), (.str "ModeTable.line_of" 362), (.str "/claim/cut.py" 363), (.int 56 0), (.int 2 0), (.int 0 0), (.int 0 0), (.int 3 0), (.ref 119), (.bool true), (.int 181 0), (.ref 120), .none, (.ref 121), (.ref 122), (.ref 123), (.int 368 0), (.int 56 0), (.str "/claim/cut.py" 369)]), #[]⟩
noncomputable def o168 (P : Params) : Obj := ⟨(.type "function"), none, (.func ⟨"line_of", "ModeTable.line_of", (fA (nt (cB (ms 10)) 5)), (.stmts (fB (nt (cB (ms 10)) 5))), (fS (nt (cB (ms 10)) 5)), 3, [], .none, .none, .none, (.str "emacs.modes" 220), none, (.ref 124), .none, 0⟩), #[]⟩
noncomputable def o169 (P : Params) : Obj := ⟨(.type "tuple"), none, (.seq #[] 0), #[]⟩
noncomputable def o170 (P : Params) : Obj := ⟨.none, none, (.fields #[]), #[]⟩
noncomputable def o171 (P : Params) : Obj := ⟨.none, none, (.func ⟨"is_derived", "ModeTable.is_derived", (fA (nt (cB (ms 10)) 6)), (.stmts (fB (nt (cB (ms 10)) 6))), (fS (nt (cB (ms 10)) 6)), 0, [], .none, .none, .none, .none, none, .none, .none, 0⟩), #[]⟩
noncomputable def o172 (P : Params) : Obj := ⟨(.type "code"), none, (.fields #[(.str "is_derived" 371), (.str "ModeTable.is_derived" 372), (.str "/claim/cut.py" 373), (.int 65 0), (.int 3 0), (.int 0 0), (.int 0 0), (.int 3 0), (.ref 126), (.bool true), (.int 181 0), (.ref 127), .none, .none, .none, (.ref 128), (.int 374 0), (.int 65 0), (.str "/claim/cut.py" 375)]), #[]⟩
noncomputable def o173 (P : Params) : Obj := ⟨(.type "function"), none, (.func ⟨"is_derived", "ModeTable.is_derived", (fA (nt (cB (ms 10)) 6)), (.stmts (fB (nt (cB (ms 10)) 6))), (fS (nt (cB (ms 10)) 6)), 3, [], .none, .none, .none, (.str "emacs.modes" 220), none, (.ref 129), .none, 0⟩), #[]⟩
noncomputable def o174 (P : Params) : Obj := ⟨(.type "tuple"), none, (.seq #[] 0), #[]⟩
noncomputable def o175 (P : Params) : Obj := ⟨.none, none, (.fields #[]), #[]⟩
noncomputable def o176 (P : Params) : Obj := ⟨(.type "tuple"), none, (.seq #[(.str "self" 380), (.str "symbol" 381), (.str "found" 382), (.str "own" 383)] 0), #[]⟩
noncomputable def o177 (P : Params) : Obj := ⟨(.type "tuple"), none, (.seq #[] 0), #[]⟩
noncomputable def o178 (P : Params) : Obj := ⟨.none, none, (.func ⟨"keymap_line", "ModeTable.keymap_line", (fA (nt (cB (ms 10)) 7)), (.stmts (fB (nt (cB (ms 10)) 7))), (fS (nt (cB (ms 10)) 7)), 0, [], .none, .none, .none, .none, none, .none, .none, 0⟩), #[]⟩
noncomputable def o179 (P : Params) : Obj := ⟨(.type "code"), none, (.fields #[(.str "keymap_line" 377), (.str "ModeTable.keymap_line" 378), (.str "/claim/cut.py" 379), (.int 68 0), (.int 2 0), (.int 0 0), (.int 0 0), (.int 3 0), (.ref 131), (.bool true), (.int 181 0), (.ref 132), .none, (.ref 133), (.ref 134), (.ref 135), (.int 384 0), (.int 68 0), (.str "/claim/cut.py" 385)]), #[]⟩
noncomputable def o180 (P : Params) : Obj := ⟨(.type "function"), none, (.func ⟨"keymap_line", "ModeTable.keymap_line", (fA (nt (cB (ms 10)) 7)), (.stmts (fB (nt (cB (ms 10)) 7))), (fS (nt (cB (ms 10)) 7)), 3, [], .none, .none, .none, (.str "emacs.modes" 220), none, (.ref 136), .none, 0⟩), #[]⟩
noncomputable def o181 (P : Params) : Obj := ⟨(.type "tuple"), none, (.seq #[] 0), #[]⟩
noncomputable def o182 (P : Params) : Obj := ⟨.none, none, (.fields #[]), #[]⟩
noncomputable def o183 (P : Params) : Obj := ⟨(.type "tuple"), none, (.seq #[(.str "self" 390), (.str "symbol" 391), (.str "own" 392)] 0), #[]⟩
noncomputable def o184 (P : Params) : Obj := ⟨(.type "tuple"), none, (.seq #[] 0), #[]⟩
noncomputable def o185 (P : Params) : Obj := ⟨.none, none, (.func ⟨"syntax_of", "ModeTable.syntax_of", (fA (nt (cB (ms 10)) 8)), (.stmts (fB (nt (cB (ms 10)) 8))), (fS (nt (cB (ms 10)) 8)), 0, [], .none, .none, .none, .none, none, .none, .none, 0⟩), #[]⟩
noncomputable def o186 (P : Params) : Obj := ⟨(.type "code"), none, (.fields #[(.str "syntax_of" 387), (.str "ModeTable.syntax_of" 388), (.str "/claim/cut.py" 389), (.int 75 0), (.int 2 0), (.int 0 0), (.int 0 0), (.int 3 0), (.ref 138), (.bool true), (.int 181 0), (.ref 139), .none, (.ref 140), (.ref 141), (.ref 142), (.int 393 0), (.int 75 0), (.str "/claim/cut.py" 394)]), #[]⟩
noncomputable def o187 (P : Params) : Obj := ⟨(.type "function"), none, (.func ⟨"syntax_of", "ModeTable.syntax_of", (fA (nt (cB (ms 10)) 8)), (.stmts (fB (nt (cB (ms 10)) 8))), (fS (nt (cB (ms 10)) 8)), 3, [], .none, .none, .none, (.str "emacs.modes" 220), none, (.ref 143), .none, 0⟩), #[]⟩
noncomputable def o188 (P : Params) : Obj := ⟨(.type "tuple"), none, (.seq #[(.str "majors" 396), (.str "minors" 397), (.str "order" 398)] 0), #[]⟩
noncomputable def o189 (P : Params) : Obj := ⟨(.type "dict"), none, (.dict #[en P "__module__" 317 (.str "emacs.modes" 220), en P "__firstlineno__" 321 (.int 31 320), en P "__init__" 328 (.ref 90), en P "define" 336 (.ref 97), en P "define_minor" 344 (.ref 104), en P "major" 352 (.ref 111), en P "minor" 360 (.ref 118), en P "line_of" 370 (.ref 125), en P "is_derived" 376 (.ref 130), en P "keymap_line" 386 (.ref 137), en P "syntax_of" 395 (.ref 144), en P "__static_attributes__" 399 (.ref 145), en P "__dict__" 401 (.ref 148), en P "__weakref__" 403 (.ref 149), en P "__doc__" 404 .none] 4), #[]⟩
noncomputable def o190 (P : Params) : Obj := ⟨(.type "type"), none, (.cls ⟨"ModeTable", [(.type "object")], [(.ref 147), (.type "object")], 146, "ModeTable", true, [], [], false, none, false⟩), #[none, none, (some (.str "ModeTable" 310)), (some (.str "ModeTable" 318)), (some (.builtin "object.__new__")), (some (.bool true))]⟩
noncomputable def o191 (P : Params) : Obj := ⟨(.type "getset_descriptor"), none, (.fields #[(.str "__dict__" 400), (.ref 147), (.builtin "function.__dict__"), (.builtin "function.__dict__#set")]), #[]⟩
noncomputable def o192 (P : Params) : Obj := ⟨(.type "getset_descriptor"), none, (.fields #[(.str "__weakref__" 402), (.ref 147), (.builtin "ExceptionGroup.__weakref__"), .none]), #[]⟩
noncomputable def o193 (P : Params) : Obj := ⟨(.type "super"), none, (.fields #[(.ref 147), (.ref 147), (.ref 147)]), #[]⟩
noncomputable def o194 (P : Params) : Obj := ⟨(.type "builtin_function_or_method"), none, (.fields #[(.builtin "object.__init_subclass__"), (.ref 147)]), #[]⟩
noncomputable def o195 (P : Params) : Obj := ⟨(.type "dict"), none, (.dict #[en P "__name__" 165 (.str "emacs.modes" 220), en P "__doc__" 166 .none, en P "__package__" 167 .none, en P "__loader__" 168 (.builtin "__main__.__loader__#opaque"), en P "__spec__" 169 .none, en P "__annotations__" 170 (.ref 6), en P "__builtins__" 171 (.ref 4), en P "__file__" 173 (.str "/claim/cut.py" 172), en P "__cached__" 174 .none, en P "LispSignal" 219 (.ref 31), en P "CHANGE" 223 (.int 0 222), en P "KILL" 225 (.int 1 224), en P "BODY" 227 (.int 2 226), en P "HOOK" 229 (.int 3 228), en P "BEHIND" 231 (.int 4 230), en P "Mode" 272 (.ref 51), en P "Minor" 309 (.ref 72), en P "ModeTable" 406 (.ref 147), en P "ModeState" 444 (.ref 175), en P "switch_steps" 450 (.ref 184), en P "switch" 456 (.ref 189), en P "wanted_on" 465 (.ref 196), en P "turn_mode" 471 (.ref 201), en P "lighters" 481 (.ref 208)] 24), #[]⟩
noncomputable def o196 (P : Params) : Obj := ⟨.none, none, (.fields #[(.int 2 0), (.int 0 0), (.ref 20), (.int 13 0), (.int 0 0), (.ref 40), (.int 23 0), (.int 0 0), (.ref 61), (.int 31 0), (.int 0 0), (.ref 82), (.int 80 0), (.int 0 0), (.ref 157), (.int 88 0), (.int 0 0), (.ref 183), (.int 95 0), (.int 0 0), (.ref 188), (.int 102 0), (.int 0 0), (.ref 195), (.int 108 0), (.int 0 0), (.ref 200), (.int 117 0), (.int 0 0), (.ref 207)]), #[]⟩
noncomputable def o197 (P : Params) : Obj := ⟨(.type "tuple"), none, (.seq #[] 0), #[]⟩
noncomputable def o198 (P : Params) : Obj := ⟨(.type "builtin_function_or_method"), none, (.fields #[(.builtin "type.__prepare__"), (.type "type")]), #[]⟩
noncomputable def o199 (P : Params) : Obj := ⟨(.type "dict"), none, (.dict #[en P "__module__" 414 (.str "emacs.modes" 220), en P "__qualname__" 416 (.str "ModeState" 415), en P "__firstlineno__" 418 (.int 80 417), en P "__init__" 426 (.ref 165), en P "is_on" 434 (.ref 172), en P "__static_attributes__" 437 (.ref 173)] 6), #[]⟩
noncomputable def o200 (P : Params) : Obj := ⟨(.type "tuple"), none, (.seq #[] 0), #[]⟩
noncomputable def o201 (P : Params) : Obj := ⟨.none, none, (.fields #[(.int 82 0), (.int 4 0), (.ref 164), (.int 86 0), (.int 4 0), (.ref 171)]), #[]⟩
noncomputable def o202 (P : Params) : Obj := ⟨(.type "code"), none, (.fields #[(.str "ModeState" 409), (.str "ModeState" 410), (.str "/claim/cut.py" 411), (.int 80 0), (.int 0 0), (.int 0 0), (.int 0 0), (.int 0 0), (.ref 155), (.bool false), (.int 181 0), (.ref 156), .none, .none, .none, .none, (.int 412 0), (.int 80 0), (.str "/claim/cut.py" 413)]), #[]⟩
noncomputable def o203 (P : Params) : Obj := ⟨(.type "frame"), none, .plain, #[(some (.ref 157)), (some (.ref 3)), (some (.ref 154)), none, (some (.str "emacs.modes" 220)), none, (some (.ref 0))]⟩
noncomputable def o204 (P : Params) : Obj := ⟨(.type "tuple"), none, (.seq #[] 0), #[]⟩
noncomputable def o205 (P : Params) : Obj := ⟨.none, none, (.fields #[]), #[]⟩
noncomputable def o206 (P : Params) : Obj := ⟨(.type "tuple"), none, (.seq #[(.str "self" 422), (.str "major" 423)] 0), #[]⟩
noncomputable def o207 (P : Params) : Obj := ⟨(.type "tuple"), none, (.seq #[] 0), #[]⟩
noncomputable def o208 (P : Params) : Obj := ⟨.none, none, (.func ⟨"__init__", "ModeState.__init__", (fA (nt (cB (ms 11)) 0)), (.stmts (fB (nt (cB (ms 11)) 0))), (fS (nt (cB (ms 11)) 0)), 0, [], .none, .none, .none, .none, none, .none, .none, 0⟩), #[]⟩
noncomputable def o209 (P : Params) : Obj := ⟨(.type "code"), none, (.fields #[(.str "__init__" 419), (.str "ModeState.__init__" 420), (.str "/claim/cut.py" 421), (.int 82 0), (.int 2 0), (.int 0 0), (.int 0 0), (.int 3 0), (.ref 159), (.bool true), (.int 181 0), (.ref 160), .none, (.ref 161), (.ref 162), (.ref 163), (.int 424 0), (.int 82 0), (.str "/claim/cut.py" 425)]), #[]⟩
noncomputable def o210 (P : Params) : Obj := ⟨(.type "function"), none, (.func ⟨"__init__", "ModeState.__init__", (fA (nt (cB (ms 11)) 0)), (.stmts (fB (nt (cB (ms 11)) 0))), (fS (nt (cB (ms 11)) 0)), 3, [], .none, .none, .none, (.str "emacs.modes" 220), none, (.ref 164), .none, 0⟩), #[]⟩
noncomputable def o211 (P : Params) : Obj := ⟨(.type "tuple"), none, (.seq #[] 0), #[]⟩
noncomputable def o212 (P : Params) : Obj := ⟨.none, none, (.fields #[]), #[]⟩
noncomputable def o213 (P : Params) : Obj := ⟨(.type "tuple"), none, (.seq #[(.str "self" 430), (.str "symbol" 431)] 0), #[]⟩
noncomputable def o214 (P : Params) : Obj := ⟨(.type "tuple"), none, (.seq #[] 0), #[]⟩
noncomputable def o215 (P : Params) : Obj := ⟨.none, none, (.func ⟨"is_on", "ModeState.is_on", (fA (nt (cB (ms 11)) 1)), (.stmts (fB (nt (cB (ms 11)) 1))), (fS (nt (cB (ms 11)) 1)), 0, [], .none, .none, .none, .none, none, .none, .none, 0⟩), #[]⟩
noncomputable def o216 (P : Params) : Obj := ⟨(.type "code"), none, (.fields #[(.str "is_on" 427), (.str "ModeState.is_on" 428), (.str "/claim/cut.py" 429), (.int 86 0), (.int 2 0), (.int 0 0), (.int 0 0), (.int 3 0), (.ref 166), (.bool true), (.int 181 0), (.ref 167), .none, (.ref 168), (.ref 169), (.ref 170), (.int 432 0), (.int 86 0), (.str "/claim/cut.py" 433)]), #[]⟩
noncomputable def o217 (P : Params) : Obj := ⟨(.type "function"), none, (.func ⟨"is_on", "ModeState.is_on", (fA (nt (cB (ms 11)) 1)), (.stmts (fB (nt (cB (ms 11)) 1))), (fS (nt (cB (ms 11)) 1)), 3, [], .none, .none, .none, (.str "emacs.modes" 220), none, (.ref 171), .none, 0⟩), #[]⟩
noncomputable def o218 (P : Params) : Obj := ⟨(.type "tuple"), none, (.seq #[(.str "major" 435), (.str "on" 436)] 0), #[]⟩
noncomputable def o219 (P : Params) : Obj := ⟨(.type "dict"), none, (.dict #[en P "__module__" 414 (.str "emacs.modes" 220), en P "__firstlineno__" 418 (.int 80 417), en P "__init__" 426 (.ref 165), en P "is_on" 434 (.ref 172), en P "__static_attributes__" 437 (.ref 173), en P "__dict__" 439 (.ref 176), en P "__weakref__" 441 (.ref 177), en P "__doc__" 442 .none] 4), #[]⟩
noncomputable def o220 (P : Params) : Obj := ⟨(.type "type"), none, (.cls ⟨"ModeState", [(.type "object")], [(.ref 175), (.type "object")], 174, "ModeState", true, [], [], false, none, false⟩), #[none, none, (some (.str "ModeState" 407)), (some (.str "ModeState" 415)), (some (.builtin "object.__new__")), (some (.bool true))]⟩
noncomputable def o221 (P : Params) : Obj := ⟨(.type "getset_descriptor"), none, (.fields #[(.str "__dict__" 438), (.ref 175), (.builtin "function.__dict__"), (.builtin "function.__dict__#set")]), #[]⟩
noncomputable def o222 (P : Params) : Obj := ⟨(.type "getset_descriptor"), none, (.fields #[(.str "__weakref__" 440), (.ref 175), (.builtin "ExceptionGroup.__weakref__"), .none]), #[]⟩
noncomputable def o223 (P : Params) : Obj := ⟨(.type "super"), none, (.fields #[(.ref 175), (.ref 175), (.ref 175)]), #[]⟩
noncomputable def o224 (P : Params) : Obj := ⟨(.type "builtin_function_or_method"), none, (.fields #[(.builtin "object.__init_subclass__"), (.ref 175)]), #[]⟩
noncomputable def o225 (P : Params) : Obj := ⟨(.type "tuple"), none, (.seq #[] 0), #[]⟩
noncomputable def o226 (P : Params) : Obj := ⟨.none, none, (.fields #[]), #[]⟩
noncomputable def o227 (P : Params) : Obj := ⟨.none, none, (.func ⟨"switch_steps", "switch_steps", (fA (ms 12)), (.stmts (fB (ms 12))), (fS (ms 12)), 0, [], .none, .none, .none, .none, none, .none, .none, 0⟩), #[]⟩
noncomputable def o228 (P : Params) : Obj := ⟨(.type "code"), none, (.fields #[(.str "switch_steps" 445), (.str "switch_steps" 446), (.str "/claim/cut.py" 447), (.int 88 0), (.int 2 0), (.int 0 0), (.int 0 0), (.int 3 0), (.ref 180), (.bool true), (.int 181 0), (.ref 181), .none, .none, .none, (.ref 182), (.int 448 0), (.int 88 0), (.str "/claim/cut.py" 449)]), #[]⟩
noncomputable def o229 (P : Params) : Obj := ⟨(.type "function"), none, (.func ⟨"switch_steps", "switch_steps", (fA (ms 12)), (.stmts (fB (ms 12))), (fS (ms 12)), 3, [], .none, .none, .none, (.str "emacs.modes" 220), none, (.ref 183), .none, 0⟩), #[]⟩
noncomputable def o230 (P : Params) : Obj := ⟨(.type "tuple"), none, (.seq #[] 0), #[]⟩
noncomputable def o231 (P : Params) : Obj := ⟨.none, none, (.fields #[]), #[]⟩
noncomputable def o232 (P : Params) : Obj := ⟨.none, none, (.func ⟨"switch", "switch", (fA (ms 13)), (.stmts (fB (ms 13))), (fS (ms 13)), 0, [], .none, .none, .none, .none, none, .none, .none, 0⟩), #[]⟩
noncomputable def o233 (P : Params) : Obj := ⟨(.type "code"), none, (.fields #[(.str "switch" 451), (.str "switch" 452), (.str "/claim/cut.py" 453), (.int 95 0), (.int 5 0), (.int 0 0), (.int 0 0), (.int 3 0), (.ref 185), (.bool true), (.int 181 0), (.ref 186), .none, .none, .none, (.ref 187), (.int 454 0), (.int 95 0), (.str "/claim/cut.py" 455)]), #[]⟩
noncomputable def o234 (P : Params) : Obj := ⟨(.type "function"), none, (.func ⟨"switch", "switch", (fA (ms 13)), (.stmts (fB (ms 13))), (fS (ms 13)), 3, [], .none, .none, .none, (.str "emacs.modes" 220), none, (.ref 188), .none, 0⟩), #[]⟩
noncomputable def o235 (P : Params) : Obj := ⟨(.type "tuple"), none, (.seq #[] 0), #[]⟩
noncomputable def o236 (P : Params) : Obj := ⟨.none, none, (.fields #[]), #[]⟩
noncomputable def o237 (P : Params) : Obj := ⟨(.type "tuple"), none, (.seq #[(.str "is_on" 460), (.str "argument" 461), (.str "is_interactive" 462)] 0), #[]⟩
noncomputable def o238 (P : Params) : Obj := ⟨(.type "tuple"), none, (.seq #[] 0), #[]⟩
noncomputable def o239 (P : Params) : Obj := ⟨.none, none, (.func ⟨"wanted_on", "wanted_on", (fA (ms 14)), (.stmts (fB (ms 14))), (fS (ms 14)), 0, [], .none, .none, .none, .none, none, .none, .none, 0⟩), #[]⟩
noncomputable def o240 (P : Params) : Obj := ⟨(.type "code"), none, (.fields #[(.str "wanted_on" 457), (.str "wanted_on" 458), (.str "/claim/cut.py" 459), (.int 102 0), (.int 3 0), (.int 0 0), (.int 0 0), (.int 3 0), (.ref 190), (.bool true), (.int 181 0), (.ref 191), .none, (.ref 192), (.ref 193), (.ref 194), (.int 463 0), (.int 102 0), (.str "/claim/cut.py" 464)]), #[]⟩
noncomputable def o241 (P : Params) : Obj := ⟨(.type "function"), none, (.func ⟨"wanted_on", "wanted_on", (fA (ms 14)), (.stmts (fB (ms 14))), (fS (ms 14)), 3, [], .none, .none, .none, (.str "emacs.modes" 220), none, (.ref 195), .none, 0⟩), #[]⟩
noncomputable def o242 (P : Params) : Obj := ⟨(.type "tuple"), none, (.seq #[] 0), #[]⟩
noncomputable def o243 (P : Params) : Obj := ⟨.none, none, (.fields #[]), #[]⟩
noncomputable def o244 (P : Params) : Obj := ⟨.none, none, (.func ⟨"turn_mode", "turn_mode", (fA (ms 15)), (.stmts (fB (ms 15))), (fS (ms 15)), 0, [], .none, .none, .none, .none, none, .none, .none, 0⟩), #[]⟩
noncomputable def o245 (P : Params) : Obj := ⟨(.type "code"), none, (.fields #[(.str "turn_mode" 466), (.str "turn_mode" 467), (.str "/claim/cut.py" 468), (.int 108 0), (.int 6 0), (.int 0 0), (.int 0 0), (.int 3 0), (.ref 197), (.bool true), (.int 181 0), (.ref 198), .none, .none, .none, (.ref 199), (.int 469 0), (.int 108 0), (.str "/claim/cut.py" 470)]), #[]⟩
noncomputable def o246 (P : Params) : Obj := ⟨(.type "function"), none, (.func ⟨"turn_mode", "turn_mode", (fA (ms 15)), (.stmts (fB (ms 15))), (fS (ms 15)), 3, [], .none, .none, .none, (.str "emacs.modes" 220), none, (.ref 200), .none, 0⟩), #[]⟩
noncomputable def o247 (P : Params) : Obj := ⟨(.type "tuple"), none, (.seq #[] 0), #[]⟩
noncomputable def o248 (P : Params) : Obj := ⟨.none, none, (.fields #[]), #[]⟩
noncomputable def o249 (P : Params) : Obj := ⟨(.type "tuple"), none, (.seq #[(.str "table" 475), (.str "state" 476), (.str "found" 477), (.str "symbol" 478)] 0), #[]⟩
noncomputable def o250 (P : Params) : Obj := ⟨(.type "tuple"), none, (.seq #[] 0), #[]⟩
noncomputable def o251 (P : Params) : Obj := ⟨.none, none, (.func ⟨"lighters", "lighters", (fA (ms 16)), (.stmts (fB (ms 16))), (fS (ms 17)), 0, [], .none, .none, .none, .none, none, .none, .none, 0⟩), #[]⟩
noncomputable def o252 (P : Params) : Obj := ⟨(.type "code"), none, (.fields #[(.str "lighters" 472), (.str "lighters" 473), (.str "/claim/cut.py" 474), (.int 117 0), (.int 2 0), (.int 0 0), (.int 0 0), (.int 3 0), (.ref 202), (.bool true), (.int 181 0), (.ref 203), .none, (.ref 204), (.ref 205), (.ref 206), (.int 479 0), (.int 117 0), (.str "/claim/cut.py" 480)]), #[]⟩
noncomputable def o253 (P : Params) : Obj := ⟨(.type "function"), none, (.func ⟨"lighters", "lighters", (fA (ms 16)), (.stmts (fB (ms 16))), (fS (ms 17)), 3, [], .none, .none, .none, (.str "emacs.modes" 220), none, (.ref 207), .none, 0⟩), #[]⟩
noncomputable def o254 (P : Params) : Obj := ⟨(.type "dict"), none, (.dict #[en P "__name__" 165 (.str "law_np0026_01" 492), en P "__doc__" 166 .none, en P "__package__" 167 .none, en P "__loader__" 168 (.builtin "__main__.__loader__#opaque"), en P "__spec__" 169 .none, en P "__annotations__" 170 (.ref 6), en P "__builtins__" 171 (.ref 4), en P "__file__" 173 (.str "/claim/cut.py" 172), en P "__cached__" 174 .none, en P "LispSignal" 219 (.ref 31), en P "CHANGE" 223 (.int 0 222), en P "KILL" 225 (.int 1 224), en P "BODY" 227 (.int 2 226), en P "HOOK" 229 (.int 3 228), en P "BEHIND" 231 (.int 4 230), en P "Mode" 272 (.ref 51), en P "Minor" 309 (.ref 72), en P "ModeTable" 406 (.ref 147), en P "ModeState" 444 (.ref 175), en P "switch_steps" 450 (.ref 184), en P "switch" 456 (.ref 189), en P "wanted_on" 465 (.ref 196), en P "turn_mode" 471 (.ref 201), en P "lighters" 481 (.ref 208), en P "minor_keymaps" 491 (.ref 215), en P "_law_draw" 501 (.ref 222), en P "_law_line" 510 (.ref 229), en P "_law_switched" 521 (.ref 236), en P "_law_modes" 527 (.ref 241), en P "_law_turned" 540 (.ref 248), en P "_law_rings" 550 (.ref 255), en P "law" 556 (.ref 260)] 32), #[]⟩
noncomputable def o255 (P : Params) : Obj := ⟨.none, none, (.fields #[(.int 2 0), (.int 0 0), (.ref 20), (.int 13 0), (.int 0 0), (.ref 40), (.int 23 0), (.int 0 0), (.ref 61), (.int 31 0), (.int 0 0), (.ref 82), (.int 80 0), (.int 0 0), (.ref 157), (.int 88 0), (.int 0 0), (.ref 183), (.int 95 0), (.int 0 0), (.ref 188), (.int 102 0), (.int 0 0), (.ref 195), (.int 108 0), (.int 0 0), (.ref 200), (.int 117 0), (.int 0 0), (.ref 207), (.int 123 0), (.int 0 0), (.ref 214), (.int 130 0), (.int 0 0), (.ref 221), (.int 132 0), (.int 0 0), (.ref 228), (.int 138 0), (.int 0 0), (.ref 235), (.int 145 0), (.int 0 0), (.ref 240), (.int 157 0), (.int 0 0), (.ref 247), (.int 161 0), (.int 0 0), (.ref 254), (.int 169 0), (.int 0 0), (.ref 259)]), #[]⟩
noncomputable def o256 (P : Params) : Obj := ⟨(.type "tuple"), none, (.seq #[] 0), #[]⟩
noncomputable def o257 (P : Params) : Obj := ⟨.none, none, (.fields #[]), #[]⟩
noncomputable def o258 (P : Params) : Obj := ⟨(.type "tuple"), none, (.seq #[(.str "table" 485), (.str "state" 486), (.str "found" 487), (.str "symbol" 488)] 0), #[]⟩
noncomputable def o259 (P : Params) : Obj := ⟨(.type "tuple"), none, (.seq #[] 0), #[]⟩
noncomputable def o260 (P : Params) : Obj := ⟨.none, none, (.func ⟨"minor_keymaps", "minor_keymaps", (fA (ms 17)), (.stmts (fB (ms 17))), (fS (ms 17)), 0, [], .none, .none, .none, .none, none, .none, .none, 0⟩), #[]⟩
noncomputable def o261 (P : Params) : Obj := ⟨(.type "code"), none, (.fields #[(.str "minor_keymaps" 482), (.str "minor_keymaps" 483), (.str "/claim/cut.py" 484), (.int 123 0), (.int 2 0), (.int 0 0), (.int 0 0), (.int 3 0), (.ref 209), (.bool true), (.int 181 0), (.ref 210), .none, (.ref 211), (.ref 212), (.ref 213), (.int 489 0), (.int 123 0), (.str "/claim/cut.py" 490)]), #[]⟩
noncomputable def o262 (P : Params) : Obj := ⟨(.type "function"), none, (.func ⟨"minor_keymaps", "minor_keymaps", (fA (ms 17)), (.stmts (fB (ms 17))), (fS (ms 17)), 3, [], .none, .none, .none, (.str "emacs.modes" 220), none, (.ref 214), .none, 0⟩), #[]⟩
noncomputable def o263 (P : Params) : Obj := ⟨(.type "tuple"), none, (.seq #[] 0), #[]⟩
noncomputable def o264 (P : Params) : Obj := ⟨.none, none, (.fields #[]), #[]⟩
noncomputable def o265 (P : Params) : Obj := ⟨(.type "tuple"), none, (.seq #[(.str "deck" 497), (.str "many" 498)] 0), #[]⟩
noncomputable def o266 (P : Params) : Obj := ⟨(.type "tuple"), none, (.seq #[] 0), #[]⟩
noncomputable def o267 (P : Params) : Obj := ⟨.none, none, (.func ⟨"_law_draw", "_law_draw", (fA (ms 19)), (.stmts (fB (ms 19))), (fS (ms 19)), 0, [], .none, .none, .none, .none, none, .none, .none, 0⟩), #[]⟩
noncomputable def o268 (P : Params) : Obj := ⟨(.type "code"), none, (.fields #[(.str "_law_draw" 494), (.str "_law_draw" 495), (.str "/claim/cut.py" 496), (.int 130 0), (.int 2 0), (.int 0 0), (.int 0 0), (.int 3 0), (.ref 216), (.bool true), (.int 181 0), (.ref 217), .none, (.ref 218), (.ref 219), (.ref 220), (.int 499 0), (.int 130 0), (.str "/claim/cut.py" 500)]), #[]⟩
noncomputable def o269 (P : Params) : Obj := ⟨(.type "function"), none, (.func ⟨"_law_draw", "_law_draw", (fA (ms 19)), (.stmts (fB (ms 19))), (fS (ms 19)), 3, [], .none, .none, .none, (.str "law_np0026_01" 492), none, (.ref 221), .none, 0⟩), #[]⟩
noncomputable def o270 (P : Params) : Obj := ⟨(.type "tuple"), none, (.seq #[] 0), #[]⟩
noncomputable def o271 (P : Params) : Obj := ⟨.none, none, (.fields #[]), #[]⟩
noncomputable def o272 (P : Params) : Obj := ⟨(.type "tuple"), none, (.seq #[(.str "parents" 505), (.str "symbol" 506), (.str "found" 507)] 0), #[]⟩
noncomputable def o273 (P : Params) : Obj := ⟨(.type "tuple"), none, (.seq #[] 0), #[]⟩
noncomputable def o274 (P : Params) : Obj := ⟨.none, none, (.func ⟨"_law_line", "_law_line", (fA (ms 20)), (.stmts (fB (ms 20))), (fS (ms 20)), 0, [], .none, .none, .none, .none, none, .none, .none, 0⟩), #[]⟩
noncomputable def o275 (P : Params) : Obj := ⟨(.type "code"), none, (.fields #[(.str "_law_line" 502), (.str "_law_line" 503), (.str "/claim/cut.py" 504), (.int 132 0), (.int 2 0), (.int 0 0), (.int 0 0), (.int 3 0), (.ref 223), (.bool true), (.int 181 0), (.ref 224), .none, (.ref 225), (.ref 226), (.ref 227), (.int 508 0), (.int 132 0), (.str "/claim/cut.py" 509)]), #[]⟩
noncomputable def o276 (P : Params) : Obj := ⟨(.type "function"), none, (.func ⟨"_law_line", "_law_line", (fA (ms 20)), (.stmts (fB (ms 20))), (fS (ms 20)), 3, [], .none, .none, .none, (.str "law_np0026_01" 492), none, (.ref 228), .none, 0⟩), #[]⟩
noncomputable def o277 (P : Params) : Obj := ⟨(.type "tuple"), none, (.seq #[] 0), #[]⟩
noncomputable def o278 (P : Params) : Obj := ⟨.none, none, (.fields #[]), #[]⟩
noncomputable def o279 (P : Params) : Obj := ⟨(.type "tuple"), none, (.seq #[(.str "table" 514), (.str "state" 515), (.str "symbol" 516), (.str "permanent" 517)] 0), #[]⟩
noncomputable def o280 (P : Params) : Obj := ⟨(.type "tuple"), none, (.seq #[(.str "steps" 518)] 0), #[]⟩
noncomputable def o281 (P : Params) : Obj := ⟨.none, none, (.func ⟨"_law_switched", "_law_switched", (fA (ms 21)), (.stmts (fB (ms 21))), (fS (ms 21)), 0, [], .none, .none, .none, .none, none, .none, .none, 0⟩), #[]⟩
noncomputable def o282 (P : Params) : Obj := ⟨(.type "code"), none, (.fields #[(.str "_law_switched" 511), (.str "_law_switched" 512), (.str "/claim/cut.py" 513), (.int 138 0), (.int 4 0), (.int 0 0), (.int 0 0), (.int 3 0), (.ref 230), (.bool true), (.int 181 0), (.ref 231), .none, (.ref 232), (.ref 233), (.ref 234), (.int 519 0), (.int 138 0), (.str "/claim/cut.py" 520)]), #[]⟩
noncomputable def o283 (P : Params) : Obj := ⟨(.type "function"), none, (.func ⟨"_law_switched", "_law_switched", (fA (ms 21)), (.stmts (fB (ms 21))), (fS (ms 21)), 3, [], .none, .none, .none, (.str "law_np0026_01" 492), none, (.ref 235), .none, 0⟩), #[]⟩
noncomputable def o284 (P : Params) : Obj := ⟨(.type "tuple"), none, (.seq #[] 0), #[]⟩
noncomputable def o285 (P : Params) : Obj := ⟨.none, none, (.fields #[]), #[]⟩
noncomputable def o286 (P : Params) : Obj := ⟨.none, none, (.func ⟨"_law_modes", "_law_modes", (fA (ms 22)), (.stmts (fB (ms 22))), (fS (ms 22)), 0, [], .none, .none, .none, .none, none, .none, .none, 0⟩), #[]⟩
noncomputable def o287 (P : Params) : Obj := ⟨(.type "code"), none, (.fields #[(.str "_law_modes" 522), (.str "_law_modes" 523), (.str "/claim/cut.py" 524), (.int 145 0), (.int 4 0), (.int 0 0), (.int 0 0), (.int 3 0), (.ref 237), (.bool true), (.int 181 0), (.ref 238), .none, .none, .none, (.ref 239), (.int 525 0), (.int 145 0), (.str "/claim/cut.py" 526)]), #[]⟩
noncomputable def o288 (P : Params) : Obj := ⟨(.type "function"), none, (.func ⟨"_law_modes", "_law_modes", (fA (ms 22)), (.stmts (fB (ms 22))), (fS (ms 22)), 3, [], .none, .none, .none, (.str "law_np0026_01" 492), none, (.ref 240), .none, 0⟩), #[]⟩
noncomputable def o289 (P : Params) : Obj := ⟨(.type "tuple"), none, (.seq #[] 0), #[]⟩
noncomputable def o290 (P : Params) : Obj := ⟨.none, none, (.fields #[]), #[]⟩
noncomputable def o291 (P : Params) : Obj := ⟨(.type "tuple"), none, (.seq #[(.str "table" 531), (.str "state" 532), (.str "symbol" 533), (.str "argument" 534), (.str "is_user" 535), (.str "told_here" 536)] 0), #[]⟩
noncomputable def o292 (P : Params) : Obj := ⟨(.type "tuple"), none, (.seq #[(.str "steps" 537)] 0), #[]⟩
noncomputable def o293 (P : Params) : Obj := ⟨.none, none, (.func ⟨"_law_turned", "_law_turned", (fA (ms 23)), (.stmts (fB (ms 23))), (fS (ms 23)), 0, [], .none, .none, .none, .none, none, .none, .none, 0⟩), #[]⟩
noncomputable def o294 (P : Params) : Obj := ⟨(.type "code"), none, (.fields #[(.str "_law_turned" 528), (.str "_law_turned" 529), (.str "/claim/cut.py" 530), (.int 157 0), (.int 5 0), (.int 0 0), (.int 0 0), (.int 3 0), (.ref 242), (.bool true), (.int 181 0), (.ref 243), .none, (.ref 244), (.ref 245), (.ref 246), (.int 538 0), (.int 157 0), (.str "/claim/cut.py" 539)]), #[]⟩
noncomputable def o295 (P : Params) : Obj := ⟨(.type "function"), none, (.func ⟨"_law_turned", "_law_turned", (fA (ms 23)), (.stmts (fB (ms 23))), (fS (ms 23)), 3, [], .none, .none, .none, (.str "law_np0026_01" 492), none, (.ref 247), .none, 0⟩), #[]⟩
noncomputable def o296 (P : Params) : Obj := ⟨(.type "tuple"), none, (.seq #[] 0), #[]⟩
noncomputable def o297 (P : Params) : Obj := ⟨.none, none, (.fields #[]), #[]⟩
noncomputable def o298 (P : Params) : Obj := ⟨(.type "tuple"), none, (.seq #[(.str "table" 544), (.str "state" 545), (.str "before" 546), (.str "symbol" 547)] 0), #[]⟩
noncomputable def o299 (P : Params) : Obj := ⟨(.type "tuple"), none, (.seq #[] 0), #[]⟩
noncomputable def o300 (P : Params) : Obj := ⟨.none, none, (.func ⟨"_law_rings", "_law_rings", (fA (ms 24)), (.stmts (fB (ms 24))), (fS (ms 24)), 0, [], .none, .none, .none, .none, none, .none, .none, 0⟩), #[]⟩
noncomputable def o301 (P : Params) : Obj := ⟨(.type "code"), none, (.fields #[(.str "_law_rings" 541), (.str "_law_rings" 542), (.str "/claim/cut.py" 543), (.int 161 0), (.int 2 0), (.int 0 0), (.int 0 0), (.int 3 0), (.ref 249), (.bool true), (.int 181 0), (.ref 250), .none, (.ref 251), (.ref 252), (.ref 253), (.int 548 0), (.int 161 0), (.str "/claim/cut.py" 549)]), #[]⟩
noncomputable def o302 (P : Params) : Obj := ⟨(.type "function"), none, (.func ⟨"_law_rings", "_law_rings", (fA (ms 24)), (.stmts (fB (ms 24))), (fS (ms 24)), 3, [], .none, .none, .none, (.str "law_np0026_01" 492), none, (.ref 254), .none, 0⟩), #[]⟩
noncomputable def o303 (P : Params) : Obj := ⟨(.type "tuple"), none, (.seq #[] 0), #[]⟩
noncomputable def o304 (P : Params) : Obj := ⟨.none, none, (.fields #[]), #[]⟩
noncomputable def o305 (P : Params) : Obj := ⟨.none, none, (.func ⟨"law", "law", (fA (ms 25)), (.stmts (fB (ms 25))), (fS (ms 25)), 0, [], .none, .none, .none, .none, none, .none, .none, 0⟩), #[]⟩
noncomputable def o306 (P : Params) : Obj := ⟨(.type "code"), none, (.fields #[(.str "law" 551), (.str "law" 552), (.str "/claim/cut.py" 553), (.int 169 0), (.int 1 0), (.int 0 0), (.int 0 0), (.int 3 0), (.ref 256), (.bool true), (.int 181 0), (.ref 257), .none, .none, .none, (.ref 258), (.int 554 0), (.int 169 0), (.str "/claim/cut.py" 555)]), #[]⟩
noncomputable def o307 (P : Params) : Obj := ⟨(.type "function"), none, (.func ⟨"law", "law", (fA (ms 25)), (.stmts (fB (ms 25))), (fS (ms 25)), 3, [], .none, .none, .none, (.str "law_np0026_01" 492), none, (.ref 259), .none, 0⟩), #[]⟩
noncomputable def hd.tree_253 (P : Params) : BT := (.node (boot_o_0 P) (.node (boot_o_1 P) (.node (o195 P) (.node (boot_o_7 P) (.node (o52 P) (.node (o68 P) (.node (o104 P) (.node (o170 P) .nil .nil) (.node (o236 P) .nil .nil)) (.node (o138 P) (.node (o204 P) .nil .nil) .nil)) (.node (o86 P) (.node (o122 P) (.node (o186 P) .nil .nil) (.node (o252 P) .nil .nil)) (.node (o154 P) (.node (o220 P) .nil .nil) .nil))) (.node (o60 P) (.node (o78 P) (.node (o112 P) (.node (o178 P) .nil .nil) (.node (o244 P) .nil .nil)) (.node (o146 P) (.node (o212 P) .nil .nil) .nil)) (.node (o94 P) (.node (o130 P) (.node (o194 P) .nil .nil) .nil) (.node (o162 P) (.node (o228 P) .nil .nil) .nil)))) (.node (o43 P) (.node (o56 P) (.node (o74 P) (.node (o108 P) (.node (o174 P) .nil .nil) (.node (o240 P) .nil .nil)) (.node (o142 P) (.node (o208 P) .nil .nil) .nil)) (.node (o90 P) (.node (o126 P) (.node (o190 P) .nil .nil) .nil) (.node (o158 P) (.node (o224 P) .nil .nil) .nil))) (.node (o64 P) (.node (o82 P) (.node (o116 P) (.node (o182 P) .nil .nil) (.node (o248 P) .nil .nil)) (.node (o150 P) (.node (o216 P) .nil .nil) .nil)) (.node (o100 P) (.node (o134 P) (.node (o200 P) .nil .nil) .nil) (.node (o166 P) (.node (o232 P) .nil .nil) .nil))))) (.node (boot_o_5 P) (.node (boot_o_9 P) (.node (o54 P) (.node (o70 P) (.node (o106 P) (.node (o172 P) .nil .nil) (.node (o238 P) .nil .nil)) (.node (o140 P) (.node (o206 P) .nil .nil) .nil)) (.node (o88 P) (.node (o124 P) (.node (o188 P) .nil .nil) .nil) (.node (o156 P) (.node (o222 P) .nil .nil) .nil))) (.node (o62 P) (.node (o80 P) (.node (o114 P) (.node (o180 P) .nil .nil) (.node (o246 P) .nil .nil)) (.node (o148 P) (.node (o214 P) .nil .nil) .nil)) (.node (o98 P) (.node (o132 P) (.node (o198 P) .nil .nil) .nil) (.node (o164 P) (.node (o230 P) .nil .nil) .nil)))) (.node (o45 P) (.node (o58 P) (.node (o76 P) (.node (o110 P) (.node (o176 P) .nil .nil) (.node (o242 P) .nil .nil)) (.node (o144 P) (.node (o210 P) .nil .nil) .nil)) (.node (o92 P) (.node (o128 P) (.node (o192 P) .nil .nil) .nil) (.node (o160 P) (.node (o226 P) .nil .nil) .nil))) (.node (o66 P) (.node (o84 P) (.node (o120 P) (.node (o184 P) .nil .nil) (.node (o250 P) .nil .nil)) (.node (o152 P) (.node (o218 P) .nil .nil) .nil)) (.node (o102 P) (.node (o136 P) (.node (o202 P) .nil .nil) .nil) (.node (o168 P) (.node (o234 P) .nil .nil) .nil)))))) (.node (o49 P) (.node (boot_o_4 P) (.node (boot_o_8 P) (.node (o53 P) (.node (o69 P) (.node (o105 P) (.node (o171 P) .nil .nil) (.node (o237 P) .nil .nil)) (.node (o139 P) (.node (o205 P) .nil .nil) .nil)) (.node (o87 P) (.node (o123 P) (.node (o187 P) .nil .nil) (.node (o253 P) .nil .nil)) (.node (o155 P) (.node (o221 P) .nil .nil) .nil))) (.node (o61 P) (.node (o79 P) (.node (o113 P) (.node (o179 P) .nil .nil) (.node (o245 P) .nil .nil)) (.node (o147 P) (.node (o213 P) .nil .nil) .nil)) (.node (o97 P) (.node (o131 P) (.node (o197 P) .nil .nil) .nil) (.node (o163 P) (.node (o229 P) .nil .nil) .nil)))) (.node (o196 P) (.node (o57 P) (.node (o75 P) (.node (o109 P) (.node (o175 P) .nil .nil) (.node (o241 P) .nil .nil)) (.node (o143 P) (.node (o209 P) .nil .nil) .nil)) (.node (o91 P) (.node (o127 P) (.node (o191 P) .nil .nil) .nil) (.node (o159 P) (.node (o225 P) .nil .nil) .nil))) (.node (o65 P) (.node (o83 P) (.node (o117 P) (.node (o183 P) .nil .nil) (.node (o249 P) .nil .nil)) (.node (o151 P) (.node (o217 P) .nil .nil) .nil)) (.node (o101 P) (.node (o135 P) (.node (o201 P) .nil .nil) .nil) (.node (o167 P) (.node (o233 P) .nil .nil) .nil))))) (.node (boot_o_6 P) (.node (boot_o_10 P) (.node (o55 P) (.node (o71 P) (.node (o107 P) (.node (o173 P) .nil .nil) (.node (o239 P) .nil .nil)) (.node (o141 P) (.node (o207 P) .nil .nil) .nil)) (.node (o89 P) (.node (o125 P) (.node (o189 P) .nil .nil) .nil) (.node (o157 P) (.node (o223 P) .nil .nil) .nil))) (.node (o63 P) (.node (o81 P) (.node (o115 P) (.node (o181 P) .nil .nil) (.node (o247 P) .nil .nil)) (.node (o149 P) (.node (o215 P) .nil .nil) .nil)) (.node (o99 P) (.node (o133 P) (.node (o199 P) .nil .nil) .nil) (.node (o165 P) (.node (o231 P) .nil .nil) .nil)))) (.node (o46 P) (.node (o59 P) (.node (o77 P) (.node (o111 P) (.node (o177 P) .nil .nil) (.node (o243 P) .nil .nil)) (.node (o145 P) (.node (o211 P) .nil .nil) .nil)) (.node (o93 P) (.node (o129 P) (.node (o193 P) .nil .nil) .nil) (.node (o161 P) (.node (o227 P) .nil .nil) .nil))) (.node (o67 P) (.node (o85 P) (.node (o121 P) (.node (o185 P) .nil .nil) (.node (o251 P) .nil .nil)) (.node (o153 P) (.node (o219 P) .nil .nil) .nil)) (.node (o103 P) (.node (o137 P) (.node (o203 P) .nil .nil) .nil) (.node (o169 P) (.node (o235 P) .nil .nil) .nil)))))))
noncomputable def hd.sts_95 : List Stmt := [(ms 9)]
noncomputable def hd.sts_49 : List Stmt := [(ms 0), (ms 1), (ms 2), (ms 3), (ms 4), (ms 5), (ms 6), (ms 7)]
noncomputable def hd.tree_71 (P : Params) : BT := (.node (boot_o_0 P) (.node (boot_o_1 P) (.node (o50 P) (.node (boot_o_7 P) (.node (o52 P) (.node (o68 P) .nil .nil) .nil) (.node (o60 P) .nil .nil)) (.node (o43 P) (.node (o56 P) .nil .nil) (.node (o64 P) .nil .nil))) (.node (boot_o_5 P) (.node (boot_o_9 P) (.node (o54 P) (.node (o70 P) .nil .nil) .nil) (.node (o62 P) .nil .nil)) (.node (o45 P) (.node (o58 P) .nil .nil) (.node (o66 P) .nil .nil)))) (.node (o49 P) (.node (boot_o_4 P) (.node (boot_o_8 P) (.node (o53 P) (.node (o69 P) .nil .nil) .nil) (.node (o61 P) .nil .nil)) (.node (o51 P) (.node (o57 P) .nil .nil) (.node (o65 P) .nil .nil))) (.node (boot_o_6 P) (.node (boot_o_10 P) (.node (o55 P) (.node (o71 P) .nil .nil) .nil) (.node (o63 P) .nil .nil)) (.node (o46 P) (.node (o59 P) .nil .nil) (.node (o67 P) .nil .nil)))))
noncomputable def hd.tree_94 (P : Params) : BT := (.node (boot_o_0 P) (.node (boot_o_1 P) (.node (o72 P) (.node (boot_o_7 P) (.node (o52 P) (.node (o68 P) .nil .nil) (.node (o86 P) .nil .nil)) (.node (o60 P) (.node (o78 P) .nil .nil) (.node (o94 P) .nil .nil))) (.node (o43 P) (.node (o56 P) (.node (o74 P) .nil .nil) (.node (o90 P) .nil .nil)) (.node (o64 P) (.node (o82 P) .nil .nil) .nil))) (.node (boot_o_5 P) (.node (boot_o_9 P) (.node (o54 P) (.node (o70 P) .nil .nil) (.node (o88 P) .nil .nil)) (.node (o62 P) (.node (o80 P) .nil .nil) .nil)) (.node (o45 P) (.node (o58 P) (.node (o76 P) .nil .nil) (.node (o92 P) .nil .nil)) (.node (o66 P) (.node (o84 P) .nil .nil) .nil)))) (.node (o49 P) (.node (boot_o_4 P) (.node (boot_o_8 P) (.node (o53 P) (.node (o69 P) .nil .nil) (.node (o87 P) .nil .nil)) (.node (o61 P) (.node (o79 P) .nil .nil) .nil)) (.node (o73 P) (.node (o57 P) (.node (o75 P) .nil .nil) (.node (o91 P) .nil .nil)) (.node (o65 P) (.node (o83 P) .nil .nil) .nil))) (.node (boot_o_6 P) (.node (boot_o_10 P) (.node (o55 P) (.node (o71 P) .nil .nil) (.node (o89 P) .nil .nil)) (.node (o63 P) (.node (o81 P) .nil .nil) .nil)) (.node (o46 P) (.node (o59 P) (.node (o77 P) .nil .nil) (.node (o93 P) .nil .nil)) (.node (o67 P) (.node (o85 P) .nil .nil) .nil)))))
noncomputable def hd.sts_118 : List Stmt := [(ms 10)]
noncomputable def hd.tree_194 (P : Params) : BT := (.node (boot_o_0 P) (.node (boot_o_1 P) (.node (o118 P) (.node (boot_o_7 P) (.node (o52 P) (.node (o68 P) (.node (o104 P) (.node (o170 P) .nil .nil) .nil) (.node (o138 P) .nil .nil)) (.node (o86 P) (.node (o122 P) (.node (o186 P) .nil .nil) .nil) (.node (o154 P) .nil .nil))) (.node (o60 P) (.node (o78 P) (.node (o112 P) (.node (o178 P) .nil .nil) .nil) (.node (o146 P) .nil .nil)) (.node (o94 P) (.node (o130 P) (.node (o194 P) .nil .nil) .nil) (.node (o162 P) .nil .nil)))) (.node (o43 P) (.node (o56 P) (.node (o74 P) (.node (o108 P) (.node (o174 P) .nil .nil) .nil) (.node (o142 P) .nil .nil)) (.node (o90 P) (.node (o126 P) (.node (o190 P) .nil .nil) .nil) (.node (o158 P) .nil .nil))) (.node (o64 P) (.node (o82 P) (.node (o116 P) (.node (o182 P) .nil .nil) .nil) (.node (o150 P) .nil .nil)) (.node (o100 P) (.node (o134 P) .nil .nil) (.node (o166 P) .nil .nil))))) (.node (boot_o_5 P) (.node (boot_o_9 P) (.node (o54 P) (.node (o70 P) (.node (o106 P) (.node (o172 P) .nil .nil) .nil) (.node (o140 P) .nil .nil)) (.node (o88 P) (.node (o124 P) (.node (o188 P) .nil .nil) .nil) (.node (o156 P) .nil .nil))) (.node (o62 P) (.node (o80 P) (.node (o114 P) (.node (o180 P) .nil .nil) .nil) (.node (o148 P) .nil .nil)) (.node (o98 P) (.node (o132 P) .nil .nil) (.node (o164 P) .nil .nil)))) (.node (o45 P) (.node (o58 P) (.node (o76 P) (.node (o110 P) (.node (o176 P) .nil .nil) .nil) (.node (o144 P) .nil .nil)) (.node (o92 P) (.node (o128 P) (.node (o192 P) .nil .nil) .nil) (.node (o160 P) .nil .nil))) (.node (o66 P) (.node (o84 P) (.node (o120 P) (.node (o184 P) .nil .nil) .nil) (.node (o152 P) .nil .nil)) (.node (o102 P) (.node (o136 P) .nil .nil) (.node (o168 P) .nil .nil)))))) (.node (o49 P) (.node (boot_o_4 P) (.node (boot_o_8 P) (.node (o53 P) (.node (o69 P) (.node (o105 P) (.node (o171 P) .nil .nil) .nil) (.node (o139 P) .nil .nil)) (.node (o87 P) (.node (o123 P) (.node (o187 P) .nil .nil) .nil) (.node (o155 P) .nil .nil))) (.node (o61 P) (.node (o79 P) (.node (o113 P) (.node (o179 P) .nil .nil) .nil) (.node (o147 P) .nil .nil)) (.node (o97 P) (.node (o131 P) .nil .nil) (.node (o163 P) .nil .nil)))) (.node (o119 P) (.node (o57 P) (.node (o75 P) (.node (o109 P) (.node (o175 P) .nil .nil) .nil) (.node (o143 P) .nil .nil)) (.node (o91 P) (.node (o127 P) (.node (o191 P) .nil .nil) .nil) (.node (o159 P) .nil .nil))) (.node (o65 P) (.node (o83 P) (.node (o117 P) (.node (o183 P) .nil .nil) .nil) (.node (o151 P) .nil .nil)) (.node (o101 P) (.node (o135 P) .nil .nil) (.node (o167 P) .nil .nil))))) (.node (boot_o_6 P) (.node (boot_o_10 P) (.node (o55 P) (.node (o71 P) (.node (o107 P) (.node (o173 P) .nil .nil) .nil) (.node (o141 P) .nil .nil)) (.node (o89 P) (.node (o125 P) (.node (o189 P) .nil .nil) .nil) (.node (o157 P) .nil .nil))) (.node (o63 P) (.node (o81 P) (.node (o115 P) (.node (o181 P) .nil .nil) .nil) (.node (o149 P) .nil .nil)) (.node (o99 P) (.node (o133 P) .nil .nil) (.node (o165 P) .nil .nil)))) (.node (o46 P) (.node (o59 P) (.node (o77 P) (.node (o111 P) (.node (o177 P) .nil .nil) .nil) (.node (o145 P) .nil .nil)) (.node (o93 P) (.node (o129 P) (.node (o193 P) .nil .nil) .nil) (.node (o161 P) .nil .nil))) (.node (o67 P) (.node (o85 P) (.node (o121 P) (.node (o185 P) .nil .nil) .nil) (.node (o153 P) .nil .nil)) (.node (o103 P) (.node (o137 P) .nil .nil) (.node (o169 P) .nil .nil)))))))
noncomputable def hd.tree_307 (P : Params) : BT := (.node (boot_o_0 P) (.node (boot_o_1 P) (.node (o254 P) (.node (boot_o_7 P) (.node (o52 P) (.node (o68 P) (.node (o104 P) (.node (o170 P) (.node (o302 P) .nil .nil) .nil) (.node (o236 P) .nil .nil)) (.node (o138 P) (.node (o204 P) .nil .nil) (.node (o270 P) .nil .nil))) (.node (o86 P) (.node (o122 P) (.node (o186 P) .nil .nil) (.node (o252 P) .nil .nil)) (.node (o154 P) (.node (o220 P) .nil .nil) (.node (o286 P) .nil .nil)))) (.node (o60 P) (.node (o78 P) (.node (o112 P) (.node (o178 P) .nil .nil) (.node (o244 P) .nil .nil)) (.node (o146 P) (.node (o212 P) .nil .nil) (.node (o278 P) .nil .nil))) (.node (o94 P) (.node (o130 P) (.node (o194 P) .nil .nil) (.node (o262 P) .nil .nil)) (.node (o162 P) (.node (o228 P) .nil .nil) (.node (o294 P) .nil .nil))))) (.node (o43 P) (.node (o56 P) (.node (o74 P) (.node (o108 P) (.node (o174 P) (.node (o306 P) .nil .nil) .nil) (.node (o240 P) .nil .nil)) (.node (o142 P) (.node (o208 P) .nil .nil) (.node (o274 P) .nil .nil))) (.node (o90 P) (.node (o126 P) (.node (o190 P) .nil .nil) (.node (o258 P) .nil .nil)) (.node (o158 P) (.node (o224 P) .nil .nil) (.node (o290 P) .nil .nil)))) (.node (o64 P) (.node (o82 P) (.node (o116 P) (.node (o182 P) .nil .nil) (.node (o248 P) .nil .nil)) (.node (o150 P) (.node (o216 P) .nil .nil) (.node (o282 P) .nil .nil))) (.node (o100 P) (.node (o134 P) (.node (o200 P) .nil .nil) (.node (o266 P) .nil .nil)) (.node (o166 P) (.node (o232 P) .nil .nil) (.node (o298 P) .nil .nil)))))) (.node (boot_o_5 P) (.node (boot_o_9 P) (.node (o54 P) (.node (o70 P) (.node (o106 P) (.node (o172 P) (.node (o304 P) .nil .nil) .nil) (.node (o238 P) .nil .nil)) (.node (o140 P) (.node (o206 P) .nil .nil) (.node (o272 P) .nil .nil))) (.node (o88 P) (.node (o124 P) (.node (o188 P) .nil .nil) (.node (o256 P) .nil .nil)) (.node (o156 P) (.node (o222 P) .nil .nil) (.node (o288 P) .nil .nil)))) (.node (o62 P) (.node (o80 P) (.node (o114 P) (.node (o180 P) .nil .nil) (.node (o246 P) .nil .nil)) (.node (o148 P) (.node (o214 P) .nil .nil) (.node (o280 P) .nil .nil))) (.node (o98 P) (.node (o132 P) (.node (o198 P) .nil .nil) (.node (o264 P) .nil .nil)) (.node (o164 P) (.node (o230 P) .nil .nil) (.node (o296 P) .nil .nil))))) (.node (o45 P) (.node (o58 P) (.node (o76 P) (.node (o110 P) (.node (o176 P) .nil .nil) (.node (o242 P) .nil .nil)) (.node (o144 P) (.node (o210 P) .nil .nil) (.node (o276 P) .nil .nil))) (.node (o92 P) (.node (o128 P) (.node (o192 P) .nil .nil) (.node (o260 P) .nil .nil)) (.node (o160 P) (.node (o226 P) .nil .nil) (.node (o292 P) .nil .nil)))) (.node (o66 P) (.node (o84 P) (.node (o120 P) (.node (o184 P) .nil .nil) (.node (o250 P) .nil .nil)) (.node (o152 P) (.node (o218 P) .nil .nil) (.node (o284 P) .nil .nil))) (.node (o102 P) (.node (o136 P) (.node (o202 P) .nil .nil) (.node (o268 P) .nil .nil)) (.node (o168 P) (.node (o234 P) .nil .nil) (.node (o300 P) .nil .nil))))))) (.node (o49 P) (.node (boot_o_4 P) (.node (boot_o_8 P) (.node (o53 P) (.node (o69 P) (.node (o105 P) (.node (o171 P) (.node (o303 P) .nil .nil) .nil) (.node (o237 P) .nil .nil)) (.node (o139 P) (.node (o205 P) .nil .nil) (.node (o271 P) .nil .nil))) (.node (o87 P) (.node (o123 P) (.node (o187 P) .nil .nil) (.node (o253 P) .nil .nil)) (.node (o155 P) (.node (o221 P) .nil .nil) (.node (o287 P) .nil .nil)))) (.node (o61 P) (.node (o79 P) (.node (o113 P) (.node (o179 P) .nil .nil) (.node (o245 P) .nil .nil)) (.node (o147 P) (.node (o213 P) .nil .nil) (.node (o279 P) .nil .nil))) (.node (o97 P) (.node (o131 P) (.node (o197 P) .nil .nil) (.node (o263 P) .nil .nil)) (.node (o163 P) (.node (o229 P) .nil .nil) (.node (o295 P) .nil .nil))))) (.node (o255 P) (.node (o57 P) (.node (o75 P) (.node (o109 P) (.node (o175 P) (.node (o307 P) .nil .nil) .nil) (.node (o241 P) .nil .nil)) (.node (o143 P) (.node (o209 P) .nil .nil) (.node (o275 P) .nil .nil))) (.node (o91 P) (.node (o127 P) (.node (o191 P) .nil .nil) (.node (o259 P) .nil .nil)) (.node (o159 P) (.node (o225 P) .nil .nil) (.node (o291 P) .nil .nil)))) (.node (o65 P) (.node (o83 P) (.node (o117 P) (.node (o183 P) .nil .nil) (.node (o249 P) .nil .nil)) (.node (o151 P) (.node (o217 P) .nil .nil) (.node (o283 P) .nil .nil))) (.node (o101 P) (.node (o135 P) (.node (o201 P) .nil .nil) (.node (o267 P) .nil .nil)) (.node (o167 P) (.node (o233 P) .nil .nil) (.node (o299 P) .nil .nil)))))) (.node (boot_o_6 P) (.node (boot_o_10 P) (.node (o55 P) (.node (o71 P) (.node (o107 P) (.node (o173 P) (.node (o305 P) .nil .nil) .nil) (.node (o239 P) .nil .nil)) (.node (o141 P) (.node (o207 P) .nil .nil) (.node (o273 P) .nil .nil))) (.node (o89 P) (.node (o125 P) (.node (o189 P) .nil .nil) (.node (o257 P) .nil .nil)) (.node (o157 P) (.node (o223 P) .nil .nil) (.node (o289 P) .nil .nil)))) (.node (o63 P) (.node (o81 P) (.node (o115 P) (.node (o181 P) .nil .nil) (.node (o247 P) .nil .nil)) (.node (o149 P) (.node (o215 P) .nil .nil) (.node (o281 P) .nil .nil))) (.node (o99 P) (.node (o133 P) (.node (o199 P) .nil .nil) (.node (o265 P) .nil .nil)) (.node (o165 P) (.node (o231 P) .nil .nil) (.node (o297 P) .nil .nil))))) (.node (o46 P) (.node (o59 P) (.node (o77 P) (.node (o111 P) (.node (o177 P) .nil .nil) (.node (o243 P) .nil .nil)) (.node (o145 P) (.node (o211 P) .nil .nil) (.node (o277 P) .nil .nil))) (.node (o93 P) (.node (o129 P) (.node (o193 P) .nil .nil) (.node (o261 P) .nil .nil)) (.node (o161 P) (.node (o227 P) .nil .nil) (.node (o293 P) .nil .nil)))) (.node (o67 P) (.node (o85 P) (.node (o121 P) (.node (o185 P) .nil .nil) (.node (o251 P) .nil .nil)) (.node (o153 P) (.node (o219 P) .nil .nil) (.node (o285 P) .nil .nil))) (.node (o103 P) (.node (o137 P) (.node (o203 P) .nil .nil) (.node (o269 P) .nil .nil)) (.node (o169 P) (.node (o235 P) .nil .nil) (.node (o301 P) .nil .nil))))))))
noncomputable def hd.heap_308 (P : Params) : Heap := ⟨(List.toArray ((boot_o_0 P) :: (boot_o_1 P) :: (o49 P) :: (o254 P) :: (boot_o_4 P) :: (boot_o_5 P) :: (boot_o_6 P) :: (boot_o_7 P) :: (boot_o_8 P) :: (boot_o_9 P) :: (boot_o_10 P) :: (o43 P) :: (o255 P) :: (o45 P) :: (o46 P) :: (o52 P) :: (o53 P) :: (o54 P) :: (o55 P) :: (o56 P) :: (o57 P) :: (o58 P) :: (o59 P) :: (o60 P) :: (o61 P) :: (o62 P) :: (o63 P) :: (o64 P) :: (o65 P) :: (o66 P) :: (o67 P) :: (o68 P) :: (o69 P) :: (o70 P) :: (o71 P) :: (o74 P) :: (o75 P) :: (o76 P) :: (o77 P) :: (o78 P) :: (o79 P) :: (o80 P) :: (o81 P) :: (o82 P) :: (o83 P) :: (o84 P) :: (o85 P) :: (o86 P) :: (o87 P) :: (o88 P) :: (o89 P) :: (o90 P) :: (o91 P) :: (o92 P) :: (o93 P) :: (o94 P) :: (o97 P) :: (o98 P) :: (o99 P) :: (o100 P) :: (o101 P) :: (o102 P) :: (o103 P) :: (o104 P) :: (o105 P) :: (o106 P) :: (o107 P) :: (o108 P) :: (o109 P) :: (o110 P) :: (o111 P) :: (o112 P) :: (o113 P) :: (o114 P) :: (o115 P) :: (o116 P) :: (o117 P) :: (o120 P) :: (o121 P) :: (o122 P) :: (o123 P) :: (o124 P) :: (o125 P) :: (o126 P) :: (o127 P) :: (o128 P) :: (o129 P) :: (o130 P) :: (o131 P) :: (o132 P) :: (o133 P) :: (o134 P) :: (o135 P) :: (o136 P) :: (o137 P) :: (o138 P) :: (o139 P) :: (o140 P) :: (o141 P) :: (o142 P) :: (o143 P) :: (o144 P) :: (o145 P) :: (o146 P) :: (o147 P) :: (o148 P) :: (o149 P) :: (o150 P) :: (o151 P) :: (o152 P) :: (o153 P) :: (o154 P) :: (o155 P) :: (o156 P) :: (o157 P) :: (o158 P) :: (o159 P) :: (o160 P) :: (o161 P) :: (o162 P) :: (o163 P) :: (o164 P) :: (o165 P) :: (o166 P) :: (o167 P) :: (o168 P) :: (o169 P) :: (o170 P) :: (o171 P) :: (o172 P) :: (o173 P) :: (o174 P) :: (o175 P) :: (o176 P) :: (o177 P) :: (o178 P) :: (o179 P) :: (o180 P) :: (o181 P) :: (o182 P) :: (o183 P) :: (o184 P) :: (o185 P) :: (o186 P) :: (o187 P) :: (o188 P) :: (o189 P) :: (o190 P) :: (o191 P) :: (o192 P) :: (o193 P) :: (o194 P) :: (o197 P) :: (o198 P) :: (o199 P) :: (o200 P) :: (o201 P) :: (o202 P) :: (o203 P) :: (o204 P) :: (o205 P) :: (o206 P) :: (o207 P) :: (o208 P) :: (o209 P) :: (o210 P) :: (o211 P) :: (o212 P) :: (o213 P) :: (o214 P) :: (o215 P) :: (o216 P) :: (o217 P) :: (o218 P) :: (o219 P) :: (o220 P) :: (o221 P) :: (o222 P) :: (o223 P) :: (o224 P) :: (o225 P) :: (o226 P) :: (o227 P) :: (o228 P) :: (o229 P) :: (o230 P) :: (o231 P) :: (o232 P) :: (o233 P) :: (o234 P) :: (o235 P) :: (o236 P) :: (o237 P) :: (o238 P) :: (o239 P) :: (o240 P) :: (o241 P) :: (o242 P) :: (o243 P) :: (o244 P) :: (o245 P) :: (o246 P) :: (o247 P) :: (o248 P) :: (o249 P) :: (o250 P) :: (o251 P) :: (o252 P) :: (o253 P) :: (o256 P) :: (o257 P) :: (o258 P) :: (o259 P) :: (o260 P) :: (o261 P) :: (o262 P) :: (o263 P) :: (o264 P) :: (o265 P) :: (o266 P) :: (o267 P) :: (o268 P) :: (o269 P) :: (o270 P) :: (o271 P) :: (o272 P) :: (o273 P) :: (o274 P) :: (o275 P) :: (o276 P) :: (o277 P) :: (o278 P) :: (o279 P) :: (o280 P) :: (o281 P) :: (o282 P) :: (o283 P) :: (o284 P) :: (o285 P) :: (o286 P) :: (o287 P) :: (o288 P) :: (o289 P) :: (o290 P) :: (o291 P) :: (o292 P) :: (o293 P) :: (o294 P) :: (o295 P) :: (o296 P) :: (o297 P) :: (o298 P) :: (o299 P) :: (o300 P) :: (o301 P) :: (o302 P) :: (o303 P) :: (o304 P) :: (o305 P) :: (o306 P) :: (o307 P) :: [])), ⟨[], [], [], 0, [], [], false, #[], [], 0, false, false, false, 0, [2000, 10, 10], false, 0, true, [], [], 0, false⟩⟩
noncomputable def hd.heap_46 (P : Params) : Heap := ⟨#[(boot_o_0 P), (boot_o_1 P), (boot_o_2 P), (boot_o_3 P), (boot_o_4 P), (boot_o_5 P), (boot_o_6 P), (boot_o_7 P), (boot_o_8 P), (boot_o_9 P), (boot_o_10 P), (o43 P), (o44 P), (o45 P), (o46 P)], ⟨[], [], [], 0, [], [], false, #[], [], 0, false, false, false, 0, [2000, 10, 10], false, 0, true, [], [], 0, false⟩⟩
noncomputable def hd.sts_195 : List Stmt := [(ms 11), (ms 12), (ms 13), (ms 14), (ms 15), (ms 16)]
noncomputable def hd.sts_72 : List Stmt := [(ms 8)]
noncomputable def hd.tree_47 (P : Params) : BT := (.node (boot_o_0 P) (.node (boot_o_1 P) (.node (boot_o_3 P) (.node (boot_o_7 P) .nil .nil) (.node (o43 P) .nil .nil)) (.node (boot_o_5 P) (.node (boot_o_9 P) .nil .nil) (.node (o45 P) .nil .nil))) (.node (boot_o_2 P) (.node (boot_o_4 P) (.node (boot_o_8 P) .nil .nil) (.node (o44 P) .nil .nil)) (.node (boot_o_6 P) (.node (boot_o_10 P) .nil .nil) (.node (o46 P) .nil .nil))))
noncomputable def hd.sts_254 : List Stmt := [(ms 17), (ms 18), (ms 19), (ms 20), (ms 21), (ms 22), (ms 23), (ms 24), (ms 25)]
noncomputable def hd.tree_117 (P : Params) : BT := (.node (boot_o_0 P) (.node (boot_o_1 P) (.node (o95 P) (.node (boot_o_7 P) (.node (o52 P) (.node (o68 P) (.node (o104 P) .nil .nil) .nil) (.node (o86 P) .nil .nil)) (.node (o60 P) (.node (o78 P) (.node (o112 P) .nil .nil) .nil) (.node (o94 P) .nil .nil))) (.node (o43 P) (.node (o56 P) (.node (o74 P) (.node (o108 P) .nil .nil) .nil) (.node (o90 P) .nil .nil)) (.node (o64 P) (.node (o82 P) (.node (o116 P) .nil .nil) .nil) (.node (o100 P) .nil .nil)))) (.node (boot_o_5 P) (.node (boot_o_9 P) (.node (o54 P) (.node (o70 P) (.node (o106 P) .nil .nil) .nil) (.node (o88 P) .nil .nil)) (.node (o62 P) (.node (o80 P) (.node (o114 P) .nil .nil) .nil) (.node (o98 P) .nil .nil))) (.node (o45 P) (.node (o58 P) (.node (o76 P) (.node (o110 P) .nil .nil) .nil) (.node (o92 P) .nil .nil)) (.node (o66 P) (.node (o84 P) .nil .nil) (.node (o102 P) .nil .nil))))) (.node (o49 P) (.node (boot_o_4 P) (.node (boot_o_8 P) (.node (o53 P) (.node (o69 P) (.node (o105 P) .nil .nil) .nil) (.node (o87 P) .nil .nil)) (.node (o61 P) (.node (o79 P) (.node (o113 P) .nil .nil) .nil) (.node (o97 P) .nil .nil))) (.node (o96 P) (.node (o57 P) (.node (o75 P) (.node (o109 P) .nil .nil) .nil) (.node (o91 P) .nil .nil)) (.node (o65 P) (.node (o83 P) (.node (o117 P) .nil .nil) .nil) (.node (o101 P) .nil .nil)))) (.node (boot_o_6 P) (.node (boot_o_10 P) (.node (o55 P) (.node (o71 P) (.node (o107 P) .nil .nil) .nil) (.node (o89 P) .nil .nil)) (.node (o63 P) (.node (o81 P) (.node (o115 P) .nil .nil) .nil) (.node (o99 P) .nil .nil))) (.node (o46 P) (.node (o59 P) (.node (o77 P) (.node (o111 P) .nil .nil) .nil) (.node (o93 P) .nil .nil)) (.node (o67 P) (.node (o85 P) .nil .nil) (.node (o103 P) .nil .nil))))))
noncomputable def hd.heap_39 (P : Params) : Frag := (nat_lit 2, (o49 P)) :: (nat_lit 3, (o254 P)) :: (nat_lit 15, (o52 P)) :: (nat_lit 22, (o59 P)) :: (nat_lit 24, (o61 P)) :: (nat_lit 25, (o62 P)) :: (nat_lit 27, (o64 P)) :: (nat_lit 28, (o65 P)) :: (nat_lit 29, (o66 P)) :: (nat_lit 30, (o67 P)) :: (nat_lit 31, (o68 P)) :: (nat_lit 32, (o69 P)) :: (nat_lit 42, (o81 P)) :: (nat_lit 44, (o83 P)) :: (nat_lit 45, (o84 P)) :: (nat_lit 47, (o86 P)) :: (nat_lit 48, (o87 P)) :: (nat_lit 49, (o88 P)) :: (nat_lit 50, (o89 P)) :: (nat_lit 51, (o90 P)) :: (nat_lit 52, (o91 P)) :: (nat_lit 53, (o92 P)) :: (nat_lit 63, (o104 P)) :: (nat_lit 65, (o106 P)) :: (nat_lit 66, (o107 P)) :: (nat_lit 68, (o109 P)) :: (nat_lit 69, (o110 P)) :: (nat_lit 70, (o111 P)) :: (nat_lit 71, (o112 P)) :: (nat_lit 72, (o113 P)) :: (nat_lit 73, (o114 P)) :: (nat_lit 74, (o115 P)) :: (nat_lit 84, (o127 P)) :: (nat_lit 86, (o129 P)) :: (nat_lit 87, (o130 P)) :: (nat_lit 89, (o132 P)) :: (nat_lit 90, (o133 P)) :: (nat_lit 91, (o134 P)) :: (nat_lit 93, (o136 P)) :: (nat_lit 94, (o137 P)) :: (nat_lit 96, (o139 P)) :: (nat_lit 97, (o140 P)) :: (nat_lit 98, (o141 P)) :: (nat_lit 100, (o143 P)) :: (nat_lit 101, (o144 P)) :: (nat_lit 103, (o146 P)) :: (nat_lit 104, (o147 P)) :: (nat_lit 105, (o148 P)) :: (nat_lit 107, (o150 P)) :: (nat_lit 108, (o151 P)) :: (nat_lit 110, (o153 P)) :: (nat_lit 111, (o154 P)) :: (nat_lit 112, (o155 P)) :: (nat_lit 114, (o157 P)) :: (nat_lit 115, (o158 P)) :: (nat_lit 117, (o160 P)) :: (nat_lit 118, (o161 P)) :: (nat_lit 119, (o162 P)) :: (nat_lit 121, (o164 P)) :: (nat_lit 122, (o165 P)) :: (nat_lit 124, (o167 P)) :: (nat_lit 125, (o168 P)) :: (nat_lit 126, (o169 P)) :: (nat_lit 129, (o172 P)) :: (nat_lit 130, (o173 P)) :: (nat_lit 131, (o174 P)) :: (nat_lit 133, (o176 P)) :: (nat_lit 134, (o177 P)) :: (nat_lit 136, (o179 P)) :: (nat_lit 137, (o180 P)) :: (nat_lit 138, (o181 P)) :: (nat_lit 140, (o183 P)) :: (nat_lit 141, (o184 P)) :: (nat_lit 143, (o186 P)) :: (nat_lit 144, (o187 P)) :: (nat_lit 145, (o188 P)) :: (nat_lit 146, (o189 P)) :: (nat_lit 147, (o190 P)) :: (nat_lit 148, (o191 P)) :: (nat_lit 149, (o192 P)) :: (nat_lit 159, (o204 P)) :: (nat_lit 161, (o206 P)) :: (nat_lit 162, (o207 P)) :: (nat_lit 164, (o209 P)) :: (nat_lit 165, (o210 P)) :: (nat_lit 166, (o211 P)) :: (nat_lit 168, (o213 P)) :: (nat_lit 169, (o214 P)) :: (nat_lit 171, (o216 P)) :: (nat_lit 172, (o217 P)) :: (nat_lit 173, (o218 P)) :: (nat_lit 174, (o219 P)) :: (nat_lit 175, (o220 P)) :: (nat_lit 176, (o221 P)) :: (nat_lit 177, (o222 P)) :: (nat_lit 180, (o225 P)) :: (nat_lit 183, (o228 P)) :: (nat_lit 184, (o229 P)) :: (nat_lit 185, (o230 P)) :: (nat_lit 188, (o233 P)) :: (nat_lit 189, (o234 P)) :: (nat_lit 190, (o235 P)) :: (nat_lit 192, (o237 P)) :: (nat_lit 193, (o238 P)) :: (nat_lit 195, (o240 P)) :: (nat_lit 196, (o241 P)) :: (nat_lit 197, (o242 P)) :: (nat_lit 200, (o245 P)) :: (nat_lit 201, (o246 P)) :: (nat_lit 202, (o247 P)) :: (nat_lit 204, (o249 P)) :: (nat_lit 205, (o250 P)) :: (nat_lit 207, (o252 P)) :: (nat_lit 208, (o253 P)) :: (nat_lit 209, (o256 P)) :: (nat_lit 211, (o258 P)) :: (nat_lit 212, (o259 P)) :: (nat_lit 214, (o261 P)) :: (nat_lit 215, (o262 P)) :: (nat_lit 216, (o263 P)) :: (nat_lit 218, (o265 P)) :: (nat_lit 219, (o266 P)) :: (nat_lit 221, (o268 P)) :: (nat_lit 222, (o269 P)) :: (nat_lit 223, (o270 P)) :: (nat_lit 225, (o272 P)) :: (nat_lit 226, (o273 P)) :: (nat_lit 228, (o275 P)) :: (nat_lit 229, (o276 P)) :: (nat_lit 230, (o277 P)) :: (nat_lit 232, (o279 P)) :: (nat_lit 233, (o280 P)) :: (nat_lit 235, (o282 P)) :: (nat_lit 236, (o283 P)) :: (nat_lit 237, (o284 P)) :: (nat_lit 240, (o287 P)) :: (nat_lit 241, (o288 P)) :: (nat_lit 242, (o289 P)) :: (nat_lit 244, (o291 P)) :: (nat_lit 245, (o292 P)) :: (nat_lit 247, (o294 P)) :: (nat_lit 248, (o295 P)) :: (nat_lit 249, (o296 P)) :: (nat_lit 251, (o298 P)) :: (nat_lit 252, (o299 P)) :: (nat_lit 254, (o301 P)) :: (nat_lit 255, (o302 P)) :: (nat_lit 256, (o303 P)) :: (nat_lit 259, (o306 P)) :: (nat_lit 260, (o307 P)) :: []
noncomputable def hd.view_39 : Program := { hd.pE with main := { hd.pE.main with body := [ms 1, ms 3, ms 4, ms 5, ms 6, ms 7, ms 8, ms 9, ms 10, ms 11, ms 12, ms 13, ms 14, ms 15, ms 16, ms 17, ms 19, ms 20, ms 21, ms 22, ms 23, ms 24, ms 25] } }
noncomputable def hd.env_41 : Env := { scope := hd.pE.main.scope, locals := mainNs, globals := mainNs, cells := [], code := .ref 13, frame := some 14 }
noncomputable abbrev hd.cE : Code := Code.body (behindTheImports hd.pE) hd.env_41
noncomputable abbrev hd.B : List Frame := [topFrame ⟨0, 0, 0, 0⟩]
noncomputable abbrev hd.S (t : BT) (n k : Nat) (os : OsState) : SharedT := { tree := t, n := n, life := {}, gens := #[], drawn := {}, toks := k, os := os }
noncomputable abbrev hd.S0 (w : World) (os : OsState) : Shared := { heap := boot_heap w.params, gens := #[], drawn := boot_drawn, toks := boot_toks, os := os }
theorem hd.p47 (w : World) : (fun os => topGo treeTable hd.pE w 11 (some (.ref 6)) 12 (hd.S0 w os) (topStub hd.pE)) = fun os => some (({ heap := hd.heap_46 w.params, gens := #[], drawn := {}, toks := 187, os := os } : Shared), ({ cur := denote treeTable hd.cE, code := hd.cE, pos := ⟨0, 0, 0, 0⟩, stack := hd.B } : Thread)) := by
  rewrite [PySem.W.Fast.te15667345088766844465, PySem.W.Fast.te14364793385576792824, PySem.W.Fast.te11892475500146522536]; kernel_rfl
theorem hd.p49 (w : World) : (fun os => segRun treeTable hd.pE w 11 (some (.ref 6)) 1 1 ({ heap := hd.heap_46 w.params, gens := #[], drawn := {}, toks := 187, os := os } : Shared) (blockOf (behindTheImports hd.pE) hd.env_41 hd.cE ⟨0, 0, 0, 0⟩ hd.B)) = fun os => some (Flow.next, (hd.S (hd.tree_47 w.params) 15 187 os).abs, hd.cE, (⟨0, 0, 0, 0⟩ : Pos)) := by
  rewrite [PySem.W.Fast.te14374325043358763698, PySem.W.Fast.te14364793385576792824]; kernel_rfl
theorem hd.p71 (w : World) : (fun os => segRunT treeTable hd.pE w 11 (some (.ref 6)) 1 294 (hd.S (hd.tree_47 w.params) 15 187 os) (piecesOf hd.sts_49 hd.env_41 hd.cE ⟨0, 0, 0, 0⟩ hd.B)) = fun os => some (Flow.next, hd.S (hd.tree_71 w.params) 35 232 os, hd.cE, (⟨12, 0, 12, 6⟩ : Pos)) := by
  rewrite [PySem.W.Fast.te10110043849684766642, PySem.W.Fast.te14364793385576792824]; kernel_rfl
theorem hd.p94 (w : World) : (fun os => segRunT treeTable hd.pE w 11 (some (.ref 6)) 1 235 (hd.S (hd.tree_71 w.params) 35 232 os) (piecesOf hd.sts_72 hd.env_41 hd.cE ⟨12, 0, 12, 6⟩ hd.B)) = fun os => some (Flow.next, hd.S (hd.tree_94 w.params) 56 273 os, hd.cE, (⟨13, 0, 22, 24⟩ : Pos)) := by
  rewrite [PySem.W.Fast.te10110043849684766642, PySem.W.Fast.te14364793385576792824]; kernel_rfl
theorem hd.p117 (w : World) : (fun os => segRunT treeTable hd.pE w 11 (some (.ref 6)) 1 231 (hd.S (hd.tree_94 w.params) 56 273 os) (piecesOf hd.sts_95 hd.env_41 hd.cE ⟨13, 0, 22, 24⟩ hd.B)) = fun os => some (Flow.next, hd.S (hd.tree_117 w.params) 77 310 os, hd.cE, (⟨23, 0, 30, 24⟩ : Pos)) := by
  rewrite [PySem.W.Fast.te10110043849684766642, PySem.W.Fast.te14364793385576792824]; kernel_rfl
theorem hd.p194 (w : World) : (fun os => segRunT treeTable hd.pE w 11 (some (.ref 6)) 1 481 (hd.S (hd.tree_117 w.params) 77 310 os) (piecesOf hd.sts_118 hd.env_41 hd.cE ⟨23, 0, 30, 24⟩ hd.B)) = fun os => some (Flow.next, hd.S (hd.tree_194 w.params) 152 407 os, hd.cE, (⟨31, 0, 79, 19⟩ : Pos)) := by
  rewrite [PySem.W.Fast.te10110043849684766642, PySem.W.Fast.te14364793385576792824]; kernel_rfl
theorem hd.p253 (w : World) : (fun os => segRunT treeTable hd.pE w 11 (some (.ref 6)) 1 397 (hd.S (hd.tree_194 w.params) 152 407 os) (piecesOf hd.sts_195 hd.env_41 hd.cE ⟨31, 0, 79, 19⟩ hd.B)) = fun os => some (Flow.next, hd.S (hd.tree_253 w.params) 209 482 os, hd.cE, (⟨117, 0, 122, 16⟩ : Pos)) := by
  rewrite [PySem.W.Fast.te10110043849684766642, PySem.W.Fast.te14364793385576792824]; kernel_rfl
theorem hd.p307 (w : World) : (fun os => segRunT treeTable hd.pE w 11 (some (.ref 6)) 1 255 (hd.S (hd.tree_253 w.params) 209 482 os) (piecesOf hd.sts_254 hd.env_41 hd.cE ⟨117, 0, 122, 16⟩ hd.B)) = fun os => some (Flow.next, hd.S (hd.tree_307 w.params) 261 557 os, hd.cE, (⟨169, 0, 204, 35⟩ : Pos)) := by
  rewrite [PySem.W.Fast.te10110043849684766642, PySem.W.Fast.te14364793385576792824]; kernel_rfl
theorem hd.p310 (w : World) : (fun os => topRun treeTable hd.pE w 11 (some (.ref 6)) 2 (hd.S (hd.tree_307 w.params) 261 557 os).abs ({ cur := doneF Flow.next, code := hd.cE, pos := ⟨169, 0, 204, 35⟩, stack := hd.B } : Thread)) = fun os => some ({ heap := hd.heap_308 w.params, gens := #[], drawn := {}, toks := 557, os := os } : Shared) := by
  rewrite [PySem.W.Fast.te14082659384304107361, PySem.W.Fast.te14364793385576792824]; kernel_rfl
theorem hd.body : behindTheImports hd.pE = hd.sts_49 ++ (hd.sts_72 ++ (hd.sts_95 ++ (hd.sts_118 ++ (hd.sts_195 ++ (hd.sts_254 ++ []))))) := by kernel_rfl
set_option maxHeartbeats 8000000 in
theorem hd.run (w : World) (os : OsState) : topRun treeTable hd.pE w 11 (some (.ref 6)) (Nat.add 12 (Nat.add 1 (Nat.add 294 (Nat.add 235 (Nat.add 231 (Nat.add 481 (Nat.add 397 (Nat.add 255 2)))))))) (hd.S0 w os) (topStub hd.pE) = some ({ heap := hd.heap_308 w.params, gens := #[], drawn := {}, toks := 557, os := os } : Shared) := by
  have k := congrFun (hd.p310 w) os
  have k1 := congrFun (hd.p307 w) os
  have k2 := congrFun (hd.p253 w) os
  have k3 := congrFun (hd.p194 w) os
  have k4 := congrFun (hd.p117 w) os
  have k5 := congrFun (hd.p94 w) os
  have k6 := congrFun (hd.p71 w) os
  have k7 := congrFun (hd.p49 w) os
  have k8 := congrFun (hd.p47 w) os
  have k := piece_nil (env := hd.env_41) (q := ⟨0, 0, 0, 0⟩) k
  have k := piece_app (segRun_of k1) k
  have k := piece_app (segRun_of k2) k
  have k := piece_app (segRun_of k3) k
  have k := piece_app (segRun_of k4) k
  have k := piece_app (segRun_of k5) k
  have k := piece_app (segRun_of k6) k
  rewrite [← hd.body] at k
  exact go_top k8 (piece_block k7 k)
noncomputable def hd.as : List Addr := 2 :: 3 :: 15 :: 22 :: 24 :: 25 :: 27 :: 28 :: 29 :: 30 :: 31 :: 32 :: 42 :: 44 :: 45 :: 47 :: 48 :: 49 :: 50 :: 51 :: 52 :: 53 :: 63 :: 65 :: 66 :: 68 :: 69 :: 70 :: 71 :: 72 :: 73 :: 74 :: 84 :: 86 :: 87 :: 89 :: 90 :: 91 :: 93 :: 94 :: 96 :: 97 :: 98 :: 100 :: 101 :: 103 :: 104 :: 105 :: 107 :: 108 :: 110 :: 111 :: 112 :: 114 :: 115 :: 117 :: 118 :: 119 :: 121 :: 122 :: 124 :: 125 :: 126 :: 129 :: 130 :: 131 :: 133 :: 134 :: 136 :: 137 :: 138 :: 140 :: 141 :: 143 :: 144 :: 145 :: 146 :: 147 :: 148 :: 149 :: 159 :: 161 :: 162 :: 164 :: 165 :: 166 :: 168 :: 169 :: 171 :: 172 :: 173 :: 174 :: 175 :: 176 :: 177 :: 180 :: 183 :: 184 :: 185 :: 188 :: 189 :: 190 :: 192 :: 193 :: 195 :: 196 :: 197 :: 200 :: 201 :: 202 :: 204 :: 205 :: 207 :: 208 :: 209 :: 211 :: 212 :: 214 :: 215 :: 216 :: 218 :: 219 :: 221 :: 222 :: 223 :: 225 :: 226 :: 228 :: 229 :: 230 :: 232 :: 233 :: 235 :: 236 :: 237 :: 240 :: 241 :: 242 :: 244 :: 245 :: 247 :: 248 :: 249 :: 251 :: 252 :: 254 :: 255 :: 256 :: 259 :: 260 :: []
theorem hd.as_of (P : Params) : hd.as = (hd.heap_39 P).map (·.1) := by kernel_rfl
noncomputable abbrev hd.H : Hook := kmHook hd.heap_39 hd.as hd.as_of [243, 231]
set_option maxHeartbeats 8000000 in
theorem hd.looks (w : World) : (fun os => ((staticsOk (importedModules hd.pE.main.body) (boot_heap w.params) (hd.heap_308 w.params) && namesBound hd.pE (hd.heap_308 w.params) && gensDone ({ heap := hd.heap_308 w.params, gens := #[], drawn := {}, toks := 557, os := os } : Shared) && laidKept (boot_heap w.params) (hd.heap_308 w.params)),
    openSeen hd.view_39 [] (importedModules hd.pE.main.body) (fun s => xlAt hd.view_39 [] s && recOk PySem.Challenge.rw_np0026_01.row.records s) true ({ heap := hd.heap_308 w.params, gens := #[], drawn := {}, toks := 557, os := os } : Shared), hd.H.obs ({ heap := hd.heap_308 w.params, gens := #[], drawn := {}, toks := 557, os := os } : Shared))) = fun _ => (true, openGood hd.view_39 [], hd.H.val w) := by
  funext os
  refine looks_pair ?_ (looks_pair ?_ ?_)
  · (((try rewrite [PySem.W.Fast.te2357444279172408678]); (try rewrite [PySem.W.Fast.te9807087744658564304]); (try rewrite [PySem.W.Fast.te5991557255702980513]); (try rewrite [PySem.W.S.strDecS_eq]); (try rewrite [PySem.W.Fast.te8179353310426384613]); (try rewrite [PySem.W.Fast.te15667345088766844465]); (try rewrite [PySem.W.Fast.te9558739934217749035]); (try rewrite [PySem.W.Fast.te8920871248978507458]); (try rewrite [PySem.W.Fast.te11892475500146522536]); (try rewrite [PySem.W.Fast.te18344453789297297638]); (try rewrite [PySem.W.Fast.te8377067652309620493]); (try rewrite [PySem.W.Fast.te7723801398212525404]); (try rewrite [PySem.W.R.filterR_eq]); (try rewrite [PySem.W.Fast.te12879404354523853263]); (try rewrite [PySem.W.Fast.te6984425678791042302]); (try rewrite [PySem.W.Fast.te10792542408131684335]); (try rewrite [PySem.W.Fast.te16090120013241838585]); (try rewrite [PySem.W.Fast.te17119622794617984870]); (try rewrite [PySem.W.Fast.te14412699480532031325]); (try rewrite [PySem.W.Fast.te17691160309236699985]); (try rewrite [PySem.W.Fast.te13343964577679436407]); (try rewrite [PySem.W.Fast.te3471404346716756564]); (try rewrite [PySem.W.Fast.te9706382859710513879]); (try rewrite [PySem.W.Fast.te14082659384304107361]); (try rewrite [PySem.W.Fast.te17868728402115742887]); (try rewrite [PySem.W.Fast.te8326940854005059898]); (try rewrite [PySem.W.Fast.te13664370479719496447]); (try rewrite [PySem.W.Fast.te12749700546528644094]); (try rewrite [PySem.W.Fast.te14722251495701143533]); (try rewrite [PySem.W.Fast.te7409074990110511671]); (try rewrite [PySem.W.Fast.te5923862056798008813]); (try rewrite [PySem.W.Fast.te5318747976498570220]); (try rewrite [PySem.W.Fast.te10110043849684766642]); (try rewrite [PySem.W.Fast.te482687673346738481]); (try rewrite [PySem.W.Fast.te4857012375875476094]); (try rewrite [PySem.W.Fast.te13582783067957832011]); (try rewrite [PySem.W.R.mapR_eq]); (try rewrite [PySem.W.Fast.te5160383126252970620]); (try rewrite [PySem.W.Fast.te11788848310118352699]); (try rewrite [PySem.W.Fast.te10994771534591457954]); (try rewrite [PySem.W.Fast.te10880121769531294198]); (try rewrite [PySem.W.Fast.te3399658132070893891]); (try rewrite [PySem.W.Fast.te797321630700447069]); (try rewrite [PySem.W.Fast.te9572597257264208301]); (try rewrite [PySem.W.Fast.te7369524293546568484]); (try rewrite [PySem.W.Fast.te7317090234206586261]); (try rewrite [PySem.W.Fast.te4274047373036748609]); (try rewrite [PySem.W.Fast.te14374325043358763698]); (try rewrite [PySem.W.Fast.te11698064438423848299]); (try rewrite [PySem.W.Fast.te14364793385576792824]); (try rewrite [PySem.W.R.allR_eq]); (try rewrite [PySem.W.Fast.te3247288618530077131]); (try rewrite [PySem.W.Fast.te10501279942588096481]); (try rewrite [PySem.W.Fast.te16286561074155671207]); (try rewrite [PySem.W.Fast.te821141287760084731]); (try rewrite [PySem.W.Fast.te12862048085361865435]); (try rewrite [PySem.W.Fast.te2386780881361962483]); (try rewrite [PySem.W.R.anyR_eq]); (try rewrite [PySem.W.Fast.te479339242167458305]); (try rewrite [PySem.W.Fast.te17095254045102204799]))); kernel_rfl
  · unfold openSeen openGood
    repeat' with_reducible refine looks_pair ?_ ?_
    all_goals ((((try rewrite [PySem.W.Fast.te2357444279172408678]); (try rewrite [PySem.W.Fast.te9807087744658564304]); (try rewrite [PySem.W.Fast.te5991557255702980513]); (try rewrite [PySem.W.S.strDecS_eq]); (try rewrite [PySem.W.Fast.te8179353310426384613]); (try rewrite [PySem.W.Fast.te15667345088766844465]); (try rewrite [PySem.W.Fast.te9558739934217749035]); (try rewrite [PySem.W.Fast.te8920871248978507458]); (try rewrite [PySem.W.Fast.te11892475500146522536]); (try rewrite [PySem.W.Fast.te18344453789297297638]); (try rewrite [PySem.W.Fast.te8377067652309620493]); (try rewrite [PySem.W.Fast.te7723801398212525404]); (try rewrite [PySem.W.R.filterR_eq]); (try rewrite [PySem.W.Fast.te12879404354523853263]); (try rewrite [PySem.W.Fast.te6984425678791042302]); (try rewrite [PySem.W.Fast.te10792542408131684335]); (try rewrite [PySem.W.Fast.te16090120013241838585]); (try rewrite [PySem.W.Fast.te17119622794617984870]); (try rewrite [PySem.W.Fast.te14412699480532031325]); (try rewrite [PySem.W.Fast.te17691160309236699985]); (try rewrite [PySem.W.Fast.te13343964577679436407]); (try rewrite [PySem.W.Fast.te3471404346716756564]); (try rewrite [PySem.W.Fast.te9706382859710513879]); (try rewrite [PySem.W.Fast.te14082659384304107361]); (try rewrite [PySem.W.Fast.te17868728402115742887]); (try rewrite [PySem.W.Fast.te8326940854005059898]); (try rewrite [PySem.W.Fast.te13664370479719496447]); (try rewrite [PySem.W.Fast.te12749700546528644094]); (try rewrite [PySem.W.Fast.te14722251495701143533]); (try rewrite [PySem.W.Fast.te7409074990110511671]); (try rewrite [PySem.W.Fast.te5923862056798008813]); (try rewrite [PySem.W.Fast.te5318747976498570220]); (try rewrite [PySem.W.Fast.te10110043849684766642]); (try rewrite [PySem.W.Fast.te482687673346738481]); (try rewrite [PySem.W.Fast.te4857012375875476094]); (try rewrite [PySem.W.Fast.te13582783067957832011]); (try rewrite [PySem.W.R.mapR_eq]); (try rewrite [PySem.W.Fast.te5160383126252970620]); (try rewrite [PySem.W.Fast.te11788848310118352699]); (try rewrite [PySem.W.Fast.te10994771534591457954]); (try rewrite [PySem.W.Fast.te10880121769531294198]); (try rewrite [PySem.W.Fast.te3399658132070893891]); (try rewrite [PySem.W.Fast.te797321630700447069]); (try rewrite [PySem.W.Fast.te9572597257264208301]); (try rewrite [PySem.W.Fast.te7369524293546568484]); (try rewrite [PySem.W.Fast.te7317090234206586261]); (try rewrite [PySem.W.Fast.te4274047373036748609]); (try rewrite [PySem.W.Fast.te14374325043358763698]); (try rewrite [PySem.W.Fast.te11698064438423848299]); (try rewrite [PySem.W.Fast.te14364793385576792824]); (try rewrite [PySem.W.R.allR_eq]); (try rewrite [PySem.W.Fast.te3247288618530077131]); (try rewrite [PySem.W.Fast.te10501279942588096481]); (try rewrite [PySem.W.Fast.te16286561074155671207]); (try rewrite [PySem.W.Fast.te821141287760084731]); (try rewrite [PySem.W.Fast.te12862048085361865435]); (try rewrite [PySem.W.Fast.te2386780881361962483]); (try rewrite [PySem.W.R.anyR_eq]); (try rewrite [PySem.W.Fast.te479339242167458305]); (try rewrite [PySem.W.Fast.te17095254045102204799]))); kernel_rfl)
  · kernel_rfl
set_option maxHeartbeats 8000000 in
theorem hd.left : LeftO hd.pE hd.view_39 [] (fun s => xlAt hd.view_39 [] s && recOk PySem.Challenge.rw_np0026_01.row.records s) hd.H.obs hd.H.val 3900 :=
  LeftO.of_pieces (H₀ := boot_heap) (H₁ := hd.heap_308) (gs₀ := #[]) (gs₁ := #[]) (d₀ := boot_drawn) (d₁ := {}) (k₀ := boot_toks) (k₁ := 557) (m₀ := 11) (ann := some (.ref 6))
    (boot_open (by kernel_rfl) (by decide) (fun s => by kernel_rfl)) (fun w => by (((try rewrite [PySem.W.Fast.te2357444279172408678]); (try rewrite [PySem.W.Fast.te9807087744658564304]); (try rewrite [PySem.W.Fast.te5991557255702980513]); (try rewrite [PySem.W.S.strDecS_eq]); (try rewrite [PySem.W.Fast.te8179353310426384613]); (try rewrite [PySem.W.Fast.te15667345088766844465]); (try rewrite [PySem.W.Fast.te9558739934217749035]); (try rewrite [PySem.W.Fast.te8920871248978507458]); (try rewrite [PySem.W.Fast.te11892475500146522536]); (try rewrite [PySem.W.Fast.te18344453789297297638]); (try rewrite [PySem.W.Fast.te8377067652309620493]); (try rewrite [PySem.W.Fast.te7723801398212525404]); (try rewrite [PySem.W.R.filterR_eq]); (try rewrite [PySem.W.Fast.te12879404354523853263]); (try rewrite [PySem.W.Fast.te6984425678791042302]); (try rewrite [PySem.W.Fast.te10792542408131684335]); (try rewrite [PySem.W.Fast.te16090120013241838585]); (try rewrite [PySem.W.Fast.te17119622794617984870]); (try rewrite [PySem.W.Fast.te14412699480532031325]); (try rewrite [PySem.W.Fast.te17691160309236699985]); (try rewrite [PySem.W.Fast.te13343964577679436407]); (try rewrite [PySem.W.Fast.te3471404346716756564]); (try rewrite [PySem.W.Fast.te9706382859710513879]); (try rewrite [PySem.W.Fast.te14082659384304107361]); (try rewrite [PySem.W.Fast.te17868728402115742887]); (try rewrite [PySem.W.Fast.te8326940854005059898]); (try rewrite [PySem.W.Fast.te13664370479719496447]); (try rewrite [PySem.W.Fast.te12749700546528644094]); (try rewrite [PySem.W.Fast.te14722251495701143533]); (try rewrite [PySem.W.Fast.te7409074990110511671]); (try rewrite [PySem.W.Fast.te5923862056798008813]); (try rewrite [PySem.W.Fast.te5318747976498570220]); (try rewrite [PySem.W.Fast.te10110043849684766642]); (try rewrite [PySem.W.Fast.te482687673346738481]); (try rewrite [PySem.W.Fast.te4857012375875476094]); (try rewrite [PySem.W.Fast.te13582783067957832011]); (try rewrite [PySem.W.R.mapR_eq]); (try rewrite [PySem.W.Fast.te5160383126252970620]); (try rewrite [PySem.W.Fast.te11788848310118352699]); (try rewrite [PySem.W.Fast.te10994771534591457954]); (try rewrite [PySem.W.Fast.te10880121769531294198]); (try rewrite [PySem.W.Fast.te3399658132070893891]); (try rewrite [PySem.W.Fast.te797321630700447069]); (try rewrite [PySem.W.Fast.te9572597257264208301]); (try rewrite [PySem.W.Fast.te7369524293546568484]); (try rewrite [PySem.W.Fast.te7317090234206586261]); (try rewrite [PySem.W.Fast.te4274047373036748609]); (try rewrite [PySem.W.Fast.te14374325043358763698]); (try rewrite [PySem.W.Fast.te11698064438423848299]); (try rewrite [PySem.W.Fast.te14364793385576792824]); (try rewrite [PySem.W.R.allR_eq]); (try rewrite [PySem.W.Fast.te3247288618530077131]); (try rewrite [PySem.W.Fast.te10501279942588096481]); (try rewrite [PySem.W.Fast.te16286561074155671207]); (try rewrite [PySem.W.Fast.te821141287760084731]); (try rewrite [PySem.W.Fast.te12862048085361865435]); (try rewrite [PySem.W.Fast.te2386780881361962483]); (try rewrite [PySem.W.R.anyR_eq]); (try rewrite [PySem.W.Fast.te479339242167458305]); (try rewrite [PySem.W.Fast.te17095254045102204799]))); kernel_rfl) hd.run (by decide) hd.looks
set_option maxHeartbeats 8000000 in
theorem hd.said : OpenLaw.wellSaid PySem.Challenge.rw_np0026_01 = true := by
  unfold OpenLaw.wellSaid OpenRow.wellSaid OpenRow.partSaid looksOpen
  repeat' with_reducible refine look_both ?_ ?_
  all_goals ((((try rewrite [PySem.W.Fast.te2357444279172408678]); (try rewrite [PySem.W.Fast.te9807087744658564304]); (try rewrite [PySem.W.Fast.te5991557255702980513]); (try rewrite [PySem.W.S.strDecS_eq]); (try rewrite [PySem.W.Fast.te8179353310426384613]); (try rewrite [PySem.W.Fast.te15667345088766844465]); (try rewrite [PySem.W.Fast.te9558739934217749035]); (try rewrite [PySem.W.Fast.te8920871248978507458]); (try rewrite [PySem.W.Fast.te11892475500146522536]); (try rewrite [PySem.W.Fast.te18344453789297297638]); (try rewrite [PySem.W.Fast.te8377067652309620493]); (try rewrite [PySem.W.Fast.te7723801398212525404]); (try rewrite [PySem.W.R.filterR_eq]); (try rewrite [PySem.W.Fast.te12879404354523853263]); (try rewrite [PySem.W.Fast.te6984425678791042302]); (try rewrite [PySem.W.Fast.te10792542408131684335]); (try rewrite [PySem.W.Fast.te16090120013241838585]); (try rewrite [PySem.W.Fast.te17119622794617984870]); (try rewrite [PySem.W.Fast.te14412699480532031325]); (try rewrite [PySem.W.Fast.te17691160309236699985]); (try rewrite [PySem.W.Fast.te13343964577679436407]); (try rewrite [PySem.W.Fast.te3471404346716756564]); (try rewrite [PySem.W.Fast.te9706382859710513879]); (try rewrite [PySem.W.Fast.te14082659384304107361]); (try rewrite [PySem.W.Fast.te17868728402115742887]); (try rewrite [PySem.W.Fast.te8326940854005059898]); (try rewrite [PySem.W.Fast.te13664370479719496447]); (try rewrite [PySem.W.Fast.te12749700546528644094]); (try rewrite [PySem.W.Fast.te14722251495701143533]); (try rewrite [PySem.W.Fast.te7409074990110511671]); (try rewrite [PySem.W.Fast.te5923862056798008813]); (try rewrite [PySem.W.Fast.te5318747976498570220]); (try rewrite [PySem.W.Fast.te10110043849684766642]); (try rewrite [PySem.W.Fast.te482687673346738481]); (try rewrite [PySem.W.Fast.te4857012375875476094]); (try rewrite [PySem.W.Fast.te13582783067957832011]); (try rewrite [PySem.W.R.mapR_eq]); (try rewrite [PySem.W.Fast.te5160383126252970620]); (try rewrite [PySem.W.Fast.te11788848310118352699]); (try rewrite [PySem.W.Fast.te10994771534591457954]); (try rewrite [PySem.W.Fast.te10880121769531294198]); (try rewrite [PySem.W.Fast.te3399658132070893891]); (try rewrite [PySem.W.Fast.te797321630700447069]); (try rewrite [PySem.W.Fast.te9572597257264208301]); (try rewrite [PySem.W.Fast.te7369524293546568484]); (try rewrite [PySem.W.Fast.te7317090234206586261]); (try rewrite [PySem.W.Fast.te4274047373036748609]); (try rewrite [PySem.W.Fast.te14374325043358763698]); (try rewrite [PySem.W.Fast.te11698064438423848299]); (try rewrite [PySem.W.Fast.te14364793385576792824]); (try rewrite [PySem.W.R.allR_eq]); (try rewrite [PySem.W.Fast.te3247288618530077131]); (try rewrite [PySem.W.Fast.te10501279942588096481]); (try rewrite [PySem.W.Fast.te16286561074155671207]); (try rewrite [PySem.W.Fast.te821141287760084731]); (try rewrite [PySem.W.Fast.te12862048085361865435]); (try rewrite [PySem.W.Fast.te2386780881361962483]); (try rewrite [PySem.W.R.anyR_eq]); (try rewrite [PySem.W.Fast.te479339242167458305]); (try rewrite [PySem.W.Fast.te17095254045102204799]))); kernel_rfl)
theorem o1 {x a b : Nat} (h : x < a) (e : Nat.ble a b = true) : x < b := Nat.lt_of_lt_of_le h (Nat.le_of_ble_eq_true e)
theorem o2 {x n a b : Nat} (h : x < a) (e : Nat.ble (a + n) b = true) : x + n < b := Nat.lt_of_lt_of_le (Nat.add_lt_add_right h n) (Nat.le_of_ble_eq_true e)
theorem o3 {x m n a b : Nat} (h : x < a) (e : Nat.ble (a + m + n) b = true) : x + m + n < b := o2 (Nat.add_lt_add_right h m) e
theorem o4 {x a b : Nat} (h : x ≤ a) (e : Nat.ble a b = true) : x ≤ b := Nat.le_trans h (Nat.le_of_ble_eq_true e)
theorem o5 {x n a b : Nat} (h : x ≤ a) (e : Nat.ble (a + n) b = true) : x + n ≤ b := Nat.le_trans (Nat.add_le_add_right h n) (Nat.le_of_ble_eq_true e)
theorem o6 {x y a b : Nat} (h : x = y) (g : y ≤ a) (e : Nat.ble a b = true) : x ≤ b := h ▸ o4 g e
theorem o7 {x a b : Nat} (h : x ≤ a) (e : Nat.ble (a + 1) b = true) : x < b := Nat.lt_of_le_of_lt h (Nat.le_of_ble_eq_true e)
theorem o8 {x i : Nat} (h : x ≤ i) : x + (0 + 1) ≤ i + 1 := Nat.succ_le_succ h
theorem o9 {s l : Nat} (h : s < l) : l + 1 ≠ s := Nat.ne_of_gt (Nat.lt_succ_of_lt h)
theorem o10 {x n a b : Nat} (h : x ≤ a) (e : Nat.ble (a + n + 1) b = true) : x + n < b := o7 (Nat.add_le_add_right h n) e
theorem o11 {x n m a b : Nat} (h : x ≤ a) (e : Nat.ble (a + n + m) b = true) : x + n + m ≤ b := o5 (Nat.add_le_add_right h n) e
theorem o12 {x y a c b : Nat} (h : x ≤ a) (g : y ≤ c) (e : Nat.ble (a + c) b = true) : x + y ≤ b := o4 (Nat.add_le_add h g) e
theorem o13 {x y n m a c b : Nat} (h : x ≤ a) (g : y ≤ c) (e : Nat.ble (a + c + n + m) b = true) : x + y + n + m ≤ b := o11 (Nat.add_le_add h g) e
theorem o14 {x y n a b : Nat} (h : x = y) (g : y ≤ a) (e : Nat.ble (a + n) b = true) : x + n ≤ b := h ▸ o5 g e
theorem o15 {x y a b : Nat} (h : x ≤ y) (g : y ≤ a) (e : Nat.ble a b = true) : x ≤ b := o4 (Nat.le_trans h g) e
theorem o16 {x y n a b : Nat} (h : x ≤ y) (g : y ≤ a) (e : Nat.ble (a + n) b = true) : x + n ≤ b := o5 (Nat.le_trans h g) e
theorem toNat0 {s : Int} (h : (s + 1).toNat ≤ 0) : s < 0 := by omega
theorem toNat1 {s : Int} (h : 0 ≤ s) : (s + 1).toNat = s.toNat + 1 := by omega
theorem toNat2 {p s : Int} (h : p < s) : (p + 1).toNat ≤ s.toNat := Int.toNat_le_toNat h
set_option compiler.extract_closed false
local macro_rules | `(tactic| walk_at $s:str) => `(tactic| k_extra $(Lean.Syntax.mkStrLit ("H" ++ s.getString)))
local macro_rules | `(tactic| omega) => `(tactic| k_extra "omega")
local macro_rules | `(tactic| k_room) => `(tactic| k_extra "k_room")
local macro_rules | `(tactic| k_inst) => `(tactic| k_extra "k_inst")
local macro_rules | `(tactic| k_mem) => `(tactic| k_extra "k_mem")
local macro_rules | `(tactic| k_all) => `(tactic| k_extra "k_all")
local macro_rules | `(tactic| k_put) => `(tactic| k_extra "k_put")
local macro_rules | `(tactic| size_fits) => `(tactic| k_extra "size_fits")
local macro_rules | `(tactic| kmk_size) => `(tactic| k_extra "kmk_size")
theorem hk_om_all : True := by
  k_with "cr" => first | assumption | (apply And.right; first | assumption | (apply And.right; first | assumption | (apply And.right; first | assumption | (apply And.right; first | assumption | (apply And.right; first | assumption | (apply And.right; first | assumption | (apply And.right; first | assumption | (apply And.right; first | assumption | (apply And.right; assumption)))))))))
  k_with "cj" => with_reducible first | k_extra "cr" | (apply And.left; k_extra "cr")
  k_with "olt" => first | k_extra "cj" | ((with_reducible refine' o1 ?hz ?ez); (case hz => with_reducible assumption); (case ez => exact rfl)) | ((with_reducible refine' o2 ?hz ?ez); (case hz => with_reducible assumption); (case ez => exact rfl)) | ((with_reducible refine' o3 ?hz ?ez); (case hz => with_reducible assumption); (case ez => exact rfl)) | ((with_reducible refine' o7 ?hz ?ez); (case hz => with_reducible assumption); (case ez => exact rfl)) | ((with_reducible refine' o10 ?hz ?ez); (case hz => with_reducible assumption); (case ez => exact rfl)) | exact Nat.le_of_ble_eq_true rfl
  k_with "ole" => first | k_extra "cj" | with_reducible exact Nat.le_refl _ | ((with_reducible refine' o4 ?hz ?ez); (case hz => with_reducible assumption); (case ez => exact rfl)) | ((with_reducible refine' o6 ?hz ?gz ?ez); (case hz => with_reducible assumption); (case gz => with_reducible assumption); (case ez => exact rfl)) | ((with_reducible refine' o15 ?hz ?gz ?ez); (case hz => with_reducible assumption); (case gz => with_reducible assumption); (case ez => exact rfl)) | (with_reducible exact o8 (by assumption)) | (with_reducible exact Nat.le_succ_of_le (by assumption)) | ((with_reducible refine' o5 ?hz ?ez); (case hz => with_reducible assumption); (case ez => exact rfl)) | ((with_reducible refine' o14 ?hz ?gz ?ez); (case hz => with_reducible assumption); (case gz => with_reducible assumption); (case ez => exact rfl)) | ((with_reducible refine' o16 ?hz ?gz ?ez); (case hz => with_reducible assumption); (case gz => with_reducible assumption); (case ez => exact rfl)) | ((with_reducible refine' o11 ?hz ?ez); (case hz => with_reducible assumption); (case ez => exact rfl)) | ((with_reducible refine' o12 ?hz ?gz ?ez); (case hz => with_reducible assumption); (case gz => with_reducible assumption); (case ez => exact rfl)) | ((with_reducible refine' o13 ?hz ?gz ?ez); (case hz => with_reducible assumption); (case gz => with_reducible assumption); (case ez => exact rfl)) | exact Nat.le_of_ble_eq_true rfl
  k_with "one" => first | k_extra "cj" | (refine Ne.symm ?_; k_extra "cj") | (refine Nat.ne_of_lt ?_; k_extra "cj") | (refine Nat.ne_of_gt ?_; k_extra "cj") | (with_reducible refine o9 ?_; k_extra "cj") | (with_reducible refine Ne.symm (o9 ?_); k_extra "cj")
  k_with "omega" => first | (with_reducible assumption) | ((with_reducible refine (?_ : (_ : Nat) ≠ _)); k_extra "one") | ((with_reducible refine (?_ : (_ : Nat) < _)); k_extra "olt") | ((with_reducible refine (?_ : (_ : Nat) ≤ _)); k_extra "ole") | ((with_reducible refine And.intro ?_ ?_) <;> omega) | omega +splitDisjunctions
  trivial
abbrev PG : Program := PySem.Challenge.rw_np0026_01.row.prog

/-- a def's end: what stood in the ground stands, what it hands on stands -/
def LeaveS (g : Heap) (R : Result → Shared → Prop) (v : Value) (s' : Shared) : Prop :=
  g.StaysIn s'.heap → R (.ok (.ret v)) s'

theorem binds_zip {s : Shared} {fd : FuncData} {args : Args} (h : bindArgs fd args = pure ((fd.params.args.map (·.arg)).zip args.pos)) : BindsTo s fd args ((fd.params.args.map (·.arg)).zip args.pos) := .of_eq h

section
variable {prog : Program} {w : World} {A : Around} {s : Shared} {base g : Heap} {outer : List Env} {muts : List (Addr × Obj)} {K : Frag} {p : Program} {loose : List Str} {mean : ExcName → Option Value} {mg mb : Str → Option Value}
  {R : Result → Shared → Prop} {name qual : Str} {params params₀ : Arguments} {body body₀ : List Stmt} {scope scope₀ : Scope} {dV kV doc pm cdv ct oc : Value} {an od : Option Addr} {osl : Array (Option Value)} {f : Addr} {args : Args} {binds : List (Str × Value)}

theorem enterS (X : K.In g) (st : g.StaysIn s.heap) (hsz : g.objs.size ≤ s.heap.objs.size) (T : Top p loose mean mg mb g)
    (M : ∀ q ∈ muts, s.heap.get? q.1 = some q.2 ∧ g.get? q.1 = none)
    (ho : K.lookup f = some ⟨oc, od, .func (fnOf name qual params₀ body₀ scope₀ dV kV doc pm an cdv ct), osl⟩) (hl : (params = params₀ ∧ body = body₀) ∧ scope = scope₀) (hcd : codeIn K cdv qual = true) (hroom : A.depth < recursionLimit)
    (hbind : BindsTo s (fnOf name qual params body scope dV kV doc pm an cdv ct) args binds) (hloc : ∀ y ∈ binds, scope.names.lookup y.1 = some .local)
    (h : ∀ L' h₁, s.heap.objs.size ≤ L' → L' < h₁.objs.size → s.heap.StaysIn h₁ → Fr g L' h₁ (fun y => binds.reverse.lookup y) → News g L' h₁ muts →
      wpAny (model prog w) (A.deeper (envOf qual scope L' f cdv)) (execs body (envOf qual scope L' f cdv))
        (fun fl s' => R (.ok (.ret (match fl with | .ret v => v | _ => .none))) s')
        (fun e s' => wpAny (model prog w) (A.deeper (envOf qual scope L' f cdv)) (leaving (envOf qual scope L' f cdv) e) (fun _ s'' => R (.error e) s'') (fun e' s'' => R (.error e') s'') s')
        { s with heap := h₁, toks := s.toks + binds.length })
    (hco : scope.isCoroutine = false) (hgen : scope.isGenerator = false) (hk : scope.kind = .function)
    (hcell : ∀ x ∈ scope.names, x.2 ≠ .cell) : codeAny (model prog w) A (.call (.ref f) args) R s := by
  obtain ⟨⟨rfl, rfl⟩, rfl⟩ := hl
  refine codeAny_call_def (fd := fnOf name qual params body scope dV kV doc pm an cdv ct) (body := body) (binds := binds) hroom ((X.keeps st) _ _ ho) rfl (T.nolimit.keeps st) (codeRec_of (X.keeps st) hcd) rfl hbind hcell hloc (fun h₁ hns hk₁ => ?_) hco hgen hk
  exact h s.heap.objs.size h₁ (Nat.le_refl _) hns.lt hk₁ ⟨hns, fun b o e => hk₁ b o (st b o e), hsz⟩
    (fun q hq => ⟨hk₁ _ _ (M q hq).1, Nat.ne_of_lt (Heap.lt_size (M q hq).1), (M q hq).2⟩)
end

section
variable {prog : Program} {w : World} {A₀ A : Around} {s : Shared} {base h₀ : Heap} {outer : List Env} {L : Addr} {m : Str → Option Value} {env : Env} {news muts rest : List (Addr × Obj)} {K : Frag} {p : Program} {loose : List Str} {mean : ExcName → Option Value} {mg mb : Str → Option Value}

/-- what a caller hands to a def's contract -/
structure Gnd (K : Frag) (p : Program) (loose : List Str) (mean : ExcName → Option Value) (mg mb : Str → Option Value) (A : Around) (base : Heap) (outer : List Env) (g h : Heap) : Prop where
  below : Below A base outer g
  in_ : K.In g
  top : Top p loose mean mg mb g
  stays : g.StaysIn h
  size : g.objs.size ≤ h.objs.size

theorem useS (muts rest : List (Addr × Obj)) (B : Below A₀ base outer h₀) (F : Fr h₀ L s.heap m) (N : News h₀ L s.heap news) (X : K.In h₀) (T : Top p loose mean mg mb h₀)
    (hA : A.frames = some (env :: outer)) (hf : env.frame = some L) (hke : env.scope.kind = .function)
    (hm : ∀ q ∈ muts, q ∈ news) (hr : ∀ q ∈ rest, q ∈ news ∧ q.1 ∉ muts.map (·.1)) :
    ∃ g, Gnd K p loose mean mg mb A base (env :: outer) g s.heap ∧ (∀ q ∈ muts, s.heap.get? q.1 = some q.2 ∧ g.get? q.1 = none) ∧ (∀ q ∈ rest, g.get? q.1 = some q.2) ∧ (∀ q ∈ news, q.1 < s.heap.objs.size) ∧ h₀.StaysIn g ∧
      (∀ h' muts', g.StaysIn h' → (∀ q ∈ muts', h'.get? q.1 = some q.2 ∧ g.get? q.1 = none) → Fr h₀ L h' m ∧ News h₀ L h' (muts' ++ rest)) := by
  have Nm : News h₀ L s.heap muts := fun q hq => N q (hm q hq)
  obtain ⟨FG, BG, st, _⟩ := groundX (R := fun _ _ => True) B F Nm hA hf hke
  obtain ⟨oL, es, ep, hL, hLd, hLk, hLf⟩ := F.ns
  have nL : L ∉ muts.map (·.1) := fun q => by
    obtain ⟨p, hp, e⟩ := List.mem_map.mp q
    exact (Nm p hp).2.1 e
  have hLg := hideAll_get (muts.map (·.1)) hL nL
  have X' := X.keeps st
  have T' := T.keeps st
  refine ⟨hideAll s.heap (muts.map (·.1)), ⟨BG, X', T', fun b o e => of_hideAll _ e, Nat.le_of_eq (hideAll_size _ _)⟩, fun q hq => ⟨(Nm q hq).1, hideAll_none _ (List.mem_map_of_mem hq)⟩,
    fun q hq => hideAll_get _ (N q (hr q hq).1).1 (hr q hq).2, fun q hq => Heap.lt_size (N q hq).1, st, fun h' muts' sk hm' => ⟨⟨⟨oL, es, ep, sk L oL hLg, hLd, hLk, hLf⟩, fun b o e => sk b o (st b o e), F.above⟩, fun q hq => ?_⟩⟩
  rcases List.mem_append.mp hq with hq | hq
  · obtain ⟨q1, q2⟩ := hm' q hq
    refine ⟨q1, fun e => ?_, ?_⟩
    · rw [e, hLg] at q2; cases q2
    · cases q3 : h₀.get? q.1 with
      | none => rfl
      | some o => rw [st _ _ q3] at q2; cases q2
  · have n := N q (hr q hq).1
    exact ⟨sk _ _ (hideAll_get _ n.1 (hr q hq).2), n.2⟩
end
section
variable {prog : Program} {w : World} {A : Around} {E : Value → Shared → Prop} {s : Shared} {h₀ : Heap} {L D : Addr} {m : Str → Option Value} {news news' : List (Addr × Obj)} {n : Nat}
theorem pop0 {u : Tok} {y : Value} {r : List Value} {Q : Value → Shared → Prop} (F : Fr h₀ L s.heap m) (N : News h₀ L s.heap news) (U : Upd D (listOf (y :: r).toArray n) (listOf r.toArray (n + 1)) news news')
    (hz : r.length ≤ 1000) (h : ∀ h', Fr h₀ L h' m → News h₀ L h' news' → Q y { s with heap := h' }) : wpAny (model prog w) A (call (.builtin "list.pop") [.ref D, .int 0 u]) Q E s := by
  refine kl_popAt (p := []) (q := r) (y := y) (k := 0) F N rfl ?_ rfl U ?_ h
  · simp [seqIndex?]
  · rw [PySem.sizeLine_eq]; simp; omega
end
section
variable {prog : Program} {w : World} {A : Around} {s : Shared} {base g : Heap} {outer : List Env} {muts : List (Addr × Obj)} {K : Frag} {p : Program} {loose : List Str} {mean : ExcName → Option Value} {mg mb : Str → Option Value}
  {R : Result → Shared → Prop} {name qual : Str} {params params₀ : Arguments} {body body₀ : List Stmt} {scope scope₀ : Scope} {dV kV doc pm cdv ct oc : Value} {an od : Option Addr} {osl : Array (Option Value)} {f : Addr} {args : Args} {binds : List (Str × Value)}

/-- entering a def that raises nothing -/
theorem enterS0 (X : K.In g) (st : g.StaysIn s.heap) (hsz : g.objs.size ≤ s.heap.objs.size) (T : Top p loose mean mg mb g)
    (M : ∀ q ∈ muts, s.heap.get? q.1 = some q.2 ∧ g.get? q.1 = none)
    (ho : K.lookup f = some ⟨oc, od, .func (fnOf name qual params₀ body₀ scope₀ dV kV doc pm an cdv ct), osl⟩) (hl : (params = params₀ ∧ body = body₀) ∧ scope = scope₀) (hcd : codeIn K cdv qual = true) (hroom : A.depth < recursionLimit)
    (hbind : BindsTo s (fnOf name qual params body scope dV kV doc pm an cdv ct) args binds) (hloc : ∀ y ∈ binds, scope.names.lookup y.1 = some .local)
    (h : ∀ L' h₁, s.heap.objs.size ≤ L' → L' < h₁.objs.size → s.heap.StaysIn h₁ → Fr g L' h₁ (fun y => binds.reverse.lookup y) → News g L' h₁ muts →
      wpAny (model prog w) (A.deeper (envOf qual scope L' f cdv)) (execs body (envOf qual scope L' f cdv))
        (fun fl s' => R (.ok (.ret (match fl with | .ret v => v | _ => .none))) s') (fun _ _ => False)
        { s with heap := h₁, toks := s.toks + binds.length })
    (hco : scope.isCoroutine = false) (hgen : scope.isGenerator = false) (hk : scope.kind = .function)
    (hcell : ∀ x ∈ scope.names, x.2 ≠ .cell) : codeAny (model prog w) A (.call (.ref f) args) R s :=
  enterS X st hsz T M ho hl hcd hroom hbind hloc (fun L' h₁ a b c d e => wpAny_mono (h L' h₁ a b c d e) (fun _ _ x => x) fun _ _ x => x.elim) hco hgen hk hcell

/-- an entry taken out of a ledger -/
inductive Pick (d : Addr) (o : Obj) : List (Addr × Obj) → List (Addr × Obj) → Prop
  | head {r} : (∀ p ∈ r, p.1 ≠ d) → Pick d o ((d, o) :: r) r
  | tail {p r r'} : Pick d o r r' → p.1 ≠ d → Pick d o (p :: r) (p :: r')
theorem Pick.spec {d : Addr} {o : Obj} {l r : List (Addr × Obj)} (x : Pick d o l r) : (d, o) ∈ l ∧ ∀ q ∈ r, q ∈ l ∧ q.1 ≠ d := by
  induction x with
  | head h => exact ⟨.head _, fun q hq => ⟨.tail _ hq, h q hq⟩⟩
  | tail _ h ih =>
    refine ⟨.tail _ ih.1, fun q hq => ?_⟩
    rcases List.mem_cons.mp hq with rfl | hq
    · exact ⟨.head _, h⟩
    · exact ⟨.tail _ (ih.2 q hq).1, (ih.2 q hq).2⟩
inductive Picks : List (Addr × Obj) → List (Addr × Obj) → List (Addr × Obj) → Prop
  | nil {l} : Picks [] l l
  | cons {d o ms l r r'} : Pick d o l r → Picks ms r r' → Picks ((d, o) :: ms) l r'
theorem Picks.spec {ms l r : List (Addr × Obj)} (x : Picks ms l r) : (∀ q ∈ ms, q ∈ l) ∧ ∀ q ∈ r, q ∈ l ∧ q.1 ∉ ms.map (·.1) := by
  induction x with
  | nil => exact ⟨fun _ h => (nomatch h), fun q hq => ⟨hq, fun h => (nomatch h)⟩⟩
  | cons p _ ih =>
    obtain ⟨a, b⟩ := p.spec
    obtain ⟨c, d⟩ := ih
    refine ⟨fun q hq => ?_, fun q hq => ⟨(b q (d q hq).1).1, fun h => ?_⟩⟩
    · rcases List.mem_cons.mp hq with rfl | hq
      · exact a
      · exact (b q (c q hq)).1
    · rcases List.mem_cons.mp h with h | h
      · exact (b q (d q hq).1).2 h
      · exact (d q hq).2 h
end
section
variable {prog : Program} {w : World} {A₀ A : Around} {s : Shared} {base h₀ : Heap} {outer : List Env} {L : Addr} {m : Str → Option Value} {env : Env} {news : List (Addr × Obj)} {K : Frag} {p : Program} {loose : List Str} {mean : ExcName → Option Value} {mg mb : Str → Option Value}
/-- a call that changes nothing: the whole heap is its ground -/
theorem useP (B : Below A₀ base outer h₀) (F : Fr h₀ L s.heap m) (N : News h₀ L s.heap news) (X : K.In h₀) (T : Top p loose mean mg mb h₀)
    (hA : A.frames = some (env :: outer)) (hf : env.frame = some L) (hke : env.scope.kind = .function) :
    Gnd K p loose mean mg mb A base (env :: outer) s.heap s.heap ∧ ∀ h', s.heap.StaysIn h' → Fr h₀ L h' m ∧ News h₀ L h' news := by
  have B₁ := pushX B F hf hke
  refine ⟨⟨⟨hA, B₁.stays, B₁.frames⟩, X.keeps F.keep, T.keeps F.keep, fun _ _ e => e, Nat.le_refl _⟩, fun h' k => ⟨⟨F.ns.keeps k, fun b o e => k b o (F.keep b o e), F.above⟩, fun q hq => ⟨k _ _ (N q hq).1, (N q hq).2⟩⟩⟩
end
section
variable {h₀ h h' : Heap} {L l : Addr} {m : Str → Option Value} {news : List (Addr × Obj)} {o : Obj}
theorem ne_of_new (N : News h₀ L h news) (hn : h.get? l = none) : ∀ q ∈ news, q.1 ≠ l := fun q hq e => by
  have := (N q hq).1; rw [e, hn] at this; cases this
theorem news_add (N : News h₀ L h' news) (F : Fr h₀ L h m) (hn : h.get? l = none) (hl : h'.get? l = some o) : News h₀ L h' ((l, o) :: news) := fun q hq => by
  rcases List.mem_cons.mp hq with rfl | hq
  · refine ⟨hl, fun e => ?_, ?_⟩
    · obtain ⟨oL, _, _, hL, _⟩ := F.ns
      have e' : l = L := e
      rw [e', hL] at hn; cases hn
    · cases q : h₀.get? l with
      | none => rfl
      | some o' => have := F.keep _ _ q; rw [hn] at this; cases this
  · exact N q hq
/-- distinctness, written out -/
noncomputable def AllNe (d : Nat) : List (Addr × Obj) → Prop
  | [] => True
  | p :: r => @Ne Nat p.1 d ∧ AllNe d r
theorem allNe_of {d : Addr} : ∀ {l : List (Addr × Obj)}, (∀ p ∈ l, p.1 ≠ d) → AllNe d l
  | [], _ => trivial
  | p :: _, h => ⟨h p (.head _), allNe_of fun q hq => h q (.tail _ hq)⟩
end
section
variable {prog : Program} {w : World} {A : Around} {s : Shared} {base g : Heap} {outer : List Env} {muts : List (Addr × Obj)} {K : Frag} {p : Program} {loose : List Str} {mean : ExcName → Option Value} {mg mb : Str → Option Value}
  {R : Result → Shared → Prop} {name qual : Str} {params params₀ : Arguments} {body body₀ : List Stmt} {scope scope₀ : Scope} {dV kV doc pm cdv ct oc : Value} {an od : Option Addr} {osl : Array (Option Value)} {f : Addr} {args : Args} {binds : List (Str × Value)}
/-- entering a def some of whose names stand in cells -/
theorem enterSC (X : K.In g) (st : g.StaysIn s.heap) (hsz : g.objs.size ≤ s.heap.objs.size) (T : Top p loose mean mg mb g)
    (M : ∀ q ∈ muts, s.heap.get? q.1 = some q.2 ∧ g.get? q.1 = none)
    (ho : K.lookup f = some ⟨oc, od, .func (fnOf name qual params₀ body₀ scope₀ dV kV doc pm an cdv ct), osl⟩) (hl : (params = params₀ ∧ body = body₀) ∧ scope = scope₀) (hcd : codeIn K cdv qual = true) (hroom : A.depth < recursionLimit)
    (hbind : BindsTo s (fnOf name qual params body scope dV kV doc pm an cdv ct) args binds) (hkind : (binds.all fun y => scope.names.lookup y.1 == some .local || scope.names.lookup y.1 == some .cell) = true)
    (hnd : ((cellsFrom 0 scope.names []).map (·.1)).Nodup)
    (h : ∀ L' h₁ tk cells, s.heap.objs.size ≤ L' → L' < h₁.objs.size → s.heap.StaysIn h₁ → Fr g L' h₁ (bindL (envOfC qual scope L' f cdv).kindOf binds fun _ => none) → News g L' h₁ (cells ++ muts) →
      CellsAre (bindC (envOfC qual scope L' f cdv).kindOf binds fun _ => none) (cellsFrom (L' + 1) scope.names []) cells → (∀ q ∈ muts, q.1 < L') →
      wpAny (model prog w) (A.deeper (envOfC qual scope L' f cdv)) (execs body (envOfC qual scope L' f cdv))
        (fun fl s' => R (.ok (.ret (match fl with | .ret v => v | _ => .none))) s')
        (fun e s' => wpAny (model prog w) (A.deeper (envOfC qual scope L' f cdv)) (leaving (envOfC qual scope L' f cdv) e) (fun _ s'' => R (.error e) s'') (fun e' s'' => R (.error e') s'') s')
        { s with heap := h₁, toks := tk })
    (hco : scope.isCoroutine = false) (hgen : scope.isGenerator = false) (hk : scope.kind = .function) : codeAny (model prog w) A (.call (.ref f) args) R s := by
  obtain ⟨⟨rfl, rfl⟩, rfl⟩ := hl
  refine codeAny_call_function (fd := fnOf name qual params body scope dV kV doc pm an cdv ct) hroom ((X.keeps st) _ _ ho) rfl hco hgen rfl (codeRec_of (X.keeps st) hcd) (hbind _ _ _ _ ?_)
  refine wpAny_newFunctionEnv_cells hk (kindsX hkind _) fun env' he s' x => ?_
  subst he
  refine ⟨(T.nolimit.keeps st).keeps x.toInCall.keep, codeAny_func ?_⟩
  obtain ⟨h₁, tk, rfl, _⟩ := x.done
  have hk₁ := x.toInCall.keep
  obtain ⟨cells, NC, Y⟩ := Cl.news (h₀ := s.heap) (Nat.le_refl _) fun n c hm => ⟨x.cell n c (lookup_of_mem_nodup (cellsFrom_names scope.names 0 (s.heap.objs.size + 1) [] [] rfl ▸ hnd) hm), x.above n c hm⟩
  refine h s.heap.objs.size h₁ tk cells (Nat.le_refl _) x.toInCall.ns.lt hk₁ ⟨x.toInCall.ns, fun b o e => hk₁ b o (st b o e), hsz⟩ (fun q hq => ?_) Y (fun q hq => Heap.lt_size (M q hq).1)
  rcases List.mem_append.mp hq with hq | hq
  · refine ⟨(NC q hq).1, (NC q hq).2.1, ?_⟩
    cases e : g.get? q.1 with
    | none => rfl
    | some o => have := st _ _ e; rw [(NC q hq).2.2] at this; cases this
  · exact ⟨hk₁ _ _ (M q hq).1, Nat.ne_of_lt (Heap.lt_size (M q hq).1), (M q hq).2⟩
theorem enterSC0 (X : K.In g) (st : g.StaysIn s.heap) (hsz : g.objs.size ≤ s.heap.objs.size) (T : Top p loose mean mg mb g)
    (M : ∀ q ∈ muts, s.heap.get? q.1 = some q.2 ∧ g.get? q.1 = none)
    (ho : K.lookup f = some ⟨oc, od, .func (fnOf name qual params₀ body₀ scope₀ dV kV doc pm an cdv ct), osl⟩) (hl : (params = params₀ ∧ body = body₀) ∧ scope = scope₀) (hcd : codeIn K cdv qual = true) (hroom : A.depth < recursionLimit)
    (hbind : BindsTo s (fnOf name qual params body scope dV kV doc pm an cdv ct) args binds) (hkind : (binds.all fun y => scope.names.lookup y.1 == some .local || scope.names.lookup y.1 == some .cell) = true)
    (hnd : ((cellsFrom 0 scope.names []).map (·.1)).Nodup)
    (h : ∀ L' h₁ tk cells, s.heap.objs.size ≤ L' → L' < h₁.objs.size → s.heap.StaysIn h₁ → Fr g L' h₁ (bindL (envOfC qual scope L' f cdv).kindOf binds fun _ => none) → News g L' h₁ (cells ++ muts) →
      CellsAre (bindC (envOfC qual scope L' f cdv).kindOf binds fun _ => none) (cellsFrom (L' + 1) scope.names []) cells → (∀ q ∈ muts, q.1 < L') →
      wpAny (model prog w) (A.deeper (envOfC qual scope L' f cdv)) (execs body (envOfC qual scope L' f cdv))
        (fun fl s' => R (.ok (.ret (match fl with | .ret v => v | _ => .none))) s') (fun _ _ => False)
        { s with heap := h₁, toks := tk })
    (hco : scope.isCoroutine = false) (hgen : scope.isGenerator = false) (hk : scope.kind = .function) : codeAny (model prog w) A (.call (.ref f) args) R s :=
  enterSC X st hsz T M ho hl hcd hroom hbind hkind hnd (fun L' h₁ tk cells a b c d e y l => wpAny_mono (h L' h₁ tk cells a b c d e y l) (fun _ _ x => x) fun _ _ x => x.elim) hco hgen hk
end
/-! the table in the ground -/
section
variable {prog : Program} {w : World} {A : Around} {E : Value → Shared → Prop} {s : Shared} {g h : Heap} {L d : Addr} {m : Str → Option Value} {k : Int} {t : Tok} {f : Int → Option Value} {v : Value}

theorem inst_g {x C dx : Addr} {od : Obj} {sl : Array (Option Value)} (F : Fr g L h m) (h1 : g.get? x = some ⟨.ref C, some dx, .plain, sl⟩) (h2 : g.get? dx = some od) :
    InstAt h x ⟨.ref C, some dx, .plain, sl⟩ C (some od) := ⟨F.keep _ _ h1, rfl, rfl, F.keep _ _ h2⟩

theorem mapOf_keeps {K : Type} [DecidableEq K] {knd : KeyKind prog w K} {f : K → Option Value} {h h' : Heap} (hk : ∀ b o, h.get? b = some o → h'.get? b = some o) (hm : h.MapOf knd d f) : h'.MapOf knd d f :=
  let ⟨o, es, ep, ho, r⟩ := hm; ⟨o, es, ep, hk _ _ ho, r⟩
theorem isList_keeps {h h' : Heap} {l : Addr} {items : Array Value} (hk : ∀ b o, h.get? b = some o → h'.get? b = some o) (hl : h.IsList l items) : h'.IsList l items :=
  let ⟨o, ho, r⟩ := hl; ⟨o, hk _ _ ho, r⟩

theorem notIn_some {Q : Value → Shared → Prop} (F : Fr g L s.heap m) (hm : g.MapOf (intKind prog w) d f) (lo : (d == sysModules) = false) (hv : f k = some v) (h : Q (.bool false) { s with toks := s.toks + 1 }) :
    wpAny (model prog w) A (compareOp .NotIn (.int k t) (.ref d)) Q E s :=
  wpAny_notIn_of (intKind_is prog w k t) lo (mapOf_keeps F.keep hm) (by rw [hv]; exact h)
theorem notIn_none {Q : Value → Shared → Prop} (F : Fr g L s.heap m) (hm : g.MapOf (intKind prog w) d f) (lo : (d == sysModules) = false) (hv : f k = none) (h : Q (.bool true) { s with toks := s.toks + 1 }) :
    wpAny (model prog w) A (compareOp .NotIn (.int k t) (.ref d)) Q E s :=
  wpAny_notIn_of (intKind_is prog w k t) lo (mapOf_keeps F.keep hm) (by rw [hv]; exact h)
theorem in_g {Q : Value → Shared → Prop} (F : Fr g L s.heap m) (hm : g.MapOf (intKind prog w) d f) (lo : (d == sysModules) = false) (h : Q (.bool (f k).isSome) { s with toks := s.toks + 1 }) :
    wpAny (model prog w) A (compareOp .In (.int k t) (.ref d)) Q E s :=
  wpAny_in_of (intKind_is prog w k t) lo (mapOf_keeps F.keep hm) h
theorem item_g {value slice : Expr} {Q : Value → Shared → Prop} (F : Fr g L s.heap m) (hm : g.MapOf (intKind prog w) d f) (hv : f k = some v) (h : Q v { s with toks := s.toks + 1 })
    (hs : subscripted slice false (.ref d) (.int k t) = operate [.ref d, .int k t] (getItem (.ref d) (.int k t)) := by with_unfolding_all rfl) :
    wpAny (model prog w) A (subscriptTail value slice (.ref d) (.int k t)) Q E s :=
  have hm' := mapOf_keeps F.keep hm
  tail_any hm'.typeIs slot_dict_getitem.lookup (wpAny_getItem_of (intKind_is prog w k t) hm' hv h) hs
end

abbrev ent (w : World) (x : Str) (t : Tok) (v : Value) : DictEntry := ⟨PyData.keyHash w.params x, .str x t, v⟩

/-- a major mode's object -/
inductive ModeAt (w : World) (g : Heap) (M : Addr) (i p : Int) (kv sv : Value) : Prop
  | mk : ∀ (D : Addr) (n : Nat) (t0 t1 t2 t3 t4 t5 t6 u0 u2 : Tok) (tv bv hv : Value), (g.get? M = some (instObj 51 D)) → (g.get? D = some (dictOf [ent w "symbol" t0 (.int i u0), ent w "title" t1 tv, ent w "parent" t2 (.int p u2), ent w "keymap" t3 kv, ent w "syntax" t4 sv, ent w "body" t5 bv, ent w "hook" t6 hv] n)) → ModeAt w g M i p kv sv

/-- a minor mode's object -/
inductive MinorAt (w : World) (g : Heap) (M : Addr) (i : Int) (lt : Str) (kv : Value) : Prop
  | mk : ∀ (D : Addr) (n : Nat) (t0 t1 t2 t3 t4 u0 u1 : Tok) (bv hv : Value), (g.get? M = some (instObj 72 D)) → (g.get? D = some (dictOf [ent w "symbol" t0 (.int i u0), ent w "lighter" t1 (.str lt u1), ent w "keymap" t2 kv, ent w "body" t3 bv, ent w "hook" t4 hv] n)) → MinorAt w g M i lt kv

/-- a number or None -/
def ov (o : Option Int) (t : Tok) : Value := match o with | none => .none | some v => .int v t

/-- the table: its dicts of majors and minors, its list of the order -/
inductive TabAt9 (w : World) (g : Heap) (T MA MI O : Addr) : Prop
  | mk : ∀ (dT : Addr) (n : Nat) (t0 t1 t2 : Tok), (g.get? T = some (instObj 147 dT)) → (g.get? dT = some (dictOf [ent w "majors" t0 (.ref MA), ent w "minors" t1 (.ref MI), ent w "order" t2 (.ref O)] n)) → TabAt9 w g T MA MI O

theorem ModeAt.keeps {w : World} {g h : Heap} {M : Addr} {i p : Int} {kv sv : Value} (hk : g.StaysIn h) : ModeAt w g M i p kv sv → ModeAt w h M i p kv sv :=
  fun ⟨D, n, t0, t1, t2, t3, t4, t5, t6, u0, u2, tv, bv, hv, a, b⟩ => ⟨D, n, t0, t1, t2, t3, t4, t5, t6, u0, u2, tv, bv, hv, hk _ _ a, hk _ _ b⟩
theorem MinorAt.keeps {w : World} {g h : Heap} {M : Addr} {i : Int} {lt : Str} {kv : Value} (hk : g.StaysIn h) : MinorAt w g M i lt kv → MinorAt w h M i lt kv :=
  fun ⟨D, n, t0, t1, t2, t3, t4, u0, u1, bv, hv, a, b⟩ => ⟨D, n, t0, t1, t2, t3, t4, u0, u1, bv, hv, hk _ _ a, hk _ _ b⟩
theorem TabAt9.keeps {w : World} {g h : Heap} {T MA MI O : Addr} (hk : g.StaysIn h) : TabAt9 w g T MA MI O → TabAt9 w h T MA MI O :=
  fun ⟨dT, n, t0, t1, t2, a, b⟩ => ⟨dT, n, t0, t1, t2, hk _ _ a, hk _ _ b⟩
/-- the table of n majors in the ground -/
structure TabG (w : World) (g : Heap) (T MA MI O : Addr) (f : Int → Option Value) (N : Int) (pa : Int → Int) (km sy : Int → Option Int) : Prop where
  tab : TabAt9 w g T MA MI O
  maj : g.MapOf (intKind PG w) MA f
  lo : (MA == sysModules) = false
  mode : ∀ k, 0 ≤ k → k < N → ∃ M t1 t2, f k = some (.ref M) ∧ ModeAt w g M k (pa k) (ov (km k) t1) (ov (sy k) t2)
theorem TabG.keeps {w : World} {g h : Heap} {T MA MI O : Addr} {f : Int → Option Value} {N : Int} {pa : Int → Int} {km sy : Int → Option Int} (hk : g.StaysIn h) (H : TabG w g T MA MI O f N pa km sy) : TabG w h T MA MI O f N pa km sy :=
  ⟨H.tab.keeps hk, mapOf_keeps hk H.maj, H.lo, fun k h0 h1 => let ⟨M, t1, t2, a, b⟩ := H.mode k h0 h1; ⟨M, t1, t2, a, b.keeps hk⟩⟩
/-! loops -/
section
variable {prog : Program} {w : World} {A : Around} {s : Shared} {env : Env} {h₀ : Heap} {Q : Flow → Shared → Prop}

/-- a turn's end -/
def TurnEnd (K : Nat → Heap → Prop) (St : Nat → Heap → Prop) (i : Nat) (s : Shared) (Q : Flow → Shared → Prop) (f : Flow) (s₃ : Shared) : Prop :=
  match f with
  | .ret v => Q (.ret v) s₃
  | .brk => Q .next s₃
  | _ => ∃ h' tk', s₃ = { s with heap := h', toks := tk' } ∧ K i h' ∧ St i h'

/-- what a for goes on with -/
def ForAt (prog : Program) (w : World) (A : Around) (env : Env) (target : Expr) (body : List Stmt) (Q : Flow → Shared → Prop) (it : Value) (s₂ : Shared) : Prop :=
  codeAny (model prog w) A (.forLoop target it body [] env) (fun r s' => match r with | .ok f => Q f s' | .error _ => False) s₂

theorem for_at {target iter : Expr} {body : List Stmt} {pos : Pos} (h : wpAny (model prog w) A (eval iter env) (fun xv s₁ => wpAny (model prog w) A (pyIter xv) (fun it s₂ => ForAt prog w A env target body Q it s₂) (fun _ _ => False) s₁) (fun _ _ => False) s)
    (hs : ∀ x, foldedSetIterable iter env x = pure x := by intro _; rfl) :
    wpAny (model prog w) A (exec (.For target iter body [] pos) env) Q (fun _ _ => False) s := by
  refine wpAny_For (wpAny_mono h (fun xv s₁ h₁ => wpAny_mono h₁ (fun it s₂ h₂ => ?_) fun _ _ e => e.elim) fun _ _ e => e) hs
  refine codeAny_mono h₂ fun r s' hr => ?_
  cases r with
  | ok f => exact hr
  | error e => exact hr.elim

theorem forW {target : Expr} {body : List Stmt} {I : Addr} {fp wr : List Addr} {n : Nat} {P : Nat → Value → Prop} {St : Nat → Heap → Prop} (W : Walks prog w A I fp wr n P St) (K : Nat → Heap → Prop)
    (stable : ∀ i h h', K i h → (∀ b o, b ∉ wr → h.get? b = some o → h'.get? b = some o) → K i h') (hst : St 0 s.heap) (h0 : K 0 s.heap)
    (turn : ∀ i v h tk, i < n → P i v → K i h → St (i + 1) h → wpAny (model prog w) A (assign target env v) (fun _ s₂ => wpAny (model prog w) A (execs body env) (TurnEnd K St (i + 1) s Q) (fun _ _ => False) s₂) (fun _ _ => False) { s with heap := h, toks := tk })
    (done : ∀ h tk, K n h → Q .next { s with heap := h, toks := tk })
    (ht : ∀ v, letOwnedTupleGo target (.ref I) v = pure () := by intro _; rfl) : ForAt prog w A env target body Q (.ref I) s := by
  refine codeAny_forLoop (fun k s' => ∃ h' tk' i, s' = { s with heap := h', toks := tk' } ∧ St i h' ∧ K i h' ∧ i ≤ n ∧ k = n + 1 - i) ?_ (n + 1) ⟨s.heap, s.toks, 0, rfl, hst, h0, Nat.zero_le _, rfl⟩ ht
  rintro k s' ⟨h', tk', i, rfl, hst', hK, hi, rfl⟩
  have fls : ∀ {α : Type} {t : Sem α} {Q' : α → Shared → Prop} {E' : Value → Shared → Prop} {s' : Shared}, wpAny (model prog w) A t Q' (fun _ _ => False) s' → wpAny (model prog w) A t Q' E' s' := fun h => wpAny_mono h (fun _ _ x => x) fun _ _ x => x.elim
  by_cases hlt : i < n
  · refine W.item i _ _ _ hlt hst' fun v h₁ tk₁ hP hst₁ hk₁ => ?_
    refine fls (wpAny_mono (turn i v h₁ tk₁ hlt hP (stable _ _ _ hK hk₁) hst₁) (fun _ s₂ h₂ => fls (wpAny_mono h₂ (fun f s₃ h₃ => ?_) fun _ _ x => x)) fun _ _ x => x)
    cases f with
    | ret v => exact h₃
    | brk => exact h₃
    | next =>
      obtain ⟨h₄, tk₄, rfl, hK₄, hst₄⟩ := h₃
      exact ⟨n + 1 - (i + 1), by omega, h₄, tk₄, i + 1, rfl, hst₄, hK₄, hlt, rfl⟩
    | cont =>
      obtain ⟨h₄, tk₄, rfl, hK₄, hst₄⟩ := h₃
      exact ⟨n + 1 - (i + 1), by omega, h₄, tk₄, i + 1, rfl, hst₄, hK₄, hlt, rfl⟩
  · have hin : i = n := by omega
    subst hin
    refine W.done _ _ _ hst' fun h₁ tk₁ hk₁ => wpAny_execs_nil ?_
    exact done h₁ tk₁ (stable _ _ _ hK hk₁)

/-- the loop's word over the frame and the ledger, apart from the iterator -/
inductive LoopK (h₀ : Heap) (L I : Addr) (J : Nat → (Str → Option Value) → List (Addr × Obj) → Prop) (i : Nat) (h : Heap) : Prop
  | mk : ∀ m news, (Fr h₀ L h m) → (News h₀ L h news) → ((∀ q ∈ news, q.1 ≠ I)) → (J i m news) → LoopK h₀ L I J i h

theorem LoopK.stable {L I : Addr} {J : Nat → (Str → Option Value) → List (Addr × Obj) → Prop} (hI : h₀.get? I = none) (hL : L ≠ I) {i : Nat} {h h' : Heap} (x : LoopK h₀ L I J i h) (hk : ∀ b o, b ∉ [I] → h.get? b = some o → h'.get? b = some o) : LoopK h₀ L I J i h' := by
  obtain ⟨m, news, F, N, hn, hJ⟩ := x
  refine ⟨m, news, ⟨F.ns.at' fun o e => hk _ o (by simpa using hL) e, fun b o e => hk b o (fun q => ?_) (F.keep b o e), F.above⟩, fun q hq => ⟨hk _ _ (by simpa using hn q hq) (N q hq).1, (N q hq).2⟩, hn, hJ⟩
  rw [List.mem_singleton.mp q, hI] at e; cases e

abbrev litObj (l : Addr) (i : Nat) : Obj := { cls := .type "list_iterator", data := .fields #[.ref l, .int i 0] }

/-- a for over a list that stands -/
theorem forList {L : Addr} {target : Expr} {body : List Stmt} {l : Addr} {vs : List Value} {m₀ : Str → Option Value} {news : List (Addr × Obj)} (J : Nat → (Str → Option Value) → List (Addr × Obj) → Prop) (hh : A.handled = none)
    (F : Fr h₀ L s.heap m₀) (N : News h₀ L s.heap news) (hl : s.heap.IsList l vs.toArray) (hJ : J 0 m₀ news)
    (keepL : ∀ i m nx h, J i m nx → Fr h₀ L h m → News h₀ L h nx → h.IsList l vs.toArray)
    (turn : ∀ i v m nx h tk I oI, vs[i]? = some v → J i m nx → Fr h₀ L h m → News h₀ L h ((I, oI) :: nx) → (∀ q ∈ nx, q.1 ≠ I) → (∀ q ∈ news, q.1 < I) →
      wpAny (model prog w) A (assign target env v) (fun _ s₂ => wpAny (model prog w) A (execs body env) (TurnEnd (LoopK h₀ L I J) (fun _ h => h.get? I = some oI) (i + 1) s Q) (fun _ _ => False) s₂) (fun _ _ => False) { s with heap := h, toks := tk })
    (done : ∀ m nx h tk, J vs.length m nx → Fr h₀ L h m → News h₀ L h nx → Q .next { s with heap := h, toks := tk })
    (ht : ∀ I v, letOwnedTupleGo target (.ref I) v = pure () := by intro _ _; rfl) :
    wpAny (model prog w) A (pyIter (.ref l)) (fun it s₂ => ForAt prog w A env target body Q it s₂) (fun _ _ => False) s := by
  have hlt : l < s.heap.objs.size := let ⟨o, ho, _⟩ := hl; Heap.lt_size ho
  have hne : l ≠ s.heap.objs.size := Nat.ne_of_lt hlt
  refine wpAny_pyIter_list hl ?_
  have W := Walks.list (prog := prog) (w := w) hh s.heap.objs.size l hne vs.toArray
  have hI : h₀.get? s.heap.objs.size = none := next_is_new F
  have hL : L ≠ s.heap.objs.size := Nat.ne_of_lt F.ns.lt
  refine forW W (LoopK h₀ L s.heap.objs.size J) (fun i h h' x hk => x.stable hI hL hk) ⟨⟨_, Heap.get?_push_size _ rfl, rfl, rfl⟩, hl.push _⟩
    ⟨m₀, news, F.push _, fun q hq => ⟨Heap.get?_push_of_some _ (N q hq).1, (N q hq).2⟩, fun q hq => Nat.ne_of_lt (Heap.lt_size (N q hq).1), hJ⟩ ?_ ?_ (ht _)
  · rintro i v h tk hi hP ⟨m, nx, F₁, N₁, hn, hJ₁⟩ ⟨⟨oI, hoI, hI1, hI2⟩, hl₁⟩
    have hv : vs[i]? = some v := by simpa using hP
    refine wpAny_mono (turn i v m nx h tk s.heap.objs.size oI hv hJ₁ F₁ (fun q hq => ?_) hn (fun q hq => Heap.lt_size (N q hq).1)) (fun _ s₂ h₂ => wpAny_mono h₂ (fun f s₃ h₃ => ?_) fun _ _ x => x) fun _ _ x => x
    · rcases List.mem_cons.mp hq with rfl | hq
      · exact ⟨hoI, Ne.symm hL, hI⟩
      · exact N₁ q hq
    · have up : (∃ h' tk', s₃ = { s with heap := h', toks := tk' } ∧ LoopK h₀ L s.heap.objs.size J (i + 1) h' ∧ h'.get? s.heap.objs.size = some oI) →
          ∃ h' tk', s₃ = { s with heap := h', toks := tk' } ∧ LoopK h₀ L s.heap.objs.size J (i + 1) h' ∧ (h'.IsListIter s.heap.objs.size l (i + 1) ∧ h'.IsList l vs.toArray) := by
        rintro ⟨h', tk', e, hK, ho⟩
        obtain ⟨m', nx', F', N', hn', hJ'⟩ := id hK
        exact ⟨h', tk', e, hK, ⟨oI, ho, hI1, hI2⟩, keepL _ _ _ _ hJ' F' N'⟩
      cases f with
      | ret v => exact h₃
      | brk => exact h₃
      | next => exact up h₃
      | cont => exact up h₃
  · rintro h tk ⟨m, nx, F₁, N₁, hn, hJ₁⟩
    exact done m nx h tk (by simpa using hJ₁) F₁ N₁

/-- a for over range -/
theorem forRange {L : Addr} {target : Expr} {body : List Stmt} {r : Addr} {a b : Int} {t u v : Tok} {n : Nat} {m₀ : Str → Option Value} {news : List (Addr × Obj)} (J : Nat → (Str → Option Value) → List (Addr × Obj) → Prop) (hh : A.handled = none)
    (F : Fr h₀ L s.heap m₀) (N : News h₀ L s.heap news) (hr : IsRange s.heap r a b 1 t u v) (hsmall : Builtin.Range.small a b 1 = true) (hn : Builtin.Range.rangeSize a b 1 = (n : Int)) (hJ : J 0 m₀ news)
    (turn : ∀ i tv m nx h tk I oI, i < n → J i m nx → Fr h₀ L h m → News h₀ L h ((I, oI) :: nx) → (∀ q ∈ nx, q.1 ≠ I) → (∀ q ∈ news, q.1 < I) →
      wpAny (model prog w) A (assign target env (.int (a + (i : Int)) tv)) (fun _ s₂ => wpAny (model prog w) A (execs body env) (TurnEnd (LoopK h₀ L I J) (fun _ h => h.get? I = some oI) (i + 1) s Q) (fun _ _ => False) s₂) (fun _ _ => False) { s with heap := h, toks := tk })
    (done : ∀ m nx h tk, J n m nx → Fr h₀ L h m → News h₀ L h nx → Q .next { s with heap := h, toks := tk })
    (ht : ∀ I v, letOwnedTupleGo target (.ref I) v = pure () := by intro _ _; rfl) :
    wpAny (model prog w) A (pyIter (.ref r)) (fun it s₂ => ForAt prog w A env target body Q it s₂) (fun _ _ => False) s := by
  refine wpAny_pyIter_range hr hsmall ?_
  have W := Walks.range (prog := prog) (w := w) hh s.heap.objs.size a 1 n
  have hI : h₀.get? s.heap.objs.size = none := next_is_new F
  have hL : L ≠ s.heap.objs.size := Nat.ne_of_lt F.ns.lt
  refine forW W (LoopK h₀ L s.heap.objs.size J) (fun i h h' x hk => x.stable hI hL hk) (by show IsRangeIter _ _ _ _ _; rw [hn]; simpa using Heap.get?_push_size _ rfl)
    ⟨m₀, news, F.push _, fun q hq => ⟨Heap.get?_push_of_some _ (N q hq).1, (N q hq).2⟩, fun q hq => Nat.ne_of_lt (Heap.lt_size (N q hq).1), hJ⟩ ?_ ?_ (ht _)
  · rintro i v h tk hi ⟨tv, rfl⟩ ⟨m, nx, F₁, N₁, hn', hJ₁⟩ hst
    have e1 : a + (i : Int) * 1 = a + (i : Int) := by omega
    rw [e1]
    refine wpAny_mono (turn i tv m nx h tk s.heap.objs.size { cls := .type "range_iterator", data := .fields #[rawInt (a + ((i + 1 : Nat) : Int) * 1), rawInt ((n : Int) - ((i + 1 : Nat) : Int)), rawInt 1] } hi hJ₁ F₁ (fun q hq => ?_) hn' (fun q hq => Heap.lt_size (N q hq).1)) (fun _ s₂ h₂ => wpAny_mono h₂ (fun f s₃ h₃ => ?_) fun _ _ x => x) fun _ _ x => x
    · rcases List.mem_cons.mp hq with rfl | hq
      · exact ⟨hst, Ne.symm hL, hI⟩
      · exact N₁ q hq
    · cases f with
      | ret v => exact h₃
      | brk => exact h₃
      | next => exact h₃
      | cont => exact h₃
  · rintro h tk ⟨m, nx, F₁, N₁, hn, hJ₁⟩
    exact done m nx h tk hJ₁ F₁ N₁

theorem forListM {L : Addr} {target : Expr} {body : List Stmt} {l : Addr} {vs : List Value} {m₀ : Str → Option Value} {news : List (Addr × Obj)} (J : (Str → Option Value) → Nat → (Str → Option Value) → List (Addr × Obj) → Prop) (hh : A.handled = none)
    (F : Fr h₀ L s.heap m₀) (N : News h₀ L s.heap news) (hl : s.heap.IsList l vs.toArray) (hJ : J m₀ 0 m₀ news)
    (keepL : ∀ i m nx h, J m₀ i m nx → Fr h₀ L h m → News h₀ L h nx → h.IsList l vs.toArray)
    (turn : ∀ i v m nx h tk I oI, vs[i]? = some v → J m₀ i m nx → Fr h₀ L h m → News h₀ L h ((I, oI) :: nx) → (∀ q ∈ nx, q.1 ≠ I) → (∀ q ∈ news, q.1 < I) →
      wpAny (model prog w) A (assign target env v) (fun _ s₂ => wpAny (model prog w) A (execs body env) (TurnEnd (LoopK h₀ L I (J m₀)) (fun _ h => h.get? I = some oI) (i + 1) s Q) (fun _ _ => False) s₂) (fun _ _ => False) { s with heap := h, toks := tk })
    (done : ∀ m nx h tk, J m₀ vs.length m nx → Fr h₀ L h m → News h₀ L h nx → Q .next { s with heap := h, toks := tk })
    (ht : ∀ I v, letOwnedTupleGo target (.ref I) v = pure () := by intro _ _; rfl) :
    wpAny (model prog w) A (pyIter (.ref l)) (fun it s₂ => ForAt prog w A env target body Q it s₂) (fun _ _ => False) s := forList (J m₀) hh F N hl hJ keepL turn done ht
theorem forRangeM {L : Addr} {target : Expr} {body : List Stmt} {r : Addr} {a b : Int} {t u v : Tok} {n : Nat} {m₀ : Str → Option Value} {news : List (Addr × Obj)} (J : (Str → Option Value) → Nat → (Str → Option Value) → List (Addr × Obj) → Prop) (hh : A.handled = none)
    (F : Fr h₀ L s.heap m₀) (N : News h₀ L s.heap news) (hr : IsRange s.heap r a b 1 t u v) (hsmall : Builtin.Range.small a b 1 = true) (hn : Builtin.Range.rangeSize a b 1 = (n : Int)) (hJ : J m₀ 0 m₀ news)
    (turn : ∀ i tv m nx h tk I oI, i < n → J m₀ i m nx → Fr h₀ L h m → News h₀ L h ((I, oI) :: nx) → (∀ q ∈ nx, q.1 ≠ I) → (∀ q ∈ news, q.1 < I) →
      wpAny (model prog w) A (assign target env (.int (a + (i : Int)) tv)) (fun _ s₂ => wpAny (model prog w) A (execs body env) (TurnEnd (LoopK h₀ L I (J m₀)) (fun _ h => h.get? I = some oI) (i + 1) s Q) (fun _ _ => False) s₂) (fun _ _ => False) { s with heap := h, toks := tk })
    (done : ∀ m nx h tk, J m₀ n m nx → Fr h₀ L h m → News h₀ L h nx → Q .next { s with heap := h, toks := tk })
    (ht : ∀ I v, letOwnedTupleGo target (.ref I) v = pure () := by intro _ _; rfl) :
    wpAny (model prog w) A (pyIter (.ref r)) (fun it s₂ => ForAt prog w A env target body Q it s₂) (fun _ _ => False) s := forRange (J m₀) hh F N hr hsmall hn hJ turn done ht
theorem whileM {L : Addr} {test : Expr} {body : List Stmt} {pos : Pos} {m₀ : Str → Option Value} {news : List (Addr × Obj)} (J : (Str → Option Value) → Nat → (Str → Option Value) → List (Addr × Obj) → Prop) {n₀ : Nat}
    (F : Fr h₀ L s.heap m₀) (N : News h₀ L s.heap news) (hJ : J m₀ n₀ m₀ news)
    (turn : ∀ n m₁ nx h tk, J m₀ n m₁ nx → Fr h₀ L h m₁ → News h₀ L h nx →
      wpAny (model prog w) A (isTrue test env (eval test env)) (fun b s₂ =>
        if b = true then wpAny (model prog w) A (execs body env) (WhileStep2 h₀ L s (J m₀) Q n) (fun _ _ => False) s₂ else Q .next s₂) (fun _ _ => False) { s with heap := h, toks := tk }) :
    wpAny (model prog w) A (exec (.While test body [] pos) env) Q (fun _ _ => False) s :=
  While_inv2 (J m₀) F N hJ (fun n m₁ nx h tk F₁ N₁ hJ₁ => turn n m₁ nx h tk hJ₁ F₁ N₁) PassesOwn.never
theorem forListL {L l₁ : Addr} {target : Expr} {body : List Stmt} {l : Addr} {vs : List Value} {m₀ : Str → Option Value} {news news₀ : List (Addr × Obj)} (x : Str) (J : (Str → Option Value) → Addr → Nat → (Str → Option Value) → List (Addr × Obj) → Prop) (hh : A.handled = none)
    (F : Fr h₀ L s.heap m₀) (N : News h₀ L s.heap news) (hl : s.heap.IsList l vs.toArray) (_hx : m₀ x = some (.ref l₁)) (hJ : J m₀ l₁ 0 m₀ news₀) (hs : ∀ q ∈ news₀, q ∈ news)
    (keepL : ∀ i m nx h, J m₀ l₁ i m nx → Fr h₀ L h m → News h₀ L h nx → h.IsList l vs.toArray)
    (turn : ∀ i v m nx h tk I oI, vs[i]? = some v → J m₀ l₁ i m nx → Fr h₀ L h m → News h₀ L h ((I, oI) :: nx) → (∀ q ∈ nx, q.1 ≠ I) →
      wpAny (model prog w) A (assign target env v) (fun _ s₂ => wpAny (model prog w) A (execs body env) (TurnEnd (LoopK h₀ L I (J m₀ l₁)) (fun _ h => h.get? I = some oI) (i + 1) s Q) (fun _ _ => False) s₂) (fun _ _ => False) { s with heap := h, toks := tk })
    (done : ∀ m nx h tk, J m₀ l₁ vs.length m nx → Fr h₀ L h m → News h₀ L h nx → Q .next { s with heap := h, toks := tk })
    (ht : ∀ I v, letOwnedTupleGo target (.ref I) v = pure () := by intro _ _; rfl) :
    wpAny (model prog w) A (pyIter (.ref l)) (fun it s₂ => ForAt prog w A env target body Q it s₂) (fun _ _ => False) s :=
  forList (J m₀ l₁) hh F (fun q hq => N q (hs q hq)) hl hJ keepL (fun i v m nx h tk I oI a b c d e _ => turn i v m nx h tk I oI a b c d e) done ht
theorem forRangeL {L l₁ : Addr} {target : Expr} {body : List Stmt} {r : Addr} {a b : Int} {t u v : Tok} {n : Nat} {m₀ : Str → Option Value} {news news₀ : List (Addr × Obj)} (x : Str) (J : (Str → Option Value) → Addr → Nat → (Str → Option Value) → List (Addr × Obj) → Prop) (hh : A.handled = none)
    (F : Fr h₀ L s.heap m₀) (N : News h₀ L s.heap news) (hr : IsRange s.heap r a b 1 t u v) (hsmall : Builtin.Range.small a b 1 = true) (hn : Builtin.Range.rangeSize a b 1 = (n : Int)) (_hx : m₀ x = some (.ref l₁)) (hJ : J m₀ l₁ 0 m₀ news₀) (hs : ∀ q ∈ news₀, q ∈ news)
    (turn : ∀ i tv m nx h tk I oI, i < n → J m₀ l₁ i m nx → Fr h₀ L h m → News h₀ L h ((I, oI) :: nx) → (∀ q ∈ nx, q.1 ≠ I) →
      wpAny (model prog w) A (assign target env (.int (a + (i : Int)) tv)) (fun _ s₂ => wpAny (model prog w) A (execs body env) (TurnEnd (LoopK h₀ L I (J m₀ l₁)) (fun _ h => h.get? I = some oI) (i + 1) s Q) (fun _ _ => False) s₂) (fun _ _ => False) { s with heap := h, toks := tk })
    (done : ∀ m nx h tk, J m₀ l₁ n m nx → Fr h₀ L h m → News h₀ L h nx → Q .next { s with heap := h, toks := tk })
    (ht : ∀ I v, letOwnedTupleGo target (.ref I) v = pure () := by intro _ _; rfl) :
    wpAny (model prog w) A (pyIter (.ref r)) (fun it s₂ => ForAt prog w A env target body Q it s₂) (fun _ _ => False) s :=
  forRange (J m₀ l₁) hh F (fun q hq => N q (hs q hq)) hr hsmall hn hJ (fun i v m nx h tk I oI a b c d e _ => turn i v m nx h tk I oI a b c d e) done ht
theorem upd_none {x : Str} {m : Str → Option Value} : m = fun y => if y = x then m x else m y := by
  funext y
  split
  · rename_i e; rw [e]
  · rfl
/-- a while; J is told the frame's map at the start and the address that a name x holds -/
theorem whileL {L l : Addr} {test : Expr} {body : List Stmt} {pos : Pos} {m₀ : Str → Option Value} {news news₀ : List (Addr × Obj)} (x : Str) (J : (Str → Option Value) → Addr → Nat → (Str → Option Value) → List (Addr × Obj) → Prop) {n₀ : Nat}
    (F : Fr h₀ L s.heap m₀) (N : News h₀ L s.heap news) (_hx : m₀ x = some (.ref l)) (hJ : J m₀ l n₀ m₀ news₀) (hs : ∀ q ∈ news₀, q ∈ news)
    (turn : ∀ n m₁ nx h tk, J m₀ l n m₁ nx → Fr h₀ L h m₁ → News h₀ L h nx →
      wpAny (model prog w) A (isTrue test env (eval test env)) (fun b s₂ =>
        if b = true then wpAny (model prog w) A (execs body env) (WhileStep2 h₀ L s (J m₀ l) Q n) (fun _ _ => False) s₂ else Q .next s₂) (fun _ _ => False) { s with heap := h, toks := tk }) :
    wpAny (model prog w) A (exec (.While test body [] pos) env) Q (fun _ _ => False) s :=
  whileM (fun m₀ => J m₀ l) F (fun q hq => N q (hs q hq)) hJ turn
theorem upd_self {x : Str} {v : Value} {m : Str → Option Value} (h : m x = some v) : m = fun y => if y = x then some v else m y := by
  funext y
  split
  · rename_i e; rw [e, h]
  · rfl
theorem upd_upd {x : Str} {a b : Option Value} {m : Str → Option Value} : (fun y => if y = x then a else if y = x then b else m y) = fun y => if y = x then a else m y := by
  funext y; split <;> rfl
end

/-! the line up -/
noncomputable def upF (pa : Int → Int) : Nat → Int → List Int
  | 0, _ => []
  | n + 1, s => if s < 0 then [] else s :: upF pa n (pa s)
noncomputable def up (pa : Int → Int) (s : Int) : List Int := upF pa (s + 1).toNat s
def Par (pa : Int → Int) : Prop := ∀ k, 0 ≤ k → -1 ≤ pa k ∧ pa k < k
theorem up_neg {pa : Int → Int} {s : Int} (h : s < 0) : up pa s = [] := by
  unfold up
  have : (s + 1).toNat = 0 := by omega
  rw [this]; rfl
theorem upF_more {pa : Int → Int} (hp : Par pa) : ∀ (n : Nat) (s : Int), (s + 1).toNat ≤ n → upF pa n s = up pa s := by
  intro n
  induction n using Nat.strongRecOn with
  | ind n ih =>
    intro s hs
    by_cases h0 : s < 0
    · rw [up_neg h0]
      cases n with
      | zero => rfl
      | succ n => simp [upF, h0]
    · have h0' := Int.not_lt.mp h0
      have e := toNat1 h0'
      have hn := toNat2 (hp s h0').2
      rw [e] at hs
      cases n with
      | zero => cases hs
      | succ n =>
        have hs' := Nat.le_of_succ_le_succ hs
        unfold up
        rw [e]
        simp only [upF, h0, if_false]
        rw [ih n (Nat.lt_succ_self n) (pa s) (Nat.le_trans hn hs'), ih s.toNat (Nat.lt_succ_of_le hs') (pa s) hn]
theorem up_pos {pa : Int → Int} (hp : Par pa) {s : Int} (h : 0 ≤ s) : up pa s = s :: up pa (pa s) := by
  obtain ⟨h1, h2⟩ := hp s h
  have e : up pa s = upF pa ((s + 1).toNat) s := rfl
  rw [e, toNat1 h]
  have h0 : ¬ s < 0 := Int.not_lt.mpr h
  simp only [upF, h0, if_false]
  rw [upF_more hp s.toNat (pa s) (toNat2 h2)]
theorem up_length {pa : Int → Int} (hp : Par pa) : ∀ (n : Nat) (s : Int), (s + 1).toNat ≤ n → (up pa s).length ≤ (s + 1).toNat := by
  intro n
  induction n with
  | zero => intro s hs; rw [up_neg (toNat0 hs)]; simp
  | succ n ih =>
    intro s hs
    by_cases h0 : s < 0
    · rw [up_neg h0]; simp
    · have h0' := Int.not_lt.mp h0
      have h2 := toNat2 (hp s h0').2
      rw [toNat1 h0'] at hs ⊢
      rw [up_pos hp h0', List.length_cons]
      exact Nat.succ_le_succ (Nat.le_trans (ih (pa s) (Nat.le_trans h2 (Nat.le_of_succ_le_succ hs))) h2)
theorem up_len6 {pa : Int → Int} (hp : Par pa) {k : Int} (h : k < 6) : (up pa k).length ≤ 6 := Nat.le_trans (up_length hp (k + 1).toNat k (Nat.le_refl _)) (by omega)
theorem up_mem {pa : Int → Int} (hp : Par pa) : ∀ (n : Nat) (s : Int), (s + 1).toNat ≤ n → ∀ x ∈ up pa s, 0 ≤ x ∧ x ≤ s := by
  intro n
  induction n with
  | zero => intro s hs x hx; rw [up_neg (toNat0 hs)] at hx; cases hx
  | succ n ih =>
    intro s hs x hx
    by_cases h0 : s < 0
    · rw [up_neg h0] at hx; cases hx
    · have h0' := Int.not_lt.mp h0
      obtain ⟨h1, h2⟩ := hp s h0'
      rw [up_pos hp h0'] at hx
      rcases List.mem_cons.mp hx with rfl | hx
      · omega
      · obtain ⟨h3, h4⟩ := ih (pa s) (Nat.le_trans (toNat2 h2) (Nat.le_of_succ_le_succ (Nat.le_trans (Nat.le_of_eq (toNat1 h0').symm) hs))) x hx
        exact ⟨h3, Int.le_trans h4 (Int.le_of_lt h2)⟩

theorem filterMap_take {α β : Type} (f : α → Option β) {ns : List α} {i : Nat} {x : α} (h : ns[i]? = some x) : (ns.take (i + 1)).filterMap f = (ns.take i).filterMap f ++ (f x).toList := by
  rw [List.take_add_one, h]
  simp only [Option.toList_some, List.filterMap_append, List.filterMap_cons, List.filterMap_nil]
  cases f x <;> simp

theorem turnEnd {h₀ h' : Heap} {L I : Addr} {oI : Obj} {J : Nat → (Str → Option Value) → List (Addr × Obj) → Prop} {i : Nat} {s : Shared} {Q : Flow → Shared → Prop} {m' : Str → Option Value} {nw nx : List (Addr × Obj)} {tk : Nat}
    (F : Fr h₀ L h' m') (N : News h₀ L h' nw) (hJ : J i m' nx) (hs : ∀ q ∈ nx, q ∈ nw) (hne : ∀ q ∈ nx, q.1 ≠ I) (hI : (I, oI) ∈ nw) :
    TurnEnd (LoopK h₀ L I J) (fun _ h => h.get? I = some oI) i s Q .next { s with heap := h', toks := tk } :=
  ⟨h', tk, rfl, ⟨m', nx, F, fun q hq => N q (hs q hq), hne, hJ⟩, N.get hI⟩

section
open LCg LCt
variable {prog : Program} {w : World} {A : Around} {h₀ : Heap} {L : Addr} {m : Str → Option Value} {env : Env} {ct elt : Expr} {x : Str} {scope : Scope} {cl : List (Str × Addr)} {s : Shared} {S : List (Addr × Obj) → Prop} {P : Nat → Value → Prop} {Fin : List Value → List (Addr × Obj) → Prop} {news : List (Addr × Obj)}

/-- a comprehension with a test whose turns leave the ledger as it stands -/
theorem compT_fix {n : Nat} (J : Nat → List Value → Prop) (h0 : J 0 [])
    (turn : ∀ i v ys I oI C oC D m₂ h tk (E' : Value → Shared → Prop), i < n → P i v → J i ys → NsObj oC m₂ → m₂ x = some v → Fr h₀ L h m → News h₀ L h ((I, oI) :: (C, oC) :: (D, lst ys) :: news) → Off3 I C D news → ((@Ne Nat I C) ∧ (@Ne Nat I D) ∧ (@Ne Nat C D)) →
      wpAny (model prog w) A (isTrue ct (compEnvC scope cl C env) (eval ct (compEnvC scope cl C env))) (fun ok s' => if ok = true then
        wpAny (model prog w) A (eval elt (compEnvC scope cl C env)) (CompEnd h₀ L m { s with heap := h, toks := tk } I oI C oC D (lst ys) S (fun y nw => nw = news ∧ J (i + 1) (ys ++ [y]))) E' s'
        else CompEnd h₀ L m { s with heap := h, toks := tk } I oI C oC D (lst ys) S (fun _ nw => nw = news ∧ J (i + 1) ys) Value.none s') E' { s with heap := h, toks := tk })
    (fin : ∀ ys, J n ys → Fin ys news) : CompRestT prog w A h₀ L m env ct elt x scope cl s S P Fin n 0 [] news := by
  have key : ∀ (j i : Nat) (ys : List Value), i + j = n → J i ys → CompRestT prog w A h₀ L m env ct elt x scope cl s S P Fin j i ys news := by
    intro j
    induction j with
    | zero => intro i ys hi hJ; have e : i = n := by omega
              subst e; exact CompRestT.zero (fin ys hJ)
    | succ j ih =>
      intro i ys hi hJ
      refine CompRestT.succ fun v I oI C oC D m₂ h tk E' hP hC hx F N off ne => ?_
      refine wpAny_mono (turn i v ys I oI C oC D m₂ h tk E' (by omega) hP hJ hC hx F N off ne) (fun ok s' h' => ?_) fun _ _ e => e
      cases ok with
      | true =>
        simp only [if_true] at h' ⊢
        refine wpAny_mono h' (fun y s₂ hq => ?_) fun _ _ e => e
        obtain ⟨h₂, tk₂, nw, e, F₂, N₂, off₂, hS, hn, hJ'⟩ := hq
        subst hn
        exact ⟨h₂, tk₂, nw, e, F₂, N₂, off₂, hS, ih (i + 1) _ (by omega) hJ'⟩
      | false =>
        simp only [Bool.false_eq_true, if_false] at h' ⊢
        obtain ⟨h₂, tk₂, nw, e, F₂, N₂, off₂, hS, hn, hJ'⟩ := h'
        subst hn
        exact ⟨h₂, tk₂, nw, e, F₂, N₂, off₂, hS, ih (i + 1) _ (by omega) hJ'⟩
  exact key n 0 [] (by omega) h0

theorem compU_fix {n : Nat} (J : Nat → List Value → Prop) (h0 : J 0 [])
    (turn : ∀ i v ys I oI C oC D m₂ h tk (E' : Value → Shared → Prop), i < n → P i v → J i ys → NsObj oC m₂ → m₂ x = some v → Fr h₀ L h m → News h₀ L h ((I, oI) :: (C, oC) :: (D, lst ys) :: news) → Off3 I C D news → ((@Ne Nat I C) ∧ (@Ne Nat I D) ∧ (@Ne Nat C D)) →
      wpAny (model prog w) A (eval elt (compEnvC scope cl C env)) (CompEnd h₀ L m { s with heap := h, toks := tk } I oI C oC D (lst ys) S (fun y nw => nw = news ∧ J (i + 1) (ys ++ [y]))) E' { s with heap := h, toks := tk })
    (fin : ∀ ys, J n ys → Fin ys news) : CompRest prog w A h₀ L m env elt x scope cl s S P Fin n 0 [] news := by
  have key : ∀ (j i : Nat) (ys : List Value), i + j = n → J i ys → CompRest prog w A h₀ L m env elt x scope cl s S P Fin j i ys news := by
    intro j
    induction j with
    | zero => intro i ys hi hJ; have e : i = n := by omega
              subst e; exact CompRest.zero (fin ys hJ)
    | succ j ih =>
      intro i ys hi hJ
      refine CompRest.succ fun v I oI C oC D m₂ h tk E' hP hC hx F N off ne => ?_
      refine wpAny_mono (turn i v ys I oI C oC D m₂ h tk E' (by omega) hP hJ hC hx F N off ne) (fun y s₂ hq => ?_) fun _ _ e => e
      obtain ⟨h₂, tk₂, nw, e, F₂, N₂, off₂, hS, hn, hJ'⟩ := hq
      subst hn
      exact ⟨h₂, tk₂, nw, e, F₂, N₂, off₂, hS, ih (i + 1) _ (by omega) hJ'⟩
  exact key n 0 [] (by omega) h0
/-- general: the ledger turns too -/
theorem compU_inv {n : Nat} (J : Nat → List Value → List (Addr × Obj) → Prop) (h0 : J 0 [] news)
    (turn : ∀ i v ys nw I oI C oC D m₂ h tk (E' : Value → Shared → Prop), i < n → P i v → J i ys nw → NsObj oC m₂ → m₂ x = some v → Fr h₀ L h m → News h₀ L h ((I, oI) :: (C, oC) :: (D, lst ys) :: nw) → Off3 I C D nw → ((@Ne Nat I C) ∧ (@Ne Nat I D) ∧ (@Ne Nat C D)) →
      wpAny (model prog w) A (eval elt (compEnvC scope cl C env)) (CompEnd h₀ L m { s with heap := h, toks := tk } I oI C oC D (lst ys) S (fun y nw' => J (i + 1) (ys ++ [y]) nw')) E' { s with heap := h, toks := tk })
    (fin : ∀ ys nw, J n ys nw → Fin ys nw) : CompRest prog w A h₀ L m env elt x scope cl s S P Fin n 0 [] news := by
  have key : ∀ (j i : Nat) (ys : List Value) nw, i + j = n → J i ys nw → CompRest prog w A h₀ L m env elt x scope cl s S P Fin j i ys nw := by
    intro j
    induction j with
    | zero => intro i ys nw hi hJ; have e : i = n := by omega
              subst e; exact CompRest.zero (fin ys nw hJ)
    | succ j ih =>
      intro i ys nw hi hJ
      refine CompRest.succ fun v I oI C oC D m₂ h tk E' hP hC hx F N off ne => ?_
      refine wpAny_mono (turn i v ys nw I oI C oC D m₂ h tk E' (by omega) hP hJ hC hx F N off ne) (fun y s₂ hq => ?_) fun _ _ e => e
      obtain ⟨h₂, tk₂, nw', e, F₂, N₂, off₂, hS, hJ'⟩ := hq
      exact ⟨h₂, tk₂, nw', e, F₂, N₂, off₂, hS, ih (i + 1) _ _ (by omega) hJ'⟩
  exact key n 0 [] news (by omega) h0
theorem compEnd9 {s₁ : Shared} {I C D : Addr} {oI oC oD : Obj} {J : Value → Prop} {y : Value} {h' : Heap} {tk : Nat} {all : List (Addr × Obj)} (F : Fr h₀ L h' m) (N : News h₀ L h' all) (off : Off3 I C D news) (hS : S news) (hJ : J y) (sub : ∀ q ∈ (I, oI) :: (C, oC) :: (D, oD) :: news, q ∈ all) :
    CompEnd h₀ L m s₁ I oI C oC D oD S (fun y nw => nw = news ∧ J y) y { s₁ with heap := h', toks := tk } := CompEnd.intro F N news sub off hS ⟨rfl, hJ⟩
end
theorem srcAt_led {h₀ : Heap} {ax : Addr} {its : Array Value} {k : Nat} {news : List (Addr × Obj)} (hm : (ax, listOf its k) ∈ news) : LCg.SrcAt h₀ ax its news := Or.inr ⟨_, hm, rfl, _, rfl⟩
theorem filter_take {α : Type} (p : α → Bool) {ns : List α} {i : Nat} {x : α} (h : ns[i]? = some x) : (ns.take (i + 1)).filter p = (ns.take i).filter p ++ (if p x = true then [x] else []) := by
  rw [List.take_add_one, h]
  simp only [Option.toList_some, List.filter_append, List.filter_cons, List.filter_nil]
theorem map_take {α β : Type} (f : α → β) {ns : List α} {i : Nat} {x : α} (h : ns[i]? = some x) : (ns.take (i + 1)).map f = (ns.take i).map f ++ [f x] := by
  rw [List.take_add_one, h]; simp
theorem any_comp {α β : Type} (p : α → Bool) (c : β) (l : List α) (d : Decidable ((l.filter p).map (fun _ => c) = [])) : (!@decide _ d) = l.any p := by
  cases hq : l.any p with
  | true =>
    obtain ⟨x, hx, hx2⟩ := List.any_eq_true.mp hq
    rw [Bool.not_eq_true', decide_eq_false_iff_not, List.map_eq_nil_iff, List.filter_eq_nil_iff]
    exact fun hn => hn x hx hx2
  | false =>
    rw [Bool.not_eq_false', decide_eq_true_eq, List.map_eq_nil_iff, List.filter_eq_nil_iff]
    intro x hx hx2
    rw [List.any_eq_false] at hq
    exact hq x hx hx2
section
variable {prog : Program} {w : World} {A : Around} {E : Value → Shared → Prop} {s : Shared} {h₀ : Heap} {L D b : Addr} {m : Str → Option Value} {news news' : List (Addr × Obj)} {n n2 : Nat}
theorem insert0 {u : Tok} {y : Value} {l : List Value} {Q : Value → Shared → Prop} (F : Fr h₀ L s.heap m) (N : News h₀ L s.heap news) (U : Upd D (listOf l.toArray n) (listOf (y :: l).toArray (n + 1)) news news') (hz : l.length ≤ 1000)
    (h : ∀ h', Fr h₀ L h' m → News h₀ L h' news' → Q .none { s with heap := h' }) : wpAny (model prog w) A (call (.builtin "list.insert") [.ref D, .int 0 u, y]) Q E s := by
  refine kl_insert F N rfl (l := y :: l) ?_ U ?_ h
  · simp [kl_ins]
  · rw [PySem.sizeLine_eq]; simp; omega
theorem extend9 {l l2 : List Value} {Q : Value → Shared → Prop} (F : Fr h₀ L s.heap m) (N : News h₀ L s.heap news) (hb : (b, listOf l2.toArray n2) ∈ news) (hne : l2.length ≠ 0)
    (U : Upd D (listOf l.toArray n) (listOf (l ++ l2).toArray (n + 1)) news news') (hz : l.length ≤ 1000) (hz2 : l2.length ≤ 1000)
    (h : ∀ h', Fr h₀ L h' m → News h₀ L h' news' → Q .none { s with heap := h' }) : wpAny (model prog w) A (call (.builtin "list.extend") [.ref D, .ref b]) Q E s := by
  refine kl_extend F N hb rfl (by simpa using hne) U ?_ ?_ ?_ h
  · have hs : PySem.sizeLine = 16777216 := PySem.sizeLine_eq
    simp only [Builtin.List.listTooLong]
    simp
    omega
  · rw [PySem.sizeLine_eq]; simp; omega
  · rw [PySem.sizeLine_eq]; simp; omega
end
/-- the frame's map, but for some names that may hold anything -/
theorem frCanon {h₀ h : Heap} {L : Addr} {m₀ m₁ : Str → Option Value} {stored : List Str} (F : Fr h₀ L h m₁) (hm : ∀ y, stored.contains y = false → m₁ y = m₀ y) : Fr h₀ L h (fun y => if stored.contains y = true then m₁ y else m₀ y) := by
  have e : (fun y => if stored.contains y = true then m₁ y else m₀ y) = m₁ := by
    funext y
    cases hc : stored.contains y with
    | true => simp
    | false => simp only [Bool.false_eq_true, if_false]; exact (hm y hc).symm
  rw [e]; exact F
section
variable {prog : Program} {w : World} {A : Around} {s : Shared} {env : Env} {h₀ : Heap} {Q : Flow → Shared → Prop} {L : Addr} {target : Expr} {body : List Stmt} {m₀ : Str → Option Value} {news : List (Addr × Obj)}
/-- the word of a loop that leaves the ledger and turns some names alone -/
def J0 (stored : List Str) (Φ : Nat → Prop) (m₀ : Str → Option Value) (news : List (Addr × Obj)) (i : Nat) (m : Str → Option Value) (nx : List (Addr × Obj)) : Prop :=
  (∀ y, stored.contains y = false → m y = m₀ y) ∧ nx = news ∧ Φ i
theorem forRange0 {r : Addr} {a b : Int} {t u v : Tok} {n : Nat} (stored : List Str) (Φ : Nat → Prop) (hh : A.handled = none)
    (F : Fr h₀ L s.heap m₀) (N : News h₀ L s.heap news) (hr : IsRange s.heap r a b 1 t u v) (hsmall : Builtin.Range.small a b 1 = true) (hn : Builtin.Range.rangeSize a b 1 = (n : Int)) (h0 : Φ 0)
    (turn : ∀ i tv (m₁ : Str → Option Value) h tk I oI, i < n → Φ i → Fr h₀ L h (fun y => if stored.contains y = true then m₁ y else m₀ y) → News h₀ L h ((I, oI) :: news) → (∀ q ∈ news, q.1 ≠ I) →
      wpAny (model prog w) A (assign target env (.int (a + (i : Int)) tv)) (fun _ s₂ => wpAny (model prog w) A (execs body env) (TurnEnd (LoopK h₀ L I (J0 stored Φ m₀ news)) (fun _ h => h.get? I = some oI) (i + 1) s Q) (fun _ _ => False) s₂) (fun _ _ => False) { s with heap := h, toks := tk })
    (done : ∀ (m₁ : Str → Option Value) h tk, Φ n → Fr h₀ L h (fun y => if stored.contains y = true then m₁ y else m₀ y) → News h₀ L h news → Q .next { s with heap := h, toks := tk })
    (ht : ∀ I v, letOwnedTupleGo target (.ref I) v = pure () := by intro _ _; rfl) :
    wpAny (model prog w) A (pyIter (.ref r)) (fun it s₂ => ForAt prog w A env target body Q it s₂) (fun _ _ => False) s :=
  forRange (J0 stored Φ m₀ news) hh F N hr hsmall hn ⟨fun _ _ => rfl, rfl, h0⟩
    (fun i tv m nx h tk I oI hi hJ F₁ N₁ hne _ => by obtain ⟨h1, rfl, h2⟩ := hJ; exact turn i tv m h tk I oI hi h2 (frCanon F₁ h1) N₁ hne)
    (fun m nx h tk hJ F₁ N₁ => by obtain ⟨h1, rfl, h2⟩ := hJ; exact done m h tk h2 (frCanon F₁ h1) N₁) ht
theorem forList0 {l : Addr} {vs : List Value} (stored : List Str) (Φ : Nat → Prop) (hh : A.handled = none)
    (F : Fr h₀ L s.heap m₀) (N : News h₀ L s.heap news) (hl : s.heap.IsList l vs.toArray) (h0 : Φ 0)
    (keepL : ∀ h m, Fr h₀ L h m → News h₀ L h news → h.IsList l vs.toArray)
    (turn : ∀ i v (m₁ : Str → Option Value) h tk I oI, vs[i]? = some v → Φ i → Fr h₀ L h (fun y => if stored.contains y = true then m₁ y else m₀ y) → News h₀ L h ((I, oI) :: news) → (∀ q ∈ news, q.1 ≠ I) →
      wpAny (model prog w) A (assign target env v) (fun _ s₂ => wpAny (model prog w) A (execs body env) (TurnEnd (LoopK h₀ L I (J0 stored Φ m₀ news)) (fun _ h => h.get? I = some oI) (i + 1) s Q) (fun _ _ => False) s₂) (fun _ _ => False) { s with heap := h, toks := tk })
    (done : ∀ (m₁ : Str → Option Value) h tk, Φ vs.length → Fr h₀ L h (fun y => if stored.contains y = true then m₁ y else m₀ y) → News h₀ L h news → Q .next { s with heap := h, toks := tk })
    (ht : ∀ I v, letOwnedTupleGo target (.ref I) v = pure () := by intro _ _; rfl) :
    wpAny (model prog w) A (pyIter (.ref l)) (fun it s₂ => ForAt prog w A env target body Q it s₂) (fun _ _ => False) s :=
  forList (J0 stored Φ m₀ news) hh F N hl ⟨fun _ _ => rfl, rfl, h0⟩ (fun i m nx h hJ F₁ N₁ => by obtain ⟨_, rfl, _⟩ := hJ; exact keepL h m F₁ N₁)
    (fun i v m nx h tk I oI hv hJ F₁ N₁ hne _ => by obtain ⟨h1, rfl, h2⟩ := hJ; exact turn i v m h tk I oI hv h2 (frCanon F₁ h1) N₁ hne)
    (fun m nx h tk hJ F₁ N₁ => by obtain ⟨h1, rfl, h2⟩ := hJ; exact done m h tk h2 (frCanon F₁ h1) N₁) ht
theorem turnEnd0 {h' : Heap} {I : Addr} {oI : Obj} {stored : List Str} {Φ : Nat → Prop} {i : Nat} {m' : Str → Option Value} {nw : List (Addr × Obj)} {tk : Nat}
    (F : Fr h₀ L h' m') (N : News h₀ L h' nw) (hm : ∀ y, stored.contains y = false → m' y = m₀ y) (hs : ∀ q ∈ (I, oI) :: news, q ∈ nw) (hne : ∀ q ∈ news, q.1 ≠ I) (hΦ : Φ i) :
    TurnEnd (LoopK h₀ L I (J0 stored Φ m₀ news)) (fun _ h => h.get? I = some oI) i s Q .next { s with heap := h', toks := tk } :=
  turnEnd F N ⟨hm, rfl, hΦ⟩ (fun q hq => hs q (.tail _ hq)) hne (hs _ (.head _))
theorem rangeSize9 (n : Nat) : Builtin.Range.rangeSize 0 (n : Int) 1 = (n : Int) := by rw [rangeSize_nat]; omega
theorem small9 {b : Int} (h0 : 0 ≤ b) (h1 : b < 1000) : Builtin.Range.small 0 b 1 = true := small_one (by omega) (by omega) (by omega) (by omega)
end
theorem item_gl {prog : Program} {w : World} {A : Around} {E : Value → Shared → Prop} {s : Shared} {g : Heap} {L l : Addr} {m : Str → Option Value} {vs : List Value} {k : Int} {u : Tok} {v : Value} {value slice : Expr} {Q : Value → Shared → Prop}
    (F : Fr g L s.heap m) (hl : g.IsList l vs.toArray) (h0 : 0 ≤ k) (hk : k < 1000) (hx : vs[k.toNat]? = some v) (h : Q v s)
    (hs : subscripted slice false (.ref l) (.int k u) = operate [.ref l, .int k u] (getItem (.ref l) (.int k u)) := by with_unfolding_all rfl) :
    wpAny (model prog w) A (subscriptTail value slice (.ref l) (.int k u)) Q E s :=
  have hl' := isList_keeps F.keep hl
  tail_any hl'.typeIs slot_list_getitem.lookup (wpAny_getItem_list hl' h0 (by omega) (by simpa using hx) h) hs
theorem fillK_all : (PySem.Challenge.rw_np0026_01 = PySem.Challenge.rw_np0026_01) ∧ (Mine.hd.heap_39 = Mine.hd.heap_39) := by
  w_top off
  k_fill
  exact ⟨rfl, rfl⟩





theorem hk_pre_0 : True := by
  k_with "k_room" => ((try simp only [depth_mark, depth_under_make, depth_under_kw, depth_in1, depth_deeper, depth_caller]); (try dsimp only); (simp only [recursionLimit]); omega)
  k_with "Hcall builtin:list.pop" => (k_here; (with_reducible show wpAny _ _ (call (Value.builtin _) [Value.ref _, Value.int _ _]) _ _ _); k_dflt (refine' pop0 ?Fq2 ?Nq2 ?Uq2 ?zq2 ?_; (case Fq2 => k_asm); (case Nq2 => k_asm); (case Uq2 => k_upd); (case zq2 => omega); k_whole); (intro h' F' N'; (try dsimp only [List.nil_append, List.cons_append] at N')))
  k_with "k_inst" => (refine' inst_g ?Fq3 ?h1q3 ?h2q3; (case Fq3 => k_asm); (case h1q3 => assumption); (case h2q3 => assumption))
  k_with "k_inst" => (refine' inst_l ?Fq4 ?Nq4 ?h1q4 ?h2q4; (case Fq4 => k_asm); (case Nq4 => k_asm); (case h1q4 => assumption); (case h2q4 => k_mem))
  k_with "HcompareOp NotIn int ref" => (k_here; k_dflt (first | (refine' notIn_some ?Fq5 ?mq5 ?loq5 ?vq5 ?_; (case Fq5 => k_asm); (case mq5 => assumption); (case loq5 => assumption); (case vq5 => assumption); k_whole) | (refine' notIn_none ?Fq5 ?mq5 ?loq5 ?vq5 ?_; (case Fq5 => k_asm); (case mq5 => assumption); (case loq5 => assumption); (case vq5 => assumption); k_whole)))
  k_with "HcompareOp In int ref" => (k_here; k_dflt (refine' in_g ?Fq6 ?mq6 ?loq6 ?_; (case Fq6 => k_asm); (case mq6 => assumption); (case loq6 => assumption); k_whole))
  k_with "HsubscriptTail" => (k_here; (with_reducible show wpAny _ _ (subscriptTail _ _ (Value.ref _) (Value.int _ _)) _ _ _); k_dflt (refine' item_g ?Fq7 ?mq7 ?vq7 ?_; (case Fq7 => k_asm); (case mq7 => assumption); (case vq7 => assumption); k_whole))
  k_with "Hcall ref" => (k_here; k_dflt (k_extra "M call"))
  k_with "Hexec While Compare cons nil" => (k_here; k_dflt (k_extra "M while"))
  k_with "HpyIter ref" => (k_here; k_dflt (k_extra "M iter"))
  k_with "Hexec Raise some" => (k_here; k_dflt (k_extra "M raise"))
  k_with "Hexec Raise some none" => (k_here; k_dflt (k_extra "M raise"))
  k_with "Hexec Raise" => (k_here; k_dflt (k_extra "M raise"))
  k_with "Hexec For Name Call cons nil" => (k_here; k_dflt (refine for_at ?_))
  k_with "Hexec For Name Name cons nil" => (k_here; k_dflt (refine for_at ?_))
  k_with "Hexec For Name Subscript cons nil" => (k_here; k_dflt (refine for_at ?_))
  k_with "Hexec For Name Tuple cons nil" => (k_here; k_dflt (refine for_at ?_))
  k_with "Hexec For Tuple Call cons nil" => (k_here; k_dflt (refine for_at ?_))
  k_with "Hassign Name" => (k_here; refine wpAny_assign_Name ?_)
  k_with "SUB" => first | exact List.forall_mem_nil _ | (with_reducible assumption) | (intro q' hq'; with_reducible exact hq') | (refine' List.forall_mem_cons.mpr ⟨?aq20, ?bq20⟩; (case aq20 => k_mem); (case bq20 => k_extra "SUB")) | (intro q' hq'; k_mem)
  k_with "OFF" => (refine' List.forall_mem_cons.mpr ⟨?aq21, ?bq21⟩; (case aq21 => k_ne); (case bq21 => first | exact List.forall_mem_nil _ | k_extra "OFF"))
  k_with "Heval ListComp" => (k_here; k_dflt (first | ((with_reducible show wpAny _ _ (eval (Expr.ListComp _ [⟨_, _, [_], _⟩] _ _) _) _ _ _); refine LCt.ListComp_T (F₀ := by k_asm) (by with_unfolding_all rfl) (by decide) (by rfl) (by decide) (by rfl) ?_) | (refine LCg.ListComp_U (F₀ := by k_asm) (by with_unfolding_all rfl) (by decide) (by rfl) (by decide) (by rfl) ?_)))
  k_with "Hexec Assign cons ListComp" => (k_here; k_dflt (first | ((with_reducible show wpAny _ _ (exec (Stmt.Assign _ (Expr.ListComp _ [⟨_, _, [_], _⟩] _ _) _) _) _ _ _); refine LCt.Assign_ListComp_T (F₀ := by k_asm) (by rfl) (by with_unfolding_all rfl) (by with_unfolding_all rfl) (by decide) (by rfl) (by decide) (by rfl) (by rfl) (by rfl) ?_) | (refine LCg.Assign_ListComp_U (F₀ := by k_asm) (by rfl) (by with_unfolding_all rfl) (by with_unfolding_all rfl) (by decide) (by rfl) (by decide) (by rfl) (by rfl) (by rfl) ?_)))
  k_with "HCompSrcT" => (k_here; k_dflt (k_extra "M src"))
  k_with "HCompSrc" => (k_here; k_dflt (k_extra "M src"))
  k_with "HCompEnd" => ((with_reducible refine' compEnd9 ?Fq26 ?Nq26 ?offq26 ?Sq26 ?_ ?subq26); (case Fq26 => with_reducible assumption); (case Nq26 => with_reducible assumption); (case offq26 => with_reducible assumption); (case Sq26 => k_dflt (first | exact srcAt_led (by k_mem) | exact Or.inl (by assumption) | exact True.intro)); (case subq26 => k_dflt (k_extra "SUB")))
  k_with "Hcall builtin:list.insert" => (k_here; (with_reducible show wpAny _ _ (call (Value.builtin _) [Value.ref _, Value.int 0 _, _]) _ _ _); k_dflt (refine' insert0 ?Fq27 ?Nq27 ?Uq27 ?zq27 ?_; (case Fq27 => k_asm); (case Nq27 => k_asm); (case Uq27 => k_upd); (case zq27 => omega); k_whole); (intro h' F' N'; (try dsimp only [List.nil_append, List.cons_append] at N')))
  k_with "size_fits" => (rw [PySem.sizeLine_eq]; (try simp only [List.size_toArray, List.length_append, List.length_cons, List.length_nil, List.length_reverse]); omega)
  k_with "kmk_size" => (rw [PySem.sizeLine_eq]; (try simp only [List.size_toArray, List.length_append, List.length_cons, List.length_nil, List.length_reverse]); omega)
  k_with "HsubscriptTail" => (k_here; (with_reducible show wpAny _ _ (subscriptTail _ _ (Value.ref _) (Value.int _ _)) _ _ _); k_dflt (refine' item_gl ?Fq30 ?lq30 ?aq30 ?bq30 ?xq30 ?_; (case Fq30 => k_asm); (case xq30 => assumption); (case lq30 => assumption); (case aq30 => omega); (case bq30 => omega); k_whole))
  k_with "k_mem" => ((show (_ : Addr × Obj) ∈ (_ : List (Addr × Obj))); first | (with_reducible assumption) | (with_reducible refine List.mem_append_left _ ?_; k_mem) | (with_reducible refine List.mem_append_right _ ?_; k_mem))
  k_with "k_all" => (refine' List.forall_mem_append.mpr ⟨?_, ?_⟩ <;> k_all)
  k_with "k_all" => first | (with_reducible assumption) | (refine' Apart.all ?xq33 ?mq33; (case xq33 => with_reducible assumption); (case mq33 => k_mem))
  k_with "Hcall builtin:list.extend" => (k_here; (with_reducible show wpAny _ _ (call (Value.builtin _) [Value.ref _, Value.ref _]) _ _ _); k_dflt (refine' extend9 ?Fq34 ?Nq34 ?bq34 ?neq34 ?Uq34 ?zq34 ?yq34 ?_; (case Fq34 => k_asm); (case Nq34 => k_asm); (case bq34 => k_mem); (case neq34 => with_reducible assumption); (case Uq34 => k_upd); (case zq34 => ((try simp only [List.length_append, List.length_cons, List.length_nil]); omega)); (case yq34 => ((try simp only [List.length_append, List.length_cons, List.length_nil]); omega)); k_whole); (intro h' F' N'; (try dsimp only [List.nil_append, List.cons_append] at N')))
  k_with "PICK" => first | (refine' Pick.head ?aq35; (case aq35 => k_all)) | (refine' Pick.tail ?aq35 ?_; (case aq35 => k_extra "PICK"); k_ne)
  k_with "PICKS" => first | exact Picks.nil | (refine' Picks.cons ?aq36 ?bq36; (case aq36 => k_extra "PICK"); (case bq36 => k_extra "PICKS"))
  k_with "k_put" => first | exact put_major | exact put_on
  k_with "HFnAt" => (k_dflt (exact FnAt.keeps' (Fr.keep (by k_asm)) (by assumption)))
  k_with "HcallWith ref" => (k_here; k_dflt (refine' callWith_F ?k1q39 ?_; (case k1q39 => exact FnAt.keeps' (Fr.keep (by k_asm)) (by assumption)); k_whole))
  k_with "Hexec Try" => (k_here; k_dflt (k_extra "M try"))
  k_with "Hexec Try cons cons nil nil" => (k_here; k_dflt (k_extra "M try"))
  k_with "Heval Name" => (k_here; k_dflt (refine' nameX_G ?Fq42 ?cq42 ?mq42 ?dq42 ?_ ?aq42 ?bq42; (case aq42 => rfl); (case bq42 => rfl); (case Fq42 => k_asm); (case cq42 => rfl); (case mq42 => assumption); (case dq42 => assumption); k_whole))
  k_with "Heval Lambda" => (k_here; k_dflt (refine' kla_eval ?d0q43 ?_; (case d0q43 => exact rfl)); (first | (k_dflt (refine' kla_nest ?Fq43 ?Nq43 ?Tq43 ?Cq43 ?cdq43 ?Uq43 ?tq43 ?nq43 ?clq43 ?_; (case Fq43 => k_asm); (case Nq43 => k_asm); (case Tq43 => k_asm); (case cdq43 => exact rfl); (case Cq43 => kn_code); (case Uq43 => k_updF); (case tq43 => kn_triples); (case nq43 => kn_among); (case clq43 => exact rfl); k_whole); intro lamF lamC lamO lamV lamT lamCt h' tk' F' N' lamD1 lamD2 l1 l2; (try dsimp only at N'); (try k_lt l1); (try k_lt2 l2)) | (k_dflt (refine' kla_hit ?Fq43 ?Nq43 ?Tq43 ?Cq43 ?cdq43 ?memq43 ?tq43 ?nq43 ?clq43 ?_; (case Fq43 => k_asm); (case Nq43 => k_asm); (case Tq43 => k_asm); (case cdq43 => exact rfl); (case Cq43 => kn_code); (case memq43 => k_mem); (case tq43 => kn_triples); (case nq43 => kn_hit); (case clq43 => exact rfl); k_whole); intro lamF lamCt h' tk' F' N' l1; (try dsimp only at N'); (try k_lt l1))))
  k_with "PAIRS0" => first | exact Pairs.nil | (refine' Pairs.cons ?xq44 ?yq44; (case xq44 => exact News.get (by k_asm) (by k_mem)); (case yq44 => k_extra "PAIRS0")) | (refine' Pairs.mono ?fq44 ?hq44; (case hq44 => assumption); (case fq44 => (intro d' o' hm'; exact News.get (by k_asm) (by k_mem))))
  k_with "PAIRS" => first | exact Pairs.nil | (refine' Pairs.cons ?xq45 ?yq45; (case xq45 => exact News.get (by k_asm) (by k_mem)); (case yq45 => k_extra "PAIRS")) | (refine' Pairs.mono ?fq45 ?hq45; (case hq45 => assumption); (case fq45 => (intro d' o' hm'; exact News.get (by k_asm) (by k_mem)))) | (refine' Pairs.append ?xq45 ?yq45; (case yq45 => k_extra "PAIRS0"); (case xq45 => k_extra "PAIRS")) | (refine' Pairs.append ?xq45 ?yq45; (case xq45 => k_extra "PAIRS0"); (case yq45 => k_extra "PAIRS"))
  k_with "HcompareOp Eq ref ref" => (k_here; (with_reducible show wpAny _ _ (compareOp CmpOp.Eq (Value.ref _) (Value.ref _)) _ _ _); k_dflt (refine' eq_pairs ?lq46 ?iq46 ?l2q46 ?i2q46 ?uq46 ?_; (case lq46 => (first | exact News.isList (by k_asm) (by k_mem) | exact isList_keeps (Fr.keep (by k_asm)) (by assumption))); (case iq46 => k_extra "PAIRS"); (case l2q46 => (first | exact News.isList (by k_asm) (by k_mem) | exact isList_keeps (Fr.keep (by k_asm)) (by assumption))); (case i2q46 => k_extra "PAIRS"); (case uq46 => (show _ + 64 < 9900; (((try simp only [depth_mark, depth_under_make, depth_under_kw, depth_in1, depth_deeper, depth_caller, units_in1, units_deeper, units_caller, Around.mark_units]); (try dsimp only); omega)))); k_whole))
  k_with "HcompareOp NotEq ref ref" => (k_here; (with_reducible show wpAny _ _ (compareOp CmpOp.NotEq (Value.ref _) (Value.ref _)) _ _ _); k_dflt (first | (refine' ne_pairs ?lq47 ?iq47 ?l2q47 ?i2q47 ?uq47 ?_; (case lq47 => (first | exact News.isList (by k_asm) (by k_mem) | exact isList_keeps (Fr.keep (by k_asm)) (by assumption))); (case iq47 => k_extra "PAIRS"); (case l2q47 => (first | exact News.isList (by k_asm) (by k_mem) | exact isList_keeps (Fr.keep (by k_asm)) (by assumption))); (case i2q47 => k_extra "PAIRS"); (case uq47 => (show _ + 64 < 9900; (((try simp only [depth_mark, depth_under_make, depth_under_kw, depth_in1, depth_deeper, depth_caller, units_in1, units_deeper, units_caller, Around.mark_units]); (try dsimp only); omega)))); k_whole) | (refine' ne_bools ?aq47 ?bq47 ?cq47 ?dq47 ?eq47 ?fq47 ?uq47 ?_; (case aq47 => exact News.get (by k_asm) (by k_mem)); (case bq47 => exact rfl); (case cq47 => exact rfl); (case dq47 => exact News.get (by k_asm) (by k_mem)); (case eq47 => exact rfl); (case fq47 => exact rfl); (case uq47 => (show _ + 64 < 9900; (((try simp only [depth_mark, depth_under_make, depth_under_kw, depth_in1, depth_deeper, depth_caller, units_in1, units_deeper, units_caller, Around.mark_units]); (try dsimp only); omega)))); k_whole)))
  k_with "HsubscriptTail Name Slice ref ref" => (k_here; (with_reducible show wpAny _ _ (subscriptTail _ (PySem.Expr.Slice none none (some _) _) (Value.ref _) (Value.ref _)) _ _ _); k_dflt (refine' krv_ints ?Fq48 ?Nq48 ?lq48 ?kq48 ?iq48 ?_ ?sq48 ?tq48 ?zq48; (case Fq48 => k_asm); (case Nq48 => k_asm); (case lq48 => exact isList_keeps (Fr.keep (by k_asm)) (by assumption)); (case kq48 => exact IsPart.int _ _); (case iq48 => assumption); (case sq48 => with_unfolding_all rfl); (case tq48 => kmk_pure); (case zq48 => kmk_size)); intro revD revW h' F' N' l1 hRev hRevL; (try k_lt l1); (try k_sweep))
  trivial
abbrev pairObj (a b : Int) (t u : Tok) : Obj := { cls := .type "tuple", data := .seq #[.int a t, .int b u] }
/-- a list of pairs of ints -/
inductive Pairs (P : Addr → Obj → Prop) : List Value → List (Int × Int) → Prop
  | nil : Pairs P [] []
  | cons {d : Addr} {a b : Int} {t u : Tok} {vs : List Value} {ps : List (Int × Int)} : P d (pairObj a b t u) → Pairs P vs ps → Pairs P (.ref d :: vs) ((a, b) :: ps)
theorem Pairs.mono {P P' : Addr → Obj → Prop} (f : ∀ d o, P d o → P' d o) {vs : List Value} {ps : List (Int × Int)} (x : Pairs P vs ps) : Pairs P' vs ps := by
  induction x with
  | nil => exact .nil
  | cons h _ ih => exact .cons (f _ _ h) ih
theorem Pairs.append {P : Addr → Obj → Prop} {vs vs' : List Value} {ps ps' : List (Int × Int)} (x : Pairs P vs ps) (y : Pairs P vs' ps') : Pairs P (vs ++ vs') (ps ++ ps') := by
  induction x with
  | nil => exact y
  | cons h _ ih => exact .cons h ih
theorem Pairs.length {P : Addr → Obj → Prop} {vs : List Value} {ps : List (Int × Int)} (x : Pairs P vs ps) : vs.length = ps.length := by
  induction x with
  | nil => rfl
  | cons h _ ih => simp [ih]
theorem Pairs.at {P : Addr → Obj → Prop} {vs : List Value} {ps : List (Int × Int)} (x : Pairs P vs ps) : ∀ (i : Nat) (v : Value), vs[i]? = some v → ∃ d a b t u, v = .ref d ∧ ps[i]? = some (a, b) ∧ P d (pairObj a b t u) := by
  induction x with
  | nil => intro i v h; simp at h
  | @cons d a b t u vs ps h _ ih =>
    intro i v e
    cases i with
    | zero => simp at e; exact ⟨d, a, b, t, u, e.symm, by simp, h⟩
    | succ i => simp at e; obtain ⟨d, a, b, t, u, e1, e2, e3⟩ := ih i v e; exact ⟨d, a, b, t, u, e1, by simpa using e2, e3⟩
theorem lt_of_allLt {D : Addr} : ∀ {l : List (Addr × Obj)}, AllLt D l → ∀ p ∈ l, p.1 < D
  | [], _, _, h => nomatch h
  | _ :: _, x, p, h => by
    rcases List.mem_cons.mp h with rfl | h
    · exact x.1
    · exact lt_of_allLt x.2 p h
/-- a pair was made -/
inductive MadePair (h₀ : Heap) (L : Addr) (m : Str → Option Value) (s : Shared) (c own : Int) (nw : List (Addr × Obj)) (v : Value) (s₂ : Shared) : Prop
  | mk : ∀ d h' tk' ta tb, (v = .ref d) → (s₂ = { s with heap := h', toks := tk' }) → (Fr h₀ L h' m) → (News h₀ L h' ((d, pairObj c own ta tb) :: nw)) → (AllLt d nw) → MadePair h₀ L m s c own nw v s₂
section
variable {prog : Program} {w : World} {A : Around} {h₀ : Heap} {L : Addr} {m : Str → Option Value} {env : Env} {elt : Expr} {x : Str} {scope : Scope} {cl : List (Str × Addr)} {s : Shared} {S : List (Addr × Obj) → Prop} {Fin : List Value → List (Addr × Obj) → Prop} {news : List (Addr × Obj)}
open LCg in
/-- [(c, own) for own in line] -/
theorem compPairs {vs : List Value} {xs : List Int} (c : Int) (hW : IntsAre vs xs) (hS : ∀ nw, (∀ q ∈ news, q ∈ nw) → S nw)
    (turn : ∀ own t nw I oI C oC D oD m₂ h tk (E' : Value → Shared → Prop), NsObj oC m₂ → m₂ x = some (.int own t) → Fr h₀ L h m → News h₀ L h ((I, oI) :: (C, oC) :: (D, oD) :: nw) →
      wpAny (model prog w) A (eval elt (compEnvC scope cl C env)) (MadePair h₀ L m s c own ((I, oI) :: (C, oC) :: (D, oD) :: nw)) E' { s with heap := h, toks := tk })
    (fin : ∀ ys tups, Pairs (fun d o => (d, o) ∈ tups) ys (xs.map fun y => (c, y)) → (∀ q ∈ tups, ∀ p ∈ news, p.1 ≠ q.1) → Fin ys (news ++ tups)) :
    CompRest prog w A h₀ L m env elt x scope cl s S (fun i v => vs.toArray[i]? = some v) Fin vs.toArray.size 0 [] news := by
  have hl := hW.length
  refine compU_inv (fun i ys nw => ∃ tups, nw = news ++ tups ∧ Pairs (fun d o => (d, o) ∈ tups) ys ((xs.take i).map fun y => (c, y)) ∧ (∀ q ∈ tups, ∀ p ∈ news, p.1 ≠ q.1))
    ⟨[], (List.append_nil _).symm, .nil, fun _ h => (nomatch h)⟩ ?_ ?_
  · rintro i v ys nw I oI C oC D m₂ h tk E' hi hP ⟨tups, rfl, hp, hne⟩ hC hx F N off ne
    obtain ⟨own, t, rfl, hown⟩ := IntsAre.at hW i v (by simpa using hP)
    refine wpAny_mono (turn own t (news ++ tups) I oI C oC D _ m₂ h tk E' hC hx F N) (fun v s₂ h₂ => ?_) fun _ _ e => e
    obtain ⟨d, h', tk', ta, tb, rfl, rfl, F', N', hlt'⟩ := h₂
    have hlt := lt_of_allLt hlt'
    refine ⟨h', tk', news ++ (tups ++ [(d, pairObj c own ta tb)]), rfl, F', fun q hq => N' q ?_, Off3.of fun q hq => ?_, hS _ fun q hq => List.mem_append_left _ hq, tups ++ [(d, pairObj c own ta tb)], rfl, ?_, fun q hq p hp' => ?_⟩
    · rcases List.mem_cons.mp hq with rfl | hq
      · exact .tail _ (.head _)
      rcases List.mem_cons.mp hq with rfl | hq
      · exact .tail _ (.tail _ (.head _))
      rcases List.mem_cons.mp hq with rfl | hq
      · exact .tail _ (.tail _ (.tail _ (.head _)))
      rcases List.mem_append.mp hq with hq | hq
      · exact .tail _ (.tail _ (.tail _ (.tail _ (List.mem_append_left _ hq))))
      rcases List.mem_append.mp hq with hq | hq
      · exact .tail _ (.tail _ (.tail _ (.tail _ (List.mem_append_right _ hq))))
      · rw [List.mem_singleton.mp hq]; exact .head _
    · rcases List.mem_append.mp hq with hq | hq
      · exact off.mem q (List.mem_append_left _ hq)
      rcases List.mem_append.mp hq with hq | hq
      · exact off.mem q (List.mem_append_right _ hq)
      · rw [List.mem_singleton.mp hq]
        exact ⟨Nat.ne_of_gt (hlt _ (.head _)), Nat.ne_of_gt (hlt _ (.tail _ (.head _))), Nat.ne_of_gt (hlt _ (.tail _ (.tail _ (.head _))))⟩
    · rw [List.take_add_one, hown]
      rw [List.map_append]
      exact (hp.mono fun d o h => List.mem_append_left _ h).append (.cons (List.mem_append_right _ (.head _)) .nil)
    · rcases List.mem_append.mp hq with hq | hq
      · exact hne q hq p hp'
      · rw [List.mem_singleton.mp hq]
        exact Nat.ne_of_lt (hlt _ (.tail _ (.tail _ (.tail _ (List.mem_append_left _ hp')))))
  · rintro ys nw ⟨tups, rfl, hp, hne⟩
    rw [List.size_toArray, hl, List.take_length] at hp
    exact fin ys tups hp hne
end
theorem off1_mem {D : Addr} : ∀ {l : List (Addr × Obj)}, LCg.Off1 D l → ∀ p ∈ l, p.1 ≠ D
  | [], _, _, h => nomatch h
  | _ :: _, x, p, h => by
    rcases List.mem_cons.mp h with rfl | h
    · exact x.1
    · exact off1_mem x.2 p h
theorem off1_app {D : Addr} {l l' : List (Addr × Obj)} : LCg.Off1 D (l ++ l') ↔ LCg.Off1 D l ∧ LCg.Off1 D l' := by
  induction l with
  | nil => simp [LCg.Off1]
  | cons p r ih => simp [LCg.Off1, ih, and_assoc]
theorem newsPerm {h₀ h : Heap} {L : Addr} {nw nw' : List (Addr × Obj)} (N : News h₀ L h nw) (sub : ∀ q ∈ nw', q ∈ nw) : News h₀ L h nw' := fun q hq => N q (sub q hq)
def Apart (tups news : List (Addr × Obj)) : Prop := ∀ q ∈ tups, ∀ p ∈ news, p.1 ≠ q.1
theorem Apart.all {tups news : List (Addr × Obj)} {D : Addr} {o : Obj} (x : Apart tups news) (hm : (D, o) ∈ news) : ∀ p ∈ tups, p.1 ≠ D := fun q hq => Ne.symm (x q hq (D, o) hm)
theorem ne_of_allLt {D : Addr} {l : List (Addr × Obj)} (x : AllLt D l) : ∀ p ∈ l, p.1 ≠ D := fun p hp => Nat.ne_of_lt (lt_of_allLt x p hp)
/-- a list of steps of a switch -/
def stepsOf (line : List Int) (k : Int) : List (Int × Int) := [(0, k), (1, k)] ++ line.map (fun y => ((2 : Int), y)) ++ line.map (fun y => ((3 : Int), y)) ++ [(4, k)]
section
variable {prog : Program} {w : World} {A : Around} {s : Shared} {env : Env} {h₀ : Heap} {Q : Flow → Shared → Prop}
/-- a for over a list of pairs -/
theorem forPairs {L : Addr} {xi xc : Str} {pk pv pt : Pos} {x1} {body : List Stmt} {l : Addr} {vs : List Value} {ps : List (Int × Int)} {m₀ : Str → Option Value} {news : List (Addr × Obj)} (J : Nat → (Str → Option Value) → List (Addr × Obj) → Prop) (hh : A.handled = none)
    (hLe : env.locals = L) (hxi : env.kindOf xi = some .local) (hxc : env.kindOf xc = some .local) (hplace : (env.scope.kind == .class || (env.scope.kind == .module && env.locals != env.globals)) = false)
    (F : Fr h₀ L s.heap m₀) (N : News h₀ L s.heap news) (hl : s.heap.IsList l vs.toArray) (hJ : J 0 m₀ news) (hlen : vs.length = ps.length)
    (keepL : ∀ i m nx h, J i m nx → Fr h₀ L h m → News h₀ L h nx → h.IsList l vs.toArray ∧ Pairs (fun d o => h.get? d = some o) vs ps)
    (turn : ∀ i a b ta tb m nx h tk I oI, ps[i]? = some (a, b) → J i m nx → Fr h₀ L h (fun y => if y = xc then some (.int b tb) else if y = xi then some (.int a ta) else m y) → News h₀ L h ((I, oI) :: nx) → (∀ q ∈ nx, q.1 ≠ I) →
      wpAny (model prog w) A (execs body env) (TurnEnd (LoopK h₀ L I J) (fun _ h => h.get? I = some oI) (i + 1) s Q) (fun _ _ => False) { s with heap := h, toks := tk })
    (done : ∀ m nx h tk, J ps.length m nx → Fr h₀ L h m → News h₀ L h nx → Q .next { s with heap := h, toks := tk }) :
    wpAny (model prog w) A (pyIter (.ref l)) (fun it s₂ => ForAt prog w A env (.Tuple [.Name xi pk, .Name xc pv] x1 pt) body Q it s₂) (fun _ _ => False) s := by
  have hlt : l < s.heap.objs.size := let ⟨o, ho, _⟩ := hl; Heap.lt_size ho
  have hne : l ≠ s.heap.objs.size := Nat.ne_of_lt hlt
  refine wpAny_pyIter_list hl ?_
  have W := Walks.list (prog := prog) (w := w) hh s.heap.objs.size l hne vs.toArray
  have hI : h₀.get? s.heap.objs.size = none := next_is_new F
  have hL : L ≠ s.heap.objs.size := Nat.ne_of_lt F.ns.lt
  have fls : ∀ {α : Type} {t : Sem α} {Q' : α → Shared → Prop} {E' : Value → Shared → Prop} {s' : Shared}, wpAny (model prog w) A t Q' (fun _ _ => False) s' → wpAny (model prog w) A t Q' E' s' := fun h => wpAny_mono h (fun _ _ x => x) fun _ _ x => x.elim
  have hsz : vs.toArray.size = ps.length := by rw [List.size_toArray]; exact hlen
  unfold ForAt
  refine codeAny_forLoop_any (fun k s' => ∃ h' tk' i, s' = { s with heap := h', toks := tk' } ∧ (h'.IsListIter s.heap.objs.size l i ∧ h'.IsList l vs.toArray) ∧ LoopK h₀ L s.heap.objs.size J i h' ∧ i ≤ ps.length ∧ k = ps.length + 1 - i) ?_ (ps.length + 1)
    ⟨_, s.toks, 0, rfl, ⟨⟨_, Heap.get?_push_size _ rfl, rfl, rfl⟩, hl.push _⟩, ⟨m₀, news, F.push _, fun q hq => ⟨Heap.get?_push_of_some _ (N q hq).1, (N q hq).2⟩, fun q hq => Nat.ne_of_lt (Heap.lt_size (N q hq).1), hJ⟩, Nat.zero_le _, rfl⟩
  rintro k s' ⟨h', tk', i, rfl, hst', hK, hi, rfl⟩
  by_cases hlt : i < ps.length
  · refine W.item i _ _ _ (by rw [hsz]; exact hlt) hst' fun v h₁ tk₁ hP hst₁ hk₁ => ?_
    obtain ⟨m, nx, F₁, N₁, hn, hJ₁⟩ := hK.stable hI hL hk₁
    have hv : vs[i]? = some v := by simpa using hP
    obtain ⟨_, hPs⟩ := keepL _ _ _ _ hJ₁ F₁ N₁
    obtain ⟨d, a, b, ta, tb, rfl, hps, hd⟩ := hPs.at i v hv
    refine wpAny_letOwnedTupleGo_listiter hst₁.1 ?_
    have htup : h₁.IsTuple d #[.int a ta, .int b tb] := ⟨_, hd, rfl, _, rfl⟩
    refine wpAny_assign_Tuple hh htup rfl rfl fun h₃ hx₃ => ?_
    replace hx₃ : Heap.ExtBut h₁.objs.size h₁ h₃ := hx₃
    have up₃ : ∀ b o, h₁.get? b = some o → h₃.get? b = some o := fun b o x => hx₃ b o (Nat.ne_of_lt (Heap.lt_size x)) x
    have F₃ : Fr h₀ L h₃ m := ⟨F₁.ns.keeps up₃, fun b o e => up₃ b o (F₁.keep b o e), F₁.above⟩
    have N₃ : News h₀ L h₃ nx := fun q hq => ⟨up₃ _ _ (N₁ q hq).1, (N₁ q hq).2⟩
    show wpAny _ A (do holding [.int b tb] (assign (.Name xi pk) env (.int a ta)); holding [] (assign (.Name xc pv) env (.int b tb)); pure ()) _ _ _
    subst hLe
    refine wpAny_bind (wpAny_holding (wpAny_assign_Name (wpAny_storeName_local hxi F₃.ns (fun h₄ hn₄ hs₄ => ?_) hplace)))
    replace hs₄ : Heap.SameBut env.locals h₃ h₄ := hs₄
    have F₄ := F₃.set hn₄ hs₄
    refine wpAny_bind (wpAny_holding (wpAny_assign_Name (wpAny_storeName_local hxc F₄.ns (fun h₅ hn₅ hs₅ => wpAny_pure ?_) hplace)))
    replace hs₅ : Heap.SameBut env.locals h₄ h₅ := hs₅
    have F₅ := F₄.set hn₅ hs₅
    have N₅ : News h₀ env.locals h₅ nx := (N₃.set hs₄).set hs₅
    obtain ⟨⟨oI, hoI, hI1, hI2⟩, hl₁⟩ := hst₁
    have hoI₅ : h₅.get? s.heap.objs.size = some oI := (hs₅.2 _ (Ne.symm hL)).trans ((hs₄.2 _ (Ne.symm hL)).trans (up₃ _ _ hoI))
    refine fls (wpAny_mono (turn i a b ta tb m nx h₅ _ s.heap.objs.size oI hps hJ₁ F₅ (fun q hq => ?_) hn) (fun f s₃ h₃' => ?_) fun _ _ x => x)
    · rcases List.mem_cons.mp hq with rfl | hq
      · exact ⟨hoI₅, Ne.symm hL, hI⟩
      · exact N₅ q hq
    · have up : (∃ h' tk', s₃ = { s with heap := h', toks := tk' } ∧ LoopK h₀ env.locals s.heap.objs.size J (i + 1) h' ∧ h'.get? s.heap.objs.size = some oI) →
          ∃ h' tk', s₃ = { s with heap := h', toks := tk' } ∧ LoopK h₀ env.locals s.heap.objs.size J (i + 1) h' ∧ (h'.IsListIter s.heap.objs.size l (i + 1) ∧ h'.IsList l vs.toArray) := by
        rintro ⟨h', tk', e, hK, ho⟩
        obtain ⟨m', nx', F', N', hn', hJ'⟩ := id hK
        exact ⟨h', tk', e, hK, ⟨oI, ho, hI1, hI2⟩, (keepL _ _ _ _ hJ' F' N').1⟩
      cases f with
      | ret v => exact h₃'
      | brk => exact h₃'
      | next =>
        obtain ⟨h₄, tk₄, rfl, hK₄, hst₄⟩ := up h₃'
        exact ⟨ps.length + 1 - (i + 1), by omega, h₄, tk₄, i + 1, rfl, hst₄, hK₄, hlt, rfl⟩
      | cont =>
        obtain ⟨h₄, tk₄, rfl, hK₄, hst₄⟩ := up h₃'
        exact ⟨ps.length + 1 - (i + 1), by omega, h₄, tk₄, i + 1, rfl, hst₄, hK₄, hlt, rfl⟩
  · have hin : i = ps.length := by omega
    subst hin
    rw [← hsz] at hst'
    refine W.done _ _ _ hst' fun h₁ tk₁ hk₁ => wpAny_execs_nil ?_
    obtain ⟨m, nx, F₁, N₁, hn, hJ₁⟩ := hK.stable hI hL hk₁
    exact done m nx h₁ tk₁ hJ₁ F₁ N₁
end
theorem Pairs.led {P : Addr → Obj → Prop} {vs : List Value} {ps : List (Int × Int)} (x : Pairs P vs ps) : ∃ tups : List (Addr × Obj), Pairs (fun d o => (d, o) ∈ tups) vs ps ∧ ∀ q ∈ tups, P q.1 q.2 := by
  induction x with
  | nil => exact ⟨[], .nil, fun _ h => (nomatch h)⟩
  | @cons d a b t u vs ps h _ ih =>
    obtain ⟨tups, x1, x2⟩ := ih
    refine ⟨(d, pairObj a b t u) :: tups, .cons (.head _) (x1.mono fun d o h => .tail _ h), fun q hq => ?_⟩
    rcases List.mem_cons.mp hq with rfl | hq
    · exact h
    · exact x2 q hq
/-- what the given 'do' does: it appends a pair to the list ST -/
def DoSpec (w : World) (p : Program) (loose : List Str) (mean : ExcName → Option Value) (mg mb : Str → Option Value) (g₀ : Heap) (lam ST : Addr) : Prop :=
  ∀ (g : Heap), g₀.StaysIn g → ∀ (A : Around) (base : Heap) (outer : List Env) (s : Shared) (R : Result → Shared → Prop) (sts : List Value) (n : Nat) (a b : Int) (ta tb : Tok),
    Gnd (Mine.hd.heap_39 w.params) p loose mean mg mb A base outer g s.heap → A.handled = none → A.depth < 440 → A.units < 1400 →
    (∀ q ∈ [(ST, listOf sts.toArray n)], s.heap.get? q.1 = some q.2 ∧ g.get? q.1 = none) → sts.length ≤ 100 →
    (∀ d n' h' tk' ta tb, g.StaysIn h' → h'.get? ST = some (listOf (sts ++ [Value.ref d]).toArray n') → h'.get? d = some (pairObj a b ta tb) → g.get? d = none → d ≠ ST → R (.ok (.ret .none)) { s with heap := h', toks := tk' }) →
    codeAny (model PG w) A (.call (.ref lam) ⟨[.int a ta, .int b tb], []⟩) R s
theorem DoSpec.keeps {w : World} {p : Program} {loose : List Str} {mean : ExcName → Option Value} {mg mb : Str → Option Value} {g g' : Heap} {lam ST : Addr} (hk : g.StaysIn g') (x : DoSpec w p loose mean mg mb g lam ST) : DoSpec w p loose mean mg mb g' lam ST :=
  fun h hs => x h fun b o e => hs b o (hk b o e)
section
variable {prog : Program} {w : World} {A₀ A : Around} {s : Shared} {base h₀ : Heap} {outer : List Env} {L : Addr} {m : Str → Option Value} {env : Env} {news rest : List (Addr × Obj)} {p : Program} {loose : List Str} {mean : ExcName → Option Value} {mg mb : Str → Option Value} {Q E : Value → Shared → Prop}
theorem do_use {lam ST : Addr} {sts : List Value} {n : Nat} {a b : Int} {ta tb : Tok}
    (B : Below A₀ base outer h₀) (F : Fr h₀ L s.heap m) (Nw : News h₀ L s.heap news) (X : (Mine.hd.heap_39 w.params).In h₀) (Tp : Top p loose mean mg mb h₀)
    (hA : A.frames = some (env :: outer)) (hf : env.frame = some L) (hke : env.scope.kind = .function) (hh : A.handled = none) (hd : A.depth < 440) (hu : A.units < 1400)
    (hS : DoSpec w p loose mean mg mb h₀ lam ST) (P : Pick ST (listOf sts.toArray n) news rest) (hz : sts.length ≤ 100)
    (h : ∀ d n' h' tk' ta tb, AllNe d news → Fr h₀ L h' m → News h₀ L h' ((d, pairObj a b ta tb) :: (ST, listOf (sts ++ [Value.ref d]).toArray n') :: rest) → Q .none { s with heap := h', toks := tk' }) :
    wpAny (model PG w) A (call (.ref lam) [.int a ta, .int b tb]) Q E s := by
  obtain ⟨p1, p2⟩ := P.spec
  obtain ⟨g, G, gm, gr, _, st, back⟩ := useS [(ST, listOf sts.toArray n)] rest B F Nw X Tp hA hf hke (by simpa using p1) (fun q hq => ⟨(p2 q hq).1, by simpa using (p2 q hq).2⟩)
  refine wpAny_call (hS g st A base (env :: outer) s _ sts n a b ta tb G hh hd hu gm hz fun d n' h' tk' ta tb sk h1 h2 h3 h4 => ?_)
  obtain ⟨F', N'⟩ := back h' [(d, pairObj a b ta tb), (ST, listOf (sts ++ [Value.ref d]).toArray n')] sk (fun q hq => by
    rcases List.mem_cons.mp hq with rfl | hq
    · exact ⟨h2, h3⟩
    · rw [List.mem_singleton.mp hq]; exact ⟨h1, (gm _ (.head _)).2⟩)
  refine h d n' h' tk' ta tb (allNe_of fun q hq e => ?_) F' N'
  by_cases hq2 : q.1 = ST
  · exact h4 (e.symm.trans hq2)
  · have hq3 : q ∈ rest := by
      have : ∀ {l r : List (Addr × Obj)}, Pick ST (listOf sts.toArray n) l r → ∀ q ∈ l, q.1 ≠ ST → q ∈ r := fun x => by
        induction x with
        | head h => intro q hq hn; rcases List.mem_cons.mp hq with rfl | hq; exact absurd rfl hn; exact hq
        | tail h _ ih => intro q hq hn; rcases List.mem_cons.mp hq with rfl | hq; exact .head _; exact .tail _ (ih q hq hn)
      exact this P q hq hq2
    have := gr q hq3
    rw [e, h3] at this; cases this
end
theorem allNe_mem {d : Addr} : ∀ {l : List (Addr × Obj)}, AllNe d l → ∀ p ∈ l, p.1 ≠ d
  | [], _, _, h => nomatch h
  | _ :: _, x, p, h => by
    rcases List.mem_cons.mp h with rfl | h
    · exact x.1
    · exact allNe_mem x.2 p h

set_option maxRecDepth 100000 in
set_option maxHeartbeats 4000000 in
theorem draw_ok {w : World} {p : Program} {loose : List Str} {mean : ExcName → Option Value} {mg mb : Str → Option Value} {A : Around} {base g : Heap} {outer : List Env} {s : Shared} {R : Result → Shared → Prop}
    {deck : Addr} {items : List Value} {ep : Nat} {ds : List Int} {k : Int} {tk : Tok}
    (G : Gnd (Mine.hd.heap_39 w.params) p loose mean mg mb A base outer g s.heap) (hh : A.handled = none) (hd : A.depth < 450) (hu : A.units < 1500)
    (M : ∀ q ∈ [(deck, listOf items.toArray ep)], s.heap.get? q.1 = some q.2 ∧ g.get? q.1 = none)
    (hi : IntsAre items ds) (hn : items.length ≤ 60) (hk : 0 < k) (hk2 : k < 1000)
    (hret : ∀ r t items' ep' ds' h' tk', g.StaysIn h' → h'.get? deck = some (listOf (List.toArray items') ep') → IntsAre items' ds' → items'.length ≤ 60 → 0 ≤ r → r < k → R (.ok (.ret (.int r t))) { s with heap := h', toks := tk' }) :
    codeAny (model PG w) A (.call (.ref 222) ⟨[.ref deck, .int k tk], []⟩) R s := by
  obtain ⟨B, X, T, st, hsz⟩ := G
  obtain ⟨hd0, dp, fr, gd, un⟩ := A
  have hfr : fr = some outer := B.stack
  subst hfr
  simp only at hh hd hu
  subst hh
  ((k_dflt (refine' enterS ?k1 ?k2 ?k3 ?k4 ?k5 ?k6 ?kl ?k7 ?k8 ?k9 ?kB ?_ ?c2 ?c3 ?c4 ?c5; (case k1 => assumption); (case k2 => assumption); (case k3 => assumption); (case k4 => assumption); (case k5 => assumption); (case k6 => k_is); (case kl => (refine ⟨⟨?_, ?_⟩, ?_⟩ <;> (conv => rhs; whnf) <;> exact rfl)); (case k7 => k_is); (case k8 => k_room); (case k9 => exact binds_zip (by kernel_rfl)); (case c5 => decide); (case kB => exact locs rfl); (case c2 => exact rfl); (case c3 => exact rfl); (case c4 => exact rfl); k_whole)))
  intro L' h₁ hL hL2 hst F' N'
  try dsimp only
  try k_fold
  cases hi with
  | nil =>
    k_steps
    rename Fr _ _ _ _ => F9
    rename News _ _ _ _ => N9
    exact hret _ _ _ _ _ _ _ F9.keep (N9.get (a := deck) (by k_mem)) .nil (by simp) (by omega) (by omega)
  | cons d t r =>
    simp only [List.length_cons] at hn
    k_steps
    · simp_all
    · rename Fr _ _ _ _ => F9
      rename News _ _ _ _ => N9
      exact hret _ _ _ _ _ _ _ F9.keep (N9.get (a := deck) (by k_mem)) r (by omega) (Int.fmod_nonneg_of_pos _ hk) (Int.fmod_lt_of_pos _ hk)
set_option maxHeartbeats 4000000 in
theorem major_ok {w : World} {p : Program} {loose : List Str} {mean : ExcName → Option Value} {mg mb : Str → Option Value} {A : Around} {base g : Heap} {outer : List Env} {s : Shared} {R : Result → Shared → Prop}
    {T MA MI O : Addr} {k : Int} {tk : Tok} {M : Addr} {f : Int → Option Value}
    (G : Gnd (Mine.hd.heap_39 w.params) p loose mean mg mb A base outer g s.heap) (hh : A.handled = none) (hd : A.depth < 450) (hu : A.units < 1500)
    (hT : TabAt9 w g T MA MI O) (hm : g.MapOf (intKind PG w) MA f) (lo : (MA == sysModules) = false) (hv : f k = some (.ref M))
    (hret : ∀ h' tk', g.StaysIn h' → R (.ok (.ret (.ref M))) { s with heap := h', toks := tk' }) :
    codeAny (model PG w) A (.call (.ref 111) ⟨[.ref T, .int k tk], []⟩) R s := by
  obtain ⟨B, X, Tp, st, hsz⟩ := G
  obtain ⟨hd0, dp, fr, gd, un⟩ := A
  have hfr : fr = some outer := B.stack
  subst hfr
  simp only at hh hd hu
  subst hh
  obtain ⟨dT, n, t0, t1, t2, hT1, hT2⟩ := hT
  have M0 : ∀ q ∈ ([] : List (Addr × Obj)), s.heap.get? q.1 = some q.2 ∧ g.get? q.1 = none := fun _ hq => nomatch hq
  ((k_dflt (refine' enterS ?k1 ?k2 ?k3 ?k4 ?k5 ?k6 ?kl ?k7 ?k8 ?k9 ?kB ?_ ?c2 ?c3 ?c4 ?c5; (case k1 => assumption); (case k2 => assumption); (case k3 => assumption); (case k4 => assumption); (case k5 => assumption); (case k6 => k_is); (case kl => (refine ⟨⟨?_, ?_⟩, ?_⟩ <;> (conv => rhs; whnf) <;> exact rfl)); (case k7 => k_is); (case k8 => k_room); (case k9 => exact binds_zip (by kernel_rfl)); (case c5 => decide); (case kB => exact locs rfl); (case c2 => exact rfl); (case c3 => exact rfl); (case c4 => exact rfl); k_whole)))
  intro L' h₁ hL hL2 hst F' N'
  try dsimp only
  try k_fold
  ((k_steps; all_goals (try (dsimp only; k_unfold; (try dsimp only); k_steps)); all_goals (try (dsimp only; k_unfold; (try dsimp only); k_steps))))
  rename Fr _ _ _ _ => F9
  exact hret _ _ F9.keep

theorem major_use {w : World} {p : Program} {loose : List Str} {mean : ExcName → Option Value} {mg mb : Str → Option Value} {A₀ A : Around} {base h₀ : Heap} {outer : List Env} {env : Env} {L : Addr} {m : Str → Option Value} {news : List (Addr × Obj)} {s : Shared} {Q E : Value → Shared → Prop}
    {T MA MI O : Addr} {k : Int} {tk : Tok} {M : Addr} {f : Int → Option Value}
    (B : Below A₀ base outer h₀) (F : Fr h₀ L s.heap m) (N : News h₀ L s.heap news) (X : (Mine.hd.heap_39 w.params).In h₀) (Tp : Top p loose mean mg mb h₀)
    (hA : A.frames = some (env :: outer)) (hf : env.frame = some L) (hke : env.scope.kind = .function) (hh : A.handled = none) (hd : A.depth < 450) (hu : A.units < 1500)
    (hT : TabAt9 w h₀ T MA MI O) (hm : h₀.MapOf (intKind PG w) MA f) (lo : (MA == sysModules) = false) (hv : f k = some (.ref M))
    (h : ∀ h' tk', Fr h₀ L h' m → News h₀ L h' news → Q (.ref M) { s with heap := h', toks := tk' }) :
    wpAny (model PG w) A (call (.ref 111) [.ref T, .int k tk]) Q E s := by
  obtain ⟨G, back⟩ := useP (A := A) B F N X Tp hA hf hke
  exact wpAny_call (major_ok G hh hd hu (hT.keeps F.keep) (mapOf_keeps F.keep hm) lo hv fun h' tk' st => h h' tk' (back h' st).1 (back h' st).2)

/-- a buffer's modes: the object stands, its dict is given apart -/
abbrev stD (w : World) (n : Nat) (t0 t1 u : Tok) (mj : Int) (ON : Addr) : Obj := dictOf [ent w "major" t0 (.int mj u), ent w "on" t1 (.ref ON)] n
set_option maxHeartbeats 4000000 in
theorem is_on_ok {w : World} {p : Program} {loose : List Str} {mean : ExcName → Option Value} {mg mb : Str → Option Value} {A : Around} {base g : Heap} {outer : List Env} {s : Shared} {R : Result → Shared → Prop}
    {S D ON : Addr} {mj k : Int} {n : Nat} {t0 t1 u tk : Tok} {ovs : List Value} {os : List Int}
    (G : Gnd (Mine.hd.heap_39 w.params) p loose mean mg mb A base outer g s.heap) (hh : A.handled = none) (hd : A.depth < 450) (hu : A.units < 1500)
    (hS : g.get? S = some (instObj 175 D)) (hD : g.get? D = some (stD w n t0 t1 u mj ON)) (hO : g.IsList ON ovs.toArray) (hoi : IntsAre ovs os)
    (hret : ∀ h' tk', g.StaysIn h' → R (.ok (.ret (.bool (os.any (· == k))))) { s with heap := h', toks := tk' }) :
    codeAny (model PG w) A (.call (.ref 172) ⟨[.ref S, .int k tk], []⟩) R s := by
  ((obtain ⟨B, X, Tp, st, hsz⟩ := G; obtain ⟨hd0, dp, fr, gd, un⟩ := A; have hfr : fr = some outer := B.stack; subst hfr; simp only at hh hd hu; subst hh))
  (((have M0 : ∀ q ∈ ([] : List (Addr × Obj)), s.heap.get? q.1 = some q.2 ∧ g.get? q.1 = none := fun _ hq => nomatch hq); ((k_dflt (refine' enterS0 ?k1 ?k2 ?k3 ?k4 ?k5 ?k6 ?kl ?k7 ?k8 ?k9 ?kB ?_ ?c2 ?c3 ?c4 ?c5; (case k1 => assumption); (case k2 => assumption); (case k3 => assumption); (case k4 => assumption); (case k5 => assumption); (case k6 => k_is); (case kl => (refine ⟨⟨?_, ?_⟩, ?_⟩ <;> (conv => rhs; whnf) <;> exact rfl)); (case k7 => k_is); (case k8 => k_room); (case k9 => exact binds_zip (by kernel_rfl)); (case c5 => decide); (case kB => exact locs rfl); (case c2 => exact rfl); (case c3 => exact rfl); (case c4 => exact rfl); k_whole))); intro L' h₁ hL hL2 hst F' N'; (try dsimp only); (try k_fold)))
  k_steps
  rename Fr _ _ _ _ => F9
  exact hret _ _ F9.keep
set_option maxHeartbeats 4000000 in
theorem minor_ok {w : World} {p : Program} {loose : List Str} {mean : ExcName → Option Value} {mg mb : Str → Option Value} {A : Around} {base g : Heap} {outer : List Env} {s : Shared} {R : Result → Shared → Prop}
    {T MA MI O : Addr} {k : Int} {tk : Tok} {M : Addr} {f : Int → Option Value}
    (G : Gnd (Mine.hd.heap_39 w.params) p loose mean mg mb A base outer g s.heap) (hh : A.handled = none) (hd : A.depth < 450) (hu : A.units < 1500)
    (hT : TabAt9 w g T MA MI O) (hm : g.MapOf (intKind PG w) MI f) (lo : (MI == sysModules) = false) (hv : f k = some (.ref M))
    (hret : ∀ h' tk', g.StaysIn h' → R (.ok (.ret (.ref M))) { s with heap := h', toks := tk' }) :
    codeAny (model PG w) A (.call (.ref 118) ⟨[.ref T, .int k tk], []⟩) R s := by
  ((obtain ⟨B, X, Tp, st, hsz⟩ := G; obtain ⟨hd0, dp, fr, gd, un⟩ := A; have hfr : fr = some outer := B.stack; subst hfr; simp only at hh hd hu; subst hh))
  obtain ⟨dT, nT, q0, q1, q2, hT1, hT2⟩ := hT
  (((have M0 : ∀ q ∈ ([] : List (Addr × Obj)), s.heap.get? q.1 = some q.2 ∧ g.get? q.1 = none := fun _ hq => nomatch hq); ((k_dflt (refine' enterS0 ?k1 ?k2 ?k3 ?k4 ?k5 ?k6 ?kl ?k7 ?k8 ?k9 ?kB ?_ ?c2 ?c3 ?c4 ?c5; (case k1 => assumption); (case k2 => assumption); (case k3 => assumption); (case k4 => assumption); (case k5 => assumption); (case k6 => k_is); (case kl => (refine ⟨⟨?_, ?_⟩, ?_⟩ <;> (conv => rhs; whnf) <;> exact rfl)); (case k7 => k_is); (case k8 => k_room); (case k9 => exact binds_zip (by kernel_rfl)); (case c5 => decide); (case kB => exact locs rfl); (case c2 => exact rfl); (case c3 => exact rfl); (case c4 => exact rfl); k_whole))); intro L' h₁ hL hL2 hst F' N'; (try dsimp only); (try k_fold)))
  ((k_steps; all_goals (try (dsimp only; k_unfold; (try dsimp only); k_steps)); all_goals (try (dsimp only; k_unfold; (try dsimp only); k_steps))))
  rename Fr _ _ _ _ => F9
  exact hret _ _ F9.keep

theorem is_on_use {w : World} {p : Program} {loose : List Str} {mean : ExcName → Option Value} {mg mb : Str → Option Value} {A₀ A : Around} {base h₀ : Heap} {outer : List Env} {env : Env} {L : Addr} {m : Str → Option Value} {news : List (Addr × Obj)} {s : Shared} {Q E : Value → Shared → Prop}
    {S D ON : Addr} {mj k : Int} {n : Nat} {t0 t1 u tk : Tok} {ovs : List Value} {os : List Int}
    (B : Below A₀ base outer h₀) (F : Fr h₀ L s.heap m) (Nw : News h₀ L s.heap news) (X : (Mine.hd.heap_39 w.params).In h₀) (Tp : Top p loose mean mg mb h₀)
    (hA : A.frames = some (env :: outer)) (hf : env.frame = some L) (hke : env.scope.kind = .function) (hh : A.handled = none) (hd : A.depth < 450) (hu : A.units < 1500)
    (hS : s.heap.get? S = some (instObj 175 D)) (hD : s.heap.get? D = some (stD w n t0 t1 u mj ON)) (hO : s.heap.IsList ON ovs.toArray) (hoi : IntsAre ovs os)
    (h : ∀ h' tk', Fr h₀ L h' m → News h₀ L h' news → Q (.bool (os.any (· == k))) { s with heap := h', toks := tk' }) :
    wpAny (model PG w) A (call (.ref 172) [.ref S, .int k tk]) Q E s := by
  obtain ⟨G, back⟩ := useP (A := A) B F Nw X Tp hA hf hke
  refine wpAny_call (is_on_ok G hh hd hu hS hD hO hoi fun h' tk' st => ?_)
  obtain ⟨F', N'⟩ := back h' st
  exact h h' tk' F' N'

theorem minor_use {w : World} {p : Program} {loose : List Str} {mean : ExcName → Option Value} {mg mb : Str → Option Value} {A₀ A : Around} {base h₀ : Heap} {outer : List Env} {env : Env} {L : Addr} {m : Str → Option Value} {news : List (Addr × Obj)} {s : Shared} {Q E : Value → Shared → Prop}
    {T MA MI O : Addr} {k : Int} {tk : Tok} {M : Addr} {f : Int → Option Value}
    (B : Below A₀ base outer h₀) (F : Fr h₀ L s.heap m) (Nw : News h₀ L s.heap news) (X : (Mine.hd.heap_39 w.params).In h₀) (Tp : Top p loose mean mg mb h₀)
    (hA : A.frames = some (env :: outer)) (hf : env.frame = some L) (hke : env.scope.kind = .function) (hh : A.handled = none) (hd : A.depth < 450) (hu : A.units < 1500)
    (hT : TabAt9 w h₀ T MA MI O) (hm : h₀.MapOf (intKind PG w) MI f) (lo : (MI == sysModules) = false) (hv : f k = some (.ref M))
    (h : ∀ h' tk', Fr h₀ L h' m → News h₀ L h' news → Q (.ref M) { s with heap := h', toks := tk' }) :
    wpAny (model PG w) A (call (.ref 118) [.ref T, .int k tk]) Q E s := by
  obtain ⟨G, back⟩ := useP (A := A) B F Nw X Tp hA hf hke
  refine wpAny_call (minor_ok G hh hd hu (hT.keeps F.keep) (mapOf_keeps F.keep hm) lo hv fun h' tk' st => ?_)
  obtain ⟨F', N'⟩ := back h' st
  exact h h' tk' F' N'

theorem steps_at1 {line : List Int} {k : Int} {i : Nat} {a b : Int} (h : (stepsOf line k)[i]? = some (a, b)) : a = 1 ↔ i = 1 := by
  have e : stepsOf line k = (0, k) :: (1, k) :: (line.map (fun y => ((2 : Int), y)) ++ line.map (fun y => ((3 : Int), y)) ++ [(4, k)]) := by simp [stepsOf]
  rw [e] at h
  match i, h with
  | 0, h => simp at h; omega
  | 1, h => simp at h; omega
  | j + 2, h =>
    have hm := List.mem_of_getElem? (l := line.map (fun y => ((2 : Int), y)) ++ line.map (fun y => ((3 : Int), y)) ++ [(4, k)]) (i := j) (a := (a, b)) (by simpa using h)
    constructor
    · intro ha
      subst ha
      simp at hm
    · intro hi; omega
def bodyOf (m : Int) (ps : List (Int × Int)) : Int := ps.foldl (fun m p => if p.1 = 2 then p.2 else m) m
theorem bodyOf_take {m : Int} {ps : List (Int × Int)} {i : Nat} {a b : Int} (h : ps[i]? = some (a, b)) : bodyOf m (ps.take (i + 1)) = if a = 2 then b else bodyOf m (ps.take i) := by
  rw [List.take_add_one, h]; simp [bodyOf, List.foldl_append]
theorem bodyOf_line (m : Int) : ∀ (l : List Int), bodyOf m (l.map fun y => ((2 : Int), y)) = l.getLast?.getD m
  | [] => rfl
  | [x] => rfl
  | x :: y :: r => by
    have := bodyOf_line x (y :: r)
    simp only [bodyOf, List.map_cons, List.foldl_cons, if_true] at this ⊢
    rw [this]
    simp [List.getLast?_cons_cons]
    rw [List.getLast?_eq_some_getLast (by simp)]
    rfl
theorem bodyOf_three (m : Int) : ∀ (l : List Int), bodyOf m (l.map fun y => ((3 : Int), y)) = m
  | [] => rfl
  | x :: r => by
    have := bodyOf_three m r
    simp only [bodyOf, List.map_cons, List.foldl_cons] at this ⊢
    exact this
theorem bodyOf_append (m : Int) (l l' : List (Int × Int)) : bodyOf m (l ++ l') = bodyOf (bodyOf m l) l' := by simp [bodyOf, List.foldl_append]
theorem bodyOf_steps {pa : Int → Int} (hp : Par pa) (m k : Int) (h0 : 0 ≤ k) : bodyOf m (stepsOf (up pa k).reverse k) = k := by
  unfold stepsOf
  rw [bodyOf_append, bodyOf_append, bodyOf_append, bodyOf_three, bodyOf_line, up_pos hp h0]
  simp [bodyOf]
theorem canonEq {m m₀ : Str → Option Value} {stored : List Str} (hm : ∀ y, stored.contains y = false → m y = m₀ y) : m = fun y => if stored.contains y = true then m y else m₀ y := by
  funext y
  cases hc : stored.contains y with
  | true => simp
  | false => simp only [Bool.false_eq_true, if_false]; exact hm y hc
section
variable {w : World} {A : Around} {s : Shared} {env : Env} {h₀ : Heap} {Q : Flow → Shared → Prop} {L D ST ON : Addr} {m₀ : Str → Option Value} {news kept : List (Addr × Obj)} {ps : List (Int × Int)} {sts : List Value} {os : List Int} {kp : Int → Bool} {mj0 : Int}
/-- the word of a switch's loop -/
inductive JS (w : World) (stored : List Str) (m₀ : Str → Option Value) (D ST ON : Addr) (kept : List (Addr × Obj)) (ps : List (Int × Int)) (sts : List Value) (os : List Int) (kp : Int → Bool) (mj0 : Int) (i : Nat) (m : Str → Option Value) (nx : List (Addr × Obj)) : Prop
  | mk : ∀ n' t0 t1 u' ON' new n3 tail, ((∀ y, stored.contains y = false → m y = m₀ y)) → (nx = (D, stD w n' t0 t1 u' (bodyOf mj0 (ps.take i)) ON') :: (ST, listOf (sts ++ new).toArray n3) :: (kept ++ tail)) → ((∀ q ∈ tail, q.1 ≠ D)) → ((∀ q ∈ tail, q.1 ≠ ST)) → (Pairs (fun d o => (d, o) ∈ tail) new (ps.take i)) → ((i ≤ 1 → ON' = ON)) → ((2 ≤ i → ∃ ovs' n2, (ON', listOf (List.toArray ovs') n2) ∈ tail ∧ IntsAre ovs' (os.filter kp))) → JS w stored m₀ D ST ON kept ps sts os kp mj0 i m nx
theorem stepEnd {stored : List Str} {i : Nat} {a b : Int} {ta tb : Tok} {n' n3' : Nat} {t0 t1 u' : Tok} {mj' : Int} {ON' ON'' d I : Addr} {oI : Obj} {new : List Value} {tail all : List (Addr × Obj)} {h' : Heap} {m' : Str → Option Value} {tk : Nat} {line : List Int} {k : Int}
    (hps : (stepsOf line k)[i]? = some (a, b)) (hP : Pairs (fun d o => (d, o) ∈ tail) new ((stepsOf line k).take i)) (h1 : i ≤ 1 → ON' = ON) (h2 : 2 ≤ i → ∃ ovs' n2, (ON', listOf (List.toArray ovs') n2) ∈ tail ∧ IntsAre ovs' (os.filter kp))
    (hT1 : ∀ q ∈ tail, q.1 ≠ D) (hT2 : ∀ q ∈ tail, q.1 ≠ ST)
    (F : Fr h₀ L h' m') (N : News h₀ L h' all) (hm : ∀ y, stored.contains y = false → m' y = m₀ y)
    (hD : (D, stD w n' t0 t1 u' mj' ON'') ∈ all) (hmj : mj' = if a = 2 then b else bodyOf mj0 ((stepsOf line k).take i)) (hST : (ST, listOf ((sts ++ new) ++ [Value.ref d]).toArray n3') ∈ all) (hd : (d, pairObj a b ta tb) ∈ all) (hI : (I, oI) ∈ all)
    (hk : ∀ q ∈ kept, q ∈ all) (ht : ∀ q ∈ tail, q ∈ all) (d1 : d ≠ D) (d2 : d ≠ ST) (d3 : d ≠ I) (e1 : ∀ q ∈ kept, q.1 ≠ I) (e2 : ∀ q ∈ tail, q.1 ≠ I) (e3 : D ≠ I) (e4 : ST ≠ I)
    (hkill : (a = 1 ∧ ∃ ovs' n2, (ON'', listOf (List.toArray ovs') n2) ∈ all ∧ IntsAre ovs' (os.filter kp) ∧ ON'' ≠ D ∧ ON'' ≠ ST ∧ ON'' ≠ I) ∨ (a ≠ 1 ∧ ON'' = ON')) :
    TurnEnd (LoopK h₀ L I (JS w stored m₀ D ST ON kept (stepsOf line k) sts os kp mj0)) (fun _ h => h.get? I = some oI) (i + 1) s Q .next { s with heap := h', toks := tk } := by
  have hps1 := steps_at1 hps
  have tk : ∀ (tail' : List (Addr × Obj)), (∀ q ∈ tail', q ∈ all) → (∀ q ∈ tail', q.1 ≠ D) → (∀ q ∈ tail', q.1 ≠ ST) → (∀ q ∈ tail', q.1 ≠ I) → (∀ q ∈ tail, q ∈ tail') → (d, pairObj a b ta tb) ∈ tail' →
      (i + 1 ≤ 1 → ON'' = ON) → (2 ≤ i + 1 → ∃ ovs' n2, (ON'', listOf (List.toArray ovs') n2) ∈ tail' ∧ IntsAre ovs' (os.filter kp)) →
      TurnEnd (LoopK h₀ L I (JS w stored m₀ D ST ON kept (stepsOf line k) sts os kp mj0)) (fun _ h => h.get? I = some oI) (i + 1) s Q .next { s with heap := h', toks := tk } := by
    intro tail' hA hB hC hE hF hG hH hJ
    refine turnEnd (nx := (D, stD w n' t0 t1 u' mj' ON'') :: (ST, listOf (sts ++ (new ++ [Value.ref d])).toArray n3') :: (kept ++ tail')) F N ⟨n', t0, t1, u', ON'', new ++ [Value.ref d], n3', tail', hm, ?_, hB, hC, ?_, hH, hJ⟩ (fun q hq => ?_) (fun q hq => ?_) hI
    · rw [bodyOf_take hps, hmj]
    · rw [List.take_add_one, hps]
      exact (hP.mono fun d o h => hF _ h).append (.cons hG .nil)
    · rcases List.mem_cons.mp hq with rfl | hq
      · exact hD
      rcases List.mem_cons.mp hq with rfl | hq
      · rw [← List.append_assoc]; exact hST
      rcases List.mem_append.mp hq with hq | hq
      · exact hk q hq
      · exact hA q hq
    · rcases List.mem_cons.mp hq with rfl | hq
      · exact e3
      rcases List.mem_cons.mp hq with rfl | hq
      · exact e4
      rcases List.mem_append.mp hq with hq | hq
      · exact e1 q hq
      · exact hE q hq
  rcases hkill with ⟨ha, ovs', n2, hO, hOi, o1, o2, o3⟩ | ⟨ha, rfl⟩
  · refine tk ((d, pairObj a b ta tb) :: (ON'', listOf (List.toArray ovs') n2) :: tail) (fun q hq => ?_) (fun q hq => ?_) (fun q hq => ?_) (fun q hq => ?_) (fun q hq => .tail _ (.tail _ hq)) (.head _) (fun h => ?_) (fun _ => ⟨ovs', n2, .tail _ (.head _), hOi⟩)
    · rcases List.mem_cons.mp hq with rfl | hq
      · exact hd
      rcases List.mem_cons.mp hq with rfl | hq
      · exact hO
      · exact ht q hq
    · rcases List.mem_cons.mp hq with rfl | hq
      · exact d1
      rcases List.mem_cons.mp hq with rfl | hq
      · exact o1
      · exact hT1 q hq
    · rcases List.mem_cons.mp hq with rfl | hq
      · exact d2
      rcases List.mem_cons.mp hq with rfl | hq
      · exact o2
      · exact hT2 q hq
    · rcases List.mem_cons.mp hq with rfl | hq
      · exact d3
      rcases List.mem_cons.mp hq with rfl | hq
      · exact o3
      · exact e2 q hq
    · have := hps1.mp ha; omega
  · refine tk ((d, pairObj a b ta tb) :: tail) (fun q hq => ?_) (fun q hq => ?_) (fun q hq => ?_) (fun q hq => ?_) (fun q hq => .tail _ hq) (.head _) (fun h => h1 (by omega)) (fun h => ?_)
    · rcases List.mem_cons.mp hq with rfl | hq
      · exact hd
      · exact ht q hq
    · rcases List.mem_cons.mp hq with rfl | hq
      · exact d1
      · exact hT1 q hq
    · rcases List.mem_cons.mp hq with rfl | hq
      · exact d2
      · exact hT2 q hq
    · rcases List.mem_cons.mp hq with rfl | hq
      · exact d3
      · exact e2 q hq
    · have : i ≠ 1 := fun e => ha (hps1.mpr e)
      obtain ⟨ovs', n2, x, y⟩ := h2 (by omega)
      exact ⟨ovs', n2, .tail _ x, y⟩
end
section
variable {w : World} {A : Around} {s : Shared} {env : Env} {h₀ : Heap} {Q : Flow → Shared → Prop} {L D ST ON : Addr} {m₀ : Str → Option Value} {news kept : List (Addr × Obj)} {sts : List Value} {os : List Int} {kp : Int → Bool} {mj0 : Int}
theorem forSteps {xi xc : Str} {pk pv pt : Pos} {x1} {body : List Stmt} {l : Addr} {items : List Value} {nl n n3 : Nat} {t0 t1 u : Tok} {tups : List (Addr × Obj)} {pa : Int → Int} {k : Int} (stored : List Str) (kp : Int → Bool) (os : List Int) (hp : Par pa) (h0 : 0 ≤ k) (hh : A.handled = none)
    (hLe : env.locals = L) (hxi : env.kindOf xi = some .local) (hxc : env.kindOf xc = some .local) (hplace : (env.scope.kind == .class || (env.scope.kind == .module && env.locals != env.globals)) = false)
    (F : Fr h₀ L s.heap m₀) (N : News h₀ L s.heap news) (P : Picks [(D, stD w n t0 t1 u mj0 ON), (ST, listOf sts.toArray n3)] news kept) (hl : (l, listOf items.toArray nl) ∈ kept)
    (hP : Pairs (fun d o => (d, o) ∈ tups) items (stepsOf (up pa k).reverse k)) (hT : ∀ q ∈ tups, q ∈ kept)
    (turn : ∀ i a b ta tb (m₁ : Str → Option Value) h tk I oI n' t0 t1 u' ON' new n3 tail, (stepsOf (up pa k).reverse k)[i]? = some (a, b) → (i ≤ 1 → ON' = ON) → (2 ≤ i → ∃ ovs' n2, (ON', listOf (List.toArray ovs') n2) ∈ tail ∧ IntsAre ovs' (os.filter kp)) →
      (∀ q ∈ tail, q.1 ≠ D) → (∀ q ∈ tail, q.1 ≠ ST) → Pairs (fun d o => (d, o) ∈ tail) new ((stepsOf (up pa k).reverse k).take i) → (∀ q ∈ kept, q.1 ≠ I) → (∀ q ∈ tail, q.1 ≠ I) → @Ne Nat D I → @Ne Nat ST I →
      Fr h₀ L h (fun y => if y = xc then some (.int b tb) else if y = xi then some (.int a ta) else if stored.contains y = true then m₁ y else m₀ y) →
      News h₀ L h ((I, oI) :: (D, stD w n' t0 t1 u' (bodyOf mj0 ((stepsOf (up pa k).reverse k).take i)) ON') :: (ST, listOf (sts ++ new).toArray n3) :: (kept ++ tail)) →
      wpAny (model PG w) A (execs body env) (TurnEnd (LoopK h₀ L I (JS w stored m₀ D ST ON kept (stepsOf (up pa k).reverse k) sts os kp mj0)) (fun _ h => h.get? I = some oI) (i + 1) s Q) (fun _ _ => False) { s with heap := h, toks := tk })
    (done : ∀ (m₁ : Str → Option Value) h tk n' t0 t1 u' ON' new n3 tail ovs' n2, Pairs (fun d o => (d, o) ∈ tail) new (stepsOf (up pa k).reverse k) → (ON', listOf (List.toArray ovs') n2) ∈ tail → IntsAre ovs' (os.filter kp) →
      (∀ q ∈ tail, q.1 ≠ D) → (∀ q ∈ tail, q.1 ≠ ST) →
      Fr h₀ L h (fun y => if stored.contains y = true then m₁ y else m₀ y) → News h₀ L h ((D, stD w n' t0 t1 u' k ON') :: (ST, listOf (sts ++ new).toArray n3) :: (kept ++ tail)) → Q .next { s with heap := h, toks := tk }) :
    wpAny (model PG w) A (pyIter (.ref l)) (fun it s₂ => ForAt PG w A env (.Tuple [.Name xi pk, .Name xc pv] x1 pt) body Q it s₂) (fun _ _ => False) s := by
  obtain ⟨p1, p2⟩ := P.spec
  refine forPairs (JS w stored m₀ D ST ON kept (stepsOf (up pa k).reverse k) sts os kp mj0) hh hLe hxi hxc hplace F
    (news := (D, stD w n t0 t1 u mj0 ON) :: (ST, listOf sts.toArray n3) :: (kept ++ [])) (fun q hq => ?_) (N.isList (p2 _ hl).1)
    ⟨n, t0, t1, u, ON, [], n3, [], fun _ _ => rfl, by rw [List.append_nil, List.append_nil]; rfl, fun _ h => (nomatch h), fun _ h => (nomatch h), .nil, fun _ => rfl, fun h => absurd h (by omega)⟩ hP.length ?_ ?_ ?_
  · rcases List.mem_cons.mp hq with rfl | hq
    · exact N _ (p1 _ (.head _))
    rcases List.mem_cons.mp hq with rfl | hq
    · exact N _ (p1 _ (.tail _ (.head _)))
    · rw [List.append_nil] at hq; exact N _ (p2 q hq).1
  · rintro i m nx h ⟨n', t0, t1, u', ON', new, n3, tail, hm, rfl, hT1, hT2, hN, h1, h2⟩ F1 N1
    exact ⟨N1.isList (.tail _ (.tail _ (List.mem_append_left _ hl))), hP.mono fun d o hd => N1.get (.tail _ (.tail _ (List.mem_append_left _ (hT _ hd))))⟩
  · rintro i a b ta tb m nx h tk I oI hps ⟨n', t0, t1, u', ON', new, n3, tail, hm, rfl, hT1, hT2, hN, h1, h2⟩ F1 N1 hne
    refine turn i a b ta tb m h tk I oI n' t0 t1 u' ON' new n3 tail hps h1 h2 hT1 hT2 hN (fun q hq => hne q (.tail _ (.tail _ (List.mem_append_left _ hq)))) (fun q hq => hne q (.tail _ (.tail _ (List.mem_append_right _ hq)))) (hne _ (.head _)) (hne _ (.tail _ (.head _))) ?_ N1
    have e := canonEq hm
    rw [e] at F1
    exact F1
  · rintro m nx h tk ⟨n', t0, t1, u', ON', new, n3, tail, hm, rfl, hT1, hT2, hN, h1, h2⟩ F1 N1
    have hlen : 2 ≤ (stepsOf (up pa k).reverse k).length := by simp [stepsOf]
    rw [List.take_length] at hN
    rw [List.take_length, bodyOf_steps hp _ _ h0] at N1
    obtain ⟨ovs', n2, x, y⟩ := h2 hlen
    exact done m h tk n' t0 t1 u' ON' new n3 tail ovs' n2 hN x y hT1 hT2 (frCanon F1 hm) N1
end
theorem inst_l {h₀ h : Heap} {L x C dx : Addr} {od : Obj} {m : Str → Option Value} {news : List (Addr × Obj)} {sl : Array (Option Value)} (F : Fr h₀ L h m) (N : News h₀ L h news) (h1 : h₀.get? x = some ⟨.ref C, some dx, .plain, sl⟩) (h2 : (dx, od) ∈ news) :
    InstAt h x ⟨.ref C, some dx, .plain, sl⟩ C (some od) := ⟨F.keep _ _ h1, rfl, rfl, N.get h2⟩
theorem put_major {w : World} {hv : Int} {kv x y v : Value} {t0 t1 : Tok} {n : Nat} : (putL (Str.ofString "major") hv kv v [ent w (Str.ofString "major") t0 x, ent w (Str.ofString "on") t1 y], putN (Str.ofString "major") [ent w (Str.ofString "major") t0 x, ent w (Str.ofString "on") t1 y] n) =
    ([ent w (Str.ofString "major") t0 v, ent w (Str.ofString "on") t1 y], n) := rfl
theorem put_on {w : World} {hv : Int} {kv x y v : Value} {t0 t1 : Tok} {n : Nat} : (putL (Str.ofString "on") hv kv v [ent w (Str.ofString "major") t0 x, ent w (Str.ofString "on") t1 y], putN (Str.ofString "on") [ent w (Str.ofString "major") t0 x, ent w (Str.ofString "on") t1 y] n) =
    ([ent w (Str.ofString "major") t0 x, ent w (Str.ofString "on") t1 v], n) := rfl
theorem FnAt.keeps' {q : Addr} {g h : Heap} (hk : ∀ b o, g.get? b = some o → h.get? b = some o) (x : FnAt q g) : FnAt q h := let ⟨a, b, c, d, e⟩ := x; ⟨a, b, c, d, hk _ _ e⟩
theorem Pairs.led' {P : Addr → Obj → Prop} {vs : List Value} {ps : List (Int × Int)} (x : Pairs P vs ps) : ∃ tups : List (Addr × Obj), Pairs (fun d o => (d, o) ∈ tups) vs ps ∧ (∀ q ∈ tups, P q.1 q.2) ∧ ∀ q ∈ tups, q.2.cls = .type "tuple" := by
  induction x with
  | nil => exact ⟨[], .nil, fun _ h => (nomatch h), fun _ h => (nomatch h)⟩
  | @cons d a b t u vs ps h _ ih =>
    obtain ⟨tups, x1, x2, x3⟩ := ih
    refine ⟨(d, pairObj a b t u) :: tups, .cons (.head _) (x1.mono fun d o h => .tail _ h), fun q hq => ?_, fun q hq => ?_⟩
    · rcases List.mem_cons.mp hq with rfl | hq
      · exact h
      · exact x2 q hq
    · rcases List.mem_cons.mp hq with rfl | hq
      · rfl
      · exact x3 q hq
theorem get_ne {h : Heap} {a b : Addr} {o o' : Obj} (h1 : h.get? a = some o) (h2 : h.get? b = some o') (hc : o.cls ≠ o'.cls) : a ≠ b := fun e => by
  subst e; rw [h1] at h2; cases h2; exact hc rfl
theorem Pick.one {d : Addr} {o : Obj} {l r : List (Addr × Obj)} (x : Pick d o l r) : ∀ q ∈ l, q = (d, o) ∨ q ∈ r := by
  induction x with
  | head h => intro q hq; rcases List.mem_cons.mp hq with rfl | hq; exact .inl rfl; exact .inr hq
  | tail h _ ih => intro q hq; rcases List.mem_cons.mp hq with rfl | hq; exact .inr (.head _); rcases ih q hq with e | e; exact .inl e; exact .inr (.tail _ e)
theorem Picks.one {ms l r : List (Addr × Obj)} (x : Picks ms l r) : ∀ q ∈ l, q ∈ ms ∨ q ∈ r := by
  induction x with
  | nil => exact fun q hq => .inr hq
  | cons p _ ih =>
    intro q hq
    rcases p.one q hq with rfl | h
    · exact .inl (.head _)
    · rcases ih q h with h | h
      · exact .inl (.tail _ h)
      · exact .inr h
section
variable {prog : Program} {w : World} {A : Around} {E : Value → Shared → Prop} {s : Shared} {env : Env}
/-- a try whose body raises nothing -/
theorem try0 {body orelse : List Stmt} {h₀ : ExceptHandler} {hs : List ExceptHandler} {pos : Pos} {Q : Flow → Shared → Prop}
    (h : wpAny (model prog w) A (execs body env) (fun f s₁ => match f with | .next => wpAny (model prog w) A (execs orelse env) Q E s₁ | f => Q f s₁) (fun _ _ => False) s) :
    wpAny (model prog w) A (exec (.Try body (h₀ :: hs) orelse [] pos) env) Q E s :=
  wpAny_Try_except (wpAny_mono h (fun _ _ x => x) fun _ _ x => x.elim)
end
section
variable {M : Model} {A : Around} {E : Value → Shared → Prop} {s : Shared} {h₀ : Heap} {L a : Addr} {m : Str → Option Value} {cn : Str} {cs : Scope} {ccd : Value} {cl : List (Str × Addr)} {x : Str} {pos : Pos} {v : Value} {Q : Value → Shared → Prop} {c : Addr} {o : Obj}
theorem nameX_G (F : Fr h₀ L s.heap m) (hc : cl.lookup x = some c) (hm : h₀.get? c = some o) (hd : o.data = .cell (some v)) (h : Q v s)
    (hk : cs.kind = .function := by rfl) (hx : (envX cn cs L a ccd cl).kindOf x = some .free := by rfl) (hb : (x == ("__debug__" : Str)) = false := by decide) (hn : (x == ("__classdict__" : Str)) = false := by decide) :
    wpAny M A (eval (.Name x pos) (envX cn cs L a ccd cl)) Q E s := wpAny_Name (wpAny_loadName_free hk hx hc ⟨o, F.keep _ _ hm, hd⟩ h hn) hb
end
section
variable {prog : Program} {w : World} {A : Around} {s : Shared} {base g : Heap} {outer : List Env} {muts : List (Addr × Obj)} {p : Program} {loose : List Str} {mean : ExcName → Option Value} {mg mb : Str → Option Value}
  {R : Result → Shared → Prop} {name qual : Str} {params : Arguments} {body : Expr} {scope : Scope} {cl : List (Str × Addr)} {pm ctv : Value} {f c' : Addr} {args : Args} {binds : List (Str × Value)}
theorem lamEnter (st : g.StaysIn s.heap) (hsz : g.objs.size ≤ s.heap.objs.size) (T : Top p loose mean mg mb g)
    (M : ∀ q ∈ muts, s.heap.get? q.1 = some q.2 ∧ g.get? q.1 = none)
    (ho : g.get? f = some (kla_obj name qual params body scope cl pm c' ctv)) (hcd : g.CodeRec (.ref c') qual) (hroom : A.depth < recursionLimit)
    (hbind : bindArgs (kla_fn name qual params body scope cl pm (.ref c') ctv) args = pure binds) (hloc : ∀ y ∈ binds, scope.names.lookup y.1 = some .local)
    (h : ∀ L' h₁, s.heap.objs.size ≤ L' → s.heap.StaysIn h₁ → Fr g L' h₁ (fun y => binds.reverse.lookup y) → News g L' h₁ muts →
      wpAny (model prog w) (A.deeper (envX qual scope L' f (.ref c') cl)) (eval body (envX qual scope L' f (.ref c') cl)) (fun v s' => R (.ok (.ret v)) s') (fun _ _ => False) { s with heap := h₁, toks := s.toks + binds.length })
    (hco : scope.isCoroutine = false) (hgen : scope.isGenerator = false) (hk : scope.kind = .function)
    (hcell : ∀ x ∈ scope.names, x.2 ≠ .cell) : codeAny (model prog w) A (.call (.ref f) args) R s := by
  refine kla_callFunE hroom (st _ _ ho) rfl hco hgen rfl (let ⟨c, oc, vs, t, e, x, y⟩ := hcd; ⟨c, oc, vs, t, e, st _ _ x, y⟩) ?_
  rw [hbind]
  refine wpAny_pure (wpAny_newFunctionEnv hcell hloc (fun h₁ hns hsb => ⟨((T.nolimit).keeps st).fresh _ hsb, ?_⟩) hk)
  show codeAny _ _ (.expr body (envX qual scope s.heap.objs.size f (.ref c') cl)) _ _
  have hk₁ : ∀ b o, s.heap.get? b = some o → h₁.get? b = some o := fun b o e => hsb.extBut b o (Nat.ne_of_lt (Heap.lt_size e)) (Heap.get?_push_of_some _ e)
  exact kla_codeExpr (wpAny_mono (h s.heap.objs.size h₁ (Nat.le_refl _) hk₁ ⟨hns, fun b o e => hk₁ b o (st b o e), hsz⟩
    (fun q hq => ⟨hk₁ _ _ (M q hq).1, Nat.ne_of_lt (Heap.lt_size (M q hq).1), (M q hq).2⟩)) (fun v s' hl => hl) fun _ _ y => y.elim)
end
def qualSw : Str := Str.ofString "_law_switched" ++ Str.ofString ".<locals>." ++ Str.ofString "<lambda>"
def qualTu : Str := Str.ofString "_law_turned" ++ Str.ofString ".<locals>." ++ Str.ofString "<lambda>"
def rec9 (qual : Str) (oc : Obj) : Prop := ∃ vs t, oc.data = .fields vs ∧ vs[1]? = some (.str qual t)
/-- a lambda's code table: empty yet, or filled -/
def TbAt (P : Addr → Obj → Prop) (ln col : Int) (qual : Str) (tb : Array Value) : Prop :=
  tb = #[] ∨ ∃ c' oc, tb = #[rawInt ln, rawInt col, .ref c'] ∧ P c' oc ∧ rec9 qual oc
theorem TbAt.mono {P P' : Addr → Obj → Prop} (f : ∀ d o, P d o → P' d o) {ln col : Int} {qual : Str} {tb : Array Value} (x : TbAt P ln col qual tb) : TbAt P' ln col qual tb :=
  x.imp id fun ⟨c', oc, a, b, c⟩ => ⟨c', oc, a, f _ _ b, c⟩
section
open PySem.SeqAt PyProof.V PySem.Spec PySem.W
def pdat (p : Int × Int) : PyData := .tuple [.int p.1, .int p.2]
theorem readsAll_pairs {h : Heap} {vs : List Value} {ps : List (Int × Int)} (x : Pairs (fun d o => h.get? d = some o) vs ps) : ReadsAll h vs (ps.map pdat) [] := by
  induction x with
  | nil => exact .nil
  | @cons d a b t u vs ps hd _ ih =>
    have h1 : Reads h (.ref d) (pdat (a, b)) [] := by
      have := ReadsAll.cons (Reads.int (h := h) a t) (ReadsAll.cons (Reads.int (h := h) b u) (ReadsAll.nil (h := h)))
      exact Reads.tuple hd rfl rfl (by simpa using this)
    have := ReadsAll.cons h1 ih
    simpa using this
theorem reads_pairs {h : Heap} {a : Addr} {vs : List Value} {ps : List (Int × Int)} (hl : h.IsList a vs.toArray) (hi : Pairs (fun d o => h.get? d = some o) vs ps) : Reads h (.ref a) (.list (ps.map pdat)) [a] := by
  obtain ⟨o, ho, hc, n, hd⟩ := hl
  exact Reads.list ho hc hd (by simpa using readsAll_pairs hi)
theorem canLayAll0_pairs : ∀ ns : List (Int × Int), PyData.canLayAll0 (ns.map pdat) = true
  | [] => by simp [PyData.canLayAll0]
  | n :: r => by simp [PyData.canLayAll0, PyData.canLay0, pdat, canLayAll0_pairs r]
theorem depthAll_pairs : ∀ ns : List (Int × Int), PyData.depthAll (ns.map pdat) ≤ 4
  | [] => by simp [PyData.depthAll]
  | n :: r => by
    have := depthAll_pairs r
    simp only [List.map_cons, PyData.depthAll, PyData.depth, pdat]
    omega
theorem shaped_pairs (ns : List (Int × Int)) : shaped (.list (ns.map pdat)) = true := by
  have h1 := depthAll_pairs ns
  have h2 : PyData.depth (.list (ns.map pdat)) ≤ 64 := by simp only [PyData.depth]; omega
  show (PyData.canLay0 (.list (ns.map pdat)) && decide (PyData.depth (.list (ns.map pdat)) ≤ 64)) = true
  rw [Bool.and_eq_true]
  exact ⟨by simp only [PyData.canLay0]; exact canLayAll0_pairs ns, decide_eq_true h2⟩
theorem noMix_pairs : ∀ ns ms : List (Int × Int), noMixAll (ns.map pdat) (ms.map pdat) = true
  | [], [] => by simp [noMixAll]
  | [], _ :: _ => by simp [noMixAll]
  | _ :: _, [] => by simp [noMixAll]
  | _ :: r, _ :: q => by simp [noMixAll, noMix, pdat, noMix_pairs r q]
theorem same_pairs : ∀ ns ms : List (Int × Int), PySem.Spec.sameAll (ns.map pdat) (ms.map pdat) = decide (ns = ms)
  | [], [] => by simp [PySem.Spec.sameAll]
  | [], _ :: _ => by simp [PySem.Spec.sameAll]
  | _ :: _, [] => by simp [PySem.Spec.sameAll]
  | (n1, n2) :: r, (k1, k2) :: q => by
    simp only [List.map_cons, PySem.Spec.sameAll, PySem.Spec.same, pdat, same_pairs r q]
    by_cases h : n1 = k1 <;> by_cases h2 : n2 = k2 <;> simp [h, h2]
variable {prog : Program} {w : World} {A : Around} {E : Value → Shared → Prop} {s : Shared}
theorem eq_pairs {a b : Addr} {vs us : List Value} {ns ms : List (Int × Int)} {Q : Value → Shared → Prop} (hl : s.heap.IsList a vs.toArray) (hi : Pairs (fun d o => s.heap.get? d = some o) vs ns) (hl' : s.heap.IsList b us.toArray) (hi' : Pairs (fun d o => s.heap.get? d = some o) us ms) (hu : A.units + 64 < cLine)
    (h : Q (.bool (decide (ns = ms))) s) : wpAny (model prog w) A (compareOp .Eq (.ref a) (.ref b)) Q E s :=
  eq_dataH_same (reads_pairs hl hi) (reads_pairs hl' hi') (shaped_pairs ns) (shaped_pairs ms) hu (by simp only [noMix]; exact noMix_pairs ns ms) (by simp only [PySem.Spec.same]; rw [same_pairs]; exact h)
theorem ne_pairs {a b : Addr} {vs us : List Value} {ns ms : List (Int × Int)} {Q : Value → Shared → Prop} (hl : s.heap.IsList a vs.toArray) (hi : Pairs (fun d o => s.heap.get? d = some o) vs ns) (hl' : s.heap.IsList b us.toArray) (hi' : Pairs (fun d o => s.heap.get? d = some o) us ms) (hu : A.units + 64 < cLine)
    (h : Q (.bool (!decide (ns = ms))) s) : wpAny (model prog w) A (compareOp .NotEq (.ref a) (.ref b)) Q E s :=
  ne_dataH_same (reads_pairs hl hi) (reads_pairs hl' hi') (shaped_pairs ns) (shaped_pairs ms) hu (by simp only [noMix]; exact noMix_pairs ns ms) (by simp only [PySem.Spec.same]; rw [same_pairs]; exact h)
/-- a tuple of two bools -/
theorem ne_bools {a b : Addr} {o o' : Obj} {x y x' y' : Bool} {n n' : Nat} {Q : Value → Shared → Prop} (ha : s.heap.get? a = some o) (hc : o.cls = .type "tuple") (hd : o.data = .seq #[.bool x, .bool y] n) (hb : s.heap.get? b = some o') (hc' : o'.cls = .type "tuple") (hd' : o'.data = .seq #[.bool x', .bool y'] n')
    (hu : A.units + 64 < cLine) (h : Q (.bool (!decide (x = x' ∧ y = y'))) s) : wpAny (model prog w) A (compareOp .NotEq (.ref a) (.ref b)) Q E s := by
  have r1 : Reads s.heap (.ref a) (.tuple [.bool x, .bool y]) [] := Reads.tuple ha hc hd (by simpa using ReadsAll.cons (Reads.bool (h := s.heap) x) (ReadsAll.cons (Reads.bool (h := s.heap) y) .nil))
  have r2 : Reads s.heap (.ref b) (.tuple [.bool x', .bool y']) [] := Reads.tuple hb hc' hd' (by simpa using ReadsAll.cons (Reads.bool (h := s.heap) x') (ReadsAll.cons (Reads.bool (h := s.heap) y') .nil))
  refine ne_dataH_same r1 r2 (by cases x <;> cases y <;> decide) (by cases x' <;> cases y' <;> decide) hu (by simp [noMix, noMixAll]) ?_
  have : PySem.Spec.same (.tuple [.bool x, .bool y]) (.tuple [.bool x', .bool y']) = decide (x = x' ∧ y = y') := by
    cases x <;> cases y <;> cases x' <;> cases y' <;> decide
  rw [this]; exact h
end
section
variable {prog : Program} {w : World} {A : Around} {s : Shared} {env : Env} {h₀ : Heap} {Q : Flow → Shared → Prop} {L D : Addr} {target : Expr} {body : List Stmt} {m₀ : Str → Option Value} {news rest : List (Addr × Obj)}
/-- a loop that gathers into the list D -/
inductive JA (D : Addr) (stored : List Str) (Φ : Nat → List Value → Prop) (m₀ : Str → Option Value) (rest : List (Addr × Obj)) (i : Nat) (m : Str → Option Value) (nx : List (Addr × Obj)) : Prop
  | mk : ∀ items n, ((∀ y, stored.contains y = false → m y = m₀ y)) → (nx = (D, listOf (List.toArray items) n) :: rest) → (Φ i items) → JA D stored Φ m₀ rest i m nx
theorem forListA {l : Addr} {vs items0 : List Value} {n0 : Nat} (stored : List Str) (Φ : Nat → List Value → Prop) (hh : A.handled = none)
    (F : Fr h₀ L s.heap m₀) (N : News h₀ L s.heap news) (P : Pick D (listOf items0.toArray n0) news rest) (hl : s.heap.IsList l vs.toArray) (h0 : Φ 0 items0)
    (keepL : ∀ h m, Fr h₀ L h m → News h₀ L h rest → h.IsList l vs.toArray)
    (turn : ∀ i v (m₁ : Str → Option Value) h tk I oI items n, vs[i]? = some v → Φ i items → Fr h₀ L h (fun y => if stored.contains y = true then m₁ y else m₀ y) → News h₀ L h ((I, oI) :: (D, listOf (List.toArray items) n) :: rest) → (∀ q ∈ rest, q.1 ≠ I) → @Ne Nat D I →
      wpAny (model prog w) A (assign target env v) (fun _ s₂ => wpAny (model prog w) A (execs body env) (TurnEnd (LoopK h₀ L I (JA D stored Φ m₀ rest)) (fun _ h => h.get? I = some oI) (i + 1) s Q) (fun _ _ => False) s₂) (fun _ _ => False) { s with heap := h, toks := tk })
    (done : ∀ (m₁ : Str → Option Value) h tk items n, Φ vs.length items → Fr h₀ L h (fun y => if stored.contains y = true then m₁ y else m₀ y) → News h₀ L h ((D, listOf (List.toArray items) n) :: rest) → Q .next { s with heap := h, toks := tk })
    (ht : ∀ I v, letOwnedTupleGo target (.ref I) v = pure () := by intro _ _; rfl) :
    wpAny (model prog w) A (pyIter (.ref l)) (fun it s₂ => ForAt prog w A env target body Q it s₂) (fun _ _ => False) s := by
  obtain ⟨p1, p2⟩ := P.spec
  refine forList (JA D stored Φ m₀ rest) hh F (news := (D, listOf items0.toArray n0) :: rest) (fun q hq => ?_) hl ⟨items0, n0, fun _ _ => rfl, rfl, h0⟩ (fun i m nx h hJ F₁ N₁ => by obtain ⟨_, _, _, rfl, _⟩ := hJ; exact keepL h m F₁ fun q hq => N₁ q (.tail _ hq))
    (fun i v m nx h tk I oI hv hJ F₁ N₁ hne _ => by obtain ⟨items, n, h1, rfl, h2⟩ := hJ; exact turn i v m h tk I oI items n hv h2 (frCanon F₁ h1) N₁ (fun q hq => hne q (.tail _ hq)) (hne _ (.head _)))
    (fun m nx h tk hJ F₁ N₁ => by obtain ⟨items, n, h1, rfl, h2⟩ := hJ; exact done m h tk items n h2 (frCanon F₁ h1) N₁) ht
  rcases List.mem_cons.mp hq with rfl | hq
  · exact N _ p1
  · exact N _ (p2 q hq).1
theorem turnEndA {h' : Heap} {I : Addr} {oI : Obj} {stored : List Str} {Φ : Nat → List Value → Prop} {i : Nat} {m' : Str → Option Value} {nw : List (Addr × Obj)} {tk n : Nat} {items : List Value}
    (F : Fr h₀ L h' m') (N : News h₀ L h' nw) (hm : ∀ y, stored.contains y = false → m' y = m₀ y) (hD : (D, listOf items.toArray n) ∈ nw) (hI : (I, oI) ∈ nw) (hs : ∀ q ∈ rest, q ∈ nw) (hne : ∀ q ∈ rest, q.1 ≠ I) (hDI : @Ne Nat D I) (hΦ : Φ i items) :
    TurnEnd (LoopK h₀ L I (JA D stored Φ m₀ rest)) (fun _ h => h.get? I = some oI) i s Q .next { s with heap := h', toks := tk } :=
  turnEnd (nx := (D, listOf items.toArray n) :: rest) F N ⟨items, n, hm, rfl, hΦ⟩ (fun q hq => by rcases List.mem_cons.mp hq with rfl | hq; exact hD; exact hs q hq) (fun q hq => by rcases List.mem_cons.mp hq with rfl | hq; exact hDI; exact hne q hq) hI
/-- a loop that gathers into a name -/
inductive JV (x : Str) (stored : List Str) (Φ : Nat → Value → Prop) (m₀ : Str → Option Value) (news : List (Addr × Obj)) (i : Nat) (m : Str → Option Value) (nx : List (Addr × Obj)) : Prop
  | mk : ∀ v, ((∀ y, (x :: stored).contains y = false → m y = m₀ y)) → (nx = news) → (m x = some v) → (Φ i v) → JV x stored Φ m₀ news i m nx
theorem frCanonV {h : Heap} {m₁ : Str → Option Value} {x : Str} {v : Value} {stored : List Str} (F : Fr h₀ L h m₁) (hm : ∀ y, (x :: stored).contains y = false → m₁ y = m₀ y) (hx : m₁ x = some v) : Fr h₀ L h (fun y => if y = x then some v else if stored.contains y = true then m₁ y else m₀ y) := by
  have e : (fun y => if y = x then some v else if stored.contains y = true then m₁ y else m₀ y) = m₁ := by
    funext y
    by_cases h1 : y = x
    · subst h1; simp [hx]
    · rw [if_neg h1]
      cases hc : stored.contains y with
      | true => simp
      | false => simp only [Bool.false_eq_true, if_false]; exact (hm y (by rw [List.contains_cons, hc, Bool.or_false]; simpa using h1)).symm
  rw [e]; exact F
theorem forListV {l : Addr} {vs : List Value} {v0 : Value} (x : Str) (stored : List Str) (Φ : Nat → Value → Prop) (hh : A.handled = none)
    (F : Fr h₀ L s.heap m₀) (N : News h₀ L s.heap news) (hl : s.heap.IsList l vs.toArray) (hx : m₀ x = some v0) (h0 : Φ 0 v0)
    (keepL : ∀ h m, Fr h₀ L h m → News h₀ L h news → h.IsList l vs.toArray)
    (turn : ∀ i v (m₁ : Str → Option Value) h tk I oI xv, vs[i]? = some v → Φ i xv → Fr h₀ L h (fun y => if y = x then some xv else if stored.contains y = true then m₁ y else m₀ y) → News h₀ L h ((I, oI) :: news) → (∀ q ∈ news, q.1 ≠ I) →
      wpAny (model prog w) A (assign target env v) (fun _ s₂ => wpAny (model prog w) A (execs body env) (TurnEnd (LoopK h₀ L I (JV x stored Φ m₀ news)) (fun _ h => h.get? I = some oI) (i + 1) s Q) (fun _ _ => False) s₂) (fun _ _ => False) { s with heap := h, toks := tk })
    (done : ∀ (m₁ : Str → Option Value) h tk xv, Φ vs.length xv → Fr h₀ L h (fun y => if y = x then some xv else if stored.contains y = true then m₁ y else m₀ y) → News h₀ L h news → Q .next { s with heap := h, toks := tk })
    (ht : ∀ I v, letOwnedTupleGo target (.ref I) v = pure () := by intro _ _; rfl) :
    wpAny (model prog w) A (pyIter (.ref l)) (fun it s₂ => ForAt prog w A env target body Q it s₂) (fun _ _ => False) s :=
  forList (JV x stored Φ m₀ news) hh F N hl ⟨v0, fun _ _ => rfl, rfl, hx, h0⟩ (fun i m nx h hJ F₁ N₁ => by obtain ⟨_, _, rfl, _⟩ := hJ; exact keepL h m F₁ N₁)
    (fun i v m nx h tk I oI hv hJ F₁ N₁ hne _ => by obtain ⟨xv, h1, rfl, h2, h3⟩ := hJ; exact turn i v m h tk I oI xv hv h3 (frCanonV F₁ h1 h2) N₁ hne)
    (fun m nx h tk hJ F₁ N₁ => by obtain ⟨xv, h1, rfl, h2, h3⟩ := hJ; exact done m h tk xv h3 (frCanonV F₁ h1 h2) N₁) ht
theorem turnEndV {h' : Heap} {I : Addr} {oI : Obj} {x : Str} {stored : List Str} {Φ : Nat → Value → Prop} {i : Nat} {m' : Str → Option Value} {nw : List (Addr × Obj)} {tk : Nat} {xv : Value}
    (F : Fr h₀ L h' m') (N : News h₀ L h' nw) (hm : ∀ y, (x :: stored).contains y = false → m' y = m₀ y) (hx : m' x = some xv) (hs : ∀ q ∈ (I, oI) :: news, q ∈ nw) (hne : ∀ q ∈ news, q.1 ≠ I) (hΦ : Φ i xv) :
    TurnEnd (LoopK h₀ L I (JV x stored Φ m₀ news)) (fun _ h => h.get? I = some oI) i s Q .next { s with heap := h', toks := tk } :=
  turnEnd F N ⟨xv, hm, rfl, hx, hΦ⟩ (fun q hq => hs q (.tail _ hq)) hne (hs _ (.head _))
end
theorem valueAt_map (k : Int) (v : Value) (k' : Int) : ∀ kvs : List (Int × Value), valueAt (kvs.map fun kv => if kv.1 = k then (kv.1, v) else kv) k' = if k' = k then (if kvs.any (fun kv => kv.1 = k) = true then some v else none) else valueAt kvs k'
  | [] => by simp [valueAt]
  | kv :: r => by
    have ih := valueAt_map k v k' r
    unfold valueAt at ih ⊢
    rw [List.map_cons, List.find?_cons, List.find?_cons]
    by_cases h1 : kv.1 = k
    · by_cases h2 : k' = k
      · subst h2; simp [h1]
      · have h3 : ¬ k = k' := fun e => h2 e.symm
        simp only [h1, if_true, h3, h2, decide_false, if_false] at ih ⊢
        exact ih
    · by_cases h2 : kv.1 = k'
      · subst h2; simp [h1]
      · simp only [h1, h2, if_false, decide_false, List.any_cons, Bool.false_or] at ih ⊢
        exact ih
theorem valueAt_app (k : Int) (v : Value) (k' : Int) : ∀ kvs : List (Int × Value), valueAt (kvs ++ [(k, v)]) k' = match valueAt kvs k' with | some x => some x | none => if k' = k then some v else none
  | [] => by
    unfold valueAt
    by_cases h : k = k'
    · subst h; simp
    · have h' : ¬ k' = k := fun e => h e.symm
      simp [h, h']
  | kv :: r => by
    have ih := valueAt_app k v k' r
    unfold valueAt at ih ⊢
    rw [List.cons_append, List.find?_cons, List.find?_cons]
    by_cases h2 : kv.1 = k'
    · simp [h2]
    · simp only [h2, decide_false] at ih ⊢
      exact ih
theorem valueAt_stored (kvs : List (Int × Value)) (k : Int) (v : Value) (k' : Int) : valueAt (stored kvs k v) k' = if k' = k then some v else valueAt kvs k' := by
  unfold stored
  split
  · rename_i h
    rw [valueAt_map, if_pos h]
  · rename_i h
    rw [valueAt_app]
    by_cases h2 : k' = k
    · subst h2
      have : valueAt kvs k' = none := by
        unfold valueAt
        rw [Option.map_eq_none_iff, List.find?_eq_none]
        intro x hx
        rw [Bool.not_eq_true] at h
        rw [List.any_eq_false] at h
        exact h x hx
      simp [this]
    · rw [if_neg h2]
      cases valueAt kvs k' <;> simp [h2]
abbrev twoObj (v1 v2 : Value) : Obj := { cls := .type "tuple", data := .seq #[v1, v2] }
section
variable {prog : Program} {w : World} {A : Around} {s : Shared} {env : Env} {h₀ : Heap} {Q : Flow → Shared → Prop} {L tp : Addr} {target : Expr} {body : List Stmt} {m : Str → Option Value} {news : List (Addr × Obj)} {v1 v2 : Value}
/-- the end of a turn of a loop over a pair -/
def Two (s : Shared) (Q : Flow → Shared → Prop) (I : Addr) (oI : Obj) (tp : Addr) (ot : Obj) (next : Heap → Prop) (f : Flow) (s₃ : Shared) : Prop :=
  match f with
  | .ret v => Q (.ret v) s₃
  | .brk => Q .next s₃
  | _ => ∃ h' tk', s₃ = { s with heap := h', toks := tk' } ∧ h'.get? I = some oI ∧ h'.get? tp = some ot ∧ next h'
theorem forTwo (hh : A.handled = none) (F : Fr h₀ L s.heap m) (N : News h₀ L s.heap news) (ht : (tp, twoObj v1 v2) ∈ news)
    (turn : ∀ I oI h tk, Fr h₀ L h m → News h₀ L h ((I, oI) :: news) → (∀ q ∈ news, q.1 ≠ I) →
      wpAny (model prog w) A (assign target env v1) (fun _ s₂ => wpAny (model prog w) A (execs body env) (Two s Q I oI tp (twoObj v1 v2) fun h3 =>
        ∀ oI2 h4 tk4, h4.get? I = some oI2 → h4.get? tp = some (twoObj v1 v2) → (∀ b o, b ≠ I → h3.get? b = some o → h4.get? b = some o) →
          wpAny (model prog w) A (assign target env v2) (fun _ s₂ => wpAny (model prog w) A (execs body env) (Two s Q I oI2 tp (twoObj v1 v2) fun h5 =>
            ∀ h6 tk6, (∀ b o, b ≠ I → h5.get? b = some o → h6.get? b = some o) → Q .next { s with heap := h6, toks := tk6 }) (fun _ _ => False) s₂) (fun _ _ => False) { s with heap := h4, toks := tk4 }) (fun _ _ => False) s₂) (fun _ _ => False) { s with heap := h, toks := tk })
    (htg : ∀ I v, letOwnedTupleGo target (.ref I) v = pure () := by intro _ _; rfl) :
    wpAny (model prog w) A (pyIter (.ref tp)) (fun it s₂ => ForAt prog w A env target body Q it s₂) (fun _ _ => False) s := by
  have hm := N _ ht
  have hne : tp ≠ s.heap.objs.size := Nat.ne_of_lt (Heap.lt_size hm.1)
  have hI : h₀.get? s.heap.objs.size = none := next_is_new F
  have hL : L ≠ s.heap.objs.size := Nat.ne_of_lt F.ns.lt
  refine wpAny_pyIter_tuple (items := #[v1, v2]) ⟨_, hm.1, rfl, _, rfl⟩ ?_
  have W := Walks.tuple (prog := prog) (w := w) hh s.heap.objs.size tp hne #[v1, v2]
  have tupAt : ∀ {h : Heap}, h.get? tp = some (twoObj v1 v2) → h.IsTuple tp #[v1, v2] := fun e => ⟨_, e, rfl, _, rfl⟩
  let K : Nat → Heap → Prop := fun i h => h.get? tp = some (twoObj v1 v2) ∧ match i with
    | 0 => Fr h₀ L h m ∧ News h₀ L h news
    | 1 => ∀ oI2 h4 tk4, h4.get? s.heap.objs.size = some oI2 → h4.get? tp = some (twoObj v1 v2) → (∀ b o, b ≠ s.heap.objs.size → h.get? b = some o → h4.get? b = some o) →
          wpAny (model prog w) A (assign target env v2) (fun _ s₂ => wpAny (model prog w) A (execs body env) (Two s Q s.heap.objs.size oI2 tp (twoObj v1 v2) fun h5 =>
            ∀ h6 tk6, (∀ b o, b ≠ s.heap.objs.size → h5.get? b = some o → h6.get? b = some o) → Q .next { s with heap := h6, toks := tk6 }) (fun _ _ => False) s₂) (fun _ _ => False) { s with heap := h4, toks := tk4 }
    | _ => ∀ h6 tk6, (∀ b o, b ≠ s.heap.objs.size → h.get? b = some o → h6.get? b = some o) → Q .next { s with heap := h6, toks := tk6 }
  refine forW W K (fun i h h' x hk => ?_) ⟨⟨_, Heap.get?_push_size _ rfl, rfl, rfl⟩, ⟨_, Heap.get?_push_of_some _ hm.1, rfl, _, rfl⟩⟩
    ⟨Heap.get?_push_of_some _ hm.1, F.push _, fun q hq => ⟨Heap.get?_push_of_some _ (N q hq).1, (N q hq).2⟩⟩ ?_ ?_ (htg _)
  · have hk' : ∀ b o, b ≠ s.heap.objs.size → h.get? b = some o → h'.get? b = some o := fun b o hb e => hk b o (by simpa using hb) e
    refine ⟨hk' _ _ hne x.1, ?_⟩
    match i, x.2 with
    | 0, ⟨F1, N1⟩ =>
      refine ⟨⟨F1.ns.at' fun o e => hk' _ o hL e, fun b o e => hk' b o (fun q => ?_) (F1.keep b o e), F1.above⟩, fun q hq => ⟨hk' _ _ (fun q2 => ?_) (N1 q hq).1, (N1 q hq).2⟩⟩
      · rw [q, hI] at e; cases e
      · exact absurd (Heap.lt_size (N q hq).1) (by rw [q2]; exact Nat.lt_irrefl _)
    | 1, x => exact fun oI2 h4 tk4 a b c => x oI2 h4 tk4 a b fun b' o hb e => c b' o hb (hk' b' o hb e)
    | n + 2, x => exact fun h6 tk6 c => x h6 tk6 fun b' o hb e => c b' o hb (hk' b' o hb e)
  · rintro i v h tk hi hP ⟨ht1, hK⟩ ⟨⟨oI, hoI, hI1, hI2⟩, hst2⟩
    match i, hi, hK with
    | 0, _, ⟨F1, N1⟩ =>
      have hv : v1 = v := by simpa using hP
      subst hv
      have N2 : News h₀ L h ((s.heap.objs.size, oI) :: news) := fun q hq => by
        rcases List.mem_cons.mp hq with rfl | hq
        · exact ⟨hoI, Ne.symm hL, hI⟩
        · exact N1 q hq
      refine wpAny_mono (turn s.heap.objs.size oI h tk F1 N2 fun q hq => Nat.ne_of_lt (Heap.lt_size (N q hq).1)) (fun _ s₂ h₂ => wpAny_mono h₂ (fun f s₃ h₃ => ?_) fun _ _ x => x) fun _ _ x => x
      have up : (∃ h' tk', s₃ = { s with heap := h', toks := tk' } ∧ h'.get? s.heap.objs.size = some oI ∧ h'.get? tp = some (twoObj v1 v2) ∧ K 1 h') → ∃ h' tk', s₃ = { s with heap := h', toks := tk' } ∧ K 1 h' ∧ (h'.IsTupleIter s.heap.objs.size tp 1 ∧ h'.IsTuple tp #[v1, v2]) :=
        fun ⟨h', tk', a, b, c, d⟩ => ⟨h', tk', a, d, ⟨oI, b, hI1, hI2⟩, tupAt c⟩
      cases f with
      | ret v => exact h₃
      | brk => exact h₃
      | next => obtain ⟨h', tk', a, b, c, d⟩ := h₃; exact up ⟨h', tk', a, b, c, c, d⟩
      | cont => obtain ⟨h', tk', a, b, c, d⟩ := h₃; exact up ⟨h', tk', a, b, c, c, d⟩
    | 1, _, hK =>
      have hv : v2 = v := by simpa using hP
      subst hv
      refine wpAny_mono (hK oI h tk hoI ht1 fun _ _ _ e => e) (fun _ s₂ h₂ => wpAny_mono h₂ (fun f s₃ h₃ => ?_) fun _ _ x => x) fun _ _ x => x
      have up : (∃ h' tk', s₃ = { s with heap := h', toks := tk' } ∧ h'.get? s.heap.objs.size = some oI ∧ h'.get? tp = some (twoObj v1 v2) ∧ K 2 h') → ∃ h' tk', s₃ = { s with heap := h', toks := tk' } ∧ K 2 h' ∧ (h'.IsTupleIter s.heap.objs.size tp 2 ∧ h'.IsTuple tp #[v1, v2]) :=
        fun ⟨h', tk', a, b, c, d⟩ => ⟨h', tk', a, d, ⟨oI, b, hI1, hI2⟩, tupAt c⟩
      cases f with
      | ret v => exact h₃
      | brk => exact h₃
      | next => obtain ⟨h', tk', a, b, c, d⟩ := h₃; exact up ⟨h', tk', a, b, c, c, d⟩
      | cont => obtain ⟨h', tk', a, b, c, d⟩ := h₃; exact up ⟨h', tk', a, b, c, c, d⟩
  · rintro h tk ⟨_, hK⟩
    exact hK h tk fun _ _ _ e => e
end
section
variable {prog : Program} {w : World} {A : Around} {s : Shared} {env : Env} {h₀ : Heap} {Q : Flow → Shared → Prop} {L : Addr} {target : Expr} {body : List Stmt} {m₀ : Str → Option Value} {news : List (Addr × Obj)} {X : Type}
/-- a loop whose ledger is told by x -/
inductive JX (stored : List Str) (nw : X → List (Addr × Obj)) (Φ : Nat → X → Prop) (m₀ : Str → Option Value) (i : Nat) (m : Str → Option Value) (nx : List (Addr × Obj)) : Prop
  | mk : ∀ x, ((∀ y, stored.contains y = false → m y = m₀ y)) → (nx = nw x) → (Φ i x) → JX stored nw Φ m₀ i m nx
theorem forRangeX {r : Addr} {a b : Int} {t u v : Tok} {n : Nat} (stored : List Str) (nw : X → List (Addr × Obj)) (Φ : Nat → X → Prop) (x0 : X) (hh : A.handled = none)
    (F : Fr h₀ L s.heap m₀) (N : News h₀ L s.heap news) (hsub : ∀ q ∈ nw x0, q ∈ news) (hr : IsRange s.heap r a b 1 t u v) (hsmall : Builtin.Range.small a b 1 = true) (hn : Builtin.Range.rangeSize a b 1 = (n : Int)) (h0 : Φ 0 x0)
    (turn : ∀ i tv (m₁ : Str → Option Value) h tk I oI x, i < n → Φ i x → Fr h₀ L h (fun y => if stored.contains y = true then m₁ y else m₀ y) → News h₀ L h ((I, oI) :: nw x) → (∀ q ∈ nw x, q.1 ≠ I) →
      wpAny (model prog w) A (assign target env (.int (a + (i : Int)) tv)) (fun _ s₂ => wpAny (model prog w) A (execs body env) (TurnEnd (LoopK h₀ L I (JX stored nw Φ m₀)) (fun _ h => h.get? I = some oI) (i + 1) s Q) (fun _ _ => False) s₂) (fun _ _ => False) { s with heap := h, toks := tk })
    (done : ∀ (m₁ : Str → Option Value) h tk x, Φ n x → Fr h₀ L h (fun y => if stored.contains y = true then m₁ y else m₀ y) → News h₀ L h (nw x) → Q .next { s with heap := h, toks := tk })
    (ht : ∀ I v, letOwnedTupleGo target (.ref I) v = pure () := by intro _ _; rfl) :
    wpAny (model prog w) A (pyIter (.ref r)) (fun it s₂ => ForAt prog w A env target body Q it s₂) (fun _ _ => False) s :=
  forRange (JX stored nw Φ m₀) hh F (newsPerm N hsub) hr hsmall hn ⟨x0, fun _ _ => rfl, rfl, h0⟩
    (fun i tv m nx h tk I oI hi hJ F₁ N₁ hne _ => by obtain ⟨x, h1, rfl, h2⟩ := hJ; exact turn i tv m h tk I oI x hi h2 (frCanon F₁ h1) N₁ hne)
    (fun m nx h tk hJ F₁ N₁ => by obtain ⟨x, h1, rfl, h2⟩ := hJ; exact done m h tk x h2 (frCanon F₁ h1) N₁) ht
theorem forListX {l : Addr} {vs : List Value} (stored : List Str) (nw : X → List (Addr × Obj)) (Φ : Nat → X → Prop) (x0 : X) (hh : A.handled = none)
    (F : Fr h₀ L s.heap m₀) (N : News h₀ L s.heap news) (hsub : ∀ q ∈ nw x0, q ∈ news) (hl : s.heap.IsList l vs.toArray) (h0 : Φ 0 x0)
    (keepL : ∀ x h m, Fr h₀ L h m → News h₀ L h (nw x) → h.IsList l vs.toArray)
    (turn : ∀ i v (m₁ : Str → Option Value) h tk I oI x, vs[i]? = some v → Φ i x → Fr h₀ L h (fun y => if stored.contains y = true then m₁ y else m₀ y) → News h₀ L h ((I, oI) :: nw x) → (∀ q ∈ nw x, q.1 ≠ I) →
      wpAny (model prog w) A (assign target env v) (fun _ s₂ => wpAny (model prog w) A (execs body env) (TurnEnd (LoopK h₀ L I (JX stored nw Φ m₀)) (fun _ h => h.get? I = some oI) (i + 1) s Q) (fun _ _ => False) s₂) (fun _ _ => False) { s with heap := h, toks := tk })
    (done : ∀ (m₁ : Str → Option Value) h tk x, Φ vs.length x → Fr h₀ L h (fun y => if stored.contains y = true then m₁ y else m₀ y) → News h₀ L h (nw x) → Q .next { s with heap := h, toks := tk })
    (ht : ∀ I v, letOwnedTupleGo target (.ref I) v = pure () := by intro _ _; rfl) :
    wpAny (model prog w) A (pyIter (.ref l)) (fun it s₂ => ForAt prog w A env target body Q it s₂) (fun _ _ => False) s :=
  forList (JX stored nw Φ m₀) hh F (newsPerm N hsub) hl ⟨x0, fun _ _ => rfl, rfl, h0⟩ (fun i m nx h hJ F₁ N₁ => by obtain ⟨x, _, rfl, _⟩ := hJ; exact keepL x h m F₁ N₁)
    (fun i v m nx h tk I oI hv hJ F₁ N₁ hne _ => by obtain ⟨x, h1, rfl, h2⟩ := hJ; exact turn i v m h tk I oI x hv h2 (frCanon F₁ h1) N₁ hne)
    (fun m nx h tk hJ F₁ N₁ => by obtain ⟨x, h1, rfl, h2⟩ := hJ; exact done m h tk x h2 (frCanon F₁ h1) N₁) ht
theorem turnEndX {h' : Heap} {I : Addr} {oI : Obj} {stored : List Str} {nw : X → List (Addr × Obj)} {Φ : Nat → X → Prop} {i : Nat} {m' : Str → Option Value} {all : List (Addr × Obj)} {tk : Nat} (x : X)
    (F : Fr h₀ L h' m') (N : News h₀ L h' all) (hm : ∀ y, stored.contains y = false → m' y = m₀ y) (hI : (I, oI) ∈ all) (hs : ∀ q ∈ nw x, q ∈ all) (hne : ∀ q ∈ nw x, q.1 ≠ I) (hΦ : Φ i x) :
    TurnEnd (LoopK h₀ L I (JX stored nw Φ m₀)) (fun _ h => h.get? I = some oI) i s Q .next { s with heap := h', toks := tk } :=
  turnEnd F N ⟨x, hm, rfl, hΦ⟩ hs hne hI
end
section
variable {prog : Program} {w : World} {A : Around} {E : Value → Shared → Prop} {s : Shared} {h₀ : Heap} {L D : Addr} {m : Str → Option Value} {news news' : List (Addr × Obj)} {n : Nat}
theorem item_l {l : Addr} {vs : List Value} {k : Int} {u : Tok} {v : Value} {value slice : Expr} {Q : Value → Shared → Prop}
    (N : News h₀ L s.heap news) (hm : (l, listOf vs.toArray n) ∈ news) (h0 : 0 ≤ k) (hk : k < 1000) (hx : vs[k.toNat]? = some v) (h : Q v s)
    (hs : subscripted slice false (.ref l) (.int k u) = operate [.ref l, .int k u] (getItem (.ref l) (.int k u)) := by with_unfolding_all rfl) :
    wpAny (model prog w) A (subscriptTail value slice (.ref l) (.int k u)) Q E s :=
  have hl' := N.isList hm
  tail_any hl'.typeIs slot_list_getitem.lookup (wpAny_getItem_list hl' h0 (by omega) (by simpa using hx) h) hs
end
section
variable {w : World} {p : Program} {loose : List Str} {mean : ExcName → Option Value} {mg mb : Str → Option Value} {A₀ A : Around} {base h₀ : Heap} {outer : List Env} {env : Env} {L : Addr} {m : Str → Option Value} {news rest : List (Addr × Obj)} {s : Shared} {Q E : Value → Shared → Prop}
theorem draw_use {deck : Addr} {items : List Value} {ep : Nat} {ds : List Int} {k : Int} {tk : Tok}
    (B : Below A₀ base outer h₀) (F : Fr h₀ L s.heap m) (Nw : News h₀ L s.heap news) (X : (Mine.hd.heap_39 w.params).In h₀) (Tp : Top p loose mean mg mb h₀)
    (hA : A.frames = some (env :: outer)) (hf : env.frame = some L) (hke : env.scope.kind = .function) (hh : A.handled = none) (hd : A.depth < 450) (hu : A.units < 1500)
    (P : Pick deck (listOf items.toArray ep) news rest) (hi : IntsAre items ds) (hn : items.length ≤ 60) (hk : 0 < k) (hk2 : k < 1000)
    (h : ∀ r t items' ep' ds' h' tk', IntsAre items' ds' → items'.length ≤ 60 → 0 ≤ r → r < k → Fr h₀ L h' m → News h₀ L h' ((deck, listOf (List.toArray items') ep') :: rest) → Q (.int r t) { s with heap := h', toks := tk' }) :
    wpAny (model PG w) A (call (.ref 222) [.ref deck, .int k tk]) Q E s := by
  obtain ⟨p1, p2⟩ := P.spec
  obtain ⟨g, G, gm, gr, _, st, back⟩ := useS [(deck, listOf items.toArray ep)] rest B F Nw X Tp hA hf hke (by simpa using p1) (fun q hq => ⟨(p2 q hq).1, by simpa using (p2 q hq).2⟩)
  refine wpAny_call (draw_ok G hh hd hu gm hi hn hk hk2 fun r t items' ep' ds' h' tk' sk h1 h2 h3 h4 h5 => ?_)
  obtain ⟨F', N'⟩ := back h' [(deck, listOf (List.toArray items') ep')] sk (fun q hq => by rw [List.mem_singleton.mp hq]; exact ⟨h1, (gm _ (.head _)).2⟩)
  exact h r t items' ep' ds' h' tk' h2 h3 h4 h5 F' N'
end
theorem append9 {prog : Program} {w : World} {A : Around} {E : Value → Shared → Prop} {s : Shared} {h₀ : Heap} {L D : Addr} {m : Str → Option Value} {news news' : List (Addr × Obj)} {n : Nat} {y : Value} {l : List Value} {Q : Value → Shared → Prop} (F : Fr h₀ L s.heap m) (N : News h₀ L s.heap news) (U : Upd D (listOf l.toArray n) (listOf (l ++ [y]).toArray (n + 1)) news news') (hz : l.length ≤ 1000)
    (h : ∀ h', Fr h₀ L h' m → News h₀ L h' news' → Q .none { s with heap := h' }) : wpAny (model prog w) A (call (.builtin "list.append") [.ref D, y]) Q E s :=
  append_K (its := l.toArray) F N (by rw [List.push_toArray]; exact U) h (by rw [PySem.sizeLine_eq]; simp; omega)
section
variable {prog : Program} {w : World} {A : Around} {E : Value → Shared → Prop} {s : Shared} {h₀ : Heap} {L d : Addr} {m : Str → Option Value} {news news' : List (Addr × Obj)} {g9 : Obj → List (Addr × Obj)} {k : Int} {t : Tok} {o : Obj} {kvs : List (Int × Value)} {v : Value}
open PySem.W
theorem map_led (N : News h₀ L s.heap news) (hm : (d, o) ∈ news) (hd : o.IsDictOf (intKind prog w) kvs) : s.heap.MapOf (intKind prog w) d (valueAt kvs) := (Heap.dictOf_iff.mpr ⟨o, N.get hm, hd⟩).mapOf
theorem notIn_led {Q : Value → Shared → Prop} (N : News h₀ L s.heap news) (hm : (d, o) ∈ news) (hd : o.IsDictOf (intKind prog w) kvs) (lo : (d == sysModules) = false) (h : Q (.bool (!(valueAt kvs k).isSome)) { s with toks := s.toks + 1 }) :
    wpAny (model prog w) A (compareOp .NotIn (.int k t) (.ref d)) Q E s := wpAny_notIn_of (intKind_is prog w k t) lo (map_led N hm hd) h
theorem setItem_led {Q : Unit → Shared → Prop} (F : Fr h₀ L s.heap m) (N : News h₀ L s.heap news) (U : UpdF d o news g9) (hd : o.IsDictOf (intKind prog w) kvs) (hz : kvs.length ≤ 1000)
    (h : ∀ h' o', Fr h₀ L h' m → News h₀ L h' (g9 o') → o'.IsDictOf (intKind prog w) (stored kvs k v) → Q () { s with heap := h', toks := s.toks + 1 }) : wpAny (model prog w) A (setItem (.ref d) (.int k t) v) Q E s :=
  kda_set F N U hd (intKind_is _ _ _ _) (by rw [sizeLine_eq]; omega) h
end
theorem hk_E7_0 : True := by
  k_with "HsetItem ref int" => (fail_if_success have := @_root_.Mine.define_minor_use); (k_here; k_dflt (refine' setItem_led ?Fq49 ?Nq49 ?Uq49 ?dq49 ?zq49 ?_; (case Fq49 => k_asm); (case Nq49 => k_asm); (case Uq49 => k_updF); (case dq49 => assumption); (case zq49 => omega); k_whole); (intro h' o' F' N' hd'; (try dsimp only at N')))
  k_with "HcompareOp NotIn int ref" => (fail_if_success have := @_root_.Mine.define_minor_use); (k_here; k_dflt (refine' notIn_led ?Nq50 ?mq50 ?dq50 ?lq50 ?_; (case Nq50 => k_asm); (case mq50 => k_mem); (case dq50 => assumption); (case lq50 => assumption); k_whole))
  trivial
set_option maxHeartbeats 4000000 in
theorem define_ok {w : World} {p : Program} {loose : List Str} {mean : ExcName → Option Value} {mg mb : Str → Option Value} {A : Around} {base g : Heap} {outer : List Env} {s : Shared} {R : Result → Shared → Prop}
    {T MA MI O M : Addr} {k pk : Int} {kv sv : Value} {oMA : Obj} {kvs : List (Int × Value)}
    (G : Gnd (Mine.hd.heap_39 w.params) p loose mean mg mb A base outer g s.heap) (hh : A.handled = none) (hd : A.depth < 430) (hu : A.units < 1300)
    (hT : TabAt9 w g T MA MI O) (hM : ModeAt w g M k pk kv sv) (Mu : ∀ q ∈ [(MA, oMA)], s.heap.get? q.1 = some q.2 ∧ g.get? q.1 = none) (hMA : oMA.IsDictOf (intKind PG w) kvs) (hz : kvs.length ≤ 100)
    (hret : ∀ o' h' tk', g.StaysIn h' → h'.get? MA = some o' → o'.IsDictOf (intKind PG w) (stored kvs k (.ref M)) → R (.ok (.ret .none)) { s with heap := h', toks := tk' }) :
    codeAny (model PG w) A (.call (.ref 97) ⟨[.ref T, .ref M], []⟩) R s := by
  ((obtain ⟨B, X, Tp, st, hsz⟩ := G; obtain ⟨hd0, dp, fr, gd, un⟩ := A; have hfr : fr = some outer := B.stack; subst hfr; simp only at hh hd hu; subst hh))
  obtain ⟨dT, nT, q0, q1, q2, hT1, hT2⟩ := hT
  obtain ⟨D, nD, d0, d1, d2, d3, d4, d5, d6, d7, d8, dt, db, dh, hM1, hM2⟩ := hM
  ((k_dflt (refine' enterS0 ?k1 ?k2 ?k3 ?k4 ?k5 ?k6 ?kl ?k7 ?k8 ?k9 ?kB ?_ ?c2 ?c3 ?c4 ?c5; (case k1 => assumption); (case k2 => assumption); (case k3 => assumption); (case k4 => assumption); (case k5 => assumption); (case k6 => k_is); (case kl => (refine ⟨⟨?_, ?_⟩, ?_⟩ <;> (conv => rhs; whnf) <;> exact rfl)); (case k7 => k_is); (case k8 => k_room); (case k9 => exact binds_zip (by kernel_rfl)); (case c5 => decide); (case kB => exact locs rfl); (case c2 => exact rfl); (case c3 => exact rfl); (case c4 => exact rfl); k_whole)))
  intro L' h₁ hL hL2 hst F' N'
  try dsimp only
  try k_fold
  k_steps
  rename Fr _ _ _ _ => F9
  rename News _ _ _ _ => N9
  exact hret _ _ _ F9.keep (N9.get (by k_mem)) (by assumption)
set_option maxHeartbeats 4000000 in
theorem define_minor_ok {w : World} {p : Program} {loose : List Str} {mean : ExcName → Option Value} {mg mb : Str → Option Value} {A : Around} {base g : Heap} {outer : List Env} {s : Shared} {R : Result → Shared → Prop}
    {T MA MI O M : Addr} {k : Int} {lt : Str} {kv : Value} {oMI : Obj} {kvs : List (Int × Value)} {ovs : List Value} {n9 : Nat}
    (G : Gnd (Mine.hd.heap_39 w.params) p loose mean mg mb A base outer g s.heap) (hh : A.handled = none) (hd : A.depth < 430) (hu : A.units < 1300)
    (hT : TabAt9 w g T MA MI O) (hM : MinorAt w g M k lt kv) (Mu : ∀ q ∈ [(MI, oMI), (O, listOf ovs.toArray n9)], s.heap.get? q.1 = some q.2 ∧ g.get? q.1 = none) (hMO : @Ne Nat MI O) (hMI : oMI.IsDictOf (intKind PG w) kvs) (hz : kvs.length ≤ 100) (hzo : ovs.length ≤ 100)
    (lo : (MI == sysModules) = false) (hnew : valueAt kvs k = none)
    (hret : ∀ o' u n' h' tk', g.StaysIn h' → h'.get? MI = some o' → o'.IsDictOf (intKind PG w) (stored kvs k (.ref M)) → h'.get? O = some (listOf (ovs ++ [Value.int k u]).toArray n') → R (.ok (.ret .none)) { s with heap := h', toks := tk' }) :
    codeAny (model PG w) A (.call (.ref 104) ⟨[.ref T, .ref M], []⟩) R s := by
  ((obtain ⟨B, X, Tp, st, hsz⟩ := G; obtain ⟨hd0, dp, fr, gd, un⟩ := A; have hfr : fr = some outer := B.stack; subst hfr; simp only at hh hd hu; subst hh))
  obtain ⟨dT, nT, q0, q1, q2, hT1, hT2⟩ := hT
  obtain ⟨MD, mn, m0, m1, m2, m3, m4, mu0, mu1, mbv, mhv, hM1, hM2⟩ := hM
  ((k_dflt (refine' enterS0 ?k1 ?k2 ?k3 ?k4 ?k5 ?k6 ?kl ?k7 ?k8 ?k9 ?kB ?_ ?c2 ?c3 ?c4 ?c5; (case k1 => assumption); (case k2 => assumption); (case k3 => assumption); (case k4 => assumption); (case k5 => assumption); (case k6 => k_is); (case kl => (refine ⟨⟨?_, ?_⟩, ?_⟩ <;> (conv => rhs; whnf) <;> exact rfl)); (case k7 => k_is); (case k8 => k_room); (case k9 => exact binds_zip (by kernel_rfl)); (case c5 => decide); (case kB => exact locs rfl); (case c2 => exact rfl); (case c3 => exact rfl); (case c4 => exact rfl); k_whole)))
  intro L' h₁ hL hL2 hst F' N'
  try dsimp only
  try k_fold
  k_steps
  · exfalso
    rename (valueAt kvs k).isSome = true => hb
    rw [hnew] at hb; cases hb
  · rename Fr _ _ _ _ => F9
    rename News _ _ _ _ => N9
    rw [List.push_toArray] at N9
    exact hret _ _ _ _ _ F9.keep (N9.get (by k_mem)) (by assumption) (N9.get (by k_mem))

theorem define_use {w : World} {p : Program} {loose : List Str} {mean : ExcName → Option Value} {mg mb : Str → Option Value} {A₀ A : Around} {base h₀ : Heap} {outer : List Env} {env : Env} {L : Addr} {m : Str → Option Value} {news rest : List (Addr × Obj)} {s : Shared} {Q E : Value → Shared → Prop}
    {T MA MI O M : Addr} {k pk : Int} {kv sv : Value} {oMA : Obj} {kvs : List (Int × Value)}
    (B : Below A₀ base outer h₀) (F : Fr h₀ L s.heap m) (Nw : News h₀ L s.heap news) (X : (Mine.hd.heap_39 w.params).In h₀) (Tp : Top p loose mean mg mb h₀)
    (hA : A.frames = some (env :: outer)) (hf : env.frame = some L) (hke : env.scope.kind = .function) (hh : A.handled = none) (hd : A.depth < 430) (hu : A.units < 1300)
    (P : Pick MA oMA news rest) (hfacts : ∀ g : Heap, h₀.StaysIn g → (∀ q ∈ rest, g.get? q.1 = some q.2) → TabAt9 w g T MA MI O ∧ ModeAt w g M k pk kv sv) (hMA : oMA.IsDictOf (intKind PG w) kvs) (hz : kvs.length ≤ 100)
    (h : ∀ o' h' tk', Fr h₀ L h' m → News h₀ L h' ((MA, o') :: rest) → o'.IsDictOf (intKind PG w) (stored kvs k (.ref M)) → Q .none { s with heap := h', toks := tk' }) :
    wpAny (model PG w) A (call (.ref 97) [.ref T, .ref M]) Q E s := by
  obtain ⟨p1, p2⟩ := P.spec
  obtain ⟨g, G, gm, gr, _, st, back⟩ := useS [(MA, oMA)] rest B F Nw X Tp hA hf hke (by simpa using p1) (fun q hq => ⟨(p2 q hq).1, by simpa using (p2 q hq).2⟩)
  obtain ⟨f1, f2⟩ := hfacts g st gr
  refine wpAny_call (define_ok G hh hd hu f1 f2 gm hMA hz fun o' h' tk' sk h1 h2 => ?_)
  obtain ⟨F', N'⟩ := back h' [(MA, o')] sk (fun q hq => by rw [List.mem_singleton.mp hq]; exact ⟨h1, (gm _ (.head _)).2⟩)
  exact h o' h' tk' F' N' h2
theorem define_minor_use {w : World} {p : Program} {loose : List Str} {mean : ExcName → Option Value} {mg mb : Str → Option Value} {A₀ A : Around} {base h₀ : Heap} {outer : List Env} {env : Env} {L : Addr} {m : Str → Option Value} {news rest : List (Addr × Obj)} {s : Shared} {Q E : Value → Shared → Prop}
    {T MA MI O M : Addr} {k : Int} {lt : Str} {kv : Value} {oMI : Obj} {kvs : List (Int × Value)} {ovs : List Value} {n9 : Nat}
    (B : Below A₀ base outer h₀) (F : Fr h₀ L s.heap m) (Nw : News h₀ L s.heap news) (X : (Mine.hd.heap_39 w.params).In h₀) (Tp : Top p loose mean mg mb h₀)
    (hA : A.frames = some (env :: outer)) (hf : env.frame = some L) (hke : env.scope.kind = .function) (hh : A.handled = none) (hd : A.depth < 430) (hu : A.units < 1300)
    (P : Picks [(MI, oMI), (O, listOf ovs.toArray n9)] news rest) (hfacts : ∀ g : Heap, h₀.StaysIn g → (∀ q ∈ rest, g.get? q.1 = some q.2) → TabAt9 w g T MA MI O ∧ MinorAt w g M k lt kv) (hMO : @Ne Nat MI O) (hMI : oMI.IsDictOf (intKind PG w) kvs) (hz : kvs.length ≤ 100) (hzo : ovs.length ≤ 100)
    (lo : (MI == sysModules) = false) (hnew : valueAt kvs k = none)
    (h : ∀ o' u n' h' tk', Fr h₀ L h' m → News h₀ L h' ((MI, o') :: (O, listOf (ovs ++ [Value.int k u]).toArray n') :: rest) → o'.IsDictOf (intKind PG w) (stored kvs k (.ref M)) → Q .none { s with heap := h', toks := tk' }) :
    wpAny (model PG w) A (call (.ref 104) [.ref T, .ref M]) Q E s := by
  obtain ⟨p1, p2⟩ := P.spec
  obtain ⟨g, G, gm, gr, _, st, back⟩ := useS [(MI, oMI), (O, listOf ovs.toArray n9)] rest B F Nw X Tp hA hf hke p1 p2
  obtain ⟨f1, f2⟩ := hfacts g st gr
  refine wpAny_call (define_minor_ok G hh hd hu f1 f2 gm hMO hMI hz hzo lo hnew fun o' u n' h' tk' sk h1 h2 h3 => ?_)
  obtain ⟨F', N'⟩ := back h' [(MI, o'), (O, listOf (ovs ++ [Value.int k u]).toArray n')] sk (fun q hq => by
    rcases List.mem_cons.mp hq with rfl | hq
    · exact ⟨h1, (gm _ (.head _)).2⟩
    · rw [List.mem_singleton.mp hq]; exact ⟨h3, (gm _ (.tail _ (.head _))).2⟩)
  exact h o' u n' h' tk' F' N' h2
/-- bounds, out of the walk's sight -/
def Bnd9 (r k : Int) : Prop := 0 ≤ r ∧ r < k
inductive ModeL (w : World) (l : List (Addr × Obj)) (M : Addr) (i p : Int) (kv sv : Value) : Prop
  | mk : ∀ (D : Addr) (n : Nat) (t0 t1 t2 t3 t4 t5 t6 u0 u2 : Tok) (tv bv hv : Value), ((M, instObj 51 D) ∈ l) → ((D, dictOf [ent w "symbol" t0 (.int i u0), ent w "title" t1 tv, ent w "parent" t2 (.int p u2), ent w "keymap" t3 kv, ent w "syntax" t4 sv, ent w "body" t5 bv, ent w "hook" t6 hv] n) ∈ l) → ModeL w l M i p kv sv
theorem ModeL.mono {w : World} {l l' : List (Addr × Obj)} {M : Addr} {i p : Int} {kv sv : Value} (h : ∀ q ∈ l, q ∈ l') : ModeL w l M i p kv sv → ModeL w l' M i p kv sv :=
  fun ⟨D, n, t0, t1, t2, t3, t4, t5, t6, u0, u2, tv, bv, hv, a, b⟩ => ⟨D, n, t0, t1, t2, t3, t4, t5, t6, u0, u2, tv, bv, hv, h _ a, h _ b⟩
theorem ModeL.at {w : World} {l : List (Addr × Obj)} {g : Heap} {M : Addr} {i p : Int} {kv sv : Value} (h : ∀ q ∈ l, g.get? q.1 = some q.2) : ModeL w l M i p kv sv → ModeAt w g M i p kv sv :=
  fun ⟨D, n, t0, t1, t2, t3, t4, t5, t6, u0, u2, tv, bv, hv, a, b⟩ => ⟨D, n, t0, t1, t2, t3, t4, t5, t6, u0, u2, tv, bv, hv, h _ a, h _ b⟩
/-- a list of numbers and Nones -/
def Opts (vs : List Value) (os : List (Option Int)) : Prop := vs.length = os.length ∧ ∀ (j : Nat) (o : Option Int), os[j]? = some o → ∃ t, vs[j]? = some (ov o t)
theorem Opts.snoc {vs : List Value} {os : List (Option Int)} {o : Option Int} {t : Tok} (x : Opts vs os) : Opts (vs ++ [ov o t]) (os ++ [o]) := by
  refine ⟨by simp [x.1], fun j o' h => ?_⟩
  rcases Nat.lt_or_ge j os.length with hj | hj
  · rw [List.getElem?_append_left hj] at h
    obtain ⟨t', ht⟩ := x.2 j o' h
    exact ⟨t', by rw [List.getElem?_append_left (by rw [x.1]; exact hj)]; exact ht⟩
  · rw [List.getElem?_append_right hj] at h
    have hj2 : j - os.length = 0 := by
      rcases Nat.eq_zero_or_pos (j - os.length) with h0 | h0
      · exact h0
      · rw [List.getElem?_eq_none (by simp; omega)] at h; cases h
    rw [hj2] at h
    simp at h
    subst h
    exact ⟨t, by rw [List.getElem?_append_right (by rw [x.1]; exact hj), x.1, hj2]; rfl⟩
theorem last_at {vs : List Value} {v : Value} {i : Nat} (h : vs.length = i) : (vs ++ [v])[((i : Int)).toNat]? = some v := by
  subst h; simp
structure XA where
  di : List Value
  dep : Nat
  ds : List Int
  pv : List Value
  pn : Nat
  ps : List Int
  kv : List Value
  kn : Nat
  ks : List (Option Int)
  tv : List Value
  tn : Nat
  ts : List (Option Int)
  oM : Obj
  dv : List (Int × Value)
  tail : List (Addr × Obj)
def nwA (deck pl kl tl MA : Addr) (kept : List (Addr × Obj)) (x : XA) : List (Addr × Obj) :=
  (deck, listOf x.di.toArray x.dep) :: (pl, listOf x.pv.toArray x.pn) :: (kl, listOf x.kv.toArray x.kn) :: (tl, listOf x.tv.toArray x.tn) :: (MA, x.oM) :: (kept ++ x.tail)
structure PhiA (w : World) (nw0 : List (Addr × Obj)) (i : Nat) (x : XA) : Prop where
  hdi : IntsAre x.di x.ds
  hdn : x.di.length ≤ 60
  hpv : IntsAre x.pv x.ps
  hpl : x.pv.length = i
  hpb : ∀ (j : Nat) (p : Int), x.ps[j]? = some p → -1 ≤ p ∧ p < (j : Int)
  hks : Opts x.kv x.ks
  hkl : x.kv.length = i
  hts : Opts x.tv x.ts
  htl : x.tv.length = i
  hoM : x.oM.IsDictOf (intKind PG w) x.dv
  hdv : x.dv.length ≤ i
  hkey : ∀ k v, valueAt x.dv k = some v → 0 ≤ k ∧ k < (i : Int)
  hmode : ∀ (j : Nat) (p : Int) (k t : Option Int), x.ps[j]? = some p → x.ks[j]? = some k → x.ts[j]? = some t → ∃ M tk1 tk2, valueAt x.dv (j : Int) = some (.ref M) ∧ ModeL w x.tail M (j : Int) p (ov k tk1) (ov t tk2)
  hoff : Apart x.tail nw0
theorem frName {h₀ h : Heap} {L : Addr} {m : Str → Option Value} (_F : Fr h₀ L h m) (x : Str) {v : Addr} (_e : m x = some (.ref v)) : ∃ a, a = v := ⟨v, rfl⟩
theorem tabName {w : World} {T dT MA MI O : Addr} {n : Nat} {t0 t1 t2 : Tok} {news : List (Addr × Obj)} {h₀ h : Heap} {L : Addr} (_N : News h₀ L h news) (_h1 : (T, instObj 147 dT) ∈ news) (_h2 : (dT, dictOf [ent w "majors" t0 (.ref MA), ent w "minors" t1 (.ref MI), ent w "order" t2 (.ref O)] n) ∈ news) :
    ∃ a b c d, a = dT ∧ b = MA ∧ c = MI ∧ d = O := ⟨_, _, _, _, rfl, rfl, rfl, rfl⟩
section
variable {w : World} {A : Around} {s : Shared} {env : Env} {h₀ : Heap} {Q : Flow → Shared → Prop} {L : Addr} {target : Expr} {body : List Stmt} {m₀ : Str → Option Value} {news kept : List (Addr × Obj)}
theorem loopA {r deck pl kl tl MA : Addr} {b : Int} {t u v : Tok} {di : List Value} {dep pn kn tn : Nat} {ds : List Int} {oM : Obj} (n : Nat) (stored : List Str) (hh : A.handled = none)
    (F : Fr h₀ L s.heap m₀) (N : News h₀ L s.heap news) (P : Picks [(deck, listOf di.toArray dep), (pl, listOf [].toArray pn), (kl, listOf [].toArray kn), (tl, listOf [].toArray tn), (MA, oM)] news kept)
    (hr : IsRange s.heap r 0 b 1 t u v) (hb : b = (n : Int)) (hn : n ≤ 6) (hdi : IntsAre di ds) (hdn : di.length ≤ 60) (hoM : oM.IsDictOf (intKind PG w) [])
    (turn : ∀ i tv (m₁ : Str → Option Value) h tk I oI x, i < n → PhiA w news i x → Fr h₀ L h (fun y => if stored.contains y = true then m₁ y else m₀ y) → News h₀ L h ((I, oI) :: nwA deck pl kl tl MA kept x) → (∀ q ∈ nwA deck pl kl tl MA kept x, q.1 ≠ I) →
      wpAny (model PG w) A (assign target env (.int (i : Int) tv)) (fun _ s₂ => wpAny (model PG w) A (execs body env) (TurnEnd (LoopK h₀ L I (JX stored (nwA deck pl kl tl MA kept) (PhiA w news) m₀)) (fun _ h => h.get? I = some oI) (i + 1) s Q) (fun _ _ => False) s₂) (fun _ _ => False) { s with heap := h, toks := tk })
    (done : ∀ (m₁ : Str → Option Value) h tk x, PhiA w news n x → Fr h₀ L h (fun y => if stored.contains y = true then m₁ y else m₀ y) → News h₀ L h (nwA deck pl kl tl MA kept x) → Q .next { s with heap := h, toks := tk })
    (ht : ∀ I v, letOwnedTupleGo target (.ref I) v = pure () := by intro _ _; rfl) :
    wpAny (model PG w) A (pyIter (.ref r)) (fun it s₂ => ForAt PG w A env target body Q it s₂) (fun _ _ => False) s := by
  obtain ⟨p1, p2⟩ := P.spec
  subst hb
  refine forRangeX stored (nwA deck pl kl tl MA kept) (PhiA w news) ⟨di, dep, ds, [], pn, [], [], kn, [], [], tn, [], oM, [], []⟩ hh F N (fun q hq => ?_) hr (small9 (by omega) (by omega)) (rangeSize9 n)
    ⟨hdi, hdn, .nil, rfl, fun j p h => by simp at h, ⟨rfl, fun j o h => by simp at h⟩, rfl, ⟨rfl, fun j o h => by simp at h⟩, rfl, hoM, Nat.le_refl _, fun k v h => by simp [valueAt] at h, fun j p k t h => by simp at h, fun _ h => (nomatch h)⟩
    (fun i tv m₁ h tk I oI x hi hΦ F1 N1 hne => by rw [Int.zero_add]; exact turn i tv m₁ h tk I oI x hi hΦ F1 N1 hne) done ht
  simp only [nwA, List.append_nil] at hq
  rcases List.mem_cons.mp hq with rfl | hq
  · exact p1 _ (.head _)
  rcases List.mem_cons.mp hq with rfl | hq
  · exact p1 _ (.tail _ (.head _))
  rcases List.mem_cons.mp hq with rfl | hq
  · exact p1 _ (.tail _ (.tail _ (.head _)))
  rcases List.mem_cons.mp hq with rfl | hq
  · exact p1 _ (.tail _ (.tail _ (.tail _ (.head _))))
  rcases List.mem_cons.mp hq with rfl | hq
  · exact p1 _ (.tail _ (.tail _ (.tail _ (.tail _ (.head _)))))
  · exact (p2 q hq).1
end
theorem getElem_snoc {α : Type} {l : List α} {a b : α} {j : Nat} (h : (l ++ [a])[j]? = some b) : (l[j]? = some b ∧ j < l.length) ∨ (j = l.length ∧ b = a) := by
  rcases Nat.lt_or_ge j l.length with hj | hj
  · rw [List.getElem?_append_left hj] at h
    exact .inl ⟨h, hj⟩
  · rw [List.getElem?_append_right hj] at h
    rcases Nat.eq_zero_or_pos (j - l.length) with h0 | h0
    · rw [h0] at h
      exact .inr ⟨by omega, by simpa using h.symm⟩
    · rw [List.getElem?_eq_none (by simp; omega)] at h; cases h
theorem PhiA.next {w : World} {news : List (Addr × Obj)} {i : Nat} {x : XA} (h : PhiA w news i x) {di : List Value} {dep : Nat} {ds : List Int} {r : Int} {u : Tok} {ko to : Option Int} {t1 t2 : Tok} {oM : Obj} {M D : Addr} {nM : Nat} {v0 v1 v2 v3 v4 v5 v6 u0 : Tok} {tv bv hv : Value}
    (h1 : IntsAre di ds) (h2 : di.length ≤ 60) (h3 : -1 ≤ r) (h4 : r < (i : Int)) (h5 : oM.IsDictOf (intKind PG w) (stored x.dv (i : Int) (.ref M))) (hM : ∀ q ∈ news, q.1 ≠ M) (hD : ∀ q ∈ news, q.1 ≠ D) :
    PhiA w news (i + 1) ⟨di, dep, ds, x.pv ++ [.int r u], x.pn + 1, x.ps ++ [r], x.kv ++ [ov ko t1], x.kn + 1, x.ks ++ [ko], x.tv ++ [ov to t2], x.tn + 1, x.ts ++ [to], oM, stored x.dv (i : Int) (.ref M),
      (M, instObj 51 D) :: (D, dictOf [ent w "symbol" v0 (.int (i : Int) u0), ent w "title" v1 tv, ent w "parent" v2 (.int r u), ent w "keymap" v3 (ov ko t1), ent w "syntax" v4 (ov to t2), ent w "body" v5 bv, ent w "hook" v6 hv] nM) :: x.tail⟩ := by
  have lp : x.ps.length = i := by rw [← h.hpv.length, h.hpl]
  have lk : x.ks.length = i := by rw [← h.hks.1, h.hkl]
  have lt : x.ts.length = i := by rw [← h.hts.1, h.htl]
  refine ⟨h1, h2, h.hpv.append (.cons _ _ .nil), by simp [h.hpl], fun j p hp => ?_, h.hks.snoc, by simp [h.hkl], h.hts.snoc, by simp [h.htl], h5, Nat.le_trans (stored_length_le _ _ _) (Nat.succ_le_succ h.hdv), fun k v hv => ?_, fun j p k t hp hk ht => ?_, fun q hq p hp => ?_⟩
  · rcases getElem_snoc hp with ⟨a, _⟩ | ⟨a, b⟩
    · exact h.hpb j p a
    · rw [a, b, lp]; exact ⟨h3, h4⟩
  · dsimp only at hv
    rw [valueAt_stored] at hv
    split at hv
    · omega
    · have := h.hkey k v hv; omega
  · dsimp only at hp hk ht ⊢
    rcases getElem_snoc hp with ⟨a, a1⟩ | ⟨a, a1⟩
    · rcases getElem_snoc hk with ⟨b, _⟩ | ⟨b, _⟩
      · rcases getElem_snoc ht with ⟨c, _⟩ | ⟨c, _⟩
        · obtain ⟨M', tk1, tk2, e1, e2⟩ := h.hmode j p k t a b c
          refine ⟨M', tk1, tk2, ?_, e2.mono fun q hq => .tail _ (.tail _ hq)⟩
          rw [valueAt_stored, if_neg (by omega)]
          exact e1
        · omega
      · omega
    · rcases getElem_snoc hk with ⟨_, b⟩ | ⟨_, b⟩
      · omega
      rcases getElem_snoc ht with ⟨_, c⟩ | ⟨_, c⟩
      · omega
      have : j = i := by omega
      subst this
      subst a1 b c
      exact ⟨M, t1, t2, by rw [valueAt_stored, if_pos rfl], D, nM, v0, v1, v2, v3, v4, v5, v6, u0, u, tv, bv, hv, .head _, .tail _ (.head _)⟩
  · rcases List.mem_cons.mp hq with rfl | hq
    · exact hM p hp
    rcases List.mem_cons.mp hq with rfl | hq
    · exact hD p hp
    · exact h.hoff q hq p hp
theorem turnA_end {w : World} {s : Shared} {h₀ h' : Heap} {Q : Flow → Shared → Prop} {L deck pl kl tl MA I M D : Addr} {m₀ m' : Str → Option Value} {news kept all : List (Addr × Obj)} {stored : List Str} {i tk : Nat} {x x' : XA} {oI oM oD : Obj}
    (F : Fr h₀ L h' m') (N : News h₀ L h' all) (hm : ∀ y, stored.contains y = false → m' y = m₀ y) (hI : (I, oI) ∈ all)
    (h1 : (deck, listOf x'.di.toArray x'.dep) ∈ all) (h2 : (pl, listOf x'.pv.toArray x'.pn) ∈ all) (h3 : (kl, listOf x'.kv.toArray x'.kn) ∈ all) (h4 : (tl, listOf x'.tv.toArray x'.tn) ∈ all) (h5 : (MA, x'.oM) ∈ all)
    (hk : ∀ q ∈ kept, q ∈ all) (ht : ∀ q ∈ x.tail, q ∈ all) (h6 : (M, oM) ∈ all) (h7 : (D, oD) ∈ all) (hx : x'.tail = (M, oM) :: (D, oD) :: x.tail)
    (hne : ∀ q ∈ nwA deck pl kl tl MA kept x, q.1 ≠ I) (hMI : @Ne Nat M I) (hDI : @Ne Nat D I) (hΦ : PhiA w news (i + 1) x') :
    TurnEnd (LoopK h₀ L I (JX stored (nwA deck pl kl tl MA kept) (PhiA w news) m₀)) (fun _ h => h.get? I = some oI) (i + 1) s Q .next { s with heap := h', toks := tk } := by
  refine turnEndX x' F N hm hI (fun q hq => ?_) (fun q hq => ?_) hΦ
  · simp only [nwA, List.mem_cons, List.mem_append, hx] at hq
    rcases hq with rfl | rfl | rfl | rfl | rfl | hq | rfl | rfl | hq
    · exact h1
    · exact h2
    · exact h3
    · exact h4
    · exact h5
    · exact hk q hq
    · exact h6
    · exact h7
    · exact ht q hq
  · simp only [nwA, List.mem_cons, List.mem_append, hx] at hq
    rcases hq with rfl | rfl | rfl | rfl | rfl | hq | rfl | rfl | hq
    · exact hne (deck, listOf x.di.toArray x.dep) (.head _)
    · exact hne (pl, listOf x.pv.toArray x.pn) (.tail _ (.head _))
    · exact hne (kl, listOf x.kv.toArray x.kn) (.tail _ (.tail _ (.head _)))
    · exact hne (tl, listOf x.tv.toArray x.tn) (.tail _ (.tail _ (.tail _ (.head _))))
    · exact hne (MA, x.oM) (.tail _ (.tail _ (.tail _ (.tail _ (.head _)))))
    · exact hne q (.tail _ (.tail _ (.tail _ (.tail _ (.tail _ (List.mem_append_left _ hq))))))
    · exact hMI
    · exact hDI
    · exact hne q (.tail _ (.tail _ (.tail _ (.tail _ (.tail _ (List.mem_append_right _ hq))))))
inductive MinorL (w : World) (l : List (Addr × Obj)) (M : Addr) (k : Int) (lt : Str) (kv : Value) : Prop
  | mk : ∀ (D : Addr) (n : Nat) (t0 t1 t2 t3 t4 u0 u1 : Tok) (bv hv : Value), ((M, instObj 72 D) ∈ l) → ((D, dictOf [ent w "symbol" t0 (.int k u0), ent w "lighter" t1 (.str lt u1), ent w "keymap" t2 kv, ent w "body" t3 bv, ent w "hook" t4 hv] n) ∈ l) → MinorL w l M k lt kv
theorem MinorL.mono {w : World} {l l' : List (Addr × Obj)} {M : Addr} {k : Int} {lt : Str} {kv : Value} (h : ∀ q ∈ l, q ∈ l') : MinorL w l M k lt kv → MinorL w l' M k lt kv :=
  fun ⟨D, n, t0, t1, t2, t3, t4, u0, u1, bv, hv, a, b⟩ => ⟨D, n, t0, t1, t2, t3, t4, u0, u1, bv, hv, h _ a, h _ b⟩
theorem MinorL.at {w : World} {l : List (Addr × Obj)} {g : Heap} {M : Addr} {k : Int} {lt : Str} {kv : Value} (h : ∀ q ∈ l, g.get? q.1 = some q.2) : MinorL w l M k lt kv → MinorAt w g M k lt kv :=
  fun ⟨D, n, t0, t1, t2, t3, t4, u0, u1, bv, hv, a, b⟩ => ⟨D, n, t0, t1, t2, t3, t4, u0, u1, bv, hv, h _ a, h _ b⟩
structure XB where
  ov : List Value
  on : Nat
  oM : Obj
  dv : List (Int × Value)
  tail : List (Addr × Obj)
def nwB (O MI : Addr) (kept : List (Addr × Obj)) (x : XB) : List (Addr × Obj) := (O, listOf x.ov.toArray x.on) :: (MI, x.oM) :: (kept ++ x.tail)
def lt9 (k : Int) : Str := Str.ofString " " ++ Str.ofString (toString k)
def mk9 (k : Int) : Option Int := if k.fmod 2 = 0 then some (300 + k) else none
structure PhiB (w : World) (nw0 : List (Addr × Obj)) (ms : List Int) (i : Nat) (x : XB) : Prop where
  hov : IntsAre x.ov (ms.take i)
  hoM : x.oM.IsDictOf (intKind PG w) x.dv
  hdl : x.dv.length ≤ i
  hkey : ∀ k v, valueAt x.dv k = some v → k ∈ ms.take i
  hmode : ∀ k ∈ ms.take i, ∃ M t, valueAt x.dv k = some (.ref M) ∧ MinorL w x.tail M k (lt9 k) (ov (mk9 k) t)
  hoff : Apart x.tail nw0
theorem take_succ_at {ms : List Int} {i : Nat} {own : Int} (h : ms[i]? = some own) : ms.take (i + 1) = ms.take i ++ [own] := by
  rw [List.take_add_one, h]; rfl
theorem PhiB.next {w : World} {news : List (Addr × Obj)} {ms : List Int} {i : Nat} {x : XB} (h : PhiB w news ms i x) {own : Int} {u t : Tok} {kv : Value} {no : Nat} {oM : Obj} {M D : Addr} {nM : Nat} {v0 v1 v2 v3 v4 u0 u1 : Tok} {bv hv : Value}
    (hown : ms[i]? = some own) (h5 : oM.IsDictOf (intKind PG w) (stored x.dv own (.ref M))) (hkv : kv = ov (mk9 own) t) (hM : ∀ q ∈ news, q.1 ≠ M) (hD : ∀ q ∈ news, q.1 ≠ D) :
    PhiB w news ms (i + 1) ⟨x.ov ++ [.int own u], no, oM, stored x.dv own (.ref M),
      (M, instObj 72 D) :: (D, dictOf [ent w "symbol" v0 (.int own u0), ent w "lighter" v1 (.str (Str.ofString " " ++ Str.ofString (toString own)) u1), ent w "keymap" v2 kv, ent w "body" v3 bv, ent w "hook" v4 hv] nM) :: x.tail⟩ := by
  have e := take_succ_at hown
  refine ⟨?_, h5, Nat.le_trans (stored_length_le _ _ _) (Nat.succ_le_succ h.hdl), fun k v hv => ?_, fun k hk => ?_, fun q hq p hp => ?_⟩
  · rw [e]; exact h.hov.append (.cons _ _ .nil)
  · dsimp only at hv
    rw [valueAt_stored] at hv
    rw [e]
    split at hv
    · exact List.mem_append_right _ (by simp [*])
    · exact List.mem_append_left _ (h.hkey k v hv)
  · dsimp only
    rw [valueAt_stored]
    by_cases hko : k = own
    · subst hko
      rw [if_pos rfl]
      exact ⟨M, t, rfl, D, nM, v0, v1, v2, v3, v4, u0, u1, bv, hv, .head _, by rw [← hkv]; exact .tail _ (.head _)⟩
    · rw [e] at hk
      rcases List.mem_append.mp hk with hk | hk
      · obtain ⟨M', tk1, e1, e2⟩ := h.hmode k hk
        rw [if_neg (by first | exact hko | exact fun e => hko e.symm)]
        exact ⟨M', tk1, e1, e2.mono fun q hq => .tail _ (.tail _ hq)⟩
      · exact absurd (List.mem_singleton.mp hk) hko
  · rcases List.mem_cons.mp hq with rfl | hq
    · exact hM p hp
    rcases List.mem_cons.mp hq with rfl | hq
    · exact hD p hp
    · exact h.hoff q hq p hp
theorem turnB_end {w : World} {s : Shared} {h₀ h' : Heap} {Q : Flow → Shared → Prop} {L O MI I M D : Addr} {m₀ m' : Str → Option Value} {news kept all : List (Addr × Obj)} {ms : List Int} {stored : List Str} {i tk : Nat} {x x' : XB} {oI oM oD : Obj}
    (F : Fr h₀ L h' m') (N : News h₀ L h' all) (hm : ∀ y, stored.contains y = false → m' y = m₀ y) (hI : (I, oI) ∈ all)
    (h1 : (O, listOf x'.ov.toArray x'.on) ∈ all) (h5 : (MI, x'.oM) ∈ all)
    (hk : ∀ q ∈ kept, q ∈ all) (ht : ∀ q ∈ x.tail, q ∈ all) (h6 : (M, oM) ∈ all) (h7 : (D, oD) ∈ all) (hx : x'.tail = (M, oM) :: (D, oD) :: x.tail)
    (hne : ∀ q ∈ nwB O MI kept x, q.1 ≠ I) (hMI : @Ne Nat M I) (hDI : @Ne Nat D I) (hΦ : PhiB w news ms (i + 1) x') :
    TurnEnd (LoopK h₀ L I (JX stored (nwB O MI kept) (PhiB w news ms) m₀)) (fun _ h => h.get? I = some oI) (i + 1) s Q .next { s with heap := h', toks := tk } := by
  refine turnEndX x' F N hm hI (fun q hq => ?_) (fun q hq => ?_) hΦ
  · simp only [nwB, List.mem_cons, List.mem_append, hx] at hq
    rcases hq with rfl | rfl | hq | rfl | rfl | hq
    · exact h1
    · exact h5
    · exact hk q hq
    · exact h6
    · exact h7
    · exact ht q hq
  · simp only [nwB, List.mem_cons, List.mem_append, hx] at hq
    rcases hq with rfl | rfl | hq | rfl | rfl | hq
    · exact hne (O, listOf x.ov.toArray x.on) (.head _)
    · exact hne (MI, x.oM) (.tail _ (.head _))
    · exact hne q (.tail _ (.tail _ (List.mem_append_left _ hq)))
    · exact hMI
    · exact hDI
    · exact hne q (.tail _ (.tail _ (List.mem_append_right _ hq)))
set_option maxHeartbeats 4000000 in
theorem line_of_ok {w : World} {p : Program} {loose : List Str} {mean : ExcName → Option Value} {mg mb : Str → Option Value} {A : Around} {base g : Heap} {outer : List Env} {s : Shared} {R : Result → Shared → Prop}
    {T MA MI O : Addr} {k : Int} {tk : Tok} {f : Int → Option Value} {N : Int} {pa : Int → Int} {km sy : Int → Option Int}
    (G : Gnd (Mine.hd.heap_39 w.params) p loose mean mg mb A base outer g s.heap) (hh : A.handled = none) (hd : A.depth < 440) (hu : A.units < 1400)
    (H : TabG w g T MA MI O f N pa km sy) (hp : Par pa) (h0 : 0 ≤ k) (hk : k < N) (hN : N ≤ 6)
    (hret : ∀ l items n h' tk', g.StaysIn h' → g.get? l = none → h'.get? l = some (listOf (List.toArray items) n) → IntsAre items (up pa k) → R (.ok (.ret (.ref l))) { s with heap := h', toks := tk' }) :
    codeAny (model PG w) A (.call (.ref 125) ⟨[.ref T, .int k tk], []⟩) R s := by
  obtain ⟨B, X, Tp, st, hsz⟩ := G
  obtain ⟨hd0, dp, fr, gd, un⟩ := A
  have hfr : fr = some outer := B.stack
  subst hfr
  simp only at hh hd hu
  subst hh
  have hT := H.tab
  obtain ⟨dT, nT, q0, q1, q2, hT1, hT2⟩ := H.tab
  have hm := H.maj
  have lo := H.lo
  have M0 : ∀ q ∈ ([] : List (Addr × Obj)), s.heap.get? q.1 = some q.2 ∧ g.get? q.1 = none := fun _ hq => nomatch hq
  k_with "M while" =>
    (fail_if_success have := @_root_.Mine.line_of_ok)
    rename Fr _ _ _ _ => F0
    rename News _ _ _ _ => N0
    k_dflt (refine' whileL (Str.ofString "found") (n₀ := (k + 1).toNat)
              (fun m0 l n m1 nx => ∃ a ta items xs c, m1 = (fun y => if y = Str.ofString "at" then some (Value.int a ta) else m0 y) ∧ nx = [(l, listOf (List.toArray items) c)] ∧ IntsAre items xs ∧ xs ++ up pa a = up pa k ∧ (∀ x ∈ xs, a < x) ∧
                -1 ≤ a ∧ a ≤ k ∧ n = (a + 1).toNat ∧ items.length + (a + 1).toNat ≤ (k + 1).toNat) F0 N0 (by rfl) ⟨k, _, [], [], 0, upd_self (by rfl), rfl, .nil, rfl, fun _ h => (nomatch h), by omega, by omega, rfl, by simp⟩ (by intro q hq; rw [List.mem_singleton.mp hq]; k_mem) ?_)
    clear F0 N0
    rintro n m1 nx h tk ⟨a, ta, items, xs, c, rfl, rfl, hi, hxs, hlt, ha1, ha2, hn, hlen⟩ F1 N1
    by_cases hneg : a < 0
    try k_fold
    rotate_left
    obtain ⟨M, u1, u2, hv, D, nD, d0, d1, d2, d3, d4, d5, d6, d7, d8, dt, db, dh, hM1, hM2⟩ := H.mode a (by omega) (by omega)
    try k_fold
    rotate_left
  k_with "M raise" => (fail_if_success have := @_root_.Mine.line_of_ok); (exfalso; simp only [List.any_eq_true, beq_iff_eq] at *; rename_i hx; obtain ⟨x, hx1, hx2⟩ := hx; have := hlt x hx1; omega)
  k_with "M call" => (fail_if_success have := @_root_.Mine.line_of_ok); (((with_reducible show wpAny _ _ (call (Value.ref 111) _) _ _ _); k_dflt (refine' major_use ?B ?F ?N ?X ?T ?hA ?hf ?hke ?hh ?hd ?hu ?hT ?hm ?lo ?hv ?_; (case hA => exact rfl); (case hf => exact rfl); (case hke => exact rfl); (case B => k_asm); (case F => k_asm); (case N => k_asm); (case X => k_asm); (case T => k_asm); (case hh => exact rfl); (case hd => (((try simp only [depth_mark, depth_under_make, depth_under_kw, depth_in1, depth_deeper, depth_caller, units_in1, units_deeper, units_caller, Around.mark_units]); (try dsimp only); omega))); (case hu => (((try simp only [depth_mark, depth_under_make, depth_under_kw, depth_in1, depth_deeper, depth_caller, units_in1, units_deeper, units_caller, Around.mark_units]); (try dsimp only); omega))); (case hT => assumption); (case hm => assumption); (case lo => assumption); (case hv => assumption); k_whole); intro h' tk' F' N'; (try k_sweep)))
  ((k_dflt (refine' enterS0 ?k1 ?k2 ?k3 ?k4 ?k5 ?k6 ?kl ?k7 ?k8 ?k9 ?kB ?_ ?c2 ?c3 ?c4 ?c5; (case k1 => assumption); (case k2 => assumption); (case k3 => assumption); (case k4 => assumption); (case k5 => assumption); (case k6 => k_is); (case kl => (refine ⟨⟨?_, ?_⟩, ?_⟩ <;> (conv => rhs; whnf) <;> exact rfl)); (case k7 => k_is); (case k8 => k_room); (case k9 => exact binds_zip (by kernel_rfl)); (case c5 => decide); (case kB => exact locs rfl); (case c2 => exact rfl); (case c3 => exact rfl); (case c4 => exact rfl); k_whole)))
  intro L' h₁ hL hL2 hst F' N'
  try dsimp only
  try k_fold
  k_steps
  case pos =>
    (((try dsimp only); (try (k_unfold; (try dsimp only)))))
    rename News _ _ _ _ => N9
    rename Fr _ _ _ _ => F9
    have e := N9 _ (List.mem_singleton.mpr rfl)
    rw [up_neg hneg, List.append_nil] at hxs
    exact hret _ _ _ _ _ F9.keep e.2.2 e.1 (hxs ▸ hi)
  case neg =>
    rename News _ _ _ _ => N9
    rename Fr _ _ _ _ => F9
    have hpa := hp a (by omega)
    rw [upd_upd] at F9
    rw [List.push_toArray] at N9
    refine ⟨_, _, _, _, (pa a + 1).toNat, rfl, F9, N9, by omega, pa a, _, _, xs ++ [a], _, rfl, rfl, IntsAre.append hi (.cons a ta .nil), ?_, ?_, hpa.1, by omega, rfl, ?_⟩
    · rw [← hxs, up_pos hp (s := a) (by omega), List.append_assoc]; rfl
    · intro x hx
      rcases List.mem_append.mp hx with hx | hx
      · have := hlt x hx; omega
      · rw [List.mem_singleton.mp hx]; omega
    · simp only [List.length_append, List.length_cons, List.length_nil]; omega

theorem line_of_use {w : World} {p : Program} {loose : List Str} {mean : ExcName → Option Value} {mg mb : Str → Option Value} {A₀ A : Around} {base h₀ : Heap} {outer : List Env} {env : Env} {L : Addr} {m : Str → Option Value} {news : List (Addr × Obj)} {s : Shared} {Q E : Value → Shared → Prop}
    {T MA MI O : Addr} {k : Int} {tk : Tok} {f : Int → Option Value} {N : Int} {pa : Int → Int} {km sy : Int → Option Int}
    (B : Below A₀ base outer h₀) (F : Fr h₀ L s.heap m) (Nw : News h₀ L s.heap news) (X : (Mine.hd.heap_39 w.params).In h₀) (Tp : Top p loose mean mg mb h₀)
    (hA : A.frames = some (env :: outer)) (hf : env.frame = some L) (hke : env.scope.kind = .function) (hh : A.handled = none) (hd : A.depth < 440) (hu : A.units < 1400)
    (H : TabG w h₀ T MA MI O f N pa km sy) (hp : Par pa) (h0 : 0 ≤ k) (hk : k < N) (hN : N ≤ 6)
    (h : ∀ l items n h' tk', IntsAre items (up pa k) → items.length ≤ 6 → (∀ q ∈ news, q.1 ≠ l) → Fr h₀ L h' m → News h₀ L h' ((l, listOf (List.toArray items) n) :: news) → Q (.ref l) { s with heap := h', toks := tk' }) :
    wpAny (model PG w) A (call (.ref 125) [.ref T, .int k tk]) Q E s := by
  obtain ⟨G, back⟩ := useP (A := A) B F Nw X Tp hA hf hke
  refine wpAny_call (line_of_ok G hh hd hu (H.keeps F.keep) hp h0 hk hN fun l items n h' tk' st hn hl hi => ?_)
  obtain ⟨F', N'⟩ := back h' st
  have hul := up_len6 hp (Int.lt_of_lt_of_le hk hN)
  have hil := hi.length
  exact h l items n h' tk' hi (by omega) (ne_of_new Nw hn) F' (news_add N' F hn hl)

set_option maxHeartbeats 4000000 in
theorem keymap_line_ok {w : World} {p : Program} {loose : List Str} {mean : ExcName → Option Value} {mg mb : Str → Option Value} {A : Around} {base g : Heap} {outer : List Env} {s : Shared} {R : Result → Shared → Prop}
    {T MA MI O : Addr} {k : Int} {tk : Tok} {f : Int → Option Value} {N : Int} {pa : Int → Int} {km sy : Int → Option Int}
    (G : Gnd (Mine.hd.heap_39 w.params) p loose mean mg mb A base outer g s.heap) (hh : A.handled = none) (hd : A.depth < 430) (hu : A.units < 1300)
    (H : TabG w g T MA MI O f N pa km sy) (hp : Par pa) (h0 : 0 ≤ k) (hk : k < N) (hN : N ≤ 6)
    (hret : ∀ l items n h' tk', g.StaysIn h' → g.get? l = none → h'.get? l = some (listOf (List.toArray items) n) → IntsAre items ((up pa k).filterMap km) → R (.ok (.ret (.ref l))) { s with heap := h', toks := tk' }) :
    codeAny (model PG w) A (.call (.ref 137) ⟨[.ref T, .int k tk], []⟩) R s := by
  ((obtain ⟨B, X, Tp, st, hsz⟩ := G; obtain ⟨hd0, dp, fr, gd, un⟩ := A; have hfr : fr = some outer := B.stack; subst hfr; simp only at hh hd hu; subst hh))
  ((have hT := H.tab; obtain ⟨dT, nT, q0, q1, q2, hT1, hT2⟩ := H.tab; have hm := H.maj; have lo := H.lo))
  k_with "M call" => (fail_if_success have := @_root_.Mine.keymap_line_ok); (((with_reducible show wpAny _ _ (call (Value.ref 111) _) _ _ _); k_dflt (refine' major_use ?B ?F ?N ?X ?T ?hA ?hf ?hke ?hh ?hd ?hu ?hT ?hm ?lo ?hv ?_; (case hA => exact rfl); (case hf => exact rfl); (case hke => exact rfl); (case B => k_asm); (case F => k_asm); (case N => k_asm); (case X => k_asm); (case T => k_asm); (case hh => exact rfl); (case hd => (((try simp only [depth_mark, depth_under_make, depth_under_kw, depth_in1, depth_deeper, depth_caller, units_in1, units_deeper, units_caller, Around.mark_units]); (try dsimp only); omega))); (case hu => (((try simp only [depth_mark, depth_under_make, depth_under_kw, depth_in1, depth_deeper, depth_caller, units_in1, units_deeper, units_caller, Around.mark_units]); (try dsimp only); omega))); (case hT => assumption); (case hm => assumption); (case lo => assumption); (case hv => assumption); k_whole); intro h' tk' F' N'; (try k_sweep)))
  k_with "M call" => (fail_if_success have := @_root_.Mine.keymap_line_ok); (((with_reducible show wpAny _ _ (call (Value.ref 125) _) _ _ _); k_dflt (refine' line_of_use ?B ?F ?N ?X ?T ?hA ?hf ?hke ?hh ?hd ?hu ?H ?hp ?h0 ?hk ?hN ?_; (case hA => exact rfl); (case hf => exact rfl); (case hke => exact rfl); (case B => k_asm); (case F => k_asm); (case N => k_asm); (case X => k_asm); (case T => k_asm); (case hh => exact rfl); (case hd => (((try simp only [depth_mark, depth_under_make, depth_under_kw, depth_in1, depth_deeper, depth_caller, units_in1, units_deeper, units_caller, Around.mark_units]); (try dsimp only); omega))); (case hu => (((try simp only [depth_mark, depth_under_make, depth_under_kw, depth_in1, depth_deeper, depth_caller, units_in1, units_deeper, units_caller, Around.mark_units]); (try dsimp only); omega))); (case H => assumption); (case hp => assumption); (case h0 => assumption); (case hk => assumption); (case hN => assumption); k_whole); intro ll lits ln h' tk' hLine hLineN hne' F' N'; (replace hne' := allNe_of hne'); (simp only [AllNe, and_true] at hne'); (try k_sweep)))
  k_with "M iter" =>
    (fail_if_success have := @_root_.Mine.keymap_line_ok)
    rename Fr _ _ _ _ => F0
    rename News _ _ _ _ => N0
    k_dflt (refine' forListL (Str.ofString "found")
              (fun m0 l i m1 nx => ∃ u items c, m1 = (fun y => if y = Str.ofString "own" then u else m0 y) ∧ nx = [(l, listOf (List.toArray items) c), (ll, listOf (List.toArray lits) ln)] ∧
                IntsAre items (((up pa k).take i).filterMap km) ∧ items.length ≤ i) rfl F0 N0 (N0.isList (by k_mem)) (by rfl) ⟨_, [], 0, upd_none, rfl, .nil, by simp⟩ (by k_extra "SUB") ?_ ?_ ?_)
    · rintro i m nx h ⟨u, items, c, rfl, rfl, hi, hlen⟩ F1 N1
      exact N1.isList (by k_mem)
    rotate_left
    clear F0 N0
    rintro m nx h tk ⟨u, items, c, rfl, rfl, hi, hlen⟩ F1 N1
    try k_fold
    rotate_left
    rintro i v m nx h tk I oI hv ⟨u, items, c, rfl, rfl, hi, hlen⟩ F1 N1 hne
    replace hne := allNe_of hne
    simp only [AllNe, and_true] at hne
    obtain ⟨own, town, rfl, hown⟩ := IntsAre.at hLine i v hv
    have hr := up_mem hp (k + 1).toNat k (Nat.le_refl _) own (List.mem_of_getElem? hown)
    have hil : i < (up pa k).length := (List.getElem?_eq_some_iff.mp hown).1
    have hul := up_len6 hp (Int.lt_of_lt_of_le hk hN)
    have hstep := filterMap_take km hown
    obtain ⟨M, u1, u2, hv1, D, nD, d0, d1, d2, d3, d4, d5, d6, d7, d8, dt, db, dh, hM1, hM2⟩ := H.mode own hr.1 (by omega)
    cases hkm : km own <;> simp only [hkm, ov] at hM2
    all_goals (try k_fold)
  (((have M0 : ∀ q ∈ ([] : List (Addr × Obj)), s.heap.get? q.1 = some q.2 ∧ g.get? q.1 = none := fun _ hq => nomatch hq); ((k_dflt (refine' enterS0 ?k1 ?k2 ?k3 ?k4 ?k5 ?k6 ?kl ?k7 ?k8 ?k9 ?kB ?_ ?c2 ?c3 ?c4 ?c5; (case k1 => assumption); (case k2 => assumption); (case k3 => assumption); (case k4 => assumption); (case k5 => assumption); (case k6 => k_is); (case kl => (refine ⟨⟨?_, ?_⟩, ?_⟩ <;> (conv => rhs; whnf) <;> exact rfl)); (case k7 => k_is); (case k8 => k_room); (case k9 => exact binds_zip (by kernel_rfl)); (case c5 => decide); (case kB => exact locs rfl); (case c2 => exact rfl); (case c3 => exact rfl); (case c4 => exact rfl); k_whole))); intro L' h₁ hL hL2 hst F' N'; (try dsimp only); (try k_fold)))
  k_steps
  · rename News _ _ _ _ => N9
    rename Fr _ _ _ _ => F9
    rw [upd_upd] at F9
    refine turnEnd F9 N9 ⟨_, items, _, rfl, rfl, ?_, by omega⟩ (by k_extra "SUB") (by k_extra "OFF") (by k_mem)
    rw [hstep, hkm]; simpa using hi
  · rename News _ _ _ _ => N9
    rename Fr _ _ _ _ => F9
    rw [upd_upd] at F9
    rw [List.push_toArray] at N9
    refine turnEnd F9 N9 ⟨_, _, _, rfl, rfl, ?_, ?_⟩ (by k_extra "SUB") (by k_extra "OFF") (by k_mem)
    · rw [hstep, hkm]; exact IntsAre.append hi (.cons _ _ .nil)
    · simp only [List.length_append, List.length_cons, List.length_nil]; omega
  · (((try dsimp only); (try (k_unfold; (try dsimp only)))))
    rename News _ _ _ _ => N9
    rename Fr _ _ _ _ => F9
    have e := N9 _ (List.mem_cons_self ..)
    have el : lits.length = (up pa k).length := hLine.length
    rw [el, List.take_length] at hi
    exact hret _ _ _ _ _ F9.keep e.2.2 e.1 hi

theorem keymap_line_use {w : World} {p : Program} {loose : List Str} {mean : ExcName → Option Value} {mg mb : Str → Option Value} {A₀ A : Around} {base h₀ : Heap} {outer : List Env} {env : Env} {L : Addr} {m : Str → Option Value} {news : List (Addr × Obj)} {s : Shared} {Q E : Value → Shared → Prop}
    {T MA MI O : Addr} {k : Int} {tk : Tok} {f : Int → Option Value} {N : Int} {pa : Int → Int} {km sy : Int → Option Int}
    (B : Below A₀ base outer h₀) (F : Fr h₀ L s.heap m) (Nw : News h₀ L s.heap news) (X : (Mine.hd.heap_39 w.params).In h₀) (Tp : Top p loose mean mg mb h₀)
    (hA : A.frames = some (env :: outer)) (hf : env.frame = some L) (hke : env.scope.kind = .function) (hh : A.handled = none) (hd : A.depth < 430) (hu : A.units < 1300)
    (H : TabG w h₀ T MA MI O f N pa km sy) (hp : Par pa) (h0 : 0 ≤ k) (hk : k < N) (hN : N ≤ 6)
    (h : ∀ l items n h' tk', IntsAre items ((up pa k).filterMap km) → items.length ≤ 6 → (∀ q ∈ news, q.1 ≠ l) → Fr h₀ L h' m → News h₀ L h' ((l, listOf (List.toArray items) n) :: news) → Q (.ref l) { s with heap := h', toks := tk' }) :
    wpAny (model PG w) A (call (.ref 137) [.ref T, .int k tk]) Q E s := by
  obtain ⟨G, back⟩ := useP (A := A) B F Nw X Tp hA hf hke
  refine wpAny_call (keymap_line_ok G hh hd hu (H.keeps F.keep) hp h0 hk hN  fun l items n h' tk' st hn hl hi => ?_)
  obtain ⟨F', N'⟩ := back h' st
  have hul := up_len6 hp (Int.lt_of_lt_of_le hk hN)
  have hil := hi.length
  have hfl := List.length_filterMap_le km (up pa k)
  exact h l items n h' tk' hi (by omega) (ne_of_new Nw hn) F' (news_add N' F hn hl)

set_option maxHeartbeats 4000000 in
theorem syntax_of_ok {w : World} {p : Program} {loose : List Str} {mean : ExcName → Option Value} {mg mb : Str → Option Value} {A : Around} {base g : Heap} {outer : List Env} {s : Shared} {R : Result → Shared → Prop}
    {T MA MI O : Addr} {k : Int} {tk : Tok} {f : Int → Option Value} {N : Int} {pa : Int → Int} {km sy : Int → Option Int}
    (G : Gnd (Mine.hd.heap_39 w.params) p loose mean mg mb A base outer g s.heap) (hh : A.handled = none) (hd : A.depth < 430) (hu : A.units < 1300)
    (H : TabG w g T MA MI O f N pa km sy) (hp : Par pa) (h0 : 0 ≤ k) (hk : k < N) (hN : N ≤ 6)
    (hret : ∀ t h' tk', g.StaysIn h' → R (.ok (.ret (ov ((up pa k).filterMap sy).head? t))) { s with heap := h', toks := tk' }) :
    codeAny (model PG w) A (.call (.ref 144) ⟨[.ref T, .int k tk], []⟩) R s := by
  ((obtain ⟨B, X, Tp, st, hsz⟩ := G; obtain ⟨hd0, dp, fr, gd, un⟩ := A; have hfr : fr = some outer := B.stack; subst hfr; simp only at hh hd hu; subst hh))
  ((have hT := H.tab; obtain ⟨dT, nT, q0, q1, q2, hT1, hT2⟩ := H.tab; have hm := H.maj; have lo := H.lo))
  k_with "M call" => (fail_if_success have := @_root_.Mine.syntax_of_ok); (((with_reducible show wpAny _ _ (call (Value.ref 111) _) _ _ _); k_dflt (refine' major_use ?B ?F ?N ?X ?T ?hA ?hf ?hke ?hh ?hd ?hu ?hT ?hm ?lo ?hv ?_; (case hA => exact rfl); (case hf => exact rfl); (case hke => exact rfl); (case B => k_asm); (case F => k_asm); (case N => k_asm); (case X => k_asm); (case T => k_asm); (case hh => exact rfl); (case hd => (((try simp only [depth_mark, depth_under_make, depth_under_kw, depth_in1, depth_deeper, depth_caller, units_in1, units_deeper, units_caller, Around.mark_units]); (try dsimp only); omega))); (case hu => (((try simp only [depth_mark, depth_under_make, depth_under_kw, depth_in1, depth_deeper, depth_caller, units_in1, units_deeper, units_caller, Around.mark_units]); (try dsimp only); omega))); (case hT => assumption); (case hm => assumption); (case lo => assumption); (case hv => assumption); k_whole); intro h' tk' F' N'; (try k_sweep)))
  k_with "M call" => (fail_if_success have := @_root_.Mine.syntax_of_ok); (((with_reducible show wpAny _ _ (call (Value.ref 125) _) _ _ _); k_dflt (refine' line_of_use ?B ?F ?N ?X ?T ?hA ?hf ?hke ?hh ?hd ?hu ?H ?hp ?h0 ?hk ?hN ?_; (case hA => exact rfl); (case hf => exact rfl); (case hke => exact rfl); (case B => k_asm); (case F => k_asm); (case N => k_asm); (case X => k_asm); (case T => k_asm); (case hh => exact rfl); (case hd => (((try simp only [depth_mark, depth_under_make, depth_under_kw, depth_in1, depth_deeper, depth_caller, units_in1, units_deeper, units_caller, Around.mark_units]); (try dsimp only); omega))); (case hu => (((try simp only [depth_mark, depth_under_make, depth_under_kw, depth_in1, depth_deeper, depth_caller, units_in1, units_deeper, units_caller, Around.mark_units]); (try dsimp only); omega))); (case H => assumption); (case hp => assumption); (case h0 => assumption); (case hk => assumption); (case hN => assumption); k_whole); intro ll lits ln h' tk' hLine hLineN hne' F' N'; (replace hne' := allNe_of hne'); (simp only [AllNe, and_true] at hne'); (try k_sweep)))
  k_with "M iter" =>
    (fail_if_success have := @_root_.Mine.syntax_of_ok)
    rename Fr _ _ _ _ => F0
    rename News _ _ _ _ => N0
    k_dflt (refine' forListM
              (fun m0 i m1 nx => ∃ u, m1 = (fun y => if y = Str.ofString "own" then u else m0 y) ∧ nx = [(ll, listOf (List.toArray lits) ln)] ∧
                ((up pa k).take i).filterMap sy = []) rfl F0 N0 (N0.isList (by k_mem)) ⟨_, upd_none, rfl, rfl⟩ ?_ ?_ ?_)
    · rintro i m nx h ⟨u, rfl, rfl, hi⟩ F1 N1
      exact N1.isList (by k_mem)
    rotate_left
    clear F0 N0
    rintro m nx h tk ⟨u, rfl, rfl, hi⟩ F1 N1
    try k_fold
    rotate_left
    rintro i v m nx h tk I oI hv ⟨u, rfl, rfl, hi⟩ F1 N1 hne _
    replace hne := allNe_of hne
    simp only [AllNe, and_true] at hne
    obtain ⟨own, town, rfl, hown⟩ := IntsAre.at hLine i v hv
    have hr := up_mem hp (k + 1).toNat k (Nat.le_refl _) own (List.mem_of_getElem? hown)
    have hil : i < (up pa k).length := (List.getElem?_eq_some_iff.mp hown).1
    have hstep := filterMap_take sy hown
    obtain ⟨M, u1, u2, hv1, D, nD, d0, d1, d2, d3, d4, d5, d6, d7, d8, dt, db, dh, hM1, hM2⟩ := H.mode own hr.1 (by omega)
    rcases hkm : sy own with _ | sv <;> simp only [hkm, ov] at hM2
    all_goals (try k_fold)
  (((have M0 : ∀ q ∈ ([] : List (Addr × Obj)), s.heap.get? q.1 = some q.2 ∧ g.get? q.1 = none := fun _ hq => nomatch hq); ((k_dflt (refine' enterS0 ?k1 ?k2 ?k3 ?k4 ?k5 ?k6 ?kl ?k7 ?k8 ?k9 ?kB ?_ ?c2 ?c3 ?c4 ?c5; (case k1 => assumption); (case k2 => assumption); (case k3 => assumption); (case k4 => assumption); (case k5 => assumption); (case k6 => k_is); (case kl => (refine ⟨⟨?_, ?_⟩, ?_⟩ <;> (conv => rhs; whnf) <;> exact rfl)); (case k7 => k_is); (case k8 => k_room); (case k9 => exact binds_zip (by kernel_rfl)); (case c5 => decide); (case kB => exact locs rfl); (case c2 => exact rfl); (case c3 => exact rfl); (case c4 => exact rfl); k_whole))); intro L' h₁ hL hL2 hst F' N'; (try dsimp only); (try k_fold)))
  k_steps
  · rename News _ _ _ _ => N9
    rename Fr _ _ _ _ => F9
    rw [upd_upd] at F9
    refine turnEnd F9 N9 ⟨_, rfl, rfl, ?_⟩ (by k_extra "SUB") (by k_extra "OFF") (by k_mem)
    rw [hstep, hkm, hi]; rfl
  · unfold TurnEnd
    (((try dsimp only); (try (k_unfold; (try dsimp only)))))
    rename Fr _ _ _ _ => F9
    have e : ((up pa k).filterMap sy).head? = some sv := by
      rw [← List.take_append_drop (i + 1) (up pa k), List.filterMap_append, hstep, hi, hkm]; rfl
    have hr := fun tk => hret u2 _ tk F9.keep
    rw [e] at hr
    exact hr _
  · (((try dsimp only); (try (k_unfold; (try dsimp only)))))
    rename Fr _ _ _ _ => F9
    have el : lits.length = (up pa k).length := hLine.length
    rw [el, List.take_length] at hi
    have hr := fun tk => hret 0 _ tk F9.keep
    rw [hi] at hr
    exact hr _

theorem syntax_of_use {w : World} {p : Program} {loose : List Str} {mean : ExcName → Option Value} {mg mb : Str → Option Value} {A₀ A : Around} {base h₀ : Heap} {outer : List Env} {env : Env} {L : Addr} {m : Str → Option Value} {news : List (Addr × Obj)} {s : Shared} {Q E : Value → Shared → Prop}
    {T MA MI O : Addr} {k : Int} {tk : Tok} {f : Int → Option Value} {N : Int} {pa : Int → Int} {km sy : Int → Option Int}
    (B : Below A₀ base outer h₀) (F : Fr h₀ L s.heap m) (Nw : News h₀ L s.heap news) (X : (Mine.hd.heap_39 w.params).In h₀) (Tp : Top p loose mean mg mb h₀)
    (hA : A.frames = some (env :: outer)) (hf : env.frame = some L) (hke : env.scope.kind = .function) (hh : A.handled = none) (hd : A.depth < 430) (hu : A.units < 1300)
    (H : TabG w h₀ T MA MI O f N pa km sy) (hp : Par pa) (h0 : 0 ≤ k) (hk : k < N) (hN : N ≤ 6)
    (h : ∀ t h' tk', Fr h₀ L h' m → News h₀ L h' news → Q (ov ((up pa k).filterMap sy).head? t) { s with heap := h', toks := tk' }) :
    wpAny (model PG w) A (call (.ref 144) [.ref T, .int k tk]) Q E s := by
  obtain ⟨G, back⟩ := useP (A := A) B F Nw X Tp hA hf hke
  refine wpAny_call (syntax_of_ok G hh hd hu (H.keeps F.keep) hp h0 hk hN fun t h' tk' st => ?_)
  obtain ⟨F', N'⟩ := back h' st
  exact h t h' tk' F' N'

set_option maxHeartbeats 4000000 in
theorem is_derived_ok {w : World} {p : Program} {loose : List Str} {mean : ExcName → Option Value} {mg mb : Str → Option Value} {A : Around} {base g : Heap} {outer : List Env} {s : Shared} {R : Result → Shared → Prop}
    {T MA MI O : Addr} {k : Int} {tk : Tok} {f : Int → Option Value} {N : Int} {pa : Int → Int} {km sy : Int → Option Int} {an : Addr} {avs : List Value} {as : List Int}
    (G : Gnd (Mine.hd.heap_39 w.params) p loose mean mg mb A base outer g s.heap) (hh : A.handled = none) (hd : A.depth < 430) (hu : A.units < 1300)
    (H : TabG w g T MA MI O f N pa km sy) (hp : Par pa) (h0 : 0 ≤ k) (hk : k < N) (hN : N ≤ 6) (hal : g.IsList an avs.toArray) (hai : IntsAre avs as)
    (hret : ∀ h' tk', g.StaysIn h' → R (.ok (.ret (.bool ((up pa k).any fun x => as.any (· == x))))) { s with heap := h', toks := tk' }) :
    codeAny (model PG w) A (.call (.ref 130) ⟨[.ref T, .int k tk, .ref an], []⟩) R s := by
  ((obtain ⟨B, X, Tp, st, hsz⟩ := G; obtain ⟨hd0, dp, fr, gd, un⟩ := A; have hfr : fr = some outer := B.stack; subst hfr; simp only at hh hd hu; subst hh))
  ((have hT := H.tab; obtain ⟨dT, nT, q0, q1, q2, hT1, hT2⟩ := H.tab; have hm := H.maj; have lo := H.lo))
  k_with "M call" => (fail_if_success have := @_root_.Mine.is_derived_ok); (((with_reducible show wpAny _ _ (call (Value.ref 125) _) _ _ _); k_dflt (refine' line_of_use ?B ?F ?N ?X ?T ?hA ?hf ?hke ?hh ?hd ?hu ?H ?hp ?h0 ?hk ?hN ?_; (case hA => exact rfl); (case hf => exact rfl); (case hke => exact rfl); (case B => k_asm); (case F => k_asm); (case N => k_asm); (case X => k_asm); (case T => k_asm); (case hh => exact rfl); (case hd => (((try simp only [depth_mark, depth_under_make, depth_under_kw, depth_in1, depth_deeper, depth_caller, units_in1, units_deeper, units_caller, Around.mark_units]); (try dsimp only); omega))); (case hu => (((try simp only [depth_mark, depth_under_make, depth_under_kw, depth_in1, depth_deeper, depth_caller, units_in1, units_deeper, units_caller, Around.mark_units]); (try dsimp only); omega))); (case H => assumption); (case hp => assumption); (case h0 => assumption); (case hk => assumption); (case hN => assumption); k_whole); intro ll lits ln h' tk' hLine hLineN hne' F' N'; (replace hne' := allNe_of hne'); (simp only [AllNe, and_true] at hne'); (try k_sweep)))
  k_with "M src" =>
    (fail_if_success have := @_root_.Mine.is_derived_ok)
    rename Fr _ _ _ _ => F0
    rename News _ _ _ _ => N0
    have hul := up_len6 hp (Int.lt_of_lt_of_le hk hN)
    have hll := hLine.length
    k_dflt (refine LCt.CompSrcT.ledger rfl F0 N0 (by k_mem) (by rw [PySem.sizeLine_eq]; simp; omega) ?_)
    intro g2
    k_dflt (refine' compT_fix (fun i ys => IntsAre ys ((((up pa k).take i).filter fun x => as.any (· == x)).map fun _ => (1 : Int))) .nil ?_ ?_)
    rotate_left
    intro ys hys D h tk F1 N1 off
    simp only [LCg.Off1, and_true] at off
    try k_fold
    rotate_left
    intro i v ys I oI C oC D m₂ h tk E' hi hP hJ hC hx F1 N1 off ne
    obtain ⟨own, town, rfl, hown⟩ := IntsAre.at hLine i v (by simpa using hP)
    have hoff := off
    simp only [LCg.Off3, and_true] at hoff
    try k_fold
  (((have M0 : ∀ q ∈ ([] : List (Addr × Obj)), s.heap.get? q.1 = some q.2 ∧ g.get? q.1 = none := fun _ hq => nomatch hq); ((k_dflt (refine' enterSC0 ?k1 ?k2 ?k3 ?k4 ?k5 ?k6 ?kl ?k7 ?k8 ?k9 ?kB ?kD ?_ ?c2 ?c3 ?c4; (case k1 => assumption); (case k2 => assumption); (case k3 => assumption); (case k4 => assumption); (case k5 => assumption); (case k6 => k_is); (case kl => (refine ⟨⟨?_, ?_⟩, ?_⟩ <;> (conv => rhs; whnf) <;> exact rfl)); (case k7 => k_is); (case k8 => k_room); (case k9 => exact binds_zip (by kernel_rfl)); (case kB => exact rfl); (case kD => decide +kernel); (case c2 => exact rfl); (case c3 => exact rfl); (case c4 => exact rfl); k_whole))); intro L' h₁ tk₁ cells hL hL2 hst F' N' Y' l0'; clear l0'; (k_cells Y'); (try simp only [List.cons_append, List.nil_append] at N'); (try dsimp only); (try k_fold)))
  k_steps
  · rename_i hb
    rw [filter_take _ hown, if_pos hb, List.map_append]
    exact IntsAre.append hJ (.cons _ _ .nil)
  · rename_i hb
    rw [filter_take _ hown, if_neg (by rw [hb]; exact Bool.false_ne_true), List.append_nil]
    exact hJ
  · rename Fr _ _ _ _ => F9
    have hr := fun tk => hret _ tk F9.keep
    have el : lits.toArray.size = (up pa k).length := by rw [List.size_toArray]; exact hLine.length
    rw [el, List.take_length]
    rw [any_comp]
    exact hr _

theorem is_derived_use {w : World} {p : Program} {loose : List Str} {mean : ExcName → Option Value} {mg mb : Str → Option Value} {A₀ A : Around} {base h₀ : Heap} {outer : List Env} {env : Env} {L : Addr} {m : Str → Option Value} {news : List (Addr × Obj)} {s : Shared} {Q E : Value → Shared → Prop}
    {T MA MI O : Addr} {k : Int} {tk : Tok} {f : Int → Option Value} {N : Int} {pa : Int → Int} {km sy : Int → Option Int} {an : Addr} {avs : List Value} {as : List Int}
    (B : Below A₀ base outer h₀) (F : Fr h₀ L s.heap m) (Nw : News h₀ L s.heap news) (X : (Mine.hd.heap_39 w.params).In h₀) (Tp : Top p loose mean mg mb h₀)
    (hA : A.frames = some (env :: outer)) (hf : env.frame = some L) (hke : env.scope.kind = .function) (hh : A.handled = none) (hd : A.depth < 430) (hu : A.units < 1300)
    (H : TabG w h₀ T MA MI O f N pa km sy) (hp : Par pa) (h0 : 0 ≤ k) (hk : k < N) (hN : N ≤ 6) (hal : s.heap.IsList an avs.toArray) (hai : IntsAre avs as)
    (h : ∀ h' tk', Fr h₀ L h' m → News h₀ L h' news → Q (.bool ((up pa k).any fun x => as.any (· == x))) { s with heap := h', toks := tk' }) :
    wpAny (model PG w) A (call (.ref 130) [.ref T, .int k tk, .ref an]) Q E s := by
  obtain ⟨G, back⟩ := useP (A := A) B F Nw X Tp hA hf hke
  refine wpAny_call (is_derived_ok G hh hd hu (H.keeps F.keep) hp h0 hk hN hal hai fun h' tk' st => ?_)
  obtain ⟨F', N'⟩ := back h' st
  exact h h' tk' F' N'

set_option maxHeartbeats 4000000 in
theorem law_line_ok {w : World} {p : Program} {loose : List Str} {mean : ExcName → Option Value} {mg mb : Str → Option Value} {A : Around} {base g : Heap} {outer : List Env} {s : Shared} {R : Result → Shared → Prop}
    {pl : Addr} {pvs : List Value} {ps : List Int} {k : Int} {tk : Tok} {pa : Int → Int}
    (G : Gnd (Mine.hd.heap_39 w.params) p loose mean mg mb A base outer g s.heap) (hh : A.handled = none) (hd : A.depth < 440) (hu : A.units < 1400)
    (hpl : g.IsList pl pvs.toArray) (hpi : IntsAre pvs ps) (hps : ∀ k : Int, 0 ≤ k → k < (ps.length : Int) → ps[k.toNat]? = some (pa k)) (hp : Par pa) (h0 : 0 ≤ k) (hk : k < (ps.length : Int)) (hN : ps.length ≤ 6)
    (hret : ∀ l items n h' tk', g.StaysIn h' → g.get? l = none → h'.get? l = some (listOf (List.toArray items) n) → IntsAre items (up pa k).reverse → R (.ok (.ret (.ref l))) { s with heap := h', toks := tk' }) :
    codeAny (model PG w) A (.call (.ref 229) ⟨[.ref pl, .int k tk], []⟩) R s := by
  ((obtain ⟨B, X, Tp, st, hsz⟩ := G; obtain ⟨hd0, dp, fr, gd, un⟩ := A; have hfr : fr = some outer := B.stack; subst hfr; simp only at hh hd hu; subst hh))
  k_with "M while" =>
    (fail_if_success have := @_root_.Mine.law_line_ok)
    rename Fr _ _ _ _ => F0
    rename News _ _ _ _ => N0
    k_dflt (refine' whileL (Str.ofString "found") (n₀ := (k + 1).toNat)
              (fun m0 l n m1 nx => ∃ a ta items xs c, m1 = (fun y => if y = Str.ofString "symbol" then some (Value.int a ta) else m0 y) ∧ nx = [(l, listOf (List.toArray items) c)] ∧ IntsAre items xs.reverse ∧ xs ++ up pa a = up pa k ∧
                -1 ≤ a ∧ a ≤ k ∧ n = (a + 1).toNat ∧ items.length + (a + 1).toNat ≤ (k + 1).toNat) F0 N0 (by rfl) ⟨k, _, [], [], 0, upd_self (by rfl), rfl, .nil, rfl, by omega, by omega, rfl, by simp⟩ (by k_extra "SUB") ?_)
    clear F0 N0
    rintro n m1 nx h tk ⟨a, ta, items, xs, c, rfl, rfl, hi, hxs, ha1, ha2, hn, hlen⟩ F1 N1
    by_cases hneg : a < 0
    try k_fold
    rotate_left
    have hpsa := hps a (by omega) (by omega)
    try k_fold
    rotate_left
  (((have M0 : ∀ q ∈ ([] : List (Addr × Obj)), s.heap.get? q.1 = some q.2 ∧ g.get? q.1 = none := fun _ hq => nomatch hq); ((k_dflt (refine' enterS0 ?k1 ?k2 ?k3 ?k4 ?k5 ?k6 ?kl ?k7 ?k8 ?k9 ?kB ?_ ?c2 ?c3 ?c4 ?c5; (case k1 => assumption); (case k2 => assumption); (case k3 => assumption); (case k4 => assumption); (case k5 => assumption); (case k6 => k_is); (case kl => (refine ⟨⟨?_, ?_⟩, ?_⟩ <;> (conv => rhs; whnf) <;> exact rfl)); (case k7 => k_is); (case k8 => k_room); (case k9 => exact binds_zip (by kernel_rfl)); (case c5 => decide); (case kB => exact locs rfl); (case c2 => exact rfl); (case c3 => exact rfl); (case c4 => exact rfl); k_whole))); intro L' h₁ hL hL2 hst F' N'; (try dsimp only); (try k_fold)))
  k_steps
  case pos =>
    (((try dsimp only); (try (k_unfold; (try dsimp only)))))
    rename News _ _ _ _ => N9
    rename Fr _ _ _ _ => F9
    have e := N9 _ (List.mem_singleton.mpr rfl)
    rw [up_neg hneg, List.append_nil] at hxs
    exact hret _ _ _ _ _ F9.keep e.2.2 e.1 (hxs ▸ hi)
  case neg =>
    rename News _ _ _ _ => N9
    rename Fr _ _ _ _ => F9
    have hpa := hp a (by omega)
    have eg : ps.getD a.toNat 0 = pa a := by rw [List.getD_eq_getElem?_getD, hpsa]; rfl
    rw [upd_upd, eg] at F9
    refine ⟨_, _, _, _, (pa a + 1).toNat, rfl, F9, N9, by omega, pa a, _, _, xs ++ [a], _, rfl, rfl, ?_, ?_, hpa.1, by omega, rfl, ?_⟩
    · rw [List.reverse_append]; exact .cons a ta hi
    · rw [← hxs, up_pos hp (s := a) (by omega), List.append_assoc]; rfl
    · simp only [List.length_cons]; omega

theorem law_line_use {w : World} {p : Program} {loose : List Str} {mean : ExcName → Option Value} {mg mb : Str → Option Value} {A₀ A : Around} {base h₀ : Heap} {outer : List Env} {env : Env} {L : Addr} {m : Str → Option Value} {news : List (Addr × Obj)} {s : Shared} {Q E : Value → Shared → Prop}
    {pl : Addr} {pvs : List Value} {ps : List Int} {k : Int} {tk : Tok} {pa : Int → Int}
    (B : Below A₀ base outer h₀) (F : Fr h₀ L s.heap m) (Nw : News h₀ L s.heap news) (X : (Mine.hd.heap_39 w.params).In h₀) (Tp : Top p loose mean mg mb h₀)
    (hA : A.frames = some (env :: outer)) (hf : env.frame = some L) (hke : env.scope.kind = .function) (hh : A.handled = none) (hd : A.depth < 440) (hu : A.units < 1400)
    (hpl : s.heap.IsList pl pvs.toArray) (hpi : IntsAre pvs ps) (hps : ∀ k : Int, 0 ≤ k → k < (ps.length : Int) → ps[k.toNat]? = some (pa k)) (hp : Par pa) (h0 : 0 ≤ k) (hk : k < (ps.length : Int)) (hN : ps.length ≤ 6)
    (h : ∀ l items n h' tk', IntsAre items (up pa k).reverse → items.length ≤ 6 → (∀ q ∈ news, q.1 ≠ l) → Fr h₀ L h' m → News h₀ L h' ((l, listOf (List.toArray items) n) :: news) → Q (.ref l) { s with heap := h', toks := tk' }) :
    wpAny (model PG w) A (call (.ref 229) [.ref pl, .int k tk]) Q E s := by
  obtain ⟨G, back⟩ := useP (A := A) B F Nw X Tp hA hf hke
  refine wpAny_call (law_line_ok G hh hd hu hpl hpi hps hp h0 hk hN fun l items n h' tk' st hn hl hi => ?_)
  obtain ⟨F', N'⟩ := back h' st
  have hul := up_len6 hp (Int.lt_of_lt_of_le hk (Int.ofNat_le.mpr hN))
  have hil := hi.length
  rw [List.length_reverse] at hil
  exact h l items n h' tk' hi (by omega) (ne_of_new Nw hn) F' (news_add N' F hn hl)

theorem any_line {l : List Int} {a b : Int} (hb : ∀ x ∈ l, x ≠ b) : (l.any fun x => [a, b].any (· == x)) = l.any (· == a) := by
  rw [Bool.eq_iff_iff]
  simp only [List.any_eq_true, List.any_cons, List.any_nil, Bool.or_false, Bool.or_eq_true, beq_iff_eq]
  constructor
  · rintro ⟨x, hx, h⟩
    rcases h with h | h
    · exact ⟨x, hx, h.symm⟩
    · exact absurd h.symm (hb x hx)
  · rintro ⟨x, hx, h⟩
    exact ⟨x, hx, .inl h.symm⟩
set_option maxHeartbeats 8000000 in
theorem law_modes_ok {w : World} {p : Program} {loose : List Str} {mean : ExcName → Option Value} {mg mb : Str → Option Value} {A : Around} {base g : Heap} {outer : List Env} {s : Shared} {R : Result → Shared → Prop}
    {T MA MI O : Addr} {f : Int → Option Value} {N : Int} {pa : Int → Int} {km sy : Int → Option Int} {pl kl tl : Addr} {pvs kvs tvs : List Value} {ps : List Int}
    (G : Gnd (Mine.hd.heap_39 w.params) p loose mean mg mb A base outer g s.heap) (hh : A.handled = none) (hd : A.depth < 410) (hu : A.units < 1200)
    (H : TabG w g T MA MI O f N pa km sy) (hp : Par pa) (hN : N ≤ 6)
    (hpl : g.IsList pl pvs.toArray) (hpi : IntsAre pvs ps) (hps : ∀ k : Int, 0 ≤ k → k < (ps.length : Int) → ps[k.toNat]? = some (pa k)) (hlen : (ps.length : Int) = N)
    (hkl : g.IsList kl kvs.toArray) (hkv : ∀ k : Int, 0 ≤ k → k < N → ∃ t, kvs[k.toNat]? = some (ov (km k) t))
    (htl : g.IsList tl tvs.toArray) (htv : ∀ k : Int, 0 ≤ k → k < N → ∃ t, tvs[k.toNat]? = some (ov (sy k) t))
    (hret : ∀ h' tk', g.StaysIn h' → R (.ok (.ret (.bool true))) { s with heap := h', toks := tk' }) :
    codeAny (model PG w) A (.call (.ref 241) ⟨[.ref T, .ref pl, .ref kl, .ref tl], []⟩) R s := by
  ((obtain ⟨B, X, Tp, st, hsz⟩ := G; obtain ⟨hd0, dp, fr, gd, un⟩ := A; have hfr : fr = some outer := B.stack; subst hfr; simp only at hh hd hu; subst hh))
  ((have hT := H.tab; obtain ⟨dT, nT, q0, q1, q2, hT1, hT2⟩ := H.tab; have hm := H.maj; have lo := H.lo))
  k_with "M call" =>
    (fail_if_success have := @_root_.Mine.law_modes_ok)
    (((with_reducible show wpAny _ _ (call (Value.ref 144) _) _ _ _); k_dflt (refine' syntax_of_use ?B ?F ?N ?X ?T ?hA ?hf ?hke ?hh ?hd ?hu ?H ?hp ?h0 ?hk ?hN ?_; (case hA => exact rfl); (case hf => exact rfl); (case hke => exact rfl); (case B => k_asm); (case F => k_asm); (case N => k_asm); (case X => k_asm); (case T => k_asm); (case hh => exact rfl); (case hd => (((try simp only [depth_mark, depth_under_make, depth_under_kw, depth_in1, depth_deeper, depth_caller, units_in1, units_deeper, units_caller, Around.mark_units]); (try dsimp only); omega))); (case hu => (((try simp only [depth_mark, depth_under_make, depth_under_kw, depth_in1, depth_deeper, depth_caller, units_in1, units_deeper, units_caller, Around.mark_units]); (try dsimp only); omega))); (case H => assumption); (case hp => assumption); (case h0 => first | assumption | omega); (case hk => first | assumption | omega); (case hN => assumption); k_whole); intro ts h' tk' F' N'; (try k_sweep)))
    try simp only [hSy, List.head?, ov]
  k_with "M call" => (fail_if_success have := @_root_.Mine.law_modes_ok); (((with_reducible show wpAny _ _ (call (Value.ref 137) _) _ _ _); k_dflt (refine' keymap_line_use ?B ?F ?N ?X ?T ?hA ?hf ?hke ?hh ?hd ?hu ?H ?hp ?h0 ?hk ?hN ?_; (case hA => exact rfl); (case hf => exact rfl); (case hke => exact rfl); (case B => k_asm); (case F => k_asm); (case N => k_asm); (case X => k_asm); (case T => k_asm); (case hh => exact rfl); (case hd => (((try simp only [depth_mark, depth_under_make, depth_under_kw, depth_in1, depth_deeper, depth_caller, units_in1, units_deeper, units_caller, Around.mark_units]); (try dsimp only); omega))); (case hu => (((try simp only [depth_mark, depth_under_make, depth_under_kw, depth_in1, depth_deeper, depth_caller, units_in1, units_deeper, units_caller, Around.mark_units]); (try dsimp only); omega))); (case H => assumption); (case hp => assumption); (case h0 => first | assumption | omega); (case hk => first | assumption | omega); (case hN => assumption); k_whole); intro lk kits kn h' tk' hKeys hKeysN hne' F' N'; (replace hne' := allNe_of hne'); (simp only [AllNe, and_true] at hne'); (try k_sweep)))
  k_with "M call" => (fail_if_success have := @_root_.Mine.law_modes_ok); (((with_reducible show wpAny _ _ (call (Value.ref 130) _) _ _ _); k_dflt (refine' is_derived_use ?B ?F ?N ?X ?T ?hA ?hf ?hke ?hh ?hd ?hu ?H ?hp ?h0 ?hk ?hN ?hal ?hai ?_; (case hA => exact rfl); (case hf => exact rfl); (case hke => exact rfl); (case B => k_asm); (case F => k_asm); (case N => k_asm); (case X => k_asm); (case T => k_asm); (case hh => exact rfl); (case hd => (((try simp only [depth_mark, depth_under_make, depth_under_kw, depth_in1, depth_deeper, depth_caller, units_in1, units_deeper, units_caller, Around.mark_units]); (try dsimp only); omega))); (case hu => (((try simp only [depth_mark, depth_under_make, depth_under_kw, depth_in1, depth_deeper, depth_caller, units_in1, units_deeper, units_caller, Around.mark_units]); (try dsimp only); omega))); (case H => assumption); (case hp => assumption); (case h0 => first | assumption | omega); (case hk => first | assumption | omega); (case hN => assumption); (case hal => exact News.isList (by k_asm) (by k_mem)); (case hai => first | assumption | repeat constructor); k_whole); intro h' tk' F' N'; (try k_sweep)))
  k_with "M call" => (fail_if_success have := @_root_.Mine.law_modes_ok); (((with_reducible show wpAny _ _ (call (Value.ref 229) _) _ _ _); k_dflt (refine' law_line_use ?B ?F ?N ?X ?T ?hA ?hf ?hke ?hh ?hd ?hu ?hpl ?hpi ?hps ?hp ?h0 ?hk ?hN ?_; (case hA => exact rfl); (case hf => exact rfl); (case hke => exact rfl); (case B => k_asm); (case F => k_asm); (case N => k_asm); (case X => k_asm); (case T => k_asm); (case hh => exact rfl); (case hd => (((try simp only [depth_mark, depth_under_make, depth_under_kw, depth_in1, depth_deeper, depth_caller, units_in1, units_deeper, units_caller, Around.mark_units]); (try dsimp only); omega))); (case hu => (((try simp only [depth_mark, depth_under_make, depth_under_kw, depth_in1, depth_deeper, depth_caller, units_in1, units_deeper, units_caller, Around.mark_units]); (try dsimp only); omega))); (case hpl => first | exact News.isList (by k_asm) (by k_mem) | exact isList_keeps (Fr.keep (by k_asm)) (by assumption)); (case hpi => assumption); (case hps => assumption); (case hp => assumption); (case h0 => first | assumption | omega); (case hk => first | assumption | omega); (case hN => first | assumption | omega); k_whole); intro lq qits qn h' tk' hLaw hLawN hne' F' N'; (replace hne' := allNe_of hne'); (simp only [AllNe, and_true] at hne'); (try k_sweep)))
  k_with "M iter" =>
    (fail_if_success have := @_root_.Mine.law_modes_ok)
    with_reducible show wpAny _ _ (pyIter _) (fun it s₂ => ForAt _ _ _ _ (Expr.Name (Str.ofString "symbol") _) _ _ it s₂) _ _
    rename IsRange _ _ _ _ _ _ _ _ => hR0
    rename Fr _ _ _ _ => F0
    rename News _ _ _ _ => N0
    k_dflt (refine' forRange0 [Str.ofString "symbol", Str.ofString "line", Str.ofString "other", Str.ofString "near"] (fun _ => True) rfl F0 N0 hR0 (small9 (by omega) (by omega)) (rangeSize9 _) trivial ?_ ?_)
    rotate_left
    clear F0 N0 hR0
    intro m₁ h tk _ F1 N1
    try k_fold
    rotate_left
    clear F0 N0 hR0
    intro i tv m₁ h tk I oI hi _ F1 N1 hne
    replace hne := allNe_of hne
    simp only [AllNe, and_true] at hne
    rw [Int.zero_add]
    have hi0 : (0 : Int) ≤ (i : Int) := by omega
    have hiN : (i : Int) < N := by omega
    try k_fold
  k_with "M iter" =>
    (fail_if_success have := @_root_.Mine.law_modes_ok)
    with_reducible show wpAny _ _ (pyIter _) (fun it s₂ => ForAt _ _ _ _ (Expr.Name (Str.ofString "other") _) _ _ it s₂) _ _
    rename IsRange _ _ _ _ _ _ _ _ => hR0
    rename Fr _ _ _ _ => F0
    rename News _ _ _ _ => N0
    k_dflt (refine' forRange0 [Str.ofString "other"] (fun _ => True) rfl F0 N0 hR0 (small9 (by omega) (by omega)) (rangeSize9 _) trivial ?_ ?_)
    rotate_left
    clear F0 N0 hR0
    intro m₂ h2 tk _ F1 N1
    try k_fold
    rotate_left
    clear F0 N0 hR0
    intro i2 tv2 m₂ h2 tk I2 oI2 hi2 _ F1 N1 hne2
    replace hne2 := allNe_of hne2
    simp only [AllNe, and_true] at hne2
    rw [Int.zero_add]
    try k_fold
  k_with "M src" =>
    (fail_if_success have := @_root_.Mine.law_modes_ok)
    with_reducible show LCt.CompSrcT _ _ _ _ _ _ _ _ (Expr.Subscript (Expr.Name (Str.ofString "keymaps") _) _ _) _ _ _ _ _ _
    rename IntsAre _ (List.reverse (List.reverse _)) => hW
    rw [List.reverse_reverse] at hW
    have hWl := hW.length
    have hul := up_len6 hp (k := (i : Int)) (by omega)
    rename Fr _ _ _ _ => F0
    rename News _ _ _ _ => N0
    k_dflt (refine LCt.CompSrcT.ledger rfl F0 N0 (by k_mem) (by rw [PySem.sizeLine_eq]; simp; omega) ?_)
    intro g2
    k_dflt (refine' compT_fix (fun j ys => IntsAre ys (((up pa (i : Int)).take j).filterMap km) ∧ ys.length ≤ j) ⟨.nil, Nat.le_refl _⟩ ?_ ?_)
    rotate_left
    intro ys hys D h tk F1 N1 off
    simp only [LCg.Off1, and_true] at off
    obtain ⟨hys, hysN⟩ := hys
    rw [List.size_toArray, hWl, List.take_length] at hys
    rw [List.size_toArray] at hysN
    clear F0 N0
    try k_fold
    rotate_left
    clear F0 N0
    intro j v ys I3 oI3 C oC D m₃ h tk E' hj hP hJ hC hx F1 N1 off ne
    obtain ⟨own, town, rfl, hown⟩ := IntsAre.at hW j v (by simpa using hP)
    have hr := up_mem hp ((i : Int) + 1).toNat (i : Int) (Nat.le_refl _) own (List.mem_of_getElem? hown)
    have hoff := off
    simp only [LCg.Off3, and_true] at hoff
    obtain ⟨tk9, hkx⟩ := hkv own hr.1 (by omega)
    rcases hkm : km own with _ | kv <;> simp only [hkm, ov] at hkx
    all_goals (try k_fold)
  k_with "M src" =>
    (fail_if_success have := @_root_.Mine.law_modes_ok)
    with_reducible show LCt.CompSrcT _ _ _ _ _ _ _ _ (Expr.Subscript (Expr.Name (Str.ofString "tables") _) _ _) _ _ _ _ _ _
    have hWl := hW.length
    have hul := up_len6 hp (k := (i : Int)) (by omega)
    rename Fr _ _ _ _ => F0
    rename News _ _ _ _ => N0
    k_dflt (refine LCt.CompSrcT.ledger rfl F0 N0 (by k_mem) (by rw [PySem.sizeLine_eq]; simp; omega) ?_)
    intro g2
    k_dflt (refine' compT_fix (fun j ys => IntsAre ys (((up pa (i : Int)).take j).filterMap sy) ∧ ys.length ≤ j) ⟨.nil, Nat.le_refl _⟩ ?_ ?_)
    rotate_left
    intro ys hys D h tk F1 N1 off
    simp only [LCg.Off1, and_true] at off
    obtain ⟨hys, hysN⟩ := hys
    rw [List.size_toArray, hWl, List.take_length] at hys
    rw [List.size_toArray] at hysN
    clear F0 N0
    rcases hSy : (up pa (i : Int)).filterMap sy with _ | ⟨v0, r0⟩ <;> rw [hSy] at hys <;> cases hys
    all_goals (try k_fold)
    rotate_left
    rotate_left
    clear F0 N0
    intro j v ys I3 oI3 C oC D m₃ h tk E' hj hP hJ hC hx F1 N1 off ne
    obtain ⟨own, town, rfl, hown⟩ := IntsAre.at hW j v (by simpa using hP)
    have hr := up_mem hp ((i : Int) + 1).toNat (i : Int) (Nat.le_refl _) own (List.mem_of_getElem? hown)
    have hoff := off
    simp only [LCg.Off3, and_true] at hoff
    obtain ⟨tk9, htx⟩ := htv own hr.1 (by omega)
    rcases hkm : sy own with _ | kv <;> simp only [hkm, ov] at htx
    all_goals (try k_fold)
  (((have M0 : ∀ q ∈ ([] : List (Addr × Obj)), s.heap.get? q.1 = some q.2 ∧ g.get? q.1 = none := fun _ hq => nomatch hq); ((k_dflt (refine' enterSC0 ?k1 ?k2 ?k3 ?k4 ?k5 ?k6 ?kl ?k7 ?k8 ?k9 ?kB ?kD ?_ ?c2 ?c3 ?c4; (case k1 => assumption); (case k2 => assumption); (case k3 => assumption); (case k4 => assumption); (case k5 => assumption); (case k6 => k_is); (case kl => (refine ⟨⟨?_, ?_⟩, ?_⟩ <;> (conv => rhs; whnf) <;> exact rfl)); (case k7 => k_is); (case k8 => k_room); (case k9 => exact binds_zip (by kernel_rfl)); (case kB => exact rfl); (case kD => decide +kernel); (case c2 => exact rfl); (case c3 => exact rfl); (case c4 => exact rfl); k_whole))); intro L' h₁ tk₁ cells hL hL2 hst F' N' Y' l0'; clear l0'; (k_cells Y'); (try simp only [List.cons_append, List.nil_append] at N'); (try dsimp only); (try k_fold)))
  k_steps
  · exfalso
    rename_i hb
    rw [List.reverse_reverse, any_line (fun x hx => by have := up_mem hp ((i : Int) + 1).toNat (i : Int) (Nat.le_refl _) x hx; omega), bne_self_eq_false] at hb
    exact Bool.false_ne_true hb
  · rename Fr _ _ _ _ => F9
    rename News _ _ _ _ => N9
    exact turnEnd0 F9 N9 (by ((intro z h3; (try dsimp only); (simp only [List.contains_cons, List.contains_nil, Bool.or_false, Bool.or_eq_false_iff, beq_eq_false_iff_ne, ne_eq] at h3); first | (simp [h3]; done) | (simp only [h3, if_false, ite_false, List.contains_cons, List.contains_nil, Bool.or_false]; simp [h3]; done)))) (by k_extra "SUB") (by k_extra "OFF") trivial
  · rw [filterMap_take _ hown, hkm]
    simpa using hJ.1
  · rw [filterMap_take _ hown, hkm]
    exact IntsAre.append hJ.1 (.cons _ _ .nil)
  · rw [filterMap_take _ hown, hkm]
    simpa using hJ.1
  · rw [filterMap_take _ hown, hkm]
    exact IntsAre.append hJ.1 (.cons _ _ .nil)
  · rename Fr _ _ _ _ => F9
    rename News _ _ _ _ => N9
    exact turnEnd0 F9 N9 (by ((intro z h3; (try dsimp only); (simp only [List.contains_cons, List.contains_nil, Bool.or_false, Bool.or_eq_false_iff, beq_eq_false_iff_ne, ne_eq] at h3); first | (simp [h3]; done) | (simp only [h3, if_false, ite_false, List.contains_cons, List.contains_nil, Bool.or_false]; simp [h3]; done)))) (by k_extra "SUB") (by k_extra "OFF") trivial
  · exfalso
    rename_i hb
    simp at hb
  · exfalso
    rename_i hb
    simp at hb
  · rename Fr _ _ _ _ => F9
    rename News _ _ _ _ => N9
    exact turnEnd0 F9 N9 (by ((intro z h3; (try dsimp only); (simp only [List.contains_cons, List.contains_nil, Bool.or_false, Bool.or_eq_false_iff, beq_eq_false_iff_ne, ne_eq] at h3); first | (simp [h3]; done) | (simp only [h3, if_false, ite_false, List.contains_cons, List.contains_nil, Bool.or_false]; simp [h3]; done)))) (by k_extra "SUB") (by k_extra "OFF") trivial
  · (((try dsimp only); (try (k_unfold; (try dsimp only)))))
    rename Fr _ _ _ _ => F9
    exact hret _ _ F9.keep
set_option maxHeartbeats 1000000 in
theorem switch_steps_ok {w : World} {p : Program} {loose : List Str} {mean : ExcName → Option Value} {mg mb : Str → Option Value} {A : Around} {base g : Heap} {outer : List Env} {s : Shared} {R : Result → Shared → Prop}
    {T MA MI O : Addr} {k : Int} {tk : Tok} {f : Int → Option Value} {N : Int} {pa : Int → Int} {km sy : Int → Option Int}
    (G : Gnd (Mine.hd.heap_39 w.params) p loose mean mg mb A base outer g s.heap) (hh : A.handled = none) (hd : A.depth < 430) (hu : A.units < 1300)
    (H : TabG w g T MA MI O f N pa km sy) (hp : Par pa) (h0 : 0 ≤ k) (hk : k < N) (hN : N ≤ 6)
    (hret : ∀ l items n h' tk', g.StaysIn h' → g.get? l = none → h'.get? l = some (listOf (List.toArray items) n) → Pairs (fun d o => h'.get? d = some o ∧ g.get? d = none ∧ d ≠ l) items (stepsOf (up pa k).reverse k) → R (.ok (.ret (.ref l))) { s with heap := h', toks := tk' }) :
    codeAny (model PG w) A (.call (.ref 184) ⟨[.ref T, .int k tk], []⟩) R s := by
  ((obtain ⟨B, X, Tp, st, hsz⟩ := G; obtain ⟨hd0, dp, fr, gd, un⟩ := A; have hfr : fr = some outer := B.stack; subst hfr; simp only at hh hd hu; subst hh))
  ((have hT := H.tab; obtain ⟨dT, nT, q0, q1, q2, hT1, hT2⟩ := H.tab; have hm := H.maj; have lo := H.lo))
  k_with "M call" => (fail_if_success have := @_root_.Mine.switch_steps_ok); (((with_reducible show wpAny _ _ (call (Value.ref 125) _) _ _ _); k_dflt (refine' line_of_use ?B ?F ?N ?X ?T ?hA ?hf ?hke ?hh ?hd ?hu ?H ?hp ?h0 ?hk ?hN ?_; (case hA => exact rfl); (case hf => exact rfl); (case hke => exact rfl); (case B => k_asm); (case F => k_asm); (case N => k_asm); (case X => k_asm); (case T => k_asm); (case hh => exact rfl); (case hd => (((try simp only [depth_mark, depth_under_make, depth_under_kw, depth_in1, depth_deeper, depth_caller, units_in1, units_deeper, units_caller, Around.mark_units]); (try dsimp only); omega))); (case hu => (((try simp only [depth_mark, depth_under_make, depth_under_kw, depth_in1, depth_deeper, depth_caller, units_in1, units_deeper, units_caller, Around.mark_units]); (try dsimp only); omega))); (case H => assumption); (case hp => assumption); (case h0 => assumption); (case hk => assumption); (case hN => assumption); k_whole); intro ll lits ln h' tk' hLine hLineN hne' F' N'; (replace hne' := allNe_of hne'); (simp only [AllNe, and_true] at hne'); (try k_sweep)))
  k_with "M src" =>
    (fail_if_success have := @_root_.Mine.switch_steps_ok)
    with_reducible show LCg.CompSrc _ _ _ _ _ _ _ (Expr.Tuple [Expr.Name (Str.ofString "BODY") _, _] _ _) _ _ _ _ _ _
    rename IntsAre _ (List.reverse _) => hW
    have hWl := hW.length
    have hul := up_len6 hp (Int.lt_of_lt_of_le hk hN)
    have hup := up_pos hp (s := k) h0
    have hupl := congrArg List.length hup
    simp only [List.length_cons, List.length_reverse] at hupl hWl
    rename Fr _ _ _ _ => F0
    rename News _ _ _ _ => N0
    k_dflt (refine LCg.CompSrc.ledger rfl F0 N0 (by k_mem) (by rw [PySem.sizeLine_eq]; simp; omega) ?_)
    intro g2
    k_dflt (refine' compPairs 2 hW (fun nw hs => Or.inr ⟨_, hs _ (by k_mem), rfl, _, rfl⟩) ?_ ?_)
    rotate_left
    intro ys tups hP hA D h tk F1 N1 off
    have hPl := hP.length
    rw [List.length_map, List.length_reverse] at hPl
    have hy0 : ys.length ≠ 0 := by omega
    have hy6 : ys.length ≤ 6 := by omega
    replace hA : Apart tups _ := hA
    simp only [List.cons_append, List.nil_append] at N1 off
    simp only [LCg.Off1, and_true] at off
    clear F0 N0
    try k_fold
    rotate_left
    clear F0 N0
    intro own t nw I oI C oC D oD m₂ h tk E' hC hx F1 N1
    try k_fold
  k_with "M src" =>
    (fail_if_success have := @_root_.Mine.switch_steps_ok)
    with_reducible show LCg.CompSrc _ _ _ _ _ _ _ (Expr.Tuple [Expr.Name (Str.ofString "HOOK") _, _] _ _) _ _ _ _ _ _
    rename Fr _ _ _ _ => F0
    rename News _ _ _ _ => N0
    k_dflt (refine LCg.CompSrc.ledger rfl F0 N0 (by k_mem) (by rw [PySem.sizeLine_eq]; simp; omega) ?_)
    intro g2
    k_dflt (refine' compPairs 3 hW (fun nw hs => Or.inr ⟨_, hs _ (by k_mem), rfl, _, rfl⟩) ?_ ?_)
    rotate_left
    intro ys2 tups2 hP2 hA2 D2 h tk F1 N1 off2
    have hPl2 := hP2.length
    rw [List.length_map, List.length_reverse] at hPl2
    have hy20 : ys2.length ≠ 0 := by omega
    have hy26 : ys2.length ≤ 6 := by omega
    replace hA2 : Apart tups2 _ := hA2
    simp only [List.cons_append, List.nil_append] at N1 off2
    simp only [LCg.Off1, off1_app, and_true] at off2
    clear F0 N0
    try k_fold
    rotate_left
    clear F0 N0
    intro own t nw I oI C oC D oD m₂ h tk E' hC hx F1 N1
    try k_fold
  (((have M0 : ∀ q ∈ ([] : List (Addr × Obj)), s.heap.get? q.1 = some q.2 ∧ g.get? q.1 = none := fun _ hq => nomatch hq); ((k_dflt (refine' enterS0 ?k1 ?k2 ?k3 ?k4 ?k5 ?k6 ?kl ?k7 ?k8 ?k9 ?kB ?_ ?c2 ?c3 ?c4 ?c5; (case k1 => assumption); (case k2 => assumption); (case k3 => assumption); (case k4 => assumption); (case k5 => assumption); (case k6 => k_is); (case kl => (refine ⟨⟨?_, ?_⟩, ?_⟩ <;> (conv => rhs; whnf) <;> exact rfl)); (case k7 => k_is); (case k8 => k_room); (case k9 => exact binds_zip (by kernel_rfl)); (case c5 => decide); (case kB => exact locs rfl); (case c2 => exact rfl); (case c3 => exact rfl); (case c4 => exact rfl); k_whole))); intro L' h₁ hL hL2 hst F' N'; (try dsimp only); (try k_fold)))
  k_steps
  · rename Fr _ _ _ _ => F9
    rename News _ _ _ _ => N9
    rename _ ∧ _ => l9
    exact ⟨_, _, _, _, _, rfl, rfl, F9, N9, l9⟩
  · rename Fr _ _ _ _ => F9
    rename News _ _ _ _ => N9
    rename _ ∧ _ => l9
    exact ⟨_, _, _, _, _, rfl, rfl, F9, N9, l9⟩
  · (((try dsimp only); (try (k_unfold; (try dsimp only)))))
    rename Fr _ _ _ _ => F9
    rename News _ _ _ _ => N9
    rw [List.push_toArray] at N9
    refine hret _ _ _ _ _ F9.keep (N9 (_, _) (by k_mem)).2.2 (N9.get (by k_mem)) ?_
    show Pairs _ ([_, _] ++ ys ++ ys2 ++ [_]) ([(0, k), (1, k)] ++ _ ++ _ ++ [(4, k)])
    refine Pairs.append (Pairs.append (Pairs.append (.cons ⟨N9.get (by k_mem), (N9 (_, _) (by k_mem)).2.2, ?_⟩ (.cons ⟨N9.get (by k_mem), (N9 (_, _) (by k_mem)).2.2, ?_⟩ .nil))
      (hP.mono fun d o (hm : (d, o) ∈ _) => ⟨N9.get (by k_mem), (N9 (d, o) (by k_mem)).2.2, hA.all (by k_mem) (d, o) hm⟩)) (hP2.mono fun d o (hm : (d, o) ∈ _) => ⟨N9.get (by k_mem), (N9 (d, o) (by k_mem)).2.2, hA2.all (by k_mem) (d, o) hm⟩))
      (.cons ⟨N9.get (by k_mem), (N9 (_, _) (by k_mem)).2.2, ?_⟩ .nil)
    all_goals k_ne

theorem switch_steps_use {w : World} {p : Program} {loose : List Str} {mean : ExcName → Option Value} {mg mb : Str → Option Value} {A₀ A : Around} {base h₀ : Heap} {outer : List Env} {env : Env} {L : Addr} {m : Str → Option Value} {news : List (Addr × Obj)} {s : Shared} {Q E : Value → Shared → Prop}
    {T MA MI O : Addr} {k : Int} {tk : Tok} {f : Int → Option Value} {N : Int} {pa : Int → Int} {km sy : Int → Option Int}
    (B : Below A₀ base outer h₀) (F : Fr h₀ L s.heap m) (Nw : News h₀ L s.heap news) (X : (Mine.hd.heap_39 w.params).In h₀) (Tp : Top p loose mean mg mb h₀)
    (hA : A.frames = some (env :: outer)) (hf : env.frame = some L) (hke : env.scope.kind = .function) (hh : A.handled = none) (hd : A.depth < 430) (hu : A.units < 1300)
    (H : TabG w h₀ T MA MI O f N pa km sy) (hp : Par pa) (h0 : 0 ≤ k) (hk : k < N) (hN : N ≤ 6)
    (h : ∀ l items n tups h' tk', Pairs (fun d o => (d, o) ∈ tups) items (stepsOf (up pa k).reverse k) → Apart tups ((l, listOf (List.toArray items) n) :: news) → (∀ q ∈ news, q.1 ≠ l) → Fr h₀ L h' m →
      News h₀ L h' ((l, listOf (List.toArray items) n) :: (news ++ tups)) → Q (.ref l) { s with heap := h', toks := tk' }) :
    wpAny (model PG w) A (call (.ref 184) [.ref T, .int k tk]) Q E s := by
  obtain ⟨G, back⟩ := useP (A := A) B F Nw X Tp hA hf hke
  refine wpAny_call (switch_steps_ok G hh hd hu (H.keeps F.keep) hp h0 hk hN fun l items n h' tk' st hn hl hi => ?_)
  obtain ⟨F', N'⟩ := back h' st
  obtain ⟨tups, hP, hT⟩ := hi.led
  have hN1 : News h₀ L h' ((l, listOf (List.toArray items) n) :: news) := news_add N' F hn hl
  refine h l items n tups h' tk' hP (fun q hq r hr e => ?_) (ne_of_new Nw hn) F' (fun q hq => ?_)
  · rcases List.mem_cons.mp hr with rfl | hr
    · exact (hT q hq).2.2 e.symm
    · have := (Nw r hr).1; rw [e, (hT q hq).2.1] at this; cases this
  · rcases List.mem_cons.mp hq with rfl | hq
    · exact hN1 _ (.head _)
    rcases List.mem_append.mp hq with hq | hq
    · exact N' q hq
    · exact news_add N' F (hT q hq).2.1 (hT q hq).1 _ (.head _)

set_option maxHeartbeats 4000000 in
theorem switch_ok {w : World} {p : Program} {loose : List Str} {mean : ExcName → Option Value} {mg mb : Str → Option Value} {A : Around} {base g : Heap} {outer : List Env} {s : Shared} {R : Result → Shared → Prop}
    {T MA MI O : Addr} {k : Int} {tk : Tok} {f : Int → Option Value} {N : Int} {pa : Int → Int} {km sy : Int → Option Int}
    {S D ON ST lam PM : Addr} {mj0 : Int} {n0 nst : Nat} {t0 t1 u : Tok} {ovs sts : List Value} {os : List Int} {pf : Int → Option Value}
    (G : Gnd (Mine.hd.heap_39 w.params) p loose mean mg mb A base outer g s.heap) (hh : A.handled = none) (hd : A.depth < 420) (hu : A.units < 1250)
    (H : TabG w g T MA MI O f N pa km sy) (hp : Par pa) (h0 : 0 ≤ k) (hk : k < N) (hN : N ≤ 6)
    (hS : g.get? S = some (instObj 175 D)) (M : ∀ q ∈ [(D, stD w n0 t0 t1 u mj0 ON), (ST, listOf sts.toArray nst)], s.heap.get? q.1 = some q.2 ∧ g.get? q.1 = none) (hDS : @Ne Nat D ST)
    (hON : g.IsList ON ovs.toArray) (hoi : IntsAre ovs os) (hol : os.length ≤ 100)
    (hPM : g.MapOf (intKind PG w) PM pf) (loP : (PM == sysModules) = false) (hdo : DoSpec w p loose mean mg mb g lam ST) (hfn : FnAt lam g) (hst : sts.length ≤ 10)
    (hret : ∀ n' t0 t1 u' ON' ovs' n2 new n3 h' tk', g.StaysIn h' → h'.get? D = some (stD w n' t0 t1 u' k ON') → h'.get? ON' = some (listOf (List.toArray ovs') n2) → g.get? ON' = none → ON' ≠ ST → IntsAre ovs' (os.filter fun x => (pf x).isSome) →
      h'.get? ST = some (listOf (sts ++ new).toArray n3) → Pairs (fun d o => h'.get? d = some o ∧ g.get? d = none) new (stepsOf (up pa k).reverse k) → R (.ok (.ret .none)) { s with heap := h', toks := tk' }) :
    codeAny (model PG w) A (.call (.ref 189) ⟨[.ref T, .ref S, .int k tk, .ref PM, .ref lam], []⟩) R s := by
  ((obtain ⟨B, X, Tp, st, hsz⟩ := G; obtain ⟨hd0, dp, fr, gd, un⟩ := A; have hfr : fr = some outer := B.stack; subst hfr; simp only at hh hd hu; subst hh))
  ((have hT := H.tab; obtain ⟨dT, nT, q0, q1, q2, hT1, hT2⟩ := H.tab; have hm := H.maj; have lo := H.lo))
  have hul := up_len6 hp (Int.lt_of_lt_of_le hk hN)
  have hovl := hoi.length
  k_with "M call" => (fail_if_success have := @_root_.Mine.switch_ok); (((with_reducible show wpAny _ _ (call (Value.ref 184) _) _ _ _); k_dflt (refine' switch_steps_use ?B ?F ?N ?X ?T ?hA ?hf ?hke ?hh ?hd ?hu ?H ?hp ?h0 ?hk ?hN ?_; (case hA => exact rfl); (case hf => exact rfl); (case hke => exact rfl); (case B => k_asm); (case F => k_asm); (case N => k_asm); (case X => k_asm); (case T => k_asm); (case hh => exact rfl); (case hd => (((try simp only [depth_mark, depth_under_make, depth_under_kw, depth_in1, depth_deeper, depth_caller, units_in1, units_deeper, units_caller, Around.mark_units]); (try dsimp only); omega))); (case hu => (((try simp only [depth_mark, depth_under_make, depth_under_kw, depth_in1, depth_deeper, depth_caller, units_in1, units_deeper, units_caller, Around.mark_units]); (try dsimp only); omega))); (case H => assumption); (case hp => assumption); (case h0 => first | assumption | omega); (case hk => first | assumption | omega); (case hN => assumption); k_whole); intro lst its nst tups h' tk' hSteps hStepsA hneS F' N'; (replace hneS := allNe_of hneS); (simp only [AllNe, and_true] at hneS); (try simp only [List.cons_append, List.nil_append] at N'); (try k_sweep)))
  k_with "M call" => (fail_if_success have := @_root_.Mine.switch_ok); (((with_reducible show wpAny _ _ (call (Value.ref _) [Value.int _ _, Value.int _ _]) _ _ _); k_dflt (refine' do_use ?B ?F ?N ?X ?T ?hA ?hf ?hke ?hh ?hd ?hu ?hS ?P ?hz ?_; (case hA => exact rfl); (case hf => exact rfl); (case hke => exact rfl); (case B => k_asm); (case F => k_asm); (case N => k_asm); (case X => k_asm); (case T => k_asm); (case hh => exact rfl); (case hd => (((try simp only [depth_mark, depth_under_make, depth_under_kw, depth_in1, depth_deeper, depth_caller, units_in1, units_deeper, units_caller, Around.mark_units]); (try dsimp only); omega))); (case hu => (((try simp only [depth_mark, depth_under_make, depth_under_kw, depth_in1, depth_deeper, depth_caller, units_in1, units_deeper, units_caller, Around.mark_units]); (try dsimp only); omega))); (case hS => assumption); (case P => k_extra "PICK"); (case hz => ((try simp only [List.length_append, List.length_cons, List.length_nil]); omega)); k_whole); intro dd dn h' tk' dta dtb hneD F' N'; (simp only [AllNe, and_true] at hneD); (try k_sweep)))
  k_with "M iter" =>
    (fail_if_success have := @_root_.Mine.switch_ok)
    have hSl := hSteps.length
    have hS2 : (stepsOf (up pa k).reverse k).length ≤ 15 := by simp [stepsOf]; omega
    rename Fr _ _ _ _ => F0
    rename News _ _ _ _ => N0
    k_dflt (refine' forSteps (L := L') (D := D) (ST := ST) (sts := sts) [Str.ofString "sort", Str.ofString "own"] (fun x => (pf x).isSome) os hp h0 rfl rfl rfl rfl rfl F0 N0 (by k_extra "PICKS") (by k_mem) hSteps (fun q hq => by k_mem) ?_ ?_)
    rotate_left
    clear F0 N0
    intro m₁ h tk n' t0 t1 u' ON' new n3 tail ovs' n2 hnew hON' hOi' hT1' hT2' F1 N1
    simp only [List.cons_append] at N1
    try k_fold
    rotate_left
    clear F0 N0
    intro i a b ta tb m₁ h tk I oI n' t0 t1 u' ON' new n3 tail hps hi1 hi2 hT1' hT2' hnew hkI htI hDI hSI F1 N1
    have hnl := hnew.length
    simp only [List.length_take] at hnl
    have hn15 : new.length ≤ 15 := hnl ▸ Nat.le_trans (Nat.min_le_right _ _) hS2
    have hkI' := allNe_of hkI
    simp only [AllNe] at hkI'
    simp only [List.cons_append] at N1
    have ha1 := steps_at1 hps
    rcases Decidable.em (a = 1) with ha | ha
    have hON1 := hi1 (by have := ha1.mp ha; omega)
    subst hON1
    subst ha
    try k_fold
    rotate_left
    try k_fold
  k_with "M src" =>
    (fail_if_success have := @_root_.Mine.switch_ok)
    exfalso
    omega
  k_with "M src" =>
    (fail_if_success have := @_root_.Mine.switch_ok)
    rename Fr _ _ _ _ => F0
    rename News _ _ _ _ => N0
    k_dflt (refine LCt.CompSrcT.base rfl F0 N0 hON (by rw [PySem.sizeLine_eq]; simp; omega) ?_)
    intro g2
    k_dflt (refine' compT_fix (fun j ys => IntsAre ys ((os.take j).filter fun x => (pf x).isSome) ∧ ys.length ≤ j) ⟨.nil, Nat.le_refl _⟩ ?_ ?_)
    rotate_left
    intro ys hys D2 h tk F1 N1 off
    obtain ⟨hys, hysN⟩ := hys
    rw [List.size_toArray, hovl, List.take_length] at hys
    simp only [LCg.Off1, off1_app, and_true] at off
    clear F0 N0
    try k_fold
    rotate_left
    clear F0 N0
    intro j v ys I3 oI3 C oC D3 m₃ h tk E' hj hP hJ hC hx F1 N1 off ne
    obtain ⟨own, town, rfl, hown⟩ := IntsAre.at hoi j v (by simpa using hP)
    have hoff := off
    simp only [LCg.Off3, and_true] at hoff
    try k_fold
  ((k_dflt (refine' enterSC0 ?k1 ?k2 ?k3 ?k4 ?k5 ?k6 ?kl ?k7 ?k8 ?k9 ?kB ?kD ?_ ?c2 ?c3 ?c4; (case k1 => assumption); (case k2 => assumption); (case k3 => assumption); (case k4 => assumption); (case k5 => assumption); (case k6 => k_is); (case kl => (refine ⟨⟨?_, ?_⟩, ?_⟩ <;> (conv => rhs; whnf) <;> exact rfl)); (case k7 => k_is); (case k8 => k_room); (case k9 => exact binds_zip (by kernel_rfl)); (case kB => exact rfl); (case kD => decide +kernel); (case c2 => exact rfl); (case c3 => exact rfl); (case c4 => exact rfl); k_whole)))
  intro L' h₁ tk₁ cells hL hL2 hst F' N' Y' l0'
  replace l0' := allLt_of l0'
  simp only [AllLt, and_true] at l0'
  k_cells Y'
  try simp only [List.cons_append, List.nil_append] at N'
  try dsimp only
  try k_fold
  k_steps
  · rename Fr _ _ _ _ => F9
    rename News _ _ _ _ => N9
    rename a = 2 => ha2
    exact stepEnd hps hnew hi1 hi2 hT1' hT2' F9 N9 (by ((intro z h3; (try dsimp only); (simp only [List.contains_cons, List.contains_nil, Bool.or_false, Bool.or_eq_false_iff, beq_eq_false_iff_ne, ne_eq] at h3); first | (simp [h3]; done) | (simp only [h3, if_false, ite_false, List.contains_cons, List.contains_nil, Bool.or_false]; simp [h3]; done)))) (by k_mem) (if_pos ha2).symm (by k_mem) (by k_mem) (by k_mem) (by k_extra "SUB") (fun q hq => by k_mem) (by k_ne) (by k_ne) (by k_ne) hkI htI hDI hSI (.inr ⟨ha, rfl⟩)
  · rename Fr _ _ _ _ => F9
    rename News _ _ _ _ => N9
    rename a ≠ 2 => ha2
    exact stepEnd hps hnew hi1 hi2 hT1' hT2' F9 N9 (by ((intro z h3; (try dsimp only); (simp only [List.contains_cons, List.contains_nil, Bool.or_false, Bool.or_eq_false_iff, beq_eq_false_iff_ne, ne_eq] at h3); first | (simp [h3]; done) | (simp only [h3, if_false, ite_false, List.contains_cons, List.contains_nil, Bool.or_false]; simp [h3]; done)))) (by k_mem) (if_neg ha2).symm (by k_mem) (by k_mem) (by k_mem) (by k_extra "SUB") (fun q hq => by k_mem) (by k_ne) (by k_ne) (by k_ne) hkI htI hDI hSI (.inr ⟨ha, rfl⟩)
  · exact hret n' t0 t1 u' ON' ovs' n2 new n3 h _ F1.keep (N1.get (by k_mem)) (N1.get (by k_mem)) (N1 (_, _) (by k_mem)).2.2 (hT2' _ hON') hOi' (N1.get (by k_mem)) (hnew.mono fun d o (hm : (d, o) ∈ _) => ⟨N1.get (by k_mem), (N1 (d, o) (by k_mem)).2.2⟩)
  · rename_i hb
    rw [filter_take _ hown, if_pos hb]
    exact IntsAre.append hJ.1 (.cons _ _ .nil)
  · rename_i hb
    rw [filter_take _ hown, if_neg (by rw [hb]; exact Bool.false_ne_true), List.append_nil]
    exact hJ.1
  · rename Fr _ _ _ _ => F9
    rename News _ _ _ _ => N9
    exact stepEnd hps hnew hi1 hi2 hT1' hT2' F9 N9 (by ((intro z h3; (try dsimp only); (simp only [List.contains_cons, List.contains_nil, Bool.or_false, Bool.or_eq_false_iff, beq_eq_false_iff_ne, ne_eq] at h3); first | (simp [h3]; done) | (simp only [h3, if_false, ite_false, List.contains_cons, List.contains_nil, Bool.or_false]; simp [h3]; done)))) (by k_mem) (if_neg (by decide)).symm (by k_mem) (by k_mem) (by k_mem) (by k_extra "SUB") (fun q hq => by k_mem) (by k_ne) (by k_ne) (by k_ne) hkI htI hDI hSI
      (.inl ⟨rfl, ys, _, by k_mem, hys, by k_ne, by k_ne, by k_ne⟩)
theorem switch_use {w : World} {p : Program} {loose : List Str} {mean : ExcName → Option Value} {mg mb : Str → Option Value} {A₀ A : Around} {base h₀ : Heap} {outer : List Env} {env : Env} {L : Addr} {m : Str → Option Value} {news rest : List (Addr × Obj)} {s : Shared} {Q E : Value → Shared → Prop}
    {T MA MI O : Addr} {k : Int} {tk : Tok} {f : Int → Option Value} {N : Int} {pa : Int → Int} {km sy : Int → Option Int}
    {S D ON ST lam PM : Addr} {mj0 : Int} {n0 nst : Nat} {t0 t1 u : Tok} {ovs sts : List Value} {os : List Int} {pf : Int → Option Value}
    (B : Below A₀ base outer h₀) (F : Fr h₀ L s.heap m) (Nw : News h₀ L s.heap news) (X : (Mine.hd.heap_39 w.params).In h₀) (Tp : Top p loose mean mg mb h₀)
    (hA : A.frames = some (env :: outer)) (hf : env.frame = some L) (hke : env.scope.kind = .function) (hh : A.handled = none) (hd : A.depth < 420) (hu : A.units < 1250)
    (H : TabG w h₀ T MA MI O f N pa km sy) (hp : Par pa) (h0 : 0 ≤ k) (hk : k < N) (hN : N ≤ 6)
    (hS : h₀.get? S = some (instObj 175 D)) (P : Picks [(D, stD w n0 t0 t1 u mj0 ON), (ST, listOf sts.toArray nst)] news rest) (hDS : @Ne Nat D ST)
    (hON : h₀.IsList ON ovs.toArray) (hoi : IntsAre ovs os) (hol : os.length ≤ 100)
    (hPM : h₀.MapOf (intKind PG w) PM pf) (loP : (PM == sysModules) = false) (hdo : ∀ g, h₀.StaysIn g → (∀ q ∈ rest, g.get? q.1 = some q.2) → DoSpec w p loose mean mg mb g lam ST) (hfn : ∀ g : Heap, h₀.StaysIn g → (∀ q ∈ rest, g.get? q.1 = some q.2) → FnAt lam g) (hst : sts.length ≤ 10)
    (h : ∀ n' t0 t1 u' ON' ovs' n2 new n3 tups h' tk', IntsAre ovs' (os.filter fun x => (pf x).isSome) → Pairs (fun d o => (d, o) ∈ tups) new (stepsOf (up pa k).reverse k) → ON' ≠ ST → (∀ q ∈ news, q.1 ≠ ON') → Apart tups news →
      Fr h₀ L h' m → News h₀ L h' ((ON', listOf (List.toArray ovs') n2) :: (D, stD w n' t0 t1 u' k ON') :: (ST, listOf (sts ++ new).toArray n3) :: (rest ++ tups)) → Q .none { s with heap := h', toks := tk' }) :
    wpAny (model PG w) A (call (.ref 189) [.ref T, .ref S, .int k tk, .ref PM, .ref lam]) Q E s := by
  obtain ⟨p1, p2⟩ := P.spec
  have pick : ∀ q ∈ news, q = (D, stD w n0 t0 t1 u mj0 ON) ∨ q = (ST, listOf sts.toArray nst) ∨ q ∈ rest := fun q hq => by
    rcases P.one q hq with h | h
    · rcases List.mem_cons.mp h with h | h
      · exact .inl h
      · exact .inr (.inl (List.mem_singleton.mp h))
    · exact .inr (.inr h)
  obtain ⟨g, G, gm, gr, _, st, back⟩ := useS [(D, stD w n0 t0 t1 u mj0 ON), (ST, listOf sts.toArray nst)] rest B F Nw X Tp hA hf hke p1 p2
  refine wpAny_call (switch_ok G hh hd hu (H.keeps st) hp h0 hk hN (st _ _ hS) gm hDS (isList_keeps st hON) hoi hol (mapOf_keeps st hPM) loP (hdo g st gr) (hfn g st gr) hst fun n' t0 t1 u' ON' ovs' n2 new n3 h' tk' sk h1 h2 h3 h4 h5 h6 h7 => ?_)
  obtain ⟨tups, hP, hT, hC⟩ := h7.led'
  obtain ⟨F', N'⟩ := back h' ((ON', listOf (List.toArray ovs') n2) :: (D, stD w n' t0 t1 u' k ON') :: (ST, listOf (sts ++ new).toArray n3) :: tups) sk (fun q hq => by
    rcases List.mem_cons.mp hq with rfl | hq
    · exact ⟨h2, h3⟩
    rcases List.mem_cons.mp hq with rfl | hq
    · exact ⟨h1, (gm _ (.head _)).2⟩
    rcases List.mem_cons.mp hq with rfl | hq
    · exact ⟨h6, (gm _ (.tail _ (.head _))).2⟩
    · exact hT q hq)
  refine h n' t0 t1 u' ON' ovs' n2 new n3 tups h' tk' h5 hP h4 (fun q hq e => ?_) (fun q hq r hr e => ?_) F' (fun q hq => N' q ?_)
  · rcases pick q hq with rfl | rfl | hq
    · exact get_ne h1 h2 (by simp) e
    · exact h4 e.symm
    · have := gr q hq; rw [e, h3] at this; cases this
  · rcases pick r hr with rfl | rfl | hr
    · exact get_ne h1 (hT q hq).1 (by rw [hC q hq]; simp) e
    · exact get_ne h6 (hT q hq).1 (by rw [hC q hq]; simp) e
    · have := gr r hr; rw [e, (hT q hq).2] at this; cases this
  · rcases List.mem_cons.mp hq with rfl | hq
    · exact .head _
    rcases List.mem_cons.mp hq with rfl | hq
    · exact .tail _ (.head _)
    rcases List.mem_cons.mp hq with rfl | hq
    · exact .tail _ (.tail _ (.head _))
    rcases List.mem_append.mp hq with hq | hq
    · exact List.mem_append_right _ hq
    · exact .tail _ (.tail _ (.tail _ (List.mem_append_left _ hq)))
set_option maxHeartbeats 2000000 in
/-- the two lambdas of the law: steps.append((sort, own)) -/
theorem do_spec_sw {w : World} {p : Program} {loose : List Str} {mean : ExcName → Option Value} {mg mb : Str → Option Value} {g₀ : Heap} {lam ST c c' : Addr} {oc : Obj} {qual : Str} {pm ctv : Value}
    (hlam : g₀.get? lam = some (kla_obj (Str.ofString "<lambda>") qual { posonlyargs := [], args := [{ arg := Str.ofString "sort", annotation := none, pos := ⟨141, 55, 141, 59⟩ }, { arg := Str.ofString "own", annotation := none, pos := ⟨141, 61, 141, 64⟩ }], vararg := none, kwonlyargs := [], kw_defaults := [], kwarg := none, defaults := [] }
      (((Expr.Name (Str.ofString "steps") ⟨141, 66, 141, 71⟩).Attribute (Str.ofString "append") ⟨141, 66, 141, 78⟩).Call [Expr.Tuple [Expr.Name (Str.ofString "sort") ⟨141, 80, 141, 84⟩, Expr.Name (Str.ofString "own") ⟨141, 86, 141, 89⟩] 0 ⟨141, 79, 141, 90⟩] [] ⟨141, 66, 141, 91⟩)
      { kind := ScopeKind.function, names := [(Str.ofString "sort", NameKind.local), (Str.ofString "own", NameKind.local), (Str.ofString "steps", NameKind.free)], isGenerator := false, isCoroutine := false } [(Str.ofString "steps", c)] pm c' ctv))
    (hcd : g₀.CodeRec (.ref c') qual) (hc : g₀.get? c = some oc) (hdc : oc.data = .cell (some (.ref ST))) : DoSpec w p loose mean mg mb g₀ lam ST := by
  intro g hs A base outer s R sts n a b ta tb G hh hd hu M hz hret
  ((obtain ⟨B, X, Tp, st, hsz⟩ := G; obtain ⟨hd0, dp, fr, gd, un⟩ := A; have hfr : fr = some outer := B.stack; subst hfr; simp only at hh hd hu; subst hh))
  have hc' := hs _ _ hc
  refine lamEnter st hsz Tp M (hs _ _ hlam) (let ⟨c, oc, vs, t, e, x, y⟩ := hcd; ⟨c, oc, vs, t, e, hs _ _ x, y⟩) (by k_room) rfl (locs rfl) ?_ rfl rfl rfl (by decide)
  intro L' h₁ hL hst F' N'
  try dsimp only
  try k_fold
  k_steps
  rename Fr _ _ _ _ => F9
  rename News _ _ _ _ => N9
  rw [List.push_toArray] at N9
  exact hret _ _ _ _ _ _ F9.keep (N9.get (by k_mem)) (N9.get (by k_mem)) (N9 (_, _) (by k_mem)).2.2 (by k_ne)
set_option maxHeartbeats 2000000 in
theorem do_spec_tu {w : World} {p : Program} {loose : List Str} {mean : ExcName → Option Value} {mg mb : Str → Option Value} {g₀ : Heap} {lam ST c c' : Addr} {oc : Obj} {qual : Str} {pm ctv : Value}
    (hlam : g₀.get? lam = some (kla_obj (Str.ofString "<lambda>") qual { posonlyargs := [], args := [{ arg := Str.ofString "sort", annotation := none, pos := ⟨159, 74, 159, 78⟩ }, { arg := Str.ofString "own", annotation := none, pos := ⟨159, 80, 159, 83⟩ }], vararg := none, kwonlyargs := [], kw_defaults := [], kwarg := none, defaults := [] }
      (((Expr.Name (Str.ofString "steps") ⟨159, 85, 159, 90⟩).Attribute (Str.ofString "append") ⟨159, 85, 159, 97⟩).Call [Expr.Tuple [Expr.Name (Str.ofString "sort") ⟨159, 99, 159, 103⟩, Expr.Name (Str.ofString "own") ⟨159, 105, 159, 108⟩] 0 ⟨159, 98, 159, 109⟩] [] ⟨159, 85, 159, 110⟩)
      { kind := ScopeKind.function, names := [(Str.ofString "sort", NameKind.local), (Str.ofString "own", NameKind.local), (Str.ofString "steps", NameKind.free)], isGenerator := false, isCoroutine := false } [(Str.ofString "steps", c)] pm c' ctv))
    (hcd : g₀.CodeRec (.ref c') qual) (hc : g₀.get? c = some oc) (hdc : oc.data = .cell (some (.ref ST))) : DoSpec w p loose mean mg mb g₀ lam ST := by
  intro g hs A base outer s R sts n a b ta tb G hh hd hu M hz hret
  ((obtain ⟨B, X, Tp, st, hsz⟩ := G; obtain ⟨hd0, dp, fr, gd, un⟩ := A; have hfr : fr = some outer := B.stack; subst hfr; simp only at hh hd hu; subst hh))
  have hc' := hs _ _ hc
  refine lamEnter st hsz Tp M (hs _ _ hlam) (let ⟨c, oc, vs, t, e, x, y⟩ := hcd; ⟨c, oc, vs, t, e, hs _ _ x, y⟩) (by k_room) rfl (locs rfl) ?_ rfl rfl rfl (by decide)
  intro L' h₁ hL hst F' N'
  try dsimp only
  try k_fold
  k_steps
  rename Fr _ _ _ _ => F9
  rename News _ _ _ _ => N9
  rw [List.push_toArray] at N9
  exact hret _ _ _ _ _ _ F9.keep (N9.get (by k_mem)) (N9.get (by k_mem)) (N9 (_, _) (by k_mem)).2.2 (by k_ne)
set_option maxHeartbeats 2000000 in
theorem law_switched_ok {w : World} {p : Program} {loose : List Str} {mean : ExcName → Option Value} {mg mb : Str → Option Value} {A : Around} {base g : Heap} {outer : List Env} {s : Shared} {R : Result → Shared → Prop}
    {T MA MI O : Addr} {k : Int} {tk : Tok} {f : Int → Option Value} {N : Int} {pa : Int → Int} {km sy : Int → Option Int}
    {S D ON PM : Addr} {mj0 : Int} {n0 : Nat} {t0 t1 u : Tok} {ovs : List Value} {os : List Int} {pf : Int → Option Value} {tb : Array Value}
    (G : Gnd (Mine.hd.heap_39 w.params) p loose mean mg mb A base outer g s.heap) (hh : A.handled = none) (hd : A.depth < 410) (hu : A.units < 1200)
    (H : TabG w g T MA MI O f N pa km sy) (hp : Par pa) (h0 : 0 ≤ k) (hk : k < N) (hN : N ≤ 6)
    (hS : g.get? S = some (instObj 175 D)) (M : ∀ q ∈ [(D, stD w n0 t0 t1 u mj0 ON), (231, tabObj tb)], s.heap.get? q.1 = some q.2 ∧ g.get? q.1 = none)
    (hON : g.IsList ON ovs.toArray) (hoi : IntsAre ovs os) (hol : os.length ≤ 100)
    (hPM : g.MapOf (intKind PG w) PM pf) (loP : (PM == sysModules) = false) (hcd : CodeHd g 235 231) (hD2 : @Ne Nat D 231)
    (hTb : TbAt (fun d o => g.get? d = some o) 141 48 qualSw tb)
    (hret : ∀ n' t0 t1 u' ON' ovs' n2 ST new n3 c' oc h' tk', g.StaysIn h' → h'.get? D = some (stD w n' t0 t1 u' k ON') → h'.get? ON' = some (listOf (List.toArray ovs') n2) → g.get? ON' = none → IntsAre ovs' (os.filter fun x => (pf x).isSome) →
      h'.get? ST = some (listOf (List.toArray new) n3) → g.get? ST = none → ON' ≠ ST → Pairs (fun d o => h'.get? d = some o ∧ g.get? d = none) new (stepsOf (up pa k).reverse k) →
      h'.get? 231 = some (tabObj #[rawInt 141, rawInt 48, .ref c']) → h'.get? c' = some oc → rec9 qualSw oc → (tb = #[] ∧ g.get? c' = none ∨ tb = #[rawInt 141, rawInt 48, .ref c']) → R (.ok (.ret (.ref ST))) { s with heap := h', toks := tk' }) :
    codeAny (model PG w) A (.call (.ref 236) ⟨[.ref T, .ref S, .int k tk, .ref PM], []⟩) R s := by
  ((obtain ⟨B, X, Tp, st, hsz⟩ := G; obtain ⟨hd0, dp, fr, gd, un⟩ := A; have hfr : fr = some outer := B.stack; subst hfr; simp only at hh hd hu; subst hh))
  ((have hT := H.tab; obtain ⟨dT, nT, q0, q1, q2, hT1, hT2⟩ := H.tab; have hm := H.maj; have lo := H.lo))
  k_with "M try" => (fail_if_success have := @_root_.Mine.law_switched_ok); refine try0 ?_
  k_with "M call" =>
    (fail_if_success have := @_root_.Mine.law_switched_ok)
    (with_reducible show wpAny _ _ (call (Value.ref 189) _) _ _ _)
    rename Fr _ _ _ _ => F0
    rename News _ _ _ _ => N0
    k_dflt (refine' switch_use (S := S) (D := D) B F0 N0 X Tp rfl rfl rfl rfl (by (((try simp only [depth_mark, depth_under_make, depth_under_kw, depth_in1, depth_deeper, depth_caller, units_in1, units_deeper, units_caller, Around.mark_units]); (try dsimp only); omega))) (by (((try simp only [depth_mark, depth_under_make, depth_under_kw, depth_in1, depth_deeper, depth_caller, units_in1, units_deeper, units_caller, Around.mark_units]); (try dsimp only); omega))) H hp h0 hk hN hS (by k_extra "PICKS") (by k_ne) hON hoi hol hPM loP (fun g' hg hr => do_spec_sw (hr (_, _) (by k_mem)) ⟨lamC, lamO, lamV, lamT, rfl, hr (_, _) (by k_mem), lamD1, lamD2⟩ (hr (_, _) (by k_mem)) (by assumption)) (fun g' hg hr => ⟨_, _, _, _, hr (_, _) (by k_mem)⟩) (by simp) ?_)
    intro n' t0 t1 u' ON' ovs' n2 new n3 tups h' tk' hOv hPs hne1 hne2 hAp F1 N1
    simp only [List.cons_append, List.nil_append] at N1
  k_with "M call" =>
    (fail_if_success have := @_root_.Mine.law_switched_ok)
    (with_reducible show wpAny _ _ (call (Value.ref 189) _) _ _ _)
    rename Fr _ _ _ _ => F0
    rename News _ _ _ _ => N0
    k_dflt (refine' switch_use (S := S) (D := D) B F0 N0 X Tp rfl rfl rfl rfl (by (((try simp only [depth_mark, depth_under_make, depth_under_kw, depth_in1, depth_deeper, depth_caller, units_in1, units_deeper, units_caller, Around.mark_units]); (try dsimp only); omega))) (by (((try simp only [depth_mark, depth_under_make, depth_under_kw, depth_in1, depth_deeper, depth_caller, units_in1, units_deeper, units_caller, Around.mark_units]); (try dsimp only); omega))) H hp h0 hk hN hS (by k_extra "PICKS") (by k_ne) hON hoi hol hPM loP (fun g' hg hr => do_spec_sw (hr (_, _) (by k_mem)) ⟨c9, oc9, vs9, tt9, rfl, hg _ _ e91, e92, e93⟩ (hr (_, _) (by k_mem)) (by assumption)) (fun g' hg hr => ⟨_, _, _, _, hr (_, _) (by k_mem)⟩) (by simp) ?_)
    intro n' t0 t1 u' ON' ovs' n2 new n3 tups h' tk' hOv hPs hne1 hne2 hAp F1 N1
    simp only [List.cons_append, List.nil_append] at N1
  rcases hTb with rfl | ⟨c9, oc9, rfl, e91, vs9, tt9, e92, e93⟩
  · ((((k_dflt (refine' enterSC0 ?k1 ?k2 ?k3 ?k4 ?k5 ?k6 ?kl ?k7 ?k8 ?k9 ?kB ?kD ?_ ?c2 ?c3 ?c4; (case k1 => assumption); (case k2 => assumption); (case k3 => assumption); (case k4 => assumption); (case k5 => assumption); (case k6 => k_is); (case kl => (refine ⟨⟨?_, ?_⟩, ?_⟩ <;> (conv => rhs; whnf) <;> exact rfl)); (case k7 => k_is); (case k8 => k_room); (case k9 => exact binds_zip (by kernel_rfl)); (case kB => exact rfl); (case kD => decide +kernel); (case c2 => exact rfl); (case c3 => exact rfl); (case c4 => exact rfl); k_whole))); intro L' h₁ tk₁ cells hL hL2 hst F' N' Y' l0'; (replace l0' := allLt_of l0'); (simp only [AllLt, and_true] at l0'); (k_cells Y'); (try simp only [List.cons_append, List.nil_append] at N'); (try dsimp only); (try k_fold)))
    k_steps
    (((try dsimp only); (try (k_unfold; (try dsimp only)))))
    exact hret _ _ _ _ _ _ _ _ _ _ _ _ _ _ F1.keep (N1.get (by k_mem)) (N1.get (by k_mem)) (N1 (ON', _) (by k_mem)).2.2 hOv (N1.get (by k_mem)) (N1 (_, listOf ([] ++ new).toArray n3) (by k_mem)).2.2 hne1
      (hPs.mono fun d o (hm : (d, o) ∈ _) => ⟨N1.get (by k_mem), (N1 (d, o) (by k_mem)).2.2⟩) (N1.get (a := 231) (by k_mem)) (N1.get (a := lamC) (by k_mem)) ⟨_, _, lamD1, lamD2⟩ (.inl ⟨rfl, (N1 (lamC, lamO) (by k_mem)).2.2⟩)
  · ((((k_dflt (refine' enterSC0 ?k1 ?k2 ?k3 ?k4 ?k5 ?k6 ?kl ?k7 ?k8 ?k9 ?kB ?kD ?_ ?c2 ?c3 ?c4; (case k1 => assumption); (case k2 => assumption); (case k3 => assumption); (case k4 => assumption); (case k5 => assumption); (case k6 => k_is); (case kl => (refine ⟨⟨?_, ?_⟩, ?_⟩ <;> (conv => rhs; whnf) <;> exact rfl)); (case k7 => k_is); (case k8 => k_room); (case k9 => exact binds_zip (by kernel_rfl)); (case kB => exact rfl); (case kD => decide +kernel); (case c2 => exact rfl); (case c3 => exact rfl); (case c4 => exact rfl); k_whole))); intro L' h₁ tk₁ cells hL hL2 hst F' N' Y' l0'; (replace l0' := allLt_of l0'); (simp only [AllLt, and_true] at l0'); (k_cells Y'); (try simp only [List.cons_append, List.nil_append] at N'); (try dsimp only); (try k_fold)))
    k_steps
    (((try dsimp only); (try (k_unfold; (try dsimp only)))))
    exact hret _ _ _ _ _ _ _ _ _ _ _ _ _ _ F1.keep (N1.get (by k_mem)) (N1.get (by k_mem)) (N1 (ON', _) (by k_mem)).2.2 hOv (N1.get (by k_mem)) (N1 (_, listOf ([] ++ new).toArray n3) (by k_mem)).2.2 hne1
      (hPs.mono fun d o (hm : (d, o) ∈ _) => ⟨N1.get (by k_mem), (N1 (d, o) (by k_mem)).2.2⟩) (N1.get (a := 231) (by k_mem)) (F1.keep _ _ e91) ⟨_, _, e92, e93⟩ (.inr rfl)
inductive Arg9 | none | toggle | int (k : Int)
def Arg9.val : Arg9 → Tok → Value
  | .none, _ => .none
  | .toggle, t => .str (Str.ofString "toggle") t
  | .int k, t => .int k t
def want (b u : Bool) : Arg9 → Bool
  | .none => if u = true then !b else true
  | .toggle => !b
  | .int k => decide (0 < k)
set_option maxHeartbeats 4000000 in
theorem wanted_on_ok {w : World} {p : Program} {loose : List Str} {mean : ExcName → Option Value} {mg mb : Str → Option Value} {A : Around} {base g : Heap} {outer : List Env} {s : Shared} {R : Result → Shared → Prop}
    {b u : Bool} {a : Arg9} {t : Tok}
    (G : Gnd (Mine.hd.heap_39 w.params) p loose mean mg mb A base outer g s.heap) (hh : A.handled = none) (hd : A.depth < 450) (hu : A.units < 1500)
    (hret : ∀ h' tk', g.StaysIn h' → R (.ok (.ret (.bool (want b u a)))) { s with heap := h', toks := tk' }) :
    codeAny (model PG w) A (.call (.ref 196) ⟨[.bool b, a.val t, .bool u], []⟩) R s := by
  ((obtain ⟨B, X, Tp, st, hsz⟩ := G; obtain ⟨hd0, dp, fr, gd, un⟩ := A; have hfr : fr = some outer := B.stack; subst hfr; simp only at hh hd hu; subst hh))
  cases a <;> simp only [Arg9.val, want] at hret ⊢
  · cases u <;> cases b <;> ((((have M0 : ∀ q ∈ ([] : List (Addr × Obj)), s.heap.get? q.1 = some q.2 ∧ g.get? q.1 = none := fun _ hq => nomatch hq); ((k_dflt (refine' enterS0 ?k1 ?k2 ?k3 ?k4 ?k5 ?k6 ?kl ?k7 ?k8 ?k9 ?kB ?_ ?c2 ?c3 ?c4 ?c5; (case k1 => assumption); (case k2 => assumption); (case k3 => assumption); (case k4 => assumption); (case k5 => assumption); (case k6 => k_is); (case kl => (refine ⟨⟨?_, ?_⟩, ?_⟩ <;> (conv => rhs; whnf) <;> exact rfl)); (case k7 => k_is); (case k8 => k_room); (case k9 => exact binds_zip (by kernel_rfl)); (case c5 => decide); (case kB => exact locs rfl); (case c2 => exact rfl); (case c3 => exact rfl); (case c4 => exact rfl); k_whole))); intro L' h₁ hL hL2 hst F' N'; (try dsimp only); (try k_fold))); k_steps; (try (((try dsimp only); (try (k_unfold; (try dsimp only)))))); rename Fr _ _ _ _ => F9; exact hret _ _ F9.keep)
  · cases u <;> cases b <;> ((((have M0 : ∀ q ∈ ([] : List (Addr × Obj)), s.heap.get? q.1 = some q.2 ∧ g.get? q.1 = none := fun _ hq => nomatch hq); ((k_dflt (refine' enterS0 ?k1 ?k2 ?k3 ?k4 ?k5 ?k6 ?kl ?k7 ?k8 ?k9 ?kB ?_ ?c2 ?c3 ?c4 ?c5; (case k1 => assumption); (case k2 => assumption); (case k3 => assumption); (case k4 => assumption); (case k5 => assumption); (case k6 => k_is); (case kl => (refine ⟨⟨?_, ?_⟩, ?_⟩ <;> (conv => rhs; whnf) <;> exact rfl)); (case k7 => k_is); (case k8 => k_room); (case k9 => exact binds_zip (by kernel_rfl)); (case c5 => decide); (case kB => exact locs rfl); (case c2 => exact rfl); (case c3 => exact rfl); (case c4 => exact rfl); k_whole))); intro L' h₁ hL hL2 hst F' N'; (try dsimp only); (try k_fold))); k_steps; (try (((try dsimp only); (try (k_unfold; (try dsimp only)))))); rename Fr _ _ _ _ => F9; exact hret _ _ F9.keep)
  · (((have M0 : ∀ q ∈ ([] : List (Addr × Obj)), s.heap.get? q.1 = some q.2 ∧ g.get? q.1 = none := fun _ hq => nomatch hq); ((k_dflt (refine' enterS0 ?k1 ?k2 ?k3 ?k4 ?k5 ?k6 ?kl ?k7 ?k8 ?k9 ?kB ?_ ?c2 ?c3 ?c4 ?c5; (case k1 => assumption); (case k2 => assumption); (case k3 => assumption); (case k4 => assumption); (case k5 => assumption); (case k6 => k_is); (case kl => (refine ⟨⟨?_, ?_⟩, ?_⟩ <;> (conv => rhs; whnf) <;> exact rfl)); (case k7 => k_is); (case k8 => k_room); (case k9 => exact binds_zip (by kernel_rfl)); (case c5 => decide); (case kB => exact locs rfl); (case c2 => exact rfl); (case c3 => exact rfl); (case c4 => exact rfl); k_whole))); intro L' h₁ hL hL2 hst F' N'; (try dsimp only); (try k_fold)))
    k_steps
    (((try dsimp only); (try (k_unfold; (try dsimp only)))))
    rename Fr _ _ _ _ => F9
    exact hret _ _ F9.keep

theorem wanted_on_use {w : World} {p : Program} {loose : List Str} {mean : ExcName → Option Value} {mg mb : Str → Option Value} {A₀ A : Around} {base h₀ : Heap} {outer : List Env} {env : Env} {L : Addr} {m : Str → Option Value} {news : List (Addr × Obj)} {s : Shared} {Q E : Value → Shared → Prop}
    {b u : Bool} {a : Arg9} {t : Tok} {av : Value}
    (B : Below A₀ base outer h₀) (F : Fr h₀ L s.heap m) (Nw : News h₀ L s.heap news) (X : (Mine.hd.heap_39 w.params).In h₀) (Tp : Top p loose mean mg mb h₀)
    (hA : A.frames = some (env :: outer)) (hf : env.frame = some L) (hke : env.scope.kind = .function) (hh : A.handled = none) (hd : A.depth < 450) (hu : A.units < 1500) (hav : a.val t = av)
    (h : ∀ h' tk', Fr h₀ L h' m → News h₀ L h' news → Q (.bool (want b u a)) { s with heap := h', toks := tk' }) :
    wpAny (model PG w) A (call (.ref 196) [.bool b, av, .bool u]) Q E s := by
  subst hav
  obtain ⟨G, back⟩ := useP (A := A) B F Nw X Tp hA hf hke
  refine wpAny_call (wanted_on_ok G hh hd hu fun h' tk' st => ?_)
  obtain ⟨F', N'⟩ := back h' st
  exact h h' tk' F' N'

theorem any_ne (k : Int) (l : List Int) : ((l.filter fun x => decide (x ≠ k)).any fun x => x == k) = false := by
  rw [List.any_eq_false]
  intro x hx
  have := (List.mem_filter.mp hx).2
  simpa using this
theorem any_app (k : Int) (l : List Int) : ((l ++ [k]).any fun x => x == k) = true := by simp
set_option maxHeartbeats 4000000 in
theorem turn_mode_ok {w : World} {p : Program} {loose : List Str} {mean : ExcName → Option Value} {mg mb : Str → Option Value} {A : Around} {base g : Heap} {outer : List Env} {s : Shared} {R : Result → Shared → Prop}
    {T MA MI O : Addr} {k : Int} {tk ta : Tok} {M : Addr} {f2 : Int → Option Value} {lt : Str} {kv : Value} {a : Arg9} {u2 : Bool}
    {S D ON ST lam : Addr} {mj0 : Int} {n0 nst : Nat} {t0 t1 u : Tok} {ovs sts : List Value} {os : List Int}
    (G : Gnd (Mine.hd.heap_39 w.params) p loose mean mg mb A base outer g s.heap) (hh : A.handled = none) (hd : A.depth < 420) (hu : A.units < 1250)
    (hT : TabAt9 w g T MA MI O) (hm2 : g.MapOf (intKind PG w) MI f2) (lo2 : (MI == sysModules) = false) (hv2 : f2 k = some (.ref M)) (hM : MinorAt w g M k lt kv)
    (hS : g.get? S = some (instObj 175 D)) (M9 : ∀ q ∈ [(D, stD w n0 t0 t1 u mj0 ON), (ST, listOf sts.toArray nst)], s.heap.get? q.1 = some q.2 ∧ g.get? q.1 = none) (hDS : @Ne Nat D ST)
    (hON : g.IsList ON ovs.toArray) (hoi : IntsAre ovs os) (hol : os.length ≤ 100)
    (hdo : DoSpec w p loose mean mg mb g lam ST) (hfn : FnAt lam g) (hst : sts.length ≤ 10)
    (hret : ∀ n' t0 t1 u' ON' ovs' n2 new n3 h' tk', g.StaysIn h' → h'.get? D = some (stD w n' t0 t1 u' mj0 ON') → h'.get? ON' = some (listOf (List.toArray ovs') n2) → g.get? ON' = none → ON' ≠ ST →
      IntsAre ovs' ((os.filter fun x => decide (x ≠ k)) ++ if want (os.any (· == k)) u2 a = true then [k] else []) →
      h'.get? ST = some (listOf (sts ++ new).toArray n3) → Pairs (fun d o => h'.get? d = some o ∧ g.get? d = none) new [(2, k), (3, k)] → R (.ok (.ret (.bool (want (os.any (· == k)) u2 a)))) { s with heap := h', toks := tk' }) :
    codeAny (model PG w) A (.call (.ref 201) ⟨[.ref T, .ref S, .int k tk, a.val ta, .bool u2, .ref lam], []⟩) R s := by
  ((obtain ⟨B, X, Tp, st, hsz⟩ := G; obtain ⟨hd0, dp, fr, gd, un⟩ := A; have hfr : fr = some outer := B.stack; subst hfr; simp only at hh hd hu; subst hh))
  have hovl := hoi.length
  have hT0 := hT
  obtain ⟨dT, nT, q0, q1, q2, hT1, hT2⟩ := hT0
  obtain ⟨MD, mn, m0, m1, m2, m3, m4, mu0, mu1, mbv, mhv, hM1, hM2⟩ := hM
  k_with "M call" => (fail_if_success have := @_root_.Mine.turn_mode_ok); (((with_reducible show wpAny _ _ (call (Value.ref 118) _) _ _ _); k_dflt (refine' minor_use ?B ?F ?N ?X ?T ?hA ?hf ?hke ?hh ?hd ?hu ?hT ?hm ?lo ?hv ?_; (case hA => exact rfl); (case hf => exact rfl); (case hke => exact rfl); (case B => k_asm); (case F => k_asm); (case N => k_asm); (case X => k_asm); (case T => k_asm); (case hh => exact rfl); (case hd => (((try simp only [depth_mark, depth_under_make, depth_under_kw, depth_in1, depth_deeper, depth_caller, units_in1, units_deeper, units_caller, Around.mark_units]); (try dsimp only); omega))); (case hu => (((try simp only [depth_mark, depth_under_make, depth_under_kw, depth_in1, depth_deeper, depth_caller, units_in1, units_deeper, units_caller, Around.mark_units]); (try dsimp only); omega))); (case hT => assumption); (case hm => assumption); (case lo => assumption); (case hv => assumption); k_whole); intro h' tk' F' N'; (try k_sweep)))
  k_with "M call" =>
    (fail_if_success have := @_root_.Mine.turn_mode_ok)
    (with_reducible show wpAny _ _ (call (Value.ref 172) _) _ _ _)
    rename News _ _ _ _ => N0
    rw [List.push_toArray] at N0
    (((with_reducible show wpAny _ _ (call (Value.ref 172) _) _ _ _); k_dflt (refine' is_on_use ?B ?F ?N ?X ?T ?hA ?hf ?hke ?hh ?hd ?hu ?hS ?hD ?hO ?hoi ?_; (case hA => exact rfl); (case hf => exact rfl); (case hke => exact rfl); (case B => k_asm); (case F => k_asm); (case N => k_asm); (case X => k_asm); (case T => k_asm); (case hh => exact rfl); (case hd => (((try simp only [depth_mark, depth_under_make, depth_under_kw, depth_in1, depth_deeper, depth_caller, units_in1, units_deeper, units_caller, Around.mark_units]); (try dsimp only); omega))); (case hu => (((try simp only [depth_mark, depth_under_make, depth_under_kw, depth_in1, depth_deeper, depth_caller, units_in1, units_deeper, units_caller, Around.mark_units]); (try dsimp only); omega))); (case hS => (first | exact News.get (by k_asm) (by k_mem) | exact Fr.keep (by k_asm) _ _ (by assumption))); (case hD => (first | exact News.get (by k_asm) (by k_mem) | exact Fr.keep (by k_asm) _ _ (by assumption))); (case hO => (first | exact News.isList (by k_asm) (by k_mem) | exact isList_keeps (Fr.keep (by k_asm)) (by assumption))); (case hoi => first | assumption | exact IntsAre.append (by assumption) (.cons _ _ .nil)); k_whole); intro h' tk' F' N'; (try k_sweep)))
  k_with "M call" => (fail_if_success have := @_root_.Mine.turn_mode_ok); (((with_reducible show wpAny _ _ (call (Value.ref 172) _) _ _ _); k_dflt (refine' is_on_use ?B ?F ?N ?X ?T ?hA ?hf ?hke ?hh ?hd ?hu ?hS ?hD ?hO ?hoi ?_; (case hA => exact rfl); (case hf => exact rfl); (case hke => exact rfl); (case B => k_asm); (case F => k_asm); (case N => k_asm); (case X => k_asm); (case T => k_asm); (case hh => exact rfl); (case hd => (((try simp only [depth_mark, depth_under_make, depth_under_kw, depth_in1, depth_deeper, depth_caller, units_in1, units_deeper, units_caller, Around.mark_units]); (try dsimp only); omega))); (case hu => (((try simp only [depth_mark, depth_under_make, depth_under_kw, depth_in1, depth_deeper, depth_caller, units_in1, units_deeper, units_caller, Around.mark_units]); (try dsimp only); omega))); (case hS => (first | exact News.get (by k_asm) (by k_mem) | exact Fr.keep (by k_asm) _ _ (by assumption))); (case hD => (first | exact News.get (by k_asm) (by k_mem) | exact Fr.keep (by k_asm) _ _ (by assumption))); (case hO => (first | exact News.isList (by k_asm) (by k_mem) | exact isList_keeps (Fr.keep (by k_asm)) (by assumption))); (case hoi => first | assumption | exact IntsAre.append (by assumption) (.cons _ _ .nil)); k_whole); intro h' tk' F' N'; (try k_sweep)))
  k_with "M call" => (fail_if_success have := @_root_.Mine.turn_mode_ok); (((with_reducible show wpAny _ _ (call (Value.ref 196) _) _ _ _); k_dflt (refine' wanted_on_use ?B ?F ?N ?X ?T ?hA ?hf ?hke ?hh ?hd ?hu ?hav ?_; (case hA => exact rfl); (case hf => exact rfl); (case hke => exact rfl); (case B => k_asm); (case F => k_asm); (case N => k_asm); (case X => k_asm); (case T => k_asm); (case hh => exact rfl); (case hd => (((try simp only [depth_mark, depth_under_make, depth_under_kw, depth_in1, depth_deeper, depth_caller, units_in1, units_deeper, units_caller, Around.mark_units]); (try dsimp only); omega))); (case hu => (((try simp only [depth_mark, depth_under_make, depth_under_kw, depth_in1, depth_deeper, depth_caller, units_in1, units_deeper, units_caller, Around.mark_units]); (try dsimp only); omega))); (case hav => first | assumption | exact rfl); k_whole); intro h' tk' F' N'; (try k_sweep)))
  k_with "M call" => (fail_if_success have := @_root_.Mine.turn_mode_ok); (((with_reducible show wpAny _ _ (call (Value.ref _) [Value.int _ _, Value.int _ _]) _ _ _); k_dflt (refine' do_use ?B ?F ?N ?X ?T ?hA ?hf ?hke ?hh ?hd ?hu ?hS ?P ?hz ?_; (case hA => exact rfl); (case hf => exact rfl); (case hke => exact rfl); (case B => k_asm); (case F => k_asm); (case N => k_asm); (case X => k_asm); (case T => k_asm); (case hh => exact rfl); (case hd => (((try simp only [depth_mark, depth_under_make, depth_under_kw, depth_in1, depth_deeper, depth_caller, units_in1, units_deeper, units_caller, Around.mark_units]); (try dsimp only); omega))); (case hu => (((try simp only [depth_mark, depth_under_make, depth_under_kw, depth_in1, depth_deeper, depth_caller, units_in1, units_deeper, units_caller, Around.mark_units]); (try dsimp only); omega))); (case hS => assumption); (case P => k_extra "PICK"); (case hz => ((try simp only [List.length_append, List.length_cons, List.length_nil]); omega)); k_whole); intro dd dn h' tk' dta dtb hneD F' N'; (simp only [AllNe, and_true] at hneD); (try k_sweep)))
  k_with "M src" =>
    (fail_if_success have := @_root_.Mine.turn_mode_ok)
    rename Fr _ _ _ _ => F0
    rename News _ _ _ _ => N0
    k_dflt (refine LCt.CompSrcT.base rfl F0 N0 hON (by rw [PySem.sizeLine_eq]; simp; omega) ?_)
    intro g2
    k_dflt (refine' compT_fix (fun j ys => IntsAre ys ((os.take j).filter fun x => decide (x ≠ k)) ∧ ys.length ≤ j) ⟨.nil, Nat.le_refl _⟩ ?_ ?_)
    rotate_left
    intro ys hys D2 h tk F1 N1 off
    obtain ⟨hys, hysN⟩ := hys
    rw [List.size_toArray, hovl, List.take_length] at hys
    rw [List.size_toArray] at hysN
    simp only [LCg.Off1, and_true] at off
    clear F0 N0
    try k_fold
    rotate_left
    clear F0 N0
    intro j v ys I3 oI3 C oC D3 m₃ h tk E' hj hP hJ hC hx F1 N1 off ne
    obtain ⟨own, town, rfl, hown⟩ := IntsAre.at hoi j v (by simpa using hP)
    have hoff := off
    simp only [LCg.Off3, and_true] at hoff
    try k_fold
  ((((k_dflt (refine' enterSC0 ?k1 ?k2 ?k3 ?k4 ?k5 ?k6 ?kl ?k7 ?k8 ?k9 ?kB ?kD ?_ ?c2 ?c3 ?c4; (case k1 => assumption); (case k2 => assumption); (case k3 => assumption); (case k4 => assumption); (case k5 => assumption); (case k6 => k_is); (case kl => (refine ⟨⟨?_, ?_⟩, ?_⟩ <;> (conv => rhs; whnf) <;> exact rfl)); (case k7 => k_is); (case k8 => k_room); (case k9 => exact binds_zip (by kernel_rfl)); (case kB => exact rfl); (case kD => decide +kernel); (case c2 => exact rfl); (case c3 => exact rfl); (case c4 => exact rfl); k_whole))); intro L' h₁ tk₁ cells hL hL2 hst F' N' Y' l0'; (replace l0' := allLt_of l0'); (simp only [AllLt, and_true] at l0'); (k_cells Y'); (try simp only [List.cons_append, List.nil_append] at N'); (try dsimp only); (try k_fold)))
  k_steps
  · rename_i hb
    rw [filter_take _ hown, if_pos (by simpa using hb)]
    exact IntsAre.append hJ.1 (.cons _ _ .nil)
  · rename_i hb
    rw [filter_take _ hown, if_neg (by simpa using hb), List.append_nil]
    exact hJ.1
  · rename Fr _ _ _ _ => F9
    rename News _ _ _ _ => N9
    rename want _ _ _ = true => hw
    simp only [List.append_assoc, List.cons_append, List.nil_append] at N9
    rw [any_app, ← hw]
    exact hret _ _ _ _ _ _ _ [_, _] _ _ _ F9.keep (N9.get (by k_mem)) (N9.get (a := D2) (by k_mem)) (N9 (D2, _) (by k_mem)).2.2 (by k_ne) (by rw [hw, if_pos rfl]; exact IntsAre.append hys (.cons _ _ .nil)) (N9.get (by k_mem))
      (.cons ⟨N9.get (by k_mem), (N9 (_, _) (by k_mem)).2.2⟩ (.cons ⟨N9.get (by k_mem), (N9 (_, _) (by k_mem)).2.2⟩ .nil))
  · rename Fr _ _ _ _ => F9
    rename News _ _ _ _ => N9
    rename want _ _ _ = false => hw
    simp only [List.append_assoc, List.cons_append, List.nil_append] at N9
    rw [any_ne, ← hw]
    exact hret _ _ _ _ _ _ _ [_, _] _ _ _ F9.keep (N9.get (by k_mem)) (N9.get (a := D2) (by k_mem)) (N9 (D2, _) (by k_mem)).2.2 (by k_ne) (by rw [hw]; simpa using hys) (N9.get (by k_mem))
      (.cons ⟨N9.get (by k_mem), (N9 (_, _) (by k_mem)).2.2⟩ (.cons ⟨N9.get (by k_mem), (N9 (_, _) (by k_mem)).2.2⟩ .nil))
theorem turn_mode_use {w : World} {p : Program} {loose : List Str} {mean : ExcName → Option Value} {mg mb : Str → Option Value} {A₀ A : Around} {base h₀ : Heap} {outer : List Env} {env : Env} {L : Addr} {m : Str → Option Value} {news rest : List (Addr × Obj)} {s : Shared} {Q E : Value → Shared → Prop}
    {T MA MI O : Addr} {k : Int} {tk ta : Tok} {M : Addr} {f2 : Int → Option Value} {lt : Str} {kv : Value} {a : Arg9} {av : Value} {u2 : Bool}
    {S D ON ST lam : Addr} {mj0 : Int} {n0 nst : Nat} {t0 t1 u : Tok} {ovs sts : List Value} {os : List Int}
    (B : Below A₀ base outer h₀) (F : Fr h₀ L s.heap m) (Nw : News h₀ L s.heap news) (X : (Mine.hd.heap_39 w.params).In h₀) (Tp : Top p loose mean mg mb h₀)
    (hA : A.frames = some (env :: outer)) (hf : env.frame = some L) (hke : env.scope.kind = .function) (hh : A.handled = none) (hd : A.depth < 420) (hu : A.units < 1250)
    (hT : TabAt9 w h₀ T MA MI O) (hm2 : h₀.MapOf (intKind PG w) MI f2) (lo2 : (MI == sysModules) = false) (hv2 : f2 k = some (.ref M)) (hM : MinorAt w h₀ M k lt kv) (hav : a.val ta = av)
    (hS : h₀.get? S = some (instObj 175 D)) (P : Picks [(D, stD w n0 t0 t1 u mj0 ON), (ST, listOf sts.toArray nst)] news rest) (hDS : @Ne Nat D ST)
    (hON : h₀.IsList ON ovs.toArray) (hoi : IntsAre ovs os) (hol : os.length ≤ 100)
    (hdo : ∀ g, h₀.StaysIn g → (∀ q ∈ rest, g.get? q.1 = some q.2) → DoSpec w p loose mean mg mb g lam ST) (hfn : ∀ g : Heap, h₀.StaysIn g → (∀ q ∈ rest, g.get? q.1 = some q.2) → FnAt lam g) (hst : sts.length ≤ 10)
    (h : ∀ n' t0 t1 u' ON' ovs' n2 new n3 tups h' tk', IntsAre ovs' ((os.filter fun x => decide (x ≠ k)) ++ if want (os.any (· == k)) u2 a = true then [k] else []) → Pairs (fun d o => (d, o) ∈ tups) new [(2, k), (3, k)] → ON' ≠ ST → (∀ q ∈ news, q.1 ≠ ON') → Apart tups news →
      Fr h₀ L h' m → News h₀ L h' ((ON', listOf (List.toArray ovs') n2) :: (D, stD w n' t0 t1 u' mj0 ON') :: (ST, listOf (sts ++ new).toArray n3) :: (rest ++ tups)) → Q (.bool (want (os.any (· == k)) u2 a)) { s with heap := h', toks := tk' }) :
    wpAny (model PG w) A (call (.ref 201) [.ref T, .ref S, .int k tk, av, .bool u2, .ref lam]) Q E s := by
  subst hav
  obtain ⟨p1, p2⟩ := P.spec
  have pick : ∀ q ∈ news, q = (D, stD w n0 t0 t1 u mj0 ON) ∨ q = (ST, listOf sts.toArray nst) ∨ q ∈ rest := fun q hq => by
    rcases P.one q hq with h | h
    · rcases List.mem_cons.mp h with h | h
      · exact .inl h
      · exact .inr (.inl (List.mem_singleton.mp h))
    · exact .inr (.inr h)
  obtain ⟨g, G, gm, gr, _, st, back⟩ := useS [(D, stD w n0 t0 t1 u mj0 ON), (ST, listOf sts.toArray nst)] rest B F Nw X Tp hA hf hke p1 p2
  refine wpAny_call (turn_mode_ok G hh hd hu (hT.keeps st) (mapOf_keeps st hm2) lo2 hv2 (hM.keeps st) (st _ _ hS) gm hDS (isList_keeps st hON) hoi hol (hdo g st gr) (hfn g st gr) hst fun n' t0 t1 u' ON' ovs' n2 new n3 h' tk' sk h1 h2 h3 h4 h5 h6 h7 => ?_)
  obtain ⟨tups, hP, hT, hC⟩ := h7.led'
  obtain ⟨F', N'⟩ := back h' ((ON', listOf (List.toArray ovs') n2) :: (D, stD w n' t0 t1 u' mj0 ON') :: (ST, listOf (sts ++ new).toArray n3) :: tups) sk (fun q hq => by
    rcases List.mem_cons.mp hq with rfl | hq
    · exact ⟨h2, h3⟩
    rcases List.mem_cons.mp hq with rfl | hq
    · exact ⟨h1, (gm _ (.head _)).2⟩
    rcases List.mem_cons.mp hq with rfl | hq
    · exact ⟨h6, (gm _ (.tail _ (.head _))).2⟩
    · exact hT q hq)
  refine h n' t0 t1 u' ON' ovs' n2 new n3 tups h' tk' h5 hP h4 (fun q hq e => ?_) (fun q hq r hr e => ?_) F' (fun q hq => N' q ?_)
  · rcases pick q hq with rfl | rfl | hq
    · exact get_ne h1 h2 (by simp) e
    · exact h4 e.symm
    · have := gr q hq; rw [e, h3] at this; cases this
  · rcases pick r hr with rfl | rfl | hr
    · exact get_ne h1 (hT q hq).1 (by rw [hC q hq]; simp) e
    · exact get_ne h6 (hT q hq).1 (by rw [hC q hq]; simp) e
    · have := gr r hr; rw [e, (hT q hq).2] at this; cases this
  · rcases List.mem_cons.mp hq with rfl | hq
    · exact .head _
    rcases List.mem_cons.mp hq with rfl | hq
    · exact .tail _ (.head _)
    rcases List.mem_cons.mp hq with rfl | hq
    · exact .tail _ (.tail _ (.head _))
    rcases List.mem_append.mp hq with hq | hq
    · exact List.mem_append_right _ hq
    · exact .tail _ (.tail _ (.tail _ (List.mem_append_left _ hq)))
set_option maxHeartbeats 4000000 in
theorem law_turned_ok {w : World} {p : Program} {loose : List Str} {mean : ExcName → Option Value} {mg mb : Str → Option Value} {A : Around} {base g : Heap} {outer : List Env} {s : Shared} {R : Result → Shared → Prop}
    {T MA MI O : Addr} {k : Int} {tk ta : Tok} {M : Addr} {f2 : Int → Option Value} {lt : Str} {kv : Value} {a : Arg9} {u2 : Bool}
    {S D ON : Addr} {mj0 : Int} {n0 : Nat} {t0 t1 u : Tok} {ovs : List Value} {os : List Int} {tb : Array Value}
    (G : Gnd (Mine.hd.heap_39 w.params) p loose mean mg mb A base outer g s.heap) (hh : A.handled = none) (hd : A.depth < 410) (hu : A.units < 1200)
    (hT : TabAt9 w g T MA MI O) (hm2 : g.MapOf (intKind PG w) MI f2) (lo2 : (MI == sysModules) = false) (hv2 : f2 k = some (.ref M)) (hM : MinorAt w g M k lt kv)
    (hS : g.get? S = some (instObj 175 D)) (M9 : ∀ q ∈ [(D, stD w n0 t0 t1 u mj0 ON), (243, tabObj tb)], s.heap.get? q.1 = some q.2 ∧ g.get? q.1 = none)
    (hON : g.IsList ON ovs.toArray) (hoi : IntsAre ovs os) (hol : os.length ≤ 100) (hcd : CodeHd g 247 243) (hD2 : @Ne Nat D 243)
    (hTb : TbAt (fun d o => g.get? d = some o) 159 67 qualTu tb)
    (hret : ∀ n' t0 t1 u' ON' ovs' n2 RT c' oc h' tk', g.StaysIn h' → h'.get? D = some (stD w n' t0 t1 u' mj0 ON') → h'.get? ON' = some (listOf (List.toArray ovs') n2) → g.get? ON' = none →
      IntsAre ovs' ((os.filter fun x => decide (x ≠ k)) ++ if want (os.any (· == k)) u2 a = true then [k] else []) →
      h'.get? RT = some { cls := .type "tuple", data := .seq #[.bool true, .bool (want (os.any (· == k)) u2 a)] } → g.get? RT = none →
      h'.get? 243 = some (tabObj #[rawInt 159, rawInt 67, .ref c']) → h'.get? c' = some oc → rec9 qualTu oc → (tb = #[] ∧ g.get? c' = none ∨ tb = #[rawInt 159, rawInt 67, .ref c']) → R (.ok (.ret (.ref RT))) { s with heap := h', toks := tk' }) :
    codeAny (model PG w) A (.call (.ref 248) ⟨[.ref T, .ref S, .int k tk, a.val ta, .bool u2], []⟩) R s := by
  ((obtain ⟨B, X, Tp, st, hsz⟩ := G; obtain ⟨hd0, dp, fr, gd, un⟩ := A; have hfr : fr = some outer := B.stack; subst hfr; simp only at hh hd hu; subst hh))
  k_with "M call" =>
    (fail_if_success have := @_root_.Mine.law_turned_ok)
    (with_reducible show wpAny _ _ (call (Value.ref 201) _) _ _ _)
    rename Fr _ _ _ _ => F0
    rename News _ _ _ _ => N0
    k_dflt (refine' turn_mode_use (S := S) (D := D) B F0 N0 X Tp rfl rfl rfl rfl (by (((try simp only [depth_mark, depth_under_make, depth_under_kw, depth_in1, depth_deeper, depth_caller, units_in1, units_deeper, units_caller, Around.mark_units]); (try dsimp only); omega))) (by (((try simp only [depth_mark, depth_under_make, depth_under_kw, depth_in1, depth_deeper, depth_caller, units_in1, units_deeper, units_caller, Around.mark_units]); (try dsimp only); omega))) hT hm2 lo2 hv2 hM rfl hS (by k_extra "PICKS") (by k_ne) hON hoi hol (fun g' hg hr => do_spec_tu (hr (_, _) (by k_mem)) ⟨lamC, lamO, lamV, lamT, rfl, hr (_, _) (by k_mem), lamD1, lamD2⟩ (hr (_, _) (by k_mem)) (by assumption)) (fun g' hg hr => ⟨_, _, _, _, hr (_, _) (by k_mem)⟩) (by simp) ?_)
    intro n' t0 t1 u' ON' ovs' n2 new n3 tups h' tk' hOv hPs hne1 hne2 hAp F1 N1
    have hne3 := allNe_of hne2
    simp only [AllNe, and_true] at hne3
    simp only [List.cons_append, List.nil_append] at N1
  k_with "M call" =>
    (fail_if_success have := @_root_.Mine.law_turned_ok)
    (with_reducible show wpAny _ _ (call (Value.ref 201) _) _ _ _)
    rename Fr _ _ _ _ => F0
    rename News _ _ _ _ => N0
    k_dflt (refine' turn_mode_use (S := S) (D := D) B F0 N0 X Tp rfl rfl rfl rfl (by (((try simp only [depth_mark, depth_under_make, depth_under_kw, depth_in1, depth_deeper, depth_caller, units_in1, units_deeper, units_caller, Around.mark_units]); (try dsimp only); omega))) (by (((try simp only [depth_mark, depth_under_make, depth_under_kw, depth_in1, depth_deeper, depth_caller, units_in1, units_deeper, units_caller, Around.mark_units]); (try dsimp only); omega))) hT hm2 lo2 hv2 hM rfl hS (by k_extra "PICKS") (by k_ne) hON hoi hol (fun g' hg hr => do_spec_tu (hr (_, _) (by k_mem)) ⟨c9, oc9, vs9, tt9, rfl, hg _ _ e91, e92, e93⟩ (hr (_, _) (by k_mem)) (by assumption)) (fun g' hg hr => ⟨_, _, _, _, hr (_, _) (by k_mem)⟩) (by simp) ?_)
    intro n' t0 t1 u' ON' ovs' n2 new n3 tups h' tk' hOv hPs hne1 hne2 hAp F1 N1
    have hne3 := allNe_of hne2
    simp only [AllNe, and_true] at hne3
    simp only [List.cons_append, List.nil_append] at N1
  rcases hTb with rfl | ⟨c9, oc9, rfl, e91, vs9, tt9, e92, e93⟩
  · ((((k_dflt (refine' enterSC0 ?k1 ?k2 ?k3 ?k4 ?k5 ?k6 ?kl ?k7 ?k8 ?k9 ?kB ?kD ?_ ?c2 ?c3 ?c4; (case k1 => assumption); (case k2 => assumption); (case k3 => assumption); (case k4 => assumption); (case k5 => assumption); (case k6 => k_is); (case kl => (refine ⟨⟨?_, ?_⟩, ?_⟩ <;> (conv => rhs; whnf) <;> exact rfl)); (case k7 => k_is); (case k8 => k_room); (case k9 => exact binds_zip (by kernel_rfl)); (case kB => exact rfl); (case kD => decide +kernel); (case c2 => exact rfl); (case c3 => exact rfl); (case c4 => exact rfl); k_whole))); intro L' h₁ tk₁ cells hL hL2 hst F' N' Y' l0'; (replace l0' := allLt_of l0'); (simp only [AllLt, and_true] at l0'); (k_cells Y'); (try simp only [List.cons_append, List.nil_append] at N'); (try dsimp only); (try k_fold)))
    k_steps
    rename Fr _ _ _ _ => F9
    rename News _ _ _ _ => N9
    simp only [decide_true] at N9
    exact hret _ _ _ _ ON' _ _ _ _ _ _ _ F9.keep (N9.get (by k_mem)) (N9.get (by k_mem)) (N9 (ON', _) (by k_mem)).2.2 hOv (N9.get (by k_mem)) (N9 (_, { cls := .type "tuple", data := .seq #[.bool true, .bool _] }) (by k_mem)).2.2
      (N9.get (a := 243) (by k_mem)) (N9.get (a := lamC) (by k_mem)) ⟨_, _, lamD1, lamD2⟩ (.inl ⟨rfl, (N9 (lamC, lamO) (by k_mem)).2.2⟩)
  · ((((k_dflt (refine' enterSC0 ?k1 ?k2 ?k3 ?k4 ?k5 ?k6 ?kl ?k7 ?k8 ?k9 ?kB ?kD ?_ ?c2 ?c3 ?c4; (case k1 => assumption); (case k2 => assumption); (case k3 => assumption); (case k4 => assumption); (case k5 => assumption); (case k6 => k_is); (case kl => (refine ⟨⟨?_, ?_⟩, ?_⟩ <;> (conv => rhs; whnf) <;> exact rfl)); (case k7 => k_is); (case k8 => k_room); (case k9 => exact binds_zip (by kernel_rfl)); (case kB => exact rfl); (case kD => decide +kernel); (case c2 => exact rfl); (case c3 => exact rfl); (case c4 => exact rfl); k_whole))); intro L' h₁ tk₁ cells hL hL2 hst F' N' Y' l0'; (replace l0' := allLt_of l0'); (simp only [AllLt, and_true] at l0'); (k_cells Y'); (try simp only [List.cons_append, List.nil_append] at N'); (try dsimp only); (try k_fold)))
    k_steps
    rename Fr _ _ _ _ => F9
    rename News _ _ _ _ => N9
    simp only [decide_true] at N9
    exact hret _ _ _ _ ON' _ _ _ _ _ _ _ F9.keep (N9.get (by k_mem)) (N9.get (by k_mem)) (N9 (ON', _) (by k_mem)).2.2 hOv (N9.get (by k_mem)) (N9 (_, { cls := .type "tuple", data := .seq #[.bool true, .bool _] }) (by k_mem)).2.2
      (N9.get (a := 243) (by k_mem)) (F9.keep _ _ e91) ⟨_, _, e92, e93⟩ (.inr rfl)
/-- the table's minor modes -/
structure MinG (w : World) (g : Heap) (T MA MI O : Addr) (f2 : Int → Option Value) (ms : List Int) (mvs : List Value) (lt : Int → Str) (mk : Int → Option Int) : Prop where
  tab : TabAt9 w g T MA MI O
  mi : g.MapOf (intKind PG w) MI f2
  lo2 : (MI == sysModules) = false
  hord : g.IsList O mvs.toArray
  hints : IntsAre mvs ms
  hlen : ms.length ≤ 5
  hmode : ∀ k ∈ ms, ∃ M t, f2 k = some (.ref M) ∧ MinorAt w g M k (lt k) (ov (mk k) t)
theorem MinG.keeps {w : World} {g h : Heap} {T MA MI O : Addr} {f2 : Int → Option Value} {ms : List Int} {mvs : List Value} {lt : Int → Str} {mk : Int → Option Int} (hk : g.StaysIn h) (H : MinG w g T MA MI O f2 ms mvs lt mk) : MinG w h T MA MI O f2 ms mvs lt mk :=
  ⟨H.tab.keeps hk, mapOf_keeps hk H.mi, H.lo2, isList_keeps hk H.hord, H.hints, H.hlen, fun k h0 => let ⟨M, t, a, b⟩ := H.hmode k h0; ⟨M, t, a, b.keeps hk⟩⟩
set_option maxHeartbeats 4000000 in
theorem minor_keymaps_ok {w : World} {p : Program} {loose : List Str} {mean : ExcName → Option Value} {mg mb : Str → Option Value} {A : Around} {base g : Heap} {outer : List Env} {s : Shared} {R : Result → Shared → Prop}
    {T MA MI O : Addr} {f2 : Int → Option Value} {ms : List Int} {mvs : List Value} {lt : Int → Str} {mk : Int → Option Int}
    {S D ON : Addr} {mj : Int} {n : Nat} {t0 t1 u : Tok} {ovs : List Value} {os : List Int}
    (G : Gnd (Mine.hd.heap_39 w.params) p loose mean mg mb A base outer g s.heap) (hh : A.handled = none) (hd : A.depth < 430) (hu : A.units < 1300)
    (H : MinG w g T MA MI O f2 ms mvs lt mk) (hS : g.get? S = some (instObj 175 D)) (hD : g.get? D = some (stD w n t0 t1 u mj ON)) (hO : g.IsList ON ovs.toArray) (hoi : IntsAre ovs os)
    (hret : ∀ l items n h' tk', g.StaysIn h' → g.get? l = none → h'.get? l = some (listOf (List.toArray items) n) → IntsAre items ((ms.reverse.filter fun x => os.any (· == x)).filterMap mk) → R (.ok (.ret (.ref l))) { s with heap := h', toks := tk' }) :
    codeAny (model PG w) A (.call (.ref 215) ⟨[.ref T, .ref S], []⟩) R s := by
  ((obtain ⟨B, X, Tp, st, hsz⟩ := G; obtain ⟨hd0, dp, fr, gd, un⟩ := A; have hfr : fr = some outer := B.stack; subst hfr; simp only at hh hd hu; subst hh))
  obtain ⟨hT, hm2, lo2, hord, hmi, hmlen, hmode⟩ := H
  have hT0 := hT
  obtain ⟨dT, nT, q0, q1, q2, hT1, hT2⟩ := hT0
  k_with "M call" => (fail_if_success have := @_root_.Mine.minor_keymaps_ok); (((with_reducible show wpAny _ _ (call (Value.ref 118) _) _ _ _); k_dflt (refine' minor_use ?B ?F ?N ?X ?T ?hA ?hf ?hke ?hh ?hd ?hu ?hT ?hm ?lo ?hv ?_; (case hA => exact rfl); (case hf => exact rfl); (case hke => exact rfl); (case B => k_asm); (case F => k_asm); (case N => k_asm); (case X => k_asm); (case T => k_asm); (case hh => exact rfl); (case hd => (((try simp only [depth_mark, depth_under_make, depth_under_kw, depth_in1, depth_deeper, depth_caller, units_in1, units_deeper, units_caller, Around.mark_units]); (try dsimp only); omega))); (case hu => (((try simp only [depth_mark, depth_under_make, depth_under_kw, depth_in1, depth_deeper, depth_caller, units_in1, units_deeper, units_caller, Around.mark_units]); (try dsimp only); omega))); (case hT => assumption); (case hm => assumption); (case lo => assumption); (case hv => assumption); k_whole); intro h' tk' F' N'; (try k_sweep)))
  k_with "M call" => (fail_if_success have := @_root_.Mine.minor_keymaps_ok); (((with_reducible show wpAny _ _ (call (Value.ref 172) _) _ _ _); k_dflt (refine' is_on_use ?B ?F ?N ?X ?T ?hA ?hf ?hke ?hh ?hd ?hu ?hS ?hD ?hO ?hoi ?_; (case hA => exact rfl); (case hf => exact rfl); (case hke => exact rfl); (case B => k_asm); (case F => k_asm); (case N => k_asm); (case X => k_asm); (case T => k_asm); (case hh => exact rfl); (case hd => (((try simp only [depth_mark, depth_under_make, depth_under_kw, depth_in1, depth_deeper, depth_caller, units_in1, units_deeper, units_caller, Around.mark_units]); (try dsimp only); omega))); (case hu => (((try simp only [depth_mark, depth_under_make, depth_under_kw, depth_in1, depth_deeper, depth_caller, units_in1, units_deeper, units_caller, Around.mark_units]); (try dsimp only); omega))); (case hS => (first | exact News.get (by k_asm) (by k_mem) | exact Fr.keep (by k_asm) _ _ (by assumption))); (case hD => (first | exact News.get (by k_asm) (by k_mem) | exact Fr.keep (by k_asm) _ _ (by assumption))); (case hO => (first | exact News.isList (by k_asm) (by k_mem) | exact isList_keeps (Fr.keep (by k_asm)) (by assumption))); (case hoi => first | assumption | exact IntsAre.append (by assumption) (.cons _ _ .nil)); k_whole); intro h' tk' F' N'; (try k_sweep)))
  k_with "M iter" =>
    (fail_if_success have := @_root_.Mine.minor_keymaps_ok)
    rename Fr _ _ _ _ => F0
    rename News _ _ _ _ => N0
    have hWl := hRev.length
    rw [List.length_reverse] at hWl
    k_dflt (refine' forListA [Str.ofString "symbol"] (fun i items => IntsAre items (((ms.reverse.take i).filter fun x => os.any (· == x)).filterMap mk) ∧ items.length ≤ i) rfl F0 N0 (Pick.tail (Pick.head ?nil) ?ne) (by (first | exact News.isList (by k_asm) (by k_mem) | exact isList_keeps (Fr.keep (by k_asm)) (by assumption))) ⟨.nil, Nat.le_refl _⟩ (fun h m F1 N1 => N1.isList (by k_mem)) ?_ ?_)
    case ne => k_ne
    case nil => k_all
    rotate_left
    clear F0 N0
    intro m₁ h tk items n9 hΦ F1 N1
    obtain ⟨hΦ, hΦn⟩ := hΦ
    rw [hWl, ← hRevL, List.take_length] at hΦ
    try k_fold
    rotate_left
    clear F0 N0
    intro i v m₁ h tk I oI items n9 hv hΦ F1 N1 hkI hDI
    obtain ⟨hΦ, hΦn⟩ := hΦ
    have hkI' := allNe_of hkI
    simp only [AllNe, and_true] at hkI'
    obtain ⟨own, town, rfl, hown⟩ := IntsAre.at hRev i v hv
    have hi5 := (List.getElem?_eq_some_iff.mp hv).1
    obtain ⟨M9, tM, hv2, MD, mn, m0, m1, m2, m3, m4, mu0, mu1, mbv, mhv, hM1, hM2⟩ := hmode own (List.mem_reverse.mp (List.mem_of_getElem? hown))
    rcases hmk : mk own with _ | kv <;> simp only [hmk, ov] at hM2
    all_goals (try k_fold)
  (((have M0 : ∀ q ∈ ([] : List (Addr × Obj)), s.heap.get? q.1 = some q.2 ∧ g.get? q.1 = none := fun _ hq => nomatch hq); ((k_dflt (refine' enterS0 ?k1 ?k2 ?k3 ?k4 ?k5 ?k6 ?kl ?k7 ?k8 ?k9 ?kB ?_ ?c2 ?c3 ?c4 ?c5; (case k1 => assumption); (case k2 => assumption); (case k3 => assumption); (case k4 => assumption); (case k5 => assumption); (case k6 => k_is); (case kl => (refine ⟨⟨?_, ?_⟩, ?_⟩ <;> (conv => rhs; whnf) <;> exact rfl)); (case k7 => k_is); (case k8 => k_room); (case k9 => exact binds_zip (by kernel_rfl)); (case c5 => decide); (case kB => exact locs rfl); (case c2 => exact rfl); (case c3 => exact rfl); (case c4 => exact rfl); k_whole))); intro L' h₁ hL hL2 hst F' N'; (try dsimp only); (try k_fold)))
  k_steps
  · rename Fr _ _ _ _ => F9
    rename News _ _ _ _ => N9
    rename (List.any os _) = true => hb
    refine turnEndA F9 N9 (by ((intro z h3; (try dsimp only); (simp only [List.contains_cons, List.contains_nil, Bool.or_false, Bool.or_eq_false_iff, beq_eq_false_iff_ne, ne_eq] at h3); first | (simp [h3]; done) | (simp only [h3, if_false, ite_false, List.contains_cons, List.contains_nil, Bool.or_false]; simp [h3]; done)))) (by k_mem) (by k_mem) (by k_extra "SUB") hkI hDI ⟨?_, by (try simp only [List.length_append, List.length_cons, List.length_nil]); omega⟩
    rw [filter_take _ hown, List.filterMap_append]
    simp only [hb, if_true, Bool.false_eq_true, if_false, List.filterMap_cons, List.filterMap_nil, hmk, List.append_nil]
    exact hΦ
  · rename Fr _ _ _ _ => F9
    rename News _ _ _ _ => N9
    rename (List.any os _) = false => hb
    refine turnEndA F9 N9 (by ((intro z h3; (try dsimp only); (simp only [List.contains_cons, List.contains_nil, Bool.or_false, Bool.or_eq_false_iff, beq_eq_false_iff_ne, ne_eq] at h3); first | (simp [h3]; done) | (simp only [h3, if_false, ite_false, List.contains_cons, List.contains_nil, Bool.or_false]; simp [h3]; done)))) (by k_mem) (by k_mem) (by k_extra "SUB") hkI hDI ⟨?_, by (try simp only [List.length_append, List.length_cons, List.length_nil]); omega⟩
    rw [filter_take _ hown, List.filterMap_append]
    simp only [hb, if_true, Bool.false_eq_true, if_false, List.filterMap_cons, List.filterMap_nil, hmk, List.append_nil]
    exact hΦ
  · rename Fr _ _ _ _ => F9
    rename News _ _ _ _ => N9
    rename (List.any os _) = true => hb
    rw [List.push_toArray] at N9
    refine turnEndA F9 N9 (by ((intro z h3; (try dsimp only); (simp only [List.contains_cons, List.contains_nil, Bool.or_false, Bool.or_eq_false_iff, beq_eq_false_iff_ne, ne_eq] at h3); first | (simp [h3]; done) | (simp only [h3, if_false, ite_false, List.contains_cons, List.contains_nil, Bool.or_false]; simp [h3]; done)))) (by k_mem) (by k_mem) (by k_extra "SUB") hkI hDI ⟨?_, by (try simp only [List.length_append, List.length_cons, List.length_nil]); omega⟩
    rw [filter_take _ hown, List.filterMap_append]
    simp only [hb, if_true, Bool.false_eq_true, if_false, List.filterMap_cons, List.filterMap_nil, hmk, List.append_nil]
    exact IntsAre.append hΦ (.cons _ _ .nil)
  · rename Fr _ _ _ _ => F9
    rename News _ _ _ _ => N9
    rename (List.any os _) = false => hb
    refine turnEndA F9 N9 (by ((intro z h3; (try dsimp only); (simp only [List.contains_cons, List.contains_nil, Bool.or_false, Bool.or_eq_false_iff, beq_eq_false_iff_ne, ne_eq] at h3); first | (simp [h3]; done) | (simp only [h3, if_false, ite_false, List.contains_cons, List.contains_nil, Bool.or_false]; simp [h3]; done)))) (by k_mem) (by k_mem) (by k_extra "SUB") hkI hDI ⟨?_, by (try simp only [List.length_append, List.length_cons, List.length_nil]); omega⟩
    rw [filter_take _ hown, List.filterMap_append]
    simp only [hb, if_true, Bool.false_eq_true, if_false, List.filterMap_cons, List.filterMap_nil, hmk, List.append_nil]
    exact hΦ
  · (((try dsimp only); (try (k_unfold; (try dsimp only)))))
    rename Fr _ _ _ _ => F9
    rename News _ _ _ _ => N9
    exact hret _ _ _ _ _ F9.keep (N9 (_, listOf (List.toArray items) n9) (by k_mem)).2.2 (N9.get (by k_mem)) hΦ
/-- the mode line's text -/
def litText (lt : Int → Str) (on : Int → Bool) (ms : List Int) : Str := (ms.filter on).foldl (fun a x => a ++ lt x) (Str.ofString "")
theorem litText_take {lt : Int → Str} {on : Int → Bool} {ms : List Int} {i : Nat} {x : Int} (h : ms[i]? = some x) : litText lt on (ms.take (i + 1)) = if on x = true then litText lt on (ms.take i) ++ lt x else litText lt on (ms.take i) := by
  unfold litText
  rw [filter_take _ h]
  split
  · rw [List.foldl_append]; rfl
  · rw [List.append_nil]
set_option maxHeartbeats 4000000 in
theorem lighters_ok {w : World} {p : Program} {loose : List Str} {mean : ExcName → Option Value} {mg mb : Str → Option Value} {A : Around} {base g : Heap} {outer : List Env} {s : Shared} {R : Result → Shared → Prop}
    {T MA MI O : Addr} {f2 : Int → Option Value} {ms : List Int} {mvs : List Value} {lt : Int → Str} {mk : Int → Option Int}
    {S D ON : Addr} {mj : Int} {n : Nat} {t0 t1 u : Tok} {ovs : List Value} {os : List Int}
    (G : Gnd (Mine.hd.heap_39 w.params) p loose mean mg mb A base outer g s.heap) (hh : A.handled = none) (hd : A.depth < 430) (hu : A.units < 1300)
    (H : MinG w g T MA MI O f2 ms mvs lt mk) (hlt : ∀ k, (lt k).length ≤ 100) (hS : g.get? S = some (instObj 175 D)) (hD : g.get? D = some (stD w n t0 t1 u mj ON)) (hO : g.IsList ON ovs.toArray) (hoi : IntsAre ovs os)
    (hret : ∀ t h' tk', g.StaysIn h' → R (.ok (.ret (.str (litText lt (fun x => os.any (· == x)) ms.reverse) t))) { s with heap := h', toks := tk' }) :
    codeAny (model PG w) A (.call (.ref 208) ⟨[.ref T, .ref S], []⟩) R s := by
  ((obtain ⟨B, X, Tp, st, hsz⟩ := G; obtain ⟨hd0, dp, fr, gd, un⟩ := A; have hfr : fr = some outer := B.stack; subst hfr; simp only at hh hd hu; subst hh))
  obtain ⟨hT, hm2, lo2, hord, hmi, hmlen, hmode⟩ := H
  have hT0 := hT
  obtain ⟨dT, nT, q0, q1, q2, hT1, hT2⟩ := hT0
  k_with "M call" => (fail_if_success have := @_root_.Mine.lighters_ok); (((with_reducible show wpAny _ _ (call (Value.ref 118) _) _ _ _); k_dflt (refine' minor_use ?B ?F ?N ?X ?T ?hA ?hf ?hke ?hh ?hd ?hu ?hT ?hm ?lo ?hv ?_; (case hA => exact rfl); (case hf => exact rfl); (case hke => exact rfl); (case B => k_asm); (case F => k_asm); (case N => k_asm); (case X => k_asm); (case T => k_asm); (case hh => exact rfl); (case hd => (((try simp only [depth_mark, depth_under_make, depth_under_kw, depth_in1, depth_deeper, depth_caller, units_in1, units_deeper, units_caller, Around.mark_units]); (try dsimp only); omega))); (case hu => (((try simp only [depth_mark, depth_under_make, depth_under_kw, depth_in1, depth_deeper, depth_caller, units_in1, units_deeper, units_caller, Around.mark_units]); (try dsimp only); omega))); (case hT => assumption); (case hm => assumption); (case lo => assumption); (case hv => assumption); k_whole); intro h' tk' F' N'; (try k_sweep)))
  k_with "M call" => (fail_if_success have := @_root_.Mine.lighters_ok); (((with_reducible show wpAny _ _ (call (Value.ref 172) _) _ _ _); k_dflt (refine' is_on_use ?B ?F ?N ?X ?T ?hA ?hf ?hke ?hh ?hd ?hu ?hS ?hD ?hO ?hoi ?_; (case hA => exact rfl); (case hf => exact rfl); (case hke => exact rfl); (case B => k_asm); (case F => k_asm); (case N => k_asm); (case X => k_asm); (case T => k_asm); (case hh => exact rfl); (case hd => (((try simp only [depth_mark, depth_under_make, depth_under_kw, depth_in1, depth_deeper, depth_caller, units_in1, units_deeper, units_caller, Around.mark_units]); (try dsimp only); omega))); (case hu => (((try simp only [depth_mark, depth_under_make, depth_under_kw, depth_in1, depth_deeper, depth_caller, units_in1, units_deeper, units_caller, Around.mark_units]); (try dsimp only); omega))); (case hS => (first | exact News.get (by k_asm) (by k_mem) | exact Fr.keep (by k_asm) _ _ (by assumption))); (case hD => (first | exact News.get (by k_asm) (by k_mem) | exact Fr.keep (by k_asm) _ _ (by assumption))); (case hO => (first | exact News.isList (by k_asm) (by k_mem) | exact isList_keeps (Fr.keep (by k_asm)) (by assumption))); (case hoi => first | assumption | exact IntsAre.append (by assumption) (.cons _ _ .nil)); k_whole); intro h' tk' F' N'; (try k_sweep)))
  k_with "M iter" =>
    (fail_if_success have := @_root_.Mine.lighters_ok)
    rename Fr _ _ _ _ => F0
    rename News _ _ _ _ => N0
    have hWl := hRev.length
    rw [List.length_reverse] at hWl
    k_dflt (refine' forListV (Str.ofString "found") [Str.ofString "symbol"] (fun i v => ∃ t, v = .str (litText lt (fun x => os.any (· == x)) (ms.reverse.take i)) t ∧ (litText lt (fun x => os.any (· == x)) (ms.reverse.take i)).length ≤ 100 * i) rfl F0 N0 (by (first | exact News.isList (by k_asm) (by k_mem) | exact isList_keeps (Fr.keep (by k_asm)) (by assumption))) rfl ⟨_, rfl, Nat.le_refl _⟩ (fun h m F1 N1 => N1.isList (by k_mem)) ?_ ?_)
    rotate_left
    clear F0 N0
    rintro m₁ h tk xv ⟨txv, rfl, hxl⟩ F1 N1
    rw [hWl, ← hRevL, List.take_length] at F1
    try k_fold
    rotate_left
    clear F0 N0
    rintro i v m₁ h tk I oI xv hv ⟨txv, rfl, hxl⟩ F1 N1 hkI
    have hkI' := allNe_of hkI
    simp only [AllNe, and_true] at hkI'
    obtain ⟨own, town, rfl, hown⟩ := IntsAre.at hRev i v hv
    have hi5 := (List.getElem?_eq_some_iff.mp hv).1
    obtain ⟨M9, tM, hv2, MD, mn, m0, m1, m2, m3, m4, mu0, mu1, mbv, mhv, hM1, hM2⟩ := hmode own (List.mem_reverse.mp (List.mem_of_getElem? hown))
    have hl9 := hlt own
    generalize hacc : litText lt (fun x => os.any (· == x)) (ms.reverse.take i) = acc at F1 hxl
    try k_fold
  (((have M0 : ∀ q ∈ ([] : List (Addr × Obj)), s.heap.get? q.1 = some q.2 ∧ g.get? q.1 = none := fun _ hq => nomatch hq); ((k_dflt (refine' enterS0 ?k1 ?k2 ?k3 ?k4 ?k5 ?k6 ?kl ?k7 ?k8 ?k9 ?kB ?_ ?c2 ?c3 ?c4 ?c5; (case k1 => assumption); (case k2 => assumption); (case k3 => assumption); (case k4 => assumption); (case k5 => assumption); (case k6 => k_is); (case kl => (refine ⟨⟨?_, ?_⟩, ?_⟩ <;> (conv => rhs; whnf) <;> exact rfl)); (case k7 => k_is); (case k8 => k_room); (case k9 => exact binds_zip (by kernel_rfl)); (case c5 => decide); (case kB => exact locs rfl); (case c2 => exact rfl); (case c3 => exact rfl); (case c4 => exact rfl); k_whole))); intro L' h₁ hL hL2 hst F' N'; (try dsimp only); (try k_fold)))
  k_steps
  · rename Fr _ _ _ _ => F9
    rename News _ _ _ _ => N9
    rename (List.any os _) = true => hb
    have e := litText_take (lt := lt) (on := fun x => os.any (· == x)) hown
    rw [if_pos hb, hacc] at e
    exact turnEndV F9 N9 (by ((intro z h3; (try dsimp only); (simp only [List.contains_cons, List.contains_nil, Bool.or_false, Bool.or_eq_false_iff, beq_eq_false_iff_ne, ne_eq] at h3); first | (simp [h3]; done) | (simp only [h3, if_false, ite_false, List.contains_cons, List.contains_nil, Bool.or_false]; simp [h3]; done)))) rfl (by k_extra "SUB") hkI ⟨_, by rw [e], by rw [e, Str.length_append]; omega⟩
  · rename Fr _ _ _ _ => F9
    rename News _ _ _ _ => N9
    rename (List.any os _) = false => hb
    have e := litText_take (lt := lt) (on := fun x => os.any (· == x)) hown
    rw [if_neg (by rw [hb]; exact Bool.false_ne_true), hacc] at e
    exact turnEndV F9 N9 (by ((intro z h3; (try dsimp only); (simp only [List.contains_cons, List.contains_nil, Bool.or_false, Bool.or_eq_false_iff, beq_eq_false_iff_ne, ne_eq] at h3); first | (simp [h3]; done) | (simp only [h3, if_false, ite_false, List.contains_cons, List.contains_nil, Bool.or_false]; simp [h3]; done)))) rfl (by k_extra "SUB") hkI ⟨_, by rw [e], by rw [e]; omega⟩
  · (((try dsimp only); (try (k_unfold; (try dsimp only)))))
    rename Fr _ _ _ _ => F9
    exact hret _ _ _ F9.keep
/-- the iterator has gone on -/
theorem advance {g h h4 : Heap} {L I : Addr} {oI oI2 : Obj} {m : Str → Option Value} {nw rest : List (Addr × Obj)} (F : Fr g L h m) (N : News g L h nw) (P : Pick I oI nw rest) (h2 : h4.get? I = some oI2) (hk : ∀ b o, b ≠ I → h.get? b = some o → h4.get? b = some o) : Fr g L h4 m ∧ News g L h4 ((I, oI2) :: rest) := by
  obtain ⟨p1, p2⟩ := P.spec
  have hI := N _ p1
  refine ⟨⟨let ⟨o, es, ep, x, y⟩ := F.ns; ⟨o, es, ep, hk _ _ (Ne.symm hI.2.1) x, y⟩, fun b o e => hk b o (fun q => by rw [q, hI.2.2] at e; cases e) (F.keep b o e), F.above⟩, fun q hq => ?_⟩
  rcases List.mem_cons.mp hq with rfl | hq
  · exact ⟨h2, hI.2⟩
  · exact ⟨hk _ _ (p2 q hq).2 (N q (p2 q hq).1).1, (N q (p2 q hq).1).2⟩
theorem advance0 {g h h4 : Heap} {L I : Addr} {oI : Obj} {m : Str → Option Value} {nw rest : List (Addr × Obj)} (F : Fr g L h m) (N : News g L h nw) (P : Pick I oI nw rest) (hk : ∀ b o, b ≠ I → h.get? b = some o → h4.get? b = some o) : Fr g L h4 m ∧ News g L h4 rest := by
  obtain ⟨p1, p2⟩ := P.spec
  have hI := N _ p1
  exact ⟨⟨let ⟨o, es, ep, x, y⟩ := F.ns; ⟨o, es, ep, hk _ _ (Ne.symm hI.2.1) x, y⟩, fun b o e => hk b o (fun q => by rw [q, hI.2.2] at e; cases e) (F.keep b o e), F.above⟩, fun q hq => ⟨hk _ _ (p2 q hq).2 (N q (p2 q hq).1).1, (N q (p2 q hq).1).2⟩⟩
section
open PySem.SeqAt PyProof.V PySem.Spec PySem.W
variable {prog : Program} {w : World} {A : Around} {E : Value → Shared → Prop} {s : Shared}
/-- (a number, a list of numbers) == the same -/
theorem eq_tupIL {a b l l' : Addr} {o o' : Obj} {x : Int} {t t' : Tok} {n n' : Nat} {vs us : List Value} {ns : List Int} {Q : Value → Shared → Prop} (ha : s.heap.get? a = some o) (hc : o.cls = .type "tuple") (hd : o.data = .seq #[.int x t, .ref l] n) (hb : s.heap.get? b = some o') (hc' : o'.cls = .type "tuple") (hd' : o'.data = .seq #[.int x t', .ref l'] n')
    (hl : s.heap.IsList l vs.toArray) (hi : IntsAre vs ns) (hl' : s.heap.IsList l' us.toArray) (hi' : IntsAre us ns)
    (hu : A.units + 64 < cLine) (h : Q (.bool true) s) : wpAny (model prog w) A (compareOp .Eq (.ref a) (.ref b)) Q E s := by
  have r1 := Reads.tuple ha hc hd (by simpa using ReadsAll.cons (Reads.int (h := s.heap) x t) (ReadsAll.cons (reads_of_ints hl hi) .nil))
  have r2 := Reads.tuple hb hc' hd' (by simpa using ReadsAll.cons (Reads.int (h := s.heap) x t') (ReadsAll.cons (reads_of_ints hl' hi') .nil))
  have h1 := PySem.W.depthAll_ints ns
  have sh : shaped (.tuple [.int x, .list (ns.map PyData.int)]) = true := by
    have h2 : PyData.depth (.tuple [.int x, .list (ns.map PyData.int)]) ≤ 64 := by simp only [PyData.depth, PyData.depthAll]; omega
    show (PyData.canLay0 _ && decide (PyData.depth (.tuple [.int x, .list (ns.map PyData.int)]) ≤ 64)) = true
    rw [Bool.and_eq_true]
    exact ⟨by simp [PyData.canLay0, PyData.canLayAll0, PySem.W.canLayAll0_ints], decide_eq_true h2⟩
  refine eq_dataH_same r1 r2 sh sh hu (by simp [noMix, noMixAll, PySem.W.noMix_ints]) ?_
  simp only [PySem.Spec.same, PySem.Spec.sameAll, PySem.W.same_ints, decide_true, Bool.and_self, Bool.and_true]
  simpa using h
end
section
open PySem.W
variable {prog : Program} {w : World} {A : Around} {E : Value → Shared → Prop} {h : Heap} {g : Array GenState} {d : Drawn} {t : Nat} {os : OsState}
variable {nm q : Str} {C N f : Addr} {bs bm bmB : List Value} {hdct : Bool} {sn : List Str} {sub : List Value} {ab : Bool} {col : Option Bool} {dd : Option Addr} {k0 k1 k2 k3 k5 : Option Value} {B Bn newId nid initId inN : String} {bmN : List Value}

abbrev excT (rest : List Value) : Obj := { cls := .type "tuple", data := .seq rest.toArray }
abbrev excO (C t : Addr) (dc : Option Addr) : Obj := { cls := .ref C, dict := dc, data := .fields #[.ref t, .none, .none, .none, .bool false, .none] }

theorem type_call_own (Fn : ExcBaseFacts Bn newId inN bmN) (hBn : bmB.contains (.type Bn) = true) (F : ExcBaseFacts B nid initId bmB) (T : OwnTail h bmB bm) {mN : Str → Option Value} {rest : List Value} {Q : Fin → Shared → Prop}
    (hC : h.get? C = some (excClassObj nm q C N bs bm hdct sn sub ab col dd k0 k1 k2 k3 k5 newId)) (hn : h.Ns N mN) (hni : mN "__init__" = some (.ref f))
    (hb : ∀ h' self, h.StaysIn h' → Looks (model prog w) h' (bindSpecial (.ref f) self) (.ref f, [self]))
    (hq : wpAny (model prog w) A (call (.ref f) (.ref (h.objs.size + 1) :: rest)) (fun v s' => v = .none ∧ Q (.done (.ret (.ref (h.objs.size + 1)))) s') E ⟨(h.push (excT rest)).push (excO C h.objs.size none), g, d, t, os⟩) (hrest : rest.length ≤ sizeLine := by size_fits) :
    wpAny (model prog w) A (Builtin.«type.__call__» ⟨.ref C :: rest, []⟩) Q E ⟨h, g, d, t, os⟩ := by
  repeat (first | with_reducible refine wpAny_loadPart_at hC ?_ | with_reducible refine wpAny_madeBy_exc hC ?_ | wp_step)
  refine codeAny_call_builtin_code (Code.quiet_builtin _ Fn.quiet) (wpAny_check_new_subU Fn hBn T hC ?_)
  refine codeAny_exc_new_subU Fn hBn F T hC ?_ hrest
  show wpAny _ _ _ _ _ _
  have st : h.StaysIn ((h.push (excT rest)).push (excO C h.objs.size none)) := fun b o e => Heap.get?_push_of_some _ (Heap.get?_push_of_some _ e)
  have hC₁ := st _ _ hC
  have hn₁ : ((h.push (excT rest)).push (excO C h.objs.size none)).Ns N mN := let ⟨o, es, ep, e, r⟩ := hn; ⟨o, es, ep, st _ _ e, r⟩
  have hget : ((h.push (excT rest)).push (excO C h.objs.size none)).get? (h.objs.size + 1) = some (excO C h.objs.size none) := by heap_get
  have hcC : (Value.ref C :: bm).contains (.ref C) = true := by simp
  have T₁ := T.keeps (h' := (h.push (excT rest)).push (excO C h.objs.size none)) st
  unfold isInstance
  repeat (first | with_reducible refine wpAny_loadPart_at hget ?_ | (with_reducible refine wpAny_isSubtype_exc hC₁ ?_; rw [hcC]) | wp_step)
  show wpAny _ _ (typeLookup (.ref C) _) _ _ _
  refine wpAny_typeLookup_tail hC₁ hn₁ T₁ F.mroIs F.init.lookup ?_
  rw [hni]
  refine wpAny_holding (wpAny_bind ((hb _ _ st).here ?_))
  refine wpAny_bind (wpAny_mono hq (fun v s' hv => ?_) fun _ _ e => e)
  obtain ⟨rfl, hv⟩ := hv
  wp_walk
  exact hv

theorem call_own (Fn : ExcBaseFacts Bn newId inN bmN) (hBn : bmB.contains (.type Bn) = true) (F : ExcBaseFacts B nid initId bmB) (T : OwnTail h bmB bm) {mN : Str → Option Value} {rest : List Value} {Q : Value → Shared → Prop}
    (hC : h.get? C = some (excClassObj nm q C N bs bm hdct sn sub ab col dd k0 k1 k2 k3 k5 newId)) (hn : h.Ns N mN) (hni : mN "__init__" = some (.ref f))
    (hb : ∀ h' self, h.StaysIn h' → Looks (model prog w) h' (bindSpecial (.ref f) self) (.ref f, [self]))
    (hq : wpAny (model prog w) (A.under (.builtin "type.__call__" ⟨.ref C :: rest, []⟩)) (call (.ref f) (.ref (h.objs.size + 1) :: rest)) (fun v s' => v = .none ∧ Q (.ref (h.objs.size + 1)) s') E ⟨(h.push (excT rest)).push (excO C h.objs.size none), g, d, t, os⟩) (hrest : rest.length ≤ sizeLine := by size_fits) :
    wpAny (model prog w) A (call (.ref C) rest) Q E ⟨h, g, d, t, os⟩ := by
  have f1 := tc_lookup
  have f2 := tc_bind (.ref C)
  have hT : (⟨h, g, d, t, os⟩ : Shared).TypeIs (.ref C) "type" := ⟨_, hC, rfl⟩
  refine wpAny_call (codeAny_of_tree ?_)
  show wpAny _ _ (callAny (.ref C) _) _ _ _
  repeat (any_goals (first | assumption | with_reducible refine wpAny_loadPart_at hC ?_ | wp_step))
  refine ⟨rfl, ?_⟩
  exact codeAny_call_builtin_at (Code.quiet_builtin _ (by decide +kernel)) entry_typeCall (wpAny_check_type_call_sub hC (type_call_own (hrest := hrest) Fn hBn F T hC hn hni hb hq))
end
section
open PySem.W Builtin Builtin.ObjectAttr
variable {prog : Program} {w : World} {A : Around} {E : Value → Shared → Prop} {h : Heap} {g : Array GenState} {d : Drawn} {t : Nat} {os : OsState}
variable {nm q : Str} {C N x : Addr} {bs bm : List Value} {sn : List Str} {sub : List Value} {ab : Bool} {col : Option Bool} {dd : Option Addr} {k0 k1 k2 k3 k5 : Option Value} {B newId sa owner : String} {mN : Str → Option Value} {name : Str} {v : Value}
/-- the first attribute of an exception: its dict is made, and it is new -/
theorem store_entry1 {tk : Tok} {Q : Fin → Shared → Prop} {tp : Addr} (SF : StoreFacts B bm sa owner)
    (hC : h.get? C = some (excClassObj nm q C N bs bm true sn sub ab col dd k0 k1 k2 k3 k5 newId)) (hn : h.Ns N mN) (hna : mN name = none)
    (hB : typeLookup (.type B) name = pure none) (hx : h.get? x = some (excO C tp none))
    (hq : ∀ h' tk', h'.get? x = some (excO C tp (some h.objs.size)) → h'.Ns1 h.objs.size (fun y => if y = name then some v else none) → (∀ b o, b ≠ x → h.get? b = some o → h'.get? b = some o) → Q (.done (.ret .none)) ⟨h', g, d, tk', os⟩) :
    wpAny (model prog w) A (Builtin.«object.__setattr__» ⟨[.ref x, .str name tk, v], []⟩) Q E ⟨h, g, d, t, os⟩ := by
  have hpass := SF.passes (.ref x)
  obtain ⟨o, ho⟩ : ∃ o, o = excO C tp none := ⟨_, rfl⟩
  have hx0 := hx
  rw [← ho] at hx
  have hc : o.cls = .ref C := by rw [ho]
  unfold Builtin.«object.__setattr__»
  repeat (first | rw [refuse_eq] | (rw [refuseLoop_ref, hpass]) | (with_reducible refine wpAny_loadPart_at hx ?_; rw [hc]) | with_reducible refine wpAny_mroOf_exc hC ?_ | (with_reducible refine wpAny_typeLookup_exc hC hn SF.mro hB ?_; rw [hna]) | wp_step)
  subst ho
  show wpAny _ _ (do let d ← alloc { cls := .type "dict", data := .dict #[] }; update x (fun o => { o with dict := some d }); pure (some d)) _ _ _
  have hx₁ : (h.push { cls := .type "dict", data := .dict #[] }).get? x = some (excO C tp none) := Heap.get?_push_of_some _ hx
  have hxs : x ≠ h.objs.size := Nat.ne_of_lt (Heap.lt_size hx)
  refine wpAny_bind (wpAny_alloc' ?_)
  refine wpAny_bind (wpAny_update' hx₁ ?_)
  refine wpAny_pure ?_
  have hgd : ((h.push { cls := .type "dict", data := .dict #[] }).update x fun o => { cls := o.cls, dict := some h.objs.size, data := o.data, slots := o.slots }).get? h.objs.size = some { cls := .type "dict", data := .dict #[] } :=
    (Heap.get?_update_ne _ _ _ _ hxs.symm).trans (Heap.get?_push_at rfl rfl)
  have hnd : ((h.push { cls := .type "dict", data := .dict #[] }).update x fun o => { cls := o.cls, dict := some h.objs.size, data := o.data, slots := o.slots }).Ns h.objs.size (fun _ => none) :=
    ⟨_, #[], _, hgd, rfl, fun e he => absurd he (by simp), fun _ => rfl⟩
  show wpAny _ _ (storeInDict h.objs.size (.str name tk) name v) _ _ _
  unfold storeInDict newKeyGuard
  refine wpAny_bind (wpAny_pure (wpAny_bind (wpAny_nsSet1 (Heap.Ns1.of_empty hnd) fun h' hn' hs => ?_)))
  obtain ⟨oD, esD, epD, hoD, hdD, hcD⟩ := hn'.count (Within.cons name v Within.nil)
  refine wpAny_bind (wpAny_lookBehind hoD (by rw [hdD]; exact pastItsLine_dict (Nat.le_trans hcD (by rw [List.length_cons, List.length_nil, sizeLine_eq]; omega))) ?_)
  wp_walk
  refine hq h' _ ?_ hn' fun b ob hbx hb => (hs.2 b (Nat.ne_of_lt (Heap.lt_size hb))).trans ((Heap.get?_update_ne _ _ _ _ hbx).trans (Heap.get?_push_of_some _ hb))
  exact (hs.2 x hxs).trans (Heap.get?_update_self _ hx₁ rfl)
theorem store_attr1 {Q : Unit → Shared → Prop} {tp : Addr} (SF : StoreFacts B bm sa owner)
    (hC : h.get? C = some (excClassObj nm q C N bs bm true sn sub ab col dd k0 k1 k2 k3 k5 newId)) (hn : h.Ns N mN) (hns : mN "__setattr__" = none) (hna : mN name = none)
    (hB : typeLookup (.type B) name = pure none) (hx : h.get? x = some (excO C tp none))
    (hq : ∀ h' tk', h'.get? x = some (excO C tp (some h.objs.size)) → h'.Ns1 h.objs.size (fun y => if y = name then some v else none) → (∀ b o, b ≠ x → h.get? b = some o → h'.get? b = some o) → Q () ⟨h', g, d, tk', os⟩) :
    wpAny (model prog w) A (setAttr (.ref x) name v) Q E ⟨h, g, d, t, os⟩ := by
  have f3 := SF.slot.bind (.ref x)
  unfold setAttr callSpecial? specialOf
  repeat (any_goals (first | assumption | (with_reducible refine wpAny_loadPart_at hx ?_) | (with_reducible refine wpAny_typeLookup_exc hC hn SF.mro SF.slot.lookup ?_; rw [hns]) | wp_step))
  refine codeAny_call_builtin SF.slot.plain SF.entry (wpAny_check_sa SF hC hx rfl (store_entry1 SF hC hn hna hB hx fun h' tk' I' hk hsame => ?_))
  repeat (any_goals (first | assumption | wp_step))
  exact hq h' tk' I' hk hsame
end
abbrev bmE : List Value := [.type "Exception", .type "BaseException", .type "object"]
theorem ns_get {h : Heap} {N : Addr} {m : Str → Option Value} {o : Obj} {es : Array DictEntry} {ep : Nat} (G : h.Ns N m) (e : h.get? N = some o) (d : o.data = .dict es ep) (x : Str) : m x = nsFind es x := by
  obtain ⟨o', es', ep', e', d', _, f⟩ := G
  rw [e] at e'; cases e'
  rw [d] at d'; cases d'
  exact (f x).symm
/-- the class LispSignal -/
inductive LispAt (h : Heap) : Prop
  | mk (nm qn : Str) (N : Addr) (bs : List Value) (sn : List Str) (sub : List Value) (ab : Bool) (col : Option Bool) (dd : Option Addr) (k0 k1 k2 k3 k5 : Option Value) (mN : Str → Option Value) :
      h.get? 31 = some (excClassObj nm qn 31 N bs bmE true sn sub ab col dd k0 k1 k2 k3 k5 "Exception.__new__") → h.Ns N mN → mN (Str.ofString "__init__") = some (.ref 28) →
      mN (Str.ofString "symbol") = none → mN (Str.ofString "data") = none → mN (Str.ofString "__setattr__") = none → LispAt h
theorem lisp_at {w : World} {h : Heap} (X : (Mine.hd.heap_39 w.params).In h) : LispAt h := by
  refine .mk _ _ _ _ _ _ _ _ _ _ _ _ _ _ _ ((X 31 _ (by kernel_rfl)).trans (rfl : some (o68 w.params) = _)) (.of_isNs (isNs_of_in X (by kernel_rfl))) ?_ ?_ ?_ ?_
  · rw [ns_get (.of_isNs (isNs_of_in X (by kernel_rfl))) (X _ _ (by (conv => lhs; whnf))) rfl]; kernel_rfl
  · exact nsMap_none_of_in X (by kernel_rfl) (by kernel_rfl)
  · exact nsMap_none_of_in X (by kernel_rfl) (by kernel_rfl)
  · exact nsMap_none_of_in X (by kernel_rfl) (by kernel_rfl)
section
variable {prog : Program} {w : World} {A : Around} {E : Value → Shared → Prop} {s : Shared} {h₀ : Heap} {L e tp : Addr} {m : Str → Option Value} {name : Str} {v : Value} {Q : Unit → Shared → Prop}
open PySem.W
theorem set_exc1 (X : (Mine.hd.heap_39 w.params).In h₀) (F : Fr h₀ L s.heap m) (N : News h₀ L s.heap [(e, excO 31 tp none)])
    (h : ∀ dx h' tk', Fr h₀ L h' m → News h₀ L h' [(e, excO 31 tp (some dx))] → h₀.get? dx = none → dx ≠ L → dx ≠ e → h'.Ns1 dx (fun y => if y = Str.ofString "symbol" then some v else none) → Q () { s with heap := h', toks := tk' }) :
    wpAny (model PG w) A (setAttr (.ref e) (Str.ofString "symbol") v) Q E s := by
  obtain ⟨nm, qn, C, bs, sn, sub, ab, col, dd, k0, k1, k2, k3, k5, mN, hC, hn, _, h1, _, h3⟩ := lisp_at (X.keeps F.keep)
  obtain ⟨hp, g, d, t, os⟩ := s
  have hx := N _ (.head _)
  refine store_attr1 PySem.F.store_Exception hC hn h3 h1 (by rw [typeLookup_type, builtinLookup_eq_fast]; kernel_rfl) hx.1 fun h' tk' a b c => ?_
  have hL : L < hp.objs.size := F.ns.lt
  have kp : ∀ b o, h₀.get? b = some o → h'.get? b = some o := fun b o e' => c b o (fun q => by rw [q, hx.2.2] at e'; cases e') (F.keep b o e')
  refine h hp.objs.size h' tk' ⟨let ⟨o, es, ep, x, y⟩ := F.ns; ⟨o, es, ep, c _ _ (Ne.symm hx.2.1) x, y⟩, kp, F.above⟩ (fun q hq => by rw [List.mem_singleton.mp hq]; exact ⟨a, hx.2⟩)
    (Heap.get?_none_of_le (Nat.le_trans F.above (Nat.le_of_lt hL))) (Nat.ne_of_gt hL) (Nat.ne_of_gt (Heap.lt_size hx.1)) b
theorem set_exc2 {dx : Addr} {v0 : Value} (X : (Mine.hd.heap_39 w.params).In h₀) (F : Fr h₀ L s.heap m) (N : News h₀ L s.heap [(e, excO 31 tp (some dx))])
    (d1 : h₀.get? dx = none) (d2 : dx ≠ L) (d3 : dx ≠ e) (hN1 : s.heap.Ns1 dx (fun y => if y = Str.ofString "symbol" then some v0 else none))
    (h : ∀ h' tk', Fr h₀ L h' m → News h₀ L h' [(e, excO 31 tp (some dx))] → Q () { s with heap := h', toks := tk' }) :
    wpAny (model PG w) A (setAttr (.ref e) (Str.ofString "data") v) Q E s := by
  obtain ⟨nm, qn, C, bs, sn, sub, ab, col, dd, k0, k1, k2, k3, k5, mN, hC, hn, _, _, h2, h3⟩ := lisp_at (X.keeps F.keep)
  obtain ⟨hp, g, d, t, os⟩ := s
  have hx := N _ (.head _)
  have hxC : e ≠ 31 := fun q => by
    have := hx.1
    simp only at this hC
    rw [q, hC] at this; cases this
  refine store_attr PySem.F.store_Exception hC hn h3 h2 (by rw [typeLookup_type, builtinLookup_eq_fast]; kernel_rfl) hxC ⟨_, hx.1, rfl, (fun c q => by cases q), .inr ⟨dx, rfl, d3, hN1⟩⟩ (ns := [Str.ofString "symbol"]) (fun h' tk' _ c c2 => ?_) (Within.cons _ _ Within.nil)
  have c' : ∀ b o, b ≠ e → b ≠ dx → hp.get? b = some o → h'.get? b = some o := fun b o hb hb2 => c b o hb fun o₀ dx' q1 q2 => by
    simp only at hx
    rw [hx.1] at q1; cases q1; cases q2; exact hb2
  obtain ⟨o₁, x1, x2, x3, x4, x5⟩ := c2 _ hx.1
  have ho : o₁ = excO 31 tp (some dx) := by
    have := x5 dx rfl
    obtain ⟨a, b, c, d⟩ := o₁
    simp only at x2 x3 x4 this
    subst x2 x3 x4 this
    rfl
  refine h h' tk' ⟨let ⟨o, es, ep, x, y⟩ := F.ns; ⟨o, es, ep, c' _ _ (Ne.symm hx.2.1) (Ne.symm d2) x, y⟩, fun b o e' => c' b o (fun q => by rw [q, hx.2.2] at e'; cases e') (fun q => by rw [q, d1] at e'; cases e') (F.keep b o e'), F.above⟩
    (fun q hq => by rw [List.mem_singleton.mp hq]; exact ⟨ho ▸ x1, hx.2⟩)
end
theorem hk_X3_0 : True := by
  k_with "HsetAttr ref" => (fail_if_success have := @_root_.Mine.ls_init_ok); (k_here; k_dflt (k_extra "M set"))
  trivial
set_option maxHeartbeats 2000000 in
theorem ls_init_ok {w : World} {p : Program} {loose : List Str} {mean : ExcName → Option Value} {mg mb : Str → Option Value} {A : Around} {base g : Heap} {outer : List Env} {s : Shared} {R : Result → Shared → Prop}
    {e tp : Addr} {x y : Value}
    (G : Gnd (Mine.hd.heap_39 w.params) p loose mean mg mb A base outer g s.heap) (hh : A.handled = none) (hd : A.depth < 450) (hu : A.units < 1500)
    (M : ∀ q ∈ [(e, excO 31 tp none)], s.heap.get? q.1 = some q.2 ∧ g.get? q.1 = none)
    (hret : ∀ dx h' tk', g.StaysIn h' → h'.get? e = some (excO 31 tp (some dx)) → R (.ok (.ret .none)) { s with heap := h', toks := tk' }) :
    codeAny (model PG w) A (.call (.ref 28) ⟨[.ref e, x, y], []⟩) R s := by
  ((obtain ⟨B, X, Tp, st, hsz⟩ := G; obtain ⟨hd0, dp, fr, gd, un⟩ := A; have hfr : fr = some outer := B.stack; subst hfr; simp only at hh hd hu; subst hh))
  k_with "M set" =>
    (fail_if_success have := @_root_.Mine.ls_init_ok)
    rename Fr _ _ _ _ => F0
    rename News _ _ _ _ => N0
    refine set_exc1 X F0 N0 ?_
    clear F0 N0
    intro dx h' tk' F1 N1 hx1 hx2 hx3 hN1
  k_with "M set" =>
    (fail_if_success have := @_root_.Mine.ls_init_ok)
    rename Fr _ _ _ _ => F0
    rename News _ _ _ _ => N0
    refine set_exc2 X F0 N0 hx1 hx2 hx3 hN1 ?_
    clear F0 N0 hN1
    intro h' tk' F1 N1
  ((k_dflt (refine' enterS0 ?k1 ?k2 ?k3 ?k4 ?k5 ?k6 ?kl ?k7 ?k8 ?k9 ?kB ?_ ?c2 ?c3 ?c4 ?c5; (case k1 => assumption); (case k2 => assumption); (case k3 => assumption); (case k4 => assumption); (case k5 => assumption); (case k6 => k_is); (case kl => (refine ⟨⟨?_, ?_⟩, ?_⟩ <;> (conv => rhs; whnf) <;> exact rfl)); (case k7 => k_is); (case k8 => k_room); (case k9 => exact binds_zip (by kernel_rfl)); (case c5 => decide); (case kB => exact locs rfl); (case c2 => exact rfl); (case c3 => exact rfl); (case c4 => exact rfl); k_whole)))
  intro L' h₁ hL hL2 hst F' N'
  try dsimp only
  try k_fold
  k_steps
  exact hret dx _ _ F1.keep (N1.get (by k_mem))
section
variable {w : World} {A₀ A : Around} {s : Shared} {base h₀ : Heap} {outer : List Env} {L : Addr} {m : Str → Option Value} {env : Env} {news : List (Addr × Obj)} {p : Program} {loose : List Str} {mean : ExcName → Option Value} {mg mb : Str → Option Value}
open PySem.W
/-- LispSignal(x, y) -/
theorem lisp_use {x y : Value} {Q E : Value → Shared → Prop} (B : Below A₀ base outer h₀) (F : Fr h₀ L s.heap m) (N : News h₀ L s.heap news) (X : (Mine.hd.heap_39 w.params).In h₀) (Tp : Top p loose mean mg mb h₀)
    (hA : A.frames = some (env :: outer)) (hf : env.frame = some L) (hke : env.scope.kind = .function) (hh : A.handled = none) (hd : A.depth < 448) (hu : A.units < 1490)
    (h : ∀ e tp dx h' tk', Fr h₀ L h' m → News h₀ L h' ((e, excO 31 tp (some dx)) :: (tp, excT [x, y]) :: news) → (∀ q ∈ news, q.1 < tp) → tp < e → Q (.ref e) { s with heap := h', toks := tk' }) :
    wpAny (model PG w) A (call (.ref 31) [x, y]) Q E s := by
  obtain ⟨nm, qn, C, bs, sn, sub, ab, col, dd, k0, k1, k2, k3, k5, mN, hC, hn, hi, _, _, _⟩ := lisp_at (X.keeps F.keep)
  have B₁ := pushX B F hf hke
  obtain ⟨hp, g, d, t, os⟩ := s
  have st1 : hp.StaysIn (hp.push (excT [x, y])) := fun b o e => Heap.get?_push_of_some _ e
  have st2 : (hp.push (excT [x, y])).StaysIn ((hp.push (excT [x, y])).push (excO 31 hp.objs.size none)) := fun b o e => Heap.get?_push_of_some _ e
  refine call_own PySem.F.excBase_Exception (by decide +kernel) PySem.F.excBase_Exception .base hC hn hi (fun h' self k => bind_fn ((X.keeps F.keep).keeps k) self (by k_is)) ?_
  refine wpAny_call (ls_init_ok (g := hp.push (excT [x, y])) (base := base) (outer := env :: outer) ⟨⟨(by obtain ⟨hd0, dp, fr, gd, un⟩ := A; exact hA), fun b o e => st1 b o (B₁.stays b o e), B₁.frames.of_keeps fun b o e _ => ⟨o, st1 b o e, rfl⟩⟩, (X.keeps F.keep).keeps st1, (Tp.keeps F.keep).keeps st1, st2, by show _ ≤ (Heap.push _ _).objs.size; rw [Heap.size_push (hp.push _)]; exact Nat.le_succ _⟩ (by obtain ⟨hd0, dp, fr, gd, un⟩ := A; exact hh) (by rw [depth_under_make]; omega) (by rw [units_under_make]; omega)
    (e := hp.objs.size + 1) (tp := hp.objs.size) (fun q hq => ?_) fun dx h' tk' sk he => ⟨rfl, ?_⟩)
  · rw [List.mem_singleton.mp hq]
    exact ⟨by have := Heap.get?_push_size (hp.push (excT [x, y])) (o := excO 31 hp.objs.size none) rfl; rw [Heap.size_push] at this; exact this, Heap.get?_none_of_le (by rw [Heap.size_push]; exact Nat.le_refl _)⟩
  · have keep : ∀ b o, hp.get? b = some o → h'.get? b = some o := fun b o e => sk b o (st1 b o e)
    have hL : L < hp.objs.size := F.ns.lt
    refine h (hp.objs.size + 1) hp.objs.size dx h' tk' ⟨F.ns.keeps keep, fun b o e => keep b o (F.keep b o e), F.above⟩ (fun q hq => ?_) (fun q hq => Heap.lt_size (N q hq).1) (Nat.lt_succ_self _)
    have fresh : ∀ b, hp.objs.size ≤ b → b ≠ L ∧ h₀.get? b = none := fun b hb => ⟨Nat.ne_of_gt (Nat.lt_of_lt_of_le hL hb), Heap.get?_none_of_le (Nat.le_trans F.above (Nat.le_trans (Nat.le_of_lt hL) hb))⟩
    rcases List.mem_cons.mp hq with rfl | hq
    · exact ⟨he, fresh _ (Nat.le_succ _)⟩
    rcases List.mem_cons.mp hq with rfl | hq
    · exact ⟨sk _ _ (Heap.get?_push_size _ rfl), fresh _ (Nat.le_refl _)⟩
    · exact ⟨keep _ _ (N q hq).1, (N q hq).2⟩
/-- what a raise wants -/
def Rais9 (w : World) (E : Value → Shared → Prop) (v : Value) (s₁ : Shared) : Prop :=
  ∃ e tp dx, v = .ref e ∧ (Mine.hd.heap_39 w.params).In s₁.heap ∧ s₁.heap.get? e = some (excO 31 tp dx) ∧ E (.ref e) s₁
theorem raise_any {M : Model} {E : Value → Shared → Prop} {ex : Expr} {pos : Pos} {Q : Flow → Shared → Prop} (hh : A.handled = none) (h : wpAny M A (eval ex env) (Rais9 w E) E s) : wpAny M A (exec (.Raise (some ex) none pos) env) Q E s := by
  show wpAny M A (do standAt pos; raiseStmt env (some (do let v ← eval ex env; standAt pos; pure v)) none) Q E s
  refine wpAny_bind (wpAny_standAt ?_)
  unfold raiseStmt
  dsimp only
  refine wpAny_bind (wpAny_bind (wpAny_mono h (fun v s₁ h₁ => wpAny_bind (wpAny_standAt (wpAny_pure ?_))) fun _ _ x => x))
  obtain ⟨e, tp, dx, rfl, X, he, hE⟩ := h₁
  obtain ⟨nm, qn, C, bs, sn, sub, ab, col, dd, k0, k1, k2, k3, k5, mN, hC, hn, hi, _, _, _⟩ := lisp_at X
  obtain ⟨hp, g, d, tk, os⟩ := s₁
  have hcB : (Value.ref 31 :: bmE).contains (.type "BaseException") = true := by decide +kernel
  repeat (first | with_reducible refine wpAny_loadPart_at he ?_ | with_reducible refine wpAny_loadPart_at hC ?_ | (with_reducible refine wpAny_isSubtype_exc hC ?_; rw [hcB]) | wp_step)
  exact wpAny_raiseNew_none hh hE
end
section
variable {M : Model} {A : Around} {s : Shared} {base gs : Heap} {env : Env} {outer : List Env} {L e tp : Addr} {Q : Unit → Shared → Prop} {E : Value → Shared → Prop}
theorem funFrames_off {base gs h : Heap} : ∀ {l : List Env}, h.FunFrames base l → (∀ env ∈ l, ∀ a, env.frame = some a → gs.get? a = none) → h.FunFrames gs l
  | [], _, _ => trivial
  | env :: _, ⟨hk, ⟨L, o, hf, _, ho, hd⟩, hr⟩, hin => ⟨hk, ⟨L, o, hf, hin env (.head _) L hf, ho, hd⟩, funFrames_off hr fun e he => hin e (.tail _ he)⟩
/-- the first frame that an exception leaves -/
theorem leave_first9 {dx : Option Addr} (hA : A.frames = some (env :: outer)) (hf : env.frame = some L) (hl : s.heap.FunFrames base (env :: outer)) (hgs : gs.StaysIn s.heap) (hoff : ∀ env' ∈ env :: outer, ∀ a, env'.frame = some a → gs.get? a = none)
    (he : s.heap.get? e = some (excO 31 tp dx)) (hen : gs.get? e = none)
    (hQ : ∀ h', Heap.FlyingW gs outer e (.ref 31) (.ref tp) h' → s.heap.UpToSlots h' → Q () { s with heap := h' }) : wpAny M A (leaving env (.ref e)) Q E s := by
  refine wpAny_leaving_firstW hA (funFrames_off hl hoff) hf he hgs hen rfl rfl rfl fun h' ⟨k1, k2, k3, k4⟩ => ?_
  obtain ⟨_, _, k2⟩ := k2
  exact hQ h' ⟨k1, hen, k2, k3⟩ k4
end
section
variable {M : Model} {A A₀ : Around} {s : Shared} {base gs g h : Heap} {env : Env} {outer : List Env} {L e tp : Addr} {m : Str → Option Value} {Q : Unit → Shared → Prop} {E : Value → Shared → Prop}
/-- a raise leaves its own frame -/
theorem raise_close {dx : Option Addr} (B : Below A₀ base outer g) (F : Fr g L s.heap m) (hA : A.frames = some (env :: outer)) (hf : env.frame = some L) (hke : env.scope.kind = .function) (hgs : gs.StaysIn g) (hoff : ∀ env' ∈ outer, ∀ a, env'.frame = some a → gs.get? a = none)
    (he : s.heap.get? e = some (excO 31 tp dx)) (hen : g.get? e = none)
    (hQ : ∀ h', Heap.FlyingW gs outer e (.ref 31) (.ref tp) h' → g.UpToSlots h' → Q () { s with heap := h' }) : wpAny M A (leaving env (.ref e)) Q E s := by
  have sub : ∀ {a}, g.get? a = none → gs.get? a = none := fun {a} q => by
    cases q2 : gs.get? a with
    | none => rfl
    | some o => rw [hgs _ _ q2] at q; cases q
  refine leave_first9 (base := base) (gs := gs) hA hf (pushX (A := A₀) B F hf hke).frames (fun b o e => F.keep b o (hgs b o e)) (fun env' h1 a h2 => ?_) he (sub hen) fun h' h1 h2 => hQ h' h1 ((Heap.UpToSlots.of_keeps F.keep).trans h2)
  rcases List.mem_cons.mp h1 with rfl | h1
  · have : L = a := Option.some.inj (hf.symm.trans h2)
    subst this
    exact sub (Heap.get?_none_of_le F.above)
  · exact hoff env' h1 a h2
/-- an exception passes a frame -/
theorem raise_pass (hA : A.frames = some (env :: outer)) (hf : env.frame = some L) (F : Fr g L h m) (hfl : Heap.FlyingW gs (env :: outer) e (.ref 31) (.ref tp) s.heap) (hsm : h.UpToSlots s.heap)
    (hQ : ∀ h', Heap.FlyingW gs outer e (.ref 31) (.ref tp) h' → g.UpToSlots h' → Q () { s with heap := h' }) : wpAny M A (leaving env (.ref e)) Q E s :=
  wpAny_leaves_onW hA hf hfl fun h' a b => hQ h' a ((Heap.UpToSlots.of_keeps F.keep).trans (hsm.trans b))
theorem off_cons (hgs : gs.StaysIn g) (F : Fr g L h m) (hf : env.frame = some L) (hoff : ∀ env' ∈ outer, ∀ a, env'.frame = some a → gs.get? a = none) : ∀ env' ∈ env :: outer, ∀ a, env'.frame = some a → gs.get? a = none := fun env' h1 a h2 => by
  rcases List.mem_cons.mp h1 with rfl | h1
  · have : L = a := Option.some.inj (hf.symm.trans h2)
    subst this
    cases q2 : gs.get? L with
    | none => rfl
    | some o => have := hgs _ _ q2; rw [Heap.get?_none_of_le F.above] at this; cases this
  · exact hoff env' h1 a h2
end
set_option maxHeartbeats 4000000 in
theorem major_err {w : World} {p : Program} {loose : List Str} {mean : ExcName → Option Value} {mg mb : Str → Option Value} {A : Around} {base g gs : Heap} {outer : List Env} {s : Shared} {R : Result → Shared → Prop}
    {T MA MI O : Addr} {k : Int} {tk : Tok} {f : Int → Option Value}
    (G : Gnd (Mine.hd.heap_39 w.params) p loose mean mg mb A base outer g s.heap) (hh : A.handled = none) (hd : A.depth < 440) (hu : A.units < 1400)
    (hgs : gs.StaysIn g) (hoff : ∀ env' ∈ outer, ∀ a, env'.frame = some a → gs.get? a = none)
    (hT : TabAt9 w g T MA MI O) (hm : g.MapOf (intKind PG w) MA f) (lo : (MA == sysModules) = false) (hv : f k = none)
    (herr : ∀ e tp h' tk', Heap.FlyingW gs outer e (.ref 31) (.ref tp) h' → g.UpToSlots h' → R (.error (.ref e)) { s with heap := h', toks := tk' }) :
    codeAny (model PG w) A (.call (.ref 111) ⟨[.ref T, .int k tk], []⟩) R s := by
  ((obtain ⟨B, X, Tp, st, hsz⟩ := G; obtain ⟨hd0, dp, fr, gd, un⟩ := A; have hfr : fr = some outer := B.stack; subst hfr; simp only at hh hd hu; subst hh))
  obtain ⟨dT, n, t0, t1, t2, hT1, hT2⟩ := hT
  have M0 : ∀ q ∈ ([] : List (Addr × Obj)), s.heap.get? q.1 = some q.2 ∧ g.get? q.1 = none := fun _ hq => nomatch hq
  k_with "M raise" => (fail_if_success have := @_root_.Mine.major_err); refine raise_any (w := w) rfl ?_
  k_with "M call" => (fail_if_success have := @_root_.Mine.major_err); (((with_reducible show wpAny _ _ (call (Value.ref 31) _) _ _ _); k_dflt (refine' lisp_use ?B ?F ?N ?X ?T ?hA ?hf ?hke ?hh ?hd ?hu ?_; (case hA => exact rfl); (case hf => exact rfl); (case hke => exact rfl); (case B => k_asm); (case F => k_asm); (case N => k_asm); (case X => k_asm); (case T => k_asm); (case hh => exact rfl); (case hd => (((try simp only [depth_mark, depth_under_make, depth_under_kw, depth_in1, depth_deeper, depth_caller, units_in1, units_deeper, units_caller, Around.mark_units]); (try dsimp only); omega))); (case hu => (((try simp only [depth_mark, depth_under_make, depth_under_kw, depth_in1, depth_deeper, depth_caller, units_in1, units_deeper, units_caller, Around.mark_units]); (try dsimp only); omega))); k_whole); intro le ltp ldx h' tk' F' N' ll1 ll2))
  ((k_dflt (refine' enterS ?k1 ?k2 ?k3 ?k4 ?k5 ?k6 ?kl ?k7 ?k8 ?k9 ?kB ?_ ?c2 ?c3 ?c4 ?c5; (case k1 => assumption); (case k2 => assumption); (case k3 => assumption); (case k4 => assumption); (case k5 => assumption); (case k6 => k_is); (case kl => (refine ⟨⟨?_, ?_⟩, ?_⟩ <;> (conv => rhs; whnf) <;> exact rfl)); (case k7 => k_is); (case k8 => k_room); (case k9 => exact binds_zip (by kernel_rfl)); (case c5 => decide); (case kB => exact locs rfl); (case c2 => exact rfl); (case c3 => exact rfl); (case c4 => exact rfl); k_whole)))
  intro L' h₁ hL hL2 hst F' N'
  try dsimp only
  try k_fold
  k_steps
  rename Fr _ _ _ _ => F9
  rename News _ _ _ _ => N9
  refine ⟨le, ltp, some ldx, rfl, X.keeps F9.keep, N9.get (by k_mem), ?_⟩
  (((try dsimp only); (try (k_unfold; (try dsimp only)))))
  exact raise_close B F9 rfl rfl rfl hgs hoff (N9.get (by k_mem)) (N9 (le, _) (by k_mem)).2.2 fun h' a b => herr _ _ _ _ a b
theorem major_err_use {w : World} {p : Program} {loose : List Str} {mean : ExcName → Option Value} {mg mb : Str → Option Value} {A₀ A : Around} {base h₀ gs : Heap} {outer : List Env} {env : Env} {L : Addr} {m : Str → Option Value} {news : List (Addr × Obj)} {s : Shared} {Q E : Value → Shared → Prop}
    {T MA MI O : Addr} {k : Int} {tk : Tok} {f : Int → Option Value}
    (B : Below A₀ base outer h₀) (F : Fr h₀ L s.heap m) (N : News h₀ L s.heap news) (X : (Mine.hd.heap_39 w.params).In h₀) (Tp : Top p loose mean mg mb h₀)
    (hA : A.frames = some (env :: outer)) (hf : env.frame = some L) (hke : env.scope.kind = .function) (hh : A.handled = none) (hd : A.depth < 440) (hu : A.units < 1400)
    (hgs : gs.StaysIn h₀) (hoff : ∀ env' ∈ outer, ∀ a, env'.frame = some a → gs.get? a = none)
    (hT : TabAt9 w h₀ T MA MI O) (hm : h₀.MapOf (intKind PG w) MA f) (lo : (MA == sysModules) = false) (hv : f k = none)
    (h : ∀ e tp h' tk', Heap.FlyingW gs (env :: outer) e (.ref 31) (.ref tp) h' → s.heap.UpToSlots h' → E (.ref e) { s with heap := h', toks := tk' }) :
    wpAny (model PG w) A (call (.ref 111) [.ref T, .int k tk]) Q E s := by
  obtain ⟨G, back⟩ := useP (A := A) B F N X Tp hA hf hke
  exact wpAny_call (major_err G hh hd hu (fun b o e => F.keep b o (hgs b o e)) (off_cons hgs F hf hoff) (hT.keeps F.keep) (mapOf_keeps F.keep hm) lo hv h)
/-- a mode that is not there, or is its own ancestor -/
def Bad (w : World) (g : Heap) (f : Int → Option Value) (k : Int) : Prop :=
  (k = 60 ∧ f 60 = none) ∨ (k = 61 ∧ ∃ M1 M2 kv1 sv1 kv2 sv2, f 61 = some (.ref M1) ∧ ModeAt w g M1 61 62 kv1 sv1 ∧ f 62 = some (.ref M2) ∧ ModeAt w g M2 62 61 kv2 sv2)
theorem Bad.keeps {w : World} {g h : Heap} {f : Int → Option Value} {k : Int} (hk : g.StaysIn h) : Bad w g f k → Bad w h f k
  | .inl x => .inl x
  | .inr ⟨e, M1, M2, a, b, c, d, x1, x2, x3, x4⟩ => .inr ⟨e, M1, M2, a, b, c, d, x1, x2.keeps hk, x3, x4.keeps hk⟩
set_option maxHeartbeats 4000000 in
theorem line_of_err {w : World} {p : Program} {loose : List Str} {mean : ExcName → Option Value} {mg mb : Str → Option Value} {A : Around} {base g gs : Heap} {outer : List Env} {s : Shared} {R : Result → Shared → Prop}
    {T MA MI O : Addr} {k : Int} {tk : Tok} {f : Int → Option Value}
    (G : Gnd (Mine.hd.heap_39 w.params) p loose mean mg mb A base outer g s.heap) (hh : A.handled = none) (hd : A.depth < 430) (hu : A.units < 1300)
    (hgs : gs.StaysIn g) (hoff : ∀ env' ∈ outer, ∀ a, env'.frame = some a → gs.get? a = none)
    (hT : TabAt9 w g T MA MI O) (hm : g.MapOf (intKind PG w) MA f) (lo : (MA == sysModules) = false) (hv : Bad w g f k)
    (herr : ∀ e tp h' tk', Heap.FlyingW gs outer e (.ref 31) (.ref tp) h' → g.UpToSlots h' → R (.error (.ref e)) { s with heap := h', toks := tk' }) :
    codeAny (model PG w) A (.call (.ref 125) ⟨[.ref T, .int k tk], []⟩) R s := by
  ((obtain ⟨B, X, Tp, st, hsz⟩ := G; obtain ⟨hd0, dp, fr, gd, un⟩ := A; have hfr : fr = some outer := B.stack; subst hfr; simp only at hh hd hu; subst hh))
  have hT0 := hT
  obtain ⟨dT, n, t0, t1, t2, hT1, hT2⟩ := hT0
  have M0 : ∀ q ∈ ([] : List (Addr × Obj)), s.heap.get? q.1 = some q.2 ∧ g.get? q.1 = none := fun _ hq => nomatch hq
  rcases hv with ⟨rfl, hv⟩ | ⟨rfl, M1, M2, kv1, sv1, kv2, sv2, hv1, hm1, hv2, hm2⟩
  · k_with "M call" =>
      (fail_if_success have := @_root_.Mine.line_of_err)
      (with_reducible show wpAny _ _ (call (Value.ref 111) _) _ _ _)
      rename Fr _ _ _ _ => F0
      rename News _ _ _ _ => N0
      refine major_err_use B F0 N0 X Tp rfl rfl rfl rfl (by (((try simp only [depth_mark, depth_under_make, depth_under_kw, depth_in1, depth_deeper, depth_caller, units_in1, units_deeper, units_caller, Around.mark_units]); (try dsimp only); omega))) (by (((try simp only [depth_mark, depth_under_make, depth_under_kw, depth_in1, depth_deeper, depth_caller, units_in1, units_deeper, units_caller, Around.mark_units]); (try dsimp only); omega))) hgs hoff hT hm lo hv ?_
      intro le ltp h' tk' hFl hUp
    ((k_dflt (refine' enterS ?k1 ?k2 ?k3 ?k4 ?k5 ?k6 ?kl ?k7 ?k8 ?k9 ?kB ?_ ?c2 ?c3 ?c4 ?c5; (case k1 => assumption); (case k2 => assumption); (case k3 => assumption); (case k4 => assumption); (case k5 => assumption); (case k6 => k_is); (case kl => (refine ⟨⟨?_, ?_⟩, ?_⟩ <;> (conv => rhs; whnf) <;> exact rfl)); (case k7 => k_is); (case k8 => k_room); (case k9 => exact binds_zip (by kernel_rfl)); (case c5 => decide); (case kB => exact locs rfl); (case c2 => exact rfl); (case c3 => exact rfl); (case c4 => exact rfl); k_whole)))
    intro L' h₁ hL hL2 hst F' N'
    try dsimp only
    try k_fold
    k_steps
    exact raise_pass rfl rfl F0 hFl hUp fun h' a b => herr _ _ _ _ a b
  · obtain ⟨D1, nD1, a0, a1, a2, a3, a4, a5, a6, a7, a8, at1, ab1, ah1, hM1, hM2⟩ := hm1
    obtain ⟨D2, nD2, b0, b1, b2, b3, b4, b5, b6, b7, b8, bt1, bb1, bh1, hM3, hM4⟩ := hm2
    k_with "M raise" => (fail_if_success have := @_root_.Mine.line_of_err); refine raise_any (w := w) rfl ?_
    k_with "M call" => (fail_if_success have := @_root_.Mine.line_of_err); (((with_reducible show wpAny _ _ (call (Value.ref 31) _) _ _ _); k_dflt (refine' lisp_use ?B ?F ?N ?X ?T ?hA ?hf ?hke ?hh ?hd ?hu ?_; (case hA => exact rfl); (case hf => exact rfl); (case hke => exact rfl); (case B => k_asm); (case F => k_asm); (case N => k_asm); (case X => k_asm); (case T => k_asm); (case hh => exact rfl); (case hd => (((try simp only [depth_mark, depth_under_make, depth_under_kw, depth_in1, depth_deeper, depth_caller, units_in1, units_deeper, units_caller, Around.mark_units]); (try dsimp only); omega))); (case hu => (((try simp only [depth_mark, depth_under_make, depth_under_kw, depth_in1, depth_deeper, depth_caller, units_in1, units_deeper, units_caller, Around.mark_units]); (try dsimp only); omega))); k_whole); intro le ltp ldx h' tk' F' N' ll1 ll2))
    k_with "M call" => (fail_if_success have := @_root_.Mine.line_of_err); (((with_reducible show wpAny _ _ (call (Value.ref 111) _) _ _ _); k_dflt (refine' major_use ?B ?F ?N ?X ?T ?hA ?hf ?hke ?hh ?hd ?hu ?hT ?hm ?lo ?hv ?_; (case hA => exact rfl); (case hf => exact rfl); (case hke => exact rfl); (case B => k_asm); (case F => k_asm); (case N => k_asm); (case X => k_asm); (case T => k_asm); (case hh => exact rfl); (case hd => (((try simp only [depth_mark, depth_under_make, depth_under_kw, depth_in1, depth_deeper, depth_caller, units_in1, units_deeper, units_caller, Around.mark_units]); (try dsimp only); omega))); (case hu => (((try simp only [depth_mark, depth_under_make, depth_under_kw, depth_in1, depth_deeper, depth_caller, units_in1, units_deeper, units_caller, Around.mark_units]); (try dsimp only); omega))); (case hT => assumption); (case hm => assumption); (case lo => assumption); (case hv => assumption); k_whole); intro h' tk' F' N'; (try k_sweep)))
    ((k_dflt (refine' enterS ?k1 ?k2 ?k3 ?k4 ?k5 ?k6 ?kl ?k7 ?k8 ?k9 ?kB ?_ ?c2 ?c3 ?c4 ?c5; (case k1 => assumption); (case k2 => assumption); (case k3 => assumption); (case k4 => assumption); (case k5 => assumption); (case k6 => k_is); (case kl => (refine ⟨⟨?_, ?_⟩, ?_⟩ <;> (conv => rhs; whnf) <;> exact rfl)); (case k7 => k_is); (case k8 => k_room); (case k9 => exact binds_zip (by kernel_rfl)); (case c5 => decide); (case kB => exact locs rfl); (case c2 => exact rfl); (case c3 => exact rfl); (case c4 => exact rfl); k_whole)))
    intro L' h₁ hL hL2 hst F' N'
    try dsimp only
    try k_fold
    k_steps
    rename Fr _ _ _ _ => F9
    rename News _ _ _ _ => N9
    refine ⟨le, ltp, some ldx, rfl, X.keeps F9.keep, N9.get (by k_mem), ?_⟩
    (((try dsimp only); (try (k_unfold; (try dsimp only)))))
    exact raise_close B F9 rfl rfl rfl hgs hoff (N9.get (by k_mem)) (N9 (le, _) (by k_mem)).2.2 fun h' a b => herr _ _ _ _ a b

theorem line_of_err_use {w : World} {p : Program} {loose : List Str} {mean : ExcName → Option Value} {mg mb : Str → Option Value} {A₀ A : Around} {base h₀ gs : Heap} {outer : List Env} {env : Env} {L : Addr} {m : Str → Option Value} {news : List (Addr × Obj)} {s : Shared} {Q E : Value → Shared → Prop}
    {T MA MI O : Addr} {k : Int} {tk : Tok} {f : Int → Option Value}
    (B : Below A₀ base outer h₀) (F : Fr h₀ L s.heap m) (N : News h₀ L s.heap news) (X : (Mine.hd.heap_39 w.params).In h₀) (Tp : Top p loose mean mg mb h₀)
    (hA : A.frames = some (env :: outer)) (hf : env.frame = some L) (hke : env.scope.kind = .function) (hh : A.handled = none) (hd : A.depth < 430) (hu : A.units < 1300)
    (hgs : gs.StaysIn h₀) (hoff : ∀ env' ∈ outer, ∀ a, env'.frame = some a → gs.get? a = none)
    (hT : TabAt9 w h₀ T MA MI O) (hm : h₀.MapOf (intKind PG w) MA f) (lo : (MA == sysModules) = false) (hv : Bad w h₀ f k)
    (h : ∀ e tp h' tk', Heap.FlyingW gs (env :: outer) e (.ref 31) (.ref tp) h' → s.heap.UpToSlots h' → E (.ref e) { s with heap := h', toks := tk' }) :
    wpAny (model PG w) A (call (.ref 125) [.ref T, .int k tk]) Q E s := by
  obtain ⟨G, back⟩ := useP (A := A) B F N X Tp hA hf hke
  exact wpAny_call (line_of_err G hh hd hu (fun b o e => F.keep b o (hgs b o e)) (off_cons hgs F hf hoff) (hT.keeps F.keep) (mapOf_keeps F.keep hm) lo (hv.keeps F.keep) h)
set_option maxHeartbeats 4000000 in
theorem switch_steps_err {w : World} {p : Program} {loose : List Str} {mean : ExcName → Option Value} {mg mb : Str → Option Value} {A : Around} {base g gs : Heap} {outer : List Env} {s : Shared} {R : Result → Shared → Prop}
    {T MA MI O : Addr} {k : Int} {tk : Tok} {f : Int → Option Value}
    (G : Gnd (Mine.hd.heap_39 w.params) p loose mean mg mb A base outer g s.heap) (hh : A.handled = none) (hd : A.depth < 420) (hu : A.units < 1250)
    (hgs : gs.StaysIn g) (hoff : ∀ env' ∈ outer, ∀ a, env'.frame = some a → gs.get? a = none)
    (hT : TabAt9 w g T MA MI O) (hm : g.MapOf (intKind PG w) MA f) (lo : (MA == sysModules) = false) (hv : Bad w g f k)
    (herr : ∀ e tp h' tk', Heap.FlyingW gs outer e (.ref 31) (.ref tp) h' → g.UpToSlots h' → R (.error (.ref e)) { s with heap := h', toks := tk' }) :
    codeAny (model PG w) A (.call (.ref 184) ⟨[.ref T, .int k tk], []⟩) R s := by
  ((obtain ⟨B, X, Tp, st, hsz⟩ := G; obtain ⟨hd0, dp, fr, gd, un⟩ := A; have hfr : fr = some outer := B.stack; subst hfr; simp only at hh hd hu; subst hh))
  have hT0 := hT
  obtain ⟨dT, n, t0, t1, t2, hT1, hT2⟩ := hT0
  have M0 : ∀ q ∈ ([] : List (Addr × Obj)), s.heap.get? q.1 = some q.2 ∧ g.get? q.1 = none := fun _ hq => nomatch hq
  k_with "M call" =>
    (fail_if_success have := @_root_.Mine.switch_steps_err)
    (with_reducible show wpAny _ _ (call (Value.ref 125) _) _ _ _)
    rename Fr _ _ _ _ => F0
    rename News _ _ _ _ => N0
    refine line_of_err_use B F0 N0 X Tp rfl rfl rfl rfl (by (((try simp only [depth_mark, depth_under_make, depth_under_kw, depth_in1, depth_deeper, depth_caller, units_in1, units_deeper, units_caller, Around.mark_units]); (try dsimp only); omega))) (by (((try simp only [depth_mark, depth_under_make, depth_under_kw, depth_in1, depth_deeper, depth_caller, units_in1, units_deeper, units_caller, Around.mark_units]); (try dsimp only); omega))) hgs hoff hT hm lo hv ?_
    intro le ltp h' tk' hFl hUp
  ((k_dflt (refine' enterS ?k1 ?k2 ?k3 ?k4 ?k5 ?k6 ?kl ?k7 ?k8 ?k9 ?kB ?_ ?c2 ?c3 ?c4 ?c5; (case k1 => assumption); (case k2 => assumption); (case k3 => assumption); (case k4 => assumption); (case k5 => assumption); (case k6 => k_is); (case kl => (refine ⟨⟨?_, ?_⟩, ?_⟩ <;> (conv => rhs; whnf) <;> exact rfl)); (case k7 => k_is); (case k8 => k_room); (case k9 => exact binds_zip (by kernel_rfl)); (case c5 => decide); (case kB => exact locs rfl); (case c2 => exact rfl); (case c3 => exact rfl); (case c4 => exact rfl); k_whole)))
  intro L' h₁ hL hL2 hst F' N'
  try dsimp only
  try k_fold
  k_steps
  exact raise_pass rfl rfl F0 hFl hUp fun h' a b => herr _ _ _ _ a b
theorem switch_steps_err_use {w : World} {p : Program} {loose : List Str} {mean : ExcName → Option Value} {mg mb : Str → Option Value} {A₀ A : Around} {base h₀ gs : Heap} {outer : List Env} {env : Env} {L : Addr} {m : Str → Option Value} {news : List (Addr × Obj)} {s : Shared} {Q E : Value → Shared → Prop}
    {T MA MI O : Addr} {k : Int} {tk : Tok} {f : Int → Option Value}
    (B : Below A₀ base outer h₀) (F : Fr h₀ L s.heap m) (N : News h₀ L s.heap news) (X : (Mine.hd.heap_39 w.params).In h₀) (Tp : Top p loose mean mg mb h₀)
    (hA : A.frames = some (env :: outer)) (hf : env.frame = some L) (hke : env.scope.kind = .function) (hh : A.handled = none) (hd : A.depth < 420) (hu : A.units < 1250)
    (hgs : gs.StaysIn h₀) (hoff : ∀ env' ∈ outer, ∀ a, env'.frame = some a → gs.get? a = none)
    (hT : TabAt9 w h₀ T MA MI O) (hm : h₀.MapOf (intKind PG w) MA f) (lo : (MA == sysModules) = false) (hv : Bad w h₀ f k)
    (h : ∀ e tp h' tk', Heap.FlyingW gs (env :: outer) e (.ref 31) (.ref tp) h' → s.heap.UpToSlots h' → E (.ref e) { s with heap := h', toks := tk' }) :
    wpAny (model PG w) A (call (.ref 184) [.ref T, .int k tk]) Q E s := by
  obtain ⟨G, back⟩ := useP (A := A) B F N X Tp hA hf hke
  exact wpAny_call (switch_steps_err G hh hd hu (fun b o e => F.keep b o (hgs b o e)) (off_cons hgs F hf hoff) (hT.keeps F.keep) (mapOf_keeps F.keep hm) lo (hv.keeps F.keep) h)
section
variable {prog : Program} {w : World} {A : Around} {E : Value → Shared → Prop} {s : Shared} {env : Env}
theorem for_atE {target iter : Expr} {body : List Stmt} {pos : Pos} {Q : Flow → Shared → Prop} (h : wpAny (model prog w) A (eval iter env) (fun _ _ => False) E s)
    (hs : ∀ x, foldedSetIterable iter env x = pure x := by intro _; rfl) : wpAny (model prog w) A (exec (.For target iter body [] pos) env) Q E s :=
  wpAny_For (wpAny_mono h (fun _ _ x => x.elim) fun _ _ e => e) hs
end
theorem hk_X5_0 : True := by
  k_with "Hexec For Tuple Call cons nil" => (fail_if_success have := @_root_.Mine.switch_err_use); (k_here; k_dflt (refine for_atE ?_))
  trivial
set_option maxHeartbeats 4000000 in
theorem switch_err {w : World} {p : Program} {loose : List Str} {mean : ExcName → Option Value} {mg mb : Str → Option Value} {A : Around} {base g gs : Heap} {outer : List Env} {s : Shared} {R : Result → Shared → Prop}
    {T MA MI O : Addr} {k : Int} {tk : Tok} {f : Int → Option Value} {S PM lam : Addr}
    (G : Gnd (Mine.hd.heap_39 w.params) p loose mean mg mb A base outer g s.heap) (hh : A.handled = none) (hd : A.depth < 415) (hu : A.units < 1230)
    (hgs : gs.StaysIn g) (hoff : ∀ env' ∈ outer, ∀ a, env'.frame = some a → gs.get? a = none)
    (hT : TabAt9 w g T MA MI O) (hm : g.MapOf (intKind PG w) MA f) (lo : (MA == sysModules) = false) (hv : Bad w g f k)
    (herr : ∀ e tp h' tk', Heap.FlyingW gs outer e (.ref 31) (.ref tp) h' → g.UpToSlots h' → R (.error (.ref e)) { s with heap := h', toks := tk' }) :
    codeAny (model PG w) A (.call (.ref 189) ⟨[.ref T, .ref S, .int k tk, .ref PM, .ref lam], []⟩) R s := by
  ((obtain ⟨B, X, Tp, st, hsz⟩ := G; obtain ⟨hd0, dp, fr, gd, un⟩ := A; have hfr : fr = some outer := B.stack; subst hfr; simp only at hh hd hu; subst hh))
  have M0 : ∀ q ∈ ([] : List (Addr × Obj)), s.heap.get? q.1 = some q.2 ∧ g.get? q.1 = none := fun _ hq => nomatch hq
  k_with "M call" =>
    (fail_if_success have := @_root_.Mine.switch_err)
    (with_reducible show wpAny _ _ (call (Value.ref 184) _) _ _ _)
    rename Fr _ _ _ _ => F0
    rename News _ _ _ _ => N0
    refine switch_steps_err_use B F0 N0 X Tp rfl rfl rfl rfl (by (((try simp only [depth_mark, depth_under_make, depth_under_kw, depth_in1, depth_deeper, depth_caller, units_in1, units_deeper, units_caller, Around.mark_units]); (try dsimp only); omega))) (by (((try simp only [depth_mark, depth_under_make, depth_under_kw, depth_in1, depth_deeper, depth_caller, units_in1, units_deeper, units_caller, Around.mark_units]); (try dsimp only); omega))) hgs hoff hT hm lo hv ?_
    intro le ltp h' tk' hFl hUp
  (k_dflt (refine' enterSC ?k1 ?k2 ?k3 ?k4 ?k5 ?k6 ?kl ?k7 ?k8 ?k9 ?kB ?kD ?_ ?c2 ?c3 ?c4; (case k1 => assumption); (case k2 => assumption); (case k3 => assumption); (case k4 => assumption); (case k5 => assumption); (case k6 => k_is); (case kl => (refine ⟨⟨?_, ?_⟩, ?_⟩ <;> (conv => rhs; whnf) <;> exact rfl)); (case k7 => k_is); (case k8 => k_room); (case k9 => exact binds_zip (by kernel_rfl)); (case kB => exact rfl); (case kD => decide +kernel); (case c2 => exact rfl); (case c3 => exact rfl); (case c4 => exact rfl); k_whole))
  intro L' h₁ tk₁ cells hL hL2 hst F' N' Y' l0'
  clear l0'
  k_cells Y'
  try simp only [List.cons_append, List.nil_append] at N'
  try dsimp only
  try k_fold
  k_steps
  exact raise_pass rfl rfl F0 hFl hUp fun h' a b => herr _ _ _ _ a b
theorem switch_err_use {w : World} {p : Program} {loose : List Str} {mean : ExcName → Option Value} {mg mb : Str → Option Value} {A₀ A : Around} {base h₀ gs : Heap} {outer : List Env} {env : Env} {L : Addr} {m : Str → Option Value} {news : List (Addr × Obj)} {s : Shared} {Q E : Value → Shared → Prop}
    {T MA MI O : Addr} {k : Int} {tk : Tok} {f : Int → Option Value} {S PM lam : Addr}
    (B : Below A₀ base outer h₀) (F : Fr h₀ L s.heap m) (N : News h₀ L s.heap news) (X : (Mine.hd.heap_39 w.params).In h₀) (Tp : Top p loose mean mg mb h₀)
    (hA : A.frames = some (env :: outer)) (hf : env.frame = some L) (hke : env.scope.kind = .function) (hh : A.handled = none) (hd : A.depth < 415) (hu : A.units < 1230)
    (hgs : gs.StaysIn s.heap) (hoff : ∀ env' ∈ env :: outer, ∀ a, env'.frame = some a → gs.get? a = none)
    (hT : TabAt9 w h₀ T MA MI O) (hm : h₀.MapOf (intKind PG w) MA f) (lo : (MA == sysModules) = false) (hv : Bad w h₀ f k)
    (h : ∀ e tp h' tk', Heap.FlyingW gs (env :: outer) e (.ref 31) (.ref tp) h' → s.heap.UpToSlots h' → E (.ref e) { s with heap := h', toks := tk' }) :
    wpAny (model PG w) A (call (.ref 189) [.ref T, .ref S, .int k tk, .ref PM, .ref lam]) Q E s := by
  obtain ⟨G, back⟩ := useP (A := A) B F N X Tp hA hf hke
  exact wpAny_call (switch_err G hh hd hu hgs hoff (hT.keeps F.keep) (mapOf_keeps F.keep hm) lo (hv.keeps F.keep) h)
section
variable {prog : Program} {w : World} {A : Around} {E : Value → Shared → Prop} {s : Shared} {env : Env}
open PySem.W
theorem handleBy9 {e : Addr} {t : Expr} {b₀ : Stmt} {suite : List Stmt} {pos : Pos} {rest : List ExceptHandler} {Q : Flow → Shared → Prop}
    (h : wpAny (model prog w) (A.mark (some (.ref e))) (eval t env) (fun c s₁ => c = .ref 31 ∧ (Mine.hd.heap_39 w.params).In s₁.heap ∧ (∃ oe, s₁.heap.get? e = some oe ∧ oe.cls = .ref 31) ∧
      wpAny (model prog w) (A.mark (some (.ref e))) (setFlight (.ref e) none) (fun _ s₂ => wpAny (model prog w) (A.mark (some (.ref e))) (execs (b₀ :: suite) env) Q (notedBy (model prog w) (A.mark (some (.ref e))) env (cameBackBy (model prog w) A env E)) s₂) (notedBy (model prog w) (A.mark (some (.ref e))) env (cameBackBy (model prog w) A env E)) s₁) (notedBy (model prog w) (A.mark (some (.ref e))) env (cameBackBy (model prog w) A env E)) s) :
    wpAny (model prog w) A (handleBy (.ref e) env (.ExceptHandler (some t) none (b₀ :: suite) pos :: rest)) Q E s := by
  refine wpAny_handleBy_cons (codeAny_handlers_test (wpAny_mono h (fun c s₁ h₁ => ?_) fun _ _ y => y)) (by intro q; cases q)
  obtain ⟨rfl, X, ⟨oe, he, hcls⟩, hk⟩ := h₁
  obtain ⟨nm, qn, C, bs, sn, sub, ab, col, dd, k0, k1, k2, k3, k5, mN, hC, _⟩ := lisp_at X
  obtain ⟨hh, g, d, tk, os⟩ := s₁
  exact wpAny_excMatches_sub_self hC he hcls (by decide +kernel) (codeAny_handlers_suite hk)
end
section
variable {w : World} {A : Around} {E : Value → Shared → Prop} {s' : Shared} {gs gs' g h : Heap} {outer : List Env} {L a e tp : Addr} {m : Str → Option Value} {cn : Str} {cs : Scope} {ccd : Value} {cl : List (Str × Addr)} {p : Program} {loose : List Str} {mean : ExcName → Option Value} {mg mb : Str → Option Value}
open PySem.W
theorem catch9 {np pos : Pos} {b₀ : Stmt} {suite : List Stmt} {rest : List ExceptHandler} {Q : Flow → Shared → Prop} (hA : A.frames = some (envX cn cs L a ccd cl :: outer))
    (hfl : Heap.FlyingW gs' (envX cn cs L a ccd cl :: outer) e (.ref 31) (.ref tp) s'.heap) (F : Fr g L h m) (hsm : h.UpToSlots s'.heap) (hgs2 : gs.StaysIn gs') (hgs : gs.StaysIn g) (hgz : gs.objs.size ≤ g.objs.size) (X : (Mine.hd.heap_39 w.params).In gs) (Tp : Top p loose mean mg mb gs)
    (k : ∀ h', gs'.StaysIn h' → h.UpToSlots h' → h'.FunFrames gs' (envX cn cs L a ccd cl :: outer) → Fr gs L h' m → wpAny (model PG w) (A.mark (some (.ref e))) (execs (b₀ :: suite) (envX cn cs L a ccd cl)) Q (fun _ _ => False) { s' with heap := h' })
    (hk : cs.kind = .function := by rfl) (hx : (envX cn cs L a ccd cl).kindOf (Str.ofString "LispSignal") = some .globalImplicit := by rfl) :
    wpAny (model PG w) A (noteFrame (.ref e) (envX cn cs L a ccd cl))
      (fun _ s₂ => wpAny (model PG w) A (setFlight (.ref e) none) (fun _ s₃ =>
        wpAny (model PG w) A (handleBy (.ref e) (envX cn cs L a ccd cl) (.ExceptHandler (some (.Name (Str.ofString "LispSignal") np)) none (b₀ :: suite) pos :: rest)) Q E s₃) E s₂) E s' := by
  have Fs : Fr gs L h m := ⟨F.ns, fun b o e => F.keep b o (hgs b o e), Nat.le_trans hgz F.above⟩
  refine wpAny_looks_onW hA rfl hfl fun h₄ hheld₄ hsm₄ => ?_
  refine wpAny_landsW hheld₄ fun h₅ hheld hsm₅' => ?_
  have hsm₅ := hsm₄.trans hsm₅'
  have F₅ := Fs.of_stays (fun b o e => hheld.1 b o (hgs2 b o e)) (hsm.trans hsm₅)
  refine handleBy9 (nameX_K F₅ X (topRead_of Tp) (by k_is) ⟨rfl, X.keeps (fun b o e => hheld.1 b o (hgs2 b o e)), hheld.there, ?_⟩ hk hx)
  refine lands_againW hheld fun h₆ hfl₆ hsm₆ => ?_
  exact wpAny_mono (k h₆ hfl₆.1 ((hsm.trans hsm₅).trans hsm₆) hfl₆.2.2.1 (Fs.of_stays (fun b o e => hfl₆.1 b o (hgs2 b o e)) ((hsm.trans hsm₅).trans hsm₆))) (fun _ _ x => x) fun _ _ x => x.elim
end
theorem hide_frames {gs g : Heap} {l : List Env} (hgs : gs.StaysIn g) (hoff : ∀ env' ∈ l, ∀ a, env'.frame = some a → gs.get? a = none) : gs.StaysIn (hideAll g (l.filterMap (·.frame))) := fun b o e => hideAll_get _ (hgs b o e) fun q => by
  obtain ⟨env', h1, h2⟩ := List.mem_filterMap.mp q
  rw [hoff env' h1 b h2] at e; cases e
theorem hide_off {g : Heap} {l : List Env} : ∀ env' ∈ l, ∀ a, env'.frame = some a → (hideAll g (l.filterMap (·.frame))).get? a = none := fun env' h1 a h2 => hideAll_none _ (List.mem_filterMap.mpr ⟨env', h1, h2⟩)
theorem newsKeep {A₀ : Around} {base g h h2 : Heap} {outer : List Env} {env : Env} {L : Addr} {m : Str → Option Value} {news : List (Addr × Obj)} (B : Below A₀ base outer g) (F : Fr g L h m) (N : News g L h news) (hf : env.frame = some L)
    (k1 : (hideAll h ((env :: outer).filterMap (·.frame))).StaysIn h2) : (∀ q ∈ news, h2.get? q.1 = some q.2) ∧ ∀ b o, g.get? b = some o → (∀ env' ∈ outer, env'.frame ≠ some b) → h2.get? b = some o := by
  refine ⟨fun q hq => k1 _ _ (hideAll_get _ (N q hq).1 fun hm => ?_), fun b o e hb => k1 _ _ (hideAll_get _ (F.keep _ _ e) fun hm => ?_)⟩
  · obtain ⟨env', h1, h2⟩ := List.mem_filterMap.mp hm
    rcases List.mem_cons.mp h1 with rfl | h1
    · exact (N q hq).2.1 (Option.some.inj (h2.symm.trans hf))
    · obtain ⟨L₁, o₁, hf₁, ho₁⟩ := funFrames_in B.frames env' h1
      have : L₁ = q.1 := Option.some.inj (hf₁.symm.trans h2)
      rw [this, (N q hq).2.2] at ho₁; cases ho₁
  · obtain ⟨env', h1, h2⟩ := List.mem_filterMap.mp hm
    rcases List.mem_cons.mp h1 with rfl | h1
    · have : L = b := Option.some.inj (hf.symm.trans h2)
      subst this
      rw [Heap.get?_none_of_le F.above] at e; cases e
    · exact hb env' h1 h2
set_option maxHeartbeats 4000000 in
theorem law_switched_err {w : World} {p : Program} {loose : List Str} {mean : ExcName → Option Value} {mg mb : Str → Option Value} {A : Around} {base g gs : Heap} {outer : List Env} {s : Shared} {R : Result → Shared → Prop}
    {T MA MI O : Addr} {k : Int} {tk : Tok} {f : Int → Option Value} {S PM : Addr} {tb : Array Value}
    (G : Gnd (Mine.hd.heap_39 w.params) p loose mean mg mb A base outer g s.heap) (hh : A.handled = none) (hd : A.depth < 410) (hu : A.units < 1200)
    (hgs : gs.StaysIn g) (hgz : gs.objs.size ≤ g.objs.size) (hoff : ∀ env' ∈ outer, ∀ a, env'.frame = some a → gs.get? a = none) (Xs : (Mine.hd.heap_39 w.params).In gs) (Ts : Top p loose mean mg mb gs)
    (hT : TabAt9 w g T MA MI O) (hm : g.MapOf (intKind PG w) MA f) (lo : (MA == sysModules) = false) (hv : Bad w g f k)
    (M : ∀ q ∈ [(231, tabObj tb)], s.heap.get? q.1 = some q.2 ∧ g.get? q.1 = none) (hcd : CodeHd g 235 231)
    (hTb : TbAt (fun d o => gs.get? d = some o) 141 48 qualSw tb)
    (hret : ∀ c' oc h' tk', (∀ b o, g.get? b = some o → (∀ env' ∈ outer, env'.frame ≠ some b) → h'.get? b = some o) → g.UpToSlots h' → h'.FunFrames gs outer →
      h'.get? 231 = some (tabObj #[rawInt 141, rawInt 48, .ref c']) → h'.get? c' = some oc → rec9 qualSw oc → (tb = #[] ∧ g.get? c' = none ∨ tb = #[rawInt 141, rawInt 48, .ref c']) → R (.ok (.ret .none)) { s with heap := h', toks := tk' }) :
    codeAny (model PG w) A (.call (.ref 236) ⟨[.ref T, .ref S, .int k tk, .ref PM], []⟩) R s := by
  ((obtain ⟨B, X, Tp, st, hsz⟩ := G; obtain ⟨hd0, dp, fr, gd, un⟩ := A; have hfr : fr = some outer := B.stack; subst hfr; simp only at hh hd hu; subst hh))
  k_with "M try" => (fail_if_success have := @_root_.Mine.law_switched_err); refine wpAny_Try_except ?_
  k_with "M call" =>
    (fail_if_success have := @_root_.Mine.law_switched_err)
    (with_reducible show wpAny _ _ (call (Value.ref 189) _) _ _ _)
    rename Fr _ _ _ _ => F0
    rename News _ _ _ _ => N0
    refine switch_err_use (gs := hideAll _ _) B F0 N0 X Tp rfl rfl rfl rfl (by (((try simp only [depth_mark, depth_under_make, depth_under_kw, depth_in1, depth_deeper, depth_caller, units_in1, units_deeper, units_caller, Around.mark_units]); (try dsimp only); omega))) (by (((try simp only [depth_mark, depth_under_make, depth_under_kw, depth_in1, depth_deeper, depth_caller, units_in1, units_deeper, units_caller, Around.mark_units]); (try dsimp only); omega))) (fun b o e => of_hideAll _ e) hide_off hT hm lo hv ?_
    intro le ltp h' tk' hFl hUp
  rcases hTb with rfl | ⟨c9, oc9, rfl, e91, vs9, tt9, e92, e93⟩
  · ((((k_dflt (refine' enterSC0 ?k1 ?k2 ?k3 ?k4 ?k5 ?k6 ?kl ?k7 ?k8 ?k9 ?kB ?kD ?_ ?c2 ?c3 ?c4; (case k1 => assumption); (case k2 => assumption); (case k3 => assumption); (case k4 => assumption); (case k5 => assumption); (case k6 => k_is); (case kl => (refine ⟨⟨?_, ?_⟩, ?_⟩ <;> (conv => rhs; whnf) <;> exact rfl)); (case k7 => k_is); (case k8 => k_room); (case k9 => exact binds_zip (by kernel_rfl)); (case kB => exact rfl); (case kD => decide +kernel); (case c2 => exact rfl); (case c3 => exact rfl); (case c4 => exact rfl); k_whole))); intro L' h₁ tk₁ cells hL hL2 hst F' N' Y' l0'; (replace l0' := allLt_of l0'); (simp only [AllLt, and_true] at l0'); (k_cells Y'); (try simp only [List.cons_append, List.nil_append] at N'); (try dsimp only); (try k_fold)))
    k_steps
    refine catch9 rfl hFl F0 hUp (hide_frames (fun b o e => F0.keep b o (hgs b o e)) (off_cons hgs F0 rfl hoff)) hgs hgz Xs Ts ?_
    intro h2 k1 k2 k3 k4
    obtain ⟨n1, n2⟩ := newsKeep B F0 N0 rfl k1
    have n3 := (Heap.UpToSlots.of_keeps F0.keep).trans k2
    have n4 : h2.FunFrames gs outer := funFrames_off k3.2.2 hoff
    have n5 := n1 (231, _) (by k_mem)
    have n6 := n1 (lamC, lamO) (by k_mem)
    have n7 := (N0 (lamC, lamO) (by k_mem)).2.2
    clear F0 N0 k1 k2 k3 hFl hUp n1
    k_steps
    (((try dsimp only); (try (k_unfold; (try dsimp only)))))
    exact hret lamC lamO h2 _ n2 n3 n4 n5 n6 ⟨_, _, lamD1, lamD2⟩ (.inl ⟨rfl, n7⟩)
  · ((((k_dflt (refine' enterSC0 ?k1 ?k2 ?k3 ?k4 ?k5 ?k6 ?kl ?k7 ?k8 ?k9 ?kB ?kD ?_ ?c2 ?c3 ?c4; (case k1 => assumption); (case k2 => assumption); (case k3 => assumption); (case k4 => assumption); (case k5 => assumption); (case k6 => k_is); (case kl => (refine ⟨⟨?_, ?_⟩, ?_⟩ <;> (conv => rhs; whnf) <;> exact rfl)); (case k7 => k_is); (case k8 => k_room); (case k9 => exact binds_zip (by kernel_rfl)); (case kB => exact rfl); (case kD => decide +kernel); (case c2 => exact rfl); (case c3 => exact rfl); (case c4 => exact rfl); k_whole))); intro L' h₁ tk₁ cells hL hL2 hst F' N' Y' l0'; (replace l0' := allLt_of l0'); (simp only [AllLt, and_true] at l0'); (k_cells Y'); (try simp only [List.cons_append, List.nil_append] at N'); (try dsimp only); (try k_fold)))
    k_steps
    refine catch9 rfl hFl F0 hUp (hide_frames (fun b o e => F0.keep b o (hgs b o e)) (off_cons hgs F0 rfl hoff)) hgs hgz Xs Ts ?_
    intro h2 k1 k2 k3 k4
    obtain ⟨n1, n2⟩ := newsKeep B F0 N0 rfl k1
    have n3 := (Heap.UpToSlots.of_keeps F0.keep).trans k2
    have n4 : h2.FunFrames gs outer := funFrames_off k3.2.2 hoff
    have n5 := n1 (231, _) (by k_mem)
    have n6 := k4.keep _ _ e91
    clear F0 N0 k1 k2 k3 hFl hUp n1
    k_steps
    (((try dsimp only); (try (k_unfold; (try dsimp only)))))
    exact hret c9 oc9 h2 _ n2 n3 n4 n5 n6 ⟨_, _, e92, e93⟩ (.inr rfl)
def truncH (h : Heap) (n : Nat) : Heap := ⟨(h.objs.toList.take n).toArray, h.life⟩
theorem truncH_size (h : Heap) (n : Nat) : (truncH h n).objs.size ≤ n := by
  simp [truncH]; omega
theorem truncH_get (h : Heap) (n : Nat) (b : Addr) : (truncH h n).get? b = if b < n then h.get? b else none := by
  unfold Heap.get? truncH
  simp only [List.getElem?_toArray, List.getElem?_take]
  split <;> simp_all
/-- the ground of a frame after an exception was caught below it -/
theorem reground9 {A₀ : Around} {base g gs h h₁ : Heap} {outer : List Env} {L : Addr} {m : Str → Option Value} {news news' : List (Addr × Obj)} (B : Below A₀ base outer g) (F : Fr g L h m) (_N : News g L h news) (hgs : gs.StaysIn g) (_hoff : ∀ env' ∈ outer, ∀ a, env'.frame = some a → gs.get? a = none)
    (k : ∀ q ∈ news', h₁.get? q.1 = some q.2 ∧ q.1 ≠ L ∧ g.get? q.1 = none) (kg : gs.StaysIn h₁) (kns : h₁.Ns L m) (kf : h₁.FunFrames gs outer) :
    ∃ g₁, Below A₀ gs outer g₁ ∧ gs.StaysIn g₁ ∧ Fr g₁ L h₁ m ∧ News g₁ L h₁ news' := by
  have off : ∀ b o, g.get? b = some o → b ∉ news'.map (·.1) := fun b o e q => by
    obtain ⟨p, hp, rfl⟩ := List.mem_map.mp q
    rw [(k p hp).2.2] at e; cases e
  have lift : ∀ b o, g.get? b = some o → ∀ o', h₁.get? b = some o' → (hideAll (truncH h₁ g.objs.size) (news'.map (·.1))).get? b = some o' := fun b o e o' e' => hideAll_get _ (by rw [truncH_get, if_pos (Heap.lt_size e)]; exact e') (off b o e)
  refine ⟨hideAll (truncH h₁ g.objs.size) (news'.map (·.1)), ⟨B.stack, fun b o e => lift b o (hgs b o e) o (kg b o e), ?_⟩, fun b o e => lift b o (hgs b o e) o (kg b o e), ⟨kns, fun b o e => ?_, ?_⟩, fun q hq => ⟨(k q hq).1, (k q hq).2.1, hideAll_none _ (List.mem_map_of_mem hq)⟩⟩
  · have : ∀ {l : List Env}, h₁.FunFrames gs l → (∀ env ∈ l, ∃ L o, env.frame = some L ∧ g.get? L = some o) → (hideAll (truncH h₁ g.objs.size) (news'.map (·.1))).FunFrames gs l := by
      intro l
      induction l with
      | nil => exact fun _ _ => trivial
      | cons env r ih =>
        rintro ⟨hk, ⟨L, o, hf, hn, ho, hd⟩, hr⟩ hin
        obtain ⟨L₁, o₁, hf₁, ho₁⟩ := hin env (.head _)
        have e : L₁ = L := Option.some.inj (hf₁.symm.trans hf)
        subst e
        exact ⟨hk, ⟨_, o, hf, hn, lift _ _ ho₁ _ ho, hd⟩, ih hr fun e he => hin e (.tail _ he)⟩
    exact this kf fun env he => funFrames_in B.frames env he
  · have := of_hideAll _ e
    rw [truncH_get] at this
    split at this
    · exact this
    · cases this
  · rw [hideAll_size]; exact Nat.le_trans (truncH_size _ _) F.above
section
variable {w : World} {A₀ A : Around} {s : Shared} {base h₀ gs : Heap} {outer : List Env} {L : Addr} {m : Str → Option Value} {env : Env} {news rest : List (Addr × Obj)} {p : Program} {loose : List Str} {mean : ExcName → Option Value} {mg mb : Str → Option Value} {Q E : Value → Shared → Prop}
theorem law_switched_err_use {T MA MI O : Addr} {k : Int} {tk : Tok} {f : Int → Option Value} {S PM : Addr} {tb : Array Value}
    (B : Below A₀ base outer h₀) (F : Fr h₀ L s.heap m) (Nw : News h₀ L s.heap news)
    (hA : A.frames = some (env :: outer)) (hf : env.frame = some L) (hke : env.scope.kind = .function) (hh : A.handled = none) (hd : A.depth < 410) (hu : A.units < 1200)
    (hgs : gs.StaysIn h₀) (hoff : ∀ env' ∈ outer, ∀ a, env'.frame = some a → gs.get? a = none) (Xs : (Mine.hd.heap_39 w.params).In gs) (Ts : Top p loose mean mg mb gs)
    {P0 : Addr → Obj → Prop} (P : Pick 231 (tabObj tb) news rest) (hcd : CodeHd gs 235 231) (hTb : TbAt P0 141 48 qualSw tb) (hP0 : ∀ d o, P0 d o → (d, o) ∈ rest ∨ gs.get? d = some o)
    (hfacts : ∀ g : Heap, gs.StaysIn g → (∀ q ∈ rest, g.get? q.1 = some q.2) → TabAt9 w g T MA MI O ∧ g.MapOf (intKind PG w) MA f ∧ Bad w g f k) (lo : (MA == sysModules) = false)
    (h : ∀ g₁ tb' tail h' tk', Below A₀ gs outer g₁ → gs.StaysIn g₁ → Fr g₁ L h' m → News g₁ L h' ((231, tabObj tb') :: (rest ++ tail)) → TbAt (fun d o => (d, o) ∈ tail ∨ P0 d o) 141 48 qualSw tb' → (∀ q ∈ tail, ∀ q' ∈ news, q'.1 ≠ q.1) → Q .none { s with heap := h', toks := tk' }) :
    wpAny (model PG w) A (call (.ref 236) [.ref T, .ref S, .int k tk, .ref PM]) Q E s := by
  obtain ⟨p1, p2⟩ := P.spec
  have X := Xs.keeps hgs
  have Tp := Ts.keeps hgs
  obtain ⟨g, G, gm, gr, _, st, back⟩ := useS [(231, tabObj tb)] rest B F Nw X Tp hA hf hke (by simpa using p1) (fun q hq => ⟨(p2 q hq).1, by simpa using (p2 q hq).2⟩)
  have Fg := (back g [] (fun _ _ e => e) (fun _ h => (nomatch h))).1
  have gsg : gs.StaysIn g := fun b o e => st b o (hgs b o e)
  have hoff2 := off_cons hgs F hf hoff
  have k1 : gs.StaysIn (hideAll g ((env :: outer).filterMap (·.frame))) := hide_frames gsg hoff2
  have nf : ∀ q ∈ news, ∀ env' ∈ env :: outer, env'.frame ≠ some q.1 := fun q hq env' h1 h2 => by
    rcases List.mem_cons.mp h1 with rfl | h1
    · exact (Nw q hq).2.1 (Option.some.inj (h2.symm.trans hf))
    · obtain ⟨L₁, o₁, hf₁, ho₁⟩ := funFrames_in B.frames env' h1
      have : L₁ = q.1 := Option.some.inj (hf₁.symm.trans h2)
      rw [this, (Nw q hq).2.2] at ho₁; cases ho₁
  have kr : ∀ q ∈ rest, (hideAll g ((env :: outer).filterMap (·.frame))).get? q.1 = some q.2 := fun q hq => hideAll_get _ (gr q hq) fun hm => by
    obtain ⟨env', h1, h2⟩ := List.mem_filterMap.mp hm
    exact nf q (p2 q hq).1 env' h1 h2
  obtain ⟨f1, f2, f3⟩ := hfacts _ k1 kr
  have un : (hideAll g ((env :: outer).filterMap (·.frame))).StaysIn g := fun b o e => of_hideAll _ e
  have gL : ∃ o, g.get? L = some o := let ⟨o, _, _, ho, _⟩ := Fg.ns; ⟨o, ho⟩
  have Xs' := Xs.keeps k1
  have Ts' := Ts.keeps k1
  refine wpAny_call (law_switched_err G hh hd hu un (by rw [hideAll_size]; exact Nat.le_refl _) hide_off Xs' Ts' (f1.keeps un) (mapOf_keeps un f2) lo (f3.keeps un) gm (hcd.keeps gsg)
    (hTb.mono fun d o hd => (hP0 d o hd).elim (kr _) (k1 _ _)) fun c' oc h' tk' n2 n3 n4 n5 n6 n7 n8 => ?_)
  have kg : gs.StaysIn h' := fun b o e => n2 b o (gsg b o e) fun env' h1 h2 => by
    rw [hoff2 env' h1 b h2] at e; cases e
  have kns : h'.Ns L m := n3.ns Fg.ns
  have kf : h'.FunFrames gs outer := funFrames_off n4.2.2 hoff
  have c231 : c' ≠ 231 := fun q => by
    rw [q, n5] at n6; cases n6
    obtain ⟨vs, t, a, b⟩ := n7
    cases a
    simp [rawInt] at b
  have base1 : ∀ q ∈ ((231 : Addr), tabObj #[rawInt 141, rawInt 48, .ref c']) :: rest, h'.get? q.1 = some q.2 ∧ q.1 ≠ L ∧ h₀.get? q.1 = none := fun q hq => by
    rcases List.mem_cons.mp hq with rfl | hq
    · exact ⟨n5, (Nw _ p1).2⟩
    · exact ⟨n2 _ _ (gr q hq) (nf q (p2 q hq).1), (Nw q (p2 q hq).1).2⟩
  rcases n8 with ⟨rfl, hc⟩ | htb
  · have cL : c' ≠ L := fun q => by obtain ⟨o, ho⟩ := gL; rw [← q, hc] at ho; cases ho
    have c0 : h₀.get? c' = none := by
      cases q : h₀.get? c' with
      | none => rfl
      | some o => have := st _ _ q; rw [hc] at this; cases this
    obtain ⟨g₁, B₁, s₁, F₁, N₁⟩ := reground9 (news' := ((231 : Addr), tabObj #[rawInt 141, rawInt 48, .ref c']) :: (rest ++ [(c', oc)])) B F Nw hgs hoff (fun q hq => by
      rcases List.mem_cons.mp hq with rfl | hq
      · exact base1 _ (.head _)
      rcases List.mem_append.mp hq with hq | hq
      · exact base1 _ (.tail _ hq)
      · rw [List.mem_singleton.mp hq]; exact ⟨n6, cL, c0⟩) kg kns kf
    refine h g₁ _ [(c', oc)] h' tk' B₁ s₁ F₁ N₁ (.inr ⟨c', oc, rfl, .inl (.head _), n7⟩) fun q hq q' hq' e => ?_
    rw [List.mem_singleton.mp hq] at e
    rcases P.one q' hq' with rfl | hq'
    · exact c231 e.symm
    · have := gr q' hq'; rw [e, hc] at this; cases this
  · obtain ⟨g₁, B₁, s₁, F₁, N₁⟩ := reground9 (news' := ((231 : Addr), tabObj #[rawInt 141, rawInt 48, .ref c']) :: (rest ++ [])) B F Nw hgs hoff (fun q hq => by rw [List.append_nil] at hq; exact base1 q hq) kg kns kf
    exact h g₁ _ [] h' tk' B₁ s₁ F₁ N₁ (by rw [← htb]; exact hTb.mono fun d o => Or.inr) fun q hq => nomatch hq
end
set_option maxHeartbeats 4000000 in
theorem mode_new {w : World} {p : Program} {loose : List Str} {mean : ExcName → Option Value} {mg mb : Str → Option Value} {A₀ : Around} {base h₀ : Heap} {outer : List Env} {dp un : Nat} {gd : Option (List Code)} {L a : Addr} {cn : Str} {sc : Scope} {ccd : Value} {cl : List (Str × Addr)}
    {m : Str → Option Value} {news : List (Addr × Obj)} {s : Shared} {Q E : Value → Shared → Prop} {i pk : Int} {u0 u1 u2 : Tok} {tt : Str} {kv sv bv hv : Value}
    (hsc : sc.kind = .function)
    (B : Below A₀ base outer h₀) (F : Fr h₀ L s.heap m) (N : News h₀ L s.heap news) (X : (Mine.hd.heap_39 w.params).In h₀) (Tp : Top p loose mean mg mb h₀) (hd : dp < 440) (hu : un < 1400)
    (h : ∀ M D n t0 t1 t2 t3 t4 t5 t6 h' tk', Fr h₀ L h' m → News h₀ L h' ((M, instObj 51 D) :: (D, dictOf [ent w "symbol" t0 (.int i u0), ent w "title" t1 (.str tt u1), ent w "parent" t2 (.int pk u2), ent w "keymap" t3 kv, ent w "syntax" t4 sv, ent w "body" t5 bv, ent w "hook" t6 hv] n) :: news) →
      (∀ q ∈ news, q.1 < D) → @LT.lt Nat _ D M → Q (.ref M) { s with heap := h', toks := tk' }) :
    wpAny (model PG w) ⟨none, dp, some (envX cn sc L a ccd cl :: outer), gd, un⟩ (call (.ref 51) [.int i u0, .str tt u1, .int pk u2, kv, sv, bv, hv]) Q E s := by
  obtain ⟨kd, ns, ig, ic, mo⟩ := sc
  simp only at hsc
  subst hsc
  k_steps
  rename Fr h₀ L _ m => kF
  rename News h₀ L _ _ => kN
  exact h _ _ _ _ _ _ _ _ _ _ _ _ kF kN (by first | assumption | exact lt_of_allLt (by assumption)) (by first | assumption | omega)
set_option maxHeartbeats 4000000 in
theorem minor_new {w : World} {p : Program} {loose : List Str} {mean : ExcName → Option Value} {mg mb : Str → Option Value} {A₀ : Around} {base h₀ : Heap} {outer : List Env} {dp un : Nat} {gd : Option (List Code)} {L a : Addr} {cn : Str} {sc : Scope} {ccd : Value} {cl : List (Str × Addr)}
    {m : Str → Option Value} {news : List (Addr × Obj)} {s : Shared} {Q E : Value → Shared → Prop} {i : Int} {u0 u1 : Tok} {tt : Str} {kv bv hv : Value}
    (hsc : sc.kind = .function)
    (B : Below A₀ base outer h₀) (F : Fr h₀ L s.heap m) (N : News h₀ L s.heap news) (X : (Mine.hd.heap_39 w.params).In h₀) (Tp : Top p loose mean mg mb h₀) (hd : dp < 440) (hu : un < 1400)
    (h : ∀ M D n t0 t1 t2 t3 t4 h' tk', Fr h₀ L h' m → News h₀ L h' ((M, instObj 72 D) :: (D, dictOf [ent w "symbol" t0 (.int i u0), ent w "lighter" t1 (.str tt u1), ent w "keymap" t2 kv, ent w "body" t3 bv, ent w "hook" t4 hv] n) :: news) →
      (∀ q ∈ news, q.1 < D) → @LT.lt Nat _ D M → Q (.ref M) { s with heap := h', toks := tk' }) :
    wpAny (model PG w) ⟨none, dp, some (envX cn sc L a ccd cl :: outer), gd, un⟩ (call (.ref 72) [.int i u0, .str tt u1, kv, bv, hv]) Q E s := by
  obtain ⟨kd, ns, ig, ic, mo⟩ := sc
  simp only at hsc
  subst hsc
  k_steps
  rename Fr h₀ L _ m => kF
  rename News h₀ L _ _ => kN
  exact h _ _ _ _ _ _ _ _ _ _ kF kN (by first | assumption | exact lt_of_allLt (by assumption)) (by first | assumption | omega)
theorem ring_facts {w : World} {o : Obj} {kvs : List (Int × Value)} {v1 v2 : Value} (h60 : valueAt kvs 60 = none) (h : o.IsDictOf (intKind PG w) (stored (stored kvs 61 v1) 62 v2)) :
    ∃ kv9, o.IsDictOf (intKind PG w) kv9 ∧ valueAt kv9 60 = none ∧ valueAt kv9 61 = some v1 ∧ valueAt kv9 62 = some v2 :=
  ⟨_, h, by rw [valueAt_stored, valueAt_stored, if_neg (by decide), if_neg (by decide)]; exact h60, by rw [valueAt_stored, valueAt_stored, if_neg (by decide), if_pos rfl], by rw [valueAt_stored, if_pos rfl]⟩
theorem hk_X9_0 : True := by
  k_with "HcompareOp Eq ref ref" => (fail_if_success have := @_root_.Mine.law_rings_ok); (k_here; (with_reducible show wpAny _ _ (compareOp CmpOp.Eq (Value.ref _) (Value.ref _)) _ _ _); k_dflt (refine' eq_tupIL ?aq53 ?bq53 ?cq53 ?dq53 ?eq53 ?fq53 ?lq53 ?iq53 ?l2q53 ?i2q53 ?uq53 ?_; (case aq53 => exact News.get (by k_asm) (by k_mem)); (case bq53 => exact rfl); (case cq53 => exact rfl); (case dq53 => exact News.get (by k_asm) (by k_mem)); (case eq53 => exact rfl); (case fq53 => exact rfl); (case lq53 => (first | exact News.isList (by k_asm) (by k_mem) | exact isList_keeps (Fr.keep (by k_asm)) (by assumption))); (case iq53 => assumption); (case l2q53 => (first | exact News.isList (by k_asm) (by k_mem) | exact isList_keeps (Fr.keep (by k_asm)) (by assumption))); (case i2q53 => assumption); (case uq53 => (show _ + 64 < 9900; (((try simp only [depth_mark, depth_under_make, depth_under_kw, depth_in1, depth_deeper, depth_caller, units_in1, units_deeper, units_caller, Around.mark_units]); (try dsimp only); omega)))); k_whole))
  trivial
set_option maxHeartbeats 8000000 in
theorem law_rings_ok {w : World} {p : Program} {loose : List Str} {mean : ExcName → Option Value} {mg mb : Str → Option Value} {A : Around} {base g gs : Heap} {outer : List Env} {s : Shared} {R : Result → Shared → Prop}
    {T MA MI O S D ON : Addr} {mj : Int} {n0 : Nat} {t0 t1 u : Tok} {ovs : List Value} {os : List Int} {tb : Array Value} {oMA : Obj} {kvs : List (Int × Value)}
    (G : Gnd (Mine.hd.heap_39 w.params) p loose mean mg mb A base outer g s.heap) (hh : A.handled = none) (hd : A.depth < 400) (hu : A.units < 1100)
    (hgs : gs.StaysIn g) (hoff : ∀ env' ∈ outer, ∀ a, env'.frame = some a → gs.get? a = none) (Xs : (Mine.hd.heap_39 w.params).In gs) (Ts : Top p loose mean mg mb gs) (hcd : CodeHd gs 235 231)
    (M : ∀ q ∈ [(MA, oMA), (231, tabObj tb)], s.heap.get? q.1 = some q.2 ∧ g.get? q.1 = none) (hMA2 : @Ne Nat MA 231) (lo : (MA == sysModules) = false)
    (hTs : TabAt9 w gs T MA MI O) (hSs : gs.get? S = some (instObj 175 D)) (hDs : gs.get? D = some (stD w n0 t0 t1 u mj ON)) (hOs : gs.IsList ON ovs.toArray) (hoi : IntsAre ovs os) (hol : os.length ≤ 100)
    (hTb : TbAt (fun d o => gs.get? d = some o) 141 48 qualSw tb) (hMA : oMA.IsDictOf (intKind PG w) kvs) (hz : kvs.length ≤ 50) (h60 : valueAt kvs 60 = none)
    (hret : ∀ h' tk', gs.StaysIn h' → (∃ tb' : Array Value, h'.get? 231 = some (tabObj tb')) → R (.ok (.ret (.bool true))) { s with heap := h', toks := tk' }) :
    codeAny (model PG w) A (.call (.ref 255) ⟨[.ref T, .ref S], []⟩) R s := by
  ((obtain ⟨B, X, Tp, st, hsz⟩ := G; obtain ⟨hd0, dp, fr, gd, un⟩ := A; have hfr : fr = some outer := B.stack; subst hfr; simp only at hh hd hu; subst hh))
  have hT := hTs.keeps hgs
  have hT0 := hT
  obtain ⟨dT, nT, q0, q1, q2, hT1, hT2⟩ := hT0
  have hS := hgs _ _ hSs
  have hD := hgs _ _ hDs
  have hON := isList_keeps hgs hOs
  k_with "M call" =>
    (fail_if_success have := @_root_.Mine.law_rings_ok)
    (with_reducible show wpAny _ _ (call (Value.ref 97) _) _ _ _)
    rename Fr _ _ _ _ => F0
    rename News _ _ _ _ => N0
    refine' define_use (MA := MA) (MI := MI) (O := O) B F0 N0 X Tp rfl rfl rfl rfl (by (((try simp only [depth_mark, depth_under_make, depth_under_kw, depth_in1, depth_deeper, depth_caller, units_in1, units_deeper, units_caller, Around.mark_units]); (try dsimp only); omega))) (by (((try simp only [depth_mark, depth_under_make, depth_under_kw, depth_in1, depth_deeper, depth_caller, units_in1, units_deeper, units_caller, Around.mark_units]); (try dsimp only); omega))) ?P ?hf ?hMA ?hz ?_
    case P => k_extra "PICK"
    case hf => exact (fun g' hg hr => ⟨hT.keeps hg, _, _, _, _, _, _, _, _, _, _, _, _, _, _, hr (_, _) (by k_mem), hr (_, _) (by k_mem)⟩)
    case hMA => assumption
    case hz => first | omega | (have := stored_length_le kvs 61 (.ref ‹Addr›); omega) | (refine Nat.le_trans (stored_length_le _ _ _) ?_; omega)
    intro oM' h' tk' F' N' hMA'
  k_with "M call" =>
    (fail_if_success have := @_root_.Mine.law_rings_ok)
    (with_reducible show wpAny _ _ (call (Value.ref 51) _) _ _ _)
    rename Fr _ _ _ _ => F0
    rename News _ _ _ _ => N0
    refine' mode_new rfl B F0 N0 X Tp (by (((try simp only [depth_mark, depth_under_make, depth_under_kw, depth_in1, depth_deeper, depth_caller, units_in1, units_deeper, units_caller, Around.mark_units]); (try dsimp only); omega))) (by (((try simp only [depth_mark, depth_under_make, depth_under_kw, depth_in1, depth_deeper, depth_caller, units_in1, units_deeper, units_caller, Around.mark_units]); (try dsimp only); omega))) ?_
    intro M D nM t0 t1 t2 t3 t4 t5 t6 h' tk' F' N' l1 l2
    try k_lt l1
    clear F0 N0
  k_with "M iter" =>
    (fail_if_success have := @_root_.Mine.law_rings_ok)
    rename Fr _ _ _ _ => F0
    rename News _ _ _ _ => N0
    refine forTwo rfl F0 N0 (by k_mem) ?_
    clear F0 N0
    intro I oI h tk F1 N1 hneI
    have hneI' := allNe_of hneI
    simp only [AllNe, and_true] at hneI'
    try k_fold
  k_with "M call" =>
    (fail_if_success have := @_root_.Mine.law_rings_ok)
    (with_reducible show wpAny _ _ (call (Value.ref 236) _) _ _ _)
    rename Fr _ _ _ _ => F0
    rename News _ _ _ _ => N0
    rename Obj.IsDictOf _ _ (stored _ 62 _) => hMA9
    obtain ⟨kv9, hkv9, e60, e61, e62⟩ := ring_facts h60 hMA9
    refine' law_switched_err_use (T := T) (MA := MA) (MI := MI) (O := O) (f := valueAt kv9) (gs := gs) ?B F0 N0 rfl rfl rfl rfl (by (((try simp only [depth_mark, depth_under_make, depth_under_kw, depth_in1, depth_deeper, depth_caller, units_in1, units_deeper, units_caller, Around.mark_units]); (try dsimp only); omega))) (by (((try simp only [depth_mark, depth_under_make, depth_under_kw, depth_in1, depth_deeper, depth_caller, units_in1, units_deeper, units_caller, Around.mark_units]); (try dsimp only); omega))) ?hgs hoff Xs Ts ?P hcd ?hTb ?hP0 ?hf lo ?_
    case B => assumption
    case hgs => assumption
    case P => k_extra "PICK"
    case hTb => assumption
    case hP0 => first | exact fun d o h => .inr h | exact fun d o h => h.elim (fun h => .inl (by k_mem)) .inr
    case hf => exact fun g' hg hr => ⟨hTs.keeps hg, (Heap.dictOf_iff.mpr ⟨_, hr (_, _) (by k_mem), hkv9⟩).mapOf, by first | exact .inl ⟨rfl, e60⟩ | exact .inr ⟨rfl, _, _, _, _, _, _, e61, ⟨_, _, _, _, _, _, _, _, _, _, _, _, _, _, hr (_, _) (by k_mem), hr (_, _) (by k_mem)⟩, e62, ⟨_, _, _, _, _, _, _, _, _, _, _, _, _, _, hr (_, _) (by k_mem), hr (_, _) (by k_mem)⟩⟩⟩
    intro g1 tb1 tail1 h' tk' B1 s1 F1 N1 hTb1 hA1
    replace hA1 : Apart tail1 _ := hA1
    have X1 := Xs.keeps s1
    have Tp1 := Ts.keeps s1
    have hS1 := s1 _ _ hSs
    have hD1 := s1 _ _ hDs
    have hON1 := isList_keeps s1 hOs
    simp only [List.cons_append] at N1
    clear F0 N0
    try k_fold
  ((k_dflt (refine' enterS0 ?k1 ?k2 ?k3 ?k4 ?k5 ?k6 ?kl ?k7 ?k8 ?k9 ?kB ?_ ?c2 ?c3 ?c4 ?c5; (case k1 => assumption); (case k2 => assumption); (case k3 => assumption); (case k4 => assumption); (case k5 => assumption); (case k6 => k_is); (case kl => (refine ⟨⟨?_, ?_⟩, ?_⟩ <;> (conv => rhs; whnf) <;> exact rfl)); (case k7 => k_is); (case k8 => k_room); (case k9 => exact binds_zip (by kernel_rfl)); (case c5 => decide); (case kB => exact locs rfl); (case c2 => exact rfl); (case c3 => exact rfl); (case c4 => exact rfl); k_whole)))
  intro L' h₁ hL hL2 hst F' N'
  try dsimp only
  try k_fold
  k_steps
  refine ⟨_, _, rfl, N1.get (by k_mem), N1.get (by k_mem), ?_⟩
  intro oI2 h4 tk4 hI4 ht4 hk4
  obtain ⟨F2, N2⟩ := advance F1 N1 (by k_extra "PICK") hI4 hk4
  clear F1 N1 B X Tp hT hT1 hT2 hS hD hON
  try k_fold
  k_steps
  refine ⟨_, _, rfl, N1.get (by k_mem), N1.get (by k_mem), ?_⟩
  intro h6 tk6 hk6
  obtain ⟨F3, N3⟩ := advance0 F1 N1 (by k_extra "PICK") hk6
  clear F1 N1
  try k_fold
  k_steps
  rename Fr _ _ _ _ => F9
  rename News _ _ _ _ => N9
  exact hret _ _ (fun b o e => F9.keep b o (s1 b o e)) ⟨_, N9.get (a := 231) (by k_mem)⟩
section
variable {w : World} {p : Program} {loose : List Str} {mean : ExcName → Option Value} {mg mb : Str → Option Value} {A₀ A : Around} {base h₀ : Heap} {env : Env} {L : Addr} {m : Str → Option Value} {news rest : List (Addr × Obj)} {s : Shared} {Q E : Value → Shared → Prop}
theorem law_rings_use {T dT MA MI O S D ON : Addr} {nT : Nat} {q0 q1 q2 : Tok} {mj : Int} {n0 nO : Nat} {t0 t1 u : Tok} {ovs : List Value} {os : List Int} {tb : Array Value} {oMA : Obj} {kvs : List (Int × Value)}
    (B : Below A₀ base [] h₀) (F : Fr h₀ L s.heap m) (Nw : News h₀ L s.heap news) (X : (Mine.hd.heap_39 w.params).In h₀) (Tp : Top p loose mean mg mb h₀)
    (hA : A.frames = some [env]) (hf : env.frame = some L) (hke : env.scope.kind = .function) (hh : A.handled = none) (hd : A.depth < 400) (hu : A.units < 1100)
    (P : Picks [(MA, oMA), (231, tabObj tb)] news rest) (hcd : CodeHd h₀ 235 231) (hMA2 : @Ne Nat MA 231) (lo : (MA == sysModules) = false)
    (hT1 : (T, instObj 147 dT) ∈ rest) (hT2 : (dT, dictOf [ent w "majors" q0 (.ref MA), ent w "minors" q1 (.ref MI), ent w "order" q2 (.ref O)] nT) ∈ rest)
    (hS : (S, instObj 175 D) ∈ rest) (hD : (D, stD w n0 t0 t1 u mj ON) ∈ rest) (hO : (ON, listOf ovs.toArray nO) ∈ rest) (hoi : IntsAre ovs os) (hol : os.length ≤ 100)
    (hTb : TbAt (fun d o => (d, o) ∈ rest) 141 48 qualSw tb) (hMA : oMA.IsDictOf (intKind PG w) kvs) (hz : kvs.length ≤ 50) (h60 : valueAt kvs 60 = none)
    (h : ∀ h' tk', h₀.StaysIn h' → (∀ q ∈ rest, h'.get? q.1 = some q.2) → (∃ tb' : Array Value, h'.get? 231 = some (tabObj tb')) → Q (.bool true) { s with heap := h', toks := tk' }) :
    wpAny (model PG w) A (call (.ref 255) [.ref T, .ref S]) Q E s := by
  obtain ⟨p1, p2⟩ := P.spec
  obtain ⟨g1, G, gm, gr, _, st, back⟩ := useS [(MA, oMA), (231, tabObj tb)] rest B F Nw X Tp hA hf hke p1 p2
  have hL0 : h₀.get? L = none := by
    cases hq : h₀.get? L with
    | none => rfl
    | some o => exact absurd (Nat.lt_of_lt_of_le (Heap.lt_size hq) F.above) (Nat.lt_irrefl _)
  have sgs : h₀.StaysIn (hideAll g1 ([env].filterMap (·.frame))) := hide_frames st fun env' he a ha => by
    rw [List.mem_singleton.mp he, hf] at ha
    cases ha
    exact hL0
  have gs1 : (hideAll g1 ([env].filterMap (·.frame))).StaysIn g1 := fun b o e => of_hideAll _ e
  have gsr : ∀ q ∈ rest, (hideAll g1 ([env].filterMap (·.frame))).get? q.1 = some q.2 := fun q hq => hideAll_get _ (gr q hq) fun hm => by
    simp only [List.filterMap_cons, hf, List.filterMap_nil, List.mem_singleton] at hm
    exact (Nw q (p2 q hq).1).2.1 hm
  have hoff := hide_off (g := g1) (l := [env])
  generalize hideAll g1 ([env].filterMap (·.frame)) = gs at sgs gs1 gsr hoff
  exact wpAny_call (law_rings_ok (gs := gs) G hh hd hu gs1 hoff (X.keeps sgs) (Tp.keeps sgs) (hcd.keeps sgs) gm hMA2 lo
    ⟨dT, nT, q0, q1, q2, gsr _ hT1, gsr _ hT2⟩ (gsr _ hS) (gsr _ hD) ⟨_, gsr _ hO, rfl, _, rfl⟩ hoi hol (hTb.mono fun d o hm => gsr (d, o) hm) hMA hz h60 fun h' tk' k1 k2 => h h' tk' (fun b o e => k1 b o (sgs b o e)) (fun q hq => k1 _ _ (gsr q hq)) k2)
end
def onv (kvs : List (Int × Value)) (k : Int) : Bool := match valueAt kvs k with
  | some (.bool b) => b
  | _ => false
def BoolsD (kvs : List (Int × Value)) : Prop := ∀ k v, valueAt kvs k = some v → ∃ b, v = .bool b
theorem onv_stored (kvs : List (Int × Value)) (k k' : Int) (b : Bool) : onv (stored kvs k (.bool b)) k' = if k = k' then b else onv kvs k' := by
  unfold onv
  rw [valueAt_stored]
  by_cases h : k = k'
  · rw [if_pos (by first | exact h | exact h.symm), if_pos h]
  · rw [if_neg (by first | exact h | exact fun e => h e.symm), if_neg h]
theorem BoolsD.stored {kvs : List (Int × Value)} (x : BoolsD kvs) (k : Int) (b : Bool) : BoolsD (stored kvs k (.bool b)) := fun k' v h => by
  rw [valueAt_stored] at h
  split at h
  · exact ⟨b, (Option.some.inj h).symm⟩
  · exact x k' v h
structure XD where
  di : List Value
  dep : Nat
  ds : List Int
  n0 : Nat
  t0 : Tok
  t1 : Tok
  u : Tok
  mj : Int
  ON : Addr
  ob : Obj
  obv : List (Int × Value)
  tb1 : Array Value
  tb2 : Array Value
  ovs : List Value
  nO : Nat
  os : List Int
  tail : List (Addr × Obj)
def nwD (w : World) (deck D OD : Addr) (kept : List (Addr × Obj)) (x : XD) : List (Addr × Obj) :=
  (deck, listOf x.di.toArray x.dep) :: (D, stD w x.n0 x.t0 x.t1 x.u x.mj x.ON) :: (OD, x.ob) :: (231, tabObj x.tb1) :: (243, tabObj x.tb2) :: (kept ++ x.tail)
structure PhiD (w : World) (deck D OD : Addr) (kept : List (Addr × Obj)) (ms : List Int) (i : Nat) (x : XD) : Prop where
  hdi : IntsAre x.di x.ds
  hdn : x.di.length ≤ 60
  hO : (x.ON, listOf x.ovs.toArray x.nO) ∈ x.tail
  hoi : IntsAre x.ovs x.os
  hnd : x.os.Nodup
  hsub : ∀ k ∈ x.os, k ∈ ms
  hob : x.ob.IsDictOf (intKind PG w) x.obv
  hobl : x.obv.length ≤ 5 * i
  hobk : BoolsD x.obv
  hon : ∀ k ∈ ms, onv x.obv k = x.os.any (· == k)
  ht1 : TbAt (fun d o => (d, o) ∈ x.tail) 141 48 qualSw x.tb1
  ht2 : TbAt (fun d o => (d, o) ∈ x.tail) 159 67 qualTu x.tb2
  o1 : ∀ q ∈ x.tail, q.1 ≠ deck
  o2 : ∀ q ∈ x.tail, q.1 ≠ D
  o3 : ∀ q ∈ x.tail, q.1 ≠ OD
  o4 : ∀ q ∈ x.tail, q.1 ≠ 231
  o5 : ∀ q ∈ x.tail, q.1 ≠ 243
  off : Apart x.tail kept
section
variable {prog : Program} {w : World} {A : Around} {E : Value → Shared → Prop} {s : Shared} {h₀ : Heap} {L d : Addr} {news : List (Addr × Obj)} {o : Obj} {kvs : List (Int × Value)} {k : Int} {t : Tok}
open PySem.W
theorem get_led {pl : Sem Bool} {Q : Value × List Value → Shared → Prop} (N : News h₀ L s.heap news) (hp : (d, o) ∈ news) (hd : o.IsDictOf (intKind prog w) kvs) (h : Q (.builtin "dict.get", [.ref d]) s) : wpAny (model prog w) A (getMethod (.ref d) (Str.ofString "get") pl) Q E s :=
  kdg_method N hp hd h
theorem onget {Q : Value → Shared → Prop} (N : News h₀ L s.heap news) (hp : (d, o) ∈ news) (hd : o.IsDictOf (intKind prog w) kvs) (lo : (d == sysModules) = false) (hb : BoolsD kvs) (h : Q (.bool (onv kvs k)) { s with toks := s.toks + 1 }) :
    wpAny (model prog w) A (call (.builtin "dict.get") [.ref d, .int k t, .bool false]) Q E s := by
  refine kdg_get2 N hp hd lo (intKind_is _ _ _ _) (valueAt kvs k) rfl ?_
  unfold onv at h
  cases hv : valueAt kvs k with
  | none => rw [hv] at h; exact h
  | some v => obtain ⟨b, rfl⟩ := hb k v hv; rw [hv] at h; exact h
theorem in_led {Q : Value → Shared → Prop} (N : News h₀ L s.heap news) (hp : (d, o) ∈ news) (hd : o.IsDictOf (intKind prog w) kvs) (lo : (d == sysModules) = false) (h : Q (.bool (valueAt kvs k).isSome) { s with toks := s.toks + 1 }) :
    wpAny (model prog w) A (compareOp .In (.int k t) (.ref d)) Q E s := kda_in N hp hd lo (intKind_is _ _ _ _) _ rfl h
theorem setItem_led2 {m : Str → Option Value} {g9 : Obj → List (Addr × Obj)} {v : Value} {Q : Unit → Shared → Prop} (F : Fr h₀ L s.heap m) (N : News h₀ L s.heap news) (U : UpdF d o news g9) (hd : o.IsDictOf (intKind prog w) kvs) (hz : kvs.length ≤ 1000)
    (h : ∀ h' o', Fr h₀ L h' m → News h₀ L h' (g9 o') → o'.IsDictOf (intKind prog w) (stored kvs k v) → Q () { s with heap := h', toks := s.toks + 1 }) : wpAny (model prog w) A (setItem (.ref d) (.int k t) v) Q E s :=
  kda_set F N U hd (intKind_is _ _ _ _) (by rw [sizeLine_eq]; omega) h
end
theorem len_l {prog : Program} {w : World} {A : Around} {E : Value → Shared → Prop} {s : Shared} {l : Addr} {vs : List Value} {Q : Value → Shared → Prop} (hl : s.heap.IsList l vs.toArray) (hz : vs.length ≤ 1000) (h : Q (.int vs.length (s.toks + 1)) { s with toks := s.toks + 1 + 1 }) :
    wpAny (model prog w) A (call (.builtin "len") [.ref l]) Q E s := call_len_list hl (by simp; omega) (by simpa using h)
theorem frAs {h₀ h : Heap} {L : Addr} {m : Str → Option Value} {a : Str} {v : Value} (F : Fr h₀ L h m) (e : m a = some v) : Fr h₀ L h (fun y => if y = a then some v else m y) := by
  have : (fun y => if y = a then some v else m y) = m := by
    funext y
    split
    · subst_vars; exact e.symm
    · rfl
  rw [this]; exact F
/-- the branches of a statement If -/
noncomputable def thenOf : Option Stmt → List Stmt
  | some (.If _ b _ _) => b
  | _ => []
noncomputable def elseOf : Option Stmt → List Stmt
  | some (.If _ _ b _) => b
  | _ => []

theorem hk_B16M_0 : True := by
  k_with "HgetMethod ref" => (k_here; (with_reducible show wpAny _ _ (getMethod (Value.ref _) (Str.ofString "get") _) _ _ _); k_dflt (refine' get_led ?Nq54 ?mq54 ?dq54 ?_; (case Nq54 => k_asm); (case mq54 => k_mem); (case dq54 => assumption); k_whole))
  k_with "Hcall builtin:dict.get" => (k_here; (with_reducible show wpAny _ _ (call (Value.builtin _) [Value.ref _, Value.int _ _, Value.bool false]) _ _ _); k_dflt (refine' onget ?Nq55 ?mq55 ?dq55 ?lq55 ?bq55 ?_; (case Nq55 => k_asm); (case mq55 => k_mem); (case dq55 => assumption); (case lq55 => assumption); (case bq55 => assumption); k_whole))
  k_with "HcompareOp In int ref" => (k_here; k_dflt (refine' in_led ?Nq56 ?mq56 ?dq56 ?lq56 ?_; (case Nq56 => k_asm); (case mq56 => k_mem); (case dq56 => assumption); (case lq56 => assumption); k_whole))
  k_with "HsetItem ref int" => (k_here; k_dflt (refine' setItem_led2 ?Fq57 ?Nq57 ?Uq57 ?dq57 ?zq57 ?_; (case Fq57 => k_asm); (case Nq57 => k_asm); (case Uq57 => k_updF); (case dq57 => assumption); (case zq57 => omega); k_whole); (intro h' o' F' N' hd'; (try dsimp only at N')))
  k_with "Hcall builtin:len" => (k_here; (with_reducible show wpAny _ _ (call (Value.builtin _) [Value.ref _]) _ _ _); k_dflt (refine' len_l ?lq58 ?zq58 ?_; (case lq58 => (first | exact News.isList (by k_asm) (by k_mem) | exact isList_keeps (Fr.keep (by k_asm)) (by assumption))); (case zq58 => omega); k_whole))
  trivial
section
variable {w : World} {A : Around} {s : Shared} {env : Env} {h₀ : Heap} {Q : Flow → Shared → Prop} {L D : Addr} {target : Expr} {body : List Stmt} {m₀ : Str → Option Value} {news rest : List (Addr × Obj)}
/-- a loop that turns the dict D -/
inductive JO (w : World) (D : Addr) (stored : List Str) (Φ : Nat → List (Int × Value) → Prop) (m₀ : Str → Option Value) (rest : List (Addr × Obj)) (i : Nat) (m : Str → Option Value) (nx : List (Addr × Obj)) : Prop
  | mk : ∀ (o : Obj) (kvs : List (Int × Value)), ((∀ y, stored.contains y = false → m y = m₀ y)) → (nx = (D, o) :: rest) → (o.IsDictOf (intKind PG w) kvs) → (Φ i kvs) → JO w D stored Φ m₀ rest i m nx
theorem forListO {l : Addr} {vs : List Value} {o0 : Obj} {kvs0 : List (Int × Value)} (stored : List Str) (Φ : Nat → List (Int × Value) → Prop) (hh : A.handled = none)
    (F : Fr h₀ L s.heap m₀) (N : News h₀ L s.heap news) (P : Pick D o0 news rest) (hl : s.heap.IsList l vs.toArray) (ho : o0.IsDictOf (intKind PG w) kvs0) (h0 : Φ 0 kvs0)
    (keepL : ∀ h m, Fr h₀ L h m → News h₀ L h rest → h.IsList l vs.toArray)
    (turn : ∀ i v (m₁ : Str → Option Value) h tk I oI o kvs, vs[i]? = some v → o.IsDictOf (intKind PG w) kvs → Φ i kvs → Fr h₀ L h (fun y => if stored.contains y = true then m₁ y else m₀ y) → News h₀ L h ((I, oI) :: (D, o) :: rest) → (∀ q ∈ rest, q.1 ≠ I) → @Ne Nat D I →
      wpAny (model PG w) A (assign target env v) (fun _ s₂ => wpAny (model PG w) A (execs body env) (TurnEnd (LoopK h₀ L I (JO w D stored Φ m₀ rest)) (fun _ h => h.get? I = some oI) (i + 1) s Q) (fun _ _ => False) s₂) (fun _ _ => False) { s with heap := h, toks := tk })
    (done : ∀ (m₁ : Str → Option Value) h tk o kvs, o.IsDictOf (intKind PG w) kvs → Φ vs.length kvs → Fr h₀ L h (fun y => if stored.contains y = true then m₁ y else m₀ y) → News h₀ L h ((D, o) :: rest) → Q .next { s with heap := h, toks := tk })
    (ht : ∀ I v, letOwnedTupleGo target (.ref I) v = pure () := by intro _ _; rfl) :
    wpAny (model PG w) A (pyIter (.ref l)) (fun it s₂ => ForAt PG w A env target body Q it s₂) (fun _ _ => False) s := by
  obtain ⟨p1, p2⟩ := P.spec
  refine forList (JO w D stored Φ m₀ rest) hh F (news := (D, o0) :: rest) (fun q hq => ?_) hl ⟨o0, kvs0, fun _ _ => rfl, rfl, ho, h0⟩ (fun i m nx h hJ F₁ N₁ => by obtain ⟨_, _, _, rfl, _⟩ := hJ; exact keepL h m F₁ fun q hq => N₁ q (.tail _ hq))
    (fun i v m nx h tk I oI hv hJ F₁ N₁ hne _ => by obtain ⟨o, kvs, h1, rfl, h2, h3⟩ := hJ; exact turn i v m h tk I oI o kvs hv h2 h3 (frCanon F₁ h1) N₁ (fun q hq => hne q (.tail _ hq)) (hne _ (.head _)))
    (fun m nx h tk hJ F₁ N₁ => by obtain ⟨o, kvs, h1, rfl, h2, h3⟩ := hJ; exact done m h tk o kvs h2 h3 (frCanon F₁ h1) N₁) ht
  rcases List.mem_cons.mp hq with rfl | hq
  · exact N _ p1
  · exact N _ (p2 q hq).1
theorem turnEndO {h' : Heap} {I : Addr} {oI o : Obj} {kvs : List (Int × Value)} {stored : List Str} {Φ : Nat → List (Int × Value) → Prop} {i : Nat} {m' : Str → Option Value} {nw : List (Addr × Obj)} {tk : Nat}
    (F : Fr h₀ L h' m') (N : News h₀ L h' nw) (hm : ∀ y, stored.contains y = false → m' y = m₀ y) (hD : (D, o) ∈ nw) (hI : (I, oI) ∈ nw) (hs : ∀ q ∈ rest, q ∈ nw) (hne : ∀ q ∈ rest, q.1 ≠ I) (hDI : @Ne Nat D I) (ho : o.IsDictOf (intKind PG w) kvs) (hΦ : Φ i kvs) :
    TurnEnd (LoopK h₀ L I (JO w D stored Φ m₀ rest)) (fun _ h => h.get? I = some oI) i s Q .next { s with heap := h', toks := tk } :=
  turnEnd (nx := (D, o) :: rest) F N ⟨o, kvs, hm, rfl, ho, hΦ⟩ (fun q hq => by rcases List.mem_cons.mp hq with rfl | hq; exact hD; exact hs q hq) (fun q hq => by rcases List.mem_cons.mp hq with rfl | hq; exact hDI; exact hne q hq) hI
end
/-- the minor modes that a switch lets stand -/
structure PhiO (p : Int → Bool) (kvs0 : List (Int × Value)) (ms : List Int) (j : Nat) (kvs : List (Int × Value)) : Prop where
  hl : kvs.length ≤ kvs0.length + j
  hb : BoolsD kvs
  h1 : ∀ k ∈ ms.take j, onv kvs k = (onv kvs0 k && p k)
  h2 : ∀ k, k ∉ ms.take j → onv kvs k = onv kvs0 k
theorem nodup_take {ms : List Int} (hn : ms.Nodup) {j : Nat} {own : Int} (h : ms[j]? = some own) : own ∉ ms.take j := by
  intro hm
  obtain ⟨i, hi, he⟩ := List.mem_iff_getElem.mp hm
  rw [List.length_take] at hi
  rw [List.getElem_take] at he
  have hj := List.getElem?_eq_some_iff.mp h
  obtain ⟨hj1, hj2⟩ := hj
  have := (List.getElem_inj hn).mp (he.trans hj2.symm)
  omega
theorem PhiO.zero {p : Int → Bool} {kvs0 : List (Int × Value)} {ms : List Int} (hb : BoolsD kvs0) : PhiO p kvs0 ms 0 kvs0 :=
  ⟨Nat.le_refl _, hb, fun k h => by simp at h, fun _ _ => rfl⟩
theorem PhiO.next {p : Int → Bool} {kvs0 kvs : List (Int × Value)} {ms : List Int} {j : Nat} {own : Int} {b : Bool} (x : PhiO p kvs0 ms j kvs) (hn : ms.Nodup) (hown : ms[j]? = some own) (hb : b = (onv kvs own && p own)) : PhiO p kvs0 ms (j + 1) (stored kvs own (.bool b)) := by
  have e := List.take_add_one (l := ms) (i := j)
  rw [hown] at e
  have hnm := nodup_take hn hown
  refine ⟨Nat.le_trans (stored_length_le _ _ _) (by have := x.hl; omega), x.hb.stored own b, fun k hk => ?_, fun k hk => ?_⟩
  · rw [onv_stored]
    split
    · subst_vars; rw [x.h2 _ hnm]
    · rw [e] at hk
      rcases List.mem_append.mp hk with hk | hk
      · exact x.h1 k hk
      · simp at hk; exact absurd hk.symm ‹_›
  · rw [e] at hk
    rw [onv_stored, if_neg (fun q => hk (List.mem_append_right _ (by simp [q])))]
    exact x.h2 k fun q => hk (List.mem_append_left _ q)
theorem PhiO.done {p : Int → Bool} {kvs0 kvs : List (Int × Value)} {ms : List Int} (x : PhiO p kvs0 ms ms.length kvs) : ∀ k ∈ ms, onv kvs k = (onv kvs0 k && p k) := fun k hk => x.h1 k (by rw [List.take_length]; exact hk)
theorem any_filter_beq (p : Int → Bool) (l : List Int) (k : Int) : ((l.filter p).any (· == k)) = (l.any (· == k) && p k) := by
  rw [Bool.eq_iff_iff]
  simp only [List.any_eq_true, List.mem_filter, beq_iff_eq, Bool.and_eq_true]
  constructor
  · rintro ⟨x, ⟨h1, h2⟩, rfl⟩; exact ⟨⟨x, h1, rfl⟩, h2⟩
  · rintro ⟨⟨x, h1, rfl⟩, h2⟩; exact ⟨x, ⟨h1, h2⟩, rfl⟩
theorem add9 {prog : Program} {w : World} {A : Around} {E : Value → Shared → Prop} {s : Shared} {h₀ : Heap} {L a b : Addr} {m : Str → Option Value} {news : List (Addr × Obj)} {vs ws : List Value} {n1 n2 : Nat} {Q : Value → Shared → Prop}
    (F : Fr h₀ L s.heap m) (N : News h₀ L s.heap news) (ha : (a, listOf vs.toArray n1) ∈ news) (hb : (b, listOf ws.toArray n2) ∈ news) (hz1 : vs.length ≤ 1000) (hz2 : ws.length ≤ 1000)
    (h : ∀ D h', Fr h₀ L h' m → News h₀ L h' ((D, listOf (vs ++ ws).toArray 0) :: news) → (∀ p ∈ news, p.1 < D) → Q (.ref D) { s with heap := h' }) :
    wpAny (model prog w) A (binaryOp .Add (.ref a) (.ref b)) Q E s :=
  PySem.W.kmk_add_lit F N (N.isList ha) (N.isList hb) (by simp) h (by rw [sizeLine_eq]; simp; omega)
/-- the body of a statement For -/
noncomputable def forOf : Option Stmt → List Stmt
  | some (.For _ _ b _ _) => b
  | _ => []
/-- the value of a statement Assign -/
noncomputable def valOf : Option Stmt → PySem.Expr
  | some (.Assign _ v _) => v
  | _ => default
theorem lt_led {g h : Heap} {L D : Addr} {o : Obj} {l : List (Addr × Obj)} (N : News g L h ((D, o) :: l)) (x : AllLt D l) : ∀ p ∈ l, p.1 < D := lt_of_allLt x
theorem frUn {h₀ h : Heap} {L : Addr} {f m9 : Str → Option Value} {c : Str → Bool} {a : Str} {v : Value} (F : Fr h₀ L h (fun y => if c y = true then m9 y else if y = a then some v else f y)) (e : f a = some v) : Fr h₀ L h (fun y => if c y = true then m9 y else f y) := by
  have : (fun y => if c y = true then m9 y else if y = a then some v else f y) = (fun y => if c y = true then m9 y else f y) := by
    funext y
    by_cases hy : y = a
    · subst hy; simp only [if_true, e]
    · simp only [hy, if_false]
  rw [← this]; exact F
theorem nodup_len {l : List Int} : ∀ {m : List Int}, l.Nodup → (∀ k ∈ l, k ∈ m) → l.length ≤ m.length := by
  induction l with
  | nil => intro m _ _; exact Nat.zero_le _
  | cons a l ih =>
    intro m hn hs
    have hn' := List.nodup_cons.mp hn
    have := ih (m := m.erase a) hn'.2 (fun k hk => (List.mem_erase_of_ne (fun e => hn'.1 (by have e2 : _ = a := e; rw [← e2]; exact hk))).mpr (hs k (.tail _ hk)))
    have h2 := List.length_erase_of_mem (hs a (.head _))
    have h3 := List.length_pos_of_mem (hs a (.head _))
    simp only [List.length_cons]
    omega
theorem deed_news {w : World} {g h : Heap} {L deck D OD I : Addr} {oI : Obj} {kept all : List (Addr × Obj)} {x : XD}
    (N : News g L h all) (hI : (I, oI) ∈ all) (h1 : (deck, listOf x.di.toArray x.dep) ∈ all) (h2 : (D, stD w x.n0 x.t0 x.t1 x.u x.mj x.ON) ∈ all) (h3 : (OD, x.ob) ∈ all) (h4 : ((231 : Addr), tabObj x.tb1) ∈ all) (h5 : ((243 : Addr), tabObj x.tb2) ∈ all)
    (hk : ∀ q ∈ kept, q ∈ all) (ht : ∀ q ∈ x.tail, q ∈ all) : News g L h ((I, oI) :: nwD w deck D OD kept x) := newsPerm N fun q hq => by
  rcases List.mem_cons.mp hq with rfl | hq
  · exact hI
  simp only [nwD, List.mem_cons, List.mem_append] at hq
  rcases hq with rfl | rfl | rfl | rfl | rfl | hq | hq
  · exact h1
  · exact h2
  · exact h3
  · exact h4
  · exact h5
  · exact hk q hq
  · exact ht q hq
theorem deed_ne {w : World} {deck D OD I : Addr} {kept : List (Addr × Obj)} {x x' : XD} (h : ∀ q ∈ nwD w deck D OD kept x, q.1 ≠ I) (ht : ∀ q ∈ x'.tail, q.1 ≠ I) : ∀ q ∈ nwD w deck D OD kept x', q.1 ≠ I := fun q hq => by
  simp only [nwD, List.mem_cons, List.mem_append] at hq h
  rcases hq with rfl | rfl | rfl | rfl | rfl | hq | hq
  · exact h (deck, listOf x.di.toArray x.dep) (.inl rfl)
  · exact h (D, stD w x.n0 x.t0 x.t1 x.u x.mj x.ON) (.inr (.inl rfl))
  · exact h (OD, x.ob) (.inr (.inr (.inl rfl)))
  · exact h (231, tabObj x.tb1) (.inr (.inr (.inr (.inl rfl))))
  · exact h (243, tabObj x.tb2) (.inr (.inr (.inr (.inr (.inl rfl)))))
  · exact h q (.inr (.inr (.inr (.inr (.inr (.inl hq))))))
  · exact ht q hq
theorem apart_of {h' g : Heap} {news rest tl : List (Addr × Obj)} {m1 m2 : Addr} {o1 o2 : Obj} (pick : ∀ q ∈ news, q.1 = m1 ∨ q.1 = m2 ∨ q ∈ rest) (gr : ∀ q ∈ rest, g.get? q.1 = some q.2) (hn : ∀ q ∈ tl, h'.get? q.1 = some q.2 ∧ g.get? q.1 = none)
    (h1 : h'.get? m1 = some o1) (h2 : h'.get? m2 = some o2) (d1 : ∀ q ∈ tl, q.2 ≠ o1) (d2 : ∀ q ∈ tl, q.2 ≠ o2) : Apart tl news := fun q hq r hr e => by
  rcases pick r hr with h | h | h
  · have := (hn q hq).1; rw [← e, h, h1] at this; cases this; exact d1 q hq rfl
  · have := (hn q hq).1; rw [← e, h, h2] at this; cases this; exact d2 q hq rfl
  · have := gr r h; rw [e, (hn q hq).2] at this; cases this
theorem rec9_ne {qual : Str} {oc : Obj} (x : rec9 qual oc) {a b : Int} {c : Addr} : oc ≠ tabObj #[rawInt a, rawInt b, .ref c] := fun e => by
  obtain ⟨vs, t, h1, h2⟩ := x
  rw [e] at h1
  cases h1
  simp [rawInt] at h2
theorem rec9_ne2 {qual : Str} {oc : Obj} (x : rec9 qual oc) {w : World} {n : Nat} {t0 t1 u : Tok} {mj : Int} {ON : Addr} : oc ≠ stD w n t0 t1 u mj ON := fun e => by
  obtain ⟨vs, t, h1, h2⟩ := x
  rw [e] at h1
  cases h1
section
variable {w : World} {p : Program} {loose : List Str} {mean : ExcName → Option Value} {mg mb : Str → Option Value} {A₀ A : Around} {base h₀ : Heap} {outer : List Env} {env : Env} {L : Addr} {m : Str → Option Value} {news rest : List (Addr × Obj)} {s : Shared} {Q E : Value → Shared → Prop}
theorem law_switched_use {T MA MI O : Addr} {k : Int} {tk : Tok} {f : Int → Option Value} {N : Int} {pa : Int → Int} {km sy : Int → Option Int}
    {S D ON PM : Addr} {mj0 : Int} {n0 : Nat} {t0 t1 u : Tok} {ovs : List Value} {os : List Int} {pf : Int → Option Value} {tb : Array Value}
    (B : Below A₀ base outer h₀) (F : Fr h₀ L s.heap m) (Nw : News h₀ L s.heap news) (X : (Mine.hd.heap_39 w.params).In h₀) (Tp : Top p loose mean mg mb h₀)
    (hA : A.frames = some (env :: outer)) (hf : env.frame = some L) (hke : env.scope.kind = .function) (hh : A.handled = none) (hd : A.depth < 410) (hu : A.units < 1200)
    (P : Picks [(D, stD w n0 t0 t1 u mj0 ON), (231, tabObj tb)] news rest) (hp : Par pa) (h0 : 0 ≤ k) (hk : k < N) (hN : N ≤ 6) (hcd : CodeHd h₀ 235 231) (hD2 : @Ne Nat D 231)
    (hoi : IntsAre ovs os) (hol : os.length ≤ 100) (loP : (PM == sysModules) = false) (hTb : TbAt (fun d o => (d, o) ∈ rest) 141 48 qualSw tb)
    (hfacts : ∀ g : Heap, h₀.StaysIn g → (∀ q ∈ rest, g.get? q.1 = some q.2) → TabG w g T MA MI O f N pa km sy ∧ g.get? S = some (instObj 175 D) ∧ g.IsList ON ovs.toArray ∧ g.MapOf (intKind PG w) PM pf)
    (h : ∀ n' t0 t1 u' ON' ovs' n2 ST new n3 tb' tl h' tk', IntsAre ovs' (os.filter fun x => (pf x).isSome) → (ON', listOf (List.toArray ovs') n2) ∈ tl → (ST, listOf (List.toArray new) n3) ∈ tl → Pairs (fun d o => (d, o) ∈ tl) new (stepsOf (up pa k).reverse k) → (TbAt (fun d o => (d, o) ∈ tl) 141 48 qualSw tb' ∨ tb' = tb) → Apart tl news →
      Fr h₀ L h' m → News h₀ L h' ((D, stD w n' t0 t1 u' k ON') :: (231, tabObj tb') :: (rest ++ tl)) → Q (.ref ST) { s with heap := h', toks := tk' }) :
    wpAny (model PG w) A (call (.ref 236) [.ref T, .ref S, .int k tk, .ref PM]) Q E s := by
  obtain ⟨p1, p2⟩ := P.spec
  have pick : ∀ q ∈ news, q.1 = D ∨ q.1 = 231 ∨ q ∈ rest := fun q hq => by
    rcases P.one q hq with h | h
    · rcases List.mem_cons.mp h with h | h
      · exact .inl (by rw [h])
      · exact .inr (.inl (by rw [List.mem_singleton.mp h]))
    · exact .inr (.inr h)
  obtain ⟨g, G, gm, gr, _, st, back⟩ := useS [(D, stD w n0 t0 t1 u mj0 ON), (231, tabObj tb)] rest B F Nw X Tp hA hf hke p1 p2
  obtain ⟨f1, f2, f3, f4⟩ := hfacts g st gr
  refine wpAny_call (law_switched_ok G hh hd hu f1 hp h0 hk hN f2 gm f3 hoi hol f4 loP (hcd.keeps st) hD2 (hTb.mono fun d o hm => gr (d, o) hm) fun n' t0 t1 u' ON' ovs' n2 ST new n3 c' oc h' tk' sk h1 h2 h3 h4 h5 h6 h7 h8 h9 h10 h11 h12 => ?_)
  obtain ⟨tups, hP, hT, hC⟩ := h8.led'
  have key : ∀ (ex : List (Addr × Obj)), (∀ q ∈ ex, h'.get? q.1 = some q.2 ∧ g.get? q.1 = none) → (∀ q ∈ ex, rec9 qualSw q.2) → (TbAt (fun d o => (d, o) ∈ (ST, listOf (List.toArray new) n3) :: (ON', listOf (List.toArray ovs') n2) :: (ex ++ tups)) 141 48 qualSw #[rawInt 141, rawInt 48, .ref c'] ∨ #[rawInt 141, rawInt 48, .ref c'] = tb) → Q (.ref ST) { s with heap := h', toks := tk' } := by
    intro ex hex1 hex2 hTb'
    have hall : ∀ q ∈ (ST, listOf (List.toArray new) n3) :: (ON', listOf (List.toArray ovs') n2) :: (ex ++ tups), h'.get? q.1 = some q.2 ∧ g.get? q.1 = none := fun q hq => by
      rcases List.mem_cons.mp hq with rfl | hq
      · exact ⟨h5, h6⟩
      rcases List.mem_cons.mp hq with rfl | hq
      · exact ⟨h2, h3⟩
      rcases List.mem_append.mp hq with hq | hq
      · exact hex1 q hq
      · exact hT q hq
    obtain ⟨F', N'⟩ := back h' ((D, stD w n' t0 t1 u' k ON') :: (231, tabObj #[rawInt 141, rawInt 48, .ref c']) :: (ST, listOf (List.toArray new) n3) :: (ON', listOf (List.toArray ovs') n2) :: (ex ++ tups)) sk (fun q hq => by
      rcases List.mem_cons.mp hq with rfl | hq
      · exact ⟨h1, (gm _ (.head _)).2⟩
      rcases List.mem_cons.mp hq with rfl | hq
      · exact ⟨h9, (gm _ (.tail _ (.head _))).2⟩
      · exact hall q hq)
    refine h n' t0 t1 u' ON' ovs' n2 ST new n3 _ ((ST, listOf (List.toArray new) n3) :: (ON', listOf (List.toArray ovs') n2) :: (ex ++ tups)) h' tk' h4 (.tail _ (.head _)) (.head _) (hP.mono fun d o hm => .tail _ (.tail _ (List.mem_append_right _ hm))) hTb'
      (apart_of pick gr hall h1 h9 (fun q hq => ?_) (fun q hq => ?_)) F' (fun q hq => N' q ?_)
    · rcases List.mem_cons.mp hq with rfl | hq
      · exact fun e => absurd (congrArg Obj.cls e) (by simp)
      rcases List.mem_cons.mp hq with rfl | hq
      · exact fun e => absurd (congrArg Obj.cls e) (by simp)
      rcases List.mem_append.mp hq with hq | hq
      · exact rec9_ne2 (hex2 q hq)
      · intro e; have := hC q hq; rw [e] at this; exact absurd this (by simp)
    · rcases List.mem_cons.mp hq with rfl | hq
      · exact fun e => absurd (congrArg Obj.cls e) (by simp)
      rcases List.mem_cons.mp hq with rfl | hq
      · exact fun e => absurd (congrArg Obj.cls e) (by simp)
      rcases List.mem_append.mp hq with hq | hq
      · exact rec9_ne (hex2 q hq)
      · intro e; have := hC q hq; rw [e] at this; exact absurd this (by simp)
    · rcases List.mem_cons.mp hq with rfl | hq
      · exact .head _
      rcases List.mem_cons.mp hq with rfl | hq
      · exact .tail _ (.head _)
      rcases List.mem_append.mp hq with hq | hq
      · exact List.mem_append_right _ hq
      · exact .tail _ (.tail _ (List.mem_append_left _ hq))
  rcases h12 with ⟨_, hc⟩ | htb
  · exact key [(c', oc)] (fun q hq => by rw [List.mem_singleton.mp hq]; exact ⟨h10, hc⟩) (fun q hq => by rw [List.mem_singleton.mp hq]; exact h11)
      (.inl (.inr ⟨c', oc, rfl, .tail _ (.tail _ (.head _)), h11⟩))
  · exact key [] (fun _ h => (nomatch h)) (fun _ h => (nomatch h)) (.inr htb.symm)
theorem law_turned_use {T MA MI O : Addr} {k : Int} {tk ta : Tok} {M : Addr} {f2 : Int → Option Value} {lt : Str} {kv : Value} {a : Arg9} {av : Value} {u2 : Bool}
    {S D ON : Addr} {mj0 : Int} {n0 : Nat} {t0 t1 u : Tok} {ovs : List Value} {os : List Int} {tb : Array Value}
    (B : Below A₀ base outer h₀) (F : Fr h₀ L s.heap m) (Nw : News h₀ L s.heap news) (X : (Mine.hd.heap_39 w.params).In h₀) (Tp : Top p loose mean mg mb h₀)
    (hA : A.frames = some (env :: outer)) (hf : env.frame = some L) (hke : env.scope.kind = .function) (hh : A.handled = none) (hd : A.depth < 410) (hu : A.units < 1200)
    (P : Picks [(D, stD w n0 t0 t1 u mj0 ON), (243, tabObj tb)] news rest) (hcd : CodeHd h₀ 247 243) (hD2 : @Ne Nat D 243) (hav : a.val ta = av)
    (hoi : IntsAre ovs os) (hol : os.length ≤ 100) (lo2 : (MI == sysModules) = false) (hTb : TbAt (fun d o => (d, o) ∈ rest) 159 67 qualTu tb) (hv2 : f2 k = some (.ref M))
    (hfacts : ∀ g : Heap, h₀.StaysIn g → (∀ q ∈ rest, g.get? q.1 = some q.2) → TabAt9 w g T MA MI O ∧ g.MapOf (intKind PG w) MI f2 ∧ MinorAt w g M k lt kv ∧ g.get? S = some (instObj 175 D) ∧ g.IsList ON ovs.toArray)
    (h : ∀ n' t0 t1 u' ON' ovs' n2 RT tb' tl h' tk', IntsAre ovs' ((os.filter fun x => decide (x ≠ k)) ++ if want (os.any (· == k)) u2 a = true then [k] else []) → (ON', listOf (List.toArray ovs') n2) ∈ tl → (RT, { cls := .type "tuple", data := .seq #[.bool true, .bool (want (os.any (· == k)) u2 a)] }) ∈ tl → (TbAt (fun d o => (d, o) ∈ tl) 159 67 qualTu tb' ∨ tb' = tb) → Apart tl news →
      Fr h₀ L h' m → News h₀ L h' ((D, stD w n' t0 t1 u' mj0 ON') :: (243, tabObj tb') :: (rest ++ tl)) → Q (.ref RT) { s with heap := h', toks := tk' }) :
    wpAny (model PG w) A (call (.ref 248) [.ref T, .ref S, .int k tk, av, .bool u2]) Q E s := by
  subst hav
  obtain ⟨p1, p2⟩ := P.spec
  have pick : ∀ q ∈ news, q.1 = D ∨ q.1 = 243 ∨ q ∈ rest := fun q hq => by
    rcases P.one q hq with h | h
    · rcases List.mem_cons.mp h with h | h
      · exact .inl (by rw [h])
      · exact .inr (.inl (by rw [List.mem_singleton.mp h]))
    · exact .inr (.inr h)
  obtain ⟨g, G, gm, gr, _, st, back⟩ := useS [(D, stD w n0 t0 t1 u mj0 ON), (243, tabObj tb)] rest B F Nw X Tp hA hf hke p1 p2
  obtain ⟨f1, f2', f3, f4, f5⟩ := hfacts g st gr
  refine wpAny_call (law_turned_ok G hh hd hu f1 f2' lo2 hv2 f3 f4 gm f5 hoi hol (hcd.keeps st) hD2 (hTb.mono fun d o hm => gr (d, o) hm) fun n' t0 t1 u' ON' ovs' n2 RT c' oc h' tk' sk h1 h2 h3 h4 h5 h6 h9 h10 h11 h12 => ?_)
  have key : ∀ (ex : List (Addr × Obj)), (∀ q ∈ ex, h'.get? q.1 = some q.2 ∧ g.get? q.1 = none) → (∀ q ∈ ex, rec9 qualTu q.2) → (TbAt (fun d o => (d, o) ∈ (RT, { cls := .type "tuple", data := .seq #[.bool true, .bool (want (os.any (· == k)) u2 a)] }) :: (ON', listOf (List.toArray ovs') n2) :: ex) 159 67 qualTu #[rawInt 159, rawInt 67, .ref c'] ∨ #[rawInt 159, rawInt 67, .ref c'] = tb) → Q (.ref RT) { s with heap := h', toks := tk' } := by
    intro ex hex1 hex2 hTb'
    have hall : ∀ q ∈ (RT, ({ cls := .type "tuple", data := .seq #[.bool true, .bool (want (os.any (· == k)) u2 a)] } : Obj)) :: (ON', listOf (List.toArray ovs') n2) :: ex, h'.get? q.1 = some q.2 ∧ g.get? q.1 = none := fun q hq => by
      rcases List.mem_cons.mp hq with rfl | hq
      · exact ⟨h5, h6⟩
      rcases List.mem_cons.mp hq with rfl | hq
      · exact ⟨h2, h3⟩
      · exact hex1 q hq
    obtain ⟨F', N'⟩ := back h' ((D, stD w n' t0 t1 u' mj0 ON') :: (243, tabObj #[rawInt 159, rawInt 67, .ref c']) :: (RT, { cls := .type "tuple", data := .seq #[.bool true, .bool (want (os.any (· == k)) u2 a)] }) :: (ON', listOf (List.toArray ovs') n2) :: ex) sk (fun q hq => by
      rcases List.mem_cons.mp hq with rfl | hq
      · exact ⟨h1, (gm _ (.head _)).2⟩
      rcases List.mem_cons.mp hq with rfl | hq
      · exact ⟨h9, (gm _ (.tail _ (.head _))).2⟩
      · exact hall q hq)
    refine h n' t0 t1 u' ON' ovs' n2 RT _ ((RT, { cls := .type "tuple", data := .seq #[.bool true, .bool (want (os.any (· == k)) u2 a)] }) :: (ON', listOf (List.toArray ovs') n2) :: ex) h' tk' h4 (.tail _ (.head _)) (.head _) hTb'
      (apart_of pick gr hall h1 h9 (fun q hq => ?_) (fun q hq => ?_)) F' (fun q hq => N' q ?_)
    · rcases List.mem_cons.mp hq with rfl | hq
      · exact fun e => absurd (congrArg Obj.cls e) (by simp)
      rcases List.mem_cons.mp hq with rfl | hq
      · exact fun e => absurd (congrArg Obj.cls e) (by simp)
      · exact rec9_ne2 (hex2 q hq)
    · rcases List.mem_cons.mp hq with rfl | hq
      · exact fun e => absurd (congrArg Obj.cls e) (by simp)
      rcases List.mem_cons.mp hq with rfl | hq
      · exact fun e => absurd (congrArg Obj.cls e) (by simp)
      · exact rec9_ne (hex2 q hq)
    · rcases List.mem_cons.mp hq with rfl | hq
      · exact .head _
      rcases List.mem_cons.mp hq with rfl | hq
      · exact .tail _ (.head _)
      rcases List.mem_append.mp hq with hq | hq
      · exact List.mem_append_right _ hq
      · exact .tail _ (.tail _ (List.mem_append_left _ hq))
  rcases h12 with ⟨_, hc⟩ | htb
  · exact key [(c', oc)] (fun q hq => by rw [List.mem_singleton.mp hq]; exact ⟨h10, hc⟩) (fun q hq => by rw [List.mem_singleton.mp hq]; exact h11)
      (.inl (.inr ⟨c', oc, rfl, .tail _ (.tail _ (.head _)), h11⟩))
  · exact key [] (fun _ h => (nomatch h)) (fun _ h => (nomatch h)) (.inr htb.symm)
theorem law_modes_use {T MA MI O : Addr} {f : Int → Option Value} {N : Int} {pa : Int → Int} {km sy : Int → Option Int} {pl kl tl : Addr} {pvs kvs tvs : List Value} {ps : List Int}
    (B : Below A₀ base outer h₀) (F : Fr h₀ L s.heap m) (Nw : News h₀ L s.heap news) (X : (Mine.hd.heap_39 w.params).In h₀) (Tp : Top p loose mean mg mb h₀)
    (hA : A.frames = some (env :: outer)) (hf : env.frame = some L) (hke : env.scope.kind = .function) (hh : A.handled = none) (hd : A.depth < 410) (hu : A.units < 1200)
    (H : TabG w s.heap T MA MI O f N pa km sy) (hp : Par pa) (hN : N ≤ 6)
    (hpl : s.heap.IsList pl pvs.toArray) (hpi : IntsAre pvs ps) (hps : ∀ k : Int, 0 ≤ k → k < (ps.length : Int) → ps[k.toNat]? = some (pa k)) (hlen : (ps.length : Int) = N)
    (hkl : s.heap.IsList kl kvs.toArray) (hkv : ∀ k : Int, 0 ≤ k → k < N → ∃ t, kvs[k.toNat]? = some (ov (km k) t))
    (htl : s.heap.IsList tl tvs.toArray) (htv : ∀ k : Int, 0 ≤ k → k < N → ∃ t, tvs[k.toNat]? = some (ov (sy k) t))
    (h : ∀ h' tk', Fr h₀ L h' m → News h₀ L h' news → Q (.bool true) { s with heap := h', toks := tk' }) :
    wpAny (model PG w) A (call (.ref 241) [.ref T, .ref pl, .ref kl, .ref tl]) Q E s := by
  obtain ⟨G, back⟩ := useP (A := A) B F Nw X Tp hA hf hke
  refine wpAny_call (law_modes_ok G hh hd hu H hp hN hpl hpi hps hlen hkl hkv htl htv fun h' tk' st => ?_)
  obtain ⟨F', N'⟩ := back h' st
  exact h h' tk' F' N'
theorem lighters_use {T MA MI O : Addr} {f2 : Int → Option Value} {ms : List Int} {mvs : List Value} {lt : Int → Str} {mk : Int → Option Int}
    {S D ON : Addr} {mj : Int} {n : Nat} {t0 t1 u : Tok} {ovs : List Value} {os : List Int}
    (B : Below A₀ base outer h₀) (F : Fr h₀ L s.heap m) (Nw : News h₀ L s.heap news) (X : (Mine.hd.heap_39 w.params).In h₀) (Tp : Top p loose mean mg mb h₀)
    (hA : A.frames = some (env :: outer)) (hf : env.frame = some L) (hke : env.scope.kind = .function) (hh : A.handled = none) (hd : A.depth < 430) (hu : A.units < 1300)
    (H : MinG w s.heap T MA MI O f2 ms mvs lt mk) (hlt : ∀ k, (lt k).length ≤ 100) (hS : s.heap.get? S = some (instObj 175 D)) (hD : s.heap.get? D = some (stD w n t0 t1 u mj ON)) (hO : s.heap.IsList ON ovs.toArray) (hoi : IntsAre ovs os)
    (h : ∀ t h' tk', Fr h₀ L h' m → News h₀ L h' news → Q (.str (litText lt (fun x => os.any (· == x)) ms.reverse) t) { s with heap := h', toks := tk' }) :
    wpAny (model PG w) A (call (.ref 208) [.ref T, .ref S]) Q E s := by
  obtain ⟨G, back⟩ := useP (A := A) B F Nw X Tp hA hf hke
  refine wpAny_call (lighters_ok G hh hd hu H hlt hS hD hO hoi fun t h' tk' st => ?_)
  obtain ⟨F', N'⟩ := back h' st
  exact h t h' tk' F' N'
theorem minor_keymaps_use {T MA MI O : Addr} {f2 : Int → Option Value} {ms : List Int} {mvs : List Value} {lt : Int → Str} {mk : Int → Option Int}
    {S D ON : Addr} {mj : Int} {n : Nat} {t0 t1 u : Tok} {ovs : List Value} {os : List Int}
    (B : Below A₀ base outer h₀) (F : Fr h₀ L s.heap m) (Nw : News h₀ L s.heap news) (X : (Mine.hd.heap_39 w.params).In h₀) (Tp : Top p loose mean mg mb h₀)
    (hA : A.frames = some (env :: outer)) (hf : env.frame = some L) (hke : env.scope.kind = .function) (hh : A.handled = none) (hd : A.depth < 430) (hu : A.units < 1300)
    (H : MinG w s.heap T MA MI O f2 ms mvs lt mk) (hS : s.heap.get? S = some (instObj 175 D)) (hD : s.heap.get? D = some (stD w n t0 t1 u mj ON)) (hO : s.heap.IsList ON ovs.toArray) (hoi : IntsAre ovs os)
    (h : ∀ l items n h' tk', IntsAre items ((ms.reverse.filter fun x => os.any (· == x)).filterMap mk) → (∀ q ∈ news, q.1 ≠ l) → Fr h₀ L h' m → News h₀ L h' ((l, listOf (List.toArray items) n) :: news) → Q (.ref l) { s with heap := h', toks := tk' }) :
    wpAny (model PG w) A (call (.ref 215) [.ref T, .ref S]) Q E s := by
  obtain ⟨G, back⟩ := useP (A := A) B F Nw X Tp hA hf hke
  refine wpAny_call (minor_keymaps_ok G hh hd hu H hS hD hO hoi fun l items n h' tk' st hn hl hi => ?_)
  obtain ⟨F', N'⟩ := back h' st
  exact h l items n h' tk' hi (ne_of_new Nw hn) F' (news_add N' F hn hl)
end
theorem turned_nodup {l : List Int} {k : Int} {c : Bool} (h : l.Nodup) : ((l.filter fun x => decide (x ≠ k)) ++ if c = true then [k] else []).Nodup := by
  cases c with
  | false => simp only [Bool.false_eq_true, if_false, List.append_nil]; exact h.filter _
  | true =>
    simp only [if_true]
    rw [List.nodup_append]
    refine ⟨h.filter _, by simp, fun a ha b hb => ?_⟩
    have h1 := (List.mem_filter.mp ha).2
    have h2 := List.mem_singleton.mp hb
    subst h2
    exact of_decide_eq_true h1
theorem turned_sub {l ms : List Int} {k : Int} {c : Bool} (h : ∀ x ∈ l, x ∈ ms) (hk : k ∈ ms) : ∀ x ∈ (l.filter fun x => decide (x ≠ k)) ++ (if c = true then [k] else []), x ∈ ms := fun x hx => by
  rcases List.mem_append.mp hx with hx | hx
  · exact h x (List.mem_filter.mp hx).1
  · cases c with
    | false => simp at hx
    | true => simp at hx; rw [hx]; exact hk
theorem turned_any {l : List Int} {k k' : Int} {c : Bool} : (((l.filter fun x => decide (x ≠ k)) ++ if c = true then [k] else []).any (· == k')) = if k = k' then c else l.any (· == k') := by
  rw [List.any_append, any_filter_beq (fun x => decide (x ≠ k))]
  by_cases h : k = k'
  · subst h; cases c <;> simp
  · have h2 : ¬ k' = k := fun e => h e.symm
    cases c <;> simp [h, h2]
theorem carried_snoc {ys : List Value} {ds : List PyData} (h : CarriedAll ys ds) {v : Value} {d : PyData} (hv : CarriedAll [v] [d]) : CarriedAll (ys ++ [v]) (ds ++ [d]) := by
  induction h with
  | nil => exact hv
  | cons a _ ih => exact .cons a ih
theorem str_assoc (a b c : Str) : a ++ b ++ c = a ++ (b ++ c) := by
  have e : (a ++ b ++ c).cps = (a ++ (b ++ c)).cps := by
    simp only [PySem.Str.cps_append, Array.append_assoc]
  exact congrArg PySem.Str.mk e
theorem str_nil (a : Str) : a ++ Str.ofString "" = a := by
  have e : (a ++ Str.ofString "").cps = a.cps := by
    rw [PySem.Str.cps_append]
    have : (Str.ofString "").cps = #[] := by decide
    rw [this, Array.append_empty]
  exact congrArg PySem.Str.mk e
theorem nil_str (a : Str) : Str.ofString "" ++ a = a := by
  have e : (Str.ofString "" ++ a).cps = a.cps := by
    rw [PySem.Str.cps_append]
    have : (Str.ofString "").cps = #[] := by decide
    rw [this, Array.empty_append]
  exact congrArg PySem.Str.mk e
theorem join_fold (lt : Int → Str) (l : List Int) : ∀ acc : Str, l.foldl (fun a x => a ++ lt x) acc = acc ++ Str.join (Str.ofString "") (l.map lt) := by
  induction l with
  | nil => intro acc; show acc = acc ++ Str.empty; exact (str_nil acc).symm
  | cons x r ih =>
    intro acc
    rw [List.foldl_cons, ih, str_assoc]
    congr 1
    cases r with
    | nil => show lt x ++ Str.empty = lt x; exact str_nil _
    | cons y r => show _ = lt x ++ Str.ofString "" ++ _; rw [str_nil]
theorem litText_join (lt : Int → Str) (on : Int → Bool) (ms : List Int) : litText lt on ms = PySem.Txt.join (Str.ofString "") ((ms.filter on).map lt) := by
  unfold litText PySem.Txt.join
  rw [join_fold, nil_str, StrLaws.glued_eq_join]
theorem sorted_same {a b n1 n2 : List Int} (h1 : n1.Perm a) (h2 : n2.Perm b) (o1 : n1.Pairwise (· ≤ ·)) (o2 : n2.Pairwise (· ≤ ·)) (ha : a.Nodup) (hb : b.Nodup) (h : ∀ x, x ∈ a ↔ x ∈ b) : n1 = n2 :=
  ksm_same (h1.trans (((List.perm_ext_iff_of_nodup ha hb).mpr h).trans h2.symm)) o1 o2
theorem lit_mem {ms os : List Int} (hs : ∀ k ∈ os, k ∈ ms) (x : Int) : x ∈ os ↔ x ∈ ms.reverse.filter (fun x => os.any (· == x)) := by
  rw [List.mem_filter, List.mem_reverse, List.any_eq_true]
  constructor
  · intro h; exact ⟨hs x h, x, h, beq_self_eq_true x⟩
  · rintro ⟨_, y, hy, e⟩; rw [← eq_of_beq e]; exact hy
theorem lit_nodup {ms os : List Int} (h : ms.Nodup) : (ms.reverse.filter (fun x => os.any (· == x))).Nodup := (List.pairwise_reverse.mpr (h.imp fun h => Ne.symm h)).filter _
theorem lit_eq {ms os : List Int} {obv : List (Int × Value)} (h : ∀ k ∈ ms, onv obv k = os.any (· == k)) : ms.reverse.filter (onv obv) = ms.reverse.filter (fun x => os.any (· == x)) :=
  List.filter_congr fun x hx => h x (List.mem_reverse.mp hx)
set_option maxHeartbeats 4000000 in
theorem state_new {w : World} {p : Program} {loose : List Str} {mean : ExcName → Option Value} {mg mb : Str → Option Value} {A₀ : Around} {base h₀ : Heap} {outer : List Env} {dp un : Nat} {gd : Option (List Code)} {L a : Addr} {cn : Str} {sc : Scope} {ccd : Value} {cl : List (Str × Addr)}
    {m : Str → Option Value} {news : List (Addr × Obj)} {s : Shared} {Q E : Value → Shared → Prop} {i : Int} {u0 : Tok}
    (hsc : sc.kind = .function)
    (B : Below A₀ base outer h₀) (F : Fr h₀ L s.heap m) (N : News h₀ L s.heap news) (X : (Mine.hd.heap_39 w.params).In h₀) (Tp : Top p loose mean mg mb h₀) (hd : dp < 440) (hu : un < 1400)
    (h : ∀ S D ON n t0 t1 h' tk', Fr h₀ L h' m → News h₀ L h' ((ON, listOf #[] 0) :: (S, instObj 175 D) :: (D, stD w n t0 t1 u0 i ON) :: news) →
      (∀ q ∈ news, q.1 < D) → @LT.lt Nat _ D S → @LT.lt Nat _ S ON → Q (.ref S) { s with heap := h', toks := tk' }) :
    wpAny (model PG w) ⟨none, dp, some (envX cn sc L a ccd cl :: outer), gd, un⟩ (call (.ref 175) [.int i u0]) Q E s := by
  obtain ⟨kd, ns, ig, ic, mo⟩ := sc
  simp only at hsc
  subst hsc
  k_steps
  rename Fr h₀ L _ m => kF
  rename News h₀ L _ _ => kN
  exact h _ _ _ _ _ _ _ _ kF kN (by first | assumption | exact lt_of_allLt (by assumption)) (by first | assumption | omega) (by first | assumption | omega)

theorem hk_lpre_0 : True := by
  k_with "Hcall builtin:list.append" => (k_here; (with_reducible show wpAny _ _ (call (Value.builtin _) [Value.ref _, _]) _ _ _); k_dflt (refine' append9 ?Fq59 ?Nq59 ?Uq59 ?zq59 ?_; (case Fq59 => k_asm); (case Nq59 => k_asm); (case Uq59 => k_upd); (case zq59 => omega); k_whole); (intro h' F' N'))
  k_with "HsubscriptTail" => (k_here; (with_reducible show wpAny _ _ (subscriptTail _ _ (Value.ref _) (Value.int _ _)) _ _ _); k_dflt (refine' item_l ?Nq60 ?mq60 ?aq60 ?bq60 ?xq60 ?_; (case Nq60 => k_asm); (case mq60 => k_mem); (case aq60 => omega); (case bq60 => omega); (case xq60 => exact last_at (by omega)); k_whole))
  k_with "HbinaryOp Add ref ref" => (k_here; (with_reducible show wpAny _ _ (binaryOp _ (Value.ref _) (Value.ref _)) _ _ _); k_dflt (refine' add9 ?Fq61 ?Nq61 ?aq61 ?bq61 ?yq61 ?zq61 ?_; (case Fq61 => k_asm); (case Nq61 => k_asm); (case aq61 => k_mem); (case bq61 => k_mem); (case yq61 => ((try simp only [List.length_append, List.length_cons, List.length_nil]); omega)); (case zq61 => ((try simp only [List.length_append, List.length_cons, List.length_nil]); omega)); k_whole); intro D' h' F' N' l1; (try dsimp only [List.cons_append, List.nil_append] at N'); (try k_lt l1); (try k_sweep))
  k_with "Heval BinOp" => (k_here; k_dflt (k_extra "M bin"))
  trivial
noncomputable def lawDef : Arguments × List Stmt × Scope := ((Mine.hd.view_39).theDef (Str.ofString "law")).getD ⟨(default : Arguments), [], ⟨.function, [], false, false, []⟩⟩
noncomputable def lawBody : List Stmt := lawDef.2.1
noncomputable def lawScope : Scope := lawDef.2.2
/-- the body of law's k-th statement, a for -/
noncomputable def lawFor (k : Nat) : List Stmt := match lawBody[k]? with
  | some (.For _ _ b _ _) => b
  | _ => []
noncomputable abbrev lawE (L fa : Addr) (cd : Value) : Env := envOfC (Str.ofString "law") lawScope L fa cd
def Lt9 (a b : Nat) : Prop := a < b
theorem kept_ne {l : List (Addr × Obj)} {a : Addr} (h : ∀ q ∈ l, q.1 ≠ a) {q : Addr × Obj} (hq : q ∈ l) : q.1 ≠ a := h q hq

set_option maxHeartbeats 8000000 in
theorem turnB {w : World} {p : Program} {loose : List Str} {mean : ExcName → Option Value} {mg mb : Str → Option Value} {g : Heap} {L fa : Addr} {cd : Value} {s : Shared} {Q : Flow → Shared → Prop} {pos : Pos}
    {pl kl tl deck MA MI O T dT ml tt : Addr} {nT : Nat} {q0 q1 q2 : Tok} {oM0 oO0 : Obj} {mX mA m₁ : Str → Option Value} {kept news : List (Addr × Obj)} {i tk : Nat} {tv : Tok} {h : Heap} {I : Addr} {oI : Obj} {x : XB} {ms : List Int} {own : Int}
    (B : Below callerA g [] g) (X : (Mine.hd.heap_39 w.params).In g) (Tp : Top p loose mean mg mb g)
    (hch : Lt9 MI O) (hkT : (T, instObj 147 dT) ∈ kept) (hkD : (dT, dictOf [ent w "majors" q0 (.ref MA), ent w "minors" q1 (.ref MI), ent w "order" q2 (.ref O)] nT) ∈ kept)
    (hk1 : ∀ q ∈ kept, q.1 ≠ MI) (hk2 : ∀ q ∈ kept, q.1 ≠ O) (lo : (MI == sysModules) = false)
    (hn0 : ∀ q ∈ news, q.1 = MI ∨ q.1 = O ∨ q ∈ kept) (hn1 : (MI, oM0) ∈ news) (hn2 : (O, oO0) ∈ news)
    (hown : ms[i]? = some own) (hown2 : own ∉ ms.take i) (hw0 : 0 ≤ own) (hw1 : own < 100) (hn6 : i < 6) (hΦ : PhiB w news ms i x)
    (F1 : Fr g L h (fun y => if [Str.ofString "symbol"].contains y = true then m₁ y else if y = Str.ofString "minors" then some (.ref ml) else if [Str.ofString "symbol"].contains y = true then mA y else if y = Str.ofString "keymaps" then some (.ref kl) else if y = Str.ofString "tables" then some (.ref tl) else if y = Str.ofString "titles" then some (.ref tt) else if y = Str.ofString "deck" then some (.ref deck) else if y = Str.ofString "table" then some (.ref T) else if y = Str.ofString "parents" then some (.ref pl) else mX y))
    (N1 : News g L h ((I, oI) :: nwB O MI kept x)) (hneI : ∀ q ∈ nwB O MI kept x, q.1 ≠ I) :
    wpAny (model PG w) (callerA.deeper (lawE L fa cd)) (assign (.Name (Str.ofString "symbol") pos) (lawE L fa cd) (.int own tv)) (fun _ s₂ => wpAny (model PG w) (callerA.deeper (lawE L fa cd)) (execs (lawFor 4) (lawE L fa cd)) (TurnEnd (LoopK g L I (JX [Str.ofString "symbol"] (nwB O MI kept) (PhiB w news ms)
      (fun y => if y = Str.ofString "minors" then some (.ref ml) else if [Str.ofString "symbol"].contains y = true then mA y else if y = Str.ofString "keymaps" then some (.ref kl) else if y = Str.ofString "tables" then some (.ref tl) else if y = Str.ofString "titles" then some (.ref tt) else if y = Str.ofString "deck" then some (.ref deck) else if y = Str.ofString "table" then some (.ref T) else if y = Str.ofString "parents" then some (.ref pl) else mX y))) (fun _ h => h.get? I = some oI) (i + 1) s Q) (fun _ _ => False) s₂) (fun _ _ => False) { s with heap := h, toks := tk } := by
  simp only [Lt9] at hch
  (((simp only [lawE] at *); (generalize hsc9 : lawScope = sc9 at *); (conv at hsc9 => lhs; whnf; dsimp only); subst hsc9))
  generalize hbd : lawFor 4 = bd
  conv at hbd => lhs; whnf
  subst hbd
  have hneI0 := hneI
  obtain ⟨xov, xon, xoM, xdv, xtail⟩ := x
  obtain ⟨hxov, hxoM, hxdl, hxkey, hxmode, hxoff⟩ := hΦ
  simp only [nwB] at N1 hneI
  dsimp only at hxov hxoM hxdl hxkey hxmode hxoff
  have hI1 : ∀ q ∈ kept, q.1 ≠ I := fun q hq => hneI q (by simp [hq])
  have hI2 : ∀ q ∈ xtail, q.1 ≠ I := fun q hq => hneI q (by simp [hq])
  have hI3 : @Ne Nat O I ∧ @Ne Nat MI I := ⟨hneI (O, _) (.head _), hneI (MI, _) (.tail _ (.head _))⟩
  have hxl := hxov.length
  rw [List.length_take] at hxl
  have hnew : valueAt xdv own = none := by
    cases hv : valueAt xdv own with
    | none => rfl
    | some v => exact absurd (hxkey _ _ hv) hown2
  clear hneI
  k_with "M call" =>
    (fail_if_success have := @_root_.Mine.turnB)
    (with_reducible show wpAny _ _ (call (Value.ref 104) _) _ _ _)
    rename Fr _ _ _ _ => F0
    rename News _ _ _ _ => N0
    refine' define_minor_use (w := w) (MA := MA) (MI := MI) (O := O) B F0 N0 X Tp rfl rfl rfl rfl (by (((try simp only [depth_mark, depth_under_make, depth_under_kw, depth_in1, depth_deeper, depth_caller, units_in1, units_deeper, units_caller, Around.mark_units]); (try dsimp only); omega))) (by (((try simp only [depth_mark, depth_under_make, depth_under_kw, depth_in1, depth_deeper, depth_caller, units_in1, units_deeper, units_caller, Around.mark_units]); (try dsimp only); omega))) ?P ?hf ?hMO ?hMI ?hz ?hzo lo hnew ?_
    case P => k_extra "PICKS"
    case hf => exact (fun g' hg hr => ⟨⟨_, _, _, _, _, hr (_, _) (by k_mem), hr (_, _) (by k_mem)⟩, _, _, _, _, _, _, _, _, _, _, _, hr (_, _) (by k_mem), hr (_, _) (by k_mem)⟩)
    case hMO => k_ne
    case hMI => assumption
    case hz => omega
    case hzo => omega
    intro oM' uo no h' tk' F' N' hMI'
  k_with "M call" =>
    (fail_if_success have := @_root_.Mine.turnB)
    (with_reducible show wpAny _ _ (call (Value.ref 72) _) _ _ _)
    rename Fr _ _ _ _ => F0
    rename News _ _ _ _ => N0
    refine' minor_new rfl B F0 N0 X Tp (by (((try simp only [depth_mark, depth_under_make, depth_under_kw, depth_in1, depth_deeper, depth_caller, units_in1, units_deeper, units_caller, Around.mark_units]); (try dsimp only); omega))) (by (((try simp only [depth_mark, depth_under_make, depth_under_kw, depth_in1, depth_deeper, depth_caller, units_in1, units_deeper, units_caller, Around.mark_units]); (try dsimp only); omega))) ?_
    intro M D nM t0 t1 t2 t3 t4 h' tk' F' N' l1 l2
    have l0 := l1
    try k_lt l1
    clear F0 N0
  k_steps
  · rename Obj.IsDictOf _ _ (stored _ _ _) => hMA9
    rename Fr _ _ _ _ => F9
    rename News _ _ _ _ => N9
    rename Int.fmod own 2 = 0 => hodd
    have hMn : ∀ q ∈ news, q.1 ≠ M := fun q hq e => by
      rcases hn0 q hq with h | h | h <;> first | (rw [h] at e; exact absurd e (by k_ne)) | exact Nat.ne_of_lt (Nat.lt_trans (l0 q (by k_mem)) l2) e
    have hDn : ∀ q ∈ news, q.1 ≠ D := fun q hq e => by
      rcases hn0 q hq with h | h | h <;> first | (rw [h] at e; exact absurd e (by k_ne)) | exact Nat.ne_of_lt (l0 q (by k_mem)) e
    exact turnB_end (x := ⟨xov, xon, xoM, xdv, xtail⟩) F9 N9 (by ((intro z h3; (try dsimp only); (simp only [List.contains_cons, List.contains_nil, Bool.or_false, Bool.or_eq_false_iff, beq_eq_false_iff_ne, ne_eq] at h3); first | (simp [h3]; done) | (simp only [h3, if_false, ite_false, List.contains_cons, List.contains_nil, Bool.or_false]; simp [h3]; done)))) (by k_mem) (by k_mem) (by k_mem) (fun q hq => by k_mem) (fun q hq => by k_mem) (by k_mem) (by k_mem) rfl hneI0 (by k_ne) (by k_ne)
      (PhiB.next ⟨hxov, hxoM, hxdl, hxkey, hxmode, hxoff⟩ hown hMA9 (by simp only [mk9, hodd, if_true]; rfl) hMn hDn)
  · rename Obj.IsDictOf _ _ (stored _ _ _) => hMA9
    rename Fr _ _ _ _ => F9
    rename News _ _ _ _ => N9
    rename Int.fmod own 2 ≠ 0 => hodd
    have hMn : ∀ q ∈ news, q.1 ≠ M := fun q hq e => by
      rcases hn0 q hq with h | h | h <;> first | (rw [h] at e; exact absurd e (by k_ne)) | exact Nat.ne_of_lt (Nat.lt_trans (l0 q (by k_mem)) l2) e
    have hDn : ∀ q ∈ news, q.1 ≠ D := fun q hq e => by
      rcases hn0 q hq with h | h | h <;> first | (rw [h] at e; exact absurd e (by k_ne)) | exact Nat.ne_of_lt (l0 q (by k_mem)) e
    exact turnB_end (x := ⟨xov, xon, xoM, xdv, xtail⟩) F9 N9 (by ((intro z h3; (try dsimp only); (simp only [List.contains_cons, List.contains_nil, Bool.or_false, Bool.or_eq_false_iff, beq_eq_false_iff_ne, ne_eq] at h3); first | (simp [h3]; done) | (simp only [h3, if_false, ite_false, List.contains_cons, List.contains_nil, Bool.or_false]; simp [h3]; done)))) (by k_mem) (by k_mem) (by k_mem) (fun q hq => by k_mem) (fun q hq => by k_mem) (by k_mem) (by k_mem) rfl hneI0 (by k_ne) (by k_ne)
      (PhiB.next (t := 0) ⟨hxov, hxoM, hxdl, hxkey, hxmode, hxoff⟩ hown hMA9 (by simp only [mk9, hodd, if_false]; rfl) hMn hDn)
set_option maxHeartbeats 8000000 in
theorem turnA {w : World} {p : Program} {loose : List Str} {mean : ExcName → Option Value} {mg mb : Str → Option Value} {g : Heap} {L fa : Addr} {cd : Value} {s : Shared} {Q : Flow → Shared → Prop} {pos : Pos}
    {deck pl kl tl MA MI O T dT : Addr} {nT : Nat} {q0 q1 q2 : Tok} {oM0 oD0 : Obj} {mX m₁ : Str → Option Value} {kept news : List (Addr × Obj)} {i n tk : Nat} {tv : Tok} {h : Heap} {I tt : Addr} {oI : Obj} {x : XA}
    (B : Below callerA g [] g) (X : (Mine.hd.heap_39 w.params).In g) (Tp : Top p loose mean mg mb g)
    (hch : Lt9 deck MA ∧ Lt9 MA pl ∧ Lt9 pl kl ∧ Lt9 kl tl) (hkT : (T, instObj 147 dT) ∈ kept) (hkD : (dT, dictOf [ent w "majors" q0 (.ref MA), ent w "minors" q1 (.ref MI), ent w "order" q2 (.ref O)] nT) ∈ kept)
    (hk1 : ∀ q ∈ kept, q.1 ≠ deck) (hk2 : ∀ q ∈ kept, q.1 ≠ MA) (hk3 : ∀ q ∈ kept, q.1 ≠ pl) (hk4 : ∀ q ∈ kept, q.1 ≠ kl) (hk5 : ∀ q ∈ kept, q.1 ≠ tl)
    (hn0 : ∀ q ∈ news, q.1 = deck ∨ q.1 = MA ∨ q.1 = pl ∨ q.1 = kl ∨ q.1 = tl ∨ q ∈ kept)
    (hn1 : (deck, oD0) ∈ news) (hn2 : (MA, oM0) ∈ news) (hn3 : (pl, listOf [].toArray 0) ∈ news) (hn4 : (kl, listOf [].toArray 0) ∈ news) (hn5 : (tl, listOf [].toArray 0) ∈ news)
    (hi : i < n) (hn6 : n ≤ 6) (hΦ : PhiA w news i x)
    (F1 : Fr g L h (fun y => if [Str.ofString "symbol"].contains y = true then m₁ y else if y = Str.ofString "keymaps" then some (.ref kl) else if y = Str.ofString "tables" then some (.ref tl) else if y = Str.ofString "titles" then some (.ref tt) else if y = Str.ofString "deck" then some (.ref deck) else if y = Str.ofString "table" then some (.ref T) else if y = Str.ofString "parents" then some (.ref pl) else mX y))
    (N1 : News g L h ((I, oI) :: nwA deck pl kl tl MA kept x)) (hneI : ∀ q ∈ nwA deck pl kl tl MA kept x, q.1 ≠ I) :
    wpAny (model PG w) (callerA.deeper (lawE L fa cd)) (assign (.Name (Str.ofString "symbol") pos) (lawE L fa cd) (.int (i : Int) tv)) (fun _ s₂ => wpAny (model PG w) (callerA.deeper (lawE L fa cd)) (execs (lawFor 2) (lawE L fa cd)) (TurnEnd (LoopK g L I (JX [Str.ofString "symbol"] (nwA deck pl kl tl MA kept) (PhiA w news)
      (fun y => if y = Str.ofString "keymaps" then some (.ref kl) else if y = Str.ofString "tables" then some (.ref tl) else if y = Str.ofString "titles" then some (.ref tt) else if y = Str.ofString "deck" then some (.ref deck) else if y = Str.ofString "table" then some (.ref T) else if y = Str.ofString "parents" then some (.ref pl) else mX y))) (fun _ h => h.get? I = some oI) (i + 1) s Q) (fun _ _ => False) s₂) (fun _ _ => False) { s with heap := h, toks := tk } := by
  simp only [Lt9] at hch
  (((simp only [lawE] at *); (generalize hsc9 : lawScope = sc9 at *); (conv at hsc9 => lhs; whnf; dsimp only); subst hsc9))
  generalize hbd : lawFor 2 = bd
  conv at hbd => lhs; whnf
  subst hbd
  have hneI0 := hneI
  have hi6 : i ≤ 5 := by omega
  have hiz : (i : Int) < 1000 := by omega
  have hiz1 : (i : Int) + 1 < 1000 := by omega
  obtain ⟨xdi, xdep, xds, xpv, xpn, xps, xkv, xkn, xks, xtv, xtn, xts, xoM, xdv, xtail⟩ := x
  obtain ⟨hxdi, hxdn, hxpv, hxpl, hxpb, hxks, hxkl, hxts, hxtl, hxoM, hxdv, hxkey, hxmode, hxoff⟩ := hΦ
  simp only [nwA] at N1 hneI
  dsimp only at hxdi hxdn hxpv hxpl hxpb hxks hxkl hxts hxtl hxoM hxdv hxkey hxmode hxoff
  have hI1 : ∀ q ∈ kept, q.1 ≠ I := fun q hq => hneI q (by simp [hq])
  have hI2 : ∀ q ∈ xtail, q.1 ≠ I := fun q hq => hneI q (by simp [hq])
  have hI3 : @Ne Nat deck I ∧ @Ne Nat pl I ∧ @Ne Nat kl I ∧ @Ne Nat tl I ∧ @Ne Nat MA I := ⟨hneI (deck, _) (.head _), hneI (pl, _) (.tail _ (.head _)), hneI (kl, _) (.tail _ (.tail _ (.head _))), hneI (tl, _) (.tail _ (.tail _ (.tail _ (.head _)))), hneI (MA, _) (.tail _ (.tail _ (.tail _ (.tail _ (.head _)))))⟩
  clear hneI
  k_with "M call" => (fail_if_success have := @_root_.Mine.turnA); (((with_reducible show wpAny _ _ (call (Value.ref 222) _) _ _ _); (rename Fr _ _ _ _ => F0'); (rename News _ _ _ _ => N0'); refine' draw_use ?B F0' N0' ?X ?T rfl rfl rfl rfl ?hd ?hu ?P ?hi ?hn ?hk ?hk2 ?_; (case B => assumption); (case X => assumption); (case T => assumption); (case hd => (((try simp only [depth_mark, depth_under_make, depth_under_kw, depth_in1, depth_deeper, depth_caller, units_in1, units_deeper, units_caller, Around.mark_units]); (try dsimp only); omega))); (case hu => (((try simp only [depth_mark, depth_under_make, depth_under_kw, depth_in1, depth_deeper, depth_caller, units_in1, units_deeper, units_caller, Around.mark_units]); (try dsimp only); omega))); (case P => k_extra "PICK"); (case hi => assumption); (case hn => assumption); (case hk => omega); (case hk2 => omega); intro dr dt ditems dep dds h' tk' hdi hdn hdr0 hdr1 F' N'; clear F0' N0'; (have hdr : Bnd9 dr _ := ⟨hdr0, hdr1⟩); clear hdr0 hdr1))
  k_with "M call" =>
    (fail_if_success have := @_root_.Mine.turnA)
    (with_reducible show wpAny _ _ (call (Value.ref 97) _) _ _ _)
    rename Fr _ _ _ _ => F0
    rename News _ _ _ _ => N0
    refine' define_use (w := w) (MA := MA) (MI := MI) (O := O) B F0 N0 X Tp rfl rfl rfl rfl (by (((try simp only [depth_mark, depth_under_make, depth_under_kw, depth_in1, depth_deeper, depth_caller, units_in1, units_deeper, units_caller, Around.mark_units]); (try dsimp only); omega))) (by (((try simp only [depth_mark, depth_under_make, depth_under_kw, depth_in1, depth_deeper, depth_caller, units_in1, units_deeper, units_caller, Around.mark_units]); (try dsimp only); omega))) ?P ?hf ?hMA ?hz ?_
    case P => k_extra "PICK"
    case hf => exact (fun g' hg hr => ⟨⟨_, _, _, _, _, hr (_, _) (by k_mem), hr (_, _) (by k_mem)⟩, _, _, _, _, _, _, _, _, _, _, _, _, _, _, hr (_, _) (by k_mem), hr (_, _) (by k_mem)⟩)
    case hMA => assumption
    case hz => omega
    intro oM' h' tk' F' N' hMA'
  k_with "M call" =>
    (fail_if_success have := @_root_.Mine.turnA)
    (with_reducible show wpAny _ _ (call (Value.ref 51) _) _ _ _)
    rename Fr _ _ _ _ => F0
    rename News _ _ _ _ => N0
    refine' mode_new rfl B F0 N0 X Tp (by (((try simp only [depth_mark, depth_under_make, depth_under_kw, depth_in1, depth_deeper, depth_caller, units_in1, units_deeper, units_caller, Around.mark_units]); (try dsimp only); omega))) (by (((try simp only [depth_mark, depth_under_make, depth_under_kw, depth_in1, depth_deeper, depth_caller, units_in1, units_deeper, units_caller, Around.mark_units]); (try dsimp only); omega))) ?_
    intro M D nM t0 t1 t2 t3 t4 t5 t6 h' tk' F' N' l1 l2
    have l0 := l1
    try k_lt l1
    clear F0 N0
  k_steps
  · rename Obj.IsDictOf _ _ (stored _ _ _) => hMA9
    rename Fr _ _ _ _ => F9
    rename News _ _ _ _ => N9
    rename Bnd9 _ ((i : Int) + 1) => hb9
    have hb1 := hb9.1
    have hb2 := hb9.2
    have hMn : ∀ q ∈ news, q.1 ≠ M := fun q hq e => by
      rcases hn0 q hq with h | h | h | h | h | h <;> first | (rw [h] at e; exact absurd e (by k_ne)) | exact Nat.ne_of_lt (Nat.lt_trans (l0 q (by k_mem)) l2) e
    have hDn : ∀ q ∈ news, q.1 ≠ D := fun q hq e => by
      rcases hn0 q hq with h | h | h | h | h | h <;> first | (rw [h] at e; exact absurd e (by k_ne)) | exact Nat.ne_of_lt (l0 q (by k_mem)) e
    exact turnA_end (x := ⟨xdi, xdep, xds, xpv, xpn, xps, xkv, xkn, xks, xtv, xtn, xts, xoM, xdv, xtail⟩) F9 N9 (by ((intro z h3; (try dsimp only); (simp only [List.contains_cons, List.contains_nil, Bool.or_false, Bool.or_eq_false_iff, beq_eq_false_iff_ne, ne_eq] at h3); first | (simp [h3]; done) | (simp only [h3, if_false, ite_false, List.contains_cons, List.contains_nil, Bool.or_false]; simp [h3]; done)))) (by k_mem) (by k_mem) (by k_mem) (by k_mem) (by k_mem) (by k_mem) (fun q hq => by k_mem) (fun q hq => by k_mem) (by k_mem) (by k_mem) rfl hneI0 (by k_ne) (by k_ne)
      (PhiA.next (ko := some (100 + (i : Int))) (to := some (200 + (i : Int))) ⟨hxdi, hxdn, hxpv, hxpl, hxpb, hxks, hxkl, hxts, hxtl, hxoM, hxdv, hxkey, hxmode, hxoff⟩ hdi hdn (by omega) (by omega) hMA9 hMn hDn)
  · rename Obj.IsDictOf _ _ (stored _ _ _) => hMA9
    rename Fr _ _ _ _ => F9
    rename News _ _ _ _ => N9
    rename Bnd9 _ ((i : Int) + 1) => hb9
    have hb1 := hb9.1
    have hb2 := hb9.2
    have hMn : ∀ q ∈ news, q.1 ≠ M := fun q hq e => by
      rcases hn0 q hq with h | h | h | h | h | h <;> first | (rw [h] at e; exact absurd e (by k_ne)) | exact Nat.ne_of_lt (Nat.lt_trans (l0 q (by k_mem)) l2) e
    have hDn : ∀ q ∈ news, q.1 ≠ D := fun q hq e => by
      rcases hn0 q hq with h | h | h | h | h | h <;> first | (rw [h] at e; exact absurd e (by k_ne)) | exact Nat.ne_of_lt (l0 q (by k_mem)) e
    exact turnA_end (x := ⟨xdi, xdep, xds, xpv, xpn, xps, xkv, xkn, xks, xtv, xtn, xts, xoM, xdv, xtail⟩) F9 N9 (by ((intro z h3; (try dsimp only); (simp only [List.contains_cons, List.contains_nil, Bool.or_false, Bool.or_eq_false_iff, beq_eq_false_iff_ne, ne_eq] at h3); first | (simp [h3]; done) | (simp only [h3, if_false, ite_false, List.contains_cons, List.contains_nil, Bool.or_false]; simp [h3]; done)))) (by k_mem) (by k_mem) (by k_mem) (by k_mem) (by k_mem) (by k_mem) (fun q hq => by k_mem) (fun q hq => by k_mem) (by k_mem) (by k_mem) rfl hneI0 (by k_ne) (by k_ne)
      (PhiA.next (ko := some (100 + (i : Int))) (to := none) (t2 := 0) ⟨hxdi, hxdn, hxpv, hxpl, hxpb, hxks, hxkl, hxts, hxtl, hxoM, hxdv, hxkey, hxmode, hxoff⟩ hdi hdn (by omega) (by omega) hMA9 hMn hDn)
  · rename Obj.IsDictOf _ _ (stored _ _ _) => hMA9
    rename Fr _ _ _ _ => F9
    rename News _ _ _ _ => N9
    rename Bnd9 _ ((i : Int) + 1) => hb9
    have hb1 := hb9.1
    have hb2 := hb9.2
    have hMn : ∀ q ∈ news, q.1 ≠ M := fun q hq e => by
      rcases hn0 q hq with h | h | h | h | h | h <;> first | (rw [h] at e; exact absurd e (by k_ne)) | exact Nat.ne_of_lt (Nat.lt_trans (l0 q (by k_mem)) l2) e
    have hDn : ∀ q ∈ news, q.1 ≠ D := fun q hq e => by
      rcases hn0 q hq with h | h | h | h | h | h <;> first | (rw [h] at e; exact absurd e (by k_ne)) | exact Nat.ne_of_lt (l0 q (by k_mem)) e
    exact turnA_end (x := ⟨xdi, xdep, xds, xpv, xpn, xps, xkv, xkn, xks, xtv, xtn, xts, xoM, xdv, xtail⟩) F9 N9 (by ((intro z h3; (try dsimp only); (simp only [List.contains_cons, List.contains_nil, Bool.or_false, Bool.or_eq_false_iff, beq_eq_false_iff_ne, ne_eq] at h3); first | (simp [h3]; done) | (simp only [h3, if_false, ite_false, List.contains_cons, List.contains_nil, Bool.or_false]; simp [h3]; done)))) (by k_mem) (by k_mem) (by k_mem) (by k_mem) (by k_mem) (by k_mem) (fun q hq => by k_mem) (fun q hq => by k_mem) (by k_mem) (by k_mem) rfl hneI0 (by k_ne) (by k_ne)
      (PhiA.next (ko := none) (t1 := 0) (to := some (200 + (i : Int))) ⟨hxdi, hxdn, hxpv, hxpl, hxpb, hxks, hxkl, hxts, hxtl, hxoM, hxdv, hxkey, hxmode, hxoff⟩ hdi hdn (by omega) (by omega) hMA9 hMn hDn)
  · rename Obj.IsDictOf _ _ (stored _ _ _) => hMA9
    rename Fr _ _ _ _ => F9
    rename News _ _ _ _ => N9
    rename Bnd9 _ ((i : Int) + 1) => hb9
    have hb1 := hb9.1
    have hb2 := hb9.2
    have hMn : ∀ q ∈ news, q.1 ≠ M := fun q hq e => by
      rcases hn0 q hq with h | h | h | h | h | h <;> first | (rw [h] at e; exact absurd e (by k_ne)) | exact Nat.ne_of_lt (Nat.lt_trans (l0 q (by k_mem)) l2) e
    have hDn : ∀ q ∈ news, q.1 ≠ D := fun q hq e => by
      rcases hn0 q hq with h | h | h | h | h | h <;> first | (rw [h] at e; exact absurd e (by k_ne)) | exact Nat.ne_of_lt (l0 q (by k_mem)) e
    exact turnA_end (x := ⟨xdi, xdep, xds, xpv, xpn, xps, xkv, xkn, xks, xtv, xtn, xts, xoM, xdv, xtail⟩) F9 N9 (by ((intro z h3; (try dsimp only); (simp only [List.contains_cons, List.contains_nil, Bool.or_false, Bool.or_eq_false_iff, beq_eq_false_iff_ne, ne_eq] at h3); first | (simp [h3]; done) | (simp only [h3, if_false, ite_false, List.contains_cons, List.contains_nil, Bool.or_false]; simp [h3]; done)))) (by k_mem) (by k_mem) (by k_mem) (by k_mem) (by k_mem) (by k_mem) (fun q hq => by k_mem) (fun q hq => by k_mem) (by k_mem) (by k_mem) rfl hneI0 (by k_ne) (by k_ne)
      (PhiA.next (ko := none) (t1 := 0) (to := none) (t2 := 0) ⟨hxdi, hxdn, hxpv, hxpl, hxpb, hxks, hxkl, hxts, hxtl, hxoM, hxdv, hxkey, hxmode, hxoff⟩ hdi hdn (by omega) (by omega) hMA9 hMn hDn)
theorem ints_get {vs : List Value} {ks : List Int} (h : IntsAre vs ks) {k : Int} (h0 : 0 ≤ k) (h1 : k < (vs.length : Int)) : ∃ own t, vs[k.toNat]? = some (.int own t) ∧ own ∈ ks := by
  have hj : k.toNat < vs.length := by omega
  have e : vs[k.toNat]? = some vs[k.toNat] := List.getElem?_eq_getElem hj
  obtain ⟨own, t, h2, h3⟩ := IntsAre.at h _ _ e
  exact ⟨own, t, by rw [e, h2], List.mem_of_getElem? h3⟩
theorem item_arg {prog : Program} {w : World} {A : Around} {E : Value → Shared → Prop} {s : Shared} {h₀ : Heap} {L : Addr} {news : List (Addr × Obj)} {n : Nat} {l : Addr} {k : Int} {u t1 t2 t3 t4 t5 : Tok} {value slice : PySem.Expr} {Q : Value → Shared → Prop}
    (N : News h₀ L s.heap news) (hm : (l, listOf (List.toArray [.none, .str (Str.ofString "toggle") t1, .int 1 t2, .int 0 t3, .int (-1) t4, .int 5 t5]) n) ∈ news) (h0 : 0 ≤ k) (hk : k < 6)
    (h : ∀ (a : Arg9) ta v, a.val ta = v → Q v s) (hs : subscripted slice false (.ref l) (.int k u) = operate [.ref l, .int k u] (getItem (.ref l) (.int k u)) := by with_unfolding_all rfl) :
    wpAny (model prog w) A (subscriptTail value slice (.ref l) (.int k u)) Q E s := by
  have c : k = 0 ∨ k = 1 ∨ k = 2 ∨ k = 3 ∨ k = 4 ∨ k = 5 := by omega
  rcases c with rfl | rfl | rfl | rfl | rfl | rfl
  · exact item_l N hm h0 (by omega) rfl (h .none 0 _ rfl) hs
  · exact item_l N hm h0 (by omega) rfl (h .toggle t1 _ rfl) hs
  · exact item_l N hm h0 (by omega) rfl (h (.int 1) t2 _ rfl) hs
  · exact item_l N hm h0 (by omega) rfl (h (.int 0) t3 _ rfl) hs
  · exact item_l N hm h0 (by omega) rfl (h (.int (-1)) t4 _ rfl) hs
  · exact item_l N hm h0 (by omega) rfl (h (.int 5) t5 _ rfl) hs
set_option maxHeartbeats 8000000 in
/-- not was if argument == 'toggle' or (argument is None and is_user) else argument is None or argument > 0 -/
theorem due2_eval {w : World} {p : Program} {loose : List Str} {mean : ExcName → Option Value} {mg mb : Str → Option Value} {g : Heap} {L fa : Addr} {cd : Value} {s : Shared} {Q : Value → Shared → Prop}
    {a : Arg9} {ta : Tok} {av : Value} {u b : Bool} {mX : Str → Option Value} {news : List (Addr × Obj)}
    (B : Below callerA g [] g) (X : (Mine.hd.heap_39 w.params).In g) (Tp : Top p loose mean mg mb g) (hav : a.val ta = av)
    (F : Fr g L s.heap (fun y => if y = Str.ofString "was" then some (.bool b) else if y = Str.ofString "is_user" then some (.bool u) else if y = Str.ofString "argument" then some av else mX y)) (N : News g L s.heap news)
    (hfin : ∀ h' tk', Fr g L h' (fun y => if y = Str.ofString "was" then some (.bool b) else if y = Str.ofString "is_user" then some (.bool u) else if y = Str.ofString "argument" then some av else mX y) → News g L h' news → Q (.bool (want b u a)) { s with heap := h', toks := tk' }) :
    wpAny (model PG w) (callerA.deeper (lawE L fa cd)) (eval (valOf (elseOf (lawFor 7)[0]?)[2]?) (lawE L fa cd)) Q (fun _ _ => False) s := by
  subst hav
  (((simp only [lawE] at *); (generalize hsc9 : lawScope = sc9 at *); (conv at hsc9 => lhs; whnf; dsimp only); subst hsc9))
  generalize hbd : valOf (elseOf (lawFor 7)[0]?)[2]? = bd
  conv at hbd => lhs; whnf
  subst hbd
  cases a <;> simp only [Arg9.val, want] at hfin F ⊢
  · cases u <;> cases b <;> (k_steps; (try (((try dsimp only); (try (k_unfold; (try dsimp only)))))); rename Fr _ _ _ _ => F9; rename News _ _ _ _ => N9; exact hfin _ _ F9 N9)
  · cases u <;> cases b <;> (k_steps; (try (((try dsimp only); (try (k_unfold; (try dsimp only)))))); rename Fr _ _ _ _ => F9; rename News _ _ _ _ => N9; exact hfin _ _ F9 N9)
  · k_steps
    exact hfin _ _ F N
set_option maxHeartbeats 8000000 in
/-- for own in minors: on[own] = on.get(own, False) and own in permanent -/
theorem loopOn {w : World} {p : Program} {loose : List Str} {mean : ExcName → Option Value} {mg mb : Str → Option Value} {g : Heap} {L fa : Addr} {cd : Value} {s : Shared} {Q : Flow → Shared → Prop} {pos : Pos}
    {OD PM ml : Addr} {oPM oc xob : Obj} {pkv xobv : List (Int × Value)} {mvs : List Value} {mn : Nat} {ms : List Int} {mX : Str → Option Value} {news rest : List (Addr × Obj)}
    (B : Below callerA g [] g) (X : (Mine.hd.heap_39 w.params).In g) (Tp : Top p loose mean mg mb g)
    (F : Fr g L s.heap (fun y => if y = Str.ofString "minors" then some (.ref ml) else if y = Str.ofString "permanent" then some (.ref PM) else mX y)) (N : News g L s.heap news) (P : Pick OD xob news rest)
    (hkP : (PM, oPM) ∈ rest) (hPM : oPM.IsDictOf (intKind PG w) pkv) (loP : (PM == sysModules) = false) (loD : (OD == sysModules) = false)
    (hkm : (ml, listOf mvs.toArray mn) ∈ rest) (hmi : IntsAre mvs ms) (hml : ms.length ≤ 5) (hmnd : ms.Nodup) (hkc : (L + 1, oc) ∈ rest) (hoc : oc.data = .cell (some (.ref OD)))
    (hxob : xob.IsDictOf (intKind PG w) xobv) (hxobl : xobv.length ≤ 100) (hxobk : BoolsD xobv)
    (hnext : ∀ (m' : Str → Option Value) h' tk' o' kv', o'.IsDictOf (intKind PG w) kv' → PhiO (fun k => (valueAt pkv k).isSome) xobv ms ms.length kv' →
      Fr g L h' (fun y => if [Str.ofString "own"].contains y = true then m' y else if y = Str.ofString "minors" then some (.ref ml) else if y = Str.ofString "permanent" then some (.ref PM) else mX y) →
      News g L h' ((OD, o') :: rest) → Q .next { s with heap := h', toks := tk' }) :
    wpAny (model PG w) (callerA.deeper (lawE L fa cd)) (pyIter (.ref ml)) (fun it s₂ => ForAt PG w (callerA.deeper (lawE L fa cd)) (lawE L fa cd) (.Name (Str.ofString "own") pos) (forOf (thenOf (lawFor 7)[0]?)[4]?) Q it s₂) (fun _ _ => False) s := by
  (((simp only [lawE] at *); (generalize hsc9 : lawScope = sc9 at *); (conv at hsc9 => lhs; whnf; dsimp only); subst hsc9))
  generalize hbd : forOf (thenOf (lawFor 7)[0]?)[4]? = bd
  conv at hbd => lhs; whnf
  subst hbd
  have hrD : ∀ q ∈ rest, q.1 ≠ OD := fun q hq => (P.spec.2 q hq).2
  k_dflt (refine' forListO (D := OD) (l := ml) (vs := mvs) [Str.ofString "own"] (PhiO (fun k => (valueAt pkv k).isSome) xobv ms) rfl F N P (N.isList (P.spec.2 _ hkm).1) hxob (PhiO.zero hxobk) (fun h m F1 N1 => N1.isList (by k_mem)) ?_ ?_)
  rotate_left
  · clear F N P
    intro m₂ h tk o9 kv9 hO9 hΦ9 F1 N1
    rw [hmi.length] at hΦ9
    exact hnext m₂ h tk o9 kv9 hO9 hΦ9 F1 N1
  · clear F N P
    intro j v m₂ h tk J oJ o9 kv9 hv hO9 hΦ9 F1 N1 hkJ hDJ
    obtain ⟨own, town, rfl, hown⟩ := IntsAre.at hmi j v hv
    have hj5 := (List.getElem?_eq_some_iff.mp hv).1
    rw [hmi.length] at hj5
    have hz9 := hΦ9.hl
    have hb9 := hΦ9.hb
    try k_fold
    k_steps
    · rename Fr _ _ _ _ => F9
      rename News _ _ _ _ => N9
      rename Obj.IsDictOf _ _ (stored _ _ _) => hO2
      rename onv kv9 own = true => hon
      exact turnEndO F9 N9 (by ((intro z h3; (try dsimp only); (simp only [List.contains_cons, List.contains_nil, Bool.or_false, Bool.or_eq_false_iff, beq_eq_false_iff_ne, ne_eq] at h3); first | (simp [h3]; done) | (simp only [h3, if_false, ite_false, List.contains_cons, List.contains_nil, Bool.or_false]; simp [h3]; done)))) (by k_mem) (by k_mem) (fun q hq => by k_mem) hkJ hDJ hO2 (hΦ9.next hmnd hown (by rw [hon]; rfl))
    · rename Fr _ _ _ _ => F9
      rename News _ _ _ _ => N9
      rename Obj.IsDictOf _ _ (stored _ _ _) => hO2
      rename onv kv9 own = false => hon
      exact turnEndO F9 N9 (by ((intro z h3; (try dsimp only); (simp only [List.contains_cons, List.contains_nil, Bool.or_false, Bool.or_eq_false_iff, beq_eq_false_iff_ne, ne_eq] at h3); first | (simp [h3]; done) | (simp only [h3, if_false, ite_false, List.contains_cons, List.contains_nil, Bool.or_false]; simp [h3]; done)))) (by k_mem) (by k_mem) (fun q hq => by k_mem) hkJ hDJ hO2 (hΦ9.next hmnd hown (by rw [hon]; rfl))
theorem due_close {g h' : Heap} {L D9 DB D1 DA l0 D2 D3 : Addr} {oB o1 oA ol : Obj} {a b c d : Tok} {k : Int} {n : Nat} {ys ys2 : List Value} {ln : List Int} {news tups tups2 : List (Addr × Obj)}
    (N9 : News g L h' ((D9, listOf (List.toArray (.ref D3 :: .ref D2 :: (ys ++ ys2))) n) :: (DB, oB) :: (D1, o1) :: (DA, oA) :: (l0, ol) :: (D2, pairObj 1 k a b) :: (D3, pairObj 0 k c d) :: (news ++ tups ++ tups2)))
    (l9 : AllLt D9 ((DB, oB) :: (D1, o1) :: (DA, oA) :: (l0, ol) :: (D2, pairObj 1 k a b) :: (D3, pairObj 0 k c d) :: (news ++ tups ++ tups2))) (l2 : AllLt D2 ((D3, pairObj 0 k c d) :: news)) (l3 : ∀ q ∈ news, q.1 < D3)
    (hP : Pairs (fun d o => (d, o) ∈ tups) ys (ln.map (fun y => ((2 : Int), y)))) (hP2 : Pairs (fun d o => (d, o) ∈ tups2) ys2 (ln.map (fun y => ((3 : Int), y))))
    (hA : Apart tups ((l0, ol) :: (D2, pairObj 1 k a b) :: (D3, pairObj 0 k c d) :: news)) (hA2 : Apart tups2 ((D1, o1) :: (DA, oA) :: (l0, ol) :: (D2, pairObj 1 k a b) :: (D3, pairObj 0 k c d) :: (news ++ tups))) :
    ∃ tl : List (Addr × Obj), Pairs (fun d o => (d, o) ∈ tl) (.ref D3 :: .ref D2 :: (ys ++ ys2)) ([(0, k), (1, k)] ++ ln.map (fun y => ((2 : Int), y)) ++ ln.map (fun y => ((3 : Int), y))) ∧ Apart tl news ∧ (∀ q ∈ news, q.1 < D9) ∧ (∀ q ∈ tl, q.1 < D9) ∧
      News g L h' ((D9, listOf (List.toArray (.ref D3 :: .ref D2 :: (ys ++ ys2))) n) :: (news ++ tl)) := by
  have hlt := lt_of_allLt l9
  have hl2 := lt_of_allLt l2
  have sub : ∀ q ∈ (D3, pairObj 0 k c d) :: (D2, pairObj 1 k a b) :: (tups ++ tups2), q ∈ (DB, oB) :: (D1, o1) :: (DA, oA) :: (l0, ol) :: (D2, pairObj 1 k a b) :: (D3, pairObj 0 k c d) :: (news ++ tups ++ tups2) := fun q hq => by
    simp only [List.mem_cons, List.mem_append] at hq ⊢
    rcases hq with h | h | h | h <;> simp [h]
  refine ⟨(D3, pairObj 0 k c d) :: (D2, pairObj 1 k a b) :: (tups ++ tups2), ?_, fun q hq r hr => ?_, fun q hq => hlt q (by simp [hq]), fun q hq => hlt q (sub q hq), newsPerm N9 fun q hq => ?_⟩
  · exact Pairs.cons (.head _) (Pairs.cons (.tail _ (.head _)) ((hP.mono fun d o h => .tail _ (.tail _ (List.mem_append_left _ h))).append (hP2.mono fun d o h => .tail _ (.tail _ (List.mem_append_right _ h)))))
  · rcases List.mem_cons.mp hq with rfl | hq
    · exact Nat.ne_of_lt (l3 r hr)
    rcases List.mem_cons.mp hq with rfl | hq
    · exact Nat.ne_of_lt (hl2 r (.tail _ hr))
    rcases List.mem_append.mp hq with hq | hq
    · exact hA q hq r (by simp [hr])
    · exact hA2 q hq r (by simp [hr])
  · rcases List.mem_cons.mp hq with rfl | hq
    · exact .head _
    rcases List.mem_append.mp hq with hq | hq
    · exact List.mem_cons_of_mem _ (by simp [hq])
    · exact List.mem_cons_of_mem _ (sub q hq)
set_option maxHeartbeats 8000000 in
/-- [(CHANGE, symbol), (KILL, symbol)] + [(BODY, own) for own in line] + [(HOOK, own) for own in line] -/
theorem due_eval {w : World} {p : Program} {loose : List Str} {mean : ExcName → Option Value} {mg mb : Str → Option Value} {g : Heap} {L fa : Addr} {cd : Value} {s : Shared} {Q : Value → Shared → Prop}
    {lq : Addr} {qits : List Value} {qn : Nat} {ln : List Int} {k : Int} {tk0 : Tok} {mX : Str → Option Value} {news : List (Addr × Obj)}
    (B : Below callerA g [] g) (X : (Mine.hd.heap_39 w.params).In g) (Tp : Top p loose mean mg mb g)
    (F : Fr g L s.heap (fun y => if y = Str.ofString "line" then some (.ref lq) else if y = Str.ofString "symbol" then some (.int k tk0) else mX y)) (N : News g L s.heap news)
    (hl : (lq, listOf qits.toArray qn) ∈ news) (hW : IntsAre qits ln) (hln : ln.length ≤ 6) (hl0 : ln.length ≠ 0)
    (hfin : ∀ D items tups h' tk', Pairs (fun d o => (d, o) ∈ tups) items ([(0, k), (1, k)] ++ ln.map (fun y => ((2 : Int), y)) ++ ln.map (fun y => ((3 : Int), y))) → Apart tups news → (∀ q ∈ news, q.1 < D) → (∀ q ∈ tups, q.1 < D) →
      Fr g L h' (fun y => if y = Str.ofString "line" then some (.ref lq) else if y = Str.ofString "symbol" then some (.int k tk0) else mX y) → News g L h' ((D, listOf (List.toArray items) 0) :: (news ++ tups)) → Q (.ref D) { s with heap := h', toks := tk' }) :
    wpAny (model PG w) (callerA.deeper (lawE L fa cd)) (eval (valOf (thenOf (lawFor 7)[0]?)[2]?) (lawE L fa cd)) Q (fun _ _ => False) s := by
  (((simp only [lawE] at *); (generalize hsc9 : lawScope = sc9 at *); (conv at hsc9 => lhs; whnf; dsimp only); subst hsc9))
  generalize hbd : valOf (thenOf (lawFor 7)[0]?)[2]? = bd
  conv at hbd => lhs; whnf
  subst hbd
  have hWl := hW.length
  have hNlt : ∀ q ∈ news, q.1 < s.heap.objs.size := fun q hq => Heap.lt_size (N q hq).1
  k_with "M src" =>
    (fail_if_success have := @_root_.Mine.due_eval)
    with_reducible show LCg.CompSrc _ _ _ _ _ _ _ (Expr.Tuple [Expr.Name (Str.ofString "BODY") _, _] _ _) _ _ _ _ _ _
    rename Fr _ _ _ _ => F0
    rename News _ _ _ _ => N0
    k_dflt (refine LCg.CompSrc.ledger rfl F0 N0 (by k_mem) (by rw [PySem.sizeLine_eq]; simp; omega) ?_)
    intro g2
    k_dflt (refine' compPairs 2 hW (fun nw hs => Or.inr ⟨_, hs _ (by k_mem), rfl, _, rfl⟩) ?_ ?_)
    rotate_left
    intro ys tups hP hA DA h tk F1 N1 off
    have hPl := hP.length
    rw [List.length_map] at hPl
    have hy0 : ys.length ≠ 0 := by omega
    replace hA : Apart tups _ := hA
    simp only [List.cons_append] at N1 off
    simp only [LCg.Off1, off1_app] at off
    clear F0 N0
    try k_fold
    rotate_left
    clear F0 N0
    intro own t nw IC oIC CC oCC DC oDC m₂ h tk E' hC hx F1 N1
    try k_fold
  k_with "M src" =>
    (fail_if_success have := @_root_.Mine.due_eval)
    with_reducible show LCg.CompSrc _ _ _ _ _ _ _ (Expr.Tuple [Expr.Name (Str.ofString "HOOK") _, _] _ _) _ _ _ _ _ _
    rename Fr _ _ _ _ => F0
    rename News _ _ _ _ => N0
    k_dflt (refine LCg.CompSrc.ledger rfl F0 N0 (by k_mem) (by rw [PySem.sizeLine_eq]; simp; omega) ?_)
    intro g2
    k_dflt (refine' compPairs 3 hW (fun nw hs => Or.inr ⟨_, hs _ (by k_mem), rfl, _, rfl⟩) ?_ ?_)
    rotate_left
    intro ys2 tups2 hP2 hA2 DB h tk F1 N1 off2
    have hPl2 := hP2.length
    rw [List.length_map] at hPl2
    have hy20 : ys2.length ≠ 0 := by omega
    replace hA2 : Apart tups2 _ := hA2
    simp only [List.cons_append] at N1 off2
    simp only [LCg.Off1, off1_app] at off2
    clear F0 N0
    try k_fold
    rotate_left
    clear F0 N0
    intro own t nw IC oIC CC oCC DC oDC m₂ h tk E' hC hx F1 N1
    try k_fold
  k_steps
  · rename Fr _ _ _ _ => F9
    rename News _ _ _ _ => N9
    exact ⟨_, _, _, _, _, rfl, rfl, F9, N9, by assumption⟩
  · rename Fr _ _ _ _ => F9
    rename News _ _ _ _ => N9
    exact ⟨_, _, _, _, _, rfl, rfl, F9, N9, by assumption⟩
  · rename Fr _ _ _ _ => F9
    rename News _ _ _ _ => N9
    obtain ⟨tl, e1, e2, e3, e4, e5⟩ := due_close N9 (by assumption) (by assumption) (by assumption) hP hP2 hA hA2
    exact hfin _ _ tl _ _ e1 e2 e3 e4 F9 e5
set_option maxHeartbeats 8000000 in
theorem turnD1 {w : World} {p : Program} {loose : List Str} {mean : ExcName → Option Value} {mg mb : Str → Option Value} {g : Heap} {L fa : Addr} {cd : Value} {s : Shared} {K : Flow → Shared → Prop}
    {deck D OD S PM ml T MA MI O pl : Addr} {oPM oc : Obj} {pkv : List (Int × Value)} {pvs mvs : List Value} {pn mn : Nat} {ps ms : List Int} {mX m₁ : Str → Option Value} {kept : List (Addr × Obj)} {i tk : Nat} {h : Heap} {I : Addr} {oI : Obj} {x : XD}
    {f : Int → Option Value} {N : Int} {pa : Int → Int} {km sy : Int → Option Int}
    (B : Below callerA g [] g) (X : (Mine.hd.heap_39 w.params).In g) (Tp : Top p loose mean mg mb g) (hcd : CodeHd g 235 231)
    (hch : @Ne Nat 231 deck ∧ @Ne Nat 243 deck ∧ Lt9 deck D ∧ Lt9 D OD ∧ Lt9 231 D ∧ Lt9 243 D)
    (hTG : ∀ g' : Heap, g.StaysIn g' → (∀ q ∈ kept, g'.get? q.1 = some q.2) → TabG w g' T MA MI O f N pa km sy) (hp : Par pa) (hN : N ≤ 6) (hN1 : 1 ≤ N)
    (hkS : (S, instObj 175 D) ∈ kept) (hkP : (PM, oPM) ∈ kept) (hPM : oPM.IsDictOf (intKind PG w) pkv) (loP : (PM == sysModules) = false) (loD : (OD == sysModules) = false)
    (hkp : (pl, listOf pvs.toArray pn) ∈ kept) (hpi : IntsAre pvs ps) (hps : ∀ k : Int, 0 ≤ k → k < (ps.length : Int) → ps[k.toNat]? = some (pa k)) (hlen : (ps.length : Int) = N)
    (hkm : (ml, listOf mvs.toArray mn) ∈ kept) (hmi : IntsAre mvs ms) (hml : ms.length ≤ 5) (hmnd : ms.Nodup) (hkc : (L + 1, oc) ∈ kept) (hoc : oc.data = .cell (some (.ref OD)))
    (hk1 : ∀ q ∈ kept, q.1 ≠ deck) (hk2 : ∀ q ∈ kept, q.1 ≠ D) (hk3 : ∀ q ∈ kept, q.1 ≠ OD) (hk4 : ∀ q ∈ kept, q.1 ≠ 231) (hk5 : ∀ q ∈ kept, q.1 ≠ 243)
    (hi8 : i < 9) (hΦ : PhiD w deck D OD kept ms i x)
    (F1 : Fr g L h (fun y => if [Str.ofString "deed", Str.ofString "symbol", Str.ofString "line", Str.ofString "due", Str.ofString "own", Str.ofString "argument", Str.ofString "is_user", Str.ofString "was", Str.ofString "lit"].contains y = true then m₁ y else if y = Str.ofString "state" then some (.ref S) else if y = Str.ofString "permanent" then some (.ref PM) else if y = Str.ofString "minors" then some (.ref ml) else if y = Str.ofString "deck" then some (.ref deck) else if y = Str.ofString "table" then some (.ref T) else if y = Str.ofString "parents" then some (.ref pl) else mX y))
    (N1 : News g L h ((I, oI) :: nwD w deck D OD kept x)) (hneI : ∀ q ∈ nwD w deck D OD kept x, q.1 ≠ I)
    (hnext : ∀ (m' : Str → Option Value) h' tk' x', PhiD w deck D OD kept ms (i + 1) x' →
      Fr g L h' (fun y => if [Str.ofString "deed", Str.ofString "symbol", Str.ofString "line", Str.ofString "due", Str.ofString "own", Str.ofString "argument", Str.ofString "is_user", Str.ofString "was", Str.ofString "lit"].contains y = true then m' y else if y = Str.ofString "state" then some (.ref S) else if y = Str.ofString "permanent" then some (.ref PM) else if y = Str.ofString "minors" then some (.ref ml) else if y = Str.ofString "deck" then some (.ref deck) else if y = Str.ofString "table" then some (.ref T) else if y = Str.ofString "parents" then some (.ref pl) else mX y) →
      News g L h' ((I, oI) :: nwD w deck D OD kept x') → (∀ q ∈ nwD w deck D OD kept x', q.1 ≠ I) → K .next { s with heap := h', toks := tk' }) :
    wpAny (model PG w) (callerA.deeper (lawE L fa cd)) (execs (thenOf (lawFor 7)[0]?) (lawE L fa cd)) K (fun _ _ => False) { s with heap := h, toks := tk } := by
  simp only [Lt9] at hch
  (((simp only [lawE] at *); (generalize hsc9 : lawScope = sc9 at *); (conv at hsc9 => lhs; whnf; dsimp only); subst hsc9))
  generalize hbd : thenOf (lawFor 7)[0]? = bd
  conv at hbd => lhs; whnf
  subst hbd
  have hneI0 := hneI
  obtain ⟨xdi, xdep, xds, xn0, xt0, xt1, xu, xmj, xON, xob, xobv, xtb1, xtb2, xovs, xnO, xos, xtail⟩ := x
  obtain ⟨hxdi, hxdn, hxO, hxoi, hxnd, hxsub, hxob, hxobl, hxobk, hxon, hxt1, hxt2, hx1, hx2, hx3, hx4, hx5, hx6⟩ := hΦ
  simp only [nwD] at N1 hneI
  dsimp only at hxdi hxdn hxO hxoi hxnd hxsub hxob hxobl hxobk hxon hxt1 hxt2 hx1 hx2 hx3 hx4 hx5
  have hI1 : ∀ q ∈ kept, q.1 ≠ I := fun q hq => hneI q (by simp [hq])
  have hI2 : ∀ q ∈ xtail, q.1 ≠ I := fun q hq => hneI q (by simp [hq])
  have hI3 : @Ne Nat deck I ∧ @Ne Nat D I ∧ @Ne Nat OD I ∧ @Ne Nat 231 I ∧ @Ne Nat 243 I := ⟨hneI (deck, _) (.head _), hneI (D, _) (.tail _ (.head _)), hneI (OD, _) (.tail _ (.tail _ (.head _))), hneI (231, _) (.tail _ (.tail _ (.tail _ (.head _)))), hneI (243, _) (.tail _ (.tail _ (.tail _ (.tail _ (.head _)))))⟩
  clear hneI
  have hpl9 := hpi.length
  have hosl : xos.length ≤ 100 := Nat.le_trans (nodup_len hxnd hxsub) (by omega)
  k_with "M call" =>
    (fail_if_success have := @_root_.Mine.turnD1)
    (((with_reducible show wpAny _ _ (call (Value.ref 222) _) _ _ _); (rename Fr _ _ _ _ => F0'); (rename News _ _ _ _ => N0'); refine' draw_use ?B F0' N0' ?X ?T rfl rfl rfl rfl ?hd ?hu ?P ?hi ?hn ?hk ?hk2 ?_; (case B => assumption); (case X => assumption); (case T => assumption); (case hd => (((try simp only [depth_mark, depth_under_make, depth_under_kw, depth_in1, depth_deeper, depth_caller, units_in1, units_deeper, units_caller, Around.mark_units]); (try dsimp only); omega))); (case hu => (((try simp only [depth_mark, depth_under_make, depth_under_kw, depth_in1, depth_deeper, depth_caller, units_in1, units_deeper, units_caller, Around.mark_units]); (try dsimp only); omega))); (case P => k_extra "PICK"); (case hi => assumption); (case hn => assumption); (case hk => omega); (case hk2 => omega); intro dr dt ditems dep dds h' tk' hdi hdn hdr0 hdr1 F' N'; clear F0' N0'; (have hdr : Bnd9 dr _ := ⟨hdr0, hdr1⟩); clear hdr0 hdr1))
    obtain ⟨hdr0, hdr1⟩ := hdr
  k_with "M call" => (fail_if_success have := @_root_.Mine.turnD1); (((with_reducible show wpAny _ _ (call (Value.ref 229) _) _ _ _); k_dflt (refine' law_line_use ?B ?F ?N ?X ?T ?hA ?hf ?hke ?hh ?hd ?hu ?hpl ?hpi ?hps ?hp ?h0 ?hk ?hN ?_; (case hA => exact rfl); (case hf => exact rfl); (case hke => exact rfl); (case B => k_asm); (case F => k_asm); (case N => k_asm); (case X => k_asm); (case T => k_asm); (case hh => exact rfl); (case hd => (((try simp only [depth_mark, depth_under_make, depth_under_kw, depth_in1, depth_deeper, depth_caller, units_in1, units_deeper, units_caller, Around.mark_units]); (try dsimp only); omega))); (case hu => (((try simp only [depth_mark, depth_under_make, depth_under_kw, depth_in1, depth_deeper, depth_caller, units_in1, units_deeper, units_caller, Around.mark_units]); (try dsimp only); omega))); (case hpl => first | exact News.isList (by k_asm) (by k_mem) | exact isList_keeps (Fr.keep (by k_asm)) (by assumption)); (case hpi => assumption); (case hps => assumption); (case hp => assumption); (case h0 => first | assumption | omega); (case hk => first | assumption | omega); (case hN => first | assumption | omega); k_whole); intro lq qits qn h' tk' hLaw hLawN hne' F' N'; (replace hne' := allNe_of hne'); (simp only [AllNe, and_true] at hne'); (try k_sweep)))
  k_with "M bin" =>
    (fail_if_success have := @_root_.Mine.turnD1)
    with_reducible show wpAny _ _ (eval (Expr.BinOp (Expr.BinOp _ _ _ _) _ _ _) _) _ _ _
    rename IntsAre _ (List.reverse _) => hW
    have hWl := hW.length
    have hul := up_len6 hp (k := dr) (by omega)
    have hup := up_pos hp (s := dr) hdr0
    have hupl := congrArg List.length hup
    simp only [List.length_cons, List.length_reverse] at hupl hWl
    rename Fr _ _ _ _ => F0
    rename News _ _ _ _ => N0
    refine' due_eval (lq := lq) (ln := (up pa dr).reverse) B X Tp F0 N0 (by k_mem) hW (by rw [List.length_reverse]; omega) (by rw [List.length_reverse]; omega) ?_
    intro DU dits tups h' tk' hP hA l1 l2 F' N'
    replace hA : Apart tups _ := hA
    have hNU : ∀ q ∈ tups, q.1 ≠ DU := fun q hq => Nat.ne_of_lt (l2 q hq)
    clear l2
    have hdl := hP.length
    simp only [List.length_append, List.length_map, List.length_reverse, List.length_cons, List.length_nil] at hdl
    simp only [List.cons_append] at N'
    try k_lt l1
    clear F0 N0
  k_with "M call" =>
    (fail_if_success have := @_root_.Mine.turnD1)
    (with_reducible show wpAny _ _ (call (Value.ref 236) _) _ _ _)
    rename Fr _ _ _ _ => F0
    rename News _ _ _ _ => N0
    refine' law_switched_use (S := S) (D := D) (ON := xON) (ovs := xovs) (os := xos) (pf := valueAt pkv) B F0 N0 X Tp rfl rfl rfl rfl (by (((try simp only [depth_mark, depth_under_make, depth_under_kw, depth_in1, depth_deeper, depth_caller, units_in1, units_deeper, units_caller, Around.mark_units]); (try dsimp only); omega))) (by (((try simp only [depth_mark, depth_under_make, depth_under_kw, depth_in1, depth_deeper, depth_caller, units_in1, units_deeper, units_caller, Around.mark_units]); (try dsimp only); omega))) ?P hp hdr0 ?hk hN hcd ?hD2 hxoi hosl loP ?hTb ?hf ?_
    case P => k_extra "PICKS"
    case hk => omega
    case hD2 => k_ne
    case hTb => exact hxt1.mono fun d o hm => by k_mem
    case hf => exact fun g' hg hr => ⟨hTG g' hg fun q hq => hr q (by k_mem), hr (_, _) (by k_mem), ⟨_, hr (xON, _) (by k_mem), rfl, _, rfl⟩, (Heap.dictOf_iff.mpr ⟨_, hr (_, _) (by k_mem), hPM⟩).mapOf⟩
    intro n' t0 t1 u' ON' ovs' n2 ST new n3 tb' tlS h' tk' hOv hONm hSTm hPs hTb1 hApS F' N'
    simp only [List.cons_append, List.nil_append] at N'
    clear F0 N0
  k_with "M iter" =>
    (fail_if_success have := @_root_.Mine.turnD1)
    rename Fr _ _ _ _ => F0
    rename News _ _ _ _ => N0
    refine' loopOn (ml := ml) (OD := OD) (PM := PM) (oPM := oPM) (oc := oc) (pkv := pkv) (xobv := xobv) (mvs := mvs) (ms := ms) B X Tp (frAs (frAs F0 rfl) rfl) N0 ?P ?m1 hPM loP loD ?m2 hmi hml hmnd ?m3 hoc hxob (by omega) hxobk ?_
    case P => k_extra "PICK"
    case m1 => k_mem
    case m2 => k_mem
    case m3 => k_mem
    intro m9 h9 tk9 o9 kv9 hO9 hΦ9 F9 N9
    clear F0 N0
    try k_fold
  k_steps
  · exact absurd rfl ‹dr ≠ dr›
  · rename PhiO _ _ _ _ _ => hΦ9
    rename Fr _ _ _ _ => F9
    rename News _ _ _ _ => N9
    refine hnext _ _ _ ⟨ditems, dep, dds, n', t0, t1, u', dr, ON', o9, kv9, tb', xtb2, ovs', n2, xos.filter (fun x => (valueAt pkv x).isSome), xtail ++ tlS⟩ ?q1 (frCanon (frUn (frUn F9 rfl) rfl) ?q2) ?q3 ?q4
    case q1 =>
      refine ⟨hdi, hdn, List.mem_append_right _ hONm, hOv, hxnd.filter _, fun k hk => hxsub k (List.mem_filter.mp hk).1, hO9, Nat.le_trans hΦ9.hl (by show _ + _ ≤ 5 * (i + 1); omega), hΦ9.hb, fun k hk => by dsimp only; rw [hΦ9.done k hk, hxon k hk, any_filter_beq], ?_, hxt2.mono fun d o hm => List.mem_append_left _ hm, ?_, ?_, ?_, ?_, ?_, ?_⟩
      · rcases hTb1 with h | h
        · exact h.mono fun d o hm => List.mem_append_right _ hm
        · dsimp only; rw [h]; exact hxt1.mono fun d o hm => List.mem_append_left _ hm
      · exact List.forall_mem_append.mpr ⟨hx1, Apart.all hApS (by k_mem)⟩
      · exact List.forall_mem_append.mpr ⟨hx2, Apart.all hApS (by k_mem)⟩
      · exact List.forall_mem_append.mpr ⟨hx3, Apart.all hApS (by k_mem)⟩
      · exact List.forall_mem_append.mpr ⟨hx4, Apart.all hApS (by k_mem)⟩
      · exact List.forall_mem_append.mpr ⟨hx5, Apart.all hApS (by k_mem)⟩
      · exact List.forall_mem_append.mpr ⟨hx6, fun q hq r hr => hApS q hq r (by k_mem)⟩
    case q2 => ((intro z h3; (try dsimp only); (simp only [List.contains_cons, List.contains_nil, Bool.or_false, Bool.or_eq_false_iff, beq_eq_false_iff_ne, ne_eq] at h3); first | (simp [h3]; done) | (simp only [h3, if_false, ite_false, List.contains_cons, List.contains_nil, Bool.or_false]; simp [h3]; done)))
    case q3 => exact deed_news N9 (by k_mem) (by k_mem) (by k_mem) (by k_mem) (by k_mem) (by k_mem) (fun q hq => by k_mem) (List.forall_mem_append.mpr ⟨fun q hq => by k_mem, fun q hq => by k_mem⟩)
    case q4 => exact deed_ne hneI0 (List.forall_mem_append.mpr ⟨hI2, Apart.all hApS (by k_mem)⟩)
  · exact absurd rfl ‹¬ stepsOf _ _ = _›
theorem hk_LD2_0 : True := by
  k_with "HsubscriptTail" => (fail_if_success have := @_root_.Mine.turnD2); (k_here; k_dflt (k_extra "M item"))
  k_with "Heval IfExp" => (fail_if_success have := @_root_.Mine.turnD2); (k_here; k_dflt (k_extra "M ifexp"))
  trivial
set_option maxHeartbeats 8000000 in
theorem turnD2 {w : World} {p : Program} {loose : List Str} {mean : ExcName → Option Value} {mg mb : Str → Option Value} {g : Heap} {L fa : Addr} {cd : Value} {s : Shared} {K : Flow → Shared → Prop}
    {deck D OD S PM ml T MA MI O pl : Addr} {oPM oc : Obj} {pkv : List (Int × Value)} {pvs mvs : List Value} {pn mn : Nat} {ps ms : List Int} {mX m₁ : Str → Option Value} {kept : List (Addr × Obj)} {i tk : Nat} {h : Heap} {I : Addr} {oI : Obj} {x : XD}
    {f2 : Int → Option Value} {Ovs : List Value}
    (B : Below callerA g [] g) (X : (Mine.hd.heap_39 w.params).In g) (Tp : Top p loose mean mg mb g) (hcd : CodeHd g 247 243)
    (hch : @Ne Nat 231 deck ∧ @Ne Nat 243 deck ∧ Lt9 deck D ∧ Lt9 D OD ∧ Lt9 231 D ∧ Lt9 243 D)
    (hTG : ∀ g' : Heap, g.StaysIn g' → (∀ q ∈ kept, g'.get? q.1 = some q.2) → MinG w g' T MA MI O f2 ms Ovs lt9 mk9) (hf2 : ∀ k ∈ ms, ∃ M kv, f2 k = some (.ref M) ∧ ∀ g' : Heap, g.StaysIn g' → (∀ q ∈ kept, g'.get? q.1 = some q.2) → MinorAt w g' M k (lt9 k) kv) (lo2 : (MI == sysModules) = false)
    (hkS : (S, instObj 175 D) ∈ kept) (hms0 : 1 ≤ ms.length) (loD : (OD == sysModules) = false)
    (hkm : (ml, listOf mvs.toArray mn) ∈ kept) (hmi : IntsAre mvs ms) (hml : ms.length ≤ 5) (hmnd : ms.Nodup) (hkc : (L + 1, oc) ∈ kept) (hoc : oc.data = .cell (some (.ref OD)))
    (hk1 : ∀ q ∈ kept, q.1 ≠ deck) (hk2 : ∀ q ∈ kept, q.1 ≠ D) (hk3 : ∀ q ∈ kept, q.1 ≠ OD) (hk4 : ∀ q ∈ kept, q.1 ≠ 231) (hk5 : ∀ q ∈ kept, q.1 ≠ 243)
    (hi8 : i < 9) (hΦ : PhiD w deck D OD kept ms i x)
    (F1 : Fr g L h (fun y => if [Str.ofString "deed", Str.ofString "symbol", Str.ofString "line", Str.ofString "due", Str.ofString "own", Str.ofString "argument", Str.ofString "is_user", Str.ofString "was", Str.ofString "lit"].contains y = true then m₁ y else if y = Str.ofString "state" then some (.ref S) else if y = Str.ofString "permanent" then some (.ref PM) else if y = Str.ofString "minors" then some (.ref ml) else if y = Str.ofString "deck" then some (.ref deck) else if y = Str.ofString "table" then some (.ref T) else if y = Str.ofString "parents" then some (.ref pl) else mX y))
    (N1 : News g L h ((I, oI) :: nwD w deck D OD kept x)) (hneI : ∀ q ∈ nwD w deck D OD kept x, q.1 ≠ I)
    (hnext : ∀ (m' : Str → Option Value) h' tk' x', PhiD w deck D OD kept ms (i + 1) x' →
      Fr g L h' (fun y => if [Str.ofString "deed", Str.ofString "symbol", Str.ofString "line", Str.ofString "due", Str.ofString "own", Str.ofString "argument", Str.ofString "is_user", Str.ofString "was", Str.ofString "lit"].contains y = true then m' y else if y = Str.ofString "state" then some (.ref S) else if y = Str.ofString "permanent" then some (.ref PM) else if y = Str.ofString "minors" then some (.ref ml) else if y = Str.ofString "deck" then some (.ref deck) else if y = Str.ofString "table" then some (.ref T) else if y = Str.ofString "parents" then some (.ref pl) else mX y) →
      News g L h' ((I, oI) :: nwD w deck D OD kept x') → (∀ q ∈ nwD w deck D OD kept x', q.1 ≠ I) → K .next { s with heap := h', toks := tk' }) :
    wpAny (model PG w) (callerA.deeper (lawE L fa cd)) (execs (elseOf (lawFor 7)[0]?) (lawE L fa cd)) K (fun _ _ => False) { s with heap := h, toks := tk } := by
  simp only [Lt9] at hch
  (((simp only [lawE] at *); (generalize hsc9 : lawScope = sc9 at *); (conv at hsc9 => lhs; whnf; dsimp only); subst hsc9))
  generalize hbd : elseOf (lawFor 7)[0]? = bd
  conv at hbd => lhs; whnf
  subst hbd
  have hneI0 := hneI
  obtain ⟨xdi, xdep, xds, xn0, xt0, xt1, xu, xmj, xON, xob, xobv, xtb1, xtb2, xovs, xnO, xos, xtail⟩ := x
  obtain ⟨hxdi, hxdn, hxO, hxoi, hxnd, hxsub, hxob, hxobl, hxobk, hxon, hxt1, hxt2, hx1, hx2, hx3, hx4, hx5, hx6⟩ := hΦ
  simp only [nwD] at N1 hneI
  dsimp only at hxdi hxdn hxO hxoi hxnd hxsub hxob hxobl hxobk hxon hxt1 hxt2 hx1 hx2 hx3 hx4 hx5
  have hI1 : ∀ q ∈ kept, q.1 ≠ I := fun q hq => hneI q (by simp [hq])
  have hI2 : ∀ q ∈ xtail, q.1 ≠ I := fun q hq => hneI q (by simp [hq])
  have hI3 : @Ne Nat deck I ∧ @Ne Nat D I ∧ @Ne Nat OD I ∧ @Ne Nat 231 I ∧ @Ne Nat 243 I := ⟨hneI (deck, _) (.head _), hneI (D, _) (.tail _ (.head _)), hneI (OD, _) (.tail _ (.tail _ (.head _))), hneI (231, _) (.tail _ (.tail _ (.tail _ (.head _)))), hneI (243, _) (.tail _ (.tail _ (.tail _ (.tail _ (.head _)))))⟩
  clear hneI
  have hosl : xos.length ≤ 100 := Nat.le_trans (nodup_len hxnd hxsub) (by omega)
  have hml9 := hmi.length
  k_with "M call" =>
    (fail_if_success have := @_root_.Mine.turnD2)
    (((with_reducible show wpAny _ _ (call (Value.ref 222) _) _ _ _); (rename Fr _ _ _ _ => F0'); (rename News _ _ _ _ => N0'); refine' draw_use ?B F0' N0' ?X ?T rfl rfl rfl rfl ?hd ?hu ?P ?hi ?hn ?hk ?hk2 ?_; (case B => assumption); (case X => assumption); (case T => assumption); (case hd => (((try simp only [depth_mark, depth_under_make, depth_under_kw, depth_in1, depth_deeper, depth_caller, units_in1, units_deeper, units_caller, Around.mark_units]); (try dsimp only); omega))); (case hu => (((try simp only [depth_mark, depth_under_make, depth_under_kw, depth_in1, depth_deeper, depth_caller, units_in1, units_deeper, units_caller, Around.mark_units]); (try dsimp only); omega))); (case P => k_extra "PICK"); (case hi => assumption); (case hn => assumption); (case hk => omega); (case hk2 => omega); intro dr dt ditems dep dds h' tk' hdi hdn hdr0 hdr1 F' N'; clear F0' N0'; (have hdr : Bnd9 dr _ := ⟨hdr0, hdr1⟩); clear hdr0 hdr1))
    obtain ⟨hdr0, hdr1⟩ := hdr
  k_with "M item" =>
    (fail_if_success have := @_root_.Mine.turnD2)
    (with_reducible show wpAny _ _ (subscriptTail _ _ (Value.ref ml) (Value.int _ _)) _ _ _)
    rename News _ _ _ _ => N0
    obtain ⟨own, town, hown, hownm⟩ := ints_get hmi hdr0 hdr1
    obtain ⟨Mo, kvo, hfo, hMo⟩ := hf2 own hownm
    refine' item_l N0 ?m1 hdr0 (by omega) hown ?_
    case m1 => k_mem
    try k_fold
  k_with "M item" =>
    (fail_if_success have := @_root_.Mine.turnD2)
    rename News _ _ _ _ => N0
    refine' item_arg N0 ?m1 hdr0 hdr1 ?_
    case m1 => k_mem
    intro a9 ta av hav
    try k_fold
  k_with "M ifexp" =>
    (fail_if_success have := @_root_.Mine.turnD2)
    rename Fr _ _ _ _ => F0
    rename News _ _ _ _ => N0
    refine' due2_eval (b := onv xobv own) (u := dr == 1) B X Tp hav (frAs (frAs (frAs F0 rfl) rfl) rfl) N0 ?_
    intro h' tk' F' N'
    clear F0 N0
    try k_fold
  k_with "M call" =>
    (fail_if_success have := @_root_.Mine.turnD2)
    (with_reducible show wpAny _ _ (call (Value.ref 248) _) _ _ _)
    rename Fr _ _ _ _ => F0
    rename News _ _ _ _ => N0
    refine' law_turned_use (T := T) (MA := MA) (MI := MI) (O := O) (S := S) (D := D) (ON := xON) (ovs := xovs) (os := xos) (M := Mo) (f2 := f2) (lt := lt9 own) (kv := kvo) B F0 N0 X Tp rfl rfl rfl rfl (by (((try simp only [depth_mark, depth_under_make, depth_under_kw, depth_in1, depth_deeper, depth_caller, units_in1, units_deeper, units_caller, Around.mark_units]); (try dsimp only); omega))) (by (((try simp only [depth_mark, depth_under_make, depth_under_kw, depth_in1, depth_deeper, depth_caller, units_in1, units_deeper, units_caller, Around.mark_units]); (try dsimp only); omega))) ?P hcd ?hD2 hav hxoi hosl lo2 ?hTb hfo ?hf ?_
    case P => k_extra "PICKS"
    case hD2 => k_ne
    case hTb => exact hxt2.mono fun d o hm => by k_mem
    case hf => exact fun g' hg hr => ⟨(hTG g' hg fun q hq => hr q (by k_mem)).tab, (hTG g' hg fun q hq => hr q (by k_mem)).mi, hMo g' hg fun q hq => hr q (by k_mem), hr (_, _) (by k_mem), ⟨_, hr (xON, _) (by k_mem), rfl, _, rfl⟩⟩
    intro n' t0 t1 u' ON' ovs' n2 RT tb' tlS h' tk' hOv hONm hRTm hTb1 hApS F' N'
    simp only [List.cons_append] at N'
    clear F0 N0
  k_steps
  · rename Fr _ _ _ _ => F9
    rename News _ _ _ _ => N9
    rename Obj.IsDictOf _ _ (stored _ _ _) => hO9
    rename Obj => o9
    rename (true = true ∧ _) => hq
    have hq2 := hq.2
    refine hnext _ _ _ ⟨ditems, dep, dds, n', t0, t1, u', xmj, ON', o9, stored xobv own (.bool (want (onv xobv own) (dr == 1) a9)), xtb1, tb', ovs', n2, (xos.filter fun x => decide (x ≠ own)) ++ (if want (xos.any (· == own)) (dr == 1) a9 = true then [own] else []), xtail ++ tlS⟩ ?q1 (frCanon F9 ?q2) ?q3 ?q4
    case q1 =>
      refine ⟨hdi, hdn, List.mem_append_right _ hONm, hOv, turned_nodup hxnd, turned_sub hxsub hownm, hO9, Nat.le_trans (stored_length_le _ _ _) (by show _ + 1 ≤ 5 * (i + 1); omega), hxobk.stored _ _, fun k hk => by dsimp only; rw [onv_stored, turned_any, hxon k hk, hq2], hxt1.mono fun d o hm => List.mem_append_left _ hm, ?_, ?_, ?_, ?_, ?_, ?_, ?_⟩
      · rcases hTb1 with h | h
        · exact h.mono fun d o hm => List.mem_append_right _ hm
        · dsimp only; rw [h]; exact hxt2.mono fun d o hm => List.mem_append_left _ hm
      · exact List.forall_mem_append.mpr ⟨hx1, Apart.all hApS (by k_mem)⟩
      · exact List.forall_mem_append.mpr ⟨hx2, Apart.all hApS (by k_mem)⟩
      · exact List.forall_mem_append.mpr ⟨hx3, Apart.all hApS (by k_mem)⟩
      · exact List.forall_mem_append.mpr ⟨hx4, Apart.all hApS (by k_mem)⟩
      · exact List.forall_mem_append.mpr ⟨hx5, Apart.all hApS (by k_mem)⟩
      · exact List.forall_mem_append.mpr ⟨hx6, fun q hq r hr => hApS q hq r (by k_mem)⟩
    case q2 => ((intro z h3; (try dsimp only); (simp only [List.contains_cons, List.contains_nil, Bool.or_false, Bool.or_eq_false_iff, beq_eq_false_iff_ne, ne_eq] at h3); first | (simp [h3]; done) | (simp only [h3, if_false, ite_false, List.contains_cons, List.contains_nil, Bool.or_false]; simp [h3]; done)))
    case q3 => exact deed_news N9 (by k_mem) (by k_mem) (by k_mem) (by k_mem) (by k_mem) (by k_mem) (fun q hq => by k_mem) (List.forall_mem_append.mpr ⟨fun q hq => by k_mem, fun q hq => by k_mem⟩)
    case q4 => exact deed_ne hneI0 (List.forall_mem_append.mpr ⟨hI2, Apart.all hApS (by k_mem)⟩)
  · rename ¬ (true = true ∧ _) => hq
    exact absurd ⟨rfl, by rw [hxon own hownm]⟩ hq
theorem hk_LD3_0 : True := by
  k_with "HsubscriptTail Name Slice ref ref" => (fail_if_success have := @_root_.Mine.deedEnd); (k_here; (with_reducible show wpAny _ _ (subscriptTail _ (PySem.Expr.Slice none none (some _) _) (Value.ref _) (Value.ref _)) _ _ _); k_dflt (refine' krv_ints ?Fq65 ?Nq65 ?lq65 ?kq65 ?iq65 ?_ ?sq65 ?tq65 ?zq65; (case Fq65 => k_asm); (case Nq65 => k_asm); (case lq65 => (first | exact News.isList (by k_asm) (by k_mem) | exact isList_keeps (Fr.keep (by k_asm)) (by assumption))); (case kq65 => exact IsPart.int _ _); (case iq65 => assumption); (case sq65 => with_unfolding_all rfl); (case tq65 => kmk_pure); (case zq65 => kmk_size)); intro revD revW h' F' N' l1 hRev hRevL; (try k_lt l1); (try k_sweep))
  k_with "Hcall builtin:str.join" => (fail_if_success have := @_root_.Mine.deedEnd); (k_here; k_dflt (k_extra "M join"))
  k_with "Hcall builtin:sorted" => (fail_if_success have := @_root_.Mine.deedEnd); (k_here; (with_reducible show wpAny _ _ (call (Value.builtin _) [Value.ref _]) _ _ _); k_dflt (refine' kso_sorted ?k1q67 ?k2q67 ?k3q67 ?k4q67 ?k5q67 ?_; (case k1q67 => k_asm); (case k2q67 => k_asm); (case k3q67 => (first | exact News.isList (by k_asm) (by k_mem) | exact isList_keeps (Fr.keep (by k_asm)) (by assumption))); (case k4q67 => assumption); (case k5q67 => omega); k_whole); intro D' v' n' c' h' F' N' l1 i' e' p' o' b'; (try k_lt l1); clear b'; (try k_sweep))
  trivial
noncomputable def ltc (k : Int) : Str := if 0 ≤ k ∧ k < 100 then lt9 k else Str.ofString ""
theorem ltc_of {k : Int} (h : 0 ≤ k ∧ k < 100) : ltc k = Str.ofString " " ++ Str.ofString (toString k) := if_pos h
theorem ltc_len (k : Int) : (ltc k).length ≤ 11 := by
  unfold ltc
  split
  · exact KT.len_app (A := 1) (B := 10) (by decide) (KT.len_num (by omega) (by omega))
  · decide
theorem MinG.ltc {w : World} {g : Heap} {T MA MI O : Addr} {f2 : Int → Option Value} {ms : List Int} {mvs : List Value} {mk : Int → Option Int} (H : MinG w g T MA MI O f2 ms mvs lt9 mk) (hr : ∀ k ∈ ms, 0 ≤ k ∧ k < 100) : MinG w g T MA MI O f2 ms mvs Mine.ltc mk :=
  ⟨H.tab, H.mi, H.lo2, H.hord, H.hints, H.hlen, fun k hk => by have := H.hmode k hk; unfold Mine.ltc; rw [if_pos (hr k hk)]; exact this⟩
set_option maxHeartbeats 8000000 in
theorem deedEnd {w : World} {p : Program} {loose : List Str} {mean : ExcName → Option Value} {mg mb : Str → Option Value} {g : Heap} {L fa : Addr} {cd : Value} {s : Shared} {K : Flow → Shared → Prop}
    {deck D OD S PM ml T MA MI O pl : Addr} {oPM oc : Obj} {pkv : List (Int × Value)} {pvs mvs : List Value} {pn mn : Nat} {ps ms : List Int} {mX m₁ : Str → Option Value} {kept : List (Addr × Obj)} {i tk : Nat} {h : Heap} {I : Addr} {oI : Obj} {x : XD}
    {f2 : Int → Option Value} {Ovs : List Value}
    (B : Below callerA g [] g) (X : (Mine.hd.heap_39 w.params).In g) (Tp : Top p loose mean mg mb g) (hO9 : IntsAre Ovs ms)
    (hch : @Ne Nat 231 deck ∧ @Ne Nat 243 deck ∧ Lt9 deck D ∧ Lt9 D OD ∧ Lt9 231 D ∧ Lt9 243 D)
    (hTG : ∀ g' : Heap, g.StaysIn g' → (∀ q ∈ kept, g'.get? q.1 = some q.2) → MinG w g' T MA MI O f2 ms Ovs lt9 mk9) (hf2 : ∀ k ∈ ms, ∃ M kv, f2 k = some (.ref M) ∧ ∀ g' : Heap, g.StaysIn g' → (∀ q ∈ kept, g'.get? q.1 = some q.2) → MinorAt w g' M k (lt9 k) kv) (lo2 : (MI == sysModules) = false)
    (hkS : (S, instObj 175 D) ∈ kept) (hms0 : 1 ≤ ms.length) (loD : (OD == sysModules) = false)
    (hkm : (ml, listOf mvs.toArray mn) ∈ kept) (hmi : IntsAre mvs ms) (hml : ms.length ≤ 5) (hmr : ∀ k ∈ ms, 0 ≤ k ∧ k < 100) (hmnd : ms.Nodup) (hkc : (L + 1, oc) ∈ kept) (hoc : oc.data = .cell (some (.ref OD)))
    (hk1 : ∀ q ∈ kept, q.1 ≠ deck) (hk2 : ∀ q ∈ kept, q.1 ≠ D) (hk3 : ∀ q ∈ kept, q.1 ≠ OD) (hk4 : ∀ q ∈ kept, q.1 ≠ 231) (hk5 : ∀ q ∈ kept, q.1 ≠ 243)
    (hi8 : i ≤ 9) (hΦ : PhiD w deck D OD kept ms i x)
    (F1 : Fr g L h (fun y => if [Str.ofString "deed", Str.ofString "symbol", Str.ofString "line", Str.ofString "due", Str.ofString "own", Str.ofString "argument", Str.ofString "is_user", Str.ofString "was", Str.ofString "lit"].contains y = true then m₁ y else if y = Str.ofString "state" then some (.ref S) else if y = Str.ofString "permanent" then some (.ref PM) else if y = Str.ofString "minors" then some (.ref ml) else if y = Str.ofString "deck" then some (.ref deck) else if y = Str.ofString "table" then some (.ref T) else if y = Str.ofString "parents" then some (.ref pl) else mX y))
    (N1 : News g L h ((I, oI) :: nwD w deck D OD kept x)) (hneI : ∀ q ∈ nwD w deck D OD kept x, q.1 ≠ I)
    (hnext : ∀ (m' : Str → Option Value) h' tk' x', PhiD w deck D OD kept ms i x' →
      Fr g L h' (fun y => if [Str.ofString "deed", Str.ofString "symbol", Str.ofString "line", Str.ofString "due", Str.ofString "own", Str.ofString "argument", Str.ofString "is_user", Str.ofString "was", Str.ofString "lit"].contains y = true then m' y else if y = Str.ofString "state" then some (.ref S) else if y = Str.ofString "permanent" then some (.ref PM) else if y = Str.ofString "minors" then some (.ref ml) else if y = Str.ofString "deck" then some (.ref deck) else if y = Str.ofString "table" then some (.ref T) else if y = Str.ofString "parents" then some (.ref pl) else mX y) →
      News g L h' ((I, oI) :: nwD w deck D OD kept x') → (∀ q ∈ nwD w deck D OD kept x', q.1 ≠ I) → K .next { s with heap := h', toks := tk' }) :
    wpAny (model PG w) (callerA.deeper (lawE L fa cd)) (execs ((lawFor 7).drop 1) (lawE L fa cd)) K (fun _ _ => False) { s with heap := h, toks := tk } := by
  simp only [Lt9] at hch
  (((simp only [lawE] at *); (generalize hsc9 : lawScope = sc9 at *); (conv at hsc9 => lhs; whnf; dsimp only); subst hsc9))
  generalize hbd : (lawFor 7).drop 1 = bd
  conv at hbd => lhs; whnf
  subst hbd
  have hneI0 := hneI
  obtain ⟨xdi, xdep, xds, xn0, xt0, xt1, xu, xmj, xON, xob, xobv, xtb1, xtb2, xovs, xnO, xos, xtail⟩ := x
  obtain ⟨hxdi, hxdn, hxO, hxoi, hxnd, hxsub, hxob, hxobl, hxobk, hxon, hxt1, hxt2, hx1, hx2, hx3, hx4, hx5, hx6⟩ := hΦ
  simp only [nwD] at N1 hneI
  dsimp only at hxdi hxdn hxO hxoi hxnd hxsub hxob hxobl hxobk hxon hxt1 hxt2 hx1 hx2 hx3 hx4 hx5
  have hI1 : ∀ q ∈ kept, q.1 ≠ I := fun q hq => hneI q (by simp [hq])
  have hI2 : ∀ q ∈ xtail, q.1 ≠ I := fun q hq => hneI q (by simp [hq])
  have hI3 : @Ne Nat deck I ∧ @Ne Nat D I ∧ @Ne Nat OD I ∧ @Ne Nat 231 I ∧ @Ne Nat 243 I := ⟨hneI (deck, _) (.head _), hneI (D, _) (.tail _ (.head _)), hneI (OD, _) (.tail _ (.tail _ (.head _))), hneI (231, _) (.tail _ (.tail _ (.tail _ (.head _)))), hneI (243, _) (.tail _ (.tail _ (.tail _ (.tail _ (.head _)))))⟩
  clear hneI
  have hosl : xos.length ≤ 5 := Nat.le_trans (nodup_len hxnd hxsub) hml
  have hml9 := hmi.length
  have hlitN := lit_nodup (os := xos) hmnd
  have hlitM := lit_mem hxsub
  have hlitL : (ms.reverse.filter (fun x => xos.any (· == x))).length ≤ 5 := Nat.le_trans (List.length_filter_le _ _) (by rw [List.length_reverse]; exact hml)
  k_with "M src" =>
    (fail_if_success have := @_root_.Mine.deedEnd)
    with_reducible show LCt.CompSrcT _ _ _ _ _ _ _ _ (Expr.Name (Str.ofString "own") _) _ _ _ _ _ _
    have hWl := hRev.length
    rw [List.length_reverse] at hWl
    rename Fr _ _ _ _ => F0
    rename News _ _ _ _ => N0
    k_dflt (refine LCt.CompSrcT.ledger rfl F0 N0 (by k_mem) (by rw [PySem.sizeLine_eq]; simp; omega) ?_)
    intro g2
    k_dflt (refine' compT_fix (fun j ys => IntsAre ys ((ms.reverse.take j).filter (onv xobv)) ∧ ys.length ≤ j) ⟨.nil, Nat.le_refl _⟩ ?_ ?_)
    rotate_left
    intro ys hys LT h tk F1 N1 off
    simp only [LCg.Off1, off1_app] at off
    obtain ⟨hys, hysN⟩ := hys
    rw [List.size_toArray, hWl, ← List.length_reverse, List.take_length, lit_eq hxon] at hys
    generalize hlits : ms.reverse.filter (fun x => xos.any (· == x)) = lits at hys hlitN hlitM hlitL
    have hysL := hys.length
    rw [List.size_toArray] at hysN
    clear F0 N0
    try k_fold
    rotate_left
    clear F0 N0
    intro j v ys I3 oI3 C oC LT m₃ h tk E' hj hP hJ hC hx F1 N1 off ne
    obtain ⟨own, town, rfl, hown⟩ := IntsAre.at hRev j v (by simpa using hP)
    have hoff := off
    simp only [LCg.Off3, and_true] at hoff
    try k_fold
  k_with "M call" =>
    (fail_if_success have := @_root_.Mine.deedEnd)
    (with_reducible show wpAny _ _ (call (Value.ref 208) _) _ _ _)
    rename Fr _ _ _ _ => F0
    rename News _ _ _ _ => N0
    have hM9 := ((hTG _ F0.keep fun q hq => (N0 q (by k_mem)).1).ltc hmr)
    refine' lighters_use (S := S) (D := D) (ON := xON) (ovs := xovs) (os := xos) B F0 N0 X Tp rfl rfl rfl rfl (by (((try simp only [depth_mark, depth_under_make, depth_under_kw, depth_in1, depth_deeper, depth_caller, units_in1, units_deeper, units_caller, Around.mark_units]); (try dsimp only); omega))) (by (((try simp only [depth_mark, depth_under_make, depth_under_kw, depth_in1, depth_deeper, depth_caller, units_in1, units_deeper, units_caller, Around.mark_units]); (try dsimp only); omega))) hM9 (fun k => Nat.le_trans (ltc_len k) (by decide)) ?l1 ?l2 ?l3 hxoi ?_
    case l1 => exact N0.get (by k_mem)
    case l2 => exact N0.get (by k_mem)
    case l3 => exact (N0.isList (by k_mem))
    intro tlt h' tk' F' N'
    rw [litText_join, hlits]
    clear F0 N0
    try k_fold
  k_with "M src" =>
    (fail_if_success have := @_root_.Mine.deedEnd)
    with_reducible show LCg.CompSrc _ _ _ _ _ _ _ (Expr.BinOp (Expr.Constant _ _ _) _ _ _) _ _ _ _ _ _
    rename Fr _ _ _ _ => F0
    rename News _ _ _ _ => N0
    k_dflt (refine LCg.CompSrc.ledger rfl F0 N0 (by k_mem) (by rw [PySem.sizeLine_eq]; simp; omega) ?_)
    intro g2
    k_dflt (refine' compU_fix (fun j zs => CarriedAll zs ((lits.take j).map fun a => PyData.str (ltc a)) ∧ zs.length ≤ j) ⟨.nil, Nat.le_refl _⟩ ?_ ?_)
    rotate_left
    intro zs hzs LZ h tk F1 N1 off
    simp only [LCg.Off1, off1_app] at off
    obtain ⟨hzs, hzsN⟩ := hzs
    rw [List.size_toArray, hysL, List.take_length] at hzs
    clear F0 N0
    try k_fold
    rotate_left
    clear F0 N0
    intro j v zs I3 oI3 C oC LZ m₃ h tk E' hj hP hJ hC hx F1 N1 off ne
    obtain ⟨own, town, rfl, hown⟩ := IntsAre.at hys j v (by simpa using hP)
    have hoff := off
    simp only [LCg.Off3, and_true] at hoff
    have hownr := hmr own (by have h1 := List.mem_of_getElem? hown; rw [← hlits] at h1; exact List.mem_reverse.mp (List.mem_filter.mp h1).1)
    have hown0 := hownr.1
    have hown1 := hownr.2
    try k_fold
  k_with "M join" =>
    (fail_if_success have := @_root_.Mine.deedEnd)
    rename CarriedAll _ _ => hzs
    refine' KT.join_B 11 ?l hzs (fun a _ => ltc_len a) (by omega) (by decide) ?_
    case l => (first | exact News.isList (by k_asm) (by k_mem) | exact isList_keeps (Fr.keep (by k_asm)) (by assumption))
    intro tj kj
    try k_fold
  k_with "M call" =>
    (fail_if_success have := @_root_.Mine.deedEnd)
    (with_reducible show wpAny _ _ (call (Value.ref 215) _) _ _ _)
    rename Fr _ _ _ _ => F0
    rename News _ _ _ _ => N0
    refine' minor_keymaps_use (S := S) (D := D) (ON := xON) (ovs := xovs) (os := xos) B F0 N0 X Tp rfl rfl rfl rfl (by (((try simp only [depth_mark, depth_under_make, depth_under_kw, depth_in1, depth_deeper, depth_caller, units_in1, units_deeper, units_caller, Around.mark_units]); (try dsimp only); omega))) (by (((try simp only [depth_mark, depth_under_make, depth_under_kw, depth_in1, depth_deeper, depth_caller, units_in1, units_deeper, units_caller, Around.mark_units]); (try dsimp only); omega))) (hTG _ F0.keep fun q hq => (N0 q (by k_mem)).1) ?l1 ?l2 ?l3 hxoi ?_
    case l1 => exact N0.get (by k_mem)
    case l2 => exact N0.get (by k_mem)
    case l3 => exact (N0.isList (by k_mem))
    intro KM kits kn h' tk' hkits hKM F' N'
    rw [hlits] at hkits
    clear F0 N0
    try k_fold
  k_with "M src" =>
    (fail_if_success have := @_root_.Mine.deedEnd)
    with_reducible show LCt.CompSrcT _ _ _ _ _ _ _ _ (Expr.BinOp _ _ _ _) _ _ _ _ _ _
    rename Fr _ _ _ _ => F0
    rename News _ _ _ _ => N0
    k_dflt (refine LCt.CompSrcT.ledger rfl F0 N0 (by k_mem) (by rw [PySem.sizeLine_eq]; simp; omega) ?_)
    intro g2
    k_dflt (refine' compT_fix (fun j zs => IntsAre zs ((lits.take j).filterMap mk9) ∧ zs.length ≤ j) ⟨.nil, Nat.le_refl _⟩ ?_ ?_)
    rotate_left
    intro ks hks LK h tk F1 N1 off
    simp only [LCg.Off1, off1_app] at off
    obtain ⟨hks, hksN⟩ := hks
    rw [List.size_toArray, hysL, List.take_length] at hks
    rw [List.size_toArray] at hksN
    clear F0 N0
    try k_fold
    rotate_left
    clear F0 N0
    intro j v zs I3 oI3 C oC LK m₃ h tk E' hj hP hJ hC hx F1 N1 off ne
    obtain ⟨own, town, rfl, hown⟩ := IntsAre.at hys j v (by simpa using hP)
    have hoff := off
    simp only [LCg.Off3, and_true] at hoff
    try k_fold
  k_steps
  · rename onv xobv own = true => hb
    rw [filter_take _ hown, if_pos hb]
    exact hJ.1.append (.cons _ _ .nil)
  · rename onv xobv own = false => hb
    rw [filter_take _ hown, if_neg (by rw [hb]; exact Bool.false_ne_true), List.append_nil]
    exact hJ.1
  · rw [map_take _ hown]
    exact carried_snoc hJ.1 (.cons (by rw [ltc_of hownr]; constructor) .nil)
  · rename (_ != _) = true => hb
    rw [bne_self_eq_false] at hb
    exact absurd hb Bool.false_ne_true
  · rename Int.fmod own 2 = 0 => hb
    rw [filterMap_take _ hown]
    simp only [mk9, hb, if_true]
    exact hJ.1.append (.cons _ _ .nil)
  · rename Int.fmod own 2 ≠ 0 => hb
    rw [filterMap_take _ hown]
    simp only [mk9, hb, if_false, Option.toList_none, List.append_nil]
    exact hJ.1
  · rename Fr _ _ _ _ => F9
    rename News _ _ _ _ => N9
    refine hnext _ _ _ ⟨xdi, xdep, xds, xn0, xt0, xt1, xu, xmj, xON, xob, xobv, xtb1, xtb2, xovs, xnO, xos, xtail⟩ ⟨hxdi, hxdn, hxO, hxoi, hxnd, hxsub, hxob, hxobl, hxobk, hxon, hxt1, hxt2, hx1, hx2, hx3, hx4, hx5, hx6⟩ (frCanon F9 ?q2) ?q3 hneI0
    case q2 => ((intro z h3; (try dsimp only); (simp only [List.contains_cons, List.contains_nil, Bool.or_false, Bool.or_eq_false_iff, beq_eq_false_iff_ne, ne_eq] at h3); first | (simp [h3]; done) | (simp only [h3, if_false, ite_false, List.contains_cons, List.contains_nil, Bool.or_false]; simp [h3]; done)))
    case q3 => exact deed_news N9 (by k_mem) (by k_mem) (by k_mem) (by k_mem) (by k_mem) (by k_mem) (fun q hq => by k_mem) (fun q hq => by k_mem)
  · rename ¬ _ = _ => hq
    refine absurd (sorted_same ?p1 ?p2 ?o1 ?o2 hxnd hlitN hlitM) hq
    case p1 => assumption
    case p2 => assumption
    case o1 => assumption
    case o2 => assumption
/-- the test of a statement If -/
noncomputable def testOf : Option Stmt → PySem.Expr
  | some (.If t _ _ _) => t
  | _ => default
noncomputable def posOf : Option Stmt → Pos
  | some (.If _ _ _ p) => p
  | _ => default
theorem law7 : lawFor 7 = .If (testOf (lawFor 7)[0]?) (thenOf (lawFor 7)[0]?) (elseOf (lawFor 7)[0]?) (posOf (lawFor 7)[0]?) :: (lawFor 7).drop 1 := by
  with_unfolding_all rfl
set_option maxHeartbeats 8000000 in
theorem deed_head {w : World} {p : Program} {loose : List Str} {mean : ExcName → Option Value} {mg mb : Str → Option Value} {g : Heap} {L fa : Addr} {cd : Value} {s : Shared} {K : Flow → Shared → Prop} {bt be br : List Stmt} {pos pos2 : Pos}
    {deck : Addr} {xdi : List Value} {xdep : Nat} {xds : List Int} {mX : Str → Option Value} {rest : List (Addr × Obj)} {I : Addr} {oI : Obj} {i : Nat} {tv : Tok}
    (B : Below callerA g [] g) (X : (Mine.hd.heap_39 w.params).In g) (Tp : Top p loose mean mg mb g)
    (hrd : ∀ q ∈ rest, q.1 ≠ deck) (hId : @Ne Nat deck I) (hxdi : IntsAre xdi xds) (hxdn : xdi.length ≤ 60)
    (F1 : Fr g L s.heap (fun y => if y = Str.ofString "deck" then some (.ref deck) else mX y))
    (N1 : News g L s.heap ((I, oI) :: (deck, listOf xdi.toArray xdep) :: rest))
    (ht : ∀ di dep ds h tk, IntsAre di ds → di.length ≤ 60 → Fr g L h (fun y => if y = Str.ofString "deed" then some (.int (i : Int) tv) else if y = Str.ofString "deck" then some (.ref deck) else mX y) → News g L h ((I, oI) :: (deck, listOf (List.toArray di) dep) :: rest) →
      wpAny (model PG w) (callerA.deeper (lawE L fa cd)) (execs bt (lawE L fa cd)) (fun f s' => match f with | .next => wpAny (model PG w) (callerA.deeper (lawE L fa cd)) (execs br (lawE L fa cd)) K (fun _ _ => False) s' | f => K f s') (fun _ _ => False) { s with heap := h, toks := tk })
    (he : ∀ di dep ds h tk, IntsAre di ds → di.length ≤ 60 → Fr g L h (fun y => if y = Str.ofString "deed" then some (.int (i : Int) tv) else if y = Str.ofString "deck" then some (.ref deck) else mX y) → News g L h ((I, oI) :: (deck, listOf (List.toArray di) dep) :: rest) →
      wpAny (model PG w) (callerA.deeper (lawE L fa cd)) (execs be (lawE L fa cd)) (fun f s' => match f with | .next => wpAny (model PG w) (callerA.deeper (lawE L fa cd)) (execs br (lawE L fa cd)) K (fun _ _ => False) s' | f => K f s') (fun _ _ => False) { s with heap := h, toks := tk }) :
    wpAny (model PG w) (callerA.deeper (lawE L fa cd)) (assign (.Name (Str.ofString "deed") pos) (lawE L fa cd) (.int (i : Int) tv)) (fun _ s₂ => wpAny (model PG w) (callerA.deeper (lawE L fa cd)) (execs (.If (testOf (lawFor 7)[0]?) bt be pos2 :: br) (lawE L fa cd)) K (fun _ _ => False) s₂) (fun _ _ => False) s := by
  (((simp only [lawE] at *); (generalize hsc9 : lawScope = sc9 at *); (conv at hsc9 => lhs; whnf; dsimp only); subst hsc9))
  generalize hbd : testOf (lawFor 7)[0]? = bd
  conv at hbd => lhs; whnf
  subst hbd
  k_with "M call" => (fail_if_success have := @_root_.Mine.deed_head); (((with_reducible show wpAny _ _ (call (Value.ref 222) _) _ _ _); (rename Fr _ _ _ _ => F0'); (rename News _ _ _ _ => N0'); refine' draw_use ?B F0' N0' ?X ?T rfl rfl rfl rfl ?hd ?hu ?P ?hi ?hn ?hk ?hk2 ?_; (case B => assumption); (case X => assumption); (case T => assumption); (case hd => (((try simp only [depth_mark, depth_under_make, depth_under_kw, depth_in1, depth_deeper, depth_caller, units_in1, units_deeper, units_caller, Around.mark_units]); (try dsimp only); omega))); (case hu => (((try simp only [depth_mark, depth_under_make, depth_under_kw, depth_in1, depth_deeper, depth_caller, units_in1, units_deeper, units_caller, Around.mark_units]); (try dsimp only); omega))); (case P => k_extra "PICK"); (case hi => assumption); (case hn => assumption); (case hk => omega); (case hk2 => omega); intro dr dt ditems dep dds h' tk' hdi hdn hdr0 hdr1 F' N'; clear F0' N0'; (have hdr : Bnd9 dr _ := ⟨hdr0, hdr1⟩); clear hdr0 hdr1))
  k_steps
  · rename Fr _ _ _ _ => F9
    rename News _ _ _ _ => N9
    exact ht ditems dep dds _ _ hdi hdn F9 (newsPerm N9 (List.forall_mem_cons.mpr ⟨by k_mem, List.forall_mem_cons.mpr ⟨by k_mem, fun q hq => by k_mem⟩⟩))
  · rename Fr _ _ _ _ => F9
    rename News _ _ _ _ => N9
    exact he ditems dep dds _ _ hdi hdn F9 (newsPerm N9 (List.forall_mem_cons.mpr ⟨by k_mem, List.forall_mem_cons.mpr ⟨by k_mem, fun q hq => by k_mem⟩⟩))
theorem frUn2 {h₀ h : Heap} {L : Addr} {f : Str → Option Value} {a b : Str} {u v : Option Value} (F : Fr h₀ L h (fun y => if y = a then u else if y = b then v else f y)) (e : f b = v) : Fr h₀ L h (fun y => if y = a then u else f y) := by
  have : (fun y => if y = a then u else if y = b then v else f y) = (fun y => if y = a then u else f y) := by
    funext y
    by_cases hy : y = b
    · subst hy; simp only [if_true, e]
    · simp only [hy, if_false]
  rw [← this]; exact F
theorem PhiD.deck {w : World} {deck D OD : Addr} {kept : List (Addr × Obj)} {ms : List Int} {i : Nat} {x : XD} (h : PhiD w deck D OD kept ms i x) {di : List Value} {dep : Nat} {ds : List Int} (h1 : IntsAre di ds) (h2 : di.length ≤ 60) :
    PhiD w deck D OD kept ms i ⟨di, dep, ds, x.n0, x.t0, x.t1, x.u, x.mj, x.ON, x.ob, x.obv, x.tb1, x.tb2, x.ovs, x.nO, x.os, x.tail⟩ :=
  ⟨h1, h2, h.hO, h.hoi, h.hnd, h.hsub, h.hob, h.hobl, h.hobk, h.hon, h.ht1, h.ht2, h.o1, h.o2, h.o3, h.o4, h.o5, h.off⟩
set_option maxHeartbeats 4000000 in
theorem turnD {w : World} {p : Program} {loose : List Str} {mean : ExcName → Option Value} {mg mb : Str → Option Value} {g : Heap} {L fa : Addr} {cd : Value} {s : Shared} {Q : Flow → Shared → Prop} {pos : Pos} {tv : Tok}
    {deck D OD S PM ml T MA MI O pl : Addr} {oPM oc : Obj} {pkv : List (Int × Value)} {pvs mvs : List Value} {pn mn : Nat} {ps ms : List Int} {mX m₁ : Str → Option Value} {kept : List (Addr × Obj)} {i tk : Nat} {h : Heap} {I : Addr} {oI : Obj} {x : XD}
    {f f2 : Int → Option Value} {Ovs : List Value} {N : Int} {pa : Int → Int} {km sy : Int → Option Int}
    (B : Below callerA g [] g) (X : (Mine.hd.heap_39 w.params).In g) (Tp : Top p loose mean mg mb g) (hcd1 : CodeHd g 235 231) (hcd2 : CodeHd g 247 243)
    (hch : @Ne Nat 231 deck ∧ @Ne Nat 243 deck ∧ Lt9 deck D ∧ Lt9 D OD ∧ Lt9 231 D ∧ Lt9 243 D)
    (hTG1 : ∀ g' : Heap, g.StaysIn g' → (∀ q ∈ kept, g'.get? q.1 = some q.2) → TabG w g' T MA MI O f N pa km sy) (hp : Par pa) (hN : N ≤ 6) (hN1 : 1 ≤ N)
    (hTG2 : ∀ g' : Heap, g.StaysIn g' → (∀ q ∈ kept, g'.get? q.1 = some q.2) → MinG w g' T MA MI O f2 ms Ovs lt9 mk9) (hf2 : ∀ k ∈ ms, ∃ M kv, f2 k = some (.ref M) ∧ ∀ g' : Heap, g.StaysIn g' → (∀ q ∈ kept, g'.get? q.1 = some q.2) → MinorAt w g' M k (lt9 k) kv) (lo2 : (MI == sysModules) = false) (hO9 : IntsAre Ovs ms)
    (hkS : (S, instObj 175 D) ∈ kept) (hkP : (PM, oPM) ∈ kept) (hPM : oPM.IsDictOf (intKind PG w) pkv) (loP : (PM == sysModules) = false) (loD : (OD == sysModules) = false)
    (hkp : (pl, listOf pvs.toArray pn) ∈ kept) (hpi : IntsAre pvs ps) (hps : ∀ k : Int, 0 ≤ k → k < (ps.length : Int) → ps[k.toNat]? = some (pa k)) (hlen : (ps.length : Int) = N)
    (hkm : (ml, listOf mvs.toArray mn) ∈ kept) (hmi : IntsAre mvs ms) (hms0 : 1 ≤ ms.length) (hml : ms.length ≤ 5) (hmr : ∀ k ∈ ms, 0 ≤ k ∧ k < 100) (hmnd : ms.Nodup) (hkc : (L + 1, oc) ∈ kept) (hoc : oc.data = .cell (some (.ref OD)))
    (hk1 : ∀ q ∈ kept, q.1 ≠ deck) (hk2 : ∀ q ∈ kept, q.1 ≠ D) (hk3 : ∀ q ∈ kept, q.1 ≠ OD) (hk4 : ∀ q ∈ kept, q.1 ≠ 231) (hk5 : ∀ q ∈ kept, q.1 ≠ 243)
    (hi8 : i < 9) (hΦ : PhiD w deck D OD kept ms i x)
    (F1 : Fr g L h (fun y => if [Str.ofString "deed", Str.ofString "symbol", Str.ofString "line", Str.ofString "due", Str.ofString "own", Str.ofString "argument", Str.ofString "is_user", Str.ofString "was", Str.ofString "lit"].contains y = true then m₁ y else if y = Str.ofString "state" then some (.ref S) else if y = Str.ofString "permanent" then some (.ref PM) else if y = Str.ofString "minors" then some (.ref ml) else if y = Str.ofString "deck" then some (.ref deck) else if y = Str.ofString "table" then some (.ref T) else if y = Str.ofString "parents" then some (.ref pl) else mX y))
    (N1 : News g L h ((I, oI) :: nwD w deck D OD kept x)) (hneI : ∀ q ∈ nwD w deck D OD kept x, q.1 ≠ I) :
    wpAny (model PG w) (callerA.deeper (lawE L fa cd)) (assign (.Name (Str.ofString "deed") pos) (lawE L fa cd) (.int (i : Int) tv)) (fun _ s₂ => wpAny (model PG w) (callerA.deeper (lawE L fa cd)) (execs (lawFor 7) (lawE L fa cd)) (TurnEnd (LoopK g L I (JX [Str.ofString "deed", Str.ofString "symbol", Str.ofString "line", Str.ofString "due", Str.ofString "own", Str.ofString "argument", Str.ofString "is_user", Str.ofString "was", Str.ofString "lit"] (nwD w deck D OD kept) (PhiD w deck D OD kept ms)
      (fun y => if y = Str.ofString "state" then some (.ref S) else if y = Str.ofString "permanent" then some (.ref PM) else if y = Str.ofString "minors" then some (.ref ml) else if y = Str.ofString "deck" then some (.ref deck) else if y = Str.ofString "table" then some (.ref T) else if y = Str.ofString "parents" then some (.ref pl) else mX y))) (fun _ h => h.get? I = some oI) (i + 1) s Q) (fun _ _ => False) s₂) (fun _ _ => False) { s with heap := h, toks := tk } := by
  have hrd : ∀ q ∈ (D, stD w x.n0 x.t0 x.t1 x.u x.mj x.ON) :: (OD, x.ob) :: ((231 : Addr), tabObj x.tb1) :: ((243 : Addr), tabObj x.tb2) :: (kept ++ x.tail), q.1 ≠ deck := by
    simp only [Lt9] at hch
    refine List.forall_mem_cons.mpr ⟨Nat.ne_of_gt hch.2.2.1, List.forall_mem_cons.mpr ⟨Nat.ne_of_gt (Nat.lt_trans hch.2.2.1 hch.2.2.2.1), List.forall_mem_cons.mpr ⟨hch.1, List.forall_mem_cons.mpr ⟨hch.2.1, List.forall_mem_append.mpr ⟨hk1, hΦ.o1⟩⟩⟩⟩⟩
  have fin : ∀ (m' : Str → Option Value) h' tk' x', PhiD w deck D OD kept ms (i + 1) x' → Fr g L h' (fun y => if [Str.ofString "deed", Str.ofString "symbol", Str.ofString "line", Str.ofString "due", Str.ofString "own", Str.ofString "argument", Str.ofString "is_user", Str.ofString "was", Str.ofString "lit"].contains y = true then m' y else if y = Str.ofString "state" then some (.ref S) else if y = Str.ofString "permanent" then some (.ref PM) else if y = Str.ofString "minors" then some (.ref ml) else if y = Str.ofString "deck" then some (.ref deck) else if y = Str.ofString "table" then some (.ref T) else if y = Str.ofString "parents" then some (.ref pl) else mX y) →
      News g L h' ((I, oI) :: nwD w deck D OD kept x') → (∀ q ∈ nwD w deck D OD kept x', q.1 ≠ I) →
      wpAny (model PG w) (callerA.deeper (lawE L fa cd)) (execs ((lawFor 7).drop 1) (lawE L fa cd)) (TurnEnd (LoopK g L I (JX [Str.ofString "deed", Str.ofString "symbol", Str.ofString "line", Str.ofString "due", Str.ofString "own", Str.ofString "argument", Str.ofString "is_user", Str.ofString "was", Str.ofString "lit"] (nwD w deck D OD kept) (PhiD w deck D OD kept ms)
      (fun y => if y = Str.ofString "state" then some (.ref S) else if y = Str.ofString "permanent" then some (.ref PM) else if y = Str.ofString "minors" then some (.ref ml) else if y = Str.ofString "deck" then some (.ref deck) else if y = Str.ofString "table" then some (.ref T) else if y = Str.ofString "parents" then some (.ref pl) else mX y))) (fun _ h => h.get? I = some oI) (i + 1) s Q) (fun _ _ => False) { s with heap := h', toks := tk' } := fun m' h' tk' x' a b c d =>
    deedEnd (ps := ps) (pn := pn) (pvs := pvs) (pkv := pkv) (oPM := oPM) B X Tp hO9 hch hTG2 hf2 lo2 hkS hms0 loD hkm hmi hml hmr hmnd hkc hoc hk1 hk2 hk3 hk4 hk5 (by omega) a b c d fun m2 h2 tk2 x2 a2 b2 c2 d2 =>
      turnEndX x2 b2 c2 (fun y hy => by simp only [hy, Bool.false_eq_true, if_false]) (.head _) (fun q hq => .tail _ hq) d2 a2
  rw [law7]
  refine deed_head (xds := x.ds) B X Tp hrd (hneI (deck, _) (.head _)) hΦ.hdi hΦ.hdn (frAs F1 rfl) N1 ?_ ?_
  · intro di dep ds h2 tk2 hdi hdn F2 N2
    exact turnD1 (x := ⟨di, dep, ds, x.n0, x.t0, x.t1, x.u, x.mj, x.ON, x.ob, x.obv, x.tb1, x.tb2, x.ovs, x.nO, x.os, x.tail⟩) B X Tp hcd1 hch hTG1 hp hN hN1 hkS hkP hPM loP loD hkp hpi hps hlen hkm hmi hml hmnd hkc hoc hk1 hk2 hk3 hk4 hk5 hi8 (hΦ.deck hdi hdn) (frCanon (frUn2 F2 rfl) (by ((intro z h3; (try dsimp only); (simp only [List.contains_cons, List.contains_nil, Bool.or_false, Bool.or_eq_false_iff, beq_eq_false_iff_ne, ne_eq] at h3); first | (simp [h3]; done) | (simp only [h3, if_false, ite_false, List.contains_cons, List.contains_nil, Bool.or_false]; simp [h3]; done))))) N2 (deed_ne hneI fun q hq => hneI q (List.mem_cons_of_mem _ (List.mem_cons_of_mem _ (List.mem_cons_of_mem _ (List.mem_cons_of_mem _ (List.mem_cons_of_mem _ (List.mem_append_right _ hq))))))) fun m' h' tk' x' a b c d => fin m' h' tk' x' a b c d
  · intro di dep ds h2 tk2 hdi hdn F2 N2
    exact turnD2 (ps := ps) (pn := pn) (pvs := pvs) (pkv := pkv) (oPM := oPM) (x := ⟨di, dep, ds, x.n0, x.t0, x.t1, x.u, x.mj, x.ON, x.ob, x.obv, x.tb1, x.tb2, x.ovs, x.nO, x.os, x.tail⟩) B X Tp hcd2 hch hTG2 hf2 lo2 hkS hms0 loD hkm hmi hml hmnd hkc hoc hk1 hk2 hk3 hk4 hk5 hi8 (hΦ.deck hdi hdn) (frCanon (frUn2 F2 rfl) (by ((intro z h3; (try dsimp only); (simp only [List.contains_cons, List.contains_nil, Bool.or_false, Bool.or_eq_false_iff, beq_eq_false_iff_ne, ne_eq] at h3); first | (simp [h3]; done) | (simp only [h3, if_false, ite_false, List.contains_cons, List.contains_nil, Bool.or_false]; simp [h3]; done))))) N2 (deed_ne hneI fun q hq => hneI q (List.mem_cons_of_mem _ (List.mem_cons_of_mem _ (List.mem_cons_of_mem _ (List.mem_cons_of_mem _ (List.mem_cons_of_mem _ (List.mem_append_right _ hq))))))) fun m' h' tk' x' a b c d => fin m' h' tk' x' a b c d
theorem loopD {w : World} {A : Around} {s : Shared} {env : Env} {h₀ : Heap} {Q : Flow → Shared → Prop} {L : Addr} {target : PySem.Expr} {body : List Stmt} {m₀ : Str → Option Value} {r deck D OD : Addr} {b : Int} {t u v : Tok} {kept : List (Addr × Obj)} {ms : List Int} {stored : List Str} {x0 : XD} (n : Nat) (hh : A.handled = none)
    (F : Fr h₀ L s.heap m₀) (N : News h₀ L s.heap (nwD w deck D OD kept x0)) (hr : IsRange s.heap r 0 b 1 t u v) (hb : b = (n : Int)) (hn : n < 9) (h0 : PhiD w deck D OD kept ms 0 x0)
    (turn : ∀ i tv (m₁ : Str → Option Value) h tk I oI x, i < n → PhiD w deck D OD kept ms i x → Fr h₀ L h (fun y => if stored.contains y = true then m₁ y else m₀ y) → News h₀ L h ((I, oI) :: nwD w deck D OD kept x) → (∀ q ∈ nwD w deck D OD kept x, q.1 ≠ I) →
      wpAny (model PG w) A (assign target env (.int (i : Int) tv)) (fun _ s₂ => wpAny (model PG w) A (execs body env) (TurnEnd (LoopK h₀ L I (JX stored (nwD w deck D OD kept) (PhiD w deck D OD kept ms) m₀)) (fun _ h => h.get? I = some oI) (i + 1) s Q) (fun _ _ => False) s₂) (fun _ _ => False) { s with heap := h, toks := tk })
    (done : ∀ (m₁ : Str → Option Value) h tk x, PhiD w deck D OD kept ms n x → Fr h₀ L h (fun y => if stored.contains y = true then m₁ y else m₀ y) → News h₀ L h (nwD w deck D OD kept x) → Q .next { s with heap := h, toks := tk })
    (ht : ∀ I v, letOwnedTupleGo target (.ref I) v = pure () := by intro _ _; rfl) :
    wpAny (model PG w) A (pyIter (.ref r)) (fun it s₂ => ForAt PG w A env target body Q it s₂) (fun _ _ => False) s := by
  subst hb
  exact forRangeX stored (nwD w deck D OD kept) (PhiD w deck D OD kept ms) x0 hh F N (fun q hq => hq) hr (small9 (by omega) (by omega)) (rangeSize9 n) h0
    (fun i tv m₁ h tk I oI x hi hΦ F1 N1 hne => by rw [Int.zero_add]; exact turn i tv m₁ h tk I oI x hi hΦ F1 N1 hne) done ht
set_option maxHeartbeats 8000000 in
theorem phase7 {w : World} {p : Program} {loose : List Str} {mean : ExcName → Option Value} {mg mb : Str → Option Value} {g : Heap} {L fa : Addr} {cd : Value} {s : Shared} {Q : Flow → Shared → Prop}
    {deck D OD S PM ml T dT MA MI O pl : Addr} {nT : Nat} {q0 q1 q2 : Tok} {oMA oPM oc : Obj} {kvs pkv : List (Int × Value)} {pvs mvs : List Value} {pn mn : Nat} {ps ms : List Int} {mX : Str → Option Value} {kr : List (Addr × Obj)} {x : XD}
    {f f2 : Int → Option Value} {Ovs : List Value} {N : Int} {pa : Int → Int} {km sy : Int → Option Int}
    (B : Below callerA g [] g) (X : (Mine.hd.heap_39 w.params).In g) (Tp : Top p loose mean mg mb g) (hcd1 : CodeHd g 235 231) (hcd2 : CodeHd g 247 243)
    (hch : @Ne Nat 231 deck ∧ @Ne Nat 243 deck ∧ Lt9 deck D ∧ Lt9 D OD ∧ Lt9 231 D ∧ Lt9 243 D)
    (hTG1 : ∀ g' : Heap, g.StaysIn g' → (∀ q ∈ (MA, oMA) :: kr, g'.get? q.1 = some q.2) → TabG w g' T MA MI O f N pa km sy) (hp : Par pa) (hN : N ≤ 6) (hN1 : 1 ≤ N)
    (hTG2 : ∀ g' : Heap, g.StaysIn g' → (∀ q ∈ (MA, oMA) :: kr, g'.get? q.1 = some q.2) → MinG w g' T MA MI O f2 ms Ovs lt9 mk9) (hf2 : ∀ k ∈ ms, ∃ M kv, f2 k = some (.ref M) ∧ ∀ g' : Heap, g.StaysIn g' → (∀ q ∈ (MA, oMA) :: kr, g'.get? q.1 = some q.2) → MinorAt w g' M k (lt9 k) kv) (lo2 : (MI == sysModules) = false) (hO9 : IntsAre Ovs ms)
    (hkT1 : (T, instObj 147 dT) ∈ kr) (hkT2 : (dT, dictOf [ent w "majors" q0 (.ref MA), ent w "minors" q1 (.ref MI), ent w "order" q2 (.ref O)] nT) ∈ kr) (loM : (MA == sysModules) = false) (hMA : oMA.IsDictOf (intKind PG w) kvs) (hkvz : kvs.length ≤ 50) (h60 : valueAt kvs 60 = none) (hMA2 : @Ne Nat MA 231) (hkM : ∀ q ∈ kr, q.1 ≠ MA) (hMd : @Ne Nat MA deck ∧ @Ne Nat MA D ∧ @Ne Nat MA OD ∧ @Ne Nat MA 243)
    (hkS : (S, instObj 175 D) ∈ kr) (hkP : (PM, oPM) ∈ kr) (hPM : oPM.IsDictOf (intKind PG w) pkv) (loP : (PM == sysModules) = false) (loD : (OD == sysModules) = false)
    (hkp : (pl, listOf pvs.toArray pn) ∈ kr) (hpi : IntsAre pvs ps) (hps : ∀ k : Int, 0 ≤ k → k < (ps.length : Int) → ps[k.toNat]? = some (pa k)) (hlen : (ps.length : Int) = N)
    (hkm : (ml, listOf mvs.toArray mn) ∈ kr) (hmi : IntsAre mvs ms) (hms0 : 1 ≤ ms.length) (hml : ms.length ≤ 5) (hmr : ∀ k ∈ ms, 0 ≤ k ∧ k < 100) (hmnd : ms.Nodup) (hkc : (L + 1, oc) ∈ kr) (hoc : oc.data = .cell (some (.ref OD)))
    (hk1 : ∀ q ∈ kr, q.1 ≠ deck) (hk2 : ∀ q ∈ kr, q.1 ≠ D) (hk3 : ∀ q ∈ kr, q.1 ≠ OD) (hk4 : ∀ q ∈ kr, q.1 ≠ 231) (hk5 : ∀ q ∈ kr, q.1 ≠ 243)
    (hΦ : PhiD w deck D OD ((MA, oMA) :: kr) ms 0 x)
    (F : Fr g L s.heap (fun y => if y = Str.ofString "state" then some (.ref S) else if y = Str.ofString "permanent" then some (.ref PM) else if y = Str.ofString "minors" then some (.ref ml) else if y = Str.ofString "deck" then some (.ref deck) else if y = Str.ofString "table" then some (.ref T) else if y = Str.ofString "parents" then some (.ref pl) else mX y))
    (N0 : News g L s.heap (nwD w deck D OD ((MA, oMA) :: kr) x))
    (hQ : ∀ h' tk', g.StaysIn h' → (∃ tb' : Array Value, h'.get? 231 = some (tabObj tb')) → (∃ tb' : Array Value, h'.get? 243 = some (tabObj tb')) → Q (.ret (.bool true)) { s with heap := h', toks := tk' }) :
    wpAny (model PG w) (callerA.deeper (lawE L fa cd)) (execs (lawBody.drop 7) (lawE L fa cd)) Q (fun _ _ => False) s := by
  (((simp only [lawE] at *); (generalize hsc9 : lawScope = sc9 at *); (conv at hsc9 => lhs; whnf; dsimp only); subst hsc9))
  generalize hbd : lawBody.drop 7 = bd
  conv at hbd => lhs; whnf
  subst hbd
  obtain ⟨xdi, xdep, xds, xn0, xt0, xt1, xu, xmj, xON, xob, xobv, xtb1, xtb2, xovs, xnO, xos, xtail⟩ := x
  have hΦ0 := hΦ
  obtain ⟨hxdi, hxdn, hxO, hxoi, hxnd, hxsub, hxob, hxobl, hxobk, hxon, hxt1, hxt2, hx1, hx2, hx3, hx4, hx5, hx6⟩ := hΦ
  simp only [nwD, List.cons_append] at N0
  dsimp only at hxdi hxdn hxO hxoi hxnd hxsub hxob hxobl hxobk hxon hxt1 hxt2 hx1 hx2 hx3 hx4 hx5 hx6
  have hch' := hch
  simp only [Lt9] at hch'
  k_with "M call" => (fail_if_success have := @_root_.Mine.phase7); (((with_reducible show wpAny _ _ (call (Value.ref 222) _) _ _ _); (rename Fr _ _ _ _ => F0'); (rename News _ _ _ _ => N0'); refine' draw_use ?B F0' N0' ?X ?T rfl rfl rfl rfl ?hd ?hu ?P ?hi ?hn ?hk ?hk2 ?_; (case B => assumption); (case X => assumption); (case T => assumption); (case hd => (((try simp only [depth_mark, depth_under_make, depth_under_kw, depth_in1, depth_deeper, depth_caller, units_in1, units_deeper, units_caller, Around.mark_units]); (try dsimp only); omega))); (case hu => (((try simp only [depth_mark, depth_under_make, depth_under_kw, depth_in1, depth_deeper, depth_caller, units_in1, units_deeper, units_caller, Around.mark_units]); (try dsimp only); omega))); (case P => k_extra "PICK"); (case hi => assumption); (case hn => assumption); (case hk => omega); (case hk2 => omega); intro dr dt ditems dep dds h' tk' hdi hdn hdr0 hdr1 F' N'; clear F0' N0'; (have hdr : Bnd9 dr _ := ⟨hdr0, hdr1⟩); clear hdr0 hdr1))
  k_with "M iter" =>
    (fail_if_success have := @_root_.Mine.phase7)
    rename IsRange _ _ _ _ _ _ _ _ => hR0
    rename Fr _ _ _ _ => F0
    rename News _ _ _ _ => N1
    have hdrA := hdr.2
    have hdrB := hdr.1
    refine' loopD (w := w) (deck := deck) (D := D) (OD := OD) (kept := (MA, oMA) :: kr) (ms := ms) (stored := [Str.ofString "deed", Str.ofString "symbol", Str.ofString "line", Str.ofString "due", Str.ofString "own", Str.ofString "argument", Str.ofString "is_user", Str.ofString "was", Str.ofString "lit"]) (x0 := ⟨ditems, dep, dds, xn0, xt0, xt1, xu, xmj, xON, xob, xobv, xtb1, xtb2, xovs, xnO, xos, xtail⟩) dr.toNat rfl F0 N1 hR0 ?hb ?hn (hΦ0.deck hdi hdn) ?_ ?_
    case hb => omega
    case hn => omega
    · intro i tv m₁ h tk I oI x hi hΦ F1 N1 hneI
      exact turnD B X Tp hcd1 hcd2 hch hTG1 hp hN hN1 hTG2 hf2 lo2 hO9 (List.mem_cons_of_mem _ hkS) (List.mem_cons_of_mem _ hkP) hPM loP loD (List.mem_cons_of_mem _ hkp) hpi hps hlen (List.mem_cons_of_mem _ hkm) hmi hms0 hml hmr hmnd (List.mem_cons_of_mem _ hkc) hoc (List.forall_mem_cons.mpr ⟨hMd.1, hk1⟩) (List.forall_mem_cons.mpr ⟨hMd.2.1, hk2⟩) (List.forall_mem_cons.mpr ⟨hMd.2.2.1, hk3⟩) (List.forall_mem_cons.mpr ⟨hMA2, hk4⟩) (List.forall_mem_cons.mpr ⟨hMd.2.2.2, hk5⟩) (by omega) hΦ F1 N1 hneI
    clear F0 N1 hR0 hΦ0 hxdi hxdn hxO hxoi hxnd hxsub hxob hxobl hxobk hxon hxt1 hxt2 hx1 hx2 hx3 hx4 hx5 hx6
    intro m₁ h tk x hΦ F1 N1
    obtain ⟨xdi, xdep, xds, xn0, xt0, xt1, xu, xmj, xON, xob, xobv, xtb1, xtb2, xovs, xnO, xos, xtail⟩ := x
    obtain ⟨hxdi, hxdn, hxO, hxoi, hxnd, hxsub, hxob, hxobl, hxobk, hxon, hxt1, hxt2, hx1, hx2, hx3, hx4, hx5, hx6⟩ := hΦ
    simp only [nwD, List.cons_append] at N1
    dsimp only at hxdi hxdn hxO hxoi hxnd hxsub hxob hxobl hxobk hxon hxt1 hxt2 hx1 hx2 hx3 hx4 hx5 hx6
    have hx7 : ∀ q ∈ xtail, q.1 ≠ MA := Apart.all hx6 (.head _)
    try k_fold
  k_with "M call" =>
    (fail_if_success have := @_root_.Mine.phase7)
    (with_reducible show wpAny _ _ (call (Value.ref 255) _) _ _ _)
    rename Fr _ _ _ _ => F0
    rename News _ _ _ _ => N1
    refine' law_rings_use (T := T) (dT := dT) (MA := MA) (MI := MI) (O := O) (S := S) (D := D) (ON := xON) (ovs := xovs) (os := xos) (tb := xtb1) (oMA := oMA) (kvs := kvs) B F0 N1 X Tp rfl rfl rfl rfl (by (((try simp only [depth_mark, depth_under_make, depth_under_kw, depth_in1, depth_deeper, depth_caller, units_in1, units_deeper, units_caller, Around.mark_units]); (try dsimp only); omega))) (by (((try simp only [depth_mark, depth_under_make, depth_under_kw, depth_in1, depth_deeper, depth_caller, units_in1, units_deeper, units_caller, Around.mark_units]); (try dsimp only); omega))) ?P hcd1 hMA2 loM ?m1 ?m2 ?m3 ?m4 ?m5 hxoi ?hl ?hTb hMA hkvz h60 ?_
    case P => k_extra "PICKS"
    case m1 => k_mem
    case m2 => k_mem
    case m3 => k_mem
    case m4 => k_mem
    case m5 => k_mem
    case hl => exact Nat.le_trans (nodup_len hxnd hxsub) (by omega)
    case hTb => exact hxt1.mono fun d o hm => by k_mem
    intro h' tk' k1 k2 k3
    have k4 := k2 (243, _) (by k_mem)
    try k_fold
  k_steps
  exact hQ _ _ k1 k3 ⟨_, k4⟩
theorem TbAt.nil {P : Addr → Obj → Prop} {a b : Nat} {q : Str} : TbAt P a b q #[] := .inl rfl
set_option maxHeartbeats 4000000 in
theorem phase6 {w : World} {p : Program} {loose : List Str} {mean : ExcName → Option Value} {mg mb : Str → Option Value} {g : Heap} {L fa : Addr} {cd : Value} {s : Shared} {Q : Flow → Shared → Prop}
    {S D ON OD PM D9 deck ml T dT MA MI O pl kl tl : Addr} {nT : Nat} {q0 q1 q2 : Tok} {oMA oc oc1 oPM ob o9 : Obj} {n0 n1 : Nat} {t0 t1 u : Tok} {pkv : List (Int × Value)} {kvs : List (Int × Value)} {pvs mvs kvv tvs di : List Value} {pn mn kn tn dep : Nat} {ps ms ds : List Int} {mX : Str → Option Value} {R : List (Addr × Obj)}
    {f f2 : Int → Option Value} {Ovs : List Value} {N : Int} {pa : Int → Int} {km sy : Int → Option Int}
    (B : Below callerA g [] g) (X : (Mine.hd.heap_39 w.params).In g) (Tp : Top p loose mean mg mb g) (hcd1 : CodeHd g 235 231) (hcd2 : CodeHd g 247 243)
    (hch : @Ne Nat 231 deck ∧ @Ne Nat 243 deck ∧ Lt9 231 MA ∧ Lt9 deck MA ∧ Lt9 243 MA)
    (hTG1 : ∀ g' : Heap, g.StaysIn g' → (∀ q ∈ (MA, oMA) :: R, g'.get? q.1 = some q.2) → TabG w g' T MA MI O f N pa km sy) (hp : Par pa) (hN : N ≤ 6) (hN1 : 1 ≤ N)
    (hTG2 : ∀ g' : Heap, g.StaysIn g' → (∀ q ∈ (MA, oMA) :: R, g'.get? q.1 = some q.2) → MinG w g' T MA MI O f2 ms Ovs lt9 mk9) (hf2 : ∀ k ∈ ms, ∃ M kv, f2 k = some (.ref M) ∧ ∀ g' : Heap, g.StaysIn g' → (∀ q ∈ (MA, oMA) :: R, g'.get? q.1 = some q.2) → MinorAt w g' M k (lt9 k) kv) (lo2 : (MI == sysModules) = false) (hO9 : IntsAre Ovs ms)
    (hkT1 : (T, instObj 147 dT) ∈ R) (hkT2 : (dT, dictOf [ent w "majors" q0 (.ref MA), ent w "minors" q1 (.ref MI), ent w "order" q2 (.ref O)] nT) ∈ R) (loM : (MA == sysModules) = false) (hMA : oMA.IsDictOf (intKind PG w) kvs) (hkvz : kvs.length ≤ 50) (h60 : valueAt kvs 60 = none)
    (hkp : (pl, listOf pvs.toArray pn) ∈ R) (hpi : IntsAre pvs ps) (hps : ∀ k : Int, 0 ≤ k → k < (ps.length : Int) → ps[k.toNat]? = some (pa k)) (hlen : (ps.length : Int) = N)
    (hkm : (ml, listOf mvs.toArray mn) ∈ R) (hmi : IntsAre mvs ms) (hms0 : 1 ≤ ms.length) (hml : ms.length ≤ 5) (hmr : ∀ k ∈ ms, 0 ≤ k ∧ k < 100) (hmnd : ms.Nodup) (hoc : oc.data = .cell (some (.ref OD)))
    (hk1 : ∀ q ∈ R, q.1 ≠ deck) (hk2 : ∀ q ∈ R, q.1 ≠ L + 1) (hk3 : ∀ q ∈ R, q.1 ≠ 231) (hk4 : ∀ q ∈ R, q.1 ≠ 243) (hk5 : ∀ q ∈ R, q.1 ≠ MA) (hLd : @Ne Nat (L + 1) deck ∧ Lt9 231 (L + 1) ∧ Lt9 243 (L + 1) ∧ @Ne Nat (L + 1) MA)
    (hdi : IntsAre di ds) (hdn : di.length ≤ 60)
    (F : Fr g L s.heap (fun y => if y = Str.ofString "permanent" then some (.ref PM) else if y = Str.ofString "state" then some (.ref S) else if y = Str.ofString "minors" then some (.ref ml) else if y = Str.ofString "keymaps" then some (.ref kl) else if y = Str.ofString "tables" then some (.ref tl) else if y = Str.ofString "deck" then some (.ref deck) else if y = Str.ofString "table" then some (.ref T) else if y = Str.ofString "parents" then some (.ref pl) else mX y))
    (N0 : News g L s.heap ((D9, o9) :: (PM, oPM) :: (OD, ob) :: (ON, listOf #[] n1) :: (S, instObj 175 D) :: (D, stD w n0 t0 t1 u 0 ON) :: (deck, listOf di.toArray dep) :: (L + 1, oc) :: ((231 : Addr), tabObj #[]) :: ((243 : Addr), tabObj #[]) :: (MA, oMA) :: R))
    (l0 : ∀ q ∈ (deck, listOf di.toArray dep) :: (L + 1, oc1) :: ((231 : Addr), tabObj #[]) :: ((243 : Addr), tabObj #[]) :: (MA, oMA) :: R, q.1 < D) (l1 : Lt9 D S) (l2 : Lt9 S ON) (l3 : Lt9 ON OD) (l4 : Lt9 OD PM)
    (hPM : oPM.IsDictOf (intKind PG w) pkv) (hob : ob.IsDictOf (intKind PG w) []) (loP : (PM == sysModules) = false) (loD : (OD == sysModules) = false)
    (hQ : ∀ h' tk', g.StaysIn h' → (∃ tb' : Array Value, h'.get? 231 = some (tabObj tb')) → (∃ tb' : Array Value, h'.get? 243 = some (tabObj tb')) → Q (.ret (.bool true)) { s with heap := h', toks := tk' }) :
    wpAny (model PG w) (callerA.deeper (lawE L fa cd)) (execs (lawBody.drop 7) (lawE L fa cd)) Q (fun _ _ => False) s := by
  simp only [Lt9] at l1 l2 l3 l4
  have a1 : @LT.lt Nat _ deck D := l0 _ (.head _)
  have a2 : @LT.lt Nat _ (L + 1) D := l0 _ (.tail _ (.head _))
  have a3 : @LT.lt Nat _ MA D := l0 _ (.tail _ (.tail _ (.tail _ (.tail _ (.head _)))))
  have a4 : @LT.lt Nat _ 231 D := l0 _ (.tail _ (.tail _ (.head _)))
  have a5 : @LT.lt Nat _ 243 D := l0 _ (.tail _ (.tail _ (.tail _ (.head _))))
  have aR : ∀ q ∈ R, @LT.lt Nat _ q.1 D := fun q hq => l0 q (.tail _ (.tail _ (.tail _ (.tail _ (.tail _ hq)))))
  have hch0 := hch
  have hLd0 := hLd
  simp only [Lt9] at hch0 hLd0
  obtain ⟨b1, b2, b3, b4, b5⟩ := hch0
  obtain ⟨c1, c2, c3, c4⟩ := hLd0
  have sub : ∀ g' : Heap, (∀ q ∈ (MA, oMA) :: (S, instObj 175 D) :: (PM, oPM) :: (L + 1, oc) :: R, g'.get? q.1 = some q.2) → ∀ q ∈ (MA, oMA) :: R, g'.get? q.1 = some q.2 := fun g' h q hq => by
    rcases List.mem_cons.mp hq with rfl | hq
    · exact h _ (.head _)
    · exact h _ (.tail _ (.tail _ (.tail _ (.tail _ hq))))
  have off : ∀ (a : Addr), @Ne Nat S a → @Ne Nat PM a → @Ne Nat (L + 1) a → (∀ q ∈ R, q.1 ≠ a) → ∀ q ∈ (S, instObj 175 D) :: (PM, oPM) :: (L + 1, oc) :: R, q.1 ≠ a := fun a h1 h2 h3 h4 =>
    List.forall_mem_cons.mpr ⟨h1, List.forall_mem_cons.mpr ⟨h2, List.forall_mem_cons.mpr ⟨h3, h4⟩⟩⟩
  have offR : ∀ (a : Addr), @LT.lt Nat _ D a ∨ a = D → ∀ q ∈ R, q.1 ≠ a := fun a ha q hq e => by
    have := aR q hq
    rw [e] at this
    rcases ha with ha | ha
    · exact Nat.lt_irrefl _ (Nat.lt_trans this ha)
    · rw [ha] at this; exact Nat.lt_irrefl _ this
  refine phase7 (kr := (S, instObj 175 D) :: (PM, oPM) :: (L + 1, oc) :: R) (x := ⟨di, dep, ds, n0, t0, t1, u, 0, ON, ob, [], #[], #[], [], n1, [], [(ON, listOf #[] n1)]⟩) (D := D) (OD := OD) (S := S) (PM := PM) (ml := ml) (pl := pl) (T := T) (dT := dT) (MA := MA) (MI := MI) (O := O) (mX := (fun y => if y = Str.ofString "permanent" then some (.ref PM) else if y = Str.ofString "state" then some (.ref S) else if y = Str.ofString "minors" then some (.ref ml) else if y = Str.ofString "keymaps" then some (.ref kl) else if y = Str.ofString "tables" then some (.ref tl) else if y = Str.ofString "deck" then some (.ref deck) else if y = Str.ofString "table" then some (.ref T) else if y = Str.ofString "parents" then some (.ref pl) else mX y))
    B X Tp hcd1 hcd2 ⟨b1, b2, a1, by simp only [Lt9]; omega, a4, a5⟩ (fun g' h1 h2 => hTG1 g' h1 (sub g' h2)) hp hN hN1 (fun g' h1 h2 => hTG2 g' h1 (sub g' h2)) (fun k hk => let ⟨M, kv, e1, e2⟩ := hf2 k hk; ⟨M, kv, e1, fun g' h1 h2 => e2 g' h1 (sub g' h2)⟩) lo2 hO9
    (.tail _ (.tail _ (.tail _ hkT1))) (.tail _ (.tail _ (.tail _ hkT2))) loM hMA hkvz h60 (Nat.ne_of_gt b3) (off MA (by omega) (by omega) ?_ hk5) ⟨Nat.ne_of_gt b4, Nat.ne_of_lt a3, by omega, Nat.ne_of_gt b5⟩
    (.head _) (.tail _ (.head _)) hPM loP loD (.tail _ (.tail _ (.tail _ hkp))) hpi hps hlen (.tail _ (.tail _ (.tail _ hkm))) hmi hms0 hml hmr hmnd (.tail _ (.tail _ (.head _))) hoc
    (off deck (by omega) (by omega) (by omega) hk1) (off D (by omega) (by omega) (by omega) (offR D (.inr rfl))) (off OD (by omega) (by omega) (by omega) (offR OD (.inl (by omega)))) (off 231 (by omega) (by omega) (by omega) hk3) (off 243 (by omega) (by omega) (by omega) hk4)
    ?_ ?_ ?_ hQ
  · omega
  · refine ⟨hdi, hdn, .head _, .nil, List.nodup_nil, fun _ h => (nomatch h), hob, Nat.le_refl _, fun k v h => by simp [valueAt] at h, fun _ _ => rfl, .nil, .nil, ?_, ?_, ?_, ?_, ?_, ?_⟩
    · exact List.forall_mem_singleton.mpr (show @Ne Nat ON deck by omega)
    · exact List.forall_mem_singleton.mpr (show @Ne Nat ON D by omega)
    · exact List.forall_mem_singleton.mpr (show @Ne Nat ON OD by omega)
    · exact List.forall_mem_singleton.mpr (show @Ne Nat ON 231 by omega)
    · exact List.forall_mem_singleton.mpr (show @Ne Nat ON 243 by omega)
    · intro q hq r hr
      rw [List.mem_singleton.mp hq]
      rcases List.mem_cons.mp hr with rfl | hr
      · exact (show @Ne Nat MA ON by omega)
      · exact off ON (by omega) (by omega) (by omega) (offR ON (.inl (by omega))) r hr
  · exact frAs (frAs (frAs (frAs (frAs (frAs F rfl) rfl) rfl) rfl) rfl) rfl
  · refine newsPerm N0 fun q hq => ?_
    simp only [nwD, List.mem_cons, List.mem_append, List.not_mem_nil, or_false] at hq ⊢
    rcases hq with rfl | rfl | rfl | rfl | rfl | (rfl | rfl | rfl | rfl | hq) | rfl <;> simp [*]
theorem hk_LP5_0 : True := by
  k_with "Hexecs cons" => (fail_if_success have := @_root_.Mine.phase5); (k_here; (with_reducible show wpAny _ _ (execs (Stmt.For _ _ _ _ _ :: _) _) _ _ _); k_dflt (k_extra "M loop"))
  trivial
set_option maxHeartbeats 8000000 in
theorem phase5 {w : World} {p : Program} {loose : List Str} {mean : ExcName → Option Value} {mg mb : Str → Option Value} {g : Heap} {L fa : Addr} {cd : Value} {s : Shared} {Q : Flow → Shared → Prop}
    {deck ml T dT MA MI O pl kl tl : Addr} {nT : Nat} {q0 q1 q2 : Tok} {oMA oc : Obj} {c0 : Option Value} {kvs : List (Int × Value)} {pvs mvs kvv tvs di : List Value} {pn mn kn tn dep : Nat} {ps ms ds : List Int} {mX : Str → Option Value} {R : List (Addr × Obj)}
    {f f2 : Int → Option Value} {Ovs : List Value} {N : Int} {pa : Int → Int} {km sy : Int → Option Int}
    (B : Below callerA g [] g) (X : (Mine.hd.heap_39 w.params).In g) (Tp : Top p loose mean mg mb g) (hcd1 : CodeHd g 235 231) (hcd2 : CodeHd g 247 243)
    (hch : @Ne Nat 231 deck ∧ @Ne Nat 243 deck ∧ Lt9 231 MA ∧ Lt9 deck MA ∧ Lt9 243 MA)
    (hTG1 : ∀ g' : Heap, g.StaysIn g' → (∀ q ∈ (MA, oMA) :: R, g'.get? q.1 = some q.2) → TabG w g' T MA MI O f N pa km sy) (hp : Par pa) (hN : N ≤ 6) (hN1 : 1 ≤ N)
    (hTG2 : ∀ g' : Heap, g.StaysIn g' → (∀ q ∈ (MA, oMA) :: R, g'.get? q.1 = some q.2) → MinG w g' T MA MI O f2 ms Ovs lt9 mk9) (hf2 : ∀ k ∈ ms, ∃ M kv, f2 k = some (.ref M) ∧ ∀ g' : Heap, g.StaysIn g' → (∀ q ∈ (MA, oMA) :: R, g'.get? q.1 = some q.2) → MinorAt w g' M k (lt9 k) kv) (lo2 : (MI == sysModules) = false) (hO9 : IntsAre Ovs ms)
    (hkT1 : (T, instObj 147 dT) ∈ R) (hkT2 : (dT, dictOf [ent w "majors" q0 (.ref MA), ent w "minors" q1 (.ref MI), ent w "order" q2 (.ref O)] nT) ∈ R) (loM : (MA == sysModules) = false) (hMA : oMA.IsDictOf (intKind PG w) kvs) (hkvz : kvs.length ≤ 50) (h60 : valueAt kvs 60 = none)
    (hkp : (pl, listOf pvs.toArray pn) ∈ R) (hpi : IntsAre pvs ps) (hps : ∀ k : Int, 0 ≤ k → k < (ps.length : Int) → ps[k.toNat]? = some (pa k)) (hlen : (ps.length : Int) = N)
    (hkk : (kl, listOf kvv.toArray kn) ∈ R) (hkv : ∀ k : Int, 0 ≤ k → k < N → ∃ t, kvv[k.toNat]? = some (ov (km k) t)) (hkt : (tl, listOf tvs.toArray tn) ∈ R) (htv : ∀ k : Int, 0 ≤ k → k < N → ∃ t, tvs[k.toNat]? = some (ov (sy k) t))
    (hkm : (ml, listOf mvs.toArray mn) ∈ R) (hmi : IntsAre mvs ms) (hms0 : 1 ≤ ms.length) (hml : ms.length ≤ 5) (hmr : ∀ k ∈ ms, 0 ≤ k ∧ k < 100) (hmnd : ms.Nodup) (hoc : oc.data = .cell c0)
    (hk1 : ∀ q ∈ R, q.1 ≠ deck) (hk2 : ∀ q ∈ R, q.1 ≠ L + 1) (hk3 : ∀ q ∈ R, q.1 ≠ 231) (hk4 : ∀ q ∈ R, q.1 ≠ 243) (hk5 : ∀ q ∈ R, q.1 ≠ MA) (hLd : @Ne Nat (L + 1) deck ∧ Lt9 231 (L + 1) ∧ Lt9 243 (L + 1) ∧ @Ne Nat (L + 1) MA)
    (hdi : IntsAre di ds) (hdn : di.length ≤ 60)
    (F : Fr g L s.heap (fun y => if y = Str.ofString "minors" then some (.ref ml) else if y = Str.ofString "keymaps" then some (.ref kl) else if y = Str.ofString "tables" then some (.ref tl) else if y = Str.ofString "deck" then some (.ref deck) else if y = Str.ofString "table" then some (.ref T) else if y = Str.ofString "parents" then some (.ref pl) else mX y))
    (N0 : News g L s.heap ((deck, listOf di.toArray dep) :: (L + 1, oc) :: ((231 : Addr), tabObj #[]) :: ((243 : Addr), tabObj #[]) :: (MA, oMA) :: R))
    (hQ : ∀ h' tk', g.StaysIn h' → (∃ tb' : Array Value, h'.get? 231 = some (tabObj tb')) → (∃ tb' : Array Value, h'.get? 243 = some (tabObj tb')) → Q (.ret (.bool true)) { s with heap := h', toks := tk' }) :
    wpAny (model PG w) (callerA.deeper (lawE L fa cd)) (execs (lawBody.drop 5) (lawE L fa cd)) Q (fun _ _ => False) s := by
  (((simp only [lawE] at *); (generalize hsc9 : lawScope = sc9 at *); (conv at hsc9 => lhs; whnf; dsimp only); subst hsc9))
  generalize hbd : lawBody.drop 5 = bd
  conv at hbd => lhs; whnf
  subst hbd
  have hch' := hch
  have hLd' := hLd
  simp only [Lt9] at hch' hLd'
  k_with "M call" =>
    (fail_if_success have := @_root_.Mine.phase5)
    (with_reducible show wpAny _ _ (call (Value.ref 241) _) _ _ _)
    rename Fr _ _ _ _ => F0
    rename News _ _ _ _ => N1
    refine' law_modes_use (T := T) (MA := MA) (MI := MI) (O := O) B F0 N1 X Tp rfl rfl rfl rfl (by (((try simp only [depth_mark, depth_under_make, depth_under_kw, depth_in1, depth_deeper, depth_caller, units_in1, units_deeper, units_caller, Around.mark_units]); (try dsimp only); omega))) (by (((try simp only [depth_mark, depth_under_make, depth_under_kw, depth_in1, depth_deeper, depth_caller, units_in1, units_deeper, units_caller, Around.mark_units]); (try dsimp only); omega))) (hTG1 _ F0.keep fun q hq => (N1 q (by k_mem)).1) hp hN ?l1 hpi hps hlen ?l2 hkv ?l3 htv ?_
    case l1 => exact N1.isList (by k_mem)
    case l2 => exact N1.isList (by k_mem)
    case l3 => exact N1.isList (by k_mem)
    intro h' tk' F' N'
    clear F0 N1
    try k_fold
  k_with "M call" =>
    (fail_if_success have := @_root_.Mine.phase5)
    (with_reducible show wpAny _ _ (call (Value.ref 175) _) _ _ _)
    rename Fr _ _ _ _ => F0
    rename News _ _ _ _ => N1
    refine' state_new rfl B F0 N1 X Tp (by (((try simp only [depth_mark, depth_under_make, depth_under_kw, depth_in1, depth_deeper, depth_caller, units_in1, units_deeper, units_caller, Around.mark_units]); (try dsimp only); omega))) (by (((try simp only [depth_mark, depth_under_make, depth_under_kw, depth_in1, depth_deeper, depth_caller, units_in1, units_deeper, units_caller, Around.mark_units]); (try dsimp only); omega))) ?_
    intro S D ON n0 t0 t1 h' tk' F' N' l1 l2 l3
    have l0 := l1
    try k_lt l1
    clear F0 N1
    try k_fold
  k_with "M loop" =>
    (fail_if_success have := @_root_.Mine.phase5)
    rename Fr _ _ _ _ => F0
    rename News _ _ _ _ => N1
    refine' phase6 (kvv := kvv) (tvs := tvs) (kn := kn) (tn := tn) (ml := ml) (T := T) (dT := dT) (MA := MA) (MI := MI) (O := O) (pl := pl) (kl := kl) (tl := tl) B X Tp hcd1 hcd2 hch hTG1 hp hN hN1 hTG2 hf2 lo2 hO9 hkT1 hkT2 loM hMA hkvz h60 hkp hpi hps hlen hkm hmi hms0 hml hmr hmnd ?hoc hk1 hk2 hk3 hk4 hk5 hLd hdi hdn F0 N1 l0 l2 l3 ?a1 ?a2 ?a3 ?a4 ?a5 ?a6 hQ
    case hoc => assumption
    case a1 => (simp only [Lt9]; omega)
    case a2 => (simp only [Lt9]; omega)
    case a3 => assumption
    case a4 => assumption
    case a5 => assumption
    case a6 => assumption
  k_steps
set_option maxHeartbeats 8000000 in
theorem phase4_done {w : World} {p : Program} {loose : List Str} {mean : ExcName → Option Value} {mg mb : Str → Option Value} {g : Heap} {L fa : Addr} {cd : Value} {s : Shared} {Q : Flow → Shared → Prop}
    {deck ml T dT MA MI O pl kl tl tt : Addr} {nT nO : Nat} {q0 q1 q2 : Tok} {oMA oMI oc : Obj} {c0 : Option Value} {kvs : List (Int × Value)} {pvs mvs kvv tvs di : List Value} {pn mn kn tn dep : Nat} {ps ms ds : List Int} {mX mA : Str → Option Value} {R : List (Addr × Obj)}
    {f : Int → Option Value} {N : Int} {pa : Int → Int} {km sy : Int → Option Int}
    (B : Below callerA g [] g) (X : (Mine.hd.heap_39 w.params).In g) (Tp : Top p loose mean mg mb g) (hcd1 : CodeHd g 235 231) (hcd2 : CodeHd g 247 243)
    (hch : Lt9 231 (L + 1) ∧ Lt9 243 (L + 1) ∧ (@Ne Nat (L + 1) deck ∧ @Ne Nat 231 deck ∧ @Ne Nat 243 deck ∧ Lt9 (L + 1) MA) ∧ Lt9 deck MA ∧ Lt9 MA MI ∧ Lt9 MI O)
    (hTG1 : ∀ g' : Heap, g.StaysIn g' → (∀ q ∈ (MA, oMA) :: R, g'.get? q.1 = some q.2) → TabG w g' T MA MI O f N pa km sy) (hp : Par pa) (hN : N ≤ 6) (hN1 : 1 ≤ N)
    (lo2 : (MI == sysModules) = false) (hMI : oMI.IsDictOf (intKind PG w) [])
    (hkT1 : (T, instObj 147 dT) ∈ R) (hkT2 : (dT, dictOf [ent w "majors" q0 (.ref MA), ent w "minors" q1 (.ref MI), ent w "order" q2 (.ref O)] nT) ∈ R) (loM : (MA == sysModules) = false) (hMA : oMA.IsDictOf (intKind PG w) kvs) (hkvz : kvs.length ≤ 50) (h60 : valueAt kvs 60 = none)
    (hkp : (pl, listOf pvs.toArray pn) ∈ R) (hpi : IntsAre pvs ps) (hps : ∀ k : Int, 0 ≤ k → k < (ps.length : Int) → ps[k.toNat]? = some (pa k)) (hlen : (ps.length : Int) = N)
    (hkk : (kl, listOf kvv.toArray kn) ∈ R) (hkv : ∀ k : Int, 0 ≤ k → k < N → ∃ t, kvv[k.toNat]? = some (ov (km k) t)) (hkt : (tl, listOf tvs.toArray tn) ∈ R) (htv : ∀ k : Int, 0 ≤ k → k < N → ∃ t, tvs[k.toNat]? = some (ov (sy k) t))
    (hoc : oc.data = .cell c0)
    (hk1 : ∀ q ∈ R, q.1 ≠ deck) (hk2 : ∀ q ∈ R, q.1 ≠ L + 1) (hk3 : ∀ q ∈ R, q.1 ≠ 231) (hk4 : ∀ q ∈ R, q.1 ≠ 243) (hk5 : ∀ q ∈ R, q.1 ≠ MA) (hk6 : ∀ q ∈ R, q.1 ≠ MI) (hk7 : ∀ q ∈ R, q.1 ≠ O)
    (hdi : IntsAre di ds) (hdn : di.length ≤ 60)
    {m₁ : Str → Option Value} {x : XB} (hmi : IntsAre mvs ms) (hms0 : 1 ≤ ms.length) (hml : ms.length ≤ 5) (hmr : ∀ k ∈ ms, 0 ≤ k ∧ k < 100) (hmnd : ms.Nodup) (hOm : @Ne Nat ml deck ∧ @Ne Nat ml (L + 1) ∧ @Ne Nat ml 231 ∧ @Ne Nat ml 243 ∧ @Ne Nat ml MA ∧ @Ne Nat ml MI ∧ @Ne Nat ml O)
    (hΦ : PhiB w ((ml, listOf mvs.toArray mn) :: (deck, listOf di.toArray dep) :: (O, listOf #[] nO) :: (MI, oMI) :: (L + 1, oc) :: ((231 : Addr), tabObj #[]) :: ((243 : Addr), tabObj #[]) :: (MA, oMA) :: R) ms ms.length x)
    (F1 : Fr g L s.heap (fun y => if [Str.ofString "symbol"].contains y = true then m₁ y else (fun y => if y = Str.ofString "minors" then some (.ref ml) else if [Str.ofString "symbol"].contains y = true then mA y else if y = Str.ofString "keymaps" then some (.ref kl) else if y = Str.ofString "tables" then some (.ref tl) else if y = Str.ofString "titles" then some (.ref tt) else if y = Str.ofString "deck" then some (.ref deck) else if y = Str.ofString "table" then some (.ref T) else if y = Str.ofString "parents" then some (.ref pl) else mX y) y))
    (N2 : News g L s.heap (nwB O MI ((deck, listOf di.toArray dep) :: (ml, listOf mvs.toArray mn) :: (L + 1, oc) :: ((231 : Addr), tabObj #[]) :: ((243 : Addr), tabObj #[]) :: (MA, oMA) :: R) x))
    (hQ : ∀ h' tk', g.StaysIn h' → (∃ tb' : Array Value, h'.get? 231 = some (tabObj tb')) → (∃ tb' : Array Value, h'.get? 243 = some (tabObj tb')) → Q (.ret (.bool true)) { s with heap := h', toks := tk' }) :
    wpAny (model PG w) (callerA.deeper (lawE L fa cd)) (execs (lawBody.drop 5) (lawE L fa cd)) Q (fun _ _ => False) s := by
  have hch' := hch
  obtain ⟨m1, m2, m3, m4, m5, m6, m7⟩ := hOm
  simp only [Lt9] at hch'
  obtain ⟨xov, xon, xoM, xdv, xtail⟩ := x
  obtain ⟨hxov, hxoM, hxdl, hxkey, hxmode, hxoff⟩ := hΦ
  dsimp only at hxov hxoM hxdl hxkey hxmode hxoff
  rw [List.take_length] at hxov hxmode
  simp only [nwB, List.cons_append] at N2
  have subR : ∀ g' : Heap, (∀ q ∈ (MA, oMA) :: (O, listOf xov.toArray xon) :: (MI, xoM) :: (ml, listOf mvs.toArray mn) :: (R ++ xtail), g'.get? q.1 = some q.2) → ∀ q ∈ (MA, oMA) :: R, g'.get? q.1 = some q.2 := fun g' h q hq => by
    rcases List.mem_cons.mp hq with rfl | hq
    · exact h _ (.head _)
    · exact h _ (.tail _ (.tail _ (.tail _ (.tail _ (List.mem_append_left _ hq)))))
  have subT : ∀ g' : Heap, (∀ q ∈ (MA, oMA) :: (O, listOf xov.toArray xon) :: (MI, xoM) :: (ml, listOf mvs.toArray mn) :: (R ++ xtail), g'.get? q.1 = some q.2) → ∀ q ∈ xtail, g'.get? q.1 = some q.2 := fun g' h q hq => h _ (.tail _ (.tail _ (.tail _ (.tail _ (List.mem_append_right _ hq)))))
  have off5 : ∀ (a : Addr), @Ne Nat O a → @Ne Nat MI a → @Ne Nat ml a → (∀ q ∈ R, q.1 ≠ a) → (∀ q ∈ xtail, q.1 ≠ a) → ∀ q ∈ (O, listOf xov.toArray xon) :: (MI, xoM) :: (ml, listOf mvs.toArray mn) :: (R ++ xtail), q.1 ≠ a := fun a h1 h2 h3 h4 h5 =>
    List.forall_mem_cons.mpr ⟨h1, List.forall_mem_cons.mpr ⟨h2, List.forall_mem_cons.mpr ⟨h3, List.forall_mem_append.mpr ⟨h4, h5⟩⟩⟩⟩
  refine phase5 (dep := dep) (R := (O, listOf xov.toArray xon) :: (MI, xoM) :: (ml, listOf mvs.toArray mn) :: (R ++ xtail)) (f2 := valueAt xdv) (Ovs := xov) (mX := fun y => if [Str.ofString "symbol"].contains y = true then m₁ y else (fun y => if y = Str.ofString "minors" then some (.ref ml) else if [Str.ofString "symbol"].contains y = true then mA y else if y = Str.ofString "keymaps" then some (.ref kl) else if y = Str.ofString "tables" then some (.ref tl) else if y = Str.ofString "titles" then some (.ref tt) else if y = Str.ofString "deck" then some (.ref deck) else if y = Str.ofString "table" then some (.ref T) else if y = Str.ofString "parents" then some (.ref pl) else mX y) y) B X Tp hcd1 hcd2 ?h1 (fun g' h1 h2 => hTG1 g' h1 (subR g' h2)) hp hN hN1
    (fun g' h1 h2 => ⟨⟨dT, nT, q0, q1, q2, subR g' h2 _ (.tail _ hkT1), subR g' h2 _ (.tail _ hkT2)⟩, (Heap.dictOf_iff.mpr ⟨_, h2 (MI, xoM) (.tail _ (.tail _ (.head _))), hxoM⟩).mapOf, lo2, ⟨_, h2 (O, _) (.tail _ (.head _)), rfl, _, rfl⟩, hxov, hml, fun k hk => let ⟨M, t, e1, e2⟩ := hxmode k hk; ⟨M, t, e1, e2.at (subT g' h2)⟩⟩)
    (fun k hk => let ⟨M, t, e1, e2⟩ := hxmode k hk; ⟨M, _, e1, fun g' h1 h2 => e2.at (subT g' h2)⟩) lo2 hxov
    (by k_mem) (by k_mem) loM hMA hkvz h60 (by k_mem) hpi hps hlen (by k_mem) hkv (by k_mem) htv (by k_mem) hmi hms0 hml hmr hmnd hoc
    (off5 deck (by omega) (by omega) (by omega) hk1 (Apart.all hxoff (by k_mem))) (off5 (L + 1) (by omega) (by omega) (by omega) hk2 (Apart.all hxoff (by k_mem))) (off5 231 (by omega) (by omega) (by omega) hk3 (Apart.all hxoff (by k_mem))) (off5 243 (by omega) (by omega) (by omega) hk4 (Apart.all hxoff (by k_mem))) (off5 MA (by omega) (by omega) (by omega) hk5 (Apart.all hxoff (by k_mem)))
    ?h2 hdi hdn (frAs (frAs (frAs (frAs (frAs (frAs F1 rfl) rfl) rfl) rfl) rfl) rfl) (newsPerm N2 ?h3) hQ
  case h1 => (simp only [Lt9]; omega)
  case h2 => (simp only [Lt9]; omega)
  case h3 =>
    intro q hq
    simp only [List.mem_cons, List.mem_append] at hq ⊢
    rcases hq with rfl | rfl | rfl | rfl | rfl | rfl | rfl | rfl | hq | hq <;> simp [*]
set_option maxHeartbeats 8000000 in
theorem phase4 {w : World} {p : Program} {loose : List Str} {mean : ExcName → Option Value} {mg mb : Str → Option Value} {g : Heap} {L fa : Addr} {cd : Value} {s : Shared} {Q : Flow → Shared → Prop}
    {deck ml T dT MA MI O pl kl tl tt : Addr} {nT nO : Nat} {q0 q1 q2 : Tok} {oMA oMI oc : Obj} {c0 : Option Value} {kvs : List (Int × Value)} {pvs mvs kvv tvs di : List Value} {pn mn kn tn dep : Nat} {ps ms ds : List Int} {mX mA : Str → Option Value} {R : List (Addr × Obj)}
    {f : Int → Option Value} {N : Int} {pa : Int → Int} {km sy : Int → Option Int}
    (B : Below callerA g [] g) (X : (Mine.hd.heap_39 w.params).In g) (Tp : Top p loose mean mg mb g) (hcd1 : CodeHd g 235 231) (hcd2 : CodeHd g 247 243)
    (hch : Lt9 231 (L + 1) ∧ Lt9 243 (L + 1) ∧ (@Ne Nat (L + 1) deck ∧ @Ne Nat 231 deck ∧ @Ne Nat 243 deck ∧ Lt9 (L + 1) MA) ∧ Lt9 deck MA ∧ Lt9 MA MI ∧ Lt9 MI O)
    (hTG1 : ∀ g' : Heap, g.StaysIn g' → (∀ q ∈ (MA, oMA) :: R, g'.get? q.1 = some q.2) → TabG w g' T MA MI O f N pa km sy) (hp : Par pa) (hN : N ≤ 6) (hN1 : 1 ≤ N)
    (lo2 : (MI == sysModules) = false) (hMI : oMI.IsDictOf (intKind PG w) [])
    (hkT1 : (T, instObj 147 dT) ∈ R) (hkT2 : (dT, dictOf [ent w "majors" q0 (.ref MA), ent w "minors" q1 (.ref MI), ent w "order" q2 (.ref O)] nT) ∈ R) (loM : (MA == sysModules) = false) (hMA : oMA.IsDictOf (intKind PG w) kvs) (hkvz : kvs.length ≤ 50) (h60 : valueAt kvs 60 = none)
    (hkp : (pl, listOf pvs.toArray pn) ∈ R) (hpi : IntsAre pvs ps) (hps : ∀ k : Int, 0 ≤ k → k < (ps.length : Int) → ps[k.toNat]? = some (pa k)) (hlen : (ps.length : Int) = N)
    (hkk : (kl, listOf kvv.toArray kn) ∈ R) (hkv : ∀ k : Int, 0 ≤ k → k < N → ∃ t, kvv[k.toNat]? = some (ov (km k) t)) (hkt : (tl, listOf tvs.toArray tn) ∈ R) (htv : ∀ k : Int, 0 ≤ k → k < N → ∃ t, tvs[k.toNat]? = some (ov (sy k) t))
    (hoc : oc.data = .cell c0)
    (hk1 : ∀ q ∈ R, q.1 ≠ deck) (hk2 : ∀ q ∈ R, q.1 ≠ L + 1) (hk3 : ∀ q ∈ R, q.1 ≠ 231) (hk4 : ∀ q ∈ R, q.1 ≠ 243) (hk5 : ∀ q ∈ R, q.1 ≠ MA) (hk6 : ∀ q ∈ R, q.1 ≠ MI) (hk7 : ∀ q ∈ R, q.1 ≠ O)
    (hdi : IntsAre di ds) (hdn : di.length ≤ 60)
    (hmi : IntsAre mvs ms) (hms0 : 1 ≤ ms.length) (hml : ms.length ≤ 5) (hmr : ∀ k ∈ ms, 0 ≤ k ∧ k < 100) (hmnd : ms.Nodup) (hOm : @Ne Nat ml deck ∧ @Ne Nat ml (L + 1) ∧ @Ne Nat ml 231 ∧ @Ne Nat ml 243 ∧ @Ne Nat ml MA ∧ @Ne Nat ml MI ∧ @Ne Nat ml O)
    (F : Fr g L s.heap (fun y => if y = Str.ofString "minors" then some (.ref ml) else if [Str.ofString "symbol"].contains y = true then mA y else if y = Str.ofString "keymaps" then some (.ref kl) else if y = Str.ofString "tables" then some (.ref tl) else if y = Str.ofString "titles" then some (.ref tt) else if y = Str.ofString "deck" then some (.ref deck) else if y = Str.ofString "table" then some (.ref T) else if y = Str.ofString "parents" then some (.ref pl) else mX y))
    (N0 : News g L s.heap ((ml, listOf mvs.toArray mn) :: (deck, listOf di.toArray dep) :: (O, listOf #[] nO) :: (MI, oMI) :: (L + 1, oc) :: ((231 : Addr), tabObj #[]) :: ((243 : Addr), tabObj #[]) :: (MA, oMA) :: R))
    (hQ : ∀ h' tk', g.StaysIn h' → (∃ tb' : Array Value, h'.get? 231 = some (tabObj tb')) → (∃ tb' : Array Value, h'.get? 243 = some (tabObj tb')) → Q (.ret (.bool true)) { s with heap := h', toks := tk' }) :
    wpAny (model PG w) (callerA.deeper (lawE L fa cd)) (execs (lawBody.drop 4) (lawE L fa cd)) Q (fun _ _ => False) s := by
  (((simp only [lawE] at *); (generalize hsc9 : lawScope = sc9 at *); (conv at hsc9 => lhs; whnf; dsimp only); subst hsc9))
  generalize hbd : lawBody.drop 4 = bd
  conv at hbd => lhs; whnf
  subst hbd
  have hch' := hch
  have hOm' := hOm
  obtain ⟨m1, m2, m3, m4, m5, m6, m7⟩ := hOm'
  simp only [Lt9] at hch'
  have hml9 := hmi.length
  have hne : ∀ (a : Addr), @Ne Nat deck a → @Ne Nat ml a → @Ne Nat (L + 1) a → @Ne Nat 231 a → @Ne Nat 243 a → @Ne Nat MA a → (∀ q ∈ R, q.1 ≠ a) → ∀ q ∈ (deck, listOf di.toArray dep) :: (ml, listOf mvs.toArray mn) :: (L + 1, oc) :: ((231 : Addr), tabObj #[]) :: ((243 : Addr), tabObj #[]) :: (MA, oMA) :: R, q.1 ≠ a := fun a h1 h2 h3 h4 h5 h6 h7 =>
    List.forall_mem_cons.mpr ⟨h1, List.forall_mem_cons.mpr ⟨h2, List.forall_mem_cons.mpr ⟨h3, List.forall_mem_cons.mpr ⟨h4, List.forall_mem_cons.mpr ⟨h5, List.forall_mem_cons.mpr ⟨h6, h7⟩⟩⟩⟩⟩⟩
  k_with "M iter" =>
    (fail_if_success have := @_root_.Mine.phase4)
    rename Fr _ _ _ _ => F0
    rename News _ _ _ _ => N1
    refine' forListX (l := ml) (vs := mvs) [Str.ofString "symbol"] (nwB O MI ((deck, listOf di.toArray dep) :: (ml, listOf mvs.toArray mn) :: (L + 1, oc) :: ((231 : Addr), tabObj #[]) :: ((243 : Addr), tabObj #[]) :: (MA, oMA) :: R)) (PhiB w ((ml, listOf mvs.toArray mn) :: (deck, listOf di.toArray dep) :: (O, listOf #[] nO) :: (MI, oMI) :: (L + 1, oc) :: ((231 : Addr), tabObj #[]) :: ((243 : Addr), tabObj #[]) :: (MA, oMA) :: R) ms) ⟨[], nO, oMI, [], []⟩ rfl F0 N1 ?sub ?hl ?h0 ?kl ?_ ?_
    case sub =>
      intro q hq
      simp only [nwB, List.mem_cons, List.append_nil] at hq ⊢
      rcases hq with rfl | rfl | rfl | rfl | rfl | rfl | rfl | rfl | hq <;> simp [*]
    case hl => exact N1.isList (by k_mem)
    case h0 => exact ⟨.nil, hMI, Nat.le_refl _, fun k v h => by simp [valueAt] at h, fun k h => by simp at h, fun _ h => (nomatch h)⟩
    case kl => exact fun x h m F2 N2 => N2.isList (by k_mem)
    · intro i v m₁ h tk I oI x hv hΦ F1 N2 hneI
      obtain ⟨own, town, rfl, hown⟩ := IntsAre.at hmi i v hv
      have hr9 := hmr own (List.mem_of_getElem? hown)
      have hi9 := (List.getElem?_eq_some_iff.mp hv).1
      exact turnB B X Tp hch.2.2.2.2.2 (by k_mem) (by k_mem) (hne MI (by omega) (by omega) (by omega) (by omega) (by omega) (by omega) hk6) (hne O (by omega) (by omega) (by omega) (by omega) (by omega) (by omega) hk7) lo2
        (fun q hq => by
          simp only [List.mem_cons] at hq ⊢
          rcases hq with rfl | rfl | rfl | rfl | rfl | rfl | rfl | rfl | hq <;> simp [*]) (.tail _ (.tail _ (.tail _ (.head _)))) (.tail _ (.tail _ (.head _))) hown (nodup_take hmnd hown) hr9.1 hr9.2 (by omega) hΦ F1 N2 hneI
    intro m₁ h tk x hΦ F1 N2
    rw [hml9] at hΦ
    exact phase4_done B X Tp hcd1 hcd2 hch hTG1 hp hN hN1 lo2 hMI hkT1 hkT2 loM hMA hkvz h60 hkp hpi hps hlen hkk hkv hkt htv hoc hk1 hk2 hk3 hk4 hk5 hk6 hk7 hdi hdn hmi hms0 hml hmr hmnd hOm hΦ F1 N2 hQ
  k_steps
theorem hk_LP3_0 : True := by
  k_with "Hexecs cons" => (fail_if_success have := @_root_.Mine.phase3); (k_here; (with_reducible show wpAny _ _ (execs (Stmt.For _ _ _ _ _ :: _) _) _ _ _); k_dflt (k_extra "M loop"))
  trivial
def thirty (n : Nat) : List Int := (List.range n).map fun (i : Nat) => (30 : Int) + (i : Int)
theorem thirty_len (n : Nat) : (thirty n).length = n := by simp [thirty]
theorem thirty_snoc (n : Nat) : thirty (n + 1) = thirty n ++ [30 + (n : Int)] := by simp [thirty, List.range_succ]
theorem thirty_mem {n : Nat} {k : Int} (h : k ∈ thirty n) : 30 ≤ k ∧ k < 30 + (n : Int) := by
  obtain ⟨i, hi, rfl⟩ := List.mem_map.mp h
  have := List.mem_range.mp hi
  omega
theorem thirty_nodup (n : Nat) : (thirty n).Nodup := by
  induction n with
  | zero => exact List.nodup_nil (α := Int)
  | succ n ih =>
    rw [thirty_snoc, List.nodup_append]
    refine ⟨ih, by simp, fun a ha b hb => ?_⟩
    rw [List.mem_singleton.mp hb]
    have := thirty_mem ha
    omega
set_option maxHeartbeats 8000000 in
theorem phase3 {w : World} {p : Program} {loose : List Str} {mean : ExcName → Option Value} {mg mb : Str → Option Value} {g : Heap} {L fa : Addr} {cd : Value} {s : Shared} {Q : Flow → Shared → Prop}
    {deck ml T dT MA MI O pl kl tl tt : Addr} {nT nO : Nat} {q0 q1 q2 : Tok} {oMA oMI oc : Obj} {c0 : Option Value} {kvs : List (Int × Value)} {pvs mvs kvv tvs di : List Value} {pn mn kn tn dep : Nat} {ps ms ds : List Int} {mX mA : Str → Option Value} {R : List (Addr × Obj)}
    {f : Int → Option Value} {N : Int} {pa : Int → Int} {km sy : Int → Option Int}
    (B : Below callerA g [] g) (X : (Mine.hd.heap_39 w.params).In g) (Tp : Top p loose mean mg mb g) (hcd1 : CodeHd g 235 231) (hcd2 : CodeHd g 247 243)
    (hch : Lt9 231 (L + 1) ∧ Lt9 243 (L + 1) ∧ (@Ne Nat (L + 1) deck ∧ @Ne Nat 231 deck ∧ @Ne Nat 243 deck ∧ Lt9 (L + 1) MA) ∧ Lt9 deck MA ∧ Lt9 MA MI ∧ Lt9 MI O)
    (hTG1 : ∀ g' : Heap, g.StaysIn g' → (∀ q ∈ (MA, oMA) :: R, g'.get? q.1 = some q.2) → TabG w g' T MA MI O f N pa km sy) (hp : Par pa) (hN : N ≤ 6) (hN1 : 1 ≤ N)
    (lo2 : (MI == sysModules) = false) (hMI : oMI.IsDictOf (intKind PG w) [])
    (hkT1 : (T, instObj 147 dT) ∈ R) (hkT2 : (dT, dictOf [ent w "majors" q0 (.ref MA), ent w "minors" q1 (.ref MI), ent w "order" q2 (.ref O)] nT) ∈ R) (loM : (MA == sysModules) = false) (hMA : oMA.IsDictOf (intKind PG w) kvs) (hkvz : kvs.length ≤ 50) (h60 : valueAt kvs 60 = none)
    (hkp : (pl, listOf pvs.toArray pn) ∈ R) (hpi : IntsAre pvs ps) (hps : ∀ k : Int, 0 ≤ k → k < (ps.length : Int) → ps[k.toNat]? = some (pa k)) (hlen : (ps.length : Int) = N)
    (hkk : (kl, listOf kvv.toArray kn) ∈ R) (hkv : ∀ k : Int, 0 ≤ k → k < N → ∃ t, kvv[k.toNat]? = some (ov (km k) t)) (hkt : (tl, listOf tvs.toArray tn) ∈ R) (htv : ∀ k : Int, 0 ≤ k → k < N → ∃ t, tvs[k.toNat]? = some (ov (sy k) t))
    (hoc : oc.data = .cell c0)
    (hk1 : ∀ q ∈ R, q.1 ≠ deck) (hk2 : ∀ q ∈ R, q.1 ≠ L + 1) (hk3 : ∀ q ∈ R, q.1 ≠ 231) (hk4 : ∀ q ∈ R, q.1 ≠ 243) (hk5 : ∀ q ∈ R, q.1 ≠ MA) (hk6 : ∀ q ∈ R, q.1 ≠ MI) (hk7 : ∀ q ∈ R, q.1 ≠ O)
    (hdi : IntsAre di ds) (hdn : di.length ≤ 60)

    (F : Fr g L s.heap (fun y => if [Str.ofString "symbol"].contains y = true then mA y else if y = Str.ofString "keymaps" then some (.ref kl) else if y = Str.ofString "tables" then some (.ref tl) else if y = Str.ofString "titles" then some (.ref tt) else if y = Str.ofString "deck" then some (.ref deck) else if y = Str.ofString "table" then some (.ref T) else if y = Str.ofString "parents" then some (.ref pl) else mX y))
    (N0 : News g L s.heap ((deck, listOf di.toArray dep) :: (O, listOf #[] nO) :: (MI, oMI) :: (L + 1, oc) :: ((231 : Addr), tabObj #[]) :: ((243 : Addr), tabObj #[]) :: (MA, oMA) :: R))
    (hQ : ∀ h' tk', g.StaysIn h' → (∃ tb' : Array Value, h'.get? 231 = some (tabObj tb')) → (∃ tb' : Array Value, h'.get? 243 = some (tabObj tb')) → Q (.ret (.bool true)) { s with heap := h', toks := tk' }) :
    wpAny (model PG w) (callerA.deeper (lawE L fa cd)) (execs (lawBody.drop 3) (lawE L fa cd)) Q (fun _ _ => False) s := by
  (((simp only [lawE] at *); (generalize hsc9 : lawScope = sc9 at *); (conv at hsc9 => lhs; whnf; dsimp only); subst hsc9))
  generalize hbd : lawBody.drop 3 = bd
  conv at hbd => lhs; whnf
  subst hbd
  have hch' := hch
  simp only [Lt9] at hch'
  k_with "M call" => (fail_if_success have := @_root_.Mine.phase3); (((with_reducible show wpAny _ _ (call (Value.ref 222) _) _ _ _); (rename Fr _ _ _ _ => F0'); (rename News _ _ _ _ => N0'); refine' draw_use ?B F0' N0' ?X ?T rfl rfl rfl rfl ?hd ?hu ?P ?hi ?hn ?hk ?hk2 ?_; (case B => assumption); (case X => assumption); (case T => assumption); (case hd => (((try simp only [depth_mark, depth_under_make, depth_under_kw, depth_in1, depth_deeper, depth_caller, units_in1, units_deeper, units_caller, Around.mark_units]); (try dsimp only); omega))); (case hu => (((try simp only [depth_mark, depth_under_make, depth_under_kw, depth_in1, depth_deeper, depth_caller, units_in1, units_deeper, units_caller, Around.mark_units]); (try dsimp only); omega))); (case P => k_extra "PICK"); (case hi => assumption); (case hn => assumption); (case hk => omega); (case hk2 => omega); intro dr dt ditems dep dds h' tk' hdi hdn hdr0 hdr1 F' N'; clear F0' N0'; (have hdr : Bnd9 dr _ := ⟨hdr0, hdr1⟩); clear hdr0 hdr1))
  k_with "M src" =>
    (fail_if_success have := @_root_.Mine.phase3)
    with_reducible show LCg.CompSrc _ _ _ _ _ _ _ (Expr.BinOp _ _ _ _) _ _ _ _ _ _
    rename IsRange _ _ _ _ _ _ _ _ => hR0
    rename Fr _ _ _ _ => F0
    rename News _ _ _ _ => N0
    have hdrA := hdr.2
    have hdrB := hdr.1
    generalize hn9 : (1 + dr).toNat = n9
    have hn8 : 1 + dr = (n9 : Int) := by omega
    rw [hn8] at hR0
    k_dflt (refine LCg.CompSrc.range rfl F0 N0 hR0 (small9 (by omega) (by omega)) (rangeSize9 n9) (by rw [PySem.sizeLine_eq]; omega) ?_)
    intro g2
    k_dflt (refine' compU_fix (fun j ys => IntsAre ys (thirty j)) .nil ?_ ?_)
    rotate_left
    intro ys hys ml h tk F1 N1 off
    simp only [LCg.Off1, off1_app] at off
    clear F0 N0 hR0
    try k_fold
    rotate_left
    clear F0 N0 hR0
    intro j v zs I3 oI3 C oC LZ m₃ h tk E' hj hP hJ hC hx F1 N1 off ne
    obtain ⟨tv9, rfl⟩ := hP
    have hoff := off
    simp only [LCg.Off3, and_true] at hoff
    try k_fold
  k_with "M loop" =>
    (fail_if_success have := @_root_.Mine.phase3)
    rename Fr _ _ _ _ => F0
    rename News _ _ _ _ => N1
    have hdrA := hdr.2
    have hdrB := hdr.1
    have hys9 := hys
    refine' phase4 (ms := thirty n9) (mvs := ys) (ml := ml) (T := T) (dT := dT) (MA := MA) (MI := MI) (O := O) (pl := pl) (kl := kl) (tl := tl) B X Tp hcd1 hcd2 hch hTG1 hp hN hN1 lo2 hMI hkT1 hkT2 loM hMA hkvz h60 hkp hpi hps hlen hkk hkv hkt htv hoc hk1 hk2 hk3 hk4 hk5 hk6 hk7 ?d1 ?d2 hys ?a1 ?a2 ?a3 (thirty_nodup n9) ?a4 F0 N1 hQ
    case d1 => assumption
    case d2 => assumption
    case a1 => rw [thirty_len]; omega
    case a2 => rw [thirty_len]; omega
    case a3 => exact fun k hk => by have := thirty_mem hk; omega
    case a4 => exact ⟨by k_ne, by k_ne, by k_ne, by k_ne, by k_ne, by k_ne, by k_ne⟩
  k_steps
  rw [thirty_snoc, Int.zero_add]
  exact hJ.append (.cons _ _ .nil)
theorem PhiA.par {w : World} {nw : List (Addr × Obj)} {i : Nat} {x : XA} (h : PhiA w nw i x) : Par fun k => x.ps.getD k.toNat (-1) := fun k hk => by
  cases hp : x.ps[k.toNat]? with
  | none => simp only [List.getD, hp, Option.getD_none]; omega
  | some v => simp only [List.getD, hp, Option.getD_some]; have := h.hpb _ _ hp; omega
theorem getD_at {α : Type} {l : List α} {j : Nat} {d : α} (h : j < l.length) : l[j]? = some (l.getD j d) := by
  rw [List.getD, List.getElem?_eq_getElem h]; rfl
theorem PhiA.tab {w : World} {nw : List (Addr × Obj)} {n : Nat} {x : XA} (h : PhiA w nw n x) {g' : Heap} {T MA MI O : Addr} (hT : TabAt9 w g' T MA MI O) (hM : g'.get? MA = some x.oM) (lo : (MA == sysModules) = false) (ht : ∀ q ∈ x.tail, g'.get? q.1 = some q.2) :
    TabG w g' T MA MI O (valueAt x.dv) (n : Int) (fun k => x.ps.getD k.toNat (-1)) (fun k => x.ks.getD k.toNat none) (fun k => x.ts.getD k.toNat none) := by
  have lp : x.ps.length = n := by rw [← h.hpv.length, h.hpl]
  have lk : x.ks.length = n := by rw [← h.hks.1, h.hkl]
  have lt : x.ts.length = n := by rw [← h.hts.1, h.htl]
  refine ⟨hT, (Heap.dictOf_iff.mpr ⟨_, hM, h.hoM⟩).mapOf, lo, fun k h0 h1 => ?_⟩
  have hk : ((k.toNat : Nat) : Int) = k := by omega
  obtain ⟨M, tk1, tk2, e1, e2⟩ := h.hmode k.toNat _ _ _ (getD_at (d := -1) (by omega)) (getD_at (d := none) (by omega)) (getD_at (d := none) (by omega))
  rw [hk] at e1 e2
  exact ⟨M, tk1, tk2, e1, e2.at ht⟩
set_option maxHeartbeats 8000000 in
theorem phase2_done {w : World} {p : Program} {loose : List Str} {mean : ExcName → Option Value} {mg mb : Str → Option Value} {g : Heap} {L fa : Addr} {cd : Value} {s : Shared} {Q : Flow → Shared → Prop}
    {deck T dT MA MI O pl kl tl tt e1 e2 e3 : Addr} {nT dep : Nat} {q0 q1 q2 : Tok} {oM0 oMI oc o1 o2 o3 : Obj} {c0 : Option Value} {di : List Value} {ds : List Int} {mX : Str → Option Value}
    (B : Below callerA g [] g) (X : (Mine.hd.heap_39 w.params).In g) (Tp : Top p loose mean mg mb g) (hcd1 : CodeHd g 235 231) (hcd2 : CodeHd g 247 243)
    (hch : Lt9 (243) (L + 1) ∧ Lt9 (231) (L + 1) ∧ Lt9 (L + 1) (e3) ∧ (@Ne Nat e3 deck ∧ @Ne Nat (L + 1) deck ∧ @Ne Nat 243 deck ∧ @Ne Nat 231 deck ∧ Lt9 e3 dT) ∧ Lt9 (deck) (dT) ∧ Lt9 (dT) (T) ∧ Lt9 (T) (MA) ∧ Lt9 (MA) (MI) ∧ Lt9 (MI) (O) ∧ Lt9 (O) (pl) ∧ Lt9 (pl) (e2) ∧ Lt9 (e2) (kl) ∧ Lt9 (kl) (tl) ∧ Lt9 (tl) (tt) ∧ Lt9 (tt) (e1)) (loM : (MA == sysModules) = false) (lo2 : (MI == sysModules) = false) (hMI : oMI.IsDictOf (intKind PG w) []) (hoc : oc.data = .cell c0)
    {n : Nat} {m₁ : Str → Option Value} {x : XA} (hn : n ≤ 6) (hn1 : 1 ≤ n)
    (hΦ : PhiA w ((deck, listOf di.toArray dep) :: (e1, o1) :: (tt, listOf [].toArray 0) :: (tl, listOf [].toArray 0) :: (kl, listOf [].toArray 0) :: (e2, o2) :: (pl, listOf [].toArray 0) :: (O, listOf #[] 0) :: (MI, oMI) :: (MA, oM0) :: (T, instObj 147 dT) :: (dT, dictOf [ent w "majors" q0 (.ref MA), ent w "minors" q1 (.ref MI), ent w "order" q2 (.ref O)] nT) :: (e3, o3) :: (L + 1, oc) :: ((243 : Addr), tabObj #[]) :: ((231 : Addr), tabObj #[]) :: []) n x)
    (F1 : Fr g L s.heap (fun y => if [Str.ofString "symbol"].contains y = true then m₁ y else if y = Str.ofString "keymaps" then some (.ref kl) else if y = Str.ofString "tables" then some (.ref tl) else if y = Str.ofString "titles" then some (.ref tt) else if y = Str.ofString "deck" then some (.ref deck) else if y = Str.ofString "table" then some (.ref T) else if y = Str.ofString "parents" then some (.ref pl) else mX y))
    (N1 : News g L s.heap (nwA deck pl kl tl MA ((e1, o1) :: (tt, listOf [].toArray 0) :: (e2, o2) :: (O, listOf #[] 0) :: (MI, oMI) :: (T, instObj 147 dT) :: (dT, dictOf [ent w "majors" q0 (.ref MA), ent w "minors" q1 (.ref MI), ent w "order" q2 (.ref O)] nT) :: (e3, o3) :: (L + 1, oc) :: ((243 : Addr), tabObj #[]) :: ((231 : Addr), tabObj #[]) :: []) x))
    (hQ : ∀ h' tk', g.StaysIn h' → (∃ tb' : Array Value, h'.get? 231 = some (tabObj tb')) → (∃ tb' : Array Value, h'.get? 243 = some (tabObj tb')) → Q (.ret (.bool true)) { s with heap := h', toks := tk' }) :
    wpAny (model PG w) (callerA.deeper (lawE L fa cd)) (execs (lawBody.drop 3) (lawE L fa cd)) Q (fun _ _ => False) s := by
  simp only [Lt9] at hch
  obtain ⟨z1, z2, z3, z4, z5, z6, z7, z8, z9, z10, z11, z12, z13, z14, z15⟩ := hch
  have hpar := hΦ.par
  have lp : x.ps.length = n := by rw [← hΦ.hpv.length, hΦ.hpl]
  have lk : x.ks.length = n := by rw [← hΦ.hks.1, hΦ.hkl]
  have lt : x.ts.length = n := by rw [← hΦ.hts.1, hΦ.htl]
  have h60 : valueAt x.dv 60 = none := by
    cases hv : valueAt x.dv 60 with
    | none => rfl
    | some v => have := hΦ.hkey _ _ hv; omega
  have tab := fun (g' : Heap) hT hM ht => hΦ.tab (g' := g') (T := T) (MI := MI) (O := O) hT hM loM ht
  have off : ∀ (a : Addr), @Ne Nat pl a → @Ne Nat kl a → @Ne Nat tl a → @Ne Nat T a → @Ne Nat dT a → (∀ q ∈ x.tail, q.1 ≠ a) → ∀ q ∈ (pl, listOf x.pv.toArray x.pn) :: (kl, listOf x.kv.toArray x.kn) :: (tl, listOf x.tv.toArray x.tn) :: (T, instObj 147 dT) :: (dT, dictOf [ent w "majors" q0 (.ref MA), ent w "minors" q1 (.ref MI), ent w "order" q2 (.ref O)] nT) :: x.tail, q.1 ≠ a := fun a h1 h2 h3 h4 h5 h6 =>
    List.forall_mem_cons.mpr ⟨h1, List.forall_mem_cons.mpr ⟨h2, List.forall_mem_cons.mpr ⟨h3, List.forall_mem_cons.mpr ⟨h4, List.forall_mem_cons.mpr ⟨h5, h6⟩⟩⟩⟩⟩
  have hoff := hΦ.hoff
  simp only [nwA, List.cons_append, List.nil_append] at N1
  refine phase3 (ml := pl) (ms := []) (mn := 0) (mvs := []) (T := T) (dT := dT) (MA := MA) (MI := MI) (O := O) (oMA := x.oM) (oMI := oMI) (kvs := x.dv) (di := x.di) (dep := x.dep) (nO := 0) (oc := oc) (mA := m₁) (mX := mX)
    (R := (pl, listOf x.pv.toArray x.pn) :: (kl, listOf x.kv.toArray x.kn) :: (tl, listOf x.tv.toArray x.tn) :: (T, instObj 147 dT) :: (dT, dictOf [ent w "majors" q0 (.ref MA), ent w "minors" q1 (.ref MI), ent w "order" q2 (.ref O)] nT) :: x.tail) B X Tp hcd1 hcd2 ?h1
    (fun g' _ h2 => tab g' ⟨dT, nT, q0, q1, q2, h2 (T, _) (by k_mem), h2 (dT, _) (by k_mem)⟩ (h2 (MA, _) (.head _)) fun q hq => h2 q (.tail _ (.tail _ (.tail _ (.tail _ (.tail _ (.tail _ hq))))))) hpar (by omega) (by omega)
    lo2 hMI (by k_mem) (by k_mem) loM hΦ.hoM (Nat.le_trans hΦ.hdv (by omega)) h60 (by k_mem) hΦ.hpv (fun k h0 h1 => getD_at (by omega)) (by rw [lp]) (by k_mem) (fun k h0 h1 => hΦ.hks.2 _ _ (getD_at (by omega))) (by k_mem) (fun k h0 h1 => hΦ.hts.2 _ _ (getD_at (by omega))) hoc
    (off deck (by omega) (by omega) (by omega) (by omega) (by omega) (Apart.all hoff (by k_mem))) (off (L + 1) (by omega) (by omega) (by omega) (by omega) (by omega) (Apart.all hoff (by k_mem))) (off 231 (by omega) (by omega) (by omega) (by omega) (by omega) (Apart.all hoff (by k_mem))) (off 243 (by omega) (by omega) (by omega) (by omega) (by omega) (Apart.all hoff (by k_mem))) (off MA (by omega) (by omega) (by omega) (by omega) (by omega) (Apart.all hoff (by k_mem))) (off MI (by omega) (by omega) (by omega) (by omega) (by omega) (Apart.all hoff (by k_mem))) (off O (by omega) (by omega) (by omega) (by omega) (by omega) (Apart.all hoff (by k_mem)))
    hΦ.hdi hΦ.hdn F1 (newsPerm N1 ?h2) hQ
  case h1 => (simp only [Lt9]; omega)
  case h2 =>
    intro q hq
    simp only [List.mem_cons, List.not_mem_nil, or_false] at hq ⊢
    rcases hq with rfl | rfl | rfl | rfl | rfl | rfl | rfl | rfl | rfl | rfl | rfl | rfl | hq <;> simp [*]
set_option maxHeartbeats 8000000 in
theorem phase2_turn {w : World} {p : Program} {loose : List Str} {mean : ExcName → Option Value} {mg mb : Str → Option Value} {g : Heap} {L fa : Addr} {cd : Value} {s : Shared} {Q : Flow → Shared → Prop} {pos : Pos}
    {deck T dT MA MI O pl kl tl tt e1 e2 e3 : Addr} {nT dep : Nat} {q0 q1 q2 : Tok} {oM0 oMI oc o1 o2 o3 : Obj} {di : List Value} {mX m₁ : Str → Option Value} {i n tk : Nat} {tv : Tok} {h : Heap} {I : Addr} {oI : Obj} {x : XA}
    (B : Below callerA g [] g) (X : (Mine.hd.heap_39 w.params).In g) (Tp : Top p loose mean mg mb g) (hch : Lt9 (243) (L + 1) ∧ Lt9 (231) (L + 1) ∧ Lt9 (L + 1) (e3) ∧ (@Ne Nat e3 deck ∧ @Ne Nat (L + 1) deck ∧ @Ne Nat 243 deck ∧ @Ne Nat 231 deck ∧ Lt9 e3 dT) ∧ Lt9 (deck) (dT) ∧ Lt9 (dT) (T) ∧ Lt9 (T) (MA) ∧ Lt9 (MA) (MI) ∧ Lt9 (MI) (O) ∧ Lt9 (O) (pl) ∧ Lt9 (pl) (e2) ∧ Lt9 (e2) (kl) ∧ Lt9 (kl) (tl) ∧ Lt9 (tl) (tt) ∧ Lt9 (tt) (e1))
    (hi : i < n) (hn6 : n ≤ 6) (hΦ : PhiA w ((deck, listOf di.toArray dep) :: (e1, o1) :: (tt, listOf [].toArray 0) :: (tl, listOf [].toArray 0) :: (kl, listOf [].toArray 0) :: (e2, o2) :: (pl, listOf [].toArray 0) :: (O, listOf #[] 0) :: (MI, oMI) :: (MA, oM0) :: (T, instObj 147 dT) :: (dT, dictOf [ent w "majors" q0 (.ref MA), ent w "minors" q1 (.ref MI), ent w "order" q2 (.ref O)] nT) :: (e3, o3) :: (L + 1, oc) :: ((243 : Addr), tabObj #[]) :: ((231 : Addr), tabObj #[]) :: []) i x)
    (F1 : Fr g L h (fun y => if [Str.ofString "symbol"].contains y = true then m₁ y else if y = Str.ofString "keymaps" then some (.ref kl) else if y = Str.ofString "tables" then some (.ref tl) else if y = Str.ofString "titles" then some (.ref tt) else if y = Str.ofString "deck" then some (.ref deck) else if y = Str.ofString "table" then some (.ref T) else if y = Str.ofString "parents" then some (.ref pl) else mX y))
    (N1 : News g L h ((I, oI) :: nwA deck pl kl tl MA ((e1, o1) :: (tt, listOf [].toArray 0) :: (e2, o2) :: (O, listOf #[] 0) :: (MI, oMI) :: (T, instObj 147 dT) :: (dT, dictOf [ent w "majors" q0 (.ref MA), ent w "minors" q1 (.ref MI), ent w "order" q2 (.ref O)] nT) :: (e3, o3) :: (L + 1, oc) :: ((243 : Addr), tabObj #[]) :: ((231 : Addr), tabObj #[]) :: []) x)) (hneI : ∀ q ∈ nwA deck pl kl tl MA ((e1, o1) :: (tt, listOf [].toArray 0) :: (e2, o2) :: (O, listOf #[] 0) :: (MI, oMI) :: (T, instObj 147 dT) :: (dT, dictOf [ent w "majors" q0 (.ref MA), ent w "minors" q1 (.ref MI), ent w "order" q2 (.ref O)] nT) :: (e3, o3) :: (L + 1, oc) :: ((243 : Addr), tabObj #[]) :: ((231 : Addr), tabObj #[]) :: []) x, q.1 ≠ I) :
    wpAny (model PG w) (callerA.deeper (lawE L fa cd)) (assign (.Name (Str.ofString "symbol") pos) (lawE L fa cd) (.int (i : Int) tv)) (fun _ s₂ => wpAny (model PG w) (callerA.deeper (lawE L fa cd)) (execs (lawFor 2) (lawE L fa cd)) (TurnEnd (LoopK g L I (JX [Str.ofString "symbol"] (nwA deck pl kl tl MA ((e1, o1) :: (tt, listOf [].toArray 0) :: (e2, o2) :: (O, listOf #[] 0) :: (MI, oMI) :: (T, instObj 147 dT) :: (dT, dictOf [ent w "majors" q0 (.ref MA), ent w "minors" q1 (.ref MI), ent w "order" q2 (.ref O)] nT) :: (e3, o3) :: (L + 1, oc) :: ((243 : Addr), tabObj #[]) :: ((231 : Addr), tabObj #[]) :: [])) (PhiA w ((deck, listOf di.toArray dep) :: (e1, o1) :: (tt, listOf [].toArray 0) :: (tl, listOf [].toArray 0) :: (kl, listOf [].toArray 0) :: (e2, o2) :: (pl, listOf [].toArray 0) :: (O, listOf #[] 0) :: (MI, oMI) :: (MA, oM0) :: (T, instObj 147 dT) :: (dT, dictOf [ent w "majors" q0 (.ref MA), ent w "minors" q1 (.ref MI), ent w "order" q2 (.ref O)] nT) :: (e3, o3) :: (L + 1, oc) :: ((243 : Addr), tabObj #[]) :: ((231 : Addr), tabObj #[]) :: []))
      (fun y => if y = Str.ofString "keymaps" then some (.ref kl) else if y = Str.ofString "tables" then some (.ref tl) else if y = Str.ofString "titles" then some (.ref tt) else if y = Str.ofString "deck" then some (.ref deck) else if y = Str.ofString "table" then some (.ref T) else if y = Str.ofString "parents" then some (.ref pl) else mX y))) (fun _ h => h.get? I = some oI) (i + 1) s Q) (fun _ _ => False) s₂) (fun _ _ => False) { s with heap := h, toks := tk } := by
  simp only [Lt9] at hch
  have k1 : ∀ (a : Addr), @Ne Nat e1 a → @Ne Nat tt a → @Ne Nat e2 a → @Ne Nat O a → @Ne Nat MI a → @Ne Nat T a → @Ne Nat dT a → @Ne Nat e3 a → @Ne Nat (L + 1) a → @Ne Nat 243 a → @Ne Nat 231 a → ∀ q ∈ ((e1, o1) :: (tt, listOf [].toArray 0) :: (e2, o2) :: (O, listOf #[] 0) :: (MI, oMI) :: (T, instObj 147 dT) :: (dT, dictOf [ent w "majors" q0 (.ref MA), ent w "minors" q1 (.ref MI), ent w "order" q2 (.ref O)] nT) :: (e3, o3) :: (L + 1, oc) :: ((243 : Addr), tabObj #[]) :: ((231 : Addr), tabObj #[]) :: []), q.1 ≠ a := fun a h1 h2 h3 h4 h5 h6 h7 h8 h9 h10 h11 =>
    List.forall_mem_cons.mpr ⟨h1, List.forall_mem_cons.mpr ⟨h2, List.forall_mem_cons.mpr ⟨h3, List.forall_mem_cons.mpr ⟨h4, List.forall_mem_cons.mpr ⟨h5, List.forall_mem_cons.mpr ⟨h6, List.forall_mem_cons.mpr ⟨h7, List.forall_mem_cons.mpr ⟨h8, List.forall_mem_cons.mpr ⟨h9, List.forall_mem_cons.mpr ⟨h10, List.forall_mem_cons.mpr ⟨h11, fun _ h => (nomatch h)⟩⟩⟩⟩⟩⟩⟩⟩⟩⟩⟩
  obtain ⟨z1, z2, z3, z4, z5, z6, z7, z8, z9, z10, z11, z12, z13, z14, z15⟩ := hch
  refine turnA (n := n) (news := (deck, listOf di.toArray dep) :: (e1, o1) :: (tt, listOf [].toArray 0) :: (tl, listOf [].toArray 0) :: (kl, listOf [].toArray 0) :: (e2, o2) :: (pl, listOf [].toArray 0) :: (O, listOf #[] 0) :: (MI, oMI) :: (MA, oM0) :: (T, instObj 147 dT) :: (dT, dictOf [ent w "majors" q0 (.ref MA), ent w "minors" q1 (.ref MI), ent w "order" q2 (.ref O)] nT) :: (e3, o3) :: (L + 1, oc) :: ((243 : Addr), tabObj #[]) :: ((231 : Addr), tabObj #[]) :: []) B X Tp ?h1 (by k_mem) (by k_mem) (k1 deck ?_ ?_ ?_ ?_ ?_ ?_ ?_ ?_ ?_ ?_ ?_) (k1 MA ?_ ?_ ?_ ?_ ?_ ?_ ?_ ?_ ?_ ?_ ?_) (k1 pl ?_ ?_ ?_ ?_ ?_ ?_ ?_ ?_ ?_ ?_ ?_) (k1 kl ?_ ?_ ?_ ?_ ?_ ?_ ?_ ?_ ?_ ?_ ?_) (k1 tl ?_ ?_ ?_ ?_ ?_ ?_ ?_ ?_ ?_ ?_ ?_) ?h2
        (by k_mem) (by k_mem) (by k_mem) (by k_mem) (by k_mem) hi hn6 hΦ F1 N1 hneI
  case h1 => (simp only [Lt9]; omega)
  case h2 =>
    intro q hq
    simp only [List.mem_cons, List.not_mem_nil, or_false] at hq ⊢
    rcases hq with rfl | rfl | rfl | rfl | rfl | rfl | rfl | rfl | rfl | rfl | rfl | rfl | rfl | rfl | rfl | rfl <;> simp
  all_goals omega
set_option maxHeartbeats 8000000 in
theorem phase2 {w : World} {p : Program} {loose : List Str} {mean : ExcName → Option Value} {mg mb : Str → Option Value} {g : Heap} {L fa : Addr} {cd : Value} {s : Shared} {Q : Flow → Shared → Prop}
    {deck T dT MA MI O pl kl tl tt e1 e2 e3 : Addr} {nT dep : Nat} {q0 q1 q2 : Tok} {oM0 oMI oc o1 o2 o3 : Obj} {c0 : Option Value} {di : List Value} {ds : List Int} {mX : Str → Option Value}
    (B : Below callerA g [] g) (X : (Mine.hd.heap_39 w.params).In g) (Tp : Top p loose mean mg mb g) (hcd1 : CodeHd g 235 231) (hcd2 : CodeHd g 247 243)
    (hch : Lt9 (243) (L + 1) ∧ Lt9 (231) (L + 1) ∧ Lt9 (L + 1) (e3) ∧ (@Ne Nat e3 deck ∧ @Ne Nat (L + 1) deck ∧ @Ne Nat 243 deck ∧ @Ne Nat 231 deck ∧ Lt9 e3 dT) ∧ Lt9 (deck) (dT) ∧ Lt9 (dT) (T) ∧ Lt9 (T) (MA) ∧ Lt9 (MA) (MI) ∧ Lt9 (MI) (O) ∧ Lt9 (O) (pl) ∧ Lt9 (pl) (e2) ∧ Lt9 (e2) (kl) ∧ Lt9 (kl) (tl) ∧ Lt9 (tl) (tt) ∧ Lt9 (tt) (e1)) (loM : (MA == sysModules) = false) (lo2 : (MI == sysModules) = false) (hMI : oMI.IsDictOf (intKind PG w) []) (hoc : oc.data = .cell c0)

    (hdi : IntsAre di ds) (hdn : di.length ≤ 60) (hMA0 : oM0.IsDictOf (intKind PG w) [])
    (F : Fr g L s.heap (fun y => if y = Str.ofString "keymaps" then some (.ref kl) else if y = Str.ofString "tables" then some (.ref tl) else if y = Str.ofString "titles" then some (.ref tt) else if y = Str.ofString "deck" then some (.ref deck) else if y = Str.ofString "table" then some (.ref T) else if y = Str.ofString "parents" then some (.ref pl) else mX y))
    (N0 : News g L s.heap ((e1, o1) :: (tt, listOf [].toArray 0) :: (tl, listOf [].toArray 0) :: (kl, listOf [].toArray 0) :: (e2, o2) :: (pl, listOf [].toArray 0) :: (O, listOf #[] 0) :: (MI, oMI) :: (MA, oM0) :: (T, instObj 147 dT) :: (dT, dictOf [ent w "majors" q0 (.ref MA), ent w "minors" q1 (.ref MI), ent w "order" q2 (.ref O)] nT) :: (deck, listOf di.toArray dep) :: (e3, o3) :: (L + 1, oc) :: ((243 : Addr), tabObj #[]) :: ((231 : Addr), tabObj #[]) :: []))
    (hQ : ∀ h' tk', g.StaysIn h' → (∃ tb' : Array Value, h'.get? 231 = some (tabObj tb')) → (∃ tb' : Array Value, h'.get? 243 = some (tabObj tb')) → Q (.ret (.bool true)) { s with heap := h', toks := tk' }) :
    wpAny (model PG w) (callerA.deeper (lawE L fa cd)) (execs (lawBody.drop 2) (lawE L fa cd)) Q (fun _ _ => False) s := by
  (((simp only [lawE] at *); (generalize hsc9 : lawScope = sc9 at *); (conv at hsc9 => lhs; whnf; dsimp only); subst hsc9))
  generalize hbd : lawBody.drop 2 = bd
  conv at hbd => lhs; whnf
  subst hbd
  have hch' := hch
  simp only [Lt9] at hch'
  k_with "M call" => (fail_if_success have := @_root_.Mine.phase2); (((with_reducible show wpAny _ _ (call (Value.ref 222) _) _ _ _); (rename Fr _ _ _ _ => F0'); (rename News _ _ _ _ => N0'); refine' draw_use ?B F0' N0' ?X ?T rfl rfl rfl rfl ?hd ?hu ?P ?hi ?hn ?hk ?hk2 ?_; (case B => assumption); (case X => assumption); (case T => assumption); (case hd => (((try simp only [depth_mark, depth_under_make, depth_under_kw, depth_in1, depth_deeper, depth_caller, units_in1, units_deeper, units_caller, Around.mark_units]); (try dsimp only); omega))); (case hu => (((try simp only [depth_mark, depth_under_make, depth_under_kw, depth_in1, depth_deeper, depth_caller, units_in1, units_deeper, units_caller, Around.mark_units]); (try dsimp only); omega))); (case P => k_extra "PICK"); (case hi => assumption); (case hn => assumption); (case hk => omega); (case hk2 => omega); intro dr dt ditems dep dds h' tk' hdi hdn hdr0 hdr1 F' N'; clear F0' N0'; (have hdr : Bnd9 dr _ := ⟨hdr0, hdr1⟩); clear hdr0 hdr1))
  k_with "M iter" =>
    (fail_if_success have := @_root_.Mine.phase2)
    rename IsRange _ _ _ _ _ _ _ _ => hR0
    rename Fr _ _ _ _ => F0
    rename News _ _ _ _ => N1
    have hdrA : dr < 6 := hdr.2
    have hdrB : 0 ≤ dr := hdr.1
    refine' loopA (w := w) (deck := deck) (pl := pl) (kl := kl) (tl := tl) (MA := MA) (kept := (e1, o1) :: (tt, listOf [].toArray 0) :: (e2, o2) :: (O, listOf #[] 0) :: (MI, oMI) :: (T, instObj 147 dT) :: (dT, dictOf [ent w "majors" q0 (.ref MA), ent w "minors" q1 (.ref MI), ent w "order" q2 (.ref O)] nT) :: (e3, o3) :: (L + 1, oc) :: ((243 : Addr), tabObj #[]) :: ((231 : Addr), tabObj #[]) :: []) (di := ditems) (dep := dep) (ds := dds) (oM := oM0) (pn := 0) (kn := 0) (tn := 0) (1 + dr).toNat [Str.ofString "symbol"] rfl F0 N1 ?P hR0 ?hb ?hn hdi hdn hMA0 ?_ ?_
    case P => k_extra "PICKS"
    case hb => omega
    case hn => omega
    · intro i tv m₁ h tk I oI x hi hΦ F1 N2 hneI
      exact phase2_turn (n := (1 + dr).toNat) B X Tp hch hi (by omega) hΦ F1 N2 hneI
    intro m₁ h tk x hΦ F1 N2
    exact phase2_done (ds := []) (n := (1 + dr).toNat) B X Tp hcd1 hcd2 hch loM lo2 hMI hoc (by omega) (by omega) hΦ F1 N2 hQ
  k_steps
theorem hk_LF_0 : True := by
  k_with "Hexecs cons" => (fail_if_success have := @_root_.Mine.final); (k_here; (with_reducible show wpAny _ _ (execs (Stmt.For _ _ _ _ _ :: _) _) _ _ _); k_dflt (k_extra "M loop"))
  trivial
set_option maxHeartbeats 8000000 in
theorem final : PySem.Challenge.rw_np0026_01.Holds := by
  w_on
  refine holds_law hd.said fun said => ?_
  refine holds_open (q := hd.view_39) (loose := []) (Xt := fun s => xlAt hd.view_39 [] s && recOk PySem.Challenge.rw_np0026_01.row.records s) (XP := XL hd.view_39 []) (Yf := hd.H.obs) (Ya := hd.H.val) (YP := hd.H.says) (N := 3900) hd.left (Hook.of hd.H) (Hook.keeps hd.H) (fun s e => xl_of s (Bool.and_eq_true_iff.mp e).1) XL.keeps (by rfl) (by rfl) (by rfl) (fun s e => recFacts_of (Bool.and_eq_true_iff.mp e).2) (by rfl) (by first | assumption | decide +kernel) (by decide +kernel) ⟨rfl, rfl, rfl, rfl, rfl, by decide +kernel⟩ ?hw ?hc
  case hw => w_witness2
  clear said
  k_go0
  rename Below _ _ _ _ => B
  rename Frag.In _ _ => X
  rename Top topProg _ _ _ _ _ => Tp
  refine wpAny_mono (E := fun _ _ => False) ?_ (fun _ _ x => x) fun _ _ x => x.elim
  k_with "M loop" =>
    (fail_if_success have := @_root_.Mine.final)
    rename IntsAre _ (List.map _ (List.take 60 _)) => hdi0
    have hdn0 := hdi0.length
    rw [List.length_map, List.length_take] at hdn0
    have hdn1 := Nat.le_trans (Nat.le_of_eq hdn0) (Nat.min_le_left _ _)
    rename Fr _ _ _ _ => F0
    rename News _ _ _ _ => N1
    refine' phase2 B X Tp ?c1 ?c2 ?ch ?lo1 ?lo2 ?m1 ?oc hdi0 hdn1 ?m2 F0 N1 ?_
    case c1 => assumption
    case c2 => assumption
    case ch =>
      simp only [Lt9]
      refine ⟨?_, ?_, ?_, ⟨?_, ?_, ?_, ?_, ?_⟩, ?_, ?_, ?_, ?_, ?_, ?_, ?_, ?_, ?_, ?_, ?_⟩
      all_goals first | k_ne | omega
    case lo1 => assumption
    case lo2 => assumption
    case m1 => assumption
    case m2 => assumption
    case oc => assumption
    intro h' tk' st k1 k2
    refine' ⟨⟨.inl ⟨_, _, _, rfl, raisesW_false ?c, .bool true, ?post, unshared_nil⟩, st, rfl, ?gens⟩, k2, k1, trivial⟩
    case gens => assumption
    case c => wrow_none_raised
    case post => kc_post
  k_steps
end Mine
theorem PySem.Challenge.cw_np0026_01_holds : PySem.Challenge.rw_np0026_01.Holds :=
  Mine.final
