import PyProof.Rows.All
import Wide.All
import OpenK.AllK
import Wide.FinOn
import PySem.Challenge.RW_np0035_01
open PySem PySem.W PyProof.Rows
set_option Elab.async false
set_option linter.all false
set_option linter.unusedVariables false
set_option compiler.extract_closed false
set_option rowWalk.seconds 0
set_option maxRecDepth 100000
set_option maxHeartbeats 40000000
local macro_rules | `(tactic| walk_at $s:str) => `(tactic| k_extra $s)
local macro_rules | `(tactic| k_all) => `(tactic| k_extra "T k_all")
local macro_rules | `(tactic| k_ne) => `(tactic| k_extra "T k_ne")
local macro_rules | `(tactic| units_room) => `(tactic| k_extra "T units_room")
local macro_rules | `(tactic| k_units) => `(tactic| k_extra "T k_units")
local macro_rules | `(tactic| k_room) => `(tactic| k_extra "T k_room")
local macro_rules | `(tactic| ktr_room) => `(tactic| k_extra "T ktr_room")
local macro_rules | `(tactic| k_steps) => `(tactic| k_extra "T k_steps")
namespace Mine
/-- the rows of a part of this text hold where its flag stands -/
inductive Fl (n : Nat) : Prop
  | mk : Fl n
end Mine
namespace Mine
inductive Key (P : Prop) : Prop
  | mk : Key P
inductive Fam {P : Prop} (q : P) : Prop
  | mk : Fam q
theorem Fam.of {P : Prop} {q : P} (_ : Fam q) : P := q
theorem byKey {P : Prop} (h : Key P → P) : P := h .mk
theorem Key.use {P : Prop} (_ : Key P) (h : P) : P := h
structure Box (P : Prop) : Prop where
  get : P
theorem Key.box {P : Prop} (_ : Key P) (h : P) : Box P := ⟨h⟩
theorem Key.unbox {P : Prop} (_ : Key P) (h : Box P) : P := h.1
end Mine
open PySem PySem.W PyProof.Rows PySem.Calls PySem.Spec Mine
section PartKx
open PySem PySem.W PyProof.Rows
set_option maxHeartbeats 8000000
namespace Mine
/-- the def that stands at place i of the text, or at place j of the class at place i (99: no class) -/
noncomputable def stOf (i j : Nat) : List Stmt := match j, PySem.Challenge.pw_np0035_01.main.body.drop i with
  | 99, l => l
  | j, .ClassDef _ _ _ b _ _ _ _ _ _ _ :: _ => b.drop j
  | _, _ => []
noncomputable def bodyOf (i j : Nat) : List Stmt := match stOf i j with
  | .FunctionDef _ _ b _ _ _ _ _ _ _ :: _ => b
  | _ => []
noncomputable def argsOf (i j : Nat) : Arguments := match stOf i j with
  | .FunctionDef _ a _ _ _ _ _ _ _ _ :: _ => a
  | _ => ⟨[], [], none, [], [], none, []⟩
noncomputable def scopeOf (i j : Nat) : Scope := match stOf i j with
  | .FunctionDef _ _ _ _ _ _ s _ _ _ :: _ => s
  | _ => ⟨.function, [], false, false, []⟩
noncomputable def K : Params → Frag := fun P => (
  (nat_lit 2, (Obj.mk Value.none Option.none (Data.dict (List.toArray [(DictEntry.mk (PyData.keyHash P (Str.ofString "type.__subclasses__.Exception.0")) (Value.str (Str.ofString "type.__subclasses__.Exception.0") 223) (Value.int 38 0)), (DictEntry.mk (PyData.keyHash P (Str.ofString "type.__subclasses__.Exception.n")) (Value.str (Str.ofString "type.__subclasses__.Exception.n") 224) (Value.int 1 0))]) 2) (List.toArray []))) ::
  (nat_lit 3, (Obj.mk (Value.type "dict") Option.none (Data.dict (List.toArray [(DictEntry.mk (PyData.keyHash P (Str.ofString "__name__")) (Value.str (Str.ofString "__name__") 165) (Value.str (Str.ofString "law_np0035_01") 555)), (DictEntry.mk (PyData.keyHash P (Str.ofString "__doc__")) (Value.str (Str.ofString "__doc__") 166) Value.none), (DictEntry.mk (PyData.keyHash P (Str.ofString "__package__")) (Value.str (Str.ofString "__package__") 167) Value.none), (DictEntry.mk (PyData.keyHash P (Str.ofString "__loader__")) (Value.str (Str.ofString "__loader__") 168) (Value.builtin "__main__.__loader__#opaque")), (DictEntry.mk (PyData.keyHash P (Str.ofString "__spec__")) (Value.str (Str.ofString "__spec__") 169) Value.none), (DictEntry.mk (PyData.keyHash P (Str.ofString "__annotations__")) (Value.str (Str.ofString "__annotations__") 170) (Value.ref 6)), (DictEntry.mk (PyData.keyHash P (Str.ofString "__builtins__")) (Value.str (Str.ofString "__builtins__") 171) (Value.ref 4)), (DictEntry.mk (PyData.keyHash P (Str.ofString "__file__")) (Value.str (Str.ofString "__file__") 173) (Value.str (Str.ofString "/claim/cut.py") 172)), (DictEntry.mk (PyData.keyHash P (Str.ofString "__cached__")) (Value.str (Str.ofString "__cached__") 174) Value.none), (DictEntry.mk (PyData.keyHash P (Str.ofString "_wall")) (Value.str (Str.ofString "_wall") 193) (Value.ref 21)), (DictEntry.mk (PyData.keyHash P (Str.ofString "LispSignal")) (Value.str (Str.ofString "LispSignal") 226) (Value.ref 38)), (DictEntry.mk (PyData.keyHash P (Str.ofString "standard_conditions")) (Value.str (Str.ofString "standard_conditions") 234) (Value.ref 48)), (DictEntry.mk (PyData.keyHash P (Str.ofString "conditions_of")) (Value.str (Str.ofString "conditions_of") 241) (Value.ref 55)), (DictEntry.mk (PyData.keyHash P (Str.ofString "Symbol")) (Value.str (Str.ofString "Symbol") 274) (Value.ref 72)), (DictEntry.mk (PyData.keyHash P (Str.ofString "NIL")) (Value.str (Str.ofString "NIL") 284) (Value.ref 78)), (DictEntry.mk (PyData.keyHash P (Str.ofString "T")) (Value.str (Str.ofString "T") 294) (Value.ref 81)), (DictEntry.mk (PyData.keyHash P (Str.ofString "Cons")) (Value.str (Str.ofString "Cons") 325) (Value.ref 99)), (DictEntry.mk (PyData.keyHash P (Str.ofString "MOST_LINKS")) (Value.str (Str.ofString "MOST_LINKS") 329) (Value.int 100 328)), (DictEntry.mk (PyData.keyHash P (Str.ofString "MOST_PARTS")) (Value.str (Str.ofString "MOST_PARTS") 331) (Value.int 100000 330)), (DictEntry.mk (PyData.keyHash P (Str.ofString "is_keyword")) (Value.str (Str.ofString "is_keyword") 338) (Value.ref 110)), (DictEntry.mk (PyData.keyHash P (Str.ofString "is_constant")) (Value.str (Str.ofString "is_constant") 345) (Value.ref 117)), (DictEntry.mk (PyData.keyHash P (Str.ofString "Cells")) (Value.str (Str.ofString "Cells") 461) (Value.ref 197)), (DictEntry.mk (PyData.keyHash P (Str.ofString "Obarray")) (Value.str (Str.ofString "Obarray") 554) (Value.ref 272)), (DictEntry.mk (PyData.keyHash P (Str.ofString "_law_deck")) (Value.str (Str.ofString "_law_deck") 562) (Value.ref 281)), (DictEntry.mk (PyData.keyHash P (Str.ofString "_law_draw")) (Value.str (Str.ofString "_law_draw") 571) (Value.ref 288)), (DictEntry.mk (PyData.keyHash P (Str.ofString "_law_table_deed")) (Value.str (Str.ofString "_law_table_deed") 577) (Value.ref 293)), (DictEntry.mk (PyData.keyHash P (Str.ofString "_law_shown")) (Value.str (Str.ofString "_law_shown") 586) (Value.ref 300)), (DictEntry.mk (PyData.keyHash P (Str.ofString "_law_plist_deed")) (Value.str (Str.ofString "_law_plist_deed") 592) (Value.ref 305)), (DictEntry.mk (PyData.keyHash P (Str.ofString "_law_leads")) (Value.str (Str.ofString "_law_leads") 601) (Value.ref 312)), (DictEntry.mk (PyData.keyHash P (Str.ofString "_law_function_deed")) (Value.str (Str.ofString "_law_function_deed") 621) (Value.ref 319)), (DictEntry.mk (PyData.keyHash P (Str.ofString "law")) (Value.str (Str.ofString "law") 636) (Value.ref 326))]) 31) (List.toArray []))) ::
  (nat_lit 15, (Obj.mk (Value.type "tuple") Option.none (Data.seq (List.toArray []) 0) (List.toArray []))) ::
  (nat_lit 17, (Obj.mk (Value.type "tuple") Option.none (Data.seq (List.toArray [(Value.str (Str.ofString "k") 190)]) 0) (List.toArray []))) ::
  (nat_lit 18, (Obj.mk (Value.type "tuple") Option.none (Data.seq (List.toArray []) 0) (List.toArray []))) ::
  (nat_lit 20, (Obj.mk (Value.type "code") Option.none (Data.fields (List.toArray [(Value.str (Str.ofString "_wall") 187), (Value.str (Str.ofString "_wall") 188), (Value.str (Str.ofString "/claim/cut.py") 189), (Value.int 1 0), (Value.int 1 0), (Value.int 0 0), (Value.int 0 0), (Value.int 3 0), (Value.ref 15), (Value.bool Bool.true), (Value.int 181 0), (Value.ref 16), Value.none, (Value.ref 17), (Value.ref 18), (Value.ref 19), (Value.int 191 0), (Value.int 1 0), (Value.str (Str.ofString "/claim/cut.py") 192)])) (List.toArray []))) ::
  (nat_lit 21, (Obj.mk (Value.type "function") Option.none (Data.func (FuncData.mk (Str.ofString "_wall") (Str.ofString "_wall") (argsOf 0 99) (FuncBody.stmts (bodyOf 0 99)) (scopeOf 0 99) 3 [] Value.none Value.none Value.none (Value.str (Str.ofString "__main__") 164) Option.none (Value.ref 20) Value.none 0)) (List.toArray []))) ::
  (nat_lit 22, (Obj.mk (Value.type "tuple") Option.none (Data.seq (List.toArray [(Value.type "Exception")]) 0) (List.toArray []))) ::
  (nat_lit 29, (Obj.mk (Value.type "tuple") Option.none (Data.seq (List.toArray []) 0) (List.toArray []))) ::
  (nat_lit 31, (Obj.mk (Value.type "tuple") Option.none (Data.seq (List.toArray [(Value.str (Str.ofString "self") 211), (Value.str (Str.ofString "symbol") 212), (Value.str (Str.ofString "data") 213)]) 0) (List.toArray []))) ::
  (nat_lit 32, (Obj.mk (Value.type "tuple") Option.none (Data.seq (List.toArray []) 0) (List.toArray []))) ::
  (nat_lit 34, (Obj.mk (Value.type "code") Option.none (Data.fields (List.toArray [(Value.str (Str.ofString "__init__") 208), (Value.str (Str.ofString "LispSignal.__init__") 209), (Value.str (Str.ofString "/claim/cut.py") 210), (Value.int 7 0), (Value.int 3 0), (Value.int 0 0), (Value.int 0 0), (Value.int 3 0), (Value.ref 29), (Value.bool Bool.true), (Value.int 181 0), (Value.ref 30), Value.none, (Value.ref 31), (Value.ref 32), (Value.ref 33), (Value.int 214 0), (Value.int 7 0), (Value.str (Str.ofString "/claim/cut.py") 215)])) (List.toArray []))) ::
  (nat_lit 35, (Obj.mk (Value.type "function") Option.none (Data.func (FuncData.mk (Str.ofString "__init__") (Str.ofString "LispSignal.__init__") (argsOf 2 0) (FuncBody.stmts (bodyOf 2 0)) (scopeOf 2 0) 3 [] Value.none Value.none Value.none (Value.str (Str.ofString "emacs.errors") 194) Option.none (Value.ref 34) Value.none 0)) (List.toArray []))) ::
  (nat_lit 36, (Obj.mk (Value.type "tuple") Option.none (Data.seq (List.toArray [(Value.str (Str.ofString "data") 217), (Value.str (Str.ofString "symbol") 218)]) 0) (List.toArray []))) ::
  (nat_lit 37, (Obj.mk (Value.type "dict") Option.none (Data.dict (List.toArray [(DictEntry.mk (PyData.keyHash P (Str.ofString "__module__")) (Value.str (Str.ofString "__module__") 203) (Value.str (Str.ofString "emacs.errors") 194)), (DictEntry.mk (PyData.keyHash P (Str.ofString "__firstlineno__")) (Value.str (Str.ofString "__firstlineno__") 207) (Value.int 5 206)), (DictEntry.mk (PyData.keyHash P (Str.ofString "__init__")) (Value.str (Str.ofString "__init__") 216) (Value.ref 35)), (DictEntry.mk (PyData.keyHash P (Str.ofString "__static_attributes__")) (Value.str (Str.ofString "__static_attributes__") 219) (Value.ref 36)), (DictEntry.mk (PyData.keyHash P (Str.ofString "__weakref__")) (Value.str (Str.ofString "__weakref__") 221) (Value.ref 39)), (DictEntry.mk (PyData.keyHash P (Str.ofString "__doc__")) (Value.str (Str.ofString "__doc__") 222) Value.none)]) 3) (List.toArray []))) ::
  (nat_lit 38, (Obj.mk (Value.type "type") Option.none (Data.cls (ClassData.mk (Str.ofString "LispSignal") [(Value.type "Exception")] [(Value.ref 38), (Value.type "Exception"), (Value.type "BaseException"), (Value.type "object")] 37 (Str.ofString "LispSignal") Bool.true [] [] Bool.false Option.none Bool.false)) (List.toArray [(Option.some (Value.ref 22)), Option.none, (Option.some (Value.str (Str.ofString "LispSignal") 196)), (Option.some (Value.str (Str.ofString "LispSignal") 204)), (Option.some (Value.builtin "Exception.__new__")), (Option.some (Value.bool Bool.true))]))) ::
  (nat_lit 39, (Obj.mk (Value.type "getset_descriptor") Option.none (Data.fields (List.toArray [(Value.str (Str.ofString "__weakref__") 220), (Value.ref 38), (Value.builtin "ExceptionGroup.__weakref__"), Value.none])) (List.toArray []))) ::
  (nat_lit 42, (Obj.mk (Value.type "tuple") Option.none (Data.seq (List.toArray []) 0) (List.toArray []))) ::
  (nat_lit 44, (Obj.mk (Value.type "tuple") Option.none (Data.seq (List.toArray [(Value.str (Str.ofString "found") 230), (Value.str (Str.ofString "name") 231)]) 0) (List.toArray []))) ::
  (nat_lit 45, (Obj.mk (Value.type "tuple") Option.none (Data.seq (List.toArray []) 0) (List.toArray []))) ::
  (nat_lit 47, (Obj.mk (Value.type "code") Option.none (Data.fields (List.toArray [(Value.str (Str.ofString "standard_conditions") 227), (Value.str (Str.ofString "standard_conditions") 228), (Value.str (Str.ofString "/claim/cut.py") 229), (Value.int 10 0), (Value.int 0 0), (Value.int 0 0), (Value.int 0 0), (Value.int 3 0), (Value.ref 42), (Value.bool Bool.true), (Value.int 181 0), (Value.ref 43), Value.none, (Value.ref 44), (Value.ref 45), (Value.ref 46), (Value.int 232 0), (Value.int 10 0), (Value.str (Str.ofString "/claim/cut.py") 233)])) (List.toArray []))) ::
  (nat_lit 48, (Obj.mk (Value.type "function") Option.none (Data.func (FuncData.mk (Str.ofString "standard_conditions") (Str.ofString "standard_conditions") (argsOf 3 99) (FuncBody.stmts (bodyOf 3 99)) (scopeOf 3 99) 3 [] Value.none Value.none Value.none (Value.str (Str.ofString "emacs.errors") 194) Option.none (Value.ref 47) Value.none 0)) (List.toArray []))) ::
  (nat_lit 49, (Obj.mk (Value.type "tuple") Option.none (Data.seq (List.toArray []) 0) (List.toArray []))) ::
  (nat_lit 51, (Obj.mk (Value.type "tuple") Option.none (Data.seq (List.toArray [(Value.str (Str.ofString "name") 238)]) 0) (List.toArray []))) ::
  (nat_lit 52, (Obj.mk (Value.type "tuple") Option.none (Data.seq (List.toArray []) 0) (List.toArray []))) ::
  (nat_lit 54, (Obj.mk (Value.type "code") Option.none (Data.fields (List.toArray [(Value.str (Str.ofString "conditions_of") 235), (Value.str (Str.ofString "conditions_of") 236), (Value.str (Str.ofString "/claim/cut.py") 237), (Value.int 21 0), (Value.int 1 0), (Value.int 0 0), (Value.int 0 0), (Value.int 3 0), (Value.ref 49), (Value.bool Bool.true), (Value.int 181 0), (Value.ref 50), Value.none, (Value.ref 51), (Value.ref 52), (Value.ref 53), (Value.int 239 0), (Value.int 21 0), (Value.str (Str.ofString "/claim/cut.py") 240)])) (List.toArray []))) ::
  (nat_lit 55, (Obj.mk (Value.type "function") Option.none (Data.func (FuncData.mk (Str.ofString "conditions_of") (Str.ofString "conditions_of") (argsOf 4 99) (FuncBody.stmts (bodyOf 4 99)) (scopeOf 4 99) 3 [] Value.none Value.none Value.none (Value.str (Str.ofString "emacs.errors") 194) Option.none (Value.ref 54) Value.none 0)) (List.toArray []))) ::
  (nat_lit 63, (Obj.mk (Value.type "tuple") Option.none (Data.seq (List.toArray []) 0) (List.toArray []))) ::
  (nat_lit 65, (Obj.mk (Value.type "tuple") Option.none (Data.seq (List.toArray [(Value.str (Str.ofString "self") 259), (Value.str (Str.ofString "number") 260), (Value.str (Str.ofString "name") 261)]) 0) (List.toArray []))) ::
  (nat_lit 66, (Obj.mk (Value.type "tuple") Option.none (Data.seq (List.toArray []) 0) (List.toArray []))) ::
  (nat_lit 68, (Obj.mk (Value.type "code") Option.none (Data.fields (List.toArray [(Value.str (Str.ofString "__init__") 256), (Value.str (Str.ofString "Symbol.__init__") 257), (Value.str (Str.ofString "/claim/cut.py") 258), (Value.int 26 0), (Value.int 3 0), (Value.int 0 0), (Value.int 0 0), (Value.int 3 0), (Value.ref 63), (Value.bool Bool.true), (Value.int 181 0), (Value.ref 64), Value.none, (Value.ref 65), (Value.ref 66), (Value.ref 67), (Value.int 262 0), (Value.int 26 0), (Value.str (Str.ofString "/claim/cut.py") 263)])) (List.toArray []))) ::
  (nat_lit 69, (Obj.mk (Value.type "function") Option.none (Data.func (FuncData.mk (Str.ofString "__init__") (Str.ofString "Symbol.__init__") (argsOf 6 0) (FuncBody.stmts (bodyOf 6 0)) (scopeOf 6 0) 3 [] Value.none Value.none Value.none (Value.str (Str.ofString "emacs.objects") 242) Option.none (Value.ref 68) Value.none 0)) (List.toArray []))) ::
  (nat_lit 70, (Obj.mk (Value.type "tuple") Option.none (Data.seq (List.toArray [(Value.str (Str.ofString "name") 265), (Value.str (Str.ofString "number") 266)]) 0) (List.toArray []))) ::
  (nat_lit 71, (Obj.mk (Value.type "dict") Option.none (Data.dict (List.toArray [(DictEntry.mk (PyData.keyHash P (Str.ofString "__module__")) (Value.str (Str.ofString "__module__") 251) (Value.str (Str.ofString "emacs.objects") 242)), (DictEntry.mk (PyData.keyHash P (Str.ofString "__firstlineno__")) (Value.str (Str.ofString "__firstlineno__") 255) (Value.int 24 254)), (DictEntry.mk (PyData.keyHash P (Str.ofString "__init__")) (Value.str (Str.ofString "__init__") 264) (Value.ref 69)), (DictEntry.mk (PyData.keyHash P (Str.ofString "__static_attributes__")) (Value.str (Str.ofString "__static_attributes__") 267) (Value.ref 70)), (DictEntry.mk (PyData.keyHash P (Str.ofString "__dict__")) (Value.str (Str.ofString "__dict__") 269) (Value.ref 73)), (DictEntry.mk (PyData.keyHash P (Str.ofString "__weakref__")) (Value.str (Str.ofString "__weakref__") 271) (Value.ref 74)), (DictEntry.mk (PyData.keyHash P (Str.ofString "__doc__")) (Value.str (Str.ofString "__doc__") 272) Value.none)]) 4) (List.toArray []))) ::
  (nat_lit 72, (Obj.mk (Value.type "type") Option.none (Data.cls (ClassData.mk (Str.ofString "Symbol") [(Value.type "object")] [(Value.ref 72), (Value.type "object")] 71 (Str.ofString "Symbol") Bool.true [] [] Bool.false Option.none Bool.false)) (List.toArray [Option.none, Option.none, (Option.some (Value.str (Str.ofString "Symbol") 244)), (Option.some (Value.str (Str.ofString "Symbol") 252)), (Option.some (Value.builtin "object.__new__")), (Option.some (Value.bool Bool.true))]))) ::
  (nat_lit 73, (Obj.mk (Value.type "getset_descriptor") Option.none (Data.fields (List.toArray [(Value.str (Str.ofString "__dict__") 268), (Value.ref 72), (Value.builtin "function.__dict__"), (Value.builtin "function.__dict__#set")])) (List.toArray []))) ::
  (nat_lit 74, (Obj.mk (Value.type "getset_descriptor") Option.none (Data.fields (List.toArray [(Value.str (Str.ofString "__weakref__") 270), (Value.ref 72), (Value.builtin "ExceptionGroup.__weakref__"), Value.none])) (List.toArray []))) ::
  (nat_lit 77, (Obj.mk (Value.type "dict") Option.none (Data.dict (List.toArray [(DictEntry.mk (PyData.keyHash P (Str.ofString "number")) (Value.str (Str.ofString "number") 281) (Value.int 0 275)), (DictEntry.mk (PyData.keyHash P (Str.ofString "name")) (Value.str (Str.ofString "name") 283) (Value.str (Str.ofString "nil") 276))]) 2) (List.toArray []))) ::
  (nat_lit 78, (Obj.mk (Value.ref 72) (Option.some 77) Data.plain (List.toArray []))) ::
  (nat_lit 80, (Obj.mk (Value.type "dict") Option.none (Data.dict (List.toArray [(DictEntry.mk (PyData.keyHash P (Str.ofString "number")) (Value.str (Str.ofString "number") 291) (Value.int 1 285)), (DictEntry.mk (PyData.keyHash P (Str.ofString "name")) (Value.str (Str.ofString "name") 293) (Value.str (Str.ofString "t") 286))]) 2) (List.toArray []))) ::
  (nat_lit 81, (Obj.mk (Value.ref 72) (Option.some 80) Data.plain (List.toArray []))) ::
  (nat_lit 90, (Obj.mk (Value.type "tuple") Option.none (Data.seq (List.toArray []) 0) (List.toArray []))) ::
  (nat_lit 92, (Obj.mk (Value.type "tuple") Option.none (Data.seq (List.toArray [(Value.str (Str.ofString "self") 310), (Value.str (Str.ofString "car") 311), (Value.str (Str.ofString "cdr") 312)]) 0) (List.toArray []))) ::
  (nat_lit 93, (Obj.mk (Value.type "tuple") Option.none (Data.seq (List.toArray []) 0) (List.toArray []))) ::
  (nat_lit 95, (Obj.mk (Value.type "code") Option.none (Data.fields (List.toArray [(Value.str (Str.ofString "__init__") 307), (Value.str (Str.ofString "Cons.__init__") 308), (Value.str (Str.ofString "/claim/cut.py") 309), (Value.int 33 0), (Value.int 3 0), (Value.int 0 0), (Value.int 0 0), (Value.int 3 0), (Value.ref 90), (Value.bool Bool.true), (Value.int 181 0), (Value.ref 91), Value.none, (Value.ref 92), (Value.ref 93), (Value.ref 94), (Value.int 313 0), (Value.int 33 0), (Value.str (Str.ofString "/claim/cut.py") 314)])) (List.toArray []))) ::
  (nat_lit 96, (Obj.mk (Value.type "function") Option.none (Data.func (FuncData.mk (Str.ofString "__init__") (Str.ofString "Cons.__init__") (argsOf 9 0) (FuncBody.stmts (bodyOf 9 0)) (scopeOf 9 0) 3 [] Value.none Value.none Value.none (Value.str (Str.ofString "emacs.objects") 242) Option.none (Value.ref 95) Value.none 0)) (List.toArray []))) ::
  (nat_lit 97, (Obj.mk (Value.type "tuple") Option.none (Data.seq (List.toArray [(Value.str (Str.ofString "car") 316), (Value.str (Str.ofString "cdr") 317)]) 0) (List.toArray []))) ::
  (nat_lit 98, (Obj.mk (Value.type "dict") Option.none (Data.dict (List.toArray [(DictEntry.mk (PyData.keyHash P (Str.ofString "__module__")) (Value.str (Str.ofString "__module__") 302) (Value.str (Str.ofString "emacs.objects") 242)), (DictEntry.mk (PyData.keyHash P (Str.ofString "__firstlineno__")) (Value.str (Str.ofString "__firstlineno__") 306) (Value.int 31 305)), (DictEntry.mk (PyData.keyHash P (Str.ofString "__init__")) (Value.str (Str.ofString "__init__") 315) (Value.ref 96)), (DictEntry.mk (PyData.keyHash P (Str.ofString "__static_attributes__")) (Value.str (Str.ofString "__static_attributes__") 318) (Value.ref 97)), (DictEntry.mk (PyData.keyHash P (Str.ofString "__dict__")) (Value.str (Str.ofString "__dict__") 320) (Value.ref 100)), (DictEntry.mk (PyData.keyHash P (Str.ofString "__weakref__")) (Value.str (Str.ofString "__weakref__") 322) (Value.ref 101)), (DictEntry.mk (PyData.keyHash P (Str.ofString "__doc__")) (Value.str (Str.ofString "__doc__") 323) Value.none)]) 4) (List.toArray []))) ::
  (nat_lit 99, (Obj.mk (Value.type "type") Option.none (Data.cls (ClassData.mk (Str.ofString "Cons") [(Value.type "object")] [(Value.ref 99), (Value.type "object")] 98 (Str.ofString "Cons") Bool.true [] [] Bool.false Option.none Bool.false)) (List.toArray [Option.none, Option.none, (Option.some (Value.str (Str.ofString "Cons") 295)), (Option.some (Value.str (Str.ofString "Cons") 303)), (Option.some (Value.builtin "object.__new__")), (Option.some (Value.bool Bool.true))]))) ::
  (nat_lit 100, (Obj.mk (Value.type "getset_descriptor") Option.none (Data.fields (List.toArray [(Value.str (Str.ofString "__dict__") 319), (Value.ref 99), (Value.builtin "function.__dict__"), (Value.builtin "function.__dict__#set")])) (List.toArray []))) ::
  (nat_lit 101, (Obj.mk (Value.type "getset_descriptor") Option.none (Data.fields (List.toArray [(Value.str (Str.ofString "__weakref__") 321), (Value.ref 99), (Value.builtin "ExceptionGroup.__weakref__"), Value.none])) (List.toArray []))) ::
  (nat_lit 104, (Obj.mk (Value.type "tuple") Option.none (Data.seq (List.toArray []) 0) (List.toArray []))) ::
  (nat_lit 106, (Obj.mk (Value.type "tuple") Option.none (Data.seq (List.toArray [(Value.str (Str.ofString "symbol") 335)]) 0) (List.toArray []))) ::
  (nat_lit 107, (Obj.mk (Value.type "tuple") Option.none (Data.seq (List.toArray []) 0) (List.toArray []))) ::
  (nat_lit 109, (Obj.mk (Value.type "code") Option.none (Data.fields (List.toArray [(Value.str (Str.ofString "is_keyword") 332), (Value.str (Str.ofString "is_keyword") 333), (Value.str (Str.ofString "/claim/cut.py") 334), (Value.int 39 0), (Value.int 1 0), (Value.int 0 0), (Value.int 0 0), (Value.int 3 0), (Value.ref 104), (Value.bool Bool.true), (Value.int 181 0), (Value.ref 105), Value.none, (Value.ref 106), (Value.ref 107), (Value.ref 108), (Value.int 336 0), (Value.int 39 0), (Value.str (Str.ofString "/claim/cut.py") 337)])) (List.toArray []))) ::
  (nat_lit 110, (Obj.mk (Value.type "function") Option.none (Data.func (FuncData.mk (Str.ofString "is_keyword") (Str.ofString "is_keyword") (argsOf 13 99) (FuncBody.stmts (bodyOf 13 99)) (scopeOf 13 99) 3 [] Value.none Value.none Value.none (Value.str (Str.ofString "emacs.cells") 326) Option.none (Value.ref 109) Value.none 0)) (List.toArray []))) ::
  (nat_lit 111, (Obj.mk (Value.type "tuple") Option.none (Data.seq (List.toArray []) 0) (List.toArray []))) ::
  (nat_lit 113, (Obj.mk (Value.type "tuple") Option.none (Data.seq (List.toArray [(Value.str (Str.ofString "symbol") 342)]) 0) (List.toArray []))) ::
  (nat_lit 114, (Obj.mk (Value.type "tuple") Option.none (Data.seq (List.toArray []) 0) (List.toArray []))) ::
  (nat_lit 116, (Obj.mk (Value.type "code") Option.none (Data.fields (List.toArray [(Value.str (Str.ofString "is_constant") 339), (Value.str (Str.ofString "is_constant") 340), (Value.str (Str.ofString "/claim/cut.py") 341), (Value.int 41 0), (Value.int 1 0), (Value.int 0 0), (Value.int 0 0), (Value.int 3 0), (Value.ref 111), (Value.bool Bool.true), (Value.int 181 0), (Value.ref 112), Value.none, (Value.ref 113), (Value.ref 114), (Value.ref 115), (Value.int 343 0), (Value.int 41 0), (Value.str (Str.ofString "/claim/cut.py") 344)])) (List.toArray []))) ::
  (nat_lit 117, (Obj.mk (Value.type "function") Option.none (Data.func (FuncData.mk (Str.ofString "is_constant") (Str.ofString "is_constant") (argsOf 14 99) (FuncBody.stmts (bodyOf 14 99)) (scopeOf 14 99) 3 [] Value.none Value.none Value.none (Value.str (Str.ofString "emacs.cells") 326) Option.none (Value.ref 116) Value.none 0)) (List.toArray []))) ::
  (nat_lit 125, (Obj.mk (Value.type "tuple") Option.none (Data.seq (List.toArray []) 0) (List.toArray []))) ::
  (nat_lit 127, (Obj.mk (Value.type "tuple") Option.none (Data.seq (List.toArray [(Value.str (Str.ofString "self") 361)]) 0) (List.toArray []))) ::
  (nat_lit 128, (Obj.mk (Value.type "tuple") Option.none (Data.seq (List.toArray []) 0) (List.toArray []))) ::
  (nat_lit 130, (Obj.mk (Value.type "code") Option.none (Data.fields (List.toArray [(Value.str (Str.ofString "__init__") 358), (Value.str (Str.ofString "Cells.__init__") 359), (Value.str (Str.ofString "/claim/cut.py") 360), (Value.int 45 0), (Value.int 1 0), (Value.int 0 0), (Value.int 0 0), (Value.int 3 0), (Value.ref 125), (Value.bool Bool.true), (Value.int 181 0), (Value.ref 126), Value.none, (Value.ref 127), (Value.ref 128), (Value.ref 129), (Value.int 362 0), (Value.int 45 0), (Value.str (Str.ofString "/claim/cut.py") 363)])) (List.toArray []))) ::
  (nat_lit 131, (Obj.mk (Value.type "function") Option.none (Data.func (FuncData.mk (Str.ofString "__init__") (Str.ofString "Cells.__init__") (argsOf 15 0) (FuncBody.stmts (bodyOf 15 0)) (scopeOf 15 0) 3 [] Value.none Value.none Value.none (Value.str (Str.ofString "emacs.cells") 326) Option.none (Value.ref 130) Value.none 0)) (List.toArray []))) ::
  (nat_lit 132, (Obj.mk (Value.type "tuple") Option.none (Data.seq (List.toArray []) 0) (List.toArray []))) ::
  (nat_lit 134, (Obj.mk (Value.type "tuple") Option.none (Data.seq (List.toArray [(Value.str (Str.ofString "self") 368), (Value.str (Str.ofString "symbol") 369)]) 0) (List.toArray []))) ::
  (nat_lit 135, (Obj.mk (Value.type "tuple") Option.none (Data.seq (List.toArray []) 0) (List.toArray []))) ::
  (nat_lit 137, (Obj.mk (Value.type "code") Option.none (Data.fields (List.toArray [(Value.str (Str.ofString "function_of") 365), (Value.str (Str.ofString "Cells.function_of") 366), (Value.str (Str.ofString "/claim/cut.py") 367), (Value.int 49 0), (Value.int 2 0), (Value.int 0 0), (Value.int 0 0), (Value.int 3 0), (Value.ref 132), (Value.bool Bool.true), (Value.int 181 0), (Value.ref 133), Value.none, (Value.ref 134), (Value.ref 135), (Value.ref 136), (Value.int 370 0), (Value.int 49 0), (Value.str (Str.ofString "/claim/cut.py") 371)])) (List.toArray []))) ::
  (nat_lit 138, (Obj.mk (Value.type "function") Option.none (Data.func (FuncData.mk (Str.ofString "function_of") (Str.ofString "Cells.function_of") (argsOf 15 1) (FuncBody.stmts (bodyOf 15 1)) (scopeOf 15 1) 3 [] Value.none Value.none Value.none (Value.str (Str.ofString "emacs.cells") 326) Option.none (Value.ref 137) Value.none 0)) (List.toArray []))) ::
  (nat_lit 139, (Obj.mk (Value.type "tuple") Option.none (Data.seq (List.toArray []) 0) (List.toArray []))) ::
  (nat_lit 141, (Obj.mk (Value.type "tuple") Option.none (Data.seq (List.toArray [(Value.str (Str.ofString "self") 376), (Value.str (Str.ofString "symbol") 377)]) 0) (List.toArray []))) ::
  (nat_lit 142, (Obj.mk (Value.type "tuple") Option.none (Data.seq (List.toArray []) 0) (List.toArray []))) ::
  (nat_lit 144, (Obj.mk (Value.type "code") Option.none (Data.fields (List.toArray [(Value.str (Str.ofString "is_defined") 373), (Value.str (Str.ofString "Cells.is_defined") 374), (Value.str (Str.ofString "/claim/cut.py") 375), (Value.int 52 0), (Value.int 2 0), (Value.int 0 0), (Value.int 0 0), (Value.int 3 0), (Value.ref 139), (Value.bool Bool.true), (Value.int 181 0), (Value.ref 140), Value.none, (Value.ref 141), (Value.ref 142), (Value.ref 143), (Value.int 378 0), (Value.int 52 0), (Value.str (Str.ofString "/claim/cut.py") 379)])) (List.toArray []))) ::
  (nat_lit 145, (Obj.mk (Value.type "function") Option.none (Data.func (FuncData.mk (Str.ofString "is_defined") (Str.ofString "Cells.is_defined") (argsOf 15 2) (FuncBody.stmts (bodyOf 15 2)) (scopeOf 15 1) 3 [] Value.none Value.none Value.none (Value.str (Str.ofString "emacs.cells") 326) Option.none (Value.ref 144) Value.none 0)) (List.toArray []))) ::
  (nat_lit 146, (Obj.mk (Value.type "tuple") Option.none (Data.seq (List.toArray []) 0) (List.toArray []))) ::
  (nat_lit 148, (Obj.mk (Value.type "tuple") Option.none (Data.seq (List.toArray [(Value.str (Str.ofString "self") 384), (Value.str (Str.ofString "symbol") 385), (Value.str (Str.ofString "function") 386), (Value.str (Str.ofString "at") 387), (Value.str (Str.ofString "turn") 388)]) 0) (List.toArray []))) ::
  (nat_lit 149, (Obj.mk (Value.type "tuple") Option.none (Data.seq (List.toArray []) 0) (List.toArray []))) ::
  (nat_lit 151, (Obj.mk (Value.type "code") Option.none (Data.fields (List.toArray [(Value.str (Str.ofString "set_function") 381), (Value.str (Str.ofString "Cells.set_function") 382), (Value.str (Str.ofString "/claim/cut.py") 383), (Value.int 55 0), (Value.int 3 0), (Value.int 0 0), (Value.int 0 0), (Value.int 3 0), (Value.ref 146), (Value.bool Bool.true), (Value.int 181 0), (Value.ref 147), Value.none, (Value.ref 148), (Value.ref 149), (Value.ref 150), (Value.int 389 0), (Value.int 55 0), (Value.str (Str.ofString "/claim/cut.py") 390)])) (List.toArray []))) ::
  (nat_lit 152, (Obj.mk (Value.type "function") Option.none (Data.func (FuncData.mk (Str.ofString "set_function") (Str.ofString "Cells.set_function") (argsOf 15 3) (FuncBody.stmts (bodyOf 15 3)) (scopeOf 15 3) 3 [] Value.none Value.none Value.none (Value.str (Str.ofString "emacs.cells") 326) Option.none (Value.ref 151) Value.none 0)) (List.toArray []))) ::
  (nat_lit 153, (Obj.mk (Value.type "tuple") Option.none (Data.seq (List.toArray []) 0) (List.toArray []))) ::
  (nat_lit 155, (Obj.mk (Value.type "tuple") Option.none (Data.seq (List.toArray [(Value.str (Str.ofString "self") 395), (Value.str (Str.ofString "datum") 396), (Value.str (Str.ofString "at") 397)]) 0) (List.toArray []))) ::
  (nat_lit 156, (Obj.mk (Value.type "tuple") Option.none (Data.seq (List.toArray []) 0) (List.toArray []))) ::
  (nat_lit 158, (Obj.mk (Value.type "code") Option.none (Data.fields (List.toArray [(Value.str (Str.ofString "indirect_function") 392), (Value.str (Str.ofString "Cells.indirect_function") 393), (Value.str (Str.ofString "/claim/cut.py") 394), (Value.int 67 0), (Value.int 2 0), (Value.int 0 0), (Value.int 0 0), (Value.int 3 0), (Value.ref 153), (Value.bool Bool.true), (Value.int 181 0), (Value.ref 154), Value.none, (Value.ref 155), (Value.ref 156), (Value.ref 157), (Value.int 398 0), (Value.int 67 0), (Value.str (Str.ofString "/claim/cut.py") 399)])) (List.toArray []))) ::
  (nat_lit 159, (Obj.mk (Value.type "function") Option.none (Data.func (FuncData.mk (Str.ofString "indirect_function") (Str.ofString "Cells.indirect_function") (argsOf 15 4) (FuncBody.stmts (bodyOf 15 4)) (scopeOf 15 4) 3 [] Value.none Value.none Value.none (Value.str (Str.ofString "emacs.cells") 326) Option.none (Value.ref 158) Value.none 0)) (List.toArray []))) ::
  (nat_lit 160, (Obj.mk (Value.type "tuple") Option.none (Data.seq (List.toArray []) 0) (List.toArray []))) ::
  (nat_lit 162, (Obj.mk (Value.type "tuple") Option.none (Data.seq (List.toArray [(Value.str (Str.ofString "self") 404), (Value.str (Str.ofString "symbol") 405)]) 0) (List.toArray []))) ::
  (nat_lit 163, (Obj.mk (Value.type "tuple") Option.none (Data.seq (List.toArray []) 0) (List.toArray []))) ::
  (nat_lit 165, (Obj.mk (Value.type "code") Option.none (Data.fields (List.toArray [(Value.str (Str.ofString "plist_of") 401), (Value.str (Str.ofString "Cells.plist_of") 402), (Value.str (Str.ofString "/claim/cut.py") 403), (Value.int 73 0), (Value.int 2 0), (Value.int 0 0), (Value.int 0 0), (Value.int 3 0), (Value.ref 160), (Value.bool Bool.true), (Value.int 181 0), (Value.ref 161), Value.none, (Value.ref 162), (Value.ref 163), (Value.ref 164), (Value.int 406 0), (Value.int 73 0), (Value.str (Str.ofString "/claim/cut.py") 407)])) (List.toArray []))) ::
  (nat_lit 166, (Obj.mk (Value.type "function") Option.none (Data.func (FuncData.mk (Str.ofString "plist_of") (Str.ofString "Cells.plist_of") (argsOf 15 5) (FuncBody.stmts (bodyOf 15 5)) (scopeOf 15 1) 3 [] Value.none Value.none Value.none (Value.str (Str.ofString "emacs.cells") 326) Option.none (Value.ref 165) Value.none 0)) (List.toArray []))) ::
  (nat_lit 167, (Obj.mk (Value.type "tuple") Option.none (Data.seq (List.toArray []) 0) (List.toArray []))) ::
  (nat_lit 169, (Obj.mk (Value.type "tuple") Option.none (Data.seq (List.toArray [(Value.str (Str.ofString "self") 412), (Value.str (Str.ofString "symbol") 413), (Value.str (Str.ofString "plist") 414)]) 0) (List.toArray []))) ::
  (nat_lit 170, (Obj.mk (Value.type "tuple") Option.none (Data.seq (List.toArray []) 0) (List.toArray []))) ::
  (nat_lit 172, (Obj.mk (Value.type "code") Option.none (Data.fields (List.toArray [(Value.str (Str.ofString "set_plist") 409), (Value.str (Str.ofString "Cells.set_plist") 410), (Value.str (Str.ofString "/claim/cut.py") 411), (Value.int 76 0), (Value.int 3 0), (Value.int 0 0), (Value.int 0 0), (Value.int 3 0), (Value.ref 167), (Value.bool Bool.true), (Value.int 181 0), (Value.ref 168), Value.none, (Value.ref 169), (Value.ref 170), (Value.ref 171), (Value.int 415 0), (Value.int 76 0), (Value.str (Str.ofString "/claim/cut.py") 416)])) (List.toArray []))) ::
  (nat_lit 173, (Obj.mk (Value.type "function") Option.none (Data.func (FuncData.mk (Str.ofString "set_plist") (Str.ofString "Cells.set_plist") (argsOf 15 6) (FuncBody.stmts (bodyOf 15 6)) (scopeOf 15 6) 3 [] Value.none Value.none Value.none (Value.str (Str.ofString "emacs.cells") 326) Option.none (Value.ref 172) Value.none 0)) (List.toArray []))) ::
  (nat_lit 174, (Obj.mk (Value.type "tuple") Option.none (Data.seq (List.toArray []) 0) (List.toArray []))) ::
  (nat_lit 176, (Obj.mk (Value.type "tuple") Option.none (Data.seq (List.toArray [(Value.str (Str.ofString "self") 421), (Value.str (Str.ofString "symbol") 422), (Value.str (Str.ofString "name") 423), (Value.str (Str.ofString "at") 424), (Value.str (Str.ofString "steps") 425)]) 0) (List.toArray []))) ::
  (nat_lit 177, (Obj.mk (Value.type "tuple") Option.none (Data.seq (List.toArray []) 0) (List.toArray []))) ::
  (nat_lit 179, (Obj.mk (Value.type "code") Option.none (Data.fields (List.toArray [(Value.str (Str.ofString "place_of") 418), (Value.str (Str.ofString "Cells.place_of") 419), (Value.str (Str.ofString "/claim/cut.py") 420), (Value.int 79 0), (Value.int 3 0), (Value.int 0 0), (Value.int 0 0), (Value.int 3 0), (Value.ref 174), (Value.bool Bool.true), (Value.int 181 0), (Value.ref 175), Value.none, (Value.ref 176), (Value.ref 177), (Value.ref 178), (Value.int 426 0), (Value.int 79 0), (Value.str (Str.ofString "/claim/cut.py") 427)])) (List.toArray []))) ::
  (nat_lit 180, (Obj.mk (Value.type "function") Option.none (Data.func (FuncData.mk (Str.ofString "place_of") (Str.ofString "Cells.place_of") (argsOf 15 7) (FuncBody.stmts (bodyOf 15 7)) (scopeOf 15 7) 3 [] Value.none Value.none Value.none (Value.str (Str.ofString "emacs.cells") 326) Option.none (Value.ref 179) Value.none 0)) (List.toArray []))) ::
  (nat_lit 181, (Obj.mk (Value.type "tuple") Option.none (Data.seq (List.toArray []) 0) (List.toArray []))) ::
  (nat_lit 183, (Obj.mk (Value.type "tuple") Option.none (Data.seq (List.toArray [(Value.str (Str.ofString "self") 432), (Value.str (Str.ofString "symbol") 433), (Value.str (Str.ofString "name") 434), (Value.str (Str.ofString "found") 435)]) 0) (List.toArray []))) ::
  (nat_lit 184, (Obj.mk (Value.type "tuple") Option.none (Data.seq (List.toArray []) 0) (List.toArray []))) ::
  (nat_lit 186, (Obj.mk (Value.type "code") Option.none (Data.fields (List.toArray [(Value.str (Str.ofString "get") 429), (Value.str (Str.ofString "Cells.get") 430), (Value.str (Str.ofString "/claim/cut.py") 431), (Value.int 91 0), (Value.int 3 0), (Value.int 0 0), (Value.int 0 0), (Value.int 3 0), (Value.ref 181), (Value.bool Bool.true), (Value.int 181 0), (Value.ref 182), Value.none, (Value.ref 183), (Value.ref 184), (Value.ref 185), (Value.int 436 0), (Value.int 91 0), (Value.str (Str.ofString "/claim/cut.py") 437)])) (List.toArray []))) ::
  (nat_lit 187, (Obj.mk (Value.type "function") Option.none (Data.func (FuncData.mk (Str.ofString "get") (Str.ofString "Cells.get") (argsOf 15 8) (FuncBody.stmts (bodyOf 15 8)) (scopeOf 15 8) 3 [] Value.none Value.none Value.none (Value.str (Str.ofString "emacs.cells") 326) Option.none (Value.ref 186) Value.none 0)) (List.toArray []))) ::
  (nat_lit 188, (Obj.mk (Value.type "tuple") Option.none (Data.seq (List.toArray []) 0) (List.toArray []))) ::
  (nat_lit 190, (Obj.mk (Value.type "tuple") Option.none (Data.seq (List.toArray [(Value.str (Str.ofString "self") 442), (Value.str (Str.ofString "symbol") 443), (Value.str (Str.ofString "name") 444), (Value.str (Str.ofString "value") 445), (Value.str (Str.ofString "found") 446), (Value.str (Str.ofString "fresh") 447), (Value.str (Str.ofString "last") 448)]) 0) (List.toArray []))) ::
  (nat_lit 191, (Obj.mk (Value.type "tuple") Option.none (Data.seq (List.toArray []) 0) (List.toArray []))) ::
  (nat_lit 193, (Obj.mk (Value.type "code") Option.none (Data.fields (List.toArray [(Value.str (Str.ofString "put") 439), (Value.str (Str.ofString "Cells.put") 440), (Value.str (Str.ofString "/claim/cut.py") 441), (Value.int 95 0), (Value.int 4 0), (Value.int 0 0), (Value.int 0 0), (Value.int 3 0), (Value.ref 188), (Value.bool Bool.true), (Value.int 181 0), (Value.ref 189), Value.none, (Value.ref 190), (Value.ref 191), (Value.ref 192), (Value.int 449 0), (Value.int 95 0), (Value.str (Str.ofString "/claim/cut.py") 450)])) (List.toArray []))) ::
  (nat_lit 194, (Obj.mk (Value.type "function") Option.none (Data.func (FuncData.mk (Str.ofString "put") (Str.ofString "Cells.put") (argsOf 15 9) (FuncBody.stmts (bodyOf 15 9)) (scopeOf 15 9) 3 [] Value.none Value.none Value.none (Value.str (Str.ofString "emacs.cells") 326) Option.none (Value.ref 193) Value.none 0)) (List.toArray []))) ::
  (nat_lit 195, (Obj.mk (Value.type "tuple") Option.none (Data.seq (List.toArray [(Value.str (Str.ofString "functions") 452), (Value.str (Str.ofString "plists") 453)]) 0) (List.toArray []))) ::
  (nat_lit 196, (Obj.mk (Value.type "dict") Option.none (Data.dict (List.toArray [(DictEntry.mk (PyData.keyHash P (Str.ofString "__module__")) (Value.str (Str.ofString "__module__") 353) (Value.str (Str.ofString "emacs.cells") 326)), (DictEntry.mk (PyData.keyHash P (Str.ofString "__firstlineno__")) (Value.str (Str.ofString "__firstlineno__") 357) (Value.int 43 356)), (DictEntry.mk (PyData.keyHash P (Str.ofString "__init__")) (Value.str (Str.ofString "__init__") 364) (Value.ref 131)), (DictEntry.mk (PyData.keyHash P (Str.ofString "function_of")) (Value.str (Str.ofString "function_of") 372) (Value.ref 138)), (DictEntry.mk (PyData.keyHash P (Str.ofString "is_defined")) (Value.str (Str.ofString "is_defined") 380) (Value.ref 145)), (DictEntry.mk (PyData.keyHash P (Str.ofString "set_function")) (Value.str (Str.ofString "set_function") 391) (Value.ref 152)), (DictEntry.mk (PyData.keyHash P (Str.ofString "indirect_function")) (Value.str (Str.ofString "indirect_function") 400) (Value.ref 159)), (DictEntry.mk (PyData.keyHash P (Str.ofString "plist_of")) (Value.str (Str.ofString "plist_of") 408) (Value.ref 166)), (DictEntry.mk (PyData.keyHash P (Str.ofString "set_plist")) (Value.str (Str.ofString "set_plist") 417) (Value.ref 173)), (DictEntry.mk (PyData.keyHash P (Str.ofString "place_of")) (Value.str (Str.ofString "place_of") 428) (Value.ref 180)), (DictEntry.mk (PyData.keyHash P (Str.ofString "get")) (Value.str (Str.ofString "get") 438) (Value.ref 187)), (DictEntry.mk (PyData.keyHash P (Str.ofString "put")) (Value.str (Str.ofString "put") 451) (Value.ref 194)), (DictEntry.mk (PyData.keyHash P (Str.ofString "__static_attributes__")) (Value.str (Str.ofString "__static_attributes__") 454) (Value.ref 195)), (DictEntry.mk (PyData.keyHash P (Str.ofString "__dict__")) (Value.str (Str.ofString "__dict__") 456) (Value.ref 198)), (DictEntry.mk (PyData.keyHash P (Str.ofString "__weakref__")) (Value.str (Str.ofString "__weakref__") 458) (Value.ref 199)), (DictEntry.mk (PyData.keyHash P (Str.ofString "__doc__")) (Value.str (Str.ofString "__doc__") 459) Value.none)]) 4) (List.toArray []))) ::
  (nat_lit 197, (Obj.mk (Value.type "type") Option.none (Data.cls (ClassData.mk (Str.ofString "Cells") [(Value.type "object")] [(Value.ref 197), (Value.type "object")] 196 (Str.ofString "Cells") Bool.true [] [] Bool.false Option.none Bool.false)) (List.toArray [Option.none, Option.none, (Option.some (Value.str (Str.ofString "Cells") 346)), (Option.some (Value.str (Str.ofString "Cells") 354)), (Option.some (Value.builtin "object.__new__")), (Option.some (Value.bool Bool.true))]))) ::
  (nat_lit 198, (Obj.mk (Value.type "getset_descriptor") Option.none (Data.fields (List.toArray [(Value.str (Str.ofString "__dict__") 455), (Value.ref 197), (Value.builtin "function.__dict__"), (Value.builtin "function.__dict__#set")])) (List.toArray []))) ::
  (nat_lit 199, (Obj.mk (Value.type "getset_descriptor") Option.none (Data.fields (List.toArray [(Value.str (Str.ofString "__weakref__") 457), (Value.ref 197), (Value.builtin "ExceptionGroup.__weakref__"), Value.none])) (List.toArray []))) ::
  (nat_lit 209, (Obj.mk (Value.type "tuple") Option.none (Data.seq (List.toArray []) 0) (List.toArray []))) ::
  (nat_lit 211, (Obj.mk (Value.type "tuple") Option.none (Data.seq (List.toArray [(Value.str (Str.ofString "self") 479)]) 0) (List.toArray []))) ::
  (nat_lit 212, (Obj.mk (Value.type "tuple") Option.none (Data.seq (List.toArray []) 0) (List.toArray []))) ::
  (nat_lit 214, (Obj.mk (Value.type "code") Option.none (Data.fields (List.toArray [(Value.str (Str.ofString "__init__") 476), (Value.str (Str.ofString "Obarray.__init__") 477), (Value.str (Str.ofString "/claim/cut.py") 478), (Value.int 111 0), (Value.int 1 0), (Value.int 0 0), (Value.int 0 0), (Value.int 3 0), (Value.ref 209), (Value.bool Bool.true), (Value.int 181 0), (Value.ref 210), Value.none, (Value.ref 211), (Value.ref 212), (Value.ref 213), (Value.int 480 0), (Value.int 111 0), (Value.str (Str.ofString "/claim/cut.py") 481)])) (List.toArray []))) ::
  (nat_lit 215, (Obj.mk (Value.type "function") Option.none (Data.func (FuncData.mk (Str.ofString "__init__") (Str.ofString "Obarray.__init__") (argsOf 17 0) (FuncBody.stmts (bodyOf 17 0)) (scopeOf 17 0) 3 [] Value.none Value.none Value.none (Value.str (Str.ofString "emacs.obarray") 462) Option.none (Value.ref 214) Value.none 0)) (List.toArray []))) ::
  (nat_lit 216, (Obj.mk (Value.type "tuple") Option.none (Data.seq (List.toArray []) 0) (List.toArray []))) ::
  (nat_lit 218, (Obj.mk (Value.type "tuple") Option.none (Data.seq (List.toArray [(Value.str (Str.ofString "self") 486), (Value.str (Str.ofString "name") 487), (Value.str (Str.ofString "found") 488)]) 0) (List.toArray []))) ::
  (nat_lit 219, (Obj.mk (Value.type "tuple") Option.none (Data.seq (List.toArray []) 0) (List.toArray []))) ::
  (nat_lit 221, (Obj.mk (Value.type "code") Option.none (Data.fields (List.toArray [(Value.str (Str.ofString "intern") 483), (Value.str (Str.ofString "Obarray.intern") 484), (Value.str (Str.ofString "/claim/cut.py") 485), (Value.int 115 0), (Value.int 2 0), (Value.int 0 0), (Value.int 0 0), (Value.int 3 0), (Value.ref 216), (Value.bool Bool.true), (Value.int 181 0), (Value.ref 217), Value.none, (Value.ref 218), (Value.ref 219), (Value.ref 220), (Value.int 489 0), (Value.int 115 0), (Value.str (Str.ofString "/claim/cut.py") 490)])) (List.toArray []))) ::
  (nat_lit 222, (Obj.mk (Value.type "function") Option.none (Data.func (FuncData.mk (Str.ofString "intern") (Str.ofString "Obarray.intern") (argsOf 17 1) (FuncBody.stmts (bodyOf 17 1)) (scopeOf 17 1) 3 [] Value.none Value.none Value.none (Value.str (Str.ofString "emacs.obarray") 462) Option.none (Value.ref 221) Value.none 0)) (List.toArray []))) ::
  (nat_lit 223, (Obj.mk (Value.type "tuple") Option.none (Data.seq (List.toArray []) 0) (List.toArray []))) ::
  (nat_lit 225, (Obj.mk (Value.type "tuple") Option.none (Data.seq (List.toArray [(Value.str (Str.ofString "self") 495), (Value.str (Str.ofString "name") 496)]) 0) (List.toArray []))) ::
  (nat_lit 226, (Obj.mk (Value.type "tuple") Option.none (Data.seq (List.toArray []) 0) (List.toArray []))) ::
  (nat_lit 228, (Obj.mk (Value.type "code") Option.none (Data.fields (List.toArray [(Value.str (Str.ofString "soft") 492), (Value.str (Str.ofString "Obarray.soft") 493), (Value.str (Str.ofString "/claim/cut.py") 494), (Value.int 122 0), (Value.int 2 0), (Value.int 0 0), (Value.int 0 0), (Value.int 3 0), (Value.ref 223), (Value.bool Bool.true), (Value.int 181 0), (Value.ref 224), Value.none, (Value.ref 225), (Value.ref 226), (Value.ref 227), (Value.int 497 0), (Value.int 122 0), (Value.str (Str.ofString "/claim/cut.py") 498)])) (List.toArray []))) ::
  (nat_lit 229, (Obj.mk (Value.type "function") Option.none (Data.func (FuncData.mk (Str.ofString "soft") (Str.ofString "Obarray.soft") (argsOf 17 2) (FuncBody.stmts (bodyOf 17 2)) (scopeOf 17 2) 3 [] Value.none Value.none Value.none (Value.str (Str.ofString "emacs.obarray") 462) Option.none (Value.ref 228) Value.none 0)) (List.toArray []))) ::
  (nat_lit 230, (Obj.mk (Value.type "tuple") Option.none (Data.seq (List.toArray []) 0) (List.toArray []))) ::
  (nat_lit 232, (Obj.mk (Value.type "tuple") Option.none (Data.seq (List.toArray [(Value.str (Str.ofString "self") 503), (Value.str (Str.ofString "name") 504), (Value.str (Str.ofString "found") 505)]) 0) (List.toArray []))) ::
  (nat_lit 233, (Obj.mk (Value.type "tuple") Option.none (Data.seq (List.toArray []) 0) (List.toArray []))) ::
  (nat_lit 235, (Obj.mk (Value.type "code") Option.none (Data.fields (List.toArray [(Value.str (Str.ofString "fresh") 500), (Value.str (Str.ofString "Obarray.fresh") 501), (Value.str (Str.ofString "/claim/cut.py") 502), (Value.int 125 0), (Value.int 2 0), (Value.int 0 0), (Value.int 0 0), (Value.int 3 0), (Value.ref 230), (Value.bool Bool.true), (Value.int 181 0), (Value.ref 231), Value.none, (Value.ref 232), (Value.ref 233), (Value.ref 234), (Value.int 506 0), (Value.int 125 0), (Value.str (Str.ofString "/claim/cut.py") 507)])) (List.toArray []))) ::
  (nat_lit 236, (Obj.mk (Value.type "function") Option.none (Data.func (FuncData.mk (Str.ofString "fresh") (Str.ofString "Obarray.fresh") (argsOf 17 3) (FuncBody.stmts (bodyOf 17 3)) (scopeOf 17 3) 3 [] Value.none Value.none Value.none (Value.str (Str.ofString "emacs.obarray") 462) Option.none (Value.ref 235) Value.none 0)) (List.toArray []))) ::
  (nat_lit 237, (Obj.mk (Value.type "tuple") Option.none (Data.seq (List.toArray []) 0) (List.toArray []))) ::
  (nat_lit 239, (Obj.mk (Value.type "tuple") Option.none (Data.seq (List.toArray [(Value.str (Str.ofString "self") 512), (Value.str (Str.ofString "number") 513)]) 0) (List.toArray []))) ::
  (nat_lit 240, (Obj.mk (Value.type "tuple") Option.none (Data.seq (List.toArray []) 0) (List.toArray []))) ::
  (nat_lit 242, (Obj.mk (Value.type "code") Option.none (Data.fields (List.toArray [(Value.str (Str.ofString "by_number") 509), (Value.str (Str.ofString "Obarray.by_number") 510), (Value.str (Str.ofString "/claim/cut.py") 511), (Value.int 130 0), (Value.int 2 0), (Value.int 0 0), (Value.int 0 0), (Value.int 3 0), (Value.ref 237), (Value.bool Bool.true), (Value.int 181 0), (Value.ref 238), Value.none, (Value.ref 239), (Value.ref 240), (Value.ref 241), (Value.int 514 0), (Value.int 130 0), (Value.str (Str.ofString "/claim/cut.py") 515)])) (List.toArray []))) ::
  (nat_lit 243, (Obj.mk (Value.type "function") Option.none (Data.func (FuncData.mk (Str.ofString "by_number") (Str.ofString "Obarray.by_number") (argsOf 17 4) (FuncBody.stmts (bodyOf 17 4)) (scopeOf 17 4) 3 [] Value.none Value.none Value.none (Value.str (Str.ofString "emacs.obarray") 462) Option.none (Value.ref 242) Value.none 0)) (List.toArray []))) ::
  (nat_lit 244, (Obj.mk (Value.type "tuple") Option.none (Data.seq (List.toArray []) 0) (List.toArray []))) ::
  (nat_lit 246, (Obj.mk (Value.type "tuple") Option.none (Data.seq (List.toArray [(Value.str (Str.ofString "self") 520), (Value.str (Str.ofString "symbol") 521)]) 0) (List.toArray []))) ::
  (nat_lit 247, (Obj.mk (Value.type "tuple") Option.none (Data.seq (List.toArray []) 0) (List.toArray []))) ::
  (nat_lit 249, (Obj.mk (Value.type "code") Option.none (Data.fields (List.toArray [(Value.str (Str.ofString "is_interned") 517), (Value.str (Str.ofString "Obarray.is_interned") 518), (Value.str (Str.ofString "/claim/cut.py") 519), (Value.int 133 0), (Value.int 2 0), (Value.int 0 0), (Value.int 0 0), (Value.int 3 0), (Value.ref 244), (Value.bool Bool.true), (Value.int 181 0), (Value.ref 245), Value.none, (Value.ref 246), (Value.ref 247), (Value.ref 248), (Value.int 522 0), (Value.int 133 0), (Value.str (Str.ofString "/claim/cut.py") 523)])) (List.toArray []))) ::
  (nat_lit 250, (Obj.mk (Value.type "function") Option.none (Data.func (FuncData.mk (Str.ofString "is_interned") (Str.ofString "Obarray.is_interned") (argsOf 17 5) (FuncBody.stmts (bodyOf 17 5)) (scopeOf 17 5) 3 [] Value.none Value.none Value.none (Value.str (Str.ofString "emacs.obarray") 462) Option.none (Value.ref 249) Value.none 0)) (List.toArray []))) ::
  (nat_lit 251, (Obj.mk (Value.type "tuple") Option.none (Data.seq (List.toArray []) 0) (List.toArray []))) ::
  (nat_lit 254, (Obj.mk (Value.type "code") Option.none (Data.fields (List.toArray [(Value.str (Str.ofString "unintern") 525), (Value.str (Str.ofString "Obarray.unintern") 526), (Value.str (Str.ofString "/claim/cut.py") 527), (Value.int 136 0), (Value.int 2 0), (Value.int 0 0), (Value.int 0 0), (Value.int 3 0), (Value.ref 251), (Value.bool Bool.true), (Value.int 181 0), (Value.ref 252), Value.none, Value.none, Value.none, (Value.ref 253), (Value.int 528 0), (Value.int 136 0), (Value.str (Str.ofString "/claim/cut.py") 529)])) (List.toArray []))) ::
  (nat_lit 255, (Obj.mk (Value.type "function") Option.none (Data.func (FuncData.mk (Str.ofString "unintern") (Str.ofString "Obarray.unintern") (argsOf 17 6) (FuncBody.stmts (bodyOf 17 6)) (scopeOf 17 6) 3 [] Value.none Value.none Value.none (Value.str (Str.ofString "emacs.obarray") 462) Option.none (Value.ref 254) Value.none 0)) (List.toArray []))) ::
  (nat_lit 256, (Obj.mk (Value.type "tuple") Option.none (Data.seq (List.toArray []) 0) (List.toArray []))) ::
  (nat_lit 258, (Obj.mk (Value.type "tuple") Option.none (Data.seq (List.toArray [(Value.str (Str.ofString "self") 534)]) 0) (List.toArray []))) ::
  (nat_lit 259, (Obj.mk (Value.type "tuple") Option.none (Data.seq (List.toArray []) 0) (List.toArray []))) ::
  (nat_lit 261, (Obj.mk (Value.type "code") Option.none (Data.fields (List.toArray [(Value.str (Str.ofString "all_names") 531), (Value.str (Str.ofString "Obarray.all_names") 532), (Value.str (Str.ofString "/claim/cut.py") 533), (Value.int 142 0), (Value.int 1 0), (Value.int 0 0), (Value.int 0 0), (Value.int 3 0), (Value.ref 256), (Value.bool Bool.true), (Value.int 181 0), (Value.ref 257), Value.none, (Value.ref 258), (Value.ref 259), (Value.ref 260), (Value.int 535 0), (Value.int 142 0), (Value.str (Str.ofString "/claim/cut.py") 536)])) (List.toArray []))) ::
  (nat_lit 262, (Obj.mk (Value.type "function") Option.none (Data.func (FuncData.mk (Str.ofString "all_names") (Str.ofString "Obarray.all_names") (argsOf 17 7) (FuncBody.stmts (bodyOf 17 7)) (scopeOf 17 7) 3 [] Value.none Value.none Value.none (Value.str (Str.ofString "emacs.obarray") 462) Option.none (Value.ref 261) Value.none 0)) (List.toArray []))) ::
  (nat_lit 263, (Obj.mk (Value.type "tuple") Option.none (Data.seq (List.toArray []) 0) (List.toArray []))) ::
  (nat_lit 265, (Obj.mk (Value.type "tuple") Option.none (Data.seq (List.toArray [(Value.str (Str.ofString "self") 541)]) 0) (List.toArray []))) ::
  (nat_lit 266, (Obj.mk (Value.type "tuple") Option.none (Data.seq (List.toArray []) 0) (List.toArray []))) ::
  (nat_lit 268, (Obj.mk (Value.type "code") Option.none (Data.fields (List.toArray [(Value.str (Str.ofString "size") 538), (Value.str (Str.ofString "Obarray.size") 539), (Value.str (Str.ofString "/claim/cut.py") 540), (Value.int 145 0), (Value.int 1 0), (Value.int 0 0), (Value.int 0 0), (Value.int 3 0), (Value.ref 263), (Value.bool Bool.true), (Value.int 181 0), (Value.ref 264), Value.none, (Value.ref 265), (Value.ref 266), (Value.ref 267), (Value.int 542 0), (Value.int 145 0), (Value.str (Str.ofString "/claim/cut.py") 543)])) (List.toArray []))) ::
  (nat_lit 269, (Obj.mk (Value.type "function") Option.none (Data.func (FuncData.mk (Str.ofString "size") (Str.ofString "Obarray.size") (argsOf 17 8) (FuncBody.stmts (bodyOf 17 8)) (scopeOf 17 8) 3 [] Value.none Value.none Value.none (Value.str (Str.ofString "emacs.obarray") 462) Option.none (Value.ref 268) Value.none 0)) (List.toArray []))) ::
  (nat_lit 270, (Obj.mk (Value.type "tuple") Option.none (Data.seq (List.toArray [(Value.str (Str.ofString "names") 545), (Value.str (Str.ofString "rows") 546)]) 0) (List.toArray []))) ::
  (nat_lit 271, (Obj.mk (Value.type "dict") Option.none (Data.dict (List.toArray [(DictEntry.mk (PyData.keyHash P (Str.ofString "__module__")) (Value.str (Str.ofString "__module__") 471) (Value.str (Str.ofString "emacs.obarray") 462)), (DictEntry.mk (PyData.keyHash P (Str.ofString "__firstlineno__")) (Value.str (Str.ofString "__firstlineno__") 475) (Value.int 109 474)), (DictEntry.mk (PyData.keyHash P (Str.ofString "__init__")) (Value.str (Str.ofString "__init__") 482) (Value.ref 215)), (DictEntry.mk (PyData.keyHash P (Str.ofString "intern")) (Value.str (Str.ofString "intern") 491) (Value.ref 222)), (DictEntry.mk (PyData.keyHash P (Str.ofString "soft")) (Value.str (Str.ofString "soft") 499) (Value.ref 229)), (DictEntry.mk (PyData.keyHash P (Str.ofString "fresh")) (Value.str (Str.ofString "fresh") 508) (Value.ref 236)), (DictEntry.mk (PyData.keyHash P (Str.ofString "by_number")) (Value.str (Str.ofString "by_number") 516) (Value.ref 243)), (DictEntry.mk (PyData.keyHash P (Str.ofString "is_interned")) (Value.str (Str.ofString "is_interned") 524) (Value.ref 250)), (DictEntry.mk (PyData.keyHash P (Str.ofString "unintern")) (Value.str (Str.ofString "unintern") 530) (Value.ref 255)), (DictEntry.mk (PyData.keyHash P (Str.ofString "all_names")) (Value.str (Str.ofString "all_names") 537) (Value.ref 262)), (DictEntry.mk (PyData.keyHash P (Str.ofString "size")) (Value.str (Str.ofString "size") 544) (Value.ref 269)), (DictEntry.mk (PyData.keyHash P (Str.ofString "__static_attributes__")) (Value.str (Str.ofString "__static_attributes__") 547) (Value.ref 270)), (DictEntry.mk (PyData.keyHash P (Str.ofString "__dict__")) (Value.str (Str.ofString "__dict__") 549) (Value.ref 273)), (DictEntry.mk (PyData.keyHash P (Str.ofString "__weakref__")) (Value.str (Str.ofString "__weakref__") 551) (Value.ref 274)), (DictEntry.mk (PyData.keyHash P (Str.ofString "__doc__")) (Value.str (Str.ofString "__doc__") 552) Value.none)]) 4) (List.toArray []))) ::
  (nat_lit 272, (Obj.mk (Value.type "type") Option.none (Data.cls (ClassData.mk (Str.ofString "Obarray") [(Value.type "object")] [(Value.ref 272), (Value.type "object")] 271 (Str.ofString "Obarray") Bool.true [] [] Bool.false Option.none Bool.false)) (List.toArray [Option.none, Option.none, (Option.some (Value.str (Str.ofString "Obarray") 464)), (Option.some (Value.str (Str.ofString "Obarray") 472)), (Option.some (Value.builtin "object.__new__")), (Option.some (Value.bool Bool.true))]))) ::
  (nat_lit 273, (Obj.mk (Value.type "getset_descriptor") Option.none (Data.fields (List.toArray [(Value.str (Str.ofString "__dict__") 548), (Value.ref 272), (Value.builtin "function.__dict__"), (Value.builtin "function.__dict__#set")])) (List.toArray []))) ::
  (nat_lit 274, (Obj.mk (Value.type "getset_descriptor") Option.none (Data.fields (List.toArray [(Value.str (Str.ofString "__weakref__") 550), (Value.ref 272), (Value.builtin "ExceptionGroup.__weakref__"), Value.none])) (List.toArray []))) ::
  (nat_lit 277, (Obj.mk (Value.type "tuple") Option.none (Data.seq (List.toArray []) 0) (List.toArray []))) ::
  (nat_lit 280, (Obj.mk (Value.type "code") Option.none (Data.fields (List.toArray [(Value.str (Str.ofString "_law_deck") 557), (Value.str (Str.ofString "_law_deck") 558), (Value.str (Str.ofString "/claim/cut.py") 559), (Value.int 148 0), (Value.int 1 0), (Value.int 0 0), (Value.int 0 0), (Value.int 3 0), (Value.ref 277), (Value.bool Bool.true), (Value.int 181 0), (Value.ref 278), Value.none, Value.none, Value.none, (Value.ref 279), (Value.int 560 0), (Value.int 148 0), (Value.str (Str.ofString "/claim/cut.py") 561)])) (List.toArray []))) ::
  (nat_lit 281, (Obj.mk (Value.type "function") Option.none (Data.func (FuncData.mk (Str.ofString "_law_deck") (Str.ofString "_law_deck") (argsOf 19 99) (FuncBody.stmts (bodyOf 19 99)) (scopeOf 19 99) 3 [] Value.none Value.none Value.none (Value.str (Str.ofString "law_np0035_01") 555) Option.none (Value.ref 280) Value.none 0)) (List.toArray []))) ::
  (nat_lit 282, (Obj.mk (Value.type "tuple") Option.none (Data.seq (List.toArray []) 0) (List.toArray []))) ::
  (nat_lit 284, (Obj.mk (Value.type "tuple") Option.none (Data.seq (List.toArray [(Value.str (Str.ofString "deck") 566), (Value.str (Str.ofString "many") 567), (Value.str (Str.ofString "found") 568)]) 0) (List.toArray []))) ::
  (nat_lit 285, (Obj.mk (Value.type "tuple") Option.none (Data.seq (List.toArray []) 0) (List.toArray []))) ::
  (nat_lit 287, (Obj.mk (Value.type "code") Option.none (Data.fields (List.toArray [(Value.str (Str.ofString "_law_draw") 563), (Value.str (Str.ofString "_law_draw") 564), (Value.str (Str.ofString "/claim/cut.py") 565), (Value.int 150 0), (Value.int 2 0), (Value.int 0 0), (Value.int 0 0), (Value.int 3 0), (Value.ref 282), (Value.bool Bool.true), (Value.int 181 0), (Value.ref 283), Value.none, (Value.ref 284), (Value.ref 285), (Value.ref 286), (Value.int 569 0), (Value.int 150 0), (Value.str (Str.ofString "/claim/cut.py") 570)])) (List.toArray []))) ::
  (nat_lit 288, (Obj.mk (Value.type "function") Option.none (Data.func (FuncData.mk (Str.ofString "_law_draw") (Str.ofString "_law_draw") (argsOf 20 99) (FuncBody.stmts (bodyOf 20 99)) (scopeOf 20 99) 3 [] Value.none Value.none Value.none (Value.str (Str.ofString "law_np0035_01") 555) Option.none (Value.ref 287) Value.none 0)) (List.toArray []))) ::
  (nat_lit 289, (Obj.mk (Value.type "tuple") Option.none (Data.seq (List.toArray []) 0) (List.toArray []))) ::
  (nat_lit 292, (Obj.mk (Value.type "code") Option.none (Data.fields (List.toArray [(Value.str (Str.ofString "_law_table_deed") 572), (Value.str (Str.ofString "_law_table_deed") 573), (Value.str (Str.ofString "/claim/cut.py") 574), (Value.int 158 0), (Value.int 3 0), (Value.int 0 0), (Value.int 0 0), (Value.int 3 0), (Value.ref 289), (Value.bool Bool.true), (Value.int 181 0), (Value.ref 290), Value.none, Value.none, Value.none, (Value.ref 291), (Value.int 575 0), (Value.int 158 0), (Value.str (Str.ofString "/claim/cut.py") 576)])) (List.toArray []))) ::
  (nat_lit 293, (Obj.mk (Value.type "function") Option.none (Data.func (FuncData.mk (Str.ofString "_law_table_deed") (Str.ofString "_law_table_deed") (argsOf 21 99) (FuncBody.stmts (bodyOf 21 99)) (scopeOf 21 99) 3 [] Value.none Value.none Value.none (Value.str (Str.ofString "law_np0035_01") 555) Option.none (Value.ref 292) Value.none 0)) (List.toArray []))) ::
  (nat_lit 294, (Obj.mk (Value.type "tuple") Option.none (Data.seq (List.toArray []) 0) (List.toArray []))) ::
  (nat_lit 296, (Obj.mk (Value.type "tuple") Option.none (Data.seq (List.toArray [(Value.str (Str.ofString "plist") 581), (Value.str (Str.ofString "found") 582), (Value.str (Str.ofString "at") 583)]) 0) (List.toArray []))) ::
  (nat_lit 297, (Obj.mk (Value.type "tuple") Option.none (Data.seq (List.toArray []) 0) (List.toArray []))) ::
  (nat_lit 299, (Obj.mk (Value.type "code") Option.none (Data.fields (List.toArray [(Value.str (Str.ofString "_law_shown") 578), (Value.str (Str.ofString "_law_shown") 579), (Value.str (Str.ofString "/claim/cut.py") 580), (Value.int 179 0), (Value.int 1 0), (Value.int 0 0), (Value.int 0 0), (Value.int 3 0), (Value.ref 294), (Value.bool Bool.true), (Value.int 181 0), (Value.ref 295), Value.none, (Value.ref 296), (Value.ref 297), (Value.ref 298), (Value.int 584 0), (Value.int 179 0), (Value.str (Str.ofString "/claim/cut.py") 585)])) (List.toArray []))) ::
  (nat_lit 300, (Obj.mk (Value.type "function") Option.none (Data.func (FuncData.mk (Str.ofString "_law_shown") (Str.ofString "_law_shown") (argsOf 22 99) (FuncBody.stmts (bodyOf 22 99)) (scopeOf 22 99) 3 [] Value.none Value.none Value.none (Value.str (Str.ofString "law_np0035_01") 555) Option.none (Value.ref 299) Value.none 0)) (List.toArray []))) ::
  (nat_lit 301, (Obj.mk (Value.type "tuple") Option.none (Data.seq (List.toArray []) 0) (List.toArray []))) ::
  (nat_lit 304, (Obj.mk (Value.type "code") Option.none (Data.fields (List.toArray [(Value.str (Str.ofString "_law_plist_deed") 587), (Value.str (Str.ofString "_law_plist_deed") 588), (Value.str (Str.ofString "/claim/cut.py") 589), (Value.int 185 0), (Value.int 4 0), (Value.int 0 0), (Value.int 0 0), (Value.int 3 0), (Value.ref 301), (Value.bool Bool.true), (Value.int 181 0), (Value.ref 302), Value.none, Value.none, Value.none, (Value.ref 303), (Value.int 590 0), (Value.int 185 0), (Value.str (Str.ofString "/claim/cut.py") 591)])) (List.toArray []))) ::
  (nat_lit 305, (Obj.mk (Value.type "function") Option.none (Data.func (FuncData.mk (Str.ofString "_law_plist_deed") (Str.ofString "_law_plist_deed") (argsOf 23 99) (FuncBody.stmts (bodyOf 23 99)) (scopeOf 23 99) 3 [] Value.none Value.none Value.none (Value.str (Str.ofString "law_np0035_01") 555) Option.none (Value.ref 304) Value.none 0)) (List.toArray []))) ::
  (nat_lit 306, (Obj.mk (Value.type "tuple") Option.none (Data.seq (List.toArray []) 0) (List.toArray []))) ::
  (nat_lit 308, (Obj.mk (Value.type "tuple") Option.none (Data.seq (List.toArray [(Value.str (Str.ofString "model") 596), (Value.str (Str.ofString "number") 597), (Value.str (Str.ofString "at") 598)]) 0) (List.toArray []))) ::
  (nat_lit 309, (Obj.mk (Value.type "tuple") Option.none (Data.seq (List.toArray []) 0) (List.toArray []))) ::
  (nat_lit 311, (Obj.mk (Value.type "code") Option.none (Data.fields (List.toArray [(Value.str (Str.ofString "_law_leads") 593), (Value.str (Str.ofString "_law_leads") 594), (Value.str (Str.ofString "/claim/cut.py") 595), (Value.int 201 0), (Value.int 2 0), (Value.int 0 0), (Value.int 0 0), (Value.int 3 0), (Value.ref 306), (Value.bool Bool.true), (Value.int 181 0), (Value.ref 307), Value.none, (Value.ref 308), (Value.ref 309), (Value.ref 310), (Value.int 599 0), (Value.int 201 0), (Value.str (Str.ofString "/claim/cut.py") 600)])) (List.toArray []))) ::
  (nat_lit 312, (Obj.mk (Value.type "function") Option.none (Data.func (FuncData.mk (Str.ofString "_law_leads") (Str.ofString "_law_leads") (argsOf 24 99) (FuncBody.stmts (bodyOf 24 99)) (scopeOf 24 99) 3 [] Value.none Value.none Value.none (Value.str (Str.ofString "law_np0035_01") 555) Option.none (Value.ref 311) Value.none 0)) (List.toArray []))) ::
  (nat_lit 313, (Obj.mk (Value.type "tuple") Option.none (Data.seq (List.toArray []) 0) (List.toArray []))) ::
  (nat_lit 315, (Obj.mk (Value.type "tuple") Option.none (Data.seq (List.toArray [(Value.str (Str.ofString "deck") 605), (Value.str (Str.ofString "cells") 606), (Value.str (Str.ofString "table") 607), (Value.str (Str.ofString "model") 608), (Value.str (Str.ofString "symbol") 609), (Value.str (Str.ofString "other") 610), (Value.str (Str.ofString "function") 611), (Value.str (Str.ofString "due") 612), (Value.str (Str.ofString "told_here") 613), (Value.str (Str.ofString "error") 614), (Value.str (Str.ofString "want") 615), (Value.str (Str.ofString "at") 616), (Value.str (Str.ofString "end") 617), (Value.str (Str.ofString "led") 618)]) 0) (List.toArray []))) ::
  (nat_lit 316, (Obj.mk (Value.type "tuple") Option.none (Data.seq (List.toArray []) 0) (List.toArray []))) ::
  (nat_lit 318, (Obj.mk (Value.type "code") Option.none (Data.fields (List.toArray [(Value.str (Str.ofString "_law_function_deed") 602), (Value.str (Str.ofString "_law_function_deed") 603), (Value.str (Str.ofString "/claim/cut.py") 604), (Value.int 206 0), (Value.int 4 0), (Value.int 0 0), (Value.int 0 0), (Value.int 3 0), (Value.ref 313), (Value.bool Bool.true), (Value.int 181 0), (Value.ref 314), Value.none, (Value.ref 315), (Value.ref 316), (Value.ref 317), (Value.int 619 0), (Value.int 206 0), (Value.str (Str.ofString "/claim/cut.py") 620)])) (List.toArray []))) ::
  (nat_lit 319, (Obj.mk (Value.type "function") Option.none (Data.func (FuncData.mk (Str.ofString "_law_function_deed") (Str.ofString "_law_function_deed") (argsOf 25 99) (FuncBody.stmts (bodyOf 25 99)) (scopeOf 25 99) 3 [] Value.none Value.none Value.none (Value.str (Str.ofString "law_np0035_01") 555) Option.none (Value.ref 318) Value.none 0)) (List.toArray []))) ::
  (nat_lit 320, (Obj.mk (Value.type "tuple") Option.none (Data.seq (List.toArray []) 0) (List.toArray []))) ::
  (nat_lit 322, (Obj.mk (Value.type "tuple") Option.none (Data.seq (List.toArray [(Value.str (Str.ofString "script") 625), (Value.str (Str.ofString "deck") 626), (Value.str (Str.ofString "table") 627), (Value.str (Str.ofString "cells") 628), (Value.str (Str.ofString "model") 629), (Value.str (Str.ofString "name") 630), (Value.str (Str.ofString "turn") 631), (Value.str (Str.ofString "way") 632), (Value.str (Str.ofString "symbol") 633)]) 0) (List.toArray []))) ::
  (nat_lit 323, (Obj.mk (Value.type "tuple") Option.none (Data.seq (List.toArray []) 0) (List.toArray []))) ::
  (nat_lit 325, (Obj.mk (Value.type "code") Option.none (Data.fields (List.toArray [(Value.str (Str.ofString "law") 622), (Value.str (Str.ofString "law") 623), (Value.str (Str.ofString "/claim/cut.py") 624), (Value.int 237 0), (Value.int 1 0), (Value.int 0 0), (Value.int 0 0), (Value.int 3 0), (Value.ref 320), (Value.bool Bool.true), (Value.int 181 0), (Value.ref 321), Value.none, (Value.ref 322), (Value.ref 323), (Value.ref 324), (Value.int 634 0), (Value.int 237 0), (Value.str (Str.ofString "/claim/cut.py") 635)])) (List.toArray []))) ::
  (nat_lit 326, (Obj.mk (Value.type "function") Option.none (Data.func (FuncData.mk (Str.ofString "law") (Str.ofString "law") (argsOf 26 99) (FuncBody.stmts (bodyOf 26 99)) (scopeOf 26 99) 3 [] Value.none Value.none Value.none (Value.str (Str.ofString "law_np0035_01") 555) Option.none (Value.ref 325) Value.none 0)) (List.toArray []))) :: [] : List (Nat × Obj))
end Mine
end PartKx
section PartBase
open PySem PySem.W PyProof.Rows PySem.Calls PySem.Spec
set_option maxHeartbeats 8000000
namespace Mine
theorem fill : (PySem.Challenge.rw_np0035_01 = PySem.Challenge.rw_np0035_01 ∧ Mine.K = Mine.K) := by k_fill; exact ⟨rfl, rfl⟩


inductive LedS (h₀ : Heap) (L : Addr) (s : Shared) (m : Str → Option Value) (J : Nat → List (Addr × Obj) → Prop) (n : Nat) (s₃ : Shared) : Prop
  | mk (h' : Heap) (tk : Nat) (news₂ : List (Addr × Obj)) (n' : Nat) (e : s₃ = { s with heap := h', toks := tk }) (F : Fr h₀ L h' m) (N : News h₀ L h' news₂) (hn : n' < n) (j : J n' news₂)
/-- a turn's end: the frame's map as it was, the ledger by J -/
noncomputable def LedStep (h₀ : Heap) (L : Addr) (s : Shared) (m : Str → Option Value) (J : Nat → List (Addr × Obj) → Prop) (Q : Flow → Shared → Prop) (n : Nat) (f : Flow) (s₃ : Shared) : Prop :=
  match f with
  | .next | .cont => LedS h₀ L s m J n s₃
  | .brk => Q .next s₃
  | .ret v => Q (.ret v) s₃

section
variable {prog : Program} {w : World} {A : Around} {E : Value → Shared → Prop} {Q : Flow → Shared → Prop} {s : Shared} {env : Env} {h₀ : Heap} {L : Addr}

theorem While_led {test : Expr} {body : List Stmt} {pos : Pos} {m : Str → Option Value} {news : List (Addr × Obj)} (J : Nat → List (Addr × Obj) → Prop) {n₀ : Nat}
    (F : Fr h₀ L s.heap m) (N : News h₀ L s.heap news) (hJ : J n₀ news)
    (turn : ∀ n news₁ h₁ tk₁, Fr h₀ L h₁ m → News h₀ L h₁ news₁ → J n news₁ →
      wpAny (model prog w) A (isTrue test env (eval test env)) (fun b s₂ =>
        if b = true then wpAny (model prog w) A (execs body env) (LedStep h₀ L s m J Q n) E s₂ else Q .next s₂) E { s with heap := h₁, toks := tk₁ })
    (hE : PassesOwn (model prog w) A env E := by passes_own) :
    wpAny (model prog w) A (exec (.While test body [] pos) env) Q E s := by
  refine While_inv2 (fun n m₁ news₁ => m₁ = m ∧ J n news₁) F N ⟨rfl, hJ⟩ (fun n m₁ news₁ h₁ tk₁ F₁ N₁ J₁ => ?_) hE
  obtain ⟨rfl, J₁⟩ := J₁
  refine wpAny_mono (turn n news₁ h₁ tk₁ F₁ N₁ J₁) (fun b s₂ h₂ => ?_) fun _ _ e => e
  cases b with
  | false => simpa using h₂
  | true =>
    simp only [if_true] at h₂ ⊢
    refine wpAny_mono h₂ (fun f s₃ h₃ => ?_) fun _ _ e => e
    cases f with
    | next => obtain ⟨h', tk, news₂, n', rfl, F₂, N₂, hn, J₂⟩ := h₃; exact ⟨h', tk, _, news₂, n', rfl, F₂, N₂, hn, rfl, J₂⟩
    | cont => obtain ⟨h', tk, news₂, n', rfl, F₂, N₂, hn, J₂⟩ := h₃; exact ⟨h', tk, _, news₂, n', rfl, F₂, N₂, hn, rfl, J₂⟩
    | brk => exact h₃
    | ret v => exact h₃
end

/-! what stands in a chain, handed on at once (a chain of cases states its goal at each link) -/
theorem andE2 {xa xb P : Prop} (h0 : xa ∧ xb) (k : xa → xb → P) : P := k h0.1 h0.2
theorem andE3 {xa xb xc P : Prop} (h0 : xa ∧ xb ∧ xc) (k : xa → xb → xc → P) : P := k h0.1 h0.2.1 h0.2.2
theorem andE4 {xa xb xc xd P : Prop} (h0 : xa ∧ xb ∧ xc ∧ xd) (k : xa → xb → xc → xd → P) : P := k h0.1 h0.2.1 h0.2.2.1 h0.2.2.2
theorem andE5 {xa xb xc xd xe P : Prop} (h0 : xa ∧ xb ∧ xc ∧ xd ∧ xe) (k : xa → xb → xc → xd → xe → P) : P := k h0.1 h0.2.1 h0.2.2.1 h0.2.2.2.1 h0.2.2.2.2
theorem andE6 {xa xb xc xd xe xf P : Prop} (h0 : xa ∧ xb ∧ xc ∧ xd ∧ xe ∧ xf) (k : xa → xb → xc → xd → xe → xf → P) : P := k h0.1 h0.2.1 h0.2.2.1 h0.2.2.2.1 h0.2.2.2.2.1 h0.2.2.2.2.2
theorem andE7 {xa xb xc xd xe xf xg P : Prop} (h0 : xa ∧ xb ∧ xc ∧ xd ∧ xe ∧ xf ∧ xg) (k : xa → xb → xc → xd → xe → xf → xg → P) : P := k h0.1 h0.2.1 h0.2.2.1 h0.2.2.2.1 h0.2.2.2.2.1 h0.2.2.2.2.2.1 h0.2.2.2.2.2.2
theorem andE8 {xa xb xc xd xe xf xg xh P : Prop} (h0 : xa ∧ xb ∧ xc ∧ xd ∧ xe ∧ xf ∧ xg ∧ xh) (k : xa → xb → xc → xd → xe → xf → xg → xh → P) : P := k h0.1 h0.2.1 h0.2.2.1 h0.2.2.2.1 h0.2.2.2.2.1 h0.2.2.2.2.2.1 h0.2.2.2.2.2.2.1 h0.2.2.2.2.2.2.2
theorem andE9 {xa xb xc xd xe xf xg xh xi P : Prop} (h0 : xa ∧ xb ∧ xc ∧ xd ∧ xe ∧ xf ∧ xg ∧ xh ∧ xi) (k : xa → xb → xc → xd → xe → xf → xg → xh → xi → P) : P := k h0.1 h0.2.1 h0.2.2.1 h0.2.2.2.1 h0.2.2.2.2.1 h0.2.2.2.2.2.1 h0.2.2.2.2.2.2.1 h0.2.2.2.2.2.2.2.1 h0.2.2.2.2.2.2.2.2
theorem andE10 {xa xb xc xd xe xf xg xh xi xj P : Prop} (h0 : xa ∧ xb ∧ xc ∧ xd ∧ xe ∧ xf ∧ xg ∧ xh ∧ xi ∧ xj) (k : xa → xb → xc → xd → xe → xf → xg → xh → xi → xj → P) : P := k h0.1 h0.2.1 h0.2.2.1 h0.2.2.2.1 h0.2.2.2.2.1 h0.2.2.2.2.2.1 h0.2.2.2.2.2.2.1 h0.2.2.2.2.2.2.2.1 h0.2.2.2.2.2.2.2.2.1 h0.2.2.2.2.2.2.2.2.2
theorem andE11 {xa xb xc xd xe xf xg xh xi xj xk P : Prop} (h0 : xa ∧ xb ∧ xc ∧ xd ∧ xe ∧ xf ∧ xg ∧ xh ∧ xi ∧ xj ∧ xk) (k : xa → xb → xc → xd → xe → xf → xg → xh → xi → xj → xk → P) : P := k h0.1 h0.2.1 h0.2.2.1 h0.2.2.2.1 h0.2.2.2.2.1 h0.2.2.2.2.2.1 h0.2.2.2.2.2.2.1 h0.2.2.2.2.2.2.2.1 h0.2.2.2.2.2.2.2.2.1 h0.2.2.2.2.2.2.2.2.2.1 h0.2.2.2.2.2.2.2.2.2.2
theorem andE12 {xa xb xc xd xe xf xg xh xi xj xk xl P : Prop} (h0 : xa ∧ xb ∧ xc ∧ xd ∧ xe ∧ xf ∧ xg ∧ xh ∧ xi ∧ xj ∧ xk ∧ xl) (k : xa → xb → xc → xd → xe → xf → xg → xh → xi → xj → xk → xl → P) : P := k h0.1 h0.2.1 h0.2.2.1 h0.2.2.2.1 h0.2.2.2.2.1 h0.2.2.2.2.2.1 h0.2.2.2.2.2.2.1 h0.2.2.2.2.2.2.2.1 h0.2.2.2.2.2.2.2.2.1 h0.2.2.2.2.2.2.2.2.2.1 h0.2.2.2.2.2.2.2.2.2.2.1 h0.2.2.2.2.2.2.2.2.2.2.2
theorem andE13 {xa xb xc xd xe xf xg xh xi xj xk xl xm P : Prop} (h0 : xa ∧ xb ∧ xc ∧ xd ∧ xe ∧ xf ∧ xg ∧ xh ∧ xi ∧ xj ∧ xk ∧ xl ∧ xm) (k : xa → xb → xc → xd → xe → xf → xg → xh → xi → xj → xk → xl → xm → P) : P := k h0.1 h0.2.1 h0.2.2.1 h0.2.2.2.1 h0.2.2.2.2.1 h0.2.2.2.2.2.1 h0.2.2.2.2.2.2.1 h0.2.2.2.2.2.2.2.1 h0.2.2.2.2.2.2.2.2.1 h0.2.2.2.2.2.2.2.2.2.1 h0.2.2.2.2.2.2.2.2.2.2.1 h0.2.2.2.2.2.2.2.2.2.2.2.1 h0.2.2.2.2.2.2.2.2.2.2.2.2
theorem exE2 {Ta Tb : Type} {R : Ta → Tb → Prop} {P : Prop} (h0 : ∃ xa xb, R xa xb) (k : ∀ xa xb, R xa xb → P) : P := by obtain ⟨xa, xb, h⟩ := h0; exact k xa xb h
theorem exE3 {Ta Tb Tc : Type} {R : Ta → Tb → Tc → Prop} {P : Prop} (h0 : ∃ xa xb xc, R xa xb xc) (k : ∀ xa xb xc, R xa xb xc → P) : P := by obtain ⟨xa, xb, xc, h⟩ := h0; exact k xa xb xc h
theorem exE4 {Ta Tb Tc Td : Type} {R : Ta → Tb → Tc → Td → Prop} {P : Prop} (h0 : ∃ xa xb xc xd, R xa xb xc xd) (k : ∀ xa xb xc xd, R xa xb xc xd → P) : P := by obtain ⟨xa, xb, xc, xd, h⟩ := h0; exact k xa xb xc xd h
theorem exE5 {Ta Tb Tc Td Te : Type} {R : Ta → Tb → Tc → Td → Te → Prop} {P : Prop} (h0 : ∃ xa xb xc xd xe, R xa xb xc xd xe) (k : ∀ xa xb xc xd xe, R xa xb xc xd xe → P) : P := by obtain ⟨xa, xb, xc, xd, xe, h⟩ := h0; exact k xa xb xc xd xe h
theorem exE6 {Ta Tb Tc Td Te Tf : Type} {R : Ta → Tb → Tc → Td → Te → Tf → Prop} {P : Prop} (h0 : ∃ xa xb xc xd xe xf, R xa xb xc xd xe xf) (k : ∀ xa xb xc xd xe xf, R xa xb xc xd xe xf → P) : P := by obtain ⟨xa, xb, xc, xd, xe, xf, h⟩ := h0; exact k xa xb xc xd xe xf h
theorem exE7 {Ta Tb Tc Td Te Tf Tg : Type} {R : Ta → Tb → Tc → Td → Te → Tf → Tg → Prop} {P : Prop} (h0 : ∃ xa xb xc xd xe xf xg, R xa xb xc xd xe xf xg) (k : ∀ xa xb xc xd xe xf xg, R xa xb xc xd xe xf xg → P) : P := by obtain ⟨xa, xb, xc, xd, xe, xf, xg, h⟩ := h0; exact k xa xb xc xd xe xf xg h
theorem exE8 {Ta Tb Tc Td Te Tf Tg Th : Type} {R : Ta → Tb → Tc → Td → Te → Tf → Tg → Th → Prop} {P : Prop} (h0 : ∃ xa xb xc xd xe xf xg xh, R xa xb xc xd xe xf xg xh) (k : ∀ xa xb xc xd xe xf xg xh, R xa xb xc xd xe xf xg xh → P) : P := by obtain ⟨xa, xb, xc, xd, xe, xf, xg, xh, h⟩ := h0; exact k xa xb xc xd xe xf xg xh h
theorem exE9 {Ta Tb Tc Td Te Tf Tg Th Ti : Type} {R : Ta → Tb → Tc → Td → Te → Tf → Tg → Th → Ti → Prop} {P : Prop} (h0 : ∃ xa xb xc xd xe xf xg xh xi, R xa xb xc xd xe xf xg xh xi) (k : ∀ xa xb xc xd xe xf xg xh xi, R xa xb xc xd xe xf xg xh xi → P) : P := by obtain ⟨xa, xb, xc, xd, xe, xf, xg, xh, xi, h⟩ := h0; exact k xa xb xc xd xe xf xg xh xi h
theorem exE10 {Ta Tb Tc Td Te Tf Tg Th Ti Tj : Type} {R : Ta → Tb → Tc → Td → Te → Tf → Tg → Th → Ti → Tj → Prop} {P : Prop} (h0 : ∃ xa xb xc xd xe xf xg xh xi xj, R xa xb xc xd xe xf xg xh xi xj) (k : ∀ xa xb xc xd xe xf xg xh xi xj, R xa xb xc xd xe xf xg xh xi xj → P) : P := by obtain ⟨xa, xb, xc, xd, xe, xf, xg, xh, xi, xj, h⟩ := h0; exact k xa xb xc xd xe xf xg xh xi xj h
theorem exE11 {Ta Tb Tc Td Te Tf Tg Th Ti Tj Tk : Type} {R : Ta → Tb → Tc → Td → Te → Tf → Tg → Th → Ti → Tj → Tk → Prop} {P : Prop} (h0 : ∃ xa xb xc xd xe xf xg xh xi xj xk, R xa xb xc xd xe xf xg xh xi xj xk) (k : ∀ xa xb xc xd xe xf xg xh xi xj xk, R xa xb xc xd xe xf xg xh xi xj xk → P) : P := by obtain ⟨xa, xb, xc, xd, xe, xf, xg, xh, xi, xj, xk, h⟩ := h0; exact k xa xb xc xd xe xf xg xh xi xj xk h
theorem exE12 {Ta Tb Tc Td Te Tf Tg Th Ti Tj Tk Tl : Type} {R : Ta → Tb → Tc → Td → Te → Tf → Tg → Th → Ti → Tj → Tk → Tl → Prop} {P : Prop} (h0 : ∃ xa xb xc xd xe xf xg xh xi xj xk xl, R xa xb xc xd xe xf xg xh xi xj xk xl) (k : ∀ xa xb xc xd xe xf xg xh xi xj xk xl, R xa xb xc xd xe xf xg xh xi xj xk xl → P) : P := by obtain ⟨xa, xb, xc, xd, xe, xf, xg, xh, xi, xj, xk, xl, h⟩ := h0; exact k xa xb xc xd xe xf xg xh xi xj xk xl h
theorem AllLt.ap {d : Nat} : ∀ {l : List (Addr × Obj)}, AllLt d l → ∀ p ∈ l, p.1 ≠ d := by
  intro l
  induction l with
  | nil => intro _ p hp; cases hp
  | cons q r ih =>
    intro h p hp
    rcases List.mem_cons.mp hp with rfl | hp
    · exact Nat.ne_of_lt h.1
    · exact ih h.2 p hp

theorem off1_mem {D : Addr} : ∀ {l : List (Addr × Obj)}, LCg.Off1 D l → ∀ p ∈ l, p.1 ≠ D := by
  intro l
  induction l with
  | nil => intro _ p hp; cases hp
  | cons q r ih =>
    intro h p hp
    rcases List.mem_cons.mp hp with rfl | hp
    · exact h.1
    · exact ih h.2 p hp
theorem News.tl {h₀ h : Heap} {L : Addr} {q : Addr × Obj} {l : List (Addr × Obj)} (N : News h₀ L h (q :: l)) : News h₀ L h l := fun p hp => N p (.tail _ hp)

noncomputable abbrev lst (vs : List Value) (n : Nat) : Obj := listOf vs.toArray n

theorem lo_of {d : Addr} (h : 1 < d) : (d == sysModules) = false := by
  simp only [sysModules, beq_eq_false_iff_ne]
  exact Nat.ne_of_gt h

/-- two addresses that differ: opaque to omega -/
noncomputable def Apt (a b : Addr) : Prop := a ≠ b
theorem Apt.ne {a b : Addr} (h : Apt a b) : a ≠ b := h
theorem Apt.en {a b : Addr} (h : Apt a b) : b ≠ a := Ne.symm h

section
variable {prog : Program} {w : World} {A : Around} {E : Value → Shared → Prop} {s : Shared} {h₀ : Heap} {L : Addr} {m : Str → Option Value} {news news' : List (Addr × Obj)} {Q : Value → Shared → Prop}
theorem pop0 {D : Addr} {v : Value} {r : List Value} {n : Nat} {u : Tok} (F : Fr h₀ L s.heap m) (N : News h₀ L s.heap news) (U : Upd D (lst (v :: r) n) (lst r (n + 1)) news news') (hz : (v :: r).length ≤ 1000)
    (h : ∀ h', Fr h₀ L h' m → News h₀ L h' news' → Q v { s with heap := h' }) : wpAny (model prog w) A (call (.builtin "list.pop") [.ref D, .int 0 u]) Q E s :=
  kl_popAt (its := (v :: r).toArray) (k := 0) (p := []) (q := r) F N rfl (by simp [seqIndex?]) rfl U (by simpa using Nat.le_trans hz (by decide)) h
theorem push1 {D : Addr} {vs : List Value} {n : Nat} {x : Value} (F : Fr h₀ L s.heap m) (N : News h₀ L s.heap news) (U : Upd D (lst vs n) (lst (vs ++ [x]) (n + 1)) news news') (hz : vs.length ≤ 1000)
    (h : ∀ h', Fr h₀ L h' m → News h₀ L h' news' → Q .none { s with heap := h' }) : wpAny (model prog w) A (call (.builtin "list.append") [.ref D, x]) Q E s := by
  refine append_K (its := vs.toArray) (n := n) F N ?_ h (by rw [List.size_toArray]; exact Nat.le_trans hz (by decide))
  simpa using U
theorem notin_at {K : Type} [DecidableEq K] {knd : KeyKind prog w K} {d : Addr} {o : Obj} {kvs : List (K × Value)} {k : K} {key : Value} {x : Option Value} (N : News h₀ L s.heap news) (hp : (d, o) ∈ news) (hd : o.IsDictOf knd kvs) (lo : (d == sysModules) = false) (hkey : knd.is k key = true) (hv : valueAt kvs k = x)
    (h : Q (.bool (!x.isSome)) { s with toks := s.toks + 1 }) : wpAny (model prog w) A (compareOp .NotIn key (.ref d)) Q E s := kdg_notin N hp hd lo hkey x.isSome (by rw [hv]) h
theorem in_at {K : Type} [DecidableEq K] {knd : KeyKind prog w K} {d : Addr} {o : Obj} {kvs : List (K × Value)} {k : K} {key : Value} {x : Option Value} (N : News h₀ L s.heap news) (hp : (d, o) ∈ news) (hd : o.IsDictOf knd kvs) (lo : (d == sysModules) = false) (hkey : knd.is k key = true) (hv : valueAt kvs k = x)
    (h : Q (.bool x.isSome) { s with toks := s.toks + 1 }) : wpAny (model prog w) A (compareOp .In key (.ref d)) Q E s := kda_in N hp hd lo hkey x.isSome (by rw [hv]) h
theorem lenL {l : Addr} {vs : List Value} {n : Nat} (N : News h₀ L s.heap news) (hm : (l, lst vs n) ∈ news) (hz : vs.length ≤ 1000) (h : Q (.int vs.length (s.toks + 1)) { s with toks := s.toks + 1 + 1 }) :
    wpAny (model prog w) A (call (.builtin "len") [.ref l]) Q E s := by
  have hl : s.heap.IsList l vs.toArray := News.isList N hm
  have e : vs.toArray.size = vs.length := by simp
  exact call_len_list hl (by rw [e]; omega) (by rw [e]; exact h)
theorem itemL {value slice : PySem.Expr} {l : Addr} {vs : List Value} {n : Nat} {k : Int} {u : Tok} {v : Value} (N : News h₀ L s.heap news) (hm : (l, lst vs n) ∈ news) (h0 : 0 ≤ k) (hx : vs[k.toNat]? = some v) (hz : vs.length ≤ 1000) (h : Q v s)
    (hs : subscripted slice false (.ref l) (.int k u) = operate [.ref l, .int k u] (getItem (.ref l) (.int k u)) := by with_unfolding_all rfl) :
    wpAny (model prog w) A (subscriptTail value slice (.ref l) (.int k u)) Q E s := by
  have hl : s.heap.IsList l vs.toArray := News.isList N hm
  have hlt : k.toNat < vs.length := (List.getElem?_eq_some_iff.mp hx).1
  exact tail_any hl.typeIs slot_list_getitem.lookup (wpAny_getItem_list hl h0 (by omega) (by simpa using hx) h) hs
end
section
variable {dp un : Nat} {gd : Option (List Code)} {cn : Str} {cs : Scope} {a L : Addr} {ccd : Value} {cl : List (Str × Addr)} {outer : List Env} {e1 e2 e3 : Env} {b k c : Nat}
theorem rm {d : Nat} (h : d ≤ b) (e : Nat.ble (b + k) c = true) : d + k ≤ c := Nat.le_trans (Nat.add_le_add_right h k) (Nat.le_of_ble_eq_true e)
theorem rm0 {d : Nat} (h : d ≤ b) (e : Nat.ble b c = true) : d ≤ c := Nat.le_trans h (Nat.le_of_ble_eq_true e)
theorem rd0 (h : dp ≤ b) (e : Nat.ble (b + 1) 1000 = true) : (ktrTop dp un gd cn cs L a ccd cl outer).depth < recursionLimit := rm (k := 1) h e
theorem rd1 (h : dp ≤ b) (e : Nat.ble (b + 2) 1000 = true) : ((ktrTop dp un gd cn cs L a ccd cl outer).deeper e1).depth < recursionLimit := rm (k := 2) h e
theorem rd2 (h : dp ≤ b) (e : Nat.ble (b + 3) 1000 = true) : (((ktrTop dp un gd cn cs L a ccd cl outer).deeper e1).deeper e2).depth < recursionLimit := rm (k := 3) h e
theorem rd3 (h : dp ≤ b) (e : Nat.ble (b + 4) 1000 = true) : ((((ktrTop dp un gd cn cs L a ccd cl outer).deeper e1).deeper e2).deeper e3).depth < recursionLimit := rm (k := 4) h e
theorem ru1 (h : un ≤ b) (e : Nat.ble (b + (3 + k + 1)) 9900 = true) : ((ktrTop dp un gd cn cs L a ccd cl outer).deeper e1).units + k < cLine := by
  have h2 := rm (k := 3 + k + 1) h e
  show un + 3 + k < 9900
  omega
theorem ru2 (h : un ≤ b) (e : Nat.ble (b + (6 + k + 1)) 9900 = true) : (((ktrTop dp un gd cn cs L a ccd cl outer).deeper e1).deeper e2).units + k < cLine := by
  have h2 := rm (k := 6 + k + 1) h e
  show un + 3 + 3 + k < 9900
  omega
theorem dt : (ktrTop dp un gd cn cs L a ccd cl outer).depth = dp := rfl
theorem ut : (ktrTop dp un gd cn cs L a ccd cl outer).units = un := rfl
theorem rx2 (h : dp ≤ b) (e : Nat.ble (b + 2) c = true) : ((ktrTop dp un gd cn cs L a ccd cl outer).deeper e1).depth + 1 ≤ c := rm (k := 2) h e
theorem ry2 (h : un ≤ b) (e : Nat.ble (b + 6) c = true) : ((ktrTop dp un gd cn cs L a ccd cl outer).deeper e1).units + 3 ≤ c := rm (k := 6) h e
end
/-! addresses that differ, out of what is less; lengths -/
theorem lt4 : ∀ {n : Nat}, n < 4 → n = 0 ∨ n = 1 ∨ n = 2 ∨ n = 3
  | 0, _ => .inl rfl
  | 1, _ => .inr (.inl rfl)
  | 2, _ => .inr (.inr (.inl rfl))
  | 3, _ => .inr (.inr (.inr rfl))
  | n + 4, h => absurd h (Nat.not_lt.mpr (Nat.le_add_left 4 n))
theorem lt3 : ∀ {n : Nat}, n < 3 → n = 0 ∨ n = 1 ∨ n = 2
  | 0, _ => .inl rfl
  | 1, _ => .inr (.inl rfl)
  | 2, _ => .inr (.inr rfl)
  | n + 3, h => absurd h (Nat.not_lt.mpr (Nat.le_add_left 3 n))
theorem ne_g {a b : Addr} (h : b < a) : a ≠ b := Nat.ne_of_gt h
theorem ne_l {a b : Addr} (h : a < b) : a ≠ b := Nat.ne_of_lt h
theorem ne_g1 {a b : Addr} (h : b < a) : a + 1 ≠ b := Nat.ne_of_gt (Nat.lt_succ_of_lt h)
theorem ne_g2 {a b : Addr} (h : b < a) : a + 1 + 1 ≠ b := Nat.ne_of_gt (Nat.lt_succ_of_lt (Nat.lt_succ_of_lt h))
theorem ne_l1 {a b : Addr} (h : a < b) : a ≠ b + 1 := Nat.ne_of_lt (Nat.lt_succ_of_lt h)
theorem ne_l2 {a b : Addr} (h : a < b) : a ≠ b + 1 + 1 := Nat.ne_of_lt (Nat.lt_succ_of_lt (Nat.lt_succ_of_lt h))
theorem ne_gg {a b c : Addr} (h2 : c < a) (h : b < c) : a ≠ b := Nat.ne_of_gt (Nat.lt_trans h h2)
theorem ne_ll {a b c : Addr} (h2 : c < b) (h : a < c) : a ≠ b := Nat.ne_of_lt (Nat.lt_trans h h2)
theorem ln_nil {α : Type} : ([] : List α).length ≤ 0 := Nat.le_refl 0
theorem ln_cons {α : Type} {l : List α} {a : α} {b : Nat} (h : l.length ≤ b) : (a :: l).length ≤ b + 1 := Nat.succ_le_succ h
theorem ln_app {α : Type} {l r : List α} {b c : Nat} (h : l.length ≤ b) (h2 : r.length ≤ c) : (l ++ r).length ≤ b + c := by rw [List.length_append]; exact Nat.add_le_add h h2
theorem ln_st {K : Type} [DecidableEq K] {kvs : List (K × Value)} {k : K} {v : Value} {b : Nat} (h : kvs.length ≤ b) : (stored kvs k v).length ≤ b + 1 := Nat.le_trans (stored_length_le _ _ _) (Nat.succ_le_succ h)
theorem ln_eq {n m b : Nat} (e : n = m) (h : m ≤ b) : n ≤ b := e ▸ h
theorem rl2 {d b c : Nat} (h : d ≤ b) (e : Nat.ble (b + 2) c = true) : d + 1 < c := Nat.le_trans (Nat.add_le_add_right h 2) (Nat.le_of_ble_eq_true e)
theorem rl3 {d b c : Nat} (h : d ≤ b) (e : Nat.ble (b + 3) c = true) : d + 1 + 1 < c := Nat.le_trans (Nat.add_le_add_right h 3) (Nat.le_of_ble_eq_true e)
theorem rl4 {d b c : Nat} (h : d ≤ b) (e : Nat.ble (b + 4) c = true) : d + 1 + 1 + 1 < c := Nat.le_trans (Nat.add_le_add_right h 4) (Nat.le_of_ble_eq_true e)
theorem pk1 {x r : Prop} (h : x ∧ r) : x := h.1
theorem pk2 {a0 x r : Prop} (h : a0 ∧ x ∧ r) : x := h.2.1
theorem pk3 {a0 a1 x r : Prop} (h : a0 ∧ a1 ∧ x ∧ r) : x := h.2.2.1
theorem pk4 {a0 a1 a2 x r : Prop} (h : a0 ∧ a1 ∧ a2 ∧ x ∧ r) : x := h.2.2.2.1
theorem pk5 {a0 a1 a2 a3 x r : Prop} (h : a0 ∧ a1 ∧ a2 ∧ a3 ∧ x ∧ r) : x := h.2.2.2.2.1
theorem pk6 {a0 a1 a2 a3 a4 x r : Prop} (h : a0 ∧ a1 ∧ a2 ∧ a3 ∧ a4 ∧ x ∧ r) : x := h.2.2.2.2.2.1
theorem pk7 {a0 a1 a2 a3 a4 a5 x r : Prop} (h : a0 ∧ a1 ∧ a2 ∧ a3 ∧ a4 ∧ a5 ∧ x ∧ r) : x := h.2.2.2.2.2.2.1
theorem pk8 {a0 a1 a2 a3 a4 a5 a6 x r : Prop} (h : a0 ∧ a1 ∧ a2 ∧ a3 ∧ a4 ∧ a5 ∧ a6 ∧ x ∧ r) : x := h.2.2.2.2.2.2.2.1
theorem pk9 {a0 a1 a2 a3 a4 a5 a6 a7 x r : Prop} (h : a0 ∧ a1 ∧ a2 ∧ a3 ∧ a4 ∧ a5 ∧ a6 ∧ a7 ∧ x ∧ r) : x := h.2.2.2.2.2.2.2.2.1
theorem pk10 {a0 a1 a2 a3 a4 a5 a6 a7 a8 x r : Prop} (h : a0 ∧ a1 ∧ a2 ∧ a3 ∧ a4 ∧ a5 ∧ a6 ∧ a7 ∧ a8 ∧ x ∧ r) : x := h.2.2.2.2.2.2.2.2.2.1
theorem pk11 {a0 a1 a2 a3 a4 a5 a6 a7 a8 a9 x r : Prop} (h : a0 ∧ a1 ∧ a2 ∧ a3 ∧ a4 ∧ a5 ∧ a6 ∧ a7 ∧ a8 ∧ a9 ∧ x ∧ r) : x := h.2.2.2.2.2.2.2.2.2.2.1
theorem pk12 {a0 a1 a2 a3 a4 a5 a6 a7 a8 a9 a10 x r : Prop} (h : a0 ∧ a1 ∧ a2 ∧ a3 ∧ a4 ∧ a5 ∧ a6 ∧ a7 ∧ a8 ∧ a9 ∧ a10 ∧ x ∧ r) : x := h.2.2.2.2.2.2.2.2.2.2.2.1
theorem pk13 {a0 a1 a2 a3 a4 a5 a6 a7 a8 a9 a10 a11 x r : Prop} (h : a0 ∧ a1 ∧ a2 ∧ a3 ∧ a4 ∧ a5 ∧ a6 ∧ a7 ∧ a8 ∧ a9 ∧ a10 ∧ a11 ∧ x ∧ r) : x := h.2.2.2.2.2.2.2.2.2.2.2.2.1
theorem pk14 {a0 a1 a2 a3 a4 a5 a6 a7 a8 a9 a10 a11 a12 x r : Prop} (h : a0 ∧ a1 ∧ a2 ∧ a3 ∧ a4 ∧ a5 ∧ a6 ∧ a7 ∧ a8 ∧ a9 ∧ a10 ∧ a11 ∧ a12 ∧ x ∧ r) : x := h.2.2.2.2.2.2.2.2.2.2.2.2.2.1
theorem alln {α : Type} {P : α → Prop} : ∀ b ∈ ([] : List α), P b := fun _ h => nomatch h
theorem allc {α : Type} {P : α → Prop} {a : α} {l : List α} (h : P a) (r : ∀ b ∈ l, P b) : ∀ b ∈ a :: l, P b := List.forall_mem_cons.mpr ⟨h, r⟩
/-- a postcondition kept under a name -/
structure KQ (α : Type) where
  ap : α → Shared → Prop
noncomputable def KQ.Of {α : Type} (q : KQ α) (Q : α → Shared → Prop) : Prop := ∀ fl s', Q fl s' → q.ap fl s'
theorem any_q {α : Type} {M : Model} {A : Around} {t : Sem α} {Q : α → Shared → Prop} {E : Value → Shared → Prop} {s : Shared} (h : ∀ q : KQ α, q.Of Q → wpAny M A t q.ap E s) : wpAny M A t Q E s := h ⟨Q⟩ (fun _ _ x => x)
theorem execs_q {M : Model} {A : Around} {b : List Stmt} {env : Env} {Q : Flow → Shared → Prop} {E : Value → Shared → Prop} {s : Shared} (h : ∀ q : KQ Flow, q.Of Q → wpAny M A (execs b env) q.ap E s) : wpAny M A (execs b env) Q E s := any_q h
theorem KQ.back {α : Type} {q : KQ α} {Q : α → Shared → Prop} {fl : α} {s : Shared} (h : q.Of Q) (x : Q fl s) : q.ap fl s := h _ _ x
end Mine
open PySem PySem.W PyProof.Rows PySem.Calls PySem.Spec Mine
theorem Mine.regBase1 : True := by
  k_with "T k_all" => (first | assumption | exact AllLt.ap (by assumption))
  k_with "T k_ne" => (first | exact Apt.ne (by assumption) | exact Apt.en (by assumption) | k_extra "MY ne")
  k_with "MY ne" => (with_reducible first | exact Mine.ne_g (by k_extra "MY lt") | exact Mine.ne_l (by k_extra "MY lt") | exact Mine.ne_g1 (by k_extra "MY lt") | exact Mine.ne_l1 (by k_extra "MY lt") | exact Mine.ne_g2 (by k_extra "MY lt") | exact Mine.ne_l2 (by k_extra "MY lt") | exact Mine.ne_gg (by assumption) (by k_extra "MY lt") | exact Mine.ne_ll (by assumption) (by k_extra "MY lt"))
  k_with "MY lt" => (with_reducible first | assumption | exact Mine.pk1 (by assumption) | exact Mine.pk2 (by assumption) | exact Mine.pk3 (by assumption) | exact Mine.pk4 (by assumption) | exact Mine.pk5 (by assumption) | exact Mine.pk6 (by assumption) | exact Mine.pk7 (by assumption) | exact Mine.pk8 (by assumption) | exact Mine.pk9 (by assumption) | exact Mine.pk10 (by assumption) | exact Mine.pk11 (by assumption) | exact Mine.pk12 (by assumption) | exact Mine.pk13 (by assumption) | exact Mine.pk14 (by assumption))
  k_with "MY len" => (with_reducible first | exact Mine.ln_nil | (show List.length (_ :: _) ≤ _; exact Mine.ln_cons (by k_extra "MY len")) | (show List.length (_ ++ _) ≤ _; exact Mine.ln_app (by k_extra "MY len") (by k_extra "MY len")) | (show List.length (stored _ _ _) ≤ _; exact Mine.ln_st (by k_extra "MY len")) | assumption | exact Mine.ln_eq (by assumption) (by assumption))
  k_with "MY z" => (first | exact Mine.rm0 (by k_extra "MY len") (by rfl) | assumption | omega | (simp only [List.length_cons, List.length_append, List.length_nil]; omega) | (simp only [List.length_cons, List.length_append, List.length_nil] at *; omega))
  k_with "T units_room" => (first | (simp only [units_under_make, units_in1, units_deeper, Around.mark_units, units_caller, ktrTop, cLine]; omega) | (simp only [units_under_make, units_in1, units_deeper, Around.mark_units, units_caller, ktrTop, cLine] at *; omega))
  k_with "T k_units" => (first | (simp only [units_under_make, units_in1, units_deeper, Around.mark_units, units_caller, ktrTop, cLine]; omega) | (simp only [units_under_make, units_in1, units_deeper, Around.mark_units, units_caller, ktrTop, cLine] at *; omega))
  k_with "T k_room" => (ktr_room)
  k_with "T ktr_room" => (first | exact Mine.rm (by assumption) (by rfl) | exact Mine.rd1 (by assumption) (by rfl) | exact Mine.rd0 (by assumption) (by rfl) | exact Mine.rd2 (by assumption) (by rfl) | exact Mine.rx2 (by assumption) (by rfl) | exact Mine.rm0 (by assumption) (by rfl) | exact Mine.rd3 (by assumption) (by rfl) | (simp +zetaDelta only [depth_under_make, depth_under_kw, depth_in1, depth_deeper, Mine.dt, recursionLimit]; first | exact Mine.rl2 (by assumption) (by rfl) | exact Mine.rl3 (by assumption) (by rfl) | exact Mine.rl4 (by assumption) (by rfl) | omega))
  k_with "T units_room" => (first | exact Mine.rm (by assumption) (by rfl) | exact Mine.ru1 (by assumption) (by rfl) | exact Mine.ru2 (by assumption) (by rfl) | exact Mine.ry2 (by assumption) (by rfl) | exact Mine.rm0 (by assumption) (by rfl) | (simp +zetaDelta only [units_under_make, units_in1, units_deeper, Around.mark_units, units_caller, Mine.ut, cLine]; omega))
  k_with "T k_units" => (first | exact Mine.rm (by assumption) (by rfl) | exact Mine.ru1 (by assumption) (by rfl) | exact Mine.ru2 (by assumption) (by rfl) | exact Mine.rm0 (by assumption) (by rfl) | (simp +zetaDelta only [units_under_make, units_in1, units_deeper, Around.mark_units, units_caller, Mine.ut, cLine]; omega))
  k_with "compareOp IsNot" => (refine wpAny_isNot_other rfl (by intro h9; cases h9) ?_)
  k_with "compareOp IsNot" => (refine wpAny_isNot_self rfl ?_)
  k_with "compareOp Is" => (refine wpAny_is_other rfl (by intro h9; cases h9) ?_)
  k_with "compareOp Is" => (refine wpAny_is_self rfl ?_)
  k_with "call builtin:list.pop" => ((k_here; refine' pop0 (by k_asm) (by k_asm) (by k_upd) (by k_extra "MY z") ?_; intro hzq9 Fzq9 Nzq9))
  k_with "call builtin:list.append" => ((k_here; refine' push1 (by k_asm) (by k_asm) (by k_upd) (by k_extra "MY z") ?_; intro hzq9 Fzq9 Nzq9))
  k_with "getMethod ref" => ((k_here; (with_reducible show wpAny _ _ (getMethod (Value.ref _) (Str.ofString "get") _) _ _ _); k_dflt (first | refine kdg_method (knd := PySem.strKind _ _) (by k_asm) (by k_mem) (by k_asm) ?_ | refine kdg_method (knd := PySem.intKind _ _) (by k_asm) (by k_mem) (by k_asm) ?_)))
  k_with "call builtin:dict.get" => ((k_here; k_dflt (first | refine kdg_get2 (knd := PySem.strKind _ _) (by k_asm) (by k_mem) (by k_asm) (by k_asm) (strKind_is _ _ _ _) _ (by assumption) ?_ | refine kdg_get2 (knd := PySem.intKind _ _) (by k_asm) (by k_mem) (by k_asm) (by k_asm) (intKind_is _ _ _ _) _ (by assumption) ?_); (try dsimp only [Option.getD])))
  k_with "call builtin:len" => ((k_here; (with_reducible show wpAny _ _ (call (Value.builtin "len") [Value.ref _]) _ _ _); refine lenL (by k_asm) (by k_mem) (by k_extra "MY z") ?_))
  k_with "setItem ref str" => ((k_here; k_dflt (refine' kda_set (knd := PySem.strKind _ _) (by k_asm) (by k_asm) (by k_updF) (by k_asm) (strKind_is _ _ _ _) (by exact Nat.le_trans (m := 1000) (by k_extra "MY z") (by decide : 1000 ≤ sizeLine)) ?_); intro hzq9 ozq9 Fzq9 Nzq9 hdzq9; (try dsimp only at Nzq9)))
  k_with "setItem ref int" => ((k_here; k_dflt (refine' kda_set (knd := PySem.intKind _ _) (by k_asm) (by k_asm) (by k_updF) (by k_asm) (intKind_is _ _ _ _) (by exact Nat.le_trans (m := 1000) (by k_extra "MY z") (by decide : 1000 ≤ sizeLine)) ?_); intro hzq9 ozq9 Fzq9 Nzq9 hdzq9; (try dsimp only at Nzq9)))
  k_with "MY enterC" => ((refine' code_defC (by k_asm) (by k_asm) (by k_asm) (by k_asm) (by k_asm) (by exact rfl) (by exact rfl) (by assumption) (by k_is) (by k_is) (by ktr_room) (by exact BindsTo.of_eq rfl) (by exact rfl) (by decide +kernel) ?_ (by exact rfl) (by exact rfl) (by exact rfl); k_whole; intro gzq9 Lzq9 hzq9 tkzq9 cells' FGzq9 Fzq9 Nzq9 Y' B' X' T' l1zq9; (try k_lt l1zq9); k_cells Y'; (try simp only [List.cons_append, List.nil_append] at Nzq9); (try dsimp only); (try k_fold)))
  k_with "compareOp NotIn str ref" => ((k_here; k_dflt (refine notin_at (knd := PySem.strKind _ _) (by k_asm) (by k_mem) (by k_asm) (by k_asm) (strKind_is _ _ _ _) (by assumption) ?_); (try dsimp only [Option.isSome, Bool.not])))
  k_with "compareOp In str ref" => ((k_here; k_dflt (refine in_at (knd := PySem.strKind _ _) (by k_asm) (by k_mem) (by k_asm) (by k_asm) (strKind_is _ _ _ _) (by assumption) ?_); (try dsimp only [Option.isSome, Bool.not])))
  k_with "compareOp In int ref" => ((k_here; k_dflt (refine in_at (knd := PySem.intKind _ _) (by k_asm) (by k_mem) (by k_asm) (by k_asm) (intKind_is _ _ _ _) (by assumption) ?_); (try dsimp only [Option.isSome, Bool.not])))
  k_with "MY all" => (first | exact Mine.alln | (refine Mine.allc ?_ ?_; rotate_left; k_extra "MY all"))
  k_with "MY qback" => (((with_reducible refine' Mine.KQ.back (by with_reducible assumption) ?_); (try dsimp only)))
  k_with "MY q" => ((refine Mine.any_q ?_; intro q9zq9 hq9zq9))
  k_with "MY xcut" => (((fail_if_success (with_reducible show wpAny _ _ _ (Mine.KQ.ap _) _ _)); (fail_if_success (with_reducible show wpAny _ _ _ (Mine.ConsK _ _ _ _ _ _) _ _)); (with_reducible refine Mine.execs_q ?_); intro q9zq9 hq9zq9))
  k_with "T k_steps" => (repeat' (first | k_gentoks | k_extra "MY xcut" | (k_unfold; (try dsimp only)) | (walk1; (try dsimp only)) | (k_end; wrow_close) | (dsimp only; walk1) | (leave1; walk_say "STEP leave1"; try dsimp only) | k_extra "MY qback" | fail "no step"))
  exact trivial
end PartBase
section PartFast
open PySem PySem.W PyProof.Rows PySem.Calls PySem.Spec Mine
set_option maxHeartbeats 4000000
namespace Mine
/-- what holds of a chosen breach holds of all: a walk over constants -/
theorem eps {D : Type} (ne : Nonempty D) {S : D → Prop} (h : S (@Classical.epsilon D ne fun d => ¬ S d)) : ∀ d, S d := fun d => Classical.byContradiction fun n => (@Classical.epsilon_spec D (fun d => ¬ S d) ⟨d, n⟩) h
noncomputable def w00 : World := ⟨fun _ _ => 0, { strHash := fun _ => 0, shareClass := fun _ => 0, mergeTok := fun _ => 0, idOf := fun _ => 0, idOfShared := fun _ _ => 0, followText := fun _ => false, idOfImm := fun _ => 0 }⟩
section
variable {M : Model} {A : Around} {E : Value → Shared → Prop} {s s₁ s₂ s₃ : Shared} {env : Env} {e r : Expr} {es : List Expr} {v a b f : Value} {vs : List Value} {pos xp : Pos} {x y : Str}
/-- an expression that comes out at once: its worth, and the state behind it -/
structure Ev (M : Model) (A : Around) (E : Value → Shared → Prop) (env : Env) (e : Expr) (v : Value) (s s' : Shared) : Prop where
  star : ∀ rest, starEach (e :: rest) env = (false, eval e env) :: starEach rest env
  run : ∀ Q : Value → Shared → Prop, Q v s' → wpAny M A (eval e env) Q E s
/-- a list of arguments that come out at once -/
structure Es (M : Model) (A : Around) (E : Value → Shared → Prop) (env : Env) (es : List Expr) (vs : List Value) (s s' : Shared) : Prop where
  plain : (starEach es env).any (·.1) = false
  run : ∀ (pos : Pos) (Q : List Value → Shared → Prop), Q vs s' → wpAny M A (spliced (backTo pos (starEach es env))) Q E s
theorem backTo_any (pos : Pos) (l : List (Bool × Sem Value)) : (backTo pos l).any (·.1) = l.any (·.1) := by
  unfold backTo
  rw [List.any_map]
  rfl
theorem es_nil : Es M A E env [] [] s s := ⟨rfl, fun _ _ h => args_nil h⟩
theorem es_cons (h : Ev M A E env e v s s₁) (t : Es M A E env es vs s₁ s₂) : Es M A E env (e :: es) (v :: vs) s s₂ :=
  ⟨by rw [h.star, List.any_cons, t.plain]; rfl, fun pos Q q => args_cons (h.run _ (t.run pos _ q)) (h.star _)⟩
theorem ev_use {Q : Value → Shared → Prop} (h : Ev M A E env e v s s₁) (q : Q v s₁) : wpAny M A (eval e env) Q E s := h.run Q q
theorem es_use {Q : List Value → Shared → Prop} (h : Es M A E env es vs s s₁) (q : Q vs s₁) : wpAny M A (spliced (backTo pos (starEach es env))) Q E s := h.run pos Q q
theorem ev_str {k : Nat} : Ev M A E env (.Constant (.str x) k pos) (.str x s.toks) s { s with toks := s.toks + 1 } := ⟨fun _ => rfl, fun _ q => Constant_str q⟩
theorem ev_int {i : Int} {k : Nat} : Ev M A E env (.Constant (.int i) k pos) (.int i s.toks) s { s with toks := s.toks + 1 } := ⟨fun _ => rfl, fun _ q => wpAny_Constant_int q⟩
theorem ev_none {k : Nat} : Ev M A E env (.Constant .none k pos) .none s s := ⟨fun _ => rfl, fun _ q => wpAny_Constant_none q⟩
theorem ev_bool {b : Bool} {k : Nat} : Ev M A E env (.Constant (.bool b) k pos) (.bool b) s s := ⟨fun _ => rfl, fun _ q => wpAny_Constant_bool q⟩
theorem evalArgs_es {f : Value} {Q : Args → Shared → Prop} (h : Es M A E env es vs s s₁) (q : Q ⟨vs, []⟩ s₁) : wpAny M A (evalArgs f true (backTo pos (starEach es env)) []) Q E s := by
  have hp : (backTo pos (starEach es env)).any (·.1) = false := (backTo_any _ _).trans h.plain
  have h2 := h.run pos (fun vs s' => Q ⟨vs, []⟩ s') q
  revert hp h2
  generalize backTo pos (starEach es env) = l
  intro hp h2
  cases l with
  | nil =>
    unfold evalArgs
    show wpAny M A (spliced [] >>= _) Q E s
    refine wpAny_bind (wpAny_mono h2 (fun vs s' h' => wpAny_bind (wpAny_pure ?_)) fun _ _ x => x)
    refine wpAny_holding ?_
    exact wpAny_bind (wpAny_pure (wpAny_bind (wpAny_pure (wpAny_pure h'))))
  | cons p l =>
    obtain ⟨b, x⟩ := p
    cases b with
    | true => cases hp
    | false => exact evalArgs_plain h2
theorem cw_b {id : String} {first : List Value} {Q : Value → Shared → Prop} (h : Es M A E env es vs s s₁) (q : wpAny M A (call (.builtin id) (first ++ vs)) Q E s₁) :
    wpAny M A (callWith pos (.builtin id) first (backTo pos (starEach es env)) []) Q E s :=
  callWith_builtin ((backTo_any _ _).trans h.plain) (evalArgs_es h q)
theorem cw_K {K : Frag} {h₀ : Heap} {L : Addr} {m : Str → Option Value} {first : List Value} {Q : Value → Shared → Prop} (h : Es M A E env es vs s s₁) (F : Fr h₀ L s₁.heap m) (X : K.In h₀) (hk : keepIn K f = true) (q : wpAny M A (call f (first ++ vs)) Q E s₁) :
    wpAny M A (callWith pos f first (backTo pos (starEach es env)) []) Q E s :=
  callWith_of (by rw [backTo_any, h.plain]; rfl) (keeps_K hk) (evalArgs_es h ⟨X.keeps F.keep, q⟩)
theorem call_n {Q : Value → Shared → Prop} (h : Ev M A E env (.Name x xp) f s s₁) (q : wpAny M A (callWith pos f [] (backTo pos (starEach es env)) []) Q E s₁) :
    wpAny M A (eval (.Call (.Name x xp) es [] pos) env) Q E s := Call_ (h.run _ q)
theorem call_b {id : String} {Q : Value → Shared → Prop} (h : Ev M A E env (.Name x xp) (.builtin id) s s₁) (t : Es M A E env es vs s₁ s₂) (q : wpAny M A (call (.builtin id) vs) Q E s₂) :
    wpAny M A (eval (.Call (.Name x xp) es [] pos) env) Q E s := Call_ (h.run _ (cw_b t q))
theorem call_K {K : Frag} {h₀ : Heap} {L : Addr} {m : Str → Option Value} {Q : Value → Shared → Prop} (h : Ev M A E env (.Name x xp) f s s₁) (t : Es M A E env es vs s₁ s₂) (F : Fr h₀ L s₂.heap m) (X : K.In h₀) (hk : keepIn K f = true) (q : wpAny M A (call f vs) Q E s₂) :
    wpAny M A (eval (.Call (.Name x xp) es [] pos) env) Q E s := Call_ (h.run _ (cw_K t F X hk q))
theorem at_n {Q : Value → Shared → Prop} (h : Ev M A E env (.Name x xp) v s s₁) (q : wpAny M A (getAttr v y true) Q E s₁) :
    wpAny M A (eval (.Attribute (.Name x xp) y pos) env) Q E s := Attribute_Name_ (h.run _ q)
theorem me_n {ap : Pos} {pl : Sem Bool} {Q : Value → Shared → Prop} (h : Ev M A E env e v s s₁) (q : wpAny M A (getMethod v y pl) (fun fx s₂ => wpAny M A (callWith pos fx.1 fx.2 (backTo pos (starEach es env)) []) Q E s₂) E s₁)
    (he : eval (.Call (.Attribute e y ap) es [] pos) env = (do
      let ov ← eval e env
      standAt ap.atName
      let (f, first) ← holding [ov] (getMethod ov y pl)
      callWith pos f first (backTo pos (starEach es env)) []) := by rfl) :
    wpAny M A (eval (.Call (.Attribute e y ap) es [] pos) env) Q E s := MethodCall_ (h.run _ q) he
theorem cmp_b {op : CmpOp} {whole : Sem Value} {Q : Bool → Shared → Prop} (h : Ev M A E env e a s s₁) (t : Ev M A E env r b s₁ s₂) (q : wpAny M A (compareOp op a b) (fun c s₃ => wpAny M A (truthy c) Q E s₃) E s₂)
    (hm : behindInMarks op r = false := by with_unfolding_all rfl) : wpAny M A (isTrue (.Compare e [op] [r] pos) env whole) Q E s := wpAny_isTrue_Compare1 (h.run _ (t.run _ q)) hm
theorem cmp_v {op : CmpOp} {Q : Value → Shared → Prop} (h : Ev M A E env e a s s₁) (t : Ev M A E env r b s₁ s₂) (q : wpAny M A (compareOp op a b) Q E s₂)
    (hm : behindInMarks op r = false := by with_unfolding_all rfl) : wpAny M A (eval (.Compare e [op] [r] pos) env) Q E s := wpAny_Compare1 (h.run _ (t.run _ q)) hm
theorem cmp_b1 {op : CmpOp} {whole : Sem Value} {Q : Bool → Shared → Prop} (t : ∀ s, Ev M A E env r b s s) (h : wpAny M A (eval e env) (fun a s₁ => wpAny M A (compareOp op a b) (fun c s₃ => wpAny M A (truthy c) Q E s₃) E s₁) E s)
    (hm : behindInMarks op r = false := by with_unfolding_all rfl) : wpAny M A (isTrue (.Compare e [op] [r] pos) env whole) Q E s := wpAny_isTrue_Compare1 (wpAny_mono h (fun _ s₁ q => (t s₁).run _ q) fun _ _ z => z) hm
theorem sub_n {Q : Value → Shared → Prop} (h : Ev M A E env e a s s₁) (t : Ev M A E env r b s₁ s₂) (q : wpAny M A (subscriptTail e r a b) Q E s₂) : wpAny M A (eval (.Subscript e r pos) env) Q E s := Subscript_ (h.run _ (t.run _ q))
theorem ev_at (h : Ev M A E env (.Name x xp) a s s₁) (g : ∀ Q : Value → Shared → Prop, Q v s₂ → wpAny M A (getAttr a y true) Q E s₁) : Ev M A E env (.Attribute (.Name x xp) y pos) v s s₂ := ⟨fun _ => rfl, fun Q q => at_n h (g Q q)⟩
theorem ev_sub (h : Ev M A E env e a s s₁) (t : Ev M A E env r b s₁ s₂) (g : ∀ Q : Value → Shared → Prop, Q v s₃ → wpAny M A (subscriptTail e r a b) Q E s₂) : Ev M A E env (.Subscript e r pos) v s s₃ := ⟨fun _ => rfl, fun Q q => sub_n h t (g Q q)⟩
theorem tr_t {X Y : Shared → Prop} (h : X s) : wpAny M A (truthy (.bool true)) (fun b s => if b = true then X s else Y s) E s := wpAny_truthy_bool (by rw [if_pos rfl]; exact h)
theorem tr_f {X Y : Shared → Prop} (h : Y s) : wpAny M A (truthy (.bool false)) (fun b s => if b = true then X s else Y s) E s := wpAny_truthy_bool (by rw [if_neg (by decide)]; exact h)
end
section
variable {M : Model} {A : Around} {E : Value → Shared → Prop} {s : Shared} {K : Frag} {h₀ : Heap} {L a : Addr} {m mg mb : Str → Option Value} {cn : Str} {cs : Scope} {ccd : Value} {cl : List (Str × Addr)} {p : Program} {loose : List Str} {mean : ExcName → Option Value}
  {x : Str} {pos : Pos} {v : Value} {news : List (Addr × Obj)} {c : Addr} {o : Obj}
theorem ev_L (F : Fr h₀ L s.heap m) (hk : cs.kind = .function) (hx : (envX cn cs L a ccd cl).kindOf x = some .local) (hd : (x == ("__debug__" : Str)) = false) (hv : m x = some v) : Ev M A E (envX cn cs L a ccd cl) (.Name x pos) v s s :=
  ⟨fun _ => rfl, fun _ q => nameX_L F hv q hk hx hd⟩
theorem ev_C (N : News h₀ L s.heap news) (hk : cs.kind = .function) (hx : (envX cn cs L a ccd cl).kindOf x = some .cell) (hb : (x == ("__debug__" : Str)) = false) (hc : cl.lookup x = some c) (hm : (c, o) ∈ news) (hd : o.data = .cell (some v)) : Ev M A E (envX cn cs L a ccd cl) (.Name x pos) v s s :=
  ⟨fun _ => rfl, fun _ q => nameX_C N hc hm hd q hk hx hb⟩
theorem ev_K (F : Fr h₀ L s.heap m) (X : K.In h₀) (T : TopRead p loose mg mb h₀) (hk : cs.kind = .function) (hx : (envX cn cs L a ccd cl).kindOf x = some .globalImplicit) (hd : (x == ("__debug__" : Str)) = false) (e : nsIn K mainGlobals x = some (some v)) : Ev M A E (envX cn cs L a ccd cl) (.Name x pos) v s s :=
  ⟨fun _ => rfl, fun _ q => nameX_K F X T e q hk hx hd⟩
theorem ev_B (F : Fr h₀ L s.heap m) (X : K.In h₀) (T : TopRead p loose mg mb h₀) (hk : cs.kind = .function) (hx : (envX cn cs L a ccd cl).kindOf x = some .globalImplicit) (hd : (x == ("__debug__" : Str)) = false) (e : nsIn K mainGlobals x = some none) (hv : bootBuiltins x = some v) (hn : x ≠ "__name__") : Ev M A E (envX cn cs L a ccd cl) (.Name x pos) v s s :=
  ⟨fun _ => rfl, fun _ q => nameX_B F X T e hv hn q hk hx hd⟩
end

theorem Fr.n1 {g h : Heap} {L : Addr} {l : List (Str × Value)} {a : Str} {v : Value} (F : Fr g L h (fun y => List.lookup y l)) (e : l = [(a, v)]) : Fr g L h (fun y => List.lookup y [(a, v)]) := e ▸ F
theorem Fr.n2 {g h : Heap} {L : Addr} {l : List (Str × Value)} {a b : Str} {v u : Value} (F : Fr g L h (fun y => List.lookup y l)) (e : l = [(a, v), (b, u)]) : Fr g L h (fun y => List.lookup y [(a, v), (b, u)]) := e ▸ F
theorem Fr.n3 {g h : Heap} {L : Addr} {l : List (Str × Value)} {a b c : Str} {v u x : Value} (F : Fr g L h (fun y => List.lookup y l)) (e : l = [(a, v), (b, u), (c, x)]) : Fr g L h (fun y => List.lookup y [(a, v), (b, u), (c, x)]) := e ▸ F
theorem Fr.n4 {g h : Heap} {L : Addr} {l : List (Str × Value)} {a b c d : Str} {v u x z : Value} (F : Fr g L h (fun y => List.lookup y l)) (e : l = [(a, v), (b, u), (c, x), (d, z)]) : Fr g L h (fun y => List.lookup y [(a, v), (b, u), (c, x), (d, z)]) := e ▸ F
/-- a map, a ledger under a name: a let, so that a step further down speaks of it by one word -/
theorem nameF {G : Prop} {g h : Heap} {L : Addr} {m : Str → Option Value} (F : Fr g L h m) (k : let m9 := m; Fr g L h m9 → G) : G := k F
theorem nameN {G : Prop} {g h : Heap} {L : Addr} {l : List (Addr × Obj)} (N : News g L h l) (k : let l9 := l; News g L h l9 → G) : G := k N
theorem nameAE {M : Model} {A : Around} {E : Value → Shared → Prop} {s : Shared} {env : Env} {b : List Stmt} {Q : Flow → Shared → Prop} (k : let v9 := env; let a9 := A; wpAny M a9 (execs b v9) Q E s) : wpAny M A (execs b env) Q E s := k
theorem nameE {α : Type} {M : Model} {A : Around} {t : Sem α} {E : Value → Shared → Prop} {s : Shared} {Q : α → Shared → Prop} (k : let e9 := E; wpAny M A t Q e9 s) : wpAny M A t Q E s := k
/-! continuations under a name -/
section
variable (M : Model) (A : Around) (E : Value → Shared → Prop) (env : Env)
noncomputable def ConsK (rest : List Stmt) (Q : Flow → Shared → Prop) (f : Flow) (s : Shared) : Prop := match f with | .next => wpAny M A (execs rest env) Q E s | f => Q f s
noncomputable def IfK (body orelse : List Stmt) (Q : Flow → Shared → Prop) (b : Bool) (s : Shared) : Prop := if b = true then wpAny M A (execs body env) Q E s else wpAny M A (execs orelse env) Q E s
noncomputable def TrK (Q : Bool → Shared → Prop) (v : Value) (s : Shared) : Prop := wpAny M A (truthy v) Q E s
noncomputable def AsK (x : Str) (Q : Flow → Shared → Prop) (v : Value) (s : Shared) : Prop := wpAny M A (storeName env x v) (fun _ => Q .next) E s
noncomputable def AndK (rest : List Expr) (pos : Pos) (whole : Sem Value) (Q : Bool → Shared → Prop) (c : Bool) (s : Shared) : Prop := if c = true then wpAny M A (isTrue (.BoolOp .And rest pos) env whole) Q E s else Q false s
noncomputable def OrK (rest : List Expr) (pos : Pos) (whole : Sem Value) (Q : Bool → Shared → Prop) (c : Bool) (s : Shared) : Prop := if c = true then Q true s else wpAny M A (isTrue (.BoolOp .Or rest pos) env whole) Q E s
noncomputable def AndV (e : Expr) (rest : List Expr) (pos : Pos) (Q : Value → Shared → Prop) (v : Value) (s : Shared) : Prop := wpAny M A (truthy v) (fun c s₂ => if c = true then wpAny M A (eval (.BoolOp .And (e :: rest) pos) env) Q E s₂ else Q v s₂) E s
noncomputable def MeK (es : List Expr) (pos : Pos) (Q : Value → Shared → Prop) (fx : Value × List Value) (s : Shared) : Prop := wpAny M A (callWith pos fx.1 fx.2 (backTo pos (starEach es env)) []) Q E s
end
inductive KeepTk : Prop
  | mk
noncomputable def RetK (Q : Flow → Shared → Prop) (v : Value) (s : Shared) : Prop := Q (.ret v) s
noncomputable def NotK (Q : Bool → Shared → Prop) (b : Bool) (s : Shared) : Prop := Q (!b) s
noncomputable def ExK (Q : Flow → Shared → Prop) (_v : Value) (s : Shared) : Prop := Q .next s
section
variable {M : Model} {A : Around} {E : Value → Shared → Prop} {s s₁ s₂ s₃ : Shared} {env : Env} {e e₂ r test : Expr} {es : List Expr} {v a b f : Value} {vs : List Value} {pos xp : Pos} {x y : Str} {st : Stmt} {rest body orelse : List Stmt} {whole : Sem Value}
theorem lc_cons {Q : Flow → Shared → Prop} (h : wpAny M A (exec st env) (ConsK M A E env rest Q) E s) : wpAny M A (execs (st :: rest) env) Q E s := wpAny_execs_cons (wpAny_mono h (fun f _ q => by cases f <;> exact q) fun _ _ z => z)
theorem lc_last {Q : Flow → Shared → Prop} (h : wpAny M A (exec st env) Q E s) : wpAny M A (execs [st] env) Q E s := wpAny_execs_cons (wpAny_mono h (fun f _ q => by cases f; (first | exact wpAny_execs_nil q | exact q); all_goals exact q) fun _ _ z => z)
theorem ck_next {Q : Flow → Shared → Prop} (h : wpAny M A (execs rest env) Q E s) : ConsK M A E env rest Q .next s := h
theorem ck_ret {Q : Flow → Shared → Prop} (h : Q (.ret v) s) : ConsK M A E env rest Q (.ret v) s := h
theorem ck_brk {Q : Flow → Shared → Prop} (h : Q .brk s) : ConsK M A E env rest Q .brk s := h
theorem ck_cont {Q : Flow → Shared → Prop} (h : Q .cont s) : ConsK M A E env rest Q .cont s := h
theorem lc_if {Q : Flow → Shared → Prop} (h : wpAny M A (isTrue test env (eval test env)) (IfK M A E env body orelse Q) E s) : wpAny M A (exec (.If test body orelse pos) env) Q E s := wpAny_If h
theorem ik_t {Q : Flow → Shared → Prop} (h : wpAny M A (execs body env) Q E s) : IfK M A E env body orelse Q true s := by unfold IfK; rw [if_pos rfl]; exact h
theorem ik_f {Q : Flow → Shared → Prop} (h : wpAny M A (execs orelse env) Q E s) : IfK M A E env body orelse Q false s := by unfold IfK; rw [if_neg (by decide)]; exact h
theorem ik_fn {Q : Flow → Shared → Prop} (h : Q .next s) : IfK M A E env body [] Q false s := ik_f (wpAny_execs_nil h)
theorem ik_tt {Q : Flow → Shared → Prop} {c : Bool} (e : c = true) (h : wpAny M A (execs body env) Q E s) : IfK M A E env body orelse Q c s := by rw [e]; exact ik_t h
theorem ik_ff {Q : Flow → Shared → Prop} {c : Bool} (e : c = false) (h : wpAny M A (execs orelse env) Q E s) : IfK M A E env body orelse Q c s := by rw [e]; exact ik_f h
theorem ik_ffn {Q : Flow → Shared → Prop} {c : Bool} (e : c = false) (h : Q .next s) : IfK M A E env body [] Q c s := by rw [e]; exact ik_fn h
theorem ik_of {Q : Flow → Shared → Prop} {b : Bool} (h : if b = true then wpAny M A (execs body env) Q E s else wpAny M A (execs orelse env) Q E s) : IfK M A E env body orelse Q b s := h
theorem tk_b {Q : Bool → Shared → Prop} {b : Bool} (h : Q b s) : TrK M A E Q (.bool b) s := wpAny_truthy_bool h
theorem tk_of {Q : Bool → Shared → Prop} (h : wpAny M A (truthy v) Q E s) : TrK M A E Q v s := h
theorem lc_as {Q : Flow → Shared → Prop} (h : wpAny M A (eval e env) (AsK M A E env x Q) E s) (hs : swapsWith e (some (.Name x xp)) pos.line env = pure false := by with_unfolding_all rfl) : wpAny M A (exec (.Assign [.Name x xp] e pos) env) Q E s := wpAny_Assign_Name h hs
theorem lc_asE {Q : Flow → Shared → Prop} (h : Ev M A E env e v s s₁) (q : AsK M A E env x Q v s₁) (hs : swapsWith e (some (.Name x xp)) pos.line env = pure false := by with_unfolding_all rfl) : wpAny M A (exec (.Assign [.Name x xp] e pos) env) Q E s := wpAny_Assign_Name (h.run _ q) hs
theorem ak_of {Q : Flow → Shared → Prop} (h : wpAny M A (storeName env x v) (fun _ => Q .next) E s) : AsK M A E env x Q v s := h
theorem lc_ret {Q : Flow → Shared → Prop} (h : wpAny M A (eval e env) (RetK Q) E s) : wpAny M A (exec (.Return (some e) pos) env) Q E s := wpAny_Return_some h
theorem lc_retE {Q : Flow → Shared → Prop} (h : Ev M A E env e v s s₁) (q : Q (.ret v) s₁) : wpAny M A (exec (.Return (some e) pos) env) Q E s := wpAny_Return_some (h.run _ q)
theorem rk_ {Q : Flow → Shared → Prop} (h : Q (.ret v) s) : RetK Q v s := h
theorem lc_ex {prog : Program} {w : World} {Q : Flow → Shared → Prop} (h : wpAny (model prog w) A (eval e env) (ExK Q) E s) (hi : interactive env = false := by with_unfolding_all rfl) (hs : swapsWith e none pos.line env = pure false := by with_unfolding_all rfl) : wpAny (model prog w) A (exec (.Expr e pos) env) Q E s :=
  wpAny_Expr_any h hi hs
theorem xk_none {Q : Flow → Shared → Prop} (h : Q .next s) : ExK Q v s := h
theorem lc_and {es : List Expr} {Q : Bool → Shared → Prop} (h : wpAny M A (isTrue e env (eval e env)) (AndK M A E env es pos whole Q) E s) : wpAny M A (isTrue (.BoolOp .And (e :: es) pos) env whole) Q E s := isTrue_and h
theorem lc_and1 {Q : Bool → Shared → Prop} (h : wpAny M A (isTrue e env (eval e env)) Q E s) : wpAny M A (isTrue (.BoolOp .And [e] pos) env whole) Q E s := isTrue_and (wpAny_mono h (fun b _ q => by cases b with | false => (rw [if_neg (by decide)]; exact q) | true => (rw [if_pos rfl]; exact isTrue_and_nil q)) fun _ _ z => z)
theorem nk_t {Q : Bool → Shared → Prop} (h : wpAny M A (isTrue (.BoolOp .And es pos) env whole) Q E s) : AndK M A E env es pos whole Q true s := by unfold AndK; rw [if_pos rfl]; exact h
theorem nk_f {Q : Bool → Shared → Prop} (h : Q false s) : AndK M A E env es pos whole Q false s := by unfold AndK; rw [if_neg (by decide)]; exact h
theorem nk_of {Q : Bool → Shared → Prop} {b : Bool} (h : if b = true then wpAny M A (isTrue (.BoolOp .And es pos) env whole) Q E s else Q false s) : AndK M A E env es pos whole Q b s := h
theorem lc_or {Q : Bool → Shared → Prop} (h : wpAny M A (isTrue e env (eval e env)) (OrK M A E env es pos whole Q) E s) : wpAny M A (isTrue (.BoolOp .Or (e :: es) pos) env whole) Q E s := isTrue_or h
theorem lc_or1 {Q : Bool → Shared → Prop} (h : wpAny M A (isTrue e env (eval e env)) Q E s) : wpAny M A (isTrue (.BoolOp .Or [e] pos) env whole) Q E s := isTrue_or (wpAny_mono h (fun b _ q => by cases b with | false => (rw [if_neg (by decide)]; exact isTrue_or_nil q) | true => (rw [if_pos rfl]; exact q)) fun _ _ z => z)
theorem ok_t {Q : Bool → Shared → Prop} (h : Q true s) : OrK M A E env es pos whole Q true s := by unfold OrK; rw [if_pos rfl]; exact h
theorem ok_f {Q : Bool → Shared → Prop} (h : wpAny M A (isTrue (.BoolOp .Or es pos) env whole) Q E s) : OrK M A E env es pos whole Q false s := by unfold OrK; rw [if_neg (by decide)]; exact h
theorem ok_of {Q : Bool → Shared → Prop} {b : Bool} (h : if b = true then Q true s else wpAny M A (isTrue (.BoolOp .Or es pos) env whole) Q E s) : OrK M A E env es pos whole Q b s := h
theorem lc_andV {Q : Value → Shared → Prop} (h : wpAny M A (eval e env) (AndV M A E env e₂ es pos Q) E s) : wpAny M A (eval (.BoolOp .And (e :: e₂ :: es) pos) env) Q E s := BoolOp_and h
theorem vk_t {Q : Value → Shared → Prop} (h : wpAny M A (eval (.BoolOp .And (e₂ :: es) pos) env) Q E s) : AndV M A E env e₂ es pos Q (.bool true) s := tr_t (Y := fun s => Q (.bool true) s) h
theorem vk_f {Q : Value → Shared → Prop} (h : Q (.bool false) s) : AndV M A E env e₂ es pos Q (.bool false) s := tr_f (X := fun s => wpAny M A (eval (.BoolOp .And (e₂ :: es) pos) env) Q E s) (Y := fun s => Q (.bool false) s) h
theorem vk_of {Q : Value → Shared → Prop} (h : wpAny M A (truthy v) (fun c s₂ => if c = true then wpAny M A (eval (.BoolOp .And (e₂ :: es) pos) env) Q E s₂ else Q v s₂) E s) : AndV M A E env e₂ es pos Q v s := h
theorem lc_not {Q : Bool → Shared → Prop} (h : wpAny M A (isTrue e env (eval e env)) (NotK Q) E s) : wpAny M A (isTrue (.UnaryOp .Not e pos) env whole) Q E s := isTrue_not h
theorem ok_nt {Q : Bool → Shared → Prop} (h : Q false s) : NotK Q true s := h
theorem ok_nf {Q : Bool → Shared → Prop} (h : Q true s) : NotK Q false s := h
theorem ok_nof {Q : Bool → Shared → Prop} {b : Bool} (h : Q (!b) s) : NotK Q b s := h
theorem lc_val {Q : Bool → Shared → Prop} (h : wpAny M A (eval e env) (TrK M A E Q) E s) (he : isTrue e env (eval e env) = (do let v ← eval e env; standAt e.pos; holding [v] (truthy v)) := by rfl) : wpAny M A (isTrue e env (eval e env)) Q E s := isTrue_plain h he
theorem lc_cmp {op : CmpOp} {Q : Bool → Shared → Prop} (h : Ev M A E env e a s s₁) (t : Ev M A E env r b s₁ s₂) (q : wpAny M A (compareOp op a b) (TrK M A E Q) E s₂)
    (hm : behindInMarks op r = false := by with_unfolding_all rfl) : wpAny M A (isTrue (.Compare e [op] [r] pos) env whole) Q E s := cmp_b h t q hm
/-- a method of an object -/
theorem lm_b {ap : Pos} {pl : Sem Bool} {id : String} {w : Value} {Q : Value → Shared → Prop} (he : eval (.Call (.Attribute e y ap) es [] pos) env = (do
      let ov ← eval e env
      standAt ap.atName
      let (f, first) ← holding [ov] (getMethod ov y pl)
      callWith pos f first (backTo pos (starEach es env)) [])) (h : Ev M A E env e v s s₁) (g : ∀ Q : Value × List Value → Shared → Prop, Q (.builtin id, [w]) s₂ → wpAny M A (getMethod v y pl) Q E s₁)
    (t : Es M A E env es vs s₂ s₃) (q : wpAny M A (call (.builtin id) (w :: vs)) Q E s₃) :
    wpAny M A (eval (.Call (.Attribute e y ap) es [] pos) env) Q E s := MethodCall_ (h.run _ (g _ (cw_b t q))) he
theorem lm_K {ap : Pos} {pl : Sem Bool} {fa : Addr} {w : Value} {K : Frag} {h₀ : Heap} {L : Addr} {m : Str → Option Value} {Q : Value → Shared → Prop} (he : eval (.Call (.Attribute e y ap) es [] pos) env = (do
      let ov ← eval e env
      standAt ap.atName
      let (f, first) ← holding [ov] (getMethod ov y pl)
      callWith pos f first (backTo pos (starEach es env)) [])) (h : Ev M A E env e v s s₁) (g : ∀ Q : Value × List Value → Shared → Prop, Q (.ref fa, [w]) s₂ → wpAny M A (getMethod v y pl) Q E s₁)
    (t : Es M A E env es vs s₂ s₃) (F : Fr h₀ L s₃.heap m) (X : K.In h₀) (hk : keepIn K (.ref fa) = true) (q : wpAny M A (call (.ref fa) (w :: vs)) Q E s₃) :
    wpAny M A (eval (.Call (.Attribute e y ap) es [] pos) env) Q E s := MethodCall_ (h.run _ (g _ (cw_K t F X hk q))) he
theorem lm_k {ap : Pos} {pl : Sem Bool} {Q : Value → Shared → Prop} (he : eval (.Call (.Attribute e y ap) es [] pos) env = (do
      let ov ← eval e env
      standAt ap.atName
      let (f, first) ← holding [ov] (getMethod ov y pl)
      callWith pos f first (backTo pos (starEach es env)) [])) (h : Ev M A E env e v s s₁) (q : wpAny M A (getMethod v y pl) (MeK M A E env es pos Q) E s₁) :
    wpAny M A (eval (.Call (.Attribute e y ap) es [] pos) env) Q E s := MethodCall_ (h.run _ q) he
theorem mk_ {Q : Value → Shared → Prop} {first : List Value} (h : wpAny M A (callWith pos f first (backTo pos (starEach es env)) []) Q E s) : MeK M A E env es pos Q (f, first) s := h
end
section
variable {M : Model} {A : Around} {E : Value → Shared → Prop} {hp : Heap} {gn : _} {dn : _} {tk : Nat} {os : _} {h₀ : Heap} {L a : Addr} {m : Str → Option Value} {cn : Str} {cs : Scope} {ccd : Value} {cl : List (Str × Addr)} {x : Str} {v : Value} {Q : Flow → Shared → Prop} {news : List (Addr × Obj)} {g : Obj → List (Addr × Obj)} {c : Addr} {o : Obj} {v₀ : Option Value}
theorem ak_L (F : Fr h₀ L hp m) (N : News h₀ L hp news) (hk : cs.kind = .function) (hx : (envX cn cs L a ccd cl).kindOf x = some .local)
    (h : ∀ h' t', Fr h₀ L h' (fun y => if y = x then some v else m y) → News h₀ L h' news → Q .next ⟨h', gn, dn, t', os⟩) : AsK M A E (envX cn cs L a ccd cl) x Q v ⟨hp, gn, dn, tk, os⟩ :=
  storeX_L (s := ⟨hp, gn, dn, tk, os⟩) F N (fun h' => h h' _) hk hx
theorem ak_Lk (F : Fr h₀ L hp m) (N : News h₀ L hp news) (hk : cs.kind = .function) (hx : (envX cn cs L a ccd cl).kindOf x = some .local)
    (h : ∀ h', Fr h₀ L h' (fun y => if y = x then some v else m y) → News h₀ L h' news → Q .next ⟨h', gn, dn, tk + 1, os⟩) : AsK M A E (envX cn cs L a ccd cl) x Q v ⟨hp, gn, dn, tk, os⟩ :=
  storeX_L (s := ⟨hp, gn, dn, tk, os⟩) F N h hk hx
/-- the count of tokens is forgotten, unless a walk wants it -/
theorem tok_any {α : Type} {t : Sem α} {Q : α → Shared → Prop} (h : ∀ n, wpAny M A t Q E ⟨hp, gn, dn, n, os⟩) : wpAny M A t Q E ⟨hp, gn, dn, tk, os⟩ := h tk
theorem ak_C (F : Fr h₀ L hp m) (N : News h₀ L hp news) (hk : cs.kind = .function) (hx : (envX cn cs L a ccd cl).kindOf x = some .cell) (hc : cl.lookup x = some c) (U : UpdF c o news g) (hd : o.data = .cell v₀)
    (h : ∀ h' o', Fr h₀ L h' m → News h₀ L h' (g o') → o'.data = .cell (some v) → Q .next ⟨h', gn, dn, tk, os⟩) : AsK M A E (envX cn cs L a ccd cl) x Q v ⟨hp, gn, dn, tk, os⟩ :=
  storeX_C (s := ⟨hp, gn, dn, tk, os⟩) F N hc U hd h hk hx
end
/-- a call's results, under a name -/
noncomputable def RK (Q E : Value → Shared → Prop) : Result → Shared → Prop := fun r s' => match r with | .ok (.ret v) => Q v s' | .ok _ => False | .error e => E e s'
theorem wcall {M : Model} {A : Around} {f : Value} {ps : List Value} {kw : List (Str × Value)} {Q E : Value → Shared → Prop} {s : Shared} (h : codeAny M A (.call f ⟨ps, kw⟩) (RK Q E) s) : wpAny M A (call f ps kw) Q E s := wpAny_call h
theorem rk_ok {Q E : Value → Shared → Prop} {v : Value} {s : Shared} (h : Q v s) : RK Q E (.ok (.ret v)) s := h
theorem lv {Q E : Value → Shared → Prop} {hp g h₀ : Heap} {gn : _} {dn : _} {tk : Nat} {os : _} {L L' : Addr} {m m' : Str → Option Value} {news' : List (Addr × Obj)} {v : Value} (F' : Fr g L' hp m') (N' : News g L' hp news') (k : Fr h₀ L hp m → News h₀ L hp news' → Q v ⟨hp, gn, dn, tk, os⟩) : LeaveK h₀ L m g (RK Q E) v ⟨hp, gn, dn, tk, os⟩ := leaveK_ F' N' k
section
variable {prog : Program} {w : World} {A : Around} {E : Value → Shared → Prop} {hp : Heap} {gn : _} {dn : _} {tk : Nat} {os : _} {K : Frag} {x C L : Addr} {h₀ : Heap} {m : Str → Option Value} {ox : Obj} {es : List DictEntry} {n : Nat} {name : Str} {v : Value} {attr : Option Value} {f : Addr} {pl : Sem Bool}
theorem gt_own (F : Fr h₀ L hp m) (X : K.In h₀) (I : InstAt hp x ox C (some (dictOf es n))) (hg : plainGet K C name = true) (hh : hasDictIn K C = true) (ha : findIn K (.ref C) name = some attr) (hn : noGet K attr = true) (hl : getL name es = some (some v)) (hv : handedIn v = true) :
    ∀ Q : Value → Shared → Prop, Q v ⟨hp, gn, dn, tk + 1, os⟩ → wpAny (model prog w) A (getAttr (.ref x) name true) Q E ⟨hp, gn, dn, tk, os⟩ := fun _ q => get_own (s := ⟨hp, gn, dn, tk, os⟩) F X I hg hh ha hn hl hv q
theorem gm_own (F : Fr h₀ L hp m) (X : K.In h₀) (I : InstAt hp x ox C (some (dictOf es n))) (hg : plainGet K C name = true) (hf : findIn K (.ref C) name = some (some (.ref f))) (ht : isFn K (.ref f) = true) (hl : getL name es = some none) :
    ∀ Q : Value × List Value → Shared → Prop, Q (.ref f, [.ref x]) ⟨hp, gn, dn, tk, os⟩ → wpAny (model prog w) A (getMethod (.ref x) name pl) Q E ⟨hp, gn, dn, tk, os⟩ := fun _ q => method_inst (s := ⟨hp, gn, dn, tk, os⟩) F X I hg hf ht hl q
end
end Mine
open PySem PySem.W PyProof.Rows PySem.Calls PySem.Spec Mine
theorem Mine.regFast1 : True := by
  k_with "MY ev" => (first | ((with_reducible show Mine.Ev _ _ _ _ (Expr.Name _ _) _ _ _); first | k_dflt (exact Mine.ev_L (by k_asm) (by rfl) (by rfl) (by decide) (by rfl)) | k_dflt (exact Mine.ev_C (by k_asm) (by rfl) (by rfl) (by decide) (by rfl) (by k_mem) (by k_asm)) | k_dflt (exact Mine.ev_K (by k_asm) (by k_asm) (by k_asm) (by rfl) (by rfl) (by decide) (by k_is)) | k_dflt (exact Mine.ev_B (by k_asm) (by k_asm) (by k_asm) (by rfl) (by rfl) (by decide) (by k_is) (by boot_fast) (by decide))) | ((with_reducible show Mine.Ev _ _ _ _ (Expr.Constant _ _ _) _ _ _); first | with_reducible exact Mine.ev_str | with_reducible exact Mine.ev_int | with_reducible exact Mine.ev_none | with_reducible exact Mine.ev_bool) | ((with_reducible show Mine.Ev _ _ _ _ (Expr.Attribute (Expr.Name _ _) _ _) _ _ _); with_reducible exact Mine.ev_at (by k_extra "MY ev") (by k_extra "MY gt")) | ((with_reducible show Mine.Ev _ _ _ _ (Expr.Subscript _ _ _) _ _ _); with_reducible exact Mine.ev_sub (by k_extra "MY ev") (by k_extra "MY ev") (by intro q8 hq8; walk1; exact hq8)))
  k_with "MY frm" => (((with_reducible rename Fr _ _ _ (fun y => List.lookup y _) => F8); (first | replace F8 := Mine.Fr.n1 F8 (by rfl) | replace F8 := Mine.Fr.n2 F8 (by rfl) | replace F8 := Mine.Fr.n3 F8 (by rfl) | replace F8 := Mine.Fr.n4 F8 (by rfl)); (try dsimp only at F8); (refine Mine.nameF F8 ?_); clear F8; intro mzq9 Fzq9))
  k_with "MY kept" => (((have h9 : Mine.KeepTk := (by with_reducible assumption)); clear h9))
  k_with "MY tk" => (first | k_extra "MY kept" | (with_reducible refine Mine.tok_any ?_; intro tkzq9))
  k_with "MY enter" => ((ktr_enter; k_extra "MY frm"; (refine Mine.nameAE ?_); intro v9e a9e; (try k_extra "MY tk")))
  k_with "call ref" => ((k_here; (refine Mine.wcall ?_); k_dflt (k_extra "MY enter")))
  k_with "LeaveK" => (((k_dflt (refine Mine.lv (by k_asm) (by k_asm) ?_)); intro kF8 kN8; ground_anew kF8; (have kX8 := kFor kF8 (by k_asm))))
  k_with "RK" => (with_reducible refine Mine.rk_ok ?_)
  k_with "MY gt" => (first | k_dflt (exact Mine.gt_own (by k_asm) (by k_asm) (by k_inst) (by k_is) (by k_is) (by k_is) (by k_is) (by k_get) (by k_handed)) | (intro q8 hq8; walk1; exact hq8))
  k_with "MY gm" => (first | k_dflt (exact Mine.gm_own (by k_asm) (by k_asm) (by k_inst) (by k_is) (by k_is) (by k_is) (by k_get)) | (intro q8 hq8; walk1; exact hq8))
  k_with "MY es" => (first | with_reducible exact Mine.es_nil | with_reducible exact Mine.es_cons (by k_extra "MY ev") (by k_extra "MY es"))
  k_with "spliced" => ((with_reducible refine Mine.es_use (by k_extra "MY es") ?_))
  k_with "callWith" => (((with_reducible show wpAny _ _ (callWith _ (Value.builtin _) _ _ _) _ _ _); with_reducible refine Mine.cw_b (by k_extra "MY es") ?_; (try dsimp only [List.nil_append, List.cons_append])))
  k_with "callWith ref" => ((with_reducible refine Mine.cw_K (by k_extra "MY es") (by k_asm) (by k_asm) (by k_dflt k_is) ?_; (try dsimp only [List.nil_append, List.cons_append])))
  k_with "eval Call" => (first | ((with_reducible show wpAny _ _ (eval (Expr.Call (Expr.Name (PySem.Str.ofString "range") _) _ _ _) _) _ _ _); with_reducible refine Mine.call_n (by k_extra "MY ev") ?_) | ((with_reducible show wpAny _ _ (eval (Expr.Call (Expr.Name (PySem.Str.ofString "dict") _) _ _ _) _) _ _ _); with_reducible refine Mine.call_n (by k_extra "MY ev") ?_) | with_reducible refine Mine.call_b (by k_extra "MY ev") (by k_extra "MY es") ?_ | with_reducible refine Mine.call_K (by k_extra "MY ev") (by k_extra "MY es") (by k_asm) (by k_asm) (by k_dflt k_is) ?_ | with_reducible refine Mine.call_n (by k_extra "MY ev") ?_)
  k_with "eval Attribute Name" => (first | with_reducible refine Mine.ev_use (by k_extra "MY ev") ?_ | with_reducible refine Mine.at_n (by k_extra "MY ev") ?_)
  k_with "eval Name" => ((with_reducible refine Mine.ev_use (by k_extra "MY ev") ?_))
  k_with "eval Call Attribute" => (first | with_reducible refine Mine.lm_K (by k_dflt rfl) (by k_extra "MY ev") (by k_extra "MY gm") (by k_extra "MY es") (by k_asm) (by k_asm) (by k_dflt k_is) ?_ | with_reducible refine Mine.lm_b (by k_dflt rfl) (by k_extra "MY ev") (by intro q8 hq8; walk1; exact hq8) (by k_extra "MY es") ?_ | with_reducible refine Mine.lm_k (by k_dflt rfl) (by k_extra "MY ev") ?_)
  k_with "MeK" => (with_reducible refine Mine.mk_ ?_)
  k_with "eval Subscript" => (first | with_reducible refine Mine.ev_use (by k_extra "MY ev") ?_ | with_reducible refine Mine.sub_n (by k_extra "MY ev") (by k_extra "MY ev") ?_)
  k_with "isTrue Compare" => ((with_reducible refine Mine.lc_cmp (by k_extra "MY ev") (by k_extra "MY ev") ?_))
  k_with "eval Compare" => ((with_reducible refine Mine.cmp_v (by k_extra "MY ev") (by k_extra "MY ev") ?_))
  k_with "truthy bool" => (first | with_reducible refine Mine.tr_t ?_ | with_reducible refine Mine.tr_f ?_)
  k_with "execs cons" => (first | with_reducible refine Mine.lc_last ?_ | with_reducible refine Mine.lc_cons ?_)
  k_with "ConsK" => (first | with_reducible refine Mine.ck_next ?_ | with_reducible refine Mine.ck_ret ?_ | with_reducible refine Mine.ck_brk ?_ | with_reducible refine Mine.ck_cont ?_)
  k_with "exec If" => (with_reducible refine Mine.lc_if ?_)
  k_with "IfK" => (first | with_reducible refine Mine.ik_t ?_ | with_reducible refine Mine.ik_fn ?_ | with_reducible refine Mine.ik_f ?_ | with_reducible refine Mine.ik_tt (by assumption) ?_ | with_reducible refine Mine.ik_ffn (by assumption) ?_ | with_reducible refine Mine.ik_ff (by assumption) ?_ | with_reducible refine Mine.ik_of ?_)
  k_with "TrK" => (first | with_reducible refine Mine.tk_b ?_ | with_reducible refine Mine.tk_of ?_)
  k_with "exec Assign" => (((with_reducible show wpAny _ _ (exec (Stmt.Assign [Expr.Name _ _] _ _) _) _ _ _); first | with_reducible refine Mine.lc_asE (by k_extra "MY ev") ?_ | with_reducible refine Mine.lc_as ?_))
  k_with "AsK" => (first | (k_extra "MY kept"; k_dflt (refine Mine.ak_Lk (by k_asm) (by k_asm) (by rfl) (by rfl) ?_); intro hzq9 Fzq9 Nzq9; (refine Mine.nameF Fzq9 ?_); clear Fzq9; intro mzq9 Fzq9; (try k_sweep)) | (k_dflt (refine Mine.ak_L (by k_asm) (by k_asm) (by rfl) (by rfl) ?_); intro hzq9 tkzq9 Fzq9 Nzq9; (refine Mine.nameF Fzq9 ?_); clear Fzq9; intro mzq9 Fzq9; (try k_sweep)) | (k_dflt (refine Mine.ak_C (by k_asm) (by k_asm) (by rfl) (by rfl) (by rfl) (by k_updF) (by k_asm) ?_); intro hzq9 ozq9 Fzq9 Nzq9 dzq9; (try dsimp only at Nzq9); (try k_sweep)) | with_reducible refine Mine.ak_of ?_)
  k_with "exec Return some" => (first | with_reducible refine Mine.lc_retE (by k_extra "MY ev") ?_ | with_reducible refine Mine.lc_ret ?_)
  k_with "RetK" => (with_reducible refine Mine.rk_ ?_)
  k_with "exec Expr" => (with_reducible refine Mine.lc_ex ?_)
  k_with "ExK" => (with_reducible refine Mine.xk_none ?_)
  k_with "isTrue BoolOp" => (first | with_reducible refine Mine.lc_and1 ?_ | with_reducible refine Mine.lc_and ?_ | with_reducible refine Mine.lc_or1 ?_ | with_reducible refine Mine.lc_or ?_)
  k_with "AndK" => (first | with_reducible refine Mine.nk_t ?_ | with_reducible refine Mine.nk_f ?_ | with_reducible refine Mine.nk_of ?_)
  k_with "OrK" => (first | with_reducible refine Mine.ok_t ?_ | with_reducible refine Mine.ok_f ?_ | with_reducible refine Mine.ok_of ?_)
  k_with "eval BoolOp" => (with_reducible refine Mine.lc_andV ?_)
  k_with "AndV" => (first | with_reducible refine Mine.vk_t ?_ | with_reducible refine Mine.vk_f ?_ | with_reducible refine Mine.vk_of ?_)
  k_with "isTrue UnaryOp" => (with_reducible refine Mine.lc_not ?_)
  k_with "NotK" => (first | with_reducible refine Mine.ok_nt ?_ | with_reducible refine Mine.ok_nf ?_ | with_reducible refine Mine.ok_nof ?_)
  k_with "isTrue Call" => (with_reducible refine Mine.lc_val ?_)
  exact trivial
end PartFast
section PartTk1
open PySem PySem.W PyProof.Rows PySem.Calls PySem.Spec
set_option maxHeartbeats 1000000
namespace Mine
theorem setGen_toks (s : Shared) (g : Nat) (x : GenState) : (s.setGen g x).toks = s.toks := rfl
/-- tokens are handed out in rising order -/
theorem runs_toks {M : Model} {Γ : PySem.Ctx} {p : Pos} {t : Sem PySem.Fin} {fs : List PySem.Frame} {s s' : Shared} {e : End} (h : Runs M Γ p t fs s e s') : s.toks ≤ s'.toks := by
  induction h <;> (try simp only [setGen_toks] at *) <;> (try dsimp only at *) <;> first | exact Nat.le_refl _ | assumption | omega
theorem wakes_toks {M : Model} {Γ : PySem.Ctx} {p : Pos} {g : Nat} {r : Resume} {s s' : Shared} {res : GenResult} (h : Wakes M Γ p g r s res s') : s.toks ≤ s'.toks := by
  unfold Wakes at h
  split at h
  · exact h.elim
  · split at h
    · obtain ⟨e₁, s₁, h1, _, _, rfl⟩ := h
      exact (by have q := runs_toks h1; simpa only [setGen_toks] using q)
    · rw [h.2]; exact Nat.le_refl _
    · rw [h.2]; exact Nat.le_refl _
  · obtain ⟨e₁, s₁, h1, _, _, rfl⟩ := h
    exact (by have q := runs_toks h1; simpa only [setGen_toks] using q)
  · rw [h.2]; exact Nat.le_refl _
  · rw [h.2]; exact Nat.le_refl _
theorem wp_toks {α : Type} {M : Model} {Γ : PySem.Ctx} (n : Nat) {Q : α → Pos → Shared → Prop} {E : Value → Pos → Shared → Prop} : ∀ (t : Sem α) (p : Pos) (s : Shared), n ≤ s.toks → Sem.wp M Γ t (fun a p s' => n ≤ s'.toks → Q a p s') E p s → Sem.wp M Γ t Q E p s := by
  intro t
  induction t with
  | pure a => intro p s hn h; exact h hn
  | raise e => intro p s hn h; exact h
  | unsupported w => intro p s hn h; exact h
  | finish e => intro p s hn h; exact h
  | rule t k ih => intro p s hn h; exact ih () p s hn h
  | «at» q k ih => intro p s hn h; exact ih () q s hn h
  | load a q k ih => intro p s hn h; obtain ⟨o, e, h⟩ := h; exact ⟨o, e, ih o p s hn h⟩
  | update a q f k ih => intro p s hn h; exact ⟨h.1, ih () p _ hn h.2⟩
  | alloc o k ih => intro p s hn h; exact ih _ p _ hn h
  | loadIfAlive a k ih => intro p s hn h; exact ih _ p _ hn h
  | point l k ih => intro p s hn h; exact ih _ p _ hn h
  | register a k ih => intro p s hn h; exact h
  | fresh k ih => intro p s hn h; exact ih _ p _ (Nat.le_succ_of_le hn) h
  | ask k ih => intro p s hn h; exact ih _ p _ hn h
  | choose src m k ih => intro p s hn h; exact ⟨h.1, ih _ p _ hn h.2⟩
  | os q l k ih => intro p s hn h; exact ih _ p _ hn h
  | call c hd g l k ih =>
    intro p s hn h
    obtain ⟨r, s', hr, hq⟩ := h
    exact ⟨r, s', hr, ih r p s' (Nat.le_trans hn (runs_toks hr)) hq⟩
  | handled o k ih => intro p s hn h; exact ih _ p _ hn h
  | newGen c k ih => intro p s hn h; exact ih _ p _ hn h
  | genState g k ih => intro p s hn h; obtain ⟨st, e, h⟩ := h; exact ⟨st, e, ih _ p _ hn h⟩
  | resume g r l k ih => intro p s hn h; obtain ⟨res, s', hw, h⟩ := h; exact ⟨res, s', hw, ih _ p _ (Nat.le_trans hn (wakes_toks hw)) h⟩
  | yield v g l k ih => intro p s hn h; exact h
  | stack k ih => intro p s hn h; exact ih _ p _ hn h
  | fork c k ih => intro p s hn h; exact h
  | thread k ih => intro p s hn h; exact ih _ p _ hn h
  | await a t d l k ih => intro p s hn h; exact h
/-- what comes behind knows that no token is older -/
theorem wpAny_toks {α : Type} {M : Model} {A : Around} {t : Sem α} {Q : α → Shared → Prop} {E : Value → Shared → Prop} {s : Shared} (h : wpAny M A t (fun a s' => s.toks ≤ s'.toks → Q a s') E s) : wpAny M A t Q E s :=
  fun Γ p hΓ => wp_toks s.toks t p s (Nat.le_refl _) (h Γ p hΓ)
end Mine
end PartTk1
section PartD1
open PySem PySem.W PyProof.Rows PySem.Calls PySem.Spec
set_option maxHeartbeats 1000000
namespace Mine
section
variable {prog : Program} {w : World} {A : Around} {E : Value → Shared → Prop} {s : Shared}
theorem list_no_keys {a : Addr} {o : Obj} {xs : Array Value} {k : Nat} {Q : Option Value → Shared → Prop} (hx : s.heap.get? a = some o) (hc : o.cls = .type "list") (hdat : o.data = .seq xs k) (hd : o.dict = none) (hA : A.handled = none)
    (h : ∀ h' tk, (∀ b o, s.heap.get? b = some o → h'.get? b = some o) → Q none { s with heap := h', toks := tk }) :
    wpAny (model prog w) A (getAttr? (.ref a) "keys") Q E s := by
  obtain ⟨c, dct, dat, sl⟩ := o
  simp only at hc hdat hd
  subst hc hdat hd
  obtain ⟨hp, g, d, tk, os⟩ := s
  have hT : ∀ tk', (⟨hp, g, d, tk', os⟩ : Shared).TypeIs (.ref a) "list" := fun _ => ⟨_, hx, rfl⟩
  have hmiss : typeLookup (.type "list") "keys" = pure none := by rw [typeLookup_type, builtinLookup_eq_fast]; kernel_rfl
  have f1 := sub_AttributeError
  have f3 := F.slot_list_getattribute.lookup
  have f4 := F.slot_list_getattribute.bind (.ref a)
  have f5 := am_list_getattr_none
  unfold getAttr? getAttrBy? getAttrBy
  repeat (any_goals (first | with_reducible assumption | exact hT _ | ((with_reducible show wpAny _ _ (call (Value.builtin "list.__getattribute__") _ _) _ _ _); refine call_meets F.slot_list_getattribute (hT _) am_entry_list_getattribute (F.args_list_getattribute_2 _ _) (meets_getattribute_miss_list a xs k sl "keys" _ hmiss (by decide) (by decide)) ⟨hx, hA, fun h' tk' e hx' => ?_⟩) | wp_step))
  obtain ⟨t', u', he⟩ := hx'.there
  show wpAny _ _ (getattributeRaised _ _ _ _ _ _ _) _ _ _
  unfold getattributeRaised
  repeat (any_goals (first | with_reducible assumption | wp_step))
  exact h _ _ hx'.keeps
end
end Mine
end PartD1
section PartD2
open PySem PySem.W PyProof.Rows PySem.Calls PySem.Spec
set_option maxHeartbeats 1000000
namespace Mine
/-- a list's items are tuples of a str and a value -/
inductive PairsAt (h : Heap) : List Value → List (Str × Value) → Prop
  | nil : PairsAt h [] []
  | cons {T : Addr} {k : Str} {t : Tok} {v : Value} {ys : List Value} {kvs : List (Str × Value)} : (∃ n, h.get? T = some { cls := .type "tuple", data := .seq #[.str k t, v] n }) → PairsAt h ys kvs → PairsAt h (.ref T :: ys) ((k, v) :: kvs)
theorem PairsAt.keep {h h' : Heap} {ys : List Value} {kvs : List (Str × Value)} (x : PairsAt h ys kvs) (k : ∀ b o, (∃ xs n, o = ({ cls := .type "tuple", data := .seq xs n } : Obj)) → h.get? b = some o → h'.get? b = some o) : PairsAt h' ys kvs := by
  induction x with
  | nil => exact .nil
  | cons h1 _ ih => obtain ⟨n, h1⟩ := h1; exact .cons ⟨n, k _ _ ⟨_, _, rfl⟩ h1⟩ ih
theorem PairsAt.length {h : Heap} {ys : List Value} {kvs : List (Str × Value)} (x : PairsAt h ys kvs) : ys.length = kvs.length := by
  induction x with
  | nil => rfl
  | cons _ _ ih => simp [ih]
theorem PairsAt.get {h : Heap} {ys : List Value} {kvs : List (Str × Value)} (x : PairsAt h ys kvs) {i : Nat} {y : Value} (e : ys[i]? = some y) : ∃ T k t v n, y = .ref T ∧ kvs[i]? = some (k, v) ∧ h.get? T = some { cls := .type "tuple", data := .seq #[.str k t, v] n } := by
  induction x generalizing i with
  | nil => cases e
  | cons h1 _ ih =>
    cases i with
    | zero => cases e; obtain ⟨n, h1⟩ := h1; exact ⟨_, _, _, _, n, rfl, rfl, h1⟩
    | succ i => exact ih (by simpa using e)
theorem entry_upd_loop : entryFor table "dict.update.loop" = some Builtin.«dict.update.loop» := entryFor_of_fast (by kernel_rfl)
theorem plain_upd_loop : plainId "dict.update.loop" = true := by decide +kernel
theorem take_succ_pair {kvs : List (Str × Value)} {i : Nat} {k : Str} {v : Value} (hn : (kvs.map (·.1)).Nodup) (e : kvs[i]? = some (k, v)) : stored (kvs.take i) k v = kvs.take (i + 1) := by
  have hlt := (List.getElem?_eq_some_iff.mp e).1
  have hnone : (kvs.take i).any (fun kv => decide (kv.1 = k)) = false := by
    rw [Bool.eq_false_iff]
    intro h
    obtain ⟨q, hq, hk⟩ := List.any_eq_true.mp h
    obtain ⟨j, hj, rfl⟩ := List.mem_iff_getElem.mp hq
    have hj2 : j < i := by simp at hj; omega
    have hj3 : j < kvs.length := by omega
    have e2 : (kvs[i]).1 = k := by rw [(List.getElem?_eq_some_iff.mp e).2]
    have hk' : (kvs[j]).1 = k := by simpa using hk
    have := (List.pairwise_iff_getElem.mp hn) j i (by simpa using hj3) (by simpa using hlt) hj2
    apply this
    simp [hk', e2]
  unfold stored
  rw [hnone]
  simp [List.take_add_one, e]
section
variable {prog : Program} {w : World} {A : Around}
theorem upd_loop {I d l : Addr} {ys : List Value} {kvs : List (Str × Value)} {R : Result → Shared → Prop} (hh : A.handled = none) (hIl : l ≠ I) (hdI : d ≠ I) (hdl : d ≠ l) (hn : (kvs.map (·.1)).Nodup) (hz : kvs.length ≤ 1000) :
    ∀ (r i : Nat) (s : Shared), ys.length - i = r → i ≤ ys.length → s.heap.IsListIter I l i → s.heap.IsList l ys.toArray → PairsAt s.heap ys kvs → s.heap.DictOf (strKind prog w) d (kvs.take i) →
      (∀ h' tk, h'.DictOf (strKind prog w) d kvs → (∀ b o, b ≠ I → b ≠ d → s.heap.get? b = some o → h'.get? b = some o) → R (.ok (.ret .none)) { s with heap := h', toks := tk }) →
      codeAny (model prog w) A (.builtin "dict.update.loop" ⟨[.ref d, .ref I, rawInt i, .none], []⟩) R s := by
  intro r
  induction r with
  | zero =>
    intro i s hr hi hI hl hP hD hR
    have e : i = ys.length := by omega
    have hlen := hP.length
    refine codeAny_builtin entry_upd_loop ?_
    rw [Around.under_plainId plain_upd_loop _]
    show wpAny _ A.in1 (pyNext (.ref I) >>= _) _ _ s
    refine wpAny_bind (wpAny_pyNext_list_end hh hI hl (by simp [e]) fun h' he => ?_)
    show wpAny _ A.in1 (Builtin.Dict.addKeywords d [] >>= _) _ _ _
    refine wpAny_bind (wpAny_pure (wpAny_pure ?_))
    refine hR h' _ ?_ fun b o hb _ hg => he b o hb hg
    have ht : kvs.take i = kvs := List.take_of_length_le (by omega)
    rw [ht] at hD
    exact hD.extBut he hdI
  | succ r ih =>
    intro i s hr hi hI hl hP hD hR
    have hlt : i < ys.length := by omega
    obtain ⟨T, k, t, v, n, hy, hk, hT⟩ := hP.get (i := i) (y := ys[i]) (by simp [hlt])
    refine codeAny_builtin entry_upd_loop ?_
    rw [Around.under_plainId plain_upd_loop _]
    show wpAny _ A.in1 (pyNext (.ref I) >>= _) _ _ s
    refine wpAny_bind (wpAny_pyNext_list_item hI hl (x := ys[i]) (by simp [hlt]) fun h' hI' hs' => ?_)
    rw [hy]
    have keepI : ∀ b o, b ≠ I → s.heap.get? b = some o → h'.get? b = some o := fun b o hb hg => hs'.extBut b o hb hg
    obtain ⟨oI, hoI, hcI, hdI2⟩ := id hI
    have hTI : T ≠ I := by
      rintro rfl
      rw [hT] at hoI
      cases hoI
      cases hdI2
    have hT' := keepI T _ hTI hT
    have hl' : h'.IsList l ys.toArray := hl.extBut hs'.extBut hIl
    have hD' := hD.extBut hs'.extBut hdI
    have hP' : PairsAt h' ys kvs := hP.keep fun b o ho hg => keepI b o (by
      rintro rfl
      obtain ⟨xs, n, rfl⟩ := ho
      rw [hg] at hoI
      cases hoI
      cases hdI2) hg
    dsimp only
    refine wpAny_bind (wpAny_holding (wpAny_bind (wpAny_tryCatch ?_)))
    unfold Builtin.Dict.pairItems
    refine wpAny_bind (wpAny_typeOf (T := "tuple") ⟨_, hT', rfl⟩ ?_)
    rw [if_pos (by decide)]
    refine wpAny_bind (wpAny_seqItems hT' rfl (wpAny_pure ?_))
    show wpAny _ A.in1 (holding [.str k t, v] (dictSet d (.str k t) v)) _ _ _
    have hlen2 : (kvs.take i).length ≤ sizeLine := Nat.le_trans (by simp; omega : (kvs.take i).length ≤ 1000) (by decide)
    refine wpAny_holding (wpAny_dictSet_pairs (hsz := hlen2) (strKind_is prog w k t) hD' fun h₂ hD₂ hs₂ => ?_)
    rw [take_succ_pair hn hk] at hD₂
    have hTd : ∀ b o, (∃ xs n, o = ({ cls := .type "tuple", data := .seq xs n } : Obj)) → h'.get? b = some o → b ≠ d := by
      rintro b o ⟨xs, n, rfl⟩ hg rfl
      obtain ⟨o', ho', hx'⟩ := Heap.dictOf_iff.mp hD'
      rw [hg] at ho'
      cases ho'
      obtain ⟨_, _, _, q, _⟩ := hx'
      cases q
    refine wpAny_pure ⟨plainId_quiet plain_upd_loop _, ih (i + 1) _ (by omega) hlt (hI'.at fun o e => ?_) (hl'.at fun o e => ?_) (hP'.keep fun b o ho hg => hs₂.extBut b o (hTd b o ho hg) hg) hD₂ fun h₃ tk hD₃ hk₃ => ?_⟩
    · exact hs₂.extBut _ _ (Ne.symm hdI) e
    · exact hs₂.extBut _ _ (Ne.symm hdl) e
    · exact hR h₃ tk hD₃ fun b o hb hb2 hg => hk₃ b o hb hb2 (hs₂.extBut b o hb2 (keepI b o hb hg))
end
end Mine
end PartD2
section PartD3
open PySem PySem.W PyProof.Rows PySem.Calls PySem.Spec
set_option maxHeartbeats 1000000
namespace Mine
section
variable {prog : Program} {w : World} {A : Around} {E : Value → Shared → Prop} {s : Shared} {h₀ : Heap} {L : Addr} {m : Str → Option Value} {news : List (Addr × Obj)}
theorem dict_call {l : Addr} {ys : List Value} {n : Nat} {kvs : List (Str × Value)} {Q : Value → Shared → Prop} (ho : s.heap.get? l = some (lst ys n)) (hP : PairsAt s.heap ys kvs) (hn : (kvs.map (·.1)).Nodup) (hz : kvs.length ≤ 1000) (hA : A.handled = none)
    (h : ∀ h' tk, h'.DictOf (strKind prog w) s.heap.objs.size kvs → (∀ b o, s.heap.get? b = some o → h'.get? b = some o) → Q (.ref s.heap.objs.size) { s with heap := h', toks := tk }) :
    wpAny (model prog w) A (call (.type "dict") [.ref l]) Q E s := by
  refine callType_codes (Q₁ := fun obj s₁ => obj = .ref s.heap.objs.size ∧ s₁ = { s with heap := s.heap.push { cls := .type "dict", data := .dict #[] } }) PySem.F.kt_called_dict (PySem.F.kt_typeCall_dict_1 _) PySem.F.entry_dict_init (kt_code_dict_new _ ⟨rfl, rfl⟩) ?_
  rintro obj s₁ ⟨rfl, rfl⟩
  have hnew : (s.heap.push { cls := .type "dict", data := .dict #[] }).DictOf (strKind prog w) s.heap.objs.size [] := Heap.DictOf.new s.heap
  have hl1 : (s.heap.push { cls := .type "dict", data := .dict #[] }).get? l = some (lst ys n) := Heap.get?_push_of_some _ ho
  have hll : l < s.heap.objs.size := Heap.lt_size ho
  refine ⟨hnew.typeIs, PySem.F.args_dict_init_2 _ _, ?_⟩
  unfold Builtin.«dict.__init__»
  refine wpAny_bind ?_
  unfold Builtin.Dict.selfAndRest
  refine wpAny_bind (wpAny_notOrdered_dict hnew.typeIs ?_)
  show wpAny _ _ (pure (s.heap.objs.size, [Value.ref l])) _ _ _
  refine wpAny_pure ?_
  show wpAny _ _ (Builtin.Dict.updateFrom "dict.__init__" s.heap.objs.size (.ref l) [] .none) _ _ _
  unfold Builtin.Dict.updateFrom
  refine wpAny_bind (wpAny_typeOf (T := "list") ⟨_, hl1, rfl⟩ ?_)
  rw [if_pos (by decide)]
  refine wpAny_bind (list_no_keys hl1 rfl rfl rfl hA fun h₂ tk₂ hk₂ => ?_)
  rw [if_pos (show (none : Option Value).isNone = true from rfl)]
  refine wpAny_bind (wpAny_rule ?_)
  have hl2 : h₂.IsList l ys.toArray := ⟨_, hk₂ _ _ hl1, rfl, _, rfl⟩
  refine wpAny_bind (wpAny_pyIter_list hl2 ?_)
  have hlt2 : s.heap.objs.size < h₂.objs.size := by
    obtain ⟨o', ho', _⟩ := Heap.dictOf_iff.mp hnew
    exact Heap.lt_size (hk₂ _ _ ho')
  have up : ∀ b o, s.heap.get? b = some o → (h₂.push { cls := .type "list_iterator", data := .fields #[.ref l, .int 0 0] }).get? b = some o := fun b o e => Heap.get?_push_of_some _ (hk₂ b o (Heap.get?_push_of_some _ e))
  have hD2 : (h₂.push { cls := .type "list_iterator", data := .fields #[.ref l, .int 0 0] }).DictOf (strKind prog w) s.heap.objs.size [] := (hnew.keep hk₂).push _
  refine wpAny_pure ⟨plainId_quiet plain_upd_loop _, ?_⟩
  refine upd_loop (A := A.in1) (I := h₂.objs.size) (d := s.heap.objs.size) (l := l) (ys := ys) (kvs := kvs) hA (Nat.ne_of_lt (Nat.lt_trans hll hlt2)) (Nat.ne_of_lt hlt2) (Nat.ne_of_gt hll) hn hz _ 0 _ rfl (Nat.zero_le _)
    ⟨_, Heap.get?_push_size _ rfl, rfl, rfl⟩ ⟨_, up _ _ ho, rfl, _, rfl⟩ (hP.keep fun b o _ e => up b o e) hD2 fun h' tk hD hk => ⟨rfl, h h' tk hD fun b o e => hk b o (Nat.ne_of_lt (Nat.lt_trans (Heap.lt_size e) hlt2)) (Nat.ne_of_lt (Heap.lt_size e)) (up b o e)⟩
theorem dict_pairs {l : Addr} {ys : List Value} {n : Nat} {kvs : List (Str × Value)} {Q : Value → Shared → Prop} (F : Fr h₀ L s.heap m) (N : News h₀ L s.heap news) (hbig : h₀.NoLimit) (hm : (l, lst ys n) ∈ news) (hP : PairsAt s.heap ys kvs) (hn : (kvs.map (·.1)).Nodup) (hz : kvs.length ≤ 1000) (hA : A.handled = none)
    (h : ∀ d h' o tk, Fr h₀ L h' m → News h₀ L h' ((d, o) :: news) → (∀ p ∈ news, p.1 < d) → (d == sysModules) = false → o.IsDictOf (strKind prog w) kvs → Q (.ref d) { s with heap := h', toks := tk }) :
    wpAny (model prog w) A (call (.type "dict") [.ref l]) Q E s :=
  dict_call (N _ hm).1 hP hn hz hA fun h' tk hD hk => by
    obtain ⟨o, ho, hd⟩ := Heap.dictOf_iff.mp hD
    exact h _ h' o tk (F.keeps hk) (news_pushed F N hk ho rfl) (fun p hp => Heap.lt_size (N p hp).1) (F.notModules (modules_low hbig)) hd
end
end Mine
end PartD3
section PartD4
open PySem PySem.W PyProof.Rows PySem.Calls PySem.Spec PyProof.Rows.LCg
set_option maxHeartbeats 1000000
namespace Mine
section
variable {prog : Program} {w : World} {A : Around} {E : Value → Shared → Prop} {s : Shared} {h₀ : Heap} {L : Addr} {m : Str → Option Value} {env : Env}
theorem CompEnd.mono' {I C D : Addr} {oI oC oD : Obj} {S : List (Addr × Obj) → Prop} {r r' : Value → List (Addr × Obj) → Prop} {y : Value} {s₁ s₂ : Shared} (h : ∀ y news, r y news → r' y news) (x : CompEnd h₀ L m s₁ I oI C oC D oD S r y s₂) : CompEnd h₀ L m s₁ I oI C oC D oD S r' y s₂ :=
  let ⟨h', tk, news', e, F, N, o, hS, hr⟩ := x; ⟨h', tk, news', e, F, N, o, hS, h _ _ hr⟩
/-- a comprehension over pairs, by what holds of the rest -/
theorem kct_ind {c elt : PySem.Expr} {a b : Str} {scope : Scope} {cl : List (Str × Addr)} {S : List (Addr × Obj) → Prop} {Fin : List Value → List (Addr × Obj) → Prop}
    (J : List ((Tok → Value) × Value) → List Value → List (Addr × Obj) → Prop)
    (nil : ∀ ys news, J [] ys news → Fin ys news)
    (cons : ∀ p r ys news, J (p :: r) ys news → ∀ (t : Tok) I oI C oC D m₂ h tk (E' : Value → Shared → Prop), NsObj oC m₂ → m₂ a = some (p.1 t) → m₂ b = some p.2 → Fr h₀ L h m → News h₀ L h ((I, oI) :: (C, oC) :: (D, LCg.lst ys) :: news) → Off3 I C D news → ((@Ne Nat I C) ∧ (@Ne Nat I D) ∧ (@Ne Nat C D)) →
      wpAny (model prog w) A (isTrue c (compEnvC scope cl C env) (eval c (compEnvC scope cl C env))) (fun okb s₃ => if okb = true then
        wpAny (model prog w) A (eval elt (compEnvC scope cl C env)) (CompEnd h₀ L m { s with heap := h, toks := tk } I oI C oC D (LCg.lst ys) S (fun y news' => J r (ys ++ [y]) news')) E' s₃
        else CompEnd h₀ L m { s with heap := h, toks := tk } I oI C oC D (LCg.lst ys) S (fun _ news' => J r ys news') .none s₃) E' { s with heap := h, toks := tk }) :
    ∀ xs ys news, J xs ys news → KctRest prog w A h₀ L m env c elt a b scope cl s S Fin xs ys news
  | [], ys, news, h => KctRest.nil (nil ys news h)
  | p :: r, ys, news, h => KctRest.cons fun t I oI C oC D m₂ h' tk E' a1 a2 a3 a4 a5 a6 a7 =>
    wpAny_mono (cons p r ys news h t I oI C oC D m₂ h' tk E' a1 a2 a3 a4 a5 a6 a7) (fun okb s₃ h₃ => by
      cases okb with
      | true =>
        simp only [if_true] at h₃ ⊢
        exact wpAny_mono h₃ (fun y s₄ h₄ => CompEnd.mono' (fun y news' hj => kct_ind J nil cons r _ _ hj) h₄) fun _ _ e => e
      | false =>
        simp only [Bool.false_eq_true, if_false] at h₃ ⊢
        exact CompEnd.mono' (fun y news' hj => kct_ind J nil cons r _ _ hj) h₃) fun _ _ e => e
end
/-- the tuples of a list stand in a ledger -/
inductive PairsIn (news : List (Addr × Obj)) : List Value → List (Str × Value) → Prop
  | nil : PairsIn news [] []
  | cons {T : Addr} {k : Str} {t : Tok} {v : Value} {n : Nat} {ys : List Value} {kvs : List (Str × Value)} : (T, ({ cls := .type "tuple", data := .seq #[.str k t, v] n } : Obj)) ∈ news → PairsIn news ys kvs → PairsIn news (.ref T :: ys) ((k, v) :: kvs)
theorem PairsIn.mono {news news' : List (Addr × Obj)} {ys : List Value} {kvs : List (Str × Value)} (x : PairsIn news ys kvs) (h : ∀ q ∈ news, q ∈ news') : PairsIn news' ys kvs := by
  induction x with
  | nil => exact .nil
  | cons h1 _ ih => exact .cons (h _ h1) ih
theorem PairsIn.snoc {news : List (Addr × Obj)} {T : Addr} {k : Str} {t : Tok} {v : Value} {n : Nat} {ys : List Value} {kvs : List (Str × Value)} (x : PairsIn news ys kvs) (h : (T, ({ cls := .type "tuple", data := .seq #[.str k t, v] n } : Obj)) ∈ news) : PairsIn news (ys ++ [.ref T]) (kvs ++ [(k, v)]) := by
  induction x with
  | nil => exact .cons h .nil
  | cons h1 _ ih => exact .cons h1 ih
theorem PairsIn.at {h₀ h : Heap} {L : Addr} {news : List (Addr × Obj)} {ys : List Value} {kvs : List (Str × Value)} (x : PairsIn news ys kvs) (N : News h₀ L h news) : PairsAt h ys kvs := by
  induction x with
  | nil => exact .nil
  | cons h1 _ ih => exact .cons ⟨_, (N _ h1).1⟩ ih
end Mine
end PartD4
section PartD5
open PySem PySem.W PyProof.Rows PySem.Calls PySem.Spec PyProof.Rows.LCg
set_option maxHeartbeats 1000000
namespace Mine
theorem without_snoc {done : List (Str × Value)} {k nm : Str} {v : Value} : without (done ++ [(k, v)]) nm = if k = nm then without done nm else without done nm ++ [(k, v)] := by
  unfold without
  rw [List.filter_append]
  by_cases h : k = nm <;> simp [h]
section
variable {prog : Program} {w : World} {A : Around} {E : Value → Shared → Prop} {s : Shared} {h₀ : Heap} {L : Addr} {m : Str → Option Value} {env : Env}
/-- [(a, b) for a, b in d.items() if a != x] -/
theorem kct_filter {p1 p2 p3 p4 p5 p6 : Pos} {kk : Nat} {a b x : Str} {scope : Scope} {cl : List (Str × Addr)} {d : Addr} {od : Obj} {Fin : List Value → List (Addr × Obj) → Prop} {kvs : List (Str × Value)} {base : List (Addr × Obj)} {cell : Addr} {oc : Obj} {nm : Str} {tkn : Tok}
    (hka : ∀ C, (compEnvC scope cl C env).kindOf a = some .local) (hkb : ∀ C, (compEnvC scope cl C env).kindOf b = some .local) (hkx : ∀ C, (compEnvC scope cl C env).kindOf x = some .cell) (hkk : ∀ C, (compEnvC scope cl C env).scope.kind = .function)
    (da : (a == ("__debug__" : Str)) = false) (db : (b == ("__debug__" : Str)) = false) (dx : (x == ("__debug__" : Str)) = false)
    (hc : cl.lookup x = some cell) (hcell : (cell, oc) ∈ base) (hoc : oc.data = .cell (some (.str nm tkn))) (hd : (d, od) ∈ base)
    (fin : ∀ ys news', PairsIn news' ys (without kvs nm) → (∀ q ∈ base, q ∈ news') → Fin ys news') :
    KctRest prog w A h₀ L m env (.Compare (.Name a p1) [.NotEq] [.Name x p2] p3) (.Tuple [.Name a p4, .Name b p5] kk p6) a b scope cl s (KcpAt d od) Fin (kvs.map (fun p => (kyVal (PyData.str p.1), p.2))) [] base := by
  refine kct_ind (fun xs ys news' => ∃ done r : List (Str × Value), xs = r.map (fun p => (kyVal (PyData.str p.1), p.2)) ∧ kvs = done ++ r ∧ PairsIn news' ys (without done nm) ∧ (∀ q ∈ base, q ∈ news')) ?_ ?_ _ _ _ ⟨[], kvs, rfl, rfl, .nil, fun _ h => h⟩
  · rintro ys news' ⟨done, r, hx, hkv, hP, hb⟩
    cases r with
    | cons q r => cases hx
    | nil => rw [List.append_nil] at hkv; subst hkv; exact fin ys news' hP hb
  · rintro p0 r0 ys9 n9 ⟨done, r, hx, hkv, hP, hb⟩ t9 I oI C oC D m9 h9 tk9 E9 hC ha9 hb9 F9 N9 off9 ne9
    cases r with
    | nil => cases hx
    | cons q r =>
      obtain ⟨k9, v9⟩ := q
      cases hx
      have hcell9 := hb _ hcell
      have ha' : m9 a = some (.str k9 t9) := ha9
      have hb' : m9 b = some v9 := hb9
      have hNs : h9.Ns C m9 := hC.ns (N9 _ (.tail _ (.head _))).1
      have hkv' : kvs = (done ++ [(k9, v9)]) ++ r := by rw [hkv]; simp
      refine wpAny_isTrue_Compare1 ?_
      refine wpAny_Name (wpAny_loadName_local (hkk C) (hka C) hNs ha' ?_) da
      refine lcf_cell N9 hc (.tail _ (.tail _ (.tail _ hcell9))) hoc ?_ (hkk C) (hkx C) dx
      refine PyProof.Rows.ne_str (x := k9) (y := nm) ?_
      refine wpAny_truthy_bool ?_
      by_cases hkn : k9 = nm
      · rw [if_neg (by simp [hkn])]
        refine CompEnd.intro F9 N9 n9 (fun _ h => h) off9 (.inr ⟨od, hb _ hd, rfl, 0, rfl⟩) ⟨done ++ [(k9, v9)], r, rfl, hkv', ?_, hb⟩
        rw [without_snoc, if_pos hkn]; exact hP
      · rw [if_pos (by simp [hkn])]
        refine Tuple_ (spliced_more ?_)
        refine wpAny_Name (wpAny_loadName_local (hkk C) (hka C) hNs ha' ?_) da
        refine spliced_more ?_
        refine wpAny_Name (wpAny_loadName_local (hkk C) (hkb C) hNs hb' ?_) db
        refine spliced_none ?_
        have hsz : ∀ p ∈ ((I, oI) :: (C, oC) :: (D, LCg.lst ys9) :: n9), p.1 < h9.objs.size := fun p hp => Heap.lt_size (N9 p hp).1
        refine newTuple_N F9 N9 (fun h' F' N' => ?_) (show 2 ≤ sizeLine by decide)
        refine CompEnd.intro F' N' ((h9.objs.size, ({ cls := .type "tuple", data := .seq [Value.str k9 t9, v9].toArray } : Obj)) :: n9) (fun q hq => ?_) ⟨⟨?_, ?_, ?_⟩, off9⟩ (.inr ⟨od, .tail _ (hb _ hd), rfl, 0, rfl⟩) ⟨done ++ [(k9, v9)], r, rfl, hkv', ?_, fun q hq => .tail _ (hb q hq)⟩
        · rcases List.mem_cons.mp hq with rfl | hq
          · exact .tail _ (.head _)
          rcases List.mem_cons.mp hq with rfl | hq
          · exact .tail _ (.tail _ (.head _))
          rcases List.mem_cons.mp hq with rfl | hq
          · exact .tail _ (.tail _ (.tail _ (.head _)))
          rcases List.mem_cons.mp hq with rfl | hq
          · exact .head _
          · exact .tail _ (.tail _ (.tail _ (.tail _ hq)))
        · exact Nat.ne_of_gt (hsz _ (.head _))
        · exact Nat.ne_of_gt (hsz _ (.tail _ (.head _)))
        · exact Nat.ne_of_gt (hsz _ (.tail _ (.tail _ (.head _))))
        · rw [without_snoc, if_neg hkn]
          exact (hP.mono fun q hq => .tail _ hq).snoc (.head _)
end
end Mine
end PartD5
section PartC1
open PySem PySem.W PyProof.Rows PySem.Calls PySem.Spec
set_option maxHeartbeats 4000000
namespace Mine
noncomputable def Low (ns : List Int) : Prop := ns.length ≤ 16 ∧ ∀ i ∈ ns, 0 ≤ i ∧ i < 10 ^ 16
section
variable {prog : Program} {w : World} {p : Program} {loose : List Str} {mean : ExcName → Option Value} {mg mb : Str → Option Value}
 {dp un : Nat} {gd : Option (List Code)} {cn : Str} {cs : Scope} {a : Addr} {ccd : Value} {cl : List (Str × Addr)} {outer : List Env} {A₀ : Around} {base h₀ : Heap} {L : Addr} {m : Str → Option Value} {news : List (Addr × Obj)} {s : Shared} {Q E : Value → Shared → Prop}

theorem Mine.regC11 : True := by
  k_with "exec While BoolOp" => (guard_hyp fl9 : Mine.Fl 9; ((rename Fr _ _ _ _ => F9; rename News _ _ _ _ => N9; refine While_led (fun n l => ∃ vs' ns' n', vs'.length = n ∧ IntsAre vs' ns' ∧ Low ns' ∧ l = (_, lst vs' n') :: _) F9 N9 ⟨_, _, _, rfl, by assumption, by assumption, rfl⟩ ?_; clear F9 N9; rintro n9 l9 h9 tk9 F9 N9 ⟨vs9, ns9, e9, hl9, hv9, hw9, hh9⟩; subst hh9; cases hv9)))
  k_with "compareOp NotEq ref ref" => (guard_hyp fl9 : Mine.Fl 9; ((k_here; (with_unfolding_all refine' ne_intsK (by is_list) (by l_intsC) (by is_list) (by l_intsC) (by units_room) ?_; k_whole); (simp only [reduceCtorEq, decide_false, decide_true, Bool.not_false, Bool.not_true]))))
  k_with "compareOp Eq ref ref" => (guard_hyp fl9 : Mine.Fl 9; ((k_here; (with_unfolding_all refine' eq_intsK (by is_list) (by l_intsC) (by is_list) (by l_intsC) (by units_room) ?_; k_whole); (simp only [reduceCtorEq, decide_false, decide_true, Bool.not_false, Bool.not_true]))))
  exact trivial
end
namespace Ep_draw_ok
noncomputable abbrev D : Type := (Program) × (World) × (Program) × (List Str) × (ExcName → Option Value) × (Str → Option Value) × (Str → Option Value) × (Nat) × (Nat) × (Option (List Code)) × (Str) × (Scope) × (Addr) × (Value) × (List (Str × Addr)) × (List Env) × (Around) × (Heap) × (Heap) × (Addr) × (Str → Option Value) × (List (Addr × Obj)) × (Shared) × (Value → Shared → Prop) × (Value → Shared → Prop) × (Addr) × (List Value) × (List Int) × (Nat) × (Int) × (Tok)
noncomputable def S (d : D) : Prop := (fun (prog : Program) (w : World) (p : Program) (loose : List Str) (mean : ExcName → Option Value) (mg : Str → Option Value) (mb : Str → Option Value) (dp : Nat) (un : Nat) (gd : Option (List Code)) (cn : Str) (cs : Scope) (a : Addr) (ccd : Value) (cl : List (Str × Addr)) (outer : List Env) (A₀ : Around) (base : Heap) (h₀ : Heap) (L : Addr) (m : Str → Option Value) (news : List (Addr × Obj)) (s : Shared) (Q : Value → Shared → Prop) (E : Value → Shared → Prop) (d : Addr) (vs : List Value) (ns : List Int) (n : Nat) (many : Int) (tk : Tok) => ∀ (B : Below A₀ base outer h₀) (F : Fr h₀ L s.heap m) (X : (Mine.K w.params).In h₀) (N : News h₀ L s.heap ((d, lst vs n) :: news)) (T : Top p loose mean mg mb h₀) (hk : cs.kind = .function) (hdp : dp ≤ 500) (hun : un ≤ 600) (hap : ∀ p ∈ news, p.1 ≠ d) (hv : IntsAre vs ns) (hn : Low ns) (hm : 0 < many) (hm2 : many < 2 ^ 20) (ret : ∀ r tk vs' ns' n' h' tk', Fr h₀ L h' m → News h₀ L h' ((d, lst vs' n') :: news) → IntsAre vs' ns' → Low ns' → 0 ≤ r → r < many → Q (.int r tk) { s with heap := h', toks := tk' }), wpAny (model prog w) (ktrTop dp un gd cn cs L a ccd cl outer) (call (.ref 288) [.ref d, .int many tk]) Q E s) d.1 d.2.1 d.2.2.1 d.2.2.2.1 d.2.2.2.2.1 d.2.2.2.2.2.1 d.2.2.2.2.2.2.1 d.2.2.2.2.2.2.2.1 d.2.2.2.2.2.2.2.2.1 d.2.2.2.2.2.2.2.2.2.1 d.2.2.2.2.2.2.2.2.2.2.1 d.2.2.2.2.2.2.2.2.2.2.2.1 d.2.2.2.2.2.2.2.2.2.2.2.2.1 d.2.2.2.2.2.2.2.2.2.2.2.2.2.1 d.2.2.2.2.2.2.2.2.2.2.2.2.2.2.1 d.2.2.2.2.2.2.2.2.2.2.2.2.2.2.2.1 d.2.2.2.2.2.2.2.2.2.2.2.2.2.2.2.2.1 d.2.2.2.2.2.2.2.2.2.2.2.2.2.2.2.2.2.1 d.2.2.2.2.2.2.2.2.2.2.2.2.2.2.2.2.2.2.1 d.2.2.2.2.2.2.2.2.2.2.2.2.2.2.2.2.2.2.2.1 d.2.2.2.2.2.2.2.2.2.2.2.2.2.2.2.2.2.2.2.2.1 d.2.2.2.2.2.2.2.2.2.2.2.2.2.2.2.2.2.2.2.2.2.1 d.2.2.2.2.2.2.2.2.2.2.2.2.2.2.2.2.2.2.2.2.2.2.1 d.2.2.2.2.2.2.2.2.2.2.2.2.2.2.2.2.2.2.2.2.2.2.2.1 d.2.2.2.2.2.2.2.2.2.2.2.2.2.2.2.2.2.2.2.2.2.2.2.2.1 d.2.2.2.2.2.2.2.2.2.2.2.2.2.2.2.2.2.2.2.2.2.2.2.2.2.1 d.2.2.2.2.2.2.2.2.2.2.2.2.2.2.2.2.2.2.2.2.2.2.2.2.2.2.1 d.2.2.2.2.2.2.2.2.2.2.2.2.2.2.2.2.2.2.2.2.2.2.2.2.2.2.2.1 d.2.2.2.2.2.2.2.2.2.2.2.2.2.2.2.2.2.2.2.2.2.2.2.2.2.2.2.2.1 d.2.2.2.2.2.2.2.2.2.2.2.2.2.2.2.2.2.2.2.2.2.2.2.2.2.2.2.2.2.1 d.2.2.2.2.2.2.2.2.2.2.2.2.2.2.2.2.2.2.2.2.2.2.2.2.2.2.2.2.2.2
theorem ne : Nonempty D := ⟨(default, Mine.w00, default, default, (fun _ => default), (fun _ => default), (fun _ => default), default, default, default, default, default, default, default, default, default, ({} : Around), default, default, default, (fun _ => default), default, ({} : Shared), (fun _ _ => True), (fun _ _ => True), default, default, default, default, default, default)⟩
noncomputable def X : D := @Classical.epsilon D ne fun d => ¬ S d
@[irreducible] noncomputable def prog : Program := X.1
@[irreducible] noncomputable def w : World := X.2.1
@[irreducible] noncomputable def p : Program := X.2.2.1
@[irreducible] noncomputable def loose : List Str := X.2.2.2.1
@[irreducible] noncomputable def mean : ExcName → Option Value := X.2.2.2.2.1
@[irreducible] noncomputable def mg : Str → Option Value := X.2.2.2.2.2.1
@[irreducible] noncomputable def mb : Str → Option Value := X.2.2.2.2.2.2.1
@[irreducible] noncomputable def dp : Nat := X.2.2.2.2.2.2.2.1
@[irreducible] noncomputable def un : Nat := X.2.2.2.2.2.2.2.2.1
@[irreducible] noncomputable def gd : Option (List Code) := X.2.2.2.2.2.2.2.2.2.1
@[irreducible] noncomputable def cn : Str := X.2.2.2.2.2.2.2.2.2.2.1
@[irreducible] noncomputable def cs : Scope := X.2.2.2.2.2.2.2.2.2.2.2.1
@[irreducible] noncomputable def a : Addr := X.2.2.2.2.2.2.2.2.2.2.2.2.1
@[irreducible] noncomputable def ccd : Value := X.2.2.2.2.2.2.2.2.2.2.2.2.2.1
@[irreducible] noncomputable def cl : List (Str × Addr) := X.2.2.2.2.2.2.2.2.2.2.2.2.2.2.1
@[irreducible] noncomputable def outer : List Env := X.2.2.2.2.2.2.2.2.2.2.2.2.2.2.2.1
@[irreducible] noncomputable def A₀ : Around := X.2.2.2.2.2.2.2.2.2.2.2.2.2.2.2.2.1
@[irreducible] noncomputable def base : Heap := X.2.2.2.2.2.2.2.2.2.2.2.2.2.2.2.2.2.1
@[irreducible] noncomputable def h₀ : Heap := X.2.2.2.2.2.2.2.2.2.2.2.2.2.2.2.2.2.2.1
@[irreducible] noncomputable def L : Addr := X.2.2.2.2.2.2.2.2.2.2.2.2.2.2.2.2.2.2.2.1
@[irreducible] noncomputable def m : Str → Option Value := X.2.2.2.2.2.2.2.2.2.2.2.2.2.2.2.2.2.2.2.2.1
@[irreducible] noncomputable def news : List (Addr × Obj) := X.2.2.2.2.2.2.2.2.2.2.2.2.2.2.2.2.2.2.2.2.2.1
@[irreducible] noncomputable def s : Shared := X.2.2.2.2.2.2.2.2.2.2.2.2.2.2.2.2.2.2.2.2.2.2.1
@[irreducible] noncomputable def Q : Value → Shared → Prop := X.2.2.2.2.2.2.2.2.2.2.2.2.2.2.2.2.2.2.2.2.2.2.2.1
@[irreducible] noncomputable def E : Value → Shared → Prop := X.2.2.2.2.2.2.2.2.2.2.2.2.2.2.2.2.2.2.2.2.2.2.2.2.1
@[irreducible] noncomputable def d : Addr := X.2.2.2.2.2.2.2.2.2.2.2.2.2.2.2.2.2.2.2.2.2.2.2.2.2.1
@[irreducible] noncomputable def vs : List Value := X.2.2.2.2.2.2.2.2.2.2.2.2.2.2.2.2.2.2.2.2.2.2.2.2.2.2.1
@[irreducible] noncomputable def ns : List Int := X.2.2.2.2.2.2.2.2.2.2.2.2.2.2.2.2.2.2.2.2.2.2.2.2.2.2.2.1
@[irreducible] noncomputable def n : Nat := X.2.2.2.2.2.2.2.2.2.2.2.2.2.2.2.2.2.2.2.2.2.2.2.2.2.2.2.2.1
@[irreducible] noncomputable def many : Int := X.2.2.2.2.2.2.2.2.2.2.2.2.2.2.2.2.2.2.2.2.2.2.2.2.2.2.2.2.2.1
@[irreducible] noncomputable def tk : Tok := X.2.2.2.2.2.2.2.2.2.2.2.2.2.2.2.2.2.2.2.2.2.2.2.2.2.2.2.2.2.2
theorem draw_ok (B : Below A₀ base outer h₀) (F : Fr h₀ L s.heap m) (X : (Mine.K w.params).In h₀) (N : News h₀ L s.heap ((d, lst vs n) :: news)) (T : Top p loose mean mg mb h₀) (hk : cs.kind = .function) (hdp : dp ≤ 500) (hun : un ≤ 600) (hap : ∀ p ∈ news, p.1 ≠ d) (hv : IntsAre vs ns) (hn : Low ns) (hm : 0 < many) (hm2 : many < 2 ^ 20) (ret : ∀ r tk vs' ns' n' h' tk', Fr h₀ L h' m → News h₀ L h' ((d, lst vs' n') :: news) → IntsAre vs' ns' → Low ns' → 0 ≤ r → r < many → Q (.int r tk) { s with heap := h', toks := tk' }):
   wpAny (model prog w) (ktrTop dp un gd cn cs L a ccd cl outer) (call (.ref 288) [.ref d, .int many tk]) Q E s := Mine.byKey fun kzq9 => Mine.Fam.of (by exact Mine.Fam.mk : Mine.Fam ((Mine.Key.unbox kzq9 (by simp only [Mine.Key.box kzq9 (by
  clear kzq9
  have fl9 : Mine.Fl 9 := Mine.Fl.mk
  refine wcall ?_
  k_dflt (k_extra "MY enter")
  clear F N
  k_steps
  · refine ret _ _ _ _ _ _ _ (by assumption) (News.tl (News.tl (by assumption))) .nil (by assumption) (by omega) (by omega)
  all_goals (rename IntsAre _ _ => t9; rename Low (_ :: _) => hw9; have hlen := IntsAre.length t9; have hlen2 := hw9.1; have hf := hw9.2 _ (.head _); have hr := fun i hi => hw9.2 i (.tail _ hi))
  · k_steps
    refine ⟨_, _, _, _, rfl, by assumption, News.tl (by assumption), ?_, _, _, _, rfl, t9, ⟨?_, hr⟩, rfl⟩
    · simp only [List.length_cons] at *; omega
    · simp only [List.length_cons] at *; omega
  · refine ret _ _ _ _ _ _ _ (by assumption) (News.tl (News.tl (by assumption))) (IntsAre.cons _ _ t9) ⟨by simp only [List.length_cons] at *; omega, fun i hi => ?_⟩ ?_ ?_
    · rcases List.mem_cons.mp hi with rfl | hi
      · rename Int => x9
        show 0 ≤ Int.fdiv _ _ ∧ Int.fdiv _ _ < _
        rw [Int.fdiv_eq_ediv_of_nonneg _ (Int.le_of_lt hm)]
        exact ⟨Int.ediv_nonneg hf.1 (Int.le_of_lt hm), Int.lt_of_le_of_lt (Int.ediv_le_self _ hf.1) hf.2⟩
      · exact hr i hi
    · exact Int.fmod_nonneg hf.1 (Int.le_of_lt hm)
    · exact Int.fmod_lt_of_pos _ hm)])) :))
theorem all : ∀ d, S d := Mine.eps ne (by with_unfolding_all exact @draw_ok)
end Ep_draw_ok
section
variable {prog : Program} {w : World} {p : Program} {loose : List Str} {mean : ExcName → Option Value} {mg mb : Str → Option Value}
 {dp un : Nat} {gd : Option (List Code)} {cn : Str} {cs : Scope} {a : Addr} {ccd : Value} {cl : List (Str × Addr)} {outer : List Env} {A₀ : Around} {base h₀ : Heap} {L : Addr} {m : Str → Option Value} {news : List (Addr × Obj)} {s : Shared} {Q E : Value → Shared → Prop}
theorem draw_ok {d : Addr} {vs : List Value} {ns : List Int} {n : Nat} {many : Int} {tk : Tok} (B : Below A₀ base outer h₀) (F : Fr h₀ L s.heap m) (X : (Mine.K w.params).In h₀) (N : News h₀ L s.heap ((d, lst vs n) :: news)) (T : Top p loose mean mg mb h₀) (hk : cs.kind = .function) (hdp : dp ≤ 500) (hun : un ≤ 600)
   (hap : ∀ p ∈ news, p.1 ≠ d) (hv : IntsAre vs ns) (hn : Low ns) (hm : 0 < many) (hm2 : many < 2 ^ 20)
   (ret : ∀ r tk vs' ns' n' h' tk', Fr h₀ L h' m → News h₀ L h' ((d, lst vs' n') :: news) → IntsAre vs' ns' → Low ns' → 0 ≤ r → r < many → Q (.int r tk) { s with heap := h', toks := tk' }) :
   wpAny (model prog w) (ktrTop dp un gd cn cs L a ccd cl outer) (call (.ref 288) [.ref d, .int many tk]) Q E s := Ep_draw_ok.all (prog, w, p, loose, mean, mg, mb, dp, un, gd, cn, cs, a, ccd, cl, outer, A₀, base, h₀, L, m, news, s, Q, E, d, vs, ns, n, many, tk) B F X N T hk hdp hun hap hv hn hm hm2 ret
/-- the same, the deck at any place of the ledger -/
theorem draw_at {d : Addr} {vs : List Value} {ns : List Int} {n : Nat} {many : Int} {tk : Tok} {g : Obj → List (Addr × Obj)} (B : Below A₀ base outer h₀) (F : Fr h₀ L s.heap m) (X : (Mine.K w.params).In h₀) (N : News h₀ L s.heap news) (T : Top p loose mean mg mb h₀) (hk : cs.kind = .function) (hdp : dp ≤ 500) (hun : un ≤ 600)
   (U : UpdF d (lst vs n) news g) (hv : IntsAre vs ns) (hn : Low ns) (hm : 0 < many) (hm2 : many < 2 ^ 20)
   (ret : ∀ r tk vs' ns' n' h' tk', Fr h₀ L h' m → News h₀ L h' (g (lst vs' n')) → IntsAre vs' ns' → Low ns' → 0 ≤ r → r < many → Q (.int r tk) { s with heap := h', toks := tk' }) :
   wpAny (model prog w) (ktrTop dp un gd cn cs L a ccd cl outer) (call (.ref 288) [.ref d, .int many tk]) Q E s := by
  obtain ⟨pre, post, rfl, hg, ha, hb⟩ := U.split
  refine draw_ok (n := n) (news := pre ++ post) B F X (fun q hq => N q ?_) T hk hdp hun (fun q hq => (List.mem_append.mp hq).elim (ha q) (hb q)) hv hn hm hm2 fun r tk vs' ns' n' h' tk' F' N' => ret r tk vs' ns' n' h' tk' F' fun q hq => N' q ?_
  · rcases List.mem_cons.mp hq with rfl | hq
    · exact List.mem_append.mpr (.inr (.head _))
    · exact (List.mem_append.mp hq).elim (fun z => List.mem_append.mpr (.inl z)) fun z => List.mem_append.mpr (.inr (.tail _ z))
  · rw [hg] at hq
    rcases List.mem_append.mp hq with hq | hq
    · exact .tail _ (List.mem_append.mpr (.inl hq))
    · rcases List.mem_cons.mp hq with rfl | hq
      · exact .head _
      · exact .tail _ (List.mem_append.mpr (.inr hq))
end
end Mine
end PartC1
section PartC2
open PySem PySem.W PyProof.Rows PySem.Calls PySem.Spec
set_option maxHeartbeats 4000000
namespace Mine
noncomputable abbrev tabO (P : Params) (rl nd : Addr) (t1 t2 : Tok) : Obj := dictOf [⟨PyData.keyHash P "rows", .str "rows" t1, .ref rl⟩, ⟨PyData.keyHash P "names", .str "names" t2, .ref nd⟩] 2
noncomputable abbrev symO (P : Params) (i : Int) (nm : Str) (t1 t2 t3 t4 : Tok) : Obj := dictOf [⟨PyData.keyHash P "number", .str "number" t1, .int i t2⟩, ⟨PyData.keyHash P "name", .str "name" t3, .str nm t4⟩] 2
section
variable {prog : Program} {w : World} {p : Program} {loose : List Str} {mean : ExcName → Option Value} {mg mb : Str → Option Value}
 {dp un : Nat} {gd : Option (List Code)} {cn : Str} {cs : Scope} {a : Addr} {ccd : Value} {cl : List (Str × Addr)} {outer : List Env} {A₀ : Around} {base h₀ : Heap} {L : Addr} {m : Str → Option Value} {news : List (Addr × Obj)} {s : Shared} {Q E : Value → Shared → Prop}
variable {tab tabD nd rl : Addr} {t1 t2 tk : Tok} {no : Obj} {vs : List Value} {n : Nat} {kvs : List (Str × Value)} {nm : Str}

end
namespace Ep_intern_new
noncomputable abbrev D : Type := (Program) × (World) × (Program) × (List Str) × (ExcName → Option Value) × (Str → Option Value) × (Str → Option Value) × (Nat) × (Nat) × (Option (List Code)) × (Str) × (Scope) × (Addr) × (Value) × (List (Str × Addr)) × (List Env) × (Around) × (Heap) × (Heap) × (Addr) × (Str → Option Value) × (List (Addr × Obj)) × (Shared) × (Value → Shared → Prop) × (Value → Shared → Prop) × (Addr) × (Addr) × (Addr) × (Addr) × (Tok) × (Tok) × (Tok) × (Obj) × (List Value) × (Nat) × (List (Str × Value)) × (Str)
noncomputable def S (d : D) : Prop := (fun (prog : Program) (w : World) (p : Program) (loose : List Str) (mean : ExcName → Option Value) (mg : Str → Option Value) (mb : Str → Option Value) (dp : Nat) (un : Nat) (gd : Option (List Code)) (cn : Str) (cs : Scope) (a : Addr) (ccd : Value) (cl : List (Str × Addr)) (outer : List Env) (A₀ : Around) (base : Heap) (h₀ : Heap) (L : Addr) (m : Str → Option Value) (news : List (Addr × Obj)) (s : Shared) (Q : Value → Shared → Prop) (E : Value → Shared → Prop) (tab : Addr) (tabD : Addr) (nd : Addr) (rl : Addr) (t1 : Tok) (t2 : Tok) (tk : Tok) (no : Obj) (vs : List Value) (n : Nat) (kvs : List (Str × Value)) (nm : Str) => ∀ (B : Below A₀ base outer h₀) (F : Fr h₀ L s.heap m) (X : (Mine.K w.params).In h₀) (N : News h₀ L s.heap ((tab, instObj 272 tabD) :: (tabD, tabO w.params rl nd t1 t2) :: (nd, no) :: (rl, lst vs n) :: news)) (T : Top p loose mean mg mb h₀) (hk : cs.kind = .function) (hdp : dp ≤ 500) (hun : un ≤ 600) (lo : (nd == sysModules) = false) (hd : no.IsDictOf (strKind prog w) kvs) (hz : kvs.length ≤ 1000) (hz2 : vs.length ≤ 1000) (a1 : Apt tab nd) (a2 : Apt tab rl) (a3 : Apt tabD nd) (a4 : Apt tabD rl) (a5 : Apt nd rl) (ap1 : ∀ p ∈ news, p.1 ≠ nd) (ap2 : ∀ p ∈ news, p.1 ≠ rl) (hv : valueAt kvs nm = none) (ret : ∀ x dx u1 u2 u3 u4 o' h' tk', (tab < dx ∧ tabD < dx ∧ nd < dx ∧ rl < dx ∧ AllLt dx news) → dx < x → Fr h₀ L h' m → News h₀ L h' ((x, instObj 72 dx) :: (dx, symO w.params vs.length nm u1 u2 u3 u4) :: (tab, instObj 272 tabD) :: (tabD, tabO w.params rl nd t1 t2) :: (nd, o') :: (rl, lst (vs ++ [.ref x]) (n + 1)) :: news) →
     o'.IsDictOf (strKind prog w) (stored kvs nm (.ref x)) → Q (.ref x) { s with heap := h', toks := tk' }), wpAny (model prog w) (ktrTop dp un gd cn cs L a ccd cl outer) (call (.ref 222) [.ref tab, .str nm tk]) Q E s) d.1 d.2.1 d.2.2.1 d.2.2.2.1 d.2.2.2.2.1 d.2.2.2.2.2.1 d.2.2.2.2.2.2.1 d.2.2.2.2.2.2.2.1 d.2.2.2.2.2.2.2.2.1 d.2.2.2.2.2.2.2.2.2.1 d.2.2.2.2.2.2.2.2.2.2.1 d.2.2.2.2.2.2.2.2.2.2.2.1 d.2.2.2.2.2.2.2.2.2.2.2.2.1 d.2.2.2.2.2.2.2.2.2.2.2.2.2.1 d.2.2.2.2.2.2.2.2.2.2.2.2.2.2.1 d.2.2.2.2.2.2.2.2.2.2.2.2.2.2.2.1 d.2.2.2.2.2.2.2.2.2.2.2.2.2.2.2.2.1 d.2.2.2.2.2.2.2.2.2.2.2.2.2.2.2.2.2.1 d.2.2.2.2.2.2.2.2.2.2.2.2.2.2.2.2.2.2.1 d.2.2.2.2.2.2.2.2.2.2.2.2.2.2.2.2.2.2.2.1 d.2.2.2.2.2.2.2.2.2.2.2.2.2.2.2.2.2.2.2.2.1 d.2.2.2.2.2.2.2.2.2.2.2.2.2.2.2.2.2.2.2.2.2.1 d.2.2.2.2.2.2.2.2.2.2.2.2.2.2.2.2.2.2.2.2.2.2.1 d.2.2.2.2.2.2.2.2.2.2.2.2.2.2.2.2.2.2.2.2.2.2.2.1 d.2.2.2.2.2.2.2.2.2.2.2.2.2.2.2.2.2.2.2.2.2.2.2.2.1 d.2.2.2.2.2.2.2.2.2.2.2.2.2.2.2.2.2.2.2.2.2.2.2.2.2.1 d.2.2.2.2.2.2.2.2.2.2.2.2.2.2.2.2.2.2.2.2.2.2.2.2.2.2.1 d.2.2.2.2.2.2.2.2.2.2.2.2.2.2.2.2.2.2.2.2.2.2.2.2.2.2.2.1 d.2.2.2.2.2.2.2.2.2.2.2.2.2.2.2.2.2.2.2.2.2.2.2.2.2.2.2.2.1 d.2.2.2.2.2.2.2.2.2.2.2.2.2.2.2.2.2.2.2.2.2.2.2.2.2.2.2.2.2.1 d.2.2.2.2.2.2.2.2.2.2.2.2.2.2.2.2.2.2.2.2.2.2.2.2.2.2.2.2.2.2.1 d.2.2.2.2.2.2.2.2.2.2.2.2.2.2.2.2.2.2.2.2.2.2.2.2.2.2.2.2.2.2.2.1 d.2.2.2.2.2.2.2.2.2.2.2.2.2.2.2.2.2.2.2.2.2.2.2.2.2.2.2.2.2.2.2.2.1 d.2.2.2.2.2.2.2.2.2.2.2.2.2.2.2.2.2.2.2.2.2.2.2.2.2.2.2.2.2.2.2.2.2.1 d.2.2.2.2.2.2.2.2.2.2.2.2.2.2.2.2.2.2.2.2.2.2.2.2.2.2.2.2.2.2.2.2.2.2.1 d.2.2.2.2.2.2.2.2.2.2.2.2.2.2.2.2.2.2.2.2.2.2.2.2.2.2.2.2.2.2.2.2.2.2.2.1 d.2.2.2.2.2.2.2.2.2.2.2.2.2.2.2.2.2.2.2.2.2.2.2.2.2.2.2.2.2.2.2.2.2.2.2.2
theorem ne : Nonempty D := ⟨(default, Mine.w00, default, default, (fun _ => default), (fun _ => default), (fun _ => default), default, default, default, default, default, default, default, default, default, ({} : Around), default, default, default, (fun _ => default), default, ({} : Shared), (fun _ _ => True), (fun _ _ => True), default, default, default, default, default, default, default, default, default, default, default, default)⟩
noncomputable def X : D := @Classical.epsilon D ne fun d => ¬ S d
@[irreducible] noncomputable def prog : Program := X.1
@[irreducible] noncomputable def w : World := X.2.1
@[irreducible] noncomputable def p : Program := X.2.2.1
@[irreducible] noncomputable def loose : List Str := X.2.2.2.1
@[irreducible] noncomputable def mean : ExcName → Option Value := X.2.2.2.2.1
@[irreducible] noncomputable def mg : Str → Option Value := X.2.2.2.2.2.1
@[irreducible] noncomputable def mb : Str → Option Value := X.2.2.2.2.2.2.1
@[irreducible] noncomputable def dp : Nat := X.2.2.2.2.2.2.2.1
@[irreducible] noncomputable def un : Nat := X.2.2.2.2.2.2.2.2.1
@[irreducible] noncomputable def gd : Option (List Code) := X.2.2.2.2.2.2.2.2.2.1
@[irreducible] noncomputable def cn : Str := X.2.2.2.2.2.2.2.2.2.2.1
@[irreducible] noncomputable def cs : Scope := X.2.2.2.2.2.2.2.2.2.2.2.1
@[irreducible] noncomputable def a : Addr := X.2.2.2.2.2.2.2.2.2.2.2.2.1
@[irreducible] noncomputable def ccd : Value := X.2.2.2.2.2.2.2.2.2.2.2.2.2.1
@[irreducible] noncomputable def cl : List (Str × Addr) := X.2.2.2.2.2.2.2.2.2.2.2.2.2.2.1
@[irreducible] noncomputable def outer : List Env := X.2.2.2.2.2.2.2.2.2.2.2.2.2.2.2.1
@[irreducible] noncomputable def A₀ : Around := X.2.2.2.2.2.2.2.2.2.2.2.2.2.2.2.2.1
@[irreducible] noncomputable def base : Heap := X.2.2.2.2.2.2.2.2.2.2.2.2.2.2.2.2.2.1
@[irreducible] noncomputable def h₀ : Heap := X.2.2.2.2.2.2.2.2.2.2.2.2.2.2.2.2.2.2.1
@[irreducible] noncomputable def L : Addr := X.2.2.2.2.2.2.2.2.2.2.2.2.2.2.2.2.2.2.2.1
@[irreducible] noncomputable def m : Str → Option Value := X.2.2.2.2.2.2.2.2.2.2.2.2.2.2.2.2.2.2.2.2.1
@[irreducible] noncomputable def news : List (Addr × Obj) := X.2.2.2.2.2.2.2.2.2.2.2.2.2.2.2.2.2.2.2.2.2.1
@[irreducible] noncomputable def s : Shared := X.2.2.2.2.2.2.2.2.2.2.2.2.2.2.2.2.2.2.2.2.2.2.1
@[irreducible] noncomputable def Q : Value → Shared → Prop := X.2.2.2.2.2.2.2.2.2.2.2.2.2.2.2.2.2.2.2.2.2.2.2.1
@[irreducible] noncomputable def E : Value → Shared → Prop := X.2.2.2.2.2.2.2.2.2.2.2.2.2.2.2.2.2.2.2.2.2.2.2.2.1
@[irreducible] noncomputable def tab : Addr := X.2.2.2.2.2.2.2.2.2.2.2.2.2.2.2.2.2.2.2.2.2.2.2.2.2.1
@[irreducible] noncomputable def tabD : Addr := X.2.2.2.2.2.2.2.2.2.2.2.2.2.2.2.2.2.2.2.2.2.2.2.2.2.2.1
@[irreducible] noncomputable def nd : Addr := X.2.2.2.2.2.2.2.2.2.2.2.2.2.2.2.2.2.2.2.2.2.2.2.2.2.2.2.1
@[irreducible] noncomputable def rl : Addr := X.2.2.2.2.2.2.2.2.2.2.2.2.2.2.2.2.2.2.2.2.2.2.2.2.2.2.2.2.1
@[irreducible] noncomputable def t1 : Tok := X.2.2.2.2.2.2.2.2.2.2.2.2.2.2.2.2.2.2.2.2.2.2.2.2.2.2.2.2.2.1
@[irreducible] noncomputable def t2 : Tok := X.2.2.2.2.2.2.2.2.2.2.2.2.2.2.2.2.2.2.2.2.2.2.2.2.2.2.2.2.2.2.1
@[irreducible] noncomputable def tk : Tok := X.2.2.2.2.2.2.2.2.2.2.2.2.2.2.2.2.2.2.2.2.2.2.2.2.2.2.2.2.2.2.2.1
@[irreducible] noncomputable def no : Obj := X.2.2.2.2.2.2.2.2.2.2.2.2.2.2.2.2.2.2.2.2.2.2.2.2.2.2.2.2.2.2.2.2.1
@[irreducible] noncomputable def vs : List Value := X.2.2.2.2.2.2.2.2.2.2.2.2.2.2.2.2.2.2.2.2.2.2.2.2.2.2.2.2.2.2.2.2.2.1
@[irreducible] noncomputable def n : Nat := X.2.2.2.2.2.2.2.2.2.2.2.2.2.2.2.2.2.2.2.2.2.2.2.2.2.2.2.2.2.2.2.2.2.2.1
@[irreducible] noncomputable def kvs : List (Str × Value) := X.2.2.2.2.2.2.2.2.2.2.2.2.2.2.2.2.2.2.2.2.2.2.2.2.2.2.2.2.2.2.2.2.2.2.2.1
@[irreducible] noncomputable def nm : Str := X.2.2.2.2.2.2.2.2.2.2.2.2.2.2.2.2.2.2.2.2.2.2.2.2.2.2.2.2.2.2.2.2.2.2.2.2
theorem intern_new (B : Below A₀ base outer h₀) (F : Fr h₀ L s.heap m) (X : (Mine.K w.params).In h₀) (N : News h₀ L s.heap ((tab, instObj 272 tabD) :: (tabD, tabO w.params rl nd t1 t2) :: (nd, no) :: (rl, lst vs n) :: news)) (T : Top p loose mean mg mb h₀) (hk : cs.kind = .function) (hdp : dp ≤ 500) (hun : un ≤ 600) (lo : (nd == sysModules) = false) (hd : no.IsDictOf (strKind prog w) kvs) (hz : kvs.length ≤ 1000) (hz2 : vs.length ≤ 1000) (a1 : Apt tab nd) (a2 : Apt tab rl) (a3 : Apt tabD nd) (a4 : Apt tabD rl) (a5 : Apt nd rl) (ap1 : ∀ p ∈ news, p.1 ≠ nd) (ap2 : ∀ p ∈ news, p.1 ≠ rl) (hv : valueAt kvs nm = none) (ret : ∀ x dx u1 u2 u3 u4 o' h' tk', (tab < dx ∧ tabD < dx ∧ nd < dx ∧ rl < dx ∧ AllLt dx news) → dx < x → Fr h₀ L h' m → News h₀ L h' ((x, instObj 72 dx) :: (dx, symO w.params vs.length nm u1 u2 u3 u4) :: (tab, instObj 272 tabD) :: (tabD, tabO w.params rl nd t1 t2) :: (nd, o') :: (rl, lst (vs ++ [.ref x]) (n + 1)) :: news) →
     o'.IsDictOf (strKind prog w) (stored kvs nm (.ref x)) → Q (.ref x) { s with heap := h', toks := tk' }):
   wpAny (model prog w) (ktrTop dp un gd cn cs L a ccd cl outer) (call (.ref 222) [.ref tab, .str nm tk]) Q E s := Mine.byKey fun kzq9 => Mine.Fam.of (by exact Mine.Fam.mk : Mine.Fam ((Mine.Key.unbox kzq9 (by simp only [Mine.Key.box kzq9 (by
  clear kzq9
  refine wcall ?_
  k_dflt (k_extra "MY enter")
  clear F N
  k_steps
  exact ret _ _ _ _ _ _ _ _ _ (by assumption) (by assumption) (by assumption) (by assumption) (by assumption))])) :))
theorem all : ∀ d, S d := Mine.eps ne (by with_unfolding_all exact @intern_new)
end Ep_intern_new
section
variable {prog : Program} {w : World} {p : Program} {loose : List Str} {mean : ExcName → Option Value} {mg mb : Str → Option Value}
 {dp un : Nat} {gd : Option (List Code)} {cn : Str} {cs : Scope} {a : Addr} {ccd : Value} {cl : List (Str × Addr)} {outer : List Env} {A₀ : Around} {base h₀ : Heap} {L : Addr} {m : Str → Option Value} {news : List (Addr × Obj)} {s : Shared} {Q E : Value → Shared → Prop}
variable {tab tabD nd rl : Addr} {t1 t2 tk : Tok} {no : Obj} {vs : List Value} {n : Nat} {kvs : List (Str × Value)} {nm : Str}
theorem intern_new 
   (B : Below A₀ base outer h₀) (F : Fr h₀ L s.heap m) (X : (Mine.K w.params).In h₀) (N : News h₀ L s.heap ((tab, instObj 272 tabD) :: (tabD, tabO w.params rl nd t1 t2) :: (nd, no) :: (rl, lst vs n) :: news)) (T : Top p loose mean mg mb h₀) (hk : cs.kind = .function) (hdp : dp ≤ 500) (hun : un ≤ 600)
   (lo : (nd == sysModules) = false) (hd : no.IsDictOf (strKind prog w) kvs) (hz : kvs.length ≤ 1000) (hz2 : vs.length ≤ 1000)
   (a1 : Apt tab nd) (a2 : Apt tab rl) (a3 : Apt tabD nd) (a4 : Apt tabD rl) (a5 : Apt nd rl) (ap1 : ∀ p ∈ news, p.1 ≠ nd) (ap2 : ∀ p ∈ news, p.1 ≠ rl)
   (hv : valueAt kvs nm = none)
   (ret : ∀ x dx u1 u2 u3 u4 o' h' tk', (tab < dx ∧ tabD < dx ∧ nd < dx ∧ rl < dx ∧ AllLt dx news) → dx < x → Fr h₀ L h' m → News h₀ L h' ((x, instObj 72 dx) :: (dx, symO w.params vs.length nm u1 u2 u3 u4) :: (tab, instObj 272 tabD) :: (tabD, tabO w.params rl nd t1 t2) :: (nd, o') :: (rl, lst (vs ++ [.ref x]) (n + 1)) :: news) →
     o'.IsDictOf (strKind prog w) (stored kvs nm (.ref x)) → Q (.ref x) { s with heap := h', toks := tk' }) :
   wpAny (model prog w) (ktrTop dp un gd cn cs L a ccd cl outer) (call (.ref 222) [.ref tab, .str nm tk]) Q E s := Ep_intern_new.all (prog, w, p, loose, mean, mg, mb, dp, un, gd, cn, cs, a, ccd, cl, outer, A₀, base, h₀, L, m, news, s, Q, E, tab, tabD, nd, rl, t1, t2, tk, no, vs, n, kvs, nm) B F X N T hk hdp hun lo hd hz hz2 a1 a2 a3 a4 a5 ap1 ap2 hv ret
theorem intern_old {b : Addr}
   (B : Below A₀ base outer h₀) (F : Fr h₀ L s.heap m) (X : (Mine.K w.params).In h₀) (N : News h₀ L s.heap ((tab, instObj 272 tabD) :: (tabD, tabO w.params rl nd t1 t2) :: (nd, no) :: news)) (T : Top p loose mean mg mb h₀) (hk : cs.kind = .function) (hdp : dp ≤ 500) (hun : un ≤ 600)
   (lo : (nd == sysModules) = false) (hd : no.IsDictOf (strKind prog w) kvs) 
   (hv : valueAt kvs nm = some (.ref b))
   (ret : ∀ h' tk', Fr h₀ L h' m → News h₀ L h' ((tab, instObj 272 tabD) :: (tabD, tabO w.params rl nd t1 t2) :: (nd, no) :: news) → Q (.ref b) { s with heap := h', toks := tk' }) :
   wpAny (model prog w) (ktrTop dp un gd cn cs L a ccd cl outer) (call (.ref 222) [.ref tab, .str nm tk]) Q E s := Mine.byKey fun kzq9 => Mine.Fam.of (by exact Mine.Fam.mk : Mine.Fam ((Mine.Key.unbox kzq9 (by simp only [Mine.Key.box kzq9 (by
  clear kzq9
  refine wcall ?_
  k_dflt (k_extra "MY enter")
  clear F N
  k_steps
  exact ret _ _ (by assumption) (by assumption))])) :))
end
end Mine
end PartC2
section PartC3
open PySem PySem.W PyProof.Rows PySem.Calls PySem.Spec
set_option maxHeartbeats 2000000
namespace Mine
section
variable {prog : Program} {w : World} {p : Program} {loose : List Str} {mean : ExcName → Option Value} {mg mb : Str → Option Value}
 {dp un : Nat} {gd : Option (List Code)} {cn : Str} {cs : Scope} {a : Addr} {ccd : Value} {cl : List (Str × Addr)} {outer : List Env} {A₀ : Around} {base h₀ : Heap} {L : Addr} {m : Str → Option Value} {news : List (Addr × Obj)} {s : Shared} {Q E : Value → Shared → Prop}
variable {tab tabD nd rl : Addr} {t1 t2 tk : Tok} {no : Obj} {vs : List Value} {n : Nat} {kvs : List (Str × Value)} {nm : Str}

theorem Mine.regC31 : True := by
  k_with "getMethod ref" => (guard_hyp fl9 : Mine.Fl 11; ((k_here; (with_reducible show wpAny _ _ (getMethod (Value.ref _) (Str.ofString "items") _) _ _ _); k_dflt (refine kdl_method (knd := PySem.strKind _ _) PySem.F.slot_dict_items PySem.F.type_dict_items (by k_asm) (by k_mem) (by k_asm) ?_))))
  k_with "call builtin:dict.items" => (guard_hyp fl9 : Mine.Fl 11; ((k_here; k_dflt (refine kta_callItems (knd := PySem.strKind _ _) (by k_asm) (by k_asm) (by k_mem) (by k_asm) (by k_asm) ?_); intro hzq9 hvzq9 Fzq9 Nzq9)))
  k_with "eval ListComp" => (guard_hyp fl9 : Mine.Fl 11; ((k_here; k_dflt (refine kct_ListComp (PySem.strKind _ _) (by k_asm) (by rfl) (by decide) (by rfl) (by decide) (by rfl) (by rfl) (by decide) ?_))))
  k_with "call type:dict" => (guard_hyp fl9 : Mine.Fl 11; ((k_here; k_dflt (refine dict_pairs (by k_asm) (by k_asm) (Top.nolimit (by k_asm)) (by k_mem) (by assumption) (by assumption) (by assumption) (by rfl) ?_); intro dzq9 hzq9 ozq9 tkzq9 Fzq9 Nzq9 l1zq9 lozq9 hdzq9; (try k_lt l1zq9))))
  exact trivial
theorem unintern_some {v : Value}
   (B : Below A₀ base outer h₀) (F : Fr h₀ L s.heap m) (X : (Mine.K w.params).In h₀) (N : News h₀ L s.heap ((tab, instObj 272 tabD) :: (tabD, tabO w.params rl nd t1 t2) :: (nd, no) :: news)) (T : Top p loose mean mg mb h₀) (hk : cs.kind = .function) (hdp : dp ≤ 500) (hun : un ≤ 600)
   (lo : (nd == sysModules) = false) (hd : no.IsDictOf (strKind prog w) kvs) (hz : kvs.length ≤ 1000) (hnd : (kvs.map (·.1)).Nodup) (a1 : Apt tab tabD) (a2 : Apt nd tabD) (ap : ∀ p ∈ news, p.1 ≠ tabD)
   (hv : valueAt kvs nm = some v) (hn1 : nm ≠ "nil") (hn2 : nm ≠ "t") 
   (ret : ∀ d o' h' tk', Fr h₀ L h' m → News h₀ L h' ((d, o') :: (tab, instObj 272 tabD) :: (tabD, tabO w.params rl d t1 t2) :: (nd, no) :: news) → (d == sysModules) = false → tab < d → tabD < d → nd < d → AllLt d news →
     o'.IsDictOf (strKind prog w) (without kvs nm) → Q (.bool true) { s with heap := h', toks := tk' }) :
   wpAny (model prog w) (ktrTop dp un gd cn cs L a ccd cl outer) (call (.ref 255) [.ref tab, .str nm tk]) Q E s := Mine.byKey fun kzq9 => Mine.Fam.of (by exact Mine.Fam.mk : Mine.Fam ((Mine.Key.unbox kzq9 (by simp only [Mine.Key.box kzq9 (by
  clear kzq9
  have fl9 : Mine.Fl 11 := Mine.Fl.mk
  refine wcall ?_
  k_dflt (k_extra "MY enterC")
  clear F N
  k_steps
  · exfalso
    rename (List.any _ _ = true) => ha
    simp only [List.any_cons, List.any_nil, Bool.or_false, Bool.or_eq_true, beq_iff_eq] at ha
    rcases ha with ha | ha
    · exact hn1 ha.symm
    · exact hn2 ha.symm
  · rename News _ _ _ _ => N9
    rename Obj.data _ = _ => hc9
    replace hc9 : Obj.data _ = .cell (some (.str nm _)) := hc9
    refine KctSrc.intro (enc := PyData.str) (by rfl) (by k_asm) (News.tl N9) (by assumption) (.tail _ (.tail _ (.tail _ (.head _)))) hd (Nat.le_trans hz (by decide)) (fun _ _ h => Value.isStrOf_shape h) rfl ?_
    intro g9
    refine kct_filter (fun _ => by rfl) (fun _ => by rfl) (fun _ => by rfl) (fun _ => by rfl) (by rfl) (by rfl) (by rfl) (by rfl) (.head _) hc9 (.tail _ (.tail _ (.tail _ (.head _)))) ?_
    clear N9
    rintro ys n9 hP hb D h9 tk9 F9 N9 off9
    have hP9 := (hP.mono (fun q hq => .tail _ hq)).at N9
    replace N9 : News _ _ h9 ((D, LCg.lst ys) :: (tab, instObj 272 tabD) :: (tabD, tabO w.params rl nd t1 t2) :: (nd, no) :: news) := fun q hq => by
      rcases List.mem_cons.mp hq with rfl | hq
      · exact N9 _ (.head _)
      · exact N9 _ (.tail _ (hb _ (.tail _ hq)))
    have aD : Apt D tabD := Ne.symm (off1_mem off9 _ (hb _ (.tail _ (.tail _ (.head _)))))
    clear hP hb off9
    have hnd9 := nodup_without hnd nm
    have hz9 : (without kvs nm).length ≤ 1000 := Nat.le_trans (List.length_filter_le _ _) hz
    k_steps
    rename _ < _ ∧ _ < _ ∧ _ < _ ∧ _ < _ ∧ AllLt _ _ => l9
    rename News h₀ L _ _ => N8
    refine ret _ _ _ _ (by assumption) (fun q hq => N8 q ?_) (by assumption) l9.2.1 l9.2.2.1 l9.2.2.2.1 l9.2.2.2.2 (by assumption)
    rcases List.mem_cons.mp hq with rfl | hq
    · exact .head _
    · exact .tail _ (.tail _ hq))])) :))
end
end Mine
end PartC3
section PartS1
open PySem PySem.W PyProof.Rows PySem.Calls PySem.Spec
set_option maxHeartbeats 4000000
namespace Mine
/-- x is the symbol of number i and name nm -/
noncomputable def SymOf (P : Params) (fz : List (Addr × Obj)) (x : Addr) (i : Nat) (nm : Str) : Prop :=
  (x = 78 ∧ i = 0 ∧ nm = "nil") ∨ (x = 81 ∧ i = 1 ∧ nm = "t") ∨ (2 ≤ i ∧ ∃ dx t1 t2 t3 t4, (x, instObj 72 dx) ∈ fz ∧ (dx, symO P (i : Int) nm t1 t2 t3 t4) ∈ fz)
theorem SymOf.mono {P : Params} {fz fz' : List (Addr × Obj)} {x : Addr} {i : Nat} {nm : Str} (S : SymOf P fz x i nm) (h : ∀ p ∈ fz, p ∈ fz') : SymOf P fz' x i nm := by
  rcases S with S | S | ⟨hi, dx, t1, t2, t3, t4, h1, h2⟩
  · exact .inl S
  · exact .inr (.inl S)
  · exact .inr (.inr ⟨hi, dx, t1, t2, t3, t4, h _ h1, h _ h2⟩)
theorem K78 (P : Params) : (Mine.K P).lookup 78 = some (instObj 72 77) := by k_is
theorem K77 (P : Params) : (Mine.K P).lookup 77 = some (symO P 0 "nil" 281 275 283 276) := by k_is
theorem K81 (P : Params) : (Mine.K P).lookup 81 = some (instObj 72 80) := by k_is
theorem K80 (P : Params) : (Mine.K P).lookup 80 = some (symO P 1 "t" 291 285 293 286) := by k_is
section
variable {prog : Program} {w : World} {A : Around} {E : Value → Shared → Prop} {s : Shared} {h₀ : Heap} {L : Addr} {m : Str → Option Value} {news fz : List (Addr × Obj)} {x y : Addr} {i j : Nat} {nm nm' : Str}
theorem sym_inst {P : Params} (F : Fr h₀ L s.heap m) (X : (Mine.K P).In h₀) (N : News h₀ L s.heap news) (S : SymOf P fz x i nm) (sub : ∀ p ∈ fz, p ∈ news) :
    ∃ dx t1 t2 t3 t4, InstAt s.heap x (instObj 72 dx) 72 (some (symO P (i : Int) nm t1 t2 t3 t4)) := by
  rcases S with ⟨rfl, rfl, rfl⟩ | ⟨rfl, rfl, rfl⟩ | ⟨hi, dx, t1, t2, t3, t4, h1, h2⟩
  · exact ⟨_, _, _, _, _, InstAt.of_K (X.keeps F.keep) (K78 P) (K77 P)⟩
  · exact ⟨_, _, _, _, _, InstAt.of_K (X.keeps F.keep) (K81 P) (K80 P)⟩
  · exact ⟨_, _, _, _, _, InstAt.of_news N (sub _ h1) (sub _ h2)⟩
theorem inst_inj {P : Params} {h : Heap} {dx dx' : Addr} {i j : Int} {t1 t2 t3 t4 u1 u2 u3 u4 : Tok} (I : InstAt h x (instObj 72 dx) 72 (some (symO P i nm t1 t2 t3 t4))) (I' : InstAt h x (instObj 72 dx') 72 (some (symO P j nm' u1 u2 u3 u4))) : i = j ∧ nm = nm' := by
  have e := I.at_.symm.trans I'.at_
  have e1 : dx = dx' := by simpa [instObj] using e
  subst e1
  have d1 : h.get? dx = some (symO P i nm t1 t2 t3 t4) := I.dict
  have d2 : h.get? dx = some (symO P j nm' u1 u2 u3 u4) := I'.dict
  have f := Option.some.inj (d1.symm.trans d2)
  simp at f
  exact ⟨f.1.2.1, f.2.2.1⟩
theorem sym_inj {P : Params} (F : Fr h₀ L s.heap m) (X : (Mine.K P).In h₀) (N : News h₀ L s.heap news) (S : SymOf P fz x i nm) (S' : SymOf P fz x j nm') (sub : ∀ p ∈ fz, p ∈ news) : i = j ∧ nm = nm' := by
  obtain ⟨dx, t1, t2, t3, t4, I⟩ := sym_inst F X N S sub
  obtain ⟨dx', t1', t2', t3', t4', I'⟩ := sym_inst F X N S' sub
  obtain ⟨e1, e2⟩ := inst_inj I I'
  exact ⟨by omega, e2⟩
theorem sym_nil {P : Params} (F : Fr h₀ L s.heap m) (X : (Mine.K P).In h₀) (N : News h₀ L s.heap news) (S : SymOf P fz x i nm) (sub : ∀ p ∈ fz, p ∈ news) : x = 78 ↔ i = 0 := by
  rcases S with ⟨rfl, rfl, rfl⟩ | ⟨rfl, rfl, rfl⟩ | ⟨hi, dx, t1, t2, t3, t4, h1, h2⟩
  · simp
  · decide
  · refine ⟨fun e => ?_, fun e => by omega⟩
    have q := (N _ (sub _ h1)).2.2
    rw [e] at q
    have z := X _ _ (K78 P)
    rw [z] at q
    cases q
theorem get_number {expr : Bool} {Q : Value → Shared → Prop} (F : Fr h₀ L s.heap m) (X : (Mine.K w.params).In h₀) (N : News h₀ L s.heap news) (S : SymOf w.params fz x i nm) (sub : ∀ p ∈ fz, p ∈ news)
    (h : ∀ t, Q (.int (i : Int) t) { s with toks := s.toks + 1 }) : wpAny (model prog w) A (getAttr (.ref x) "number" expr) Q E s := by
  obtain ⟨dx, t1, t2, t3, t4, I⟩ := sym_inst F X N S sub
  exact get_own F X I (by k_is) (by k_is) (by k_is) (by k_is) (by k_get) (by k_handed) (h _)
theorem get_name {expr : Bool} {Q : Value → Shared → Prop} (F : Fr h₀ L s.heap m) (X : (Mine.K w.params).In h₀) (N : News h₀ L s.heap news) (S : SymOf w.params fz x i nm) (sub : ∀ p ∈ fz, p ∈ news)
    (h : ∀ t, Q (.str nm t) { s with toks := s.toks + 1 }) : wpAny (model prog w) A (getAttr (.ref x) "name" expr) Q E s := by
  obtain ⟨dx, t1, t2, t3, t4, I⟩ := sym_inst F X N S sub
  exact get_own F X I (by k_is) (by k_is) (by k_is) (by k_is) (by k_get) (by k_handed) (h _)
/-- a symbol of the rows -/
noncomputable def SymAt (P : Params) (fz : List (Addr × Obj)) (vs : List Value) (x : Addr) (i : Nat) (nm : Str) : Prop := vs[i]? = some (.ref x) ∧ SymOf P fz x i nm
theorem is_refs {Q : Value → Shared → Prop} {x y : Addr} {ox oy : Obj} (hx : s.heap.get? x = some ox) (hy : s.heap.get? y = some oy) (hnt : ox.cls ≠ .type "tuple") (h : Q (.bool (decide (x = y))) s) :
    wpAny (model prog w) A (compareOp .Is (.ref x) (.ref y)) Q E s := by
  by_cases e : x = y
  · subst e
    exact wpAny_is_ref_self (by simpa using h)
  · exact wpAny_is_ref_other e hx hy hnt (by simpa [e] using h)
theorem isNot_refs {Q : Value → Shared → Prop} {x y : Addr} {ox oy : Obj} (hx : s.heap.get? x = some ox) (hy : s.heap.get? y = some oy) (hnt : ox.cls ≠ .type "tuple") (h : Q (.bool (!decide (x = y))) s) :
    wpAny (model prog w) A (compareOp .IsNot (.ref x) (.ref y)) Q E s := by
  by_cases e : x = y
  · subst e
    exact wpAny_isNot_ref_self (by simpa using h)
  · exact wpAny_isNot_ref_other e hx hy hnt (by simpa [e] using h)
theorem is_sym {Q : Value → Shared → Prop} (F : Fr h₀ L s.heap m) (X : (Mine.K w.params).In h₀) (N : News h₀ L s.heap news) (S : SymOf w.params fz x i nm) (S' : SymOf w.params fz y j nm') (sub : ∀ p ∈ fz, p ∈ news)
    (h : Q (.bool (decide (x = y))) s) : wpAny (model prog w) A (compareOp .Is (.ref x) (.ref y)) Q E s := by
  obtain ⟨_, _, _, _, _, I⟩ := sym_inst F X N S sub
  obtain ⟨_, _, _, _, _, I'⟩ := sym_inst F X N S' sub
  exact is_refs I.at_ I'.at_ (by rw [I.cls]; intro q; cases q) h
theorem is_nil {Q : Value → Shared → Prop} (F : Fr h₀ L s.heap m) (X : (Mine.K w.params).In h₀) (N : News h₀ L s.heap news) (S : SymOf w.params fz x i nm) (sub : ∀ p ∈ fz, p ∈ news)
    (h : Q (.bool (decide (i = 0))) s) : wpAny (model prog w) A (compareOp .Is (.ref x) (.ref 78)) Q E s := by
  have e := sym_nil F X N S sub
  refine is_sym F X N S (.inl ⟨rfl, rfl, rfl⟩ : SymOf w.params fz 78 0 "nil") sub ?_
  rwa [decide_eq_decide.mpr e]
theorem isNot_nil {Q : Value → Shared → Prop} (F : Fr h₀ L s.heap m) (X : (Mine.K w.params).In h₀) (N : News h₀ L s.heap news) (S : SymOf w.params fz x i nm) (sub : ∀ p ∈ fz, p ∈ news)
    (h : Q (.bool (!decide (i = 0))) s) : wpAny (model prog w) A (compareOp .IsNot (.ref x) (.ref 78)) Q E s := by
  have e := sym_nil F X N S sub
  obtain ⟨_, _, _, _, _, I⟩ := sym_inst F X N S sub
  refine isNot_refs I.at_ (X.keeps F.keep _ _ (K78 _)) (by rw [I.cls]; intro q; cases q) ?_
  rwa [decide_eq_decide.mpr e]
theorem is_fresh {Q : Value → Shared → Prop} {vs : List Value} {dy : Addr} {u1 u2 u3 u4 : Tok} (F : Fr h₀ L s.heap m) (X : (Mine.K w.params).In h₀) (N : News h₀ L s.heap news) (S : SymOf w.params fz x i nm) (sub : ∀ p ∈ fz, p ∈ news) (hi : vs[i]? = some (.ref x))
    (h1 : (y, instObj 72 dy) ∈ news) (h2 : (dy, symO w.params vs.length nm' u1 u2 u3 u4) ∈ news)
    (h : Q (.bool false) s) : wpAny (model prog w) A (compareOp .Is (.ref x) (.ref y)) Q E s := by
  obtain ⟨_, _, _, _, _, I⟩ := sym_inst F X N S sub
  have I' := InstAt.of_news N h1 h2
  refine wpAny_is_ref_other ?_ I.at_ I'.at_ (by rw [I.cls]; intro q; cases q) h
  rintro rfl
  have e := (inst_inj I I').1
  have := (List.getElem?_eq_some_iff.mp hi).1
  omega
theorem eq_isb {Q : Value → Shared → Prop} {l1 l2 : Addr} {i j : Int} {b : Bool} {u1 u2 v1 v2 : Tok} {n1 n2 : Nat} (N : News h₀ L s.heap news) (m1 : (l1, lst [.int i u1, .str nm u2, .bool b] n1) ∈ news) (m2 : (l2, lst [.int j v1, .str nm v2, .bool b] n2) ∈ news)
    (hs : PyData.strOk nm = true) (hu : A.units + 64 < cLine) (hij : i = j) (h : Q (.bool true) s) : wpAny (model prog w) A (compareOp .Eq (.ref l1) (.ref l2)) Q E s := by
  subst hij
  have sh : SeqAt.shaped (.list [.int i, .str nm, .bool b]) = true := by
    simp [SeqAt.shaped, PyData.canLay0, PyData.canLayAll0, PyData.depth, PyData.depthAll, hs]
  refine eq_dataH (reads_list_at (N.get m1) rfl rfl (ReadsAll.cons (Reads.int _ _) (ReadsAll.cons (Reads.str _ _) (ReadsAll.cons (Reads.bool _) ReadsAll.nil)))) (reads_list_at (N.get m2) rfl rfl (ReadsAll.cons (Reads.int _ _) (ReadsAll.cons (Reads.str _ _) (ReadsAll.cons (Reads.bool _) ReadsAll.nil)))) sh sh hu ?_
  have e : PyData.eqv (.list [.int i, .str nm, .bool b]) (.list [.int i, .str nm, .bool b]) = true := by
    simp [PyData.eqv, PyData.eqvAll]
  rw [e]
  exact h
/-- an item of a list, by what holds of all its items -/
theorem pickL {value slice : PySem.Expr} {l : Addr} {vs : List Value} {n : Nat} {k : Int} {u : Tok} {P : Value → Prop} {Q : Value → Shared → Prop} (N : News h₀ L s.heap news) (hm : (l, lst vs n) ∈ news) (h0 : 0 ≤ k) (h1 : k < vs.length) (hz : vs.length ≤ 1000) (hP : ∀ v ∈ vs, P v) (h : ∀ v, P v → Q v s)
    (hs : subscripted slice false (.ref l) (.int k u) = operate [.ref l, .int k u] (getItem (.ref l) (.int k u)) := by with_unfolding_all rfl) :
    wpAny (model prog w) A (subscriptTail value slice (.ref l) (.int k u)) Q E s := by
  have hlt : k.toNat < vs.length := by omega
  exact itemL (v := vs[k.toNat]) N hm h0 (List.getElem?_eq_getElem hlt) hz (h _ (hP _ (List.getElem_mem hlt))) hs
end
noncomputable def Hold (P : Prop) : Prop := P
theorem Hold.mk {P : Prop} (h : P) : Hold P := h
theorem Hold.out {P : Prop} (h : Hold P) : P := h
theorem AllLt.ap1 {d : Nat} : ∀ {l : List (Addr × Obj)}, AllLt d l → ∀ p ∈ l, p.1 ≠ d + 1 := by
  intro l
  induction l with
  | nil => intro _ p hp; cases hp
  | cons q r ih =>
    intro h p hp
    rcases List.mem_cons.mp hp with rfl | hp
    · exact Nat.ne_of_lt (Nat.lt_succ_of_lt h.1)
    · exact ih h.2 p hp
/-- addresses that differ, in pairs -/
noncomputable def Aps1 (a : Addr) : List Addr → Prop | [] => True | b :: r => Apt a b ∧ Aps1 a r
noncomputable def Aps : List Addr → Prop | [] => True | a :: r => Aps1 a r ∧ Aps r
end Mine
open Mine
theorem Mine.regS11 : True := by
  k_with "T k_all" => (exact AllLt.ap1 (by assumption))
  k_with "MY sub" => ((intro p9 hp9; (repeat (first | exact hp9 | refine List.mem_cons_of_mem _ ?_))))
  k_with "getAttr ref" => ((k_here; (with_reducible show wpAny _ _ (getAttr (Value.ref _) (Str.ofString "number") _) _ _ _); k_dflt (refine get_number (by k_asm) (by k_asm) (by k_asm) (by assumption) (by k_extra "MY sub") ?_); intro tzq9))
  k_with "getAttr ref" => ((k_here; (with_reducible show wpAny _ _ (getAttr (Value.ref _) (Str.ofString "name") _) _ _ _); k_dflt (refine get_name (by k_asm) (by k_asm) (by k_asm) (by assumption) (by k_extra "MY sub") ?_); intro tzq9))
  k_with "compareOp Is ref ref" => ((k_here; k_dflt (refine is_sym (by k_asm) (by k_asm) (by k_asm) (by assumption) (by assumption) (by k_extra "MY sub") ?_)))
  k_with "compareOp Is ref ref" => ((k_here; (with_reducible show wpAny _ _ (compareOp _ _ (Value.ref 78)) _ _ _); k_dflt (refine is_nil (by k_asm) (by k_asm) (by k_asm) (by assumption) (by k_extra "MY sub") ?_)))
  k_with "compareOp Is ref ref" => ((k_here; k_dflt (refine is_fresh (by k_asm) (by k_asm) (by k_asm) (by assumption) (by k_extra "MY sub") (by assumption) (by k_mem) (by k_mem) ?_)))
  k_with "compareOp Is ref ref" => ((k_here; refine wpAny_is_ref_self ?_))
  k_with "compareOp IsNot ref ref" => ((k_here; (with_reducible show wpAny _ _ (compareOp _ _ (Value.ref 78)) _ _ _); k_dflt (refine isNot_nil (by k_asm) (by k_asm) (by k_asm) (by assumption) (by k_extra "MY sub") ?_)))
  k_with "call ref" => ((k_here; (with_reducible show wpAny _ _ (call (Value.ref 222) _) _ _ _); refine Hold.out ?_))
  k_with "call ref" => ((k_here; (with_reducible show wpAny _ _ (call (Value.ref 255) _) _ _ _); refine Hold.out ?_))
  k_with "call ref" => ((k_here; (with_reducible show wpAny _ _ (call (Value.ref 288) _) _ _ _); k_dflt (refine' draw_at (by k_asm) (by k_asm) (by k_asm) (by k_asm) (by k_asm) (by first | exact rfl | assumption) (by ktr_room) (by units_room) (by k_dflt k_updF) (by k_asm) (by k_asm) (by first | decide | omega) (by first | decide | omega) ?_) ; intro r' tkzq9 vs' ns' n' hzq9 tk2' Fzq9 Nzq9 hvzq9 hn' hr0 hr1; (try dsimp only at Nzq9); (try k_sweep)))
  k_with "subscriptTail" => ((k_here; (with_reducible show wpAny _ _ (subscriptTail _ (Expr.Call _ _ _ _) (Value.ref _) (Value.int _ _)) _ _ _); refine Hold.out ?_))
  k_with "subscriptTail" => ((k_here; (with_reducible show wpAny _ _ (subscriptTail _ _ (Value.ref _) (Value.int _ _)) _ _ _); k_dflt (refine itemL (by k_asm) (by k_mem) (by first | exact Int.le_refl 0 | assumption | omega) (by assumption) (by first | exact Mine.rm0 (by k_extra "MY len") (by rfl) | assumption | omega | (simp only [List.length_cons, List.length_append, List.length_nil] at *; omega)) ?_)))
  k_with "compareOp Is none ref" => ((k_here; refine wpAny_is_other rfl (by intro h9; cases h9) ?_))
  k_with "compareOp Eq ref ref" => ((k_here; k_dflt (refine eq_isb (by k_asm) (by k_mem) (by k_mem) (by assumption) (by units_room) (by first | rfl | omega | (simp only [List.length_append, List.length_cons, List.length_nil] at *; omega)) ?_)))
  k_with "MY in" => (first | exact List.Mem.head _ | (refine List.Mem.tail _ ?_; k_extra "MY in"))
  k_with "MY perm" => ((intro q9zq9 hq9zq9; (repeat (rcases List.mem_cons.mp hq9zq9 with rfl | hq9zq9; (k_extra "MY in"))); (repeat (first | exact hq9zq9 | refine List.mem_cons_of_mem _ ?_))))
  k_with "subscriptTail" => ((k_here; (with_reducible show wpAny _ _ (subscriptTail _ _ (Value.ref _) (Value.str _ _)) _ _ _); k_dflt (refine kda_item (knd := PySem.strKind _ _) (v := Value.ref _) (by k_asm) (by k_mem) (by k_asm) (strKind_is _ _ _ _) (by rfl) ?_)))
  k_with "call builtin:list.append" => ((k_here; k_dflt (refine' push1 (by k_asm) (by k_asm) (by k_upd) (by first | assumption | omega | (simp only [List.length_cons, List.length_append, List.length_nil] at *; omega)) ?_); intro hzq9 Fzq9 Nzq9))
  k_with "setItem ref str" => ((k_here; k_dflt (refine' kda_set (knd := PySem.strKind _ _) (by k_asm) (by k_asm) (by k_updF) (by k_asm) (strKind_is _ _ _ _) (by exact Nat.le_trans (m := 1000) (by k_extra "MY z") (by decide : 1000 ≤ sizeLine)) ?_); intro hzq9 ozq9 Fzq9 Nzq9 hdzq9; (try dsimp only at Nzq9)))
  k_with "setItem ref int" => ((k_here; k_dflt (refine' kda_set (knd := PySem.intKind _ _) (by k_asm) (by k_asm) (by k_updF) (by k_asm) (intKind_is _ _ _ _) (by exact Nat.le_trans (m := 1000) (by k_extra "MY z") (by decide : 1000 ≤ sizeLine)) ?_); intro hzq9 ozq9 Fzq9 Nzq9 hdzq9; (try dsimp only at Nzq9)))
  exact trivial
end PartS1
section PartP1
open PySem PySem.W PyProof.Rows PySem.Calls PySem.Spec Mine
set_option maxHeartbeats 1000000
namespace Mine
noncomputable abbrev modK (mr mn mp mf : Addr) : List (Str × Value) := [("rows", .ref mr), ("names", .ref mn), ("plists", .ref mp), ("functions", .ref mf)]
noncomputable def sixNames : List Str := ["nil", "a", ":k", "", "t", "b"]
noncomputable def allNames : List Str := ["nil", "a", ":k", "", "t", "b", "x", "y"]
theorem all_ok {nm : Str} (h : nm ∈ allNames) : PyData.strOk nm = true := by
  have : ∀ x ∈ allNames, PyData.strOk x = true := by decide +kernel
  exact this _ h
theorem six_all {nm : Str} (h : nm ∈ sixNames) : nm ∈ allNames := by
  have : ∀ x ∈ sixNames, x ∈ allNames := by decide +kernel
  exact this _ h
/-- the rows of the table -/
noncomputable def RowsOk (P : Params) (fz : List (Addr × Obj)) (vs : List Value) : Prop := ∀ i, i < vs.length → ∃ x nm, vs[i]? = some (.ref x) ∧ SymOf P fz x i nm ∧ nm ∈ allNames
inductive NamesRel (P : Params) (fz : List (Addr × Obj)) (vs : List Value) : List (Str × Value) → List (Str × Value) → Prop
  | nil : NamesRel P fz vs [] []
  | cons {k : Str} {x : Addr} {i : Nat} {t : Tok} {kvs mkvs : List (Str × Value)} : vs[i]? = some (.ref x) → SymOf P fz x i k → k ∈ allNames → NamesRel P fz vs kvs mkvs → NamesRel P fz vs ((k, .ref x) :: kvs) ((k, .int (i : Int) t) :: mkvs)
theorem valueAt_cons {k nm : Str} {v : Value} {r : List (Str × Value)} : valueAt ((k, v) :: r) nm = if k = nm then some v else valueAt r nm := by
  unfold valueAt
  by_cases h : k = nm <;> simp [h]
section
variable {P : Params} {fz fz' : List (Addr × Obj)} {vs vs' : List Value} {kvs mkvs : List (Str × Value)}
theorem NamesRel.at (R : NamesRel P fz vs kvs mkvs) (nm : Str) : (valueAt kvs nm = none ∧ valueAt mkvs nm = none) ∨ ∃ x i t, valueAt kvs nm = some (.ref x) ∧ valueAt mkvs nm = some (.int (i : Nat) t) ∧ vs[i]? = some (.ref x) ∧ SymOf P fz x i nm := by
  induction R with
  | nil => exact .inl ⟨rfl, rfl⟩
  | @cons k x i t _ _ h1 h2 h3 _ ih =>
    rw [valueAt_cons, valueAt_cons]
    by_cases h : k = nm
    · subst h
      simp only [if_true]
      exact .inr ⟨x, i, t, rfl, rfl, h1, h2⟩
    · simp only [if_neg h]
      exact ih
theorem NamesRel.mono (R : NamesRel P fz vs kvs mkvs) (h : ∀ p ∈ fz, p ∈ fz') (more : List Value) : NamesRel P fz' (vs ++ more) kvs mkvs := by
  induction R with
  | nil => exact .nil
  | cons h1 h2 h3 _ ih =>
    refine .cons ?_ (h2.mono h) h3 ih
    have hl := (List.getElem?_eq_some_iff.mp h1).1
    rw [List.getElem?_append_left hl]
    exact h1
theorem NamesRel.mono' (R : NamesRel P fz vs kvs mkvs) (h : ∀ p ∈ fz, p ∈ fz') : NamesRel P fz' vs kvs mkvs := by
  have := R.mono h []
  simpa using this
theorem NamesRel.snoc {k : Str} {x : Addr} {i : Nat} {t : Tok} (R : NamesRel P fz vs kvs mkvs) (h1 : vs[i]? = some (.ref x)) (h2 : SymOf P fz x i k) (h3 : k ∈ allNames) : NamesRel P fz vs (kvs ++ [(k, .ref x)]) (mkvs ++ [(k, .int (i : Int) t)]) := by
  induction R with
  | nil => exact .cons h1 h2 h3 .nil
  | cons g1 g2 g3 _ ih => exact .cons g1 g2 g3 ih
theorem NamesRel.without (R : NamesRel P fz vs kvs mkvs) (nm : Str) : NamesRel P fz vs (without kvs nm) (without mkvs nm) := by
  induction R with
  | nil => exact .nil
  | @cons k x i t _ _ h1 h2 h3 _ ih =>
    unfold PySem.without at ih ⊢
    by_cases h : k = nm
    · simp only [List.filter_cons, h, ne_eq, not_true_eq_false, decide_false, Bool.false_eq_true, if_false]
      exact ih
    · simp only [List.filter_cons, h, ne_eq, not_false_eq_true, decide_true, if_true]
      exact .cons h1 h2 h3 ih
theorem NamesRel.keys (R : NamesRel P fz vs kvs mkvs) : kvs.map (·.1) = mkvs.map (·.1) := by
  induction R with
  | nil => rfl
  | cons _ _ _ _ ih => simp [ih]
theorem NamesRel.len (R : NamesRel P fz vs kvs mkvs) : kvs.length = mkvs.length := by
  have := congrArg List.length R.keys
  simpa using this
theorem NamesRel.all (R : NamesRel P fz vs kvs mkvs) : ∀ k ∈ kvs.map (·.1), k ∈ allNames := by
  induction R with
  | nil => intro k hk; cases hk
  | cons _ _ h3 _ ih =>
    intro k hk
    rcases List.mem_cons.mp hk with rfl | hk
    · exact h3
    · exact ih k hk
theorem RowsOk.mono' (R : RowsOk P fz vs) (h : ∀ p ∈ fz, p ∈ fz') : RowsOk P fz' vs := fun i hi =>
  let ⟨x, nm, h1, h2, h3⟩ := R i hi; ⟨x, nm, h1, h2.mono h, h3⟩
theorem RowsOk.snoc {x : Addr} {nm : Str} (R : RowsOk P fz vs) (h : ∀ p ∈ fz, p ∈ fz') (S : SymOf P fz' x vs.length nm) (hn : nm ∈ allNames) : RowsOk P fz' (vs ++ [.ref x]) := fun i hi => by
  rw [List.length_append, List.length_singleton] at hi
  by_cases h1 : i < vs.length
  · obtain ⟨y, nm', g1, g2, g3⟩ := R i h1
    exact ⟨y, nm', by rw [List.getElem?_append_left h1]; exact g1, g2.mono h, g3⟩
  · have e : i = vs.length := by omega
    subst e
    exact ⟨x, nm, by simp, S, hn⟩
theorem nodup_snoc {k : Str} {v : Value} (h : (kvs.map (·.1)).Nodup) (hv : valueAt kvs k = none) : ((kvs ++ [(k, v)]).map (·.1)).Nodup := by
  rw [List.map_append, List.nodup_append]
  refine ⟨h, by simp, ?_⟩
  intro a ha b hb
  simp only [List.map_cons, List.map_nil, List.mem_singleton] at hb
  subst hb
  rintro rfl
  obtain ⟨q, hq, rfl⟩ := List.mem_map.mp ha
  unfold valueAt at hv
  rw [Option.map_eq_none_iff, List.find?_eq_none] at hv
  exact hv q hq (by simp)
end
theorem valueAt_snoc {kvs : List (Str × Value)} {k : Str} {v : Value} (h : valueAt kvs k = none) : valueAt (kvs ++ [(k, v)]) k = some v := by
  unfold valueAt at h ⊢
  rw [Option.map_eq_none_iff] at h
  simp [List.find?_append, h]
/-- the rest of a ledger grows -/
noncomputable def Ext (rest rest' : List (Addr × Obj)) : Prop := (∀ p ∈ rest, p ∈ rest') ∧ ∀ p ∈ rest', p ∈ rest ∨ ∀ q ∈ rest, q.1 < p.1
theorem Ext.refl (l : List (Addr × Obj)) : Ext l l := ⟨fun _ h => h, fun _ h => .inl h⟩
theorem Ext.two {l : List (Addr × Obj)} {x dx : Addr} {ox od : Obj} (h : AllLt dx l) (hx : dx < x) : Ext l ((x, ox) :: (dx, od) :: l) := by
  have lt : ∀ {l : List (Addr × Obj)}, AllLt dx l → ∀ q ∈ l, q.1 < dx := by
    intro l
    induction l with
    | nil => intro _ q hq; cases hq
    | cons a r ih =>
      intro h q hq
      rcases List.mem_cons.mp hq with rfl | hq
      · exact h.1
      · exact ih h.2 q hq
  refine ⟨fun _ h => .tail _ (.tail _ h), fun p hp => ?_⟩
  rcases List.mem_cons.mp hp with rfl | hp
  · exact .inr fun q hq => Nat.lt_trans (lt h q hq) hx
  rcases List.mem_cons.mp hp with rfl | hp
  · exact .inr fun q hq => lt h q hq
  · exact .inl hp
/-- d stands apart from a ledger -/
noncomputable def Off (d : Addr) (l : List (Addr × Obj)) : Prop := ∀ p ∈ l, p.1 ≠ d
theorem Off.two {d x dx : Addr} {ox od : Obj} {l : List (Addr × Obj)} (h : Off d l) (h1 : d < dx) (h2 : dx < x) : Off d ((x, ox) :: (dx, od) :: l) := fun p hp => by
  rcases List.mem_cons.mp hp with rfl | hp
  · exact Nat.ne_of_gt (Nat.lt_trans h1 h2)
  rcases List.mem_cons.mp hp with rfl | hp
  · exact Nat.ne_of_gt h1
  · exact h p hp
/-- some entries of a ledger, and its end -/
noncomputable def nth? : List (Addr × Obj) → Nat → List (Addr × Obj) → List (Addr × Obj)
  | a :: _, 0, k => a :: k
  | _ :: r, n + 1, k => nth? r n k
  | [], _, k => k
noncomputable def sel (l : List (Addr × Obj)) (d : Nat) : List Nat → List (Addr × Obj)
  | [] => l.drop d
  | i :: r => nth? l i (sel l d r)
theorem nth?_sub : ∀ (l : List (Addr × Obj)) (i : Nat) (k : List (Addr × Obj)), ∀ q ∈ nth? l i k, q ∈ l ∨ q ∈ k
  | a :: _, 0, k, q, h => by
    rcases List.mem_cons.mp h with rfl | h
    · exact .inl (.head _)
    · exact .inr h
  | _ :: r, n + 1, k, q, h => (nth?_sub r n k q h).imp (.tail _) id
  | [], _, k, q, h => .inr h
theorem sel_sub (l : List (Addr × Obj)) (d : Nat) : ∀ (is : List Nat), ∀ q ∈ sel l d is, q ∈ l
  | [], q, h => List.mem_of_mem_drop h
  | i :: r, q, h => (nth?_sub l i _ q h).elim id (sel_sub l d r q)
theorem News.sel {h₀ h : Heap} {L : Addr} {l : List (Addr × Obj)} (d : Nat) (is : List Nat) (N : News h₀ L h l) : News h₀ L h (Mine.sel l d is) := fun q hq => N q (sel_sub l d is q hq)
/-- new entries stand above a ledger -/
noncomputable def Above (new rest : List (Addr × Obj)) : Prop := ∀ p ∈ new, ∀ q ∈ rest, q.1 < p.1
theorem Above.nil (l : List (Addr × Obj)) : Above [] l := fun _ h => nomatch h
theorem AllLt.lt {d : Addr} : ∀ {l : List (Addr × Obj)}, AllLt d l → ∀ q ∈ l, q.1 < d := by
  intro l
  induction l with
  | nil => intro _ q hq; cases hq
  | cons a r ih =>
    intro h q hq
    rcases List.mem_cons.mp hq with rfl | hq
    · exact h.1
    · exact ih h.2 q hq
theorem Above.two {l : List (Addr × Obj)} {x dx : Addr} {ox od : Obj} (h : AllLt dx l) (hx : dx < x) : Above [(x, ox), (dx, od)] l := fun p hp q hq => by
  rcases List.mem_cons.mp hp with rfl | hp
  · exact Nat.lt_trans (AllLt.lt h q hq) hx
  · rw [List.mem_singleton.mp hp]
    exact AllLt.lt h q hq
theorem aps8E {z0 z1 z2 z3 z4 z5 z6 z7 : Addr} {P : Prop} (A : Aps [z0, z1, z2, z3, z4, z5, z6, z7]) (k : Apt z0 z1 → Apt z0 z2 → Apt z0 z3 → Apt z0 z4 → Apt z0 z5 → Apt z0 z6 → Apt z0 z7 → Apt z1 z2 → Apt z1 z3 → Apt z1 z4 → Apt z1 z5 → Apt z1 z6 → Apt z1 z7 → Apt z2 z3 → Apt z2 z4 → Apt z2 z5 → Apt z2 z6 → Apt z2 z7 → Apt z3 z4 → Apt z3 z5 → Apt z3 z6 → Apt z3 z7 → Apt z4 z5 → Apt z4 z6 → Apt z4 z7 → Apt z5 z6 → Apt z5 z7 → Apt z6 z7 → P) : P := k A.1.1 A.1.2.1 A.1.2.2.1 A.1.2.2.2.1 A.1.2.2.2.2.1 A.1.2.2.2.2.2.1 A.1.2.2.2.2.2.2.1 A.2.1.1 A.2.1.2.1 A.2.1.2.2.1 A.2.1.2.2.2.1 A.2.1.2.2.2.2.1 A.2.1.2.2.2.2.2.1 A.2.2.1.1 A.2.2.1.2.1 A.2.2.1.2.2.1 A.2.2.1.2.2.2.1 A.2.2.1.2.2.2.2.1 A.2.2.2.1.1 A.2.2.2.1.2.1 A.2.2.2.1.2.2.1 A.2.2.2.1.2.2.2.1 A.2.2.2.2.1.1 A.2.2.2.2.1.2.1 A.2.2.2.2.1.2.2.1 A.2.2.2.2.2.1.1 A.2.2.2.2.2.1.2.1 A.2.2.2.2.2.2.1.1
theorem aps9E {z0 z1 z2 z3 z4 z5 z6 z7 z8 : Addr} {P : Prop} (A : Aps [z0, z1, z2, z3, z4, z5, z6, z7, z8]) (k : Apt z0 z1 → Apt z0 z2 → Apt z0 z3 → Apt z0 z4 → Apt z0 z5 → Apt z0 z6 → Apt z0 z7 → Apt z0 z8 → Apt z1 z2 → Apt z1 z3 → Apt z1 z4 → Apt z1 z5 → Apt z1 z6 → Apt z1 z7 → Apt z1 z8 → Apt z2 z3 → Apt z2 z4 → Apt z2 z5 → Apt z2 z6 → Apt z2 z7 → Apt z2 z8 → Apt z3 z4 → Apt z3 z5 → Apt z3 z6 → Apt z3 z7 → Apt z3 z8 → Apt z4 z5 → Apt z4 z6 → Apt z4 z7 → Apt z4 z8 → Apt z5 z6 → Apt z5 z7 → Apt z5 z8 → Apt z6 z7 → Apt z6 z8 → Apt z7 z8 → P) : P := k A.1.1 A.1.2.1 A.1.2.2.1 A.1.2.2.2.1 A.1.2.2.2.2.1 A.1.2.2.2.2.2.1 A.1.2.2.2.2.2.2.1 A.1.2.2.2.2.2.2.2.1 A.2.1.1 A.2.1.2.1 A.2.1.2.2.1 A.2.1.2.2.2.1 A.2.1.2.2.2.2.1 A.2.1.2.2.2.2.2.1 A.2.1.2.2.2.2.2.2.1 A.2.2.1.1 A.2.2.1.2.1 A.2.2.1.2.2.1 A.2.2.1.2.2.2.1 A.2.2.1.2.2.2.2.1 A.2.2.1.2.2.2.2.2.1 A.2.2.2.1.1 A.2.2.2.1.2.1 A.2.2.2.1.2.2.1 A.2.2.2.1.2.2.2.1 A.2.2.2.1.2.2.2.2.1 A.2.2.2.2.1.1 A.2.2.2.2.1.2.1 A.2.2.2.2.1.2.2.1 A.2.2.2.2.1.2.2.2.1 A.2.2.2.2.2.1.1 A.2.2.2.2.2.1.2.1 A.2.2.2.2.2.1.2.2.1 A.2.2.2.2.2.2.1.1 A.2.2.2.2.2.2.1.2.1 A.2.2.2.2.2.2.2.1.1
structure TabD (prog : Program) (w : World) (dk tab tabD rl mo mr mp mf : Addr) (vs : List Value) (fz rest led : List (Addr × Obj)) (B : Nat) (nd mn : Addr) (t1 t2 : Tok) (no moo mno : Obj) (dvs : List Value) (dns : List Int) (dn n : Nat) (ms : List Value) (n2 : Nat) (kvs mkvs : List (Str × Value)) : Prop where
  eq : led = (dk, lst dvs dn) :: (tab, instObj 272 tabD) :: (tabD, tabO w.params rl nd t1 t2) :: (nd, no) :: (rl, lst vs n) :: (mo, moo) :: (mr, lst ms n2) :: (mn, mno) :: rest
  sub : ∀ p ∈ fz, p ∈ rest
  hv : IntsAre dvs dns
  hn : Low dns
  l1 : (nd == sysModules) = false
  l2 : (mn == sysModules) = false
  l3 : (mo == sysModules) = false
  d1 : no.IsDictOf (strKind prog w) kvs
  d2 : mno.IsDictOf (strKind prog w) mkvs
  d3 : moo.IsDictOf (strKind prog w) (modK mr mn mp mf)
  rows : RowsOk w.params fz vs
  rel : NamesRel w.params fz vs kvs mkvs
  nd9 : (kvs.map (·.1)).Nodup
  z1 : kvs.length ≤ vs.length
  z2 : ms.length = vs.length
  z3 : vs.length ≤ B
  z4 : 4 ≤ vs.length
  off : Off dk rest ∧ Off tab rest ∧ Off tabD rest ∧ Off nd rest ∧ Off rl rest ∧ Off mo rest ∧ Off mr rest ∧ Off mn rest
  ap : Aps [dk, tab, tabD, nd, rl, mo, mr, mn]
inductive TabSt (prog : Program) (w : World) (dk tab tabD rl mo mr mp mf : Addr) (vs : List Value) (fz rest led : List (Addr × Obj)) (B : Nat) : Prop
  | mk (nd mn : Addr) (t1 t2 : Tok) (no moo mno : Obj) (dvs : List Value) (dns : List Int) (dn n : Nat) (ms : List Value) (n2 : Nat) (kvs mkvs : List (Str × Value)) (D : TabD prog w dk tab tabD rl mo mr mp mf vs fz rest led B nd mn t1 t2 no moo mno dvs dns dn n ms n2 kvs mkvs)
end Mine
end PartP1
section PartNd
open PySem PySem.W PyProof.Rows PySem.Calls PySem.Spec Mine
namespace Mine
/-- the entries of a list at given places -/
noncomputable def at_ (l : List Addr) (is : List Nat) : List Addr := is.map fun i => l.getD i 0
theorem getD_el {l : List Addr} {i : Nat} (h : i < l.length) : l.getD i 0 = l[i] := by
  rw [List.getD_eq_getElem?_getD, List.getElem?_eq_getElem h]; rfl
theorem getD_ne {l : List Addr} (h : l.Nodup) {i j : Nat} (hi : i < l.length) (hj : j < l.length) (hn : i ≠ j) : l.getD i 0 ≠ l.getD j 0 := by
  rw [getD_el hi, getD_el hj]
  intro e
  exact hn ((List.getElem_inj h).mp e)
theorem at_mem {l : List Addr} {is : List Nat} (hb : is.all (· < l.length) = true) {b : Addr} (h : b ∈ at_ l is) : b ∈ l := by
  obtain ⟨i, hi, rfl⟩ := List.mem_map.mp h
  have hl := of_decide_eq_true (List.all_eq_true.mp hb i hi)
  show l.getD i 0 ∈ l
  rw [getD_el hl]
  exact List.getElem_mem hl
theorem at_nodup {l : List Addr} (h : l.Nodup) {is : List Nat} (hi : is.Nodup) (hb : is.all (· < l.length) = true) : (at_ l is).Nodup := by
  unfold at_
  rw [List.Nodup, List.pairwise_map]
  refine List.Pairwise.imp_of_mem (fun {a b} ha hb' hn => ?_) hi
  exact getD_ne h (of_decide_eq_true (List.all_eq_true.mp hb a ha)) (of_decide_eq_true (List.all_eq_true.mp hb b hb')) hn
theorem at_app {l : List Addr} {C : List Addr} (h : (l ++ C).Nodup) {is : List Nat} (hi : is.Nodup) (hb : is.all (· < l.length) = true) : (at_ l is ++ C).Nodup := by
  obtain ⟨h1, h2, h3⟩ := List.nodup_append.mp h
  exact List.nodup_append.mpr ⟨at_nodup h1 hi hb, h2, fun a ha b hb' => h3 a (at_mem hb ha) b hb'⟩
theorem Off.app {b : Addr} {l r : List (Addr × Obj)} (h1 : ∀ c ∈ l.map (·.1), c ≠ b) (h2 : Off b r) : Off b (l ++ r) := fun p hp => by
  rcases List.mem_append.mp hp with hp | hp
  · exact h1 p.1 (List.mem_map_of_mem hp)
  · exact h2 p hp
/-- chosen addresses stand off other chosen entries and a rest -/
theorem off_at {l : List Addr} (h : l.Nodup) {is js : List Nat} {X fz : List (Addr × Obj)} (hX : X.map (·.1) = at_ l js) (hij : (is ++ js).Nodup) (hb : (is ++ js).all (· < l.length) = true) (hfz : ∀ b ∈ l, Off b fz) : ∀ b ∈ at_ l is, Off b (X ++ fz) := by
  have hn := at_nodup h hij hb
  have e : at_ l (is ++ js) = at_ l is ++ at_ l js := List.map_append
  rw [e] at hn
  have h3 := (List.nodup_append.mp hn).2.2
  have hb1 : is.all (· < l.length) = true := by rw [List.all_append, Bool.and_eq_true] at hb; exact hb.1
  exact fun b hb' => Off.app (fun c hc e => h3 b hb' c (hX ▸ hc) e.symm) (hfz b (at_mem hb1 hb'))
theorem offc_at {l : List Addr} {C X fz : List (Addr × Obj)} {js : List Nat} (h : (l ++ C.map (·.1)).Nodup) (hX : X.map (·.1) = at_ l js) (hb : js.all (· < l.length) = true) (ho : ∀ q ∈ C, Off q.1 fz) : ∀ q ∈ C, Off q.1 (X ++ fz) :=
  fun q hq => Off.app (fun c hc => (List.nodup_append.mp h).2.2 c (at_mem hb (hX ▸ hc)) q.1 (List.mem_map_of_mem hq)) (ho q hq)
/-- back: the chain stands off all, when it stands off what was chosen and off the others -/
theorem all_back {l : List Addr} {C X fz : List (Addr × Obj)} {is js : List Nat} (h : l.Nodup) (hnd : (at_ l is ++ C.map (·.1)).Nodup) (hc : ∀ q ∈ C, Off q.1 (X ++ fz)) (hX : X.map (·.1) = at_ l js) (cov : ∀ i, i < l.length → i ∈ is ∨ i ∈ js) : (l ++ C.map (·.1)).Nodup := by
  obtain ⟨-, h2, h3⟩ := List.nodup_append.mp hnd
  refine List.nodup_append.mpr ⟨h, h2, fun a ha b hb => ?_⟩
  obtain ⟨i, hi, rfl⟩ := List.getElem_of_mem ha
  have e : l[i] = l.getD i 0 := (getD_el hi).symm
  rw [e]
  rcases cov i hi with hm | hm
  · exact h3 _ (List.mem_map_of_mem hm) b hb
  · obtain ⟨q, hq, rfl⟩ := List.mem_map.mp hb
    have : l.getD i 0 ∈ X.map (·.1) := hX ▸ (List.mem_map_of_mem hm)
    obtain ⟨x, hx, e2⟩ := List.mem_map.mp this
    rw [← e2]
    exact hc q hq x (List.mem_append_left _ hx)
/-- the eight and the others -/
theorem all_of {T8 : List Addr} {R C fz : List (Addr × Obj)} (hA : T8.Nodup) (hnd : (R.map (·.1) ++ C.map (·.1)).Nodup) (ho : ∀ b ∈ T8, Off b (R ++ (C ++ fz))) : (T8 ++ (R.map (·.1) ++ C.map (·.1))).Nodup := by
  refine List.nodup_append.mpr ⟨hA, hnd, fun b hb c hc e => ?_⟩
  rw [← List.map_append] at hc
  obtain ⟨q, hq, rfl⟩ := List.mem_map.mp hc
  refine ho b hb q ?_ e.symm
  rcases List.mem_append.mp hq with h | h
  · exact List.mem_append_left _ h
  · exact List.mem_append_right _ (List.mem_append_left _ h)
theorem fz_of {T8 : List Addr} {R C fz : List (Addr × Obj)} (ho : ∀ b ∈ T8, Off b (R ++ (C ++ fz))) (hr : ∀ b ∈ R.map (·.1), Off b fz) : ∀ b ∈ T8 ++ R.map (·.1), Off b fz := fun b hb => by
  rcases List.mem_append.mp hb with h | h
  · exact fun q hq => ho b h q (List.mem_append_right _ (List.mem_append_right _ hq))
  · exact hr b h
theorem off_rest {T8 : List Addr} {R C fz : List (Addr × Obj)} (hall : (T8 ++ (R.map (·.1) ++ C.map (·.1))).Nodup) (hfz : ∀ b ∈ T8, Off b fz) : ∀ b ∈ T8, Off b (R ++ (C ++ fz)) := fun b hb => by
  have h3 := (List.nodup_append.mp hall).2.2 b hb
  exact Off.app (fun c hc e => h3 c (List.mem_append_left _ hc) e.symm) (Off.app (fun c hc e => h3 c (List.mem_append_right _ hc) e.symm) (hfz b hb))
theorem off8 {a1 a2 a3 a4 a5 a6 a7 a8 : Addr} {r : List (Addr × Obj)} : (Off a1 r ∧ Off a2 r ∧ Off a3 r ∧ Off a4 r ∧ Off a5 r ∧ Off a6 r ∧ Off a7 r ∧ Off a8 r) ↔ ∀ b ∈ [a1, a2, a3, a4, a5, a6, a7, a8], Off b r := by
  simp only [List.forall_mem_cons, List.not_mem_nil, false_imp_iff, implies_true, and_true]
theorem off9 {a1 a2 a3 a4 a5 a6 a7 a8 a9 : Addr} {r : List (Addr × Obj)} (h : ∀ b ∈ [a1, a2, a3, a4, a5, a6, a7, a8, a9], Off b r) : Off a1 r ∧ Off a2 r ∧ Off a3 r ∧ Off a4 r ∧ Off a5 r ∧ Off a6 r ∧ Off a7 r ∧ Off a8 r ∧ Off a9 r := by
  simpa only [List.forall_mem_cons, List.not_mem_nil, false_imp_iff, implies_true, and_true] using h
theorem aps_nodup : ∀ {l : List Addr}, Aps l → l.Nodup
  | [], _ => List.nodup_nil
  | a :: l, h => by
    have go : ∀ {l : List Addr}, Aps1 a l → a ∉ l := by
      intro l
      induction l with
      | nil => intro _ h; cases h
      | cons b l ih =>
        intro h hm
        rcases List.mem_cons.mp hm with e | hm
        · exact h.1 e
        · exact ih h.2 hm
    exact List.nodup_cons.mpr ⟨go h.1, aps_nodup h.2⟩
/-- a ledger in four parts, its first and third chosen from a known part -/
theorem news4 {h₀ h : Heap} {L : Addr} {X C fz : List (Addr × Obj)} {n : Nat} (is js : List Nat) (N : News h₀ L h (X ++ (C ++ fz))) (hn : X.length = n) : News h₀ L h (sel X n is ++ (C ++ (sel X n js ++ fz))) := fun q hq => N q (by
  subst hn
  rcases List.mem_append.mp hq with h | h
  · exact List.mem_append_left _ (sel_sub _ _ _ _ h)
  rcases List.mem_append.mp h with h | h
  · exact List.mem_append_right _ (List.mem_append_left _ h)
  rcases List.mem_append.mp h with h | h
  · exact List.mem_append_left _ (sel_sub _ _ _ _ h)
  · exact List.mem_append_right _ (List.mem_append_right _ h))
/-- and back -/
theorem news4b {h₀ h : Heap} {L : Addr} {Y1 Y2 C fz : List (Addr × Obj)} (is : List Nat) (N : News h₀ L h (Y1 ++ (C ++ (Y2 ++ fz)))) : News h₀ L h (sel (Y1 ++ Y2) (Y1 ++ Y2).length is ++ (C ++ fz)) := fun q hq => N q (by
  rcases List.mem_append.mp hq with h | h
  · rcases List.mem_append.mp (sel_sub _ _ _ _ h) with h | h
    · exact List.mem_append_left _ h
    · exact List.mem_append_right _ (List.mem_append_right _ (List.mem_append_left _ h))
  rcases List.mem_append.mp h with h | h
  · exact List.mem_append_right _ (List.mem_append_left _ h)
  · exact List.mem_append_right _ (List.mem_append_right _ (List.mem_append_right _ h)))
end Mine
end PartNd
section PartQ2
open PySem PySem.W PyProof.Rows PySem.Calls PySem.Spec Mine
set_option maxHeartbeats 4000000
namespace Mine
theorem Mine.regQ21 : True := by
  k_with "subscriptTail" => (guard_hyp fl9 : Mine.Fl 15; ((k_here; (with_reducible show wpAny _ _ (subscriptTail _ (Expr.Slice none (some _) none _) (Value.str _ _) _) _ _ _); (with_reducible rename Fr _ _ _ _ => Fzq9); (with_reducible rename News _ _ _ _ => Nzq9); k_dflt (refine slice_strN_ns (hsz := (by assumption)) (s := ⟨_, _, _, _, _⟩) Fzq9 Nzq9 ?_); intro _ _ _ _ _)))
  exact trivial
theorem any01 {i : Nat} : (([0, 1] : List Int).any fun x => x == (i : Int)) = decide (i < 2) := by
  match i with
  | 0 => rfl
  | 1 => rfl
  | i + 2 =>
    have h0 : ¬ (i + 2 < 2) := by omega
    have h1 : ((0 : Int) == ((i + 2 : Nat) : Int)) = false := beq_eq_false_iff_ne.mpr (by omega)
    have h2 : ((1 : Int) == ((i + 2 : Nat) : Int)) = false := beq_eq_false_iff_ne.mpr (by omega)
    rw [decide_eq_false h0, List.any_cons, List.any_cons, List.any_nil, h1, h2]; rfl
theorem name_size {nm : Str} (h : nm ∈ allNames) : nm.length ≤ sizeLine := by
  have : ∀ x ∈ allNames, x.length ≤ 10 := by decide +kernel
  exact Nat.le_trans (this _ h) (by decide)
theorem name_colon {nm : Str} (h : nm ∈ allNames) : (Txt.slice nm none (some 1) == (":" : Str)) = decide (nm = ":k") := by
  have : ∀ x ∈ allNames, (Txt.slice x none (some 1) == (":" : Str)) = decide (x = ":k") := by decide +kernel
  exact this _ h
section
variable {prog : Program} {w : World} {p : Program} {loose : List Str} {mean : ExcName → Option Value} {mg mb : Str → Option Value}
 {dp un : Nat} {gd : Option (List Code)} {cn : Str} {cs : Scope} {a : Addr} {ccd : Value} {cl : List (Str × Addr)} {outer : List Env} {A₀ : Around} {base h₀ : Heap} {L : Addr} {m : Str → Option Value} {news : List (Addr × Obj)} {s : Shared} {Q E : Value → Shared → Prop}
theorem const_ok {x : Addr} {i : Nat} {nm : Str} (B : Below A₀ base outer h₀) (F : Fr h₀ L s.heap m) (X : (Mine.K w.params).In h₀) (N : News h₀ L s.heap news) (T : Top p loose mean mg mb h₀) (hk : cs.kind = .function) (hdp : dp ≤ 400) (hun : un ≤ 600)
   (S : SymOf w.params news x i nm) (hall : nm ∈ allNames)
   (ret : ∀ h' tk', Fr h₀ L h' m → News h₀ L h' news → Q (.bool (decide (i < 2) || decide (nm = ":k"))) { s with heap := h', toks := tk' }) :
   wpAny (model prog w) (ktrTop dp un gd cn cs L a ccd cl outer) (call (.ref 117) [.ref x]) Q E s := Mine.byKey fun kzq9 => Mine.Fam.of (by exact Mine.Fam.mk : Mine.Fam ((Mine.Key.unbox kzq9 (by simp only [Mine.Key.box kzq9 (by
  clear kzq9
  have fl9 : Mine.Fl 15 := Mine.Fl.mk
  have hsz := name_size hall
  refine wcall ?_
  k_dflt (k_extra "MY enter")
  clear F N
  k_steps
  · rename (List.any _ _ = true) => ha
    rw [ha]
    rw [any01] at ha
    rename Fr h₀ L _ _ => F9
    rename News h₀ L _ _ => N9
    have e := fun tk => ret _ tk F9 (fun q hq => N9 q (.tail _ hq))
    rw [ha, Bool.true_or] at e
    exact e _
  · rename (List.any _ _ = false) => ha
    rw [any01] at ha
    rename Fr h₀ L _ _ => F9
    rename News h₀ L _ _ => N9
    have e := fun tk => ret _ tk F9 (fun q hq => N9 q (.tail _ hq))
    rw [ha, Bool.false_or, ← name_colon hall] at e
    exact e _)])) :))
end
end Mine
end PartQ2
section PartH1
open PySem PySem.W PyProof.Rows PySem.Calls PySem.Spec Mine
set_option maxHeartbeats 1000000
namespace Mine
noncomputable abbrev consO (P : Params) (a d : Value) (t1 t2 : Tok) : Obj := dictOf [⟨PyData.keyHash P "car", .str "car" t1, a⟩, ⟨PyData.keyHash P "cdr", .str "cdr" t2, d⟩] 2
/-- a chain of conses: its items, and the ledger that holds it -/
inductive Ch (P : Params) : Value → List Value → List (Addr × Obj) → Prop
  | nil : Ch P (.ref 78) [] []
  | cons {c d : Addr} {a nx : Value} {as : List Value} {l : List (Addr × Obj)} {t1 t2 : Tok} : Ch P nx as l → Ch P (.ref c) (a :: as) ((c, instObj 99 d) :: (d, consO P a nx t1 t2) :: l)
theorem Ch.inv {P : Params} {v a : Value} {as : List Value} {l : List (Addr × Obj)} (h : Ch P v (a :: as) l) : ∃ c d nx l' t1 t2, v = .ref c ∧ l = (c, instObj 99 d) :: (d, consO P a nx t1 t2) :: l' ∧ Ch P nx as l' := by
  cases h with
  | cons h => exact ⟨_, _, _, _, _, _, rfl, rfl, h⟩
theorem Ch.inv0 {P : Params} {v : Value} {l : List (Addr × Obj)} (h : Ch P v [] l) : v = .ref 78 ∧ l = [] := by
  cases h with
  | nil => exact ⟨rfl, rfl⟩
/-- an item's place, and what a new item in it makes -/
theorem Ch.hole {P : Params} {as : List Value} {v : Value} {l : List (Addr × Obj)} (h : Ch P v as l) : ∀ (k : Nat) (a : Value), as[k]? = some a → ∃ c d nx t1 t2, l[2 * k]? = some (c, instObj 99 d) ∧ l[2 * k + 1]? = some (d, consO P a nx t1 t2) ∧ ∀ a', Ch P v (as.set k a') (l.set (2 * k + 1) (d, consO P a' nx t1 t2)) := by
  induction h with
  | nil => intro k a e; cases e
  | @cons c d b nx as l t1 t2 h' ih =>
    intro k a e
    cases k with
    | zero =>
      obtain rfl : b = a := Option.some.inj e
      exact ⟨c, d, nx, t1, t2, rfl, rfl, fun a' => .cons h'⟩
    | succ k =>
      obtain ⟨c', d', nx', u1, u2, h1, h2, h3⟩ := ih k a e
      refine ⟨c', d', nx', u1, u2, h1, h2, fun a' => ?_⟩
      exact .cons (h3 a')
/-- from a cons to the last one -/
noncomputable def ToEnd (P : Params) (l : List (Addr × Obj)) (e : Addr) : Nat → Value → Prop
  | 0, v => v = .ref e
  | n + 1, v => ∃ c d a c' t1 t2, v = .ref c ∧ (c, instObj 99 d) ∈ l ∧ (d, consO P a (.ref c') t1 t2) ∈ l ∧ (∃ d', (c', instObj 99 d') ∈ l) ∧ ToEnd P l e n (.ref c')
theorem ToEnd.mono {P : Params} {l l' : List (Addr × Obj)} {e : Addr} (h : ∀ p ∈ l, p ∈ l') : ∀ {n : Nat} {v : Value}, ToEnd P l e n v → ToEnd P l' e n v
  | 0, _, x => x
  | _ + 1, _, ⟨c, d, a, c', t1, t2, h1, h2, h3, ⟨d', h4⟩, h5⟩ => ⟨c, d, a, c', t1, t2, h1, h _ h2, h _ h3, ⟨d', h _ h4⟩, ToEnd.mono h h5⟩
theorem Ch.head {P : Params} {v : Value} {as : List Value} {l : List (Addr × Obj)} (h : Ch P v as l) : as = [] ∧ v = .ref 78 ∧ l = [] ∨ ∃ c d, v = .ref c ∧ (c, instObj 99 d) ∈ l := by
  cases h with
  | nil => exact .inl ⟨rfl, rfl, rfl⟩
  | cons h => exact .inr ⟨_, _, rfl, .head _⟩
theorem Ch.toEnd {P : Params} {as : List Value} {v : Value} {l : List (Addr × Obj)} (h : Ch P v as l) : as ≠ [] → ∃ n e d a l1 t1 t2, n < as.length ∧ ToEnd P l e n v ∧ l = l1 ++ [(d, consO P a (.ref 78) t1 t2)] ∧ (e, instObj 99 d) ∈ l1 ∧ ∀ nx as' l', Ch P nx as' l' → Ch P v (as ++ as') (l1 ++ (d, consO P a nx t1 t2) :: l') := by
  induction h with
  | nil => intro e; exact absurd rfl e
  | @cons c d a nx as l t1 t2 h' ih =>
    intro _
    cases as with
    | nil =>
      obtain ⟨rfl, rfl⟩ := h'.inv0
      exact ⟨0, c, d, a, [(c, instObj 99 d)], t1, t2, Nat.succ_pos _, rfl, rfl, .head _, fun nx as' l' h => .cons h⟩
    | cons b as =>
      obtain ⟨n, e, d', a', l1, u1, u2, hn, hT, hl1, hm, hc⟩ := ih (List.cons_ne_nil _ _)
      obtain ⟨c', d'', nx', l'', w1, w2, rfl, hl, -⟩ := h'.inv
      exact ⟨n + 1, e, d', a', (c, instObj 99 d) :: (d, consO P a (.ref c') t1 t2) :: l1, u1, u2, Nat.succ_lt_succ hn, ⟨c, d, a, c', t1, t2, rfl, .head _, .tail _ (.head _), ⟨d'', .tail _ (.tail _ (hl ▸ .head _))⟩, hT.mono fun q hq => .tail _ (.tail _ hq)⟩, by rw [hl1]; rfl, .tail _ (.tail _ hm), fun nx as' l' h => .cons (hc nx as' l' h)⟩
/-- the four keys -/
noncomputable def KeyV (xA : Addr) (k : Nat) (v : Value) : Prop := k = 0 ∧ v = .ref 81 ∨ (k = 1 ∧ ∃ t, v = .int 5 t ∧ t ≠ 0) ∨ k = 2 ∧ v = .ref xA ∨ (k = 3 ∧ ∃ t, v = .int (10 ^ 20) t ∧ t ≠ 0)
noncomputable def keyD (k : Nat) : Dat := if k = 0 then .str "t" else if k = 1 then .int 5 else if k = 2 then .str "x" else .int (10 ^ 20)
noncomputable def tokOf : Value → Tok | .int _ t => t | _ => 0
/-- the items of a chain, those of the row of it, and what both tell; D: what is known of each key -/
inductive PR (D : Nat → Value → Prop) : List Value → List Value → List (Nat × Int) → Prop
  | nil : PR D [] [] []
  | cons {k : Nat} {kv nv : Value} {v : Int} {t t' : Tok} {cs rs : List Value} {r : List (Nat × Int)} : D k kv → k < 4 → DatIn [] nv (keyD k) → PR D cs rs r → PR D (kv :: .int v t :: cs) (nv :: .int v t' :: rs) ((k, v) :: r)
noncomputable def flatD : List (Nat × Int) → List Dat
  | [] => []
  | (k, v) :: r => keyD k :: .int v :: flatD r
/-- the first place of a key -/
noncomputable def pos (k : Nat) : List (Nat × Int) → Option Nat
  | [] => none
  | (k', _) :: r => if k' = k then some 0 else (pos k r).map (· + 1)
section
variable {D D' : Nat → Value → Prop} {cs rs : List Value} {r : List (Nat × Int)}
theorem PR.mono (h : PR D cs rs r) (i : ∀ k v, D k v → D' k v) : PR D' cs rs r := by
  induction h with
  | nil => exact .nil
  | cons h1 h2 h3 _ ih => exact .cons (i _ _ h1) h2 h3 ih
theorem PR.dat (h : PR D cs rs r) : DatAll [] rs (flatD r) := by
  induction h with
  | nil => exact .nil
  | cons h1 h2 h3 _ ih => exact .cons h3 (.cons (.int _ _) ih)
theorem PR.len (h : PR D cs rs r) : cs.length = 2 * r.length ∧ rs.length = 2 * r.length := by
  induction h with
  | nil => exact ⟨rfl, rfl⟩
  | cons h1 h2 h3 _ ih => exact ⟨congrArg (· + 2) ih.1, congrArg (· + 2) ih.2⟩
theorem keyD_ok {k : Nat} : kqdOk 8 (keyD k) = true := by
  unfold keyD
  (repeat' split) <;> first | rfl | (show PyData.strOk _ = true; decide +kernel)
theorem flatD_ok : ∀ (r : List (Nat × Int)), ∀ d ∈ flatD r, kqdOk 8 d = true
  | [], d, h => by cases h
  | (k, v) :: r, d, h => by
    rcases List.mem_cons.mp h with rfl | h
    · exact keyD_ok
    rcases List.mem_cons.mp h with rfl | h
    · rfl
    · exact flatD_ok r d h
theorem tx_ne : ("t" : Str) ≠ "x" := by decide +kernel
theorem keyD_inj {k k' : Nat} (h : k < 4) (h' : k' < 4) : keyD k = keyD k' ↔ k = k' := by
  refine ⟨fun e => ?_, fun e => e ▸ rfl⟩
  have c : ∀ n, n < 4 → n = 0 ∨ n = 1 ∨ n = 2 ∨ n = 3 := fun _ h => lt4 h
  rcases c k h with rfl | rfl | rfl | rfl <;> rcases c k' h' with rfl | rfl | rfl | rfl <;> first | rfl | (exfalso; revert e; show ¬ (Dat.str _ = Dat.int _); intro e; cases e) | (exfalso; revert e; show ¬ (Dat.int _ = Dat.str _); intro e; cases e) | (exfalso; revert e; show ¬ (Dat.int 5 = Dat.int (10 ^ 20)); intro e; injection e with e; revert e; decide) | (exfalso; revert e; show ¬ (Dat.int (10 ^ 20) = Dat.int 5); intro e; injection e with e; revert e; decide) | (exfalso; revert e; show ¬ (Dat.str "t" = Dat.str "x"); intro e; injection e with e; exact tx_ne e) | (exfalso; revert e; show ¬ (Dat.str "x" = Dat.str "t"); intro e; injection e with e; exact tx_ne e.symm)
theorem PR.set (h : PR D cs rs r) {k : Nat} {j : Nat} (hj : pos k r = some j) (v : Int) (t t' : Tok) : ∃ r', PR D (cs.set (2 * j + 1) (.int v t)) (rs.set (2 * j + 1) (.int v t')) r' ∧ r'.length = r.length ∧ pos k r' = some j ∧ ∃ w, r'[j]? = some w ∧ w.2 = v := by
  induction h generalizing j with
  | nil => simp [pos] at hj
  | @cons k' kv nv v' u u' cs rs r h1 h2 h3 h4 ih =>
    unfold pos at hj
    by_cases e : k' = k
    · rw [if_pos e] at hj
      cases hj
      refine ⟨(k', v) :: r, .cons h1 h2 h3 h4, rfl, ?_, _, rfl, rfl⟩
      unfold pos
      rw [if_pos e]
    · rw [if_neg e] at hj
      obtain ⟨i, hi, rfl⟩ := Option.map_eq_some_iff.mp hj
      obtain ⟨r', g1, g2, g3, g4⟩ := ih hi
      refine ⟨(k', v') :: r', ?_, by simp [g2], ?_, by simpa using g4⟩
      · rw [show 2 * (i + 1) + 1 = 2 * i + 1 + 1 + 1 from rfl]
        exact .cons h1 h2 h3 g1
      · unfold pos
        rw [if_neg e, g3]
        rfl
theorem PR.snoc (h : PR D cs rs r) {k : Nat} {kv nv : Value} (hD : D k kv) (hk : k < 4) (hn : DatIn [] nv (keyD k)) (v : Int) (t t' : Tok) : PR D (cs ++ [kv, .int v t]) (rs ++ [nv, .int v t']) (r ++ [(k, v)]) := by
  induction h with
  | nil => exact .cons hD hk hn .nil
  | cons h1 h2 h3 _ ih => exact .cons h1 h2 h3 ih
theorem pos_snoc {k : Nat} {v : Int} : ∀ {r : List (Nat × Int)}, pos k r = none → pos k (r ++ [(k, v)]) = some r.length
  | [], _ => by simp [pos]
  | (k', w) :: r, h => by
    unfold pos at h
    by_cases e : k' = k
    · rw [if_pos e] at h; cases h
    · rw [if_neg e] at h
      have h' := Option.map_eq_none_iff.mp h
      show (if k' = k then some 0 else (pos k (r ++ [(k, v)])).map (· + 1)) = _
      rw [if_neg e, pos_snoc h']
      rfl
theorem pos_lt {k : Nat} : ∀ {r : List (Nat × Int)} {j : Nat}, pos k r = some j → j < r.length
  | [], _, h => by simp [pos] at h
  | (k', w) :: r, j, h => by
    unfold pos at h
    by_cases e : k' = k
    · rw [if_pos e] at h; cases h; exact Nat.succ_pos _
    · rw [if_neg e] at h
      obtain ⟨i, hi, rfl⟩ := Option.map_eq_some_iff.mp h
      exact Nat.succ_lt_succ (pos_lt hi)
/-- the pair at a place -/
theorem PR.at (h : PR D cs rs r) : ∀ {j : Nat}, j < r.length → ∃ k kv nv v t t', r[j]? = some (k, v) ∧ cs[2 * j]? = some kv ∧ cs[2 * j + 1]? = some (.int v t) ∧ rs[2 * j]? = some nv ∧ rs[2 * j + 1]? = some (.int v t') ∧ D k kv ∧ k < 4 ∧ DatIn [] nv (keyD k) := by
  induction h with
  | nil => intro j hj; exact absurd hj (Nat.not_lt_zero _)
  | @cons k kv nv v t t' cs rs r h1 h2 h3 h4 ih =>
    intro j hj
    cases j with
    | zero => exact ⟨k, kv, nv, v, t, t', rfl, rfl, rfl, rfl, rfl, h1, h2, h3⟩
    | succ j =>
      obtain ⟨k', kv', nv', v', u, u', g⟩ := ih (by simpa using hj)
      refine ⟨k', kv', nv', v', u, u', ?_⟩
      rw [show 2 * (j + 1) = 2 * j + 1 + 1 from rfl]
      simpa using g
theorem pos_at {k : Nat} : ∀ {r : List (Nat × Int)} {j : Nat} {k' : Nat} {v : Int}, pos k r = some j → r[j]? = some (k', v) → k' = k
  | [], _, _, _, h, _ => by simp [pos] at h
  | (k₀, w) :: r, j, k', v, h, e => by
    unfold pos at h
    by_cases q : k₀ = k
    · rw [if_pos q] at h; cases h
      simp only [List.getElem?_cons_zero, Option.some.injEq, Prod.mk.injEq] at e
      rw [← e.1]; exact q
    · rw [if_neg q] at h
      obtain ⟨i, hi, rfl⟩ := Option.map_eq_some_iff.mp h
      exact pos_at hi (by simpa using e)
/-- no earlier place holds the key -/
theorem pos_least {k : Nat} : ∀ {r : List (Nat × Int)} {i : Nat} {k' : Nat} {v : Int}, (∀ j, pos k r = some j → i < j) → r[i]? = some (k', v) → k' ≠ k
  | [], _, _, _, _, e => by simp at e
  | (k₀, w) :: r, i, k', v, h, e => by
    intro q
    unfold pos at h
    by_cases q2 : k₀ = k
    · have := h 0 (by rw [if_pos q2])
      omega
    · rw [if_neg q2] at h
      cases i with
      | zero => simp at e; exact q2 (e.1.trans q)
      | succ i => exact pos_least (r := r) (i := i) (fun j hj => by have := h (j + 1) (by rw [hj]; rfl); omega) (by simpa using e) q
end
end Mine
end PartH1
section PartX1
open PySem PySem.W PyProof.Rows PySem.Calls PySem.Spec
set_option maxHeartbeats 1000000
namespace Mine
noncomputable abbrev excBm : List Value := [.type "Exception", .type "BaseException", .type "object"]
theorem K38 (P : Params) : (Mine.K P).lookup 38 = some (excClassObj "LispSignal" "LispSignal" 38 37 [.type "Exception"] excBm true [] [] false none none (some (.ref 22)) none (some (.str "LispSignal" 196)) (some (.str "LispSignal" 204)) (some (.bool true)) "Exception.__new__") := by k_is
noncomputable abbrev es37 (P : Params) : Array DictEntry := #[⟨PyData.keyHash P "__module__", .str "__module__" 203, .str "emacs.errors" 194⟩, ⟨PyData.keyHash P "__firstlineno__", .str "__firstlineno__" 207, .int 5 206⟩,
  ⟨PyData.keyHash P "__init__", .str "__init__" 216, .ref 35⟩, ⟨PyData.keyHash P "__static_attributes__", .str "__static_attributes__" 219, .ref 36⟩, ⟨PyData.keyHash P "__weakref__", .str "__weakref__" 221, .ref 39⟩, ⟨PyData.keyHash P "__doc__", .str "__doc__" 222, .none⟩]
theorem K37 (P : Params) : (Mine.K P).lookup 37 = some { cls := .type "dict", data := .dict (es37 P) 3 } := by k_is
theorem K35 (P : Params) : ∃ o, (Mine.K P).lookup 35 = some o ∧ o.cls = .type "function" := ⟨_, by k_is, rfl⟩
theorem ns37 {P : Params} {h : Heap} (X : (Mine.K P).In h) : h.Ns 37 (nsFind (es37 P)) := ⟨_, _, _, X _ _ (K37 P), rfl, by
  intro e he
  simp only [es37, List.mem_toArray, List.mem_cons, List.not_mem_nil, or_false] at he
  rcases he with rfl | rfl | rfl | rfl | rfl | rfl <;> exact ⟨_, _, rfl⟩, fun _ => rfl⟩
theorem n37_init (P : Params) : nsFind (es37 P) "__init__" = some (.ref 35) := by rfl
theorem n37_a (P : Params) : nsFind (es37 P) "symbol" = none := by rfl
theorem n37_b (P : Params) : nsFind (es37 P) "data" = none := by rfl
theorem n37_c (P : Params) : nsFind (es37 P) "__setattr__" = none := by rfl
theorem n37_d (P : Params) : nsFind (es37 P) "__getattribute__" = none := by rfl
theorem n37_e (P : Params) : nsFind (es37 P) "__getattr__" = none := by rfl
theorem lk_symbol : typeLookup (.type "Exception") "symbol" = pure none := by rw [typeLookup_type, builtinLookup_eq_fast]; kernel_rfl
theorem lk_data : typeLookup (.type "Exception") "data" = pure none := by rw [typeLookup_type, builtinLookup_eq_fast]; kernel_rfl
section
variable {prog : Program} {w : World} {A : Around} {E : Value → Shared → Prop} {h : Heap} {g : Array GenState} {d : Drawn} {t : Nat} {os : OsState} {e D : Addr} {o : Obj} {mA : Str → Option Value} {v : Value}
theorem sig_check {M : Model} {P : Params} {nameV : Value} {Q : Unit → Shared → Prop} (X : (Mine.K P).In h) (hx : h.get? e = some o) (hc : o.cls = .ref 38) (hq : Q () ⟨h, g, d, t, os⟩) :
    wpAny M A (checkBuiltinCall "BaseException.__getattribute__" ⟨[.ref e, nameV], []⟩) Q E ⟨h, g, d, t, os⟩ := by
  have hC := X _ _ (K38 P)
  have hk : builtinKind "BaseException.__getattribute__" = some .slot := by decide +kernel
  have hsplit : splitId "BaseException.__getattribute__" = some ("BaseException", "__getattribute__") := by decide +kernel
  have hcB : (Value.ref 38 :: excBm).contains (.type "BaseException") = true := by decide +kernel
  have ha := F.args_bexc_ga (.ref e) nameV
  simp only [checkBuiltinCall, hk, hsplit]
  refine wpAny_bind ?_
  · unfold isInstance
    repeat (first | (with_reducible refine wpAny_loadPart_at hx ?_; rw [hc]) | (with_reducible refine wpAny_isSubtype_exc hC ?_; rw [hcB]) | wp_step)
    exact hq
theorem sig_entry {P : Params} {tk : Tok} {Q : Fin → Shared → Prop} (X : (Mine.K P).In h) (hx : h.get? e = some o) (hc : o.cls = .ref 38) (hnc : ∀ c, o.data ≠ .cls c) (hD : o.dict = some D) (hn : h.Ns D mA) (hv : mA "symbol" = some v) (hq : Q (.done (.ret v)) ⟨h, g, d, t, os⟩) :
    wpAny (model prog w) A (Builtin.«object.__getattribute__» ⟨[.ref e, .str "symbol" tk], []⟩) Q E ⟨h, g, d, t, os⟩ := by
  have hC := X _ _ (K38 P)
  have hN := ns37 X
  have m1 := PySem.F.excBase_Exception.mroIs
  unfold Builtin.«object.__getattribute__»
  repeat (first | (with_reducible refine wpAny_loadPart_at hx ?_; rw [hc]) | (with_reducible refine wpAny_typeLookup_exc hC hN m1 lk_symbol ?_; rw [n37_a P]) | wp_step)
  split
  · rename_i c hcd
    exact absurd hcd (hnc c)
  unfold instanceDict
  repeat (first | (with_reducible refine wpAny_loadPart_at hx ?_; rw [hc]) | with_reducible refine wpAny_loadPart_at hC ?_ | wp_step)
  rw [hD]
  repeat (first | (with_reducible refine wpAny_nsGet hn ?_; rw [hv]) | wp_step)
  exact hq
theorem sig_get {P : Params} {expr : Bool} {Q : Value → Shared → Prop} (X : (Mine.K P).In h) (hx : h.get? e = some o) (hc : o.cls = .ref 38) (hnc : ∀ c, o.data ≠ .cls c) (hD : o.dict = some D) (hn : h.Ns D mA) (hv : mA "symbol" = some v) (hh : handedOut v = pure v) (hq : Q v ⟨h, g, d, t + 1, os⟩) :
    wpAny (model prog w) A (getAttr (.ref e) "symbol" expr) Q E ⟨h, g, d, t, os⟩ := by
  have hC := X _ _ (K38 P)
  have hN := ns37 X
  have m1 := PySem.F.excBase_Exception.mroIs
  have FB := PySem.F.attrBase_Exception
  have f3 := FB.ga.bind (.ref e)
  have hx0 : (expr && onTheHeap (Value.builtin "BaseException.__getattribute__")) = false := by cases expr <;> rfl
  have hx2 : (Value.builtin "BaseException.__getattribute__" == Value.builtin "object.__getattribute__") = false := by decide +kernel
  have hx1 : (onTheHeap (Value.ref 38) && Value.builtin "BaseException.__getattribute__" == Value.builtin "object.__getattribute__") = false := by rw [hx2]; rfl
  have go : ∀ {fill expr' : Bool} {tk : Tok}, (expr' && onTheHeap (Value.builtin "BaseException.__getattribute__")) = false → wpAny (model prog w) A (getAttrBy (.ref e) (.str "symbol" tk) fill expr') Q E ⟨h, g, d, t + 1, os⟩ := by
    intro fill expr' tk hx0
    repeat (any_goals (first | assumption | (with_reducible refine wpAny_loadPart_at hx ?_; rw [hc]) | (with_reducible refine wpAny_typeLookup_exc hC hN m1 FB.ga.lookup ?_; rw [n37_d P]) | (with_reducible refine wpAny_typeLookup_exc hC hN m1 FB.noGetattr ?_; rw [n37_e P]) | wp_step))
    refine codeAny_call_builtin FB.ga.plain F.entry_bexc_ga (sig_check X hx hc (sig_entry X hx hc hnc hD hn hv ?_))
    repeat (any_goals (first | assumption | wp_step))
    all_goals (try rw [hh])
    repeat (any_goals (first | assumption | wp_step))
  unfold getAttr
  repeat (any_goals (first | assumption | with_reducible apply go | wp_step))
end
end Mine
end PartX1
section PartX2
open PySem PySem.W PyProof.Rows PySem.Calls PySem.Spec
open Builtin Builtin.ObjectAttr
set_option maxHeartbeats 2000000
namespace Mine
noncomputable abbrev sigO (D : Option Addr) (ta : Addr) : Obj := { cls := .ref 38, dict := D, data := .fields #[.ref ta, .none, .none, .none, .bool false, .none] }
section
variable {prog : Program} {w : World} {A : Around} {E : Value → Shared → Prop} {h : Heap} {g : Array GenState} {d : Drawn} {t : Nat} {os : OsState} {e D ta : Addr} {o : Obj} {mA : Str → Option Value} {v : Value} {name : Str}
theorem sig_entry1 {P : Params} {tk : Tok} {Q : Fin → Shared → Prop} (X : (Mine.K P).In h) (hx : h.get? e = some o) (hc : o.cls = .ref 38) (hdn : o.dict = none) (hnc : ∀ c, o.data ≠ .cls c) (hfr : o.isFreed = false) (hna : nsFind (es37 P) name = none) (hB : typeLookup (.type "Exception") name = pure none)
    (hq : ∀ h' tk', h'.get? e = some { cls := o.cls, dict := some h.objs.size, data := o.data, slots := o.slots } → h'.Ns1 h.objs.size (fun y => if y = name then some v else none) → (∀ b o, b ≠ e → h.get? b = some o → h'.get? b = some o) → Q (.done (.ret .none)) ⟨h', g, d, tk', os⟩) :
    wpAny (model prog w) A (Builtin.«object.__setattr__» ⟨[.ref e, .str name tk, v], []⟩) Q E ⟨h, g, d, t, os⟩ := by
  have hC := X _ _ (K38 P)
  have hN := ns37 X
  have SF := PySem.F.store_Exception
  have hpass := SF.passes (.ref e)
  unfold Builtin.«object.__setattr__»
  repeat (first | rw [refuse_eq] | (rw [refuseLoop_ref, hpass]) | (with_reducible refine wpAny_loadPart_at hx ?_; rw [hc]) | with_reducible refine wpAny_mroOf_exc hC ?_ | (with_reducible refine wpAny_typeLookup_exc hC hN SF.mro hB ?_; rw [hna]) | wp_step)
  rw [hdn, if_neg (by simp [typeHasDict])]
  split
  · rename_i hcd
    cases hcd
  split
  · rename_i c hcd
    exact absurd hcd (hnc c)
  have hx₁ : (h.push { cls := .type "dict", data := .dict #[] }).get? e = some o := Heap.get?_push_of_some _ hx
  have hxs : e ≠ h.objs.size := Nat.ne_of_lt (Heap.lt_size hx)
  refine wpAny_bind (wpAny_alloc' ?_)
  refine wpAny_bind (wpAny_update' hx₁ ?_)
  refine wpAny_pure ?_
  have hgd : ((h.push { cls := .type "dict", data := .dict #[] }).update e fun o => { cls := o.cls, dict := some h.objs.size, data := o.data, slots := o.slots }).get? h.objs.size = some { cls := .type "dict", data := .dict #[] } :=
    (Heap.get?_update_ne _ _ _ _ hxs.symm).trans (Heap.get?_push_at rfl rfl)
  have hnd : ((h.push { cls := .type "dict", data := .dict #[] }).update e fun o => { cls := o.cls, dict := some h.objs.size, data := o.data, slots := o.slots }).Ns h.objs.size (fun _ => none) :=
    ⟨_, #[], _, hgd, rfl, fun e he => absurd he (by simp), fun _ => rfl⟩
  show wpAny _ _ (storeInDict h.objs.size (.str name tk) name v) _ _ _
  unfold storeInDict newKeyGuard
  refine wpAny_bind (wpAny_pure (wpAny_bind (wpAny_nsSet1 (Heap.Ns1.of_empty hnd) fun h' hn' hs => ?_)))
  obtain ⟨oD, esD, epD, hoD, hdD, hcD⟩ := hn'.count (Within.cons name v Within.nil)
  refine wpAny_bind (wpAny_lookBehind hoD (by rw [hdD]; exact pastItsLine_dict (Nat.le_trans hcD (by rw [List.length_cons, List.length_nil, sizeLine_eq]; omega))) ?_)
  wp_walk
  refine hq h' _ ((hs.2 e hxs).trans (Heap.get?_update_self _ hx₁ ?_)) hn' fun b o hb ho => ?_
  · obtain ⟨oc, od, odt, osl⟩ := o
    cases odt <;> first | rfl | exact hfr
  · exact (hs.2 b (Nat.ne_of_lt (Heap.lt_size ho))).trans ((Heap.get?_update_ne _ _ _ _ hb).trans (Heap.get?_push_of_some _ ho))
theorem sig_entry2 {P : Params} {tk : Tok} {Q : Fin → Shared → Prop} {ns : List Str} (X : (Mine.K P).In h) (hx : h.get? e = some o) (hc : o.cls = .ref 38) (hdD : o.dict = some D) (hns : h.Ns1 D mA) (hna : nsFind (es37 P) name = none) (hB : typeLookup (.type "Exception") name = pure none)
    (hq : ∀ h' tk', h'.Ns1 D (fun y => if y = name then some v else mA y) → (∀ b o, b ≠ D → h.get? b = some o → h'.get? b = some o) → Q (.done (.ret .none)) ⟨h', g, d, tk', os⟩) (hw : Within mA ns) (hsz : ns.length ≤ 100) :
    wpAny (model prog w) A (Builtin.«object.__setattr__» ⟨[.ref e, .str name tk, v], []⟩) Q E ⟨h, g, d, t, os⟩ := by
  have hC := X _ _ (K38 P)
  have hN := ns37 X
  have SF := PySem.F.store_Exception
  have hpass := SF.passes (.ref e)
  unfold Builtin.«object.__setattr__»
  repeat (first | rw [refuse_eq] | (rw [refuseLoop_ref, hpass]) | (with_reducible refine wpAny_loadPart_at hx ?_; rw [hc]) | with_reducible refine wpAny_mroOf_exc hC ?_ | (with_reducible refine wpAny_typeLookup_exc hC hN SF.mro hB ?_; rw [hna]) | wp_step)
  rw [hdD]
  refine wpAny_pure ?_
  show wpAny _ _ (storeInDict D (.str name tk) name v) _ _ _
  unfold storeInDict newKeyGuard
  refine wpAny_bind (wpAny_pure (wpAny_bind (wpAny_nsSet1 hns fun h' hn' hs => ?_)))
  obtain ⟨oD, esD, epD, hoD, hdE, hcD⟩ := hn'.count (Within.cons name v hw)
  refine wpAny_bind (wpAny_lookBehind hoD (by rw [hdE]; exact pastItsLine_dict (Nat.le_trans hcD (by rw [List.length_cons, sizeLine_eq]; omega))) ?_)
  wp_walk
  exact hq h' _ hn' fun b o hb ho => (hs.2 b hb).trans ho
end
end Mine
end PartX2
section PartX3
open PySem PySem.W PyProof.Rows PySem.Calls PySem.Spec
open Builtin Builtin.ObjectAttr
set_option maxHeartbeats 400000
namespace Mine
noncomputable def IsNs (o : Obj) (m : Str → Option Value) : Prop := ∃ es ep, o.data = .dict es ep ∧ StrKeys es ∧ UniqKeys es ∧ ∀ name, nsFind es name = m name
theorem IsNs.ns1 {o : Obj} {m : Str → Option Value} {h : Heap} {D : Addr} (x : IsNs o m) (e : h.get? D = some o) : h.Ns1 D m := let ⟨es, ep, a, b, c, d⟩ := x; ⟨o, es, ep, e, a, b, c, d⟩
theorem IsNs.of {m : Str → Option Value} {h : Heap} {D : Addr} (x : h.Ns1 D m) : ∃ o, h.get? D = some o ∧ IsNs o m := let ⟨o, es, ep, e, a, b, c, d⟩ := x; ⟨o, e, es, ep, a, b, c, d⟩
section
variable {prog : Program} {w : World} {A : Around} {E : Value → Shared → Prop} {s : Shared} {h₀ : Heap} {L : Addr} {m : Str → Option Value} {news : List (Addr × Obj)} {e D ta : Addr} {oD : Obj} {mA : Str → Option Value} {v : Value} {name : Str}
theorem fs38 (P : Params) : findIn (Mine.K P) (.ref 38) "__setattr__" = some (some (.builtin "object.__setattr__")) := by k_is
theorem sig_attr {P : Params} {o : Obj} {od : Option Obj} {Q : Unit → Shared → Prop} (X : (Mine.K P).In s.heap) (I : InstAt s.heap e o 38 od)
    (h : ∀ (A' : Around) tk t', wpAny (model prog w) A' (Builtin.«object.__setattr__» ⟨[.ref e, .str name tk, v], []⟩) (fun fin s' => fin = .done (.ret .none) ∧ Q () s') (fun _ _ => False) { s with toks := t' }) :
    wpAny (model prog w) A (setAttr (.ref e) name v) Q E s := by
  have SF := PySem.F.store_Exception
  refine set_plain X I (fs38 P) ?_
  have hC := X _ _ (K38 P)
  have hx := I.at_
  have hc := I.cls
  refine codeAny_call_builtin SF.slot.plain SF.entry ?_
  have key : ∀ {Q' : Unit → Shared → Prop} {E' : Value → Shared → Prop} {A' : Around} {nV : Value}, Q' () { s with toks := s.toks + 1 } → wpAny (model prog w) A' (checkBuiltinCall "object.__setattr__" ⟨[.ref e, nV, v], []⟩) Q' E' { s with toks := s.toks + 1 } := by
    intro Q' E' A' nV hq
    have z := @wpAny_check_sa A' E' s.heap s.gens s.drawn (s.toks + 1) s.os
    have z1 := @z (Str.ofString "LispSignal") (Str.ofString "LispSignal") 38 37 e [.type "Exception"] excBm [] [] false none none (some (.ref 22)) none (some (.str "LispSignal" 196)) (some (.str "LispSignal" 204)) (some (.bool true)) "Exception" "Exception.__new__" "object.__setattr__" "object" v (model prog w) o nV Q' 
    clear z
    have z2 := z1 SF
    have z3 := z2 hC
    exact z3 hx hc hq
  with_reducible refine key ?_
  refine wpAny_mono (h _ _ _) (fun fin s' q => ?_) fun _ _ q => q.elim
  obtain ⟨rfl, q⟩ := q
  exact q
theorem sig_set1 {Q : Unit → Shared → Prop} (F : Fr h₀ L s.heap m) (X : (Mine.K w.params).In h₀) (N : News h₀ L s.heap ((e, sigO none ta) :: news)) (hap : ∀ p ∈ news, p.1 ≠ e)
    (h : ∀ h' tk D oD, Fr h₀ L h' m → News h₀ L h' ((D, oD) :: (e, sigO (some D) ta) :: news) → e < D → (∀ p ∈ news, p.1 < D) → IsNs oD (fun y => if y = "symbol" then some v else none) → Q () { s with heap := h', toks := tk }) :
    wpAny (model prog w) A (setAttr (.ref e) "symbol" v) Q E s := by
  have hx := N _ (.head _)
  refine sig_attr (X.keeps F.keep) (⟨hx.1, rfl, rfl, trivial⟩ : InstAt s.heap e (sigO none ta) 38 none) fun A' tk t' => ?_
  refine sig_entry1 (h := s.heap) (g := s.gens) (d := s.drawn) (os := s.os) (X.keeps F.keep) hx.1 rfl rfl (by intro c q; cases q) rfl (n37_a _) lk_symbol fun h' tk' h1 h2 h3 => ⟨rfl, ?_⟩
  obtain ⟨oD, h4, h5⟩ := IsNs.of h2
  have hL : L ≠ e := fun q => hx.2.1 q.symm
  refine h h' tk' _ oD ?_ (fun q hq => ?_) (Heap.lt_size hx.1) (fun p hp => Heap.lt_size (N p (.tail _ hp)).1) h5
  · obtain ⟨oL, a1, a2, hoL, a3⟩ := F.ns
    exact ⟨⟨oL, a1, a2, h3 _ _ hL hoL, a3⟩, fun b o q => h3 _ _ (fun z => by have := hx.2.2; rw [← z, q] at this; cases this) (F.keep b o q), F.above⟩
  · rcases List.mem_cons.mp hq with rfl | hq
    · exact ⟨h4, Nat.ne_of_gt F.ns.lt, none_at_size F⟩
    rcases List.mem_cons.mp hq with rfl | hq
    · exact ⟨h1, hx.2⟩
    · exact ⟨h3 _ _ (hap q hq) (N q (.tail _ hq)).1, (N q (.tail _ hq)).2⟩
theorem sig_set2 {ns : List Str} {Q : Unit → Shared → Prop} (F : Fr h₀ L s.heap m) (X : (Mine.K w.params).In h₀) (N : News h₀ L s.heap ((D, oD) :: (e, sigO (some D) ta) :: news)) (hne : e ≠ D) (hap : ∀ p ∈ news, p.1 ≠ D) (hD : IsNs oD mA) (hw : Within mA ns) (hz : ns.length ≤ 100)
    (h : ∀ h' tk oD', Fr h₀ L h' m → News h₀ L h' ((D, oD') :: (e, sigO (some D) ta) :: news) → IsNs oD' (fun y => if y = "data" then some v else mA y) → Q () { s with heap := h', toks := tk }) :
    wpAny (model prog w) A (setAttr (.ref e) "data" v) Q E s := by
  have hx := N _ (.tail _ (.head _))
  have hd := N _ (.head _)
  refine sig_attr (X.keeps F.keep) (⟨hx.1, rfl, rfl, hd.1⟩ : InstAt s.heap e (sigO (some D) ta) 38 (some oD)) fun A' tk t' => ?_
  refine sig_entry2 (h := s.heap) (g := s.gens) (d := s.drawn) (os := s.os) (X.keeps F.keep) hx.1 rfl rfl (hD.ns1 hd.1) (n37_b _) lk_data (fun h' tk' h2 h3 => ⟨rfl, ?_⟩) hw hz
  obtain ⟨oD', h4, h5⟩ := IsNs.of h2
  have hL : L ≠ D := fun q => hd.2.1 q.symm
  refine h h' tk' oD' ?_ (fun q hq => ?_) h5
  · obtain ⟨oL, a1, a2, hoL, a3⟩ := F.ns
    exact ⟨⟨oL, a1, a2, h3 _ _ hL hoL, a3⟩, fun b o q => h3 _ _ (fun z => by have := hd.2.2; rw [← z, q] at this; cases this) (F.keep b o q), F.above⟩
  · rcases List.mem_cons.mp hq with rfl | hq
    · exact ⟨h4, hd.2⟩
    rcases List.mem_cons.mp hq with rfl | hq
    · exact ⟨h3 _ _ hne hx.1, hx.2⟩
    · exact ⟨h3 _ _ (hap q hq) (N q (.tail _ (.tail _ hq))).1, (N q (.tail _ (.tail _ hq))).2⟩
/-- the class called: an exception that is to be laid out by its __init__ -/
theorem sig_make {v1 v2 : Value} {Q : Value → Shared → Prop} (F : Fr h₀ L s.heap m) (X : (Mine.K w.params).In h₀) (N : News h₀ L s.heap news)
    (h : ∀ h' e ta, Fr h₀ L h' m → News h₀ L h' ((e, sigO none ta) :: (ta, { cls := .type "tuple", data := .seq #[v1, v2] }) :: news) → (∀ p ∈ news, p.1 ≠ e) → ta ≠ e →
      wpAny (model prog w) (A.under (.builtin "type.__call__" ⟨[.ref 38, v1, v2], []⟩)) (call (.ref 35) [.ref e, v1, v2]) (fun r s' => r = .none ∧ Q (.ref e) s') E { s with heap := h' }) :
    wpAny (model prog w) A (call (.ref 38) [v1, v2]) Q E s := by
  obtain ⟨hp, g, d, t, os⟩ := s
  have XX := X.keeps F.keep
  obtain ⟨o35, h35, hc35⟩ := K35 w.params
  refine wpAny_call_exc_init PySem.F.excBase_Exception (XX _ _ (K38 _)) (ns37 XX) (n37_init _) (XX _ _ h35) hc35 fun h' e hm => ?_
  obtain ⟨ta, h1, h2, h3⟩ := hm.there
  have none_of : ∀ b, hp.get? b = none → h₀.get? b = none := fun b hb => by
    cases q : h₀.get? b with
    | none => rfl
    | some o => have := F.keep _ _ q; rw [show hp.get? b = none from hb] at this; cases this
  have ne_L : ∀ b, hp.get? b = none → b ≠ L := fun b hb q => by
    obtain ⟨oL, _, _, hoL, _⟩ := F.ns
    rw [q, show hp.get? L = some oL from hoL] at hb
    cases hb
  refine h h' e ta (F.keeps hm.keeps) (fun q hq => ?_) (fun q hq z => ?_) fun z => ?_
  · rcases List.mem_cons.mp hq with rfl | hq
    · exact ⟨h1, ne_L _ hm.new, none_of _ hm.new⟩
    rcases List.mem_cons.mp hq with rfl | hq
    · exact ⟨h3, ne_L _ h2, none_of _ h2⟩
    · exact ⟨hm.keeps _ _ (N q hq).1, (N q hq).2⟩
  · have := (N q hq).1
    rw [z, show hp.get? e = none from hm.new] at this
    cases this
  · rw [z, h1] at h3
    cases h3
end
end Mine
end PartX3
section PartX4
open PySem PySem.W PyProof.Rows PySem.Calls PySem.Spec
set_option maxHeartbeats 1000000
namespace Mine
/-- e's own dict stays the one it is -/
noncomputable def DictAt (h : Heap) (e : Addr) (dd : Option Addr) : Prop := ∃ o, h.get? e = some o ∧ o.dict = dd
section
variable {M : Model} {A : Around} {E : Value → Shared → Prop} {s : Shared} {base : Heap} {env : Env} {l outer : List Env} {L e : Addr} {oe : Obj} {vs : Array Value} {cls a0 fl head : Value} {Q : Unit → Shared → Prop}
theorem mapFields_dict (f : Array Value → Array Value) (o : Obj) : (Obj.mapFields f o).dict = o.dict := by
  obtain ⟨c, d, da, sl⟩ := o
  cases da <;> rfl
theorem sig_newEntry {hadNext : Bool} (hfr : A.frames = some (env :: outer)) (hl : s.heap.FunFrames base (env :: outer)) (hf : env.frame = some L)
    (he : s.heap.get? e = some oe) (hkb : base.StaysIn s.heap) (hen : base.get? e = none) (hd : oe.data = .fields vs) (hsz : 1 < vs.size) (h0 : vs[0]? = some a0)
    (h : ∀ h', Heap.NotedW base (env :: outer) e oe.cls a0 (rawInt L) s.heap h' → DictAt h' e oe.dict → Q () { s with heap := h' }) :
    wpAny M A (do let a ← frameOf env; let pl ← entryPlaceOf L hadNext; let b ← EntryCells.newEntry head a .none (rawInt L) .none pl; setField (.ref e) 1 b) Q E s := by
  have hene : e ∉ (env :: outer).filterMap (·.frame) := fun hm => by
    obtain ⟨_, o, ho, hnf⟩ := hl.mem hm
    rw [he] at ho
    cases ho
    exact hnf vs hd
  refine wpAny_bind (wpAny_frameOf_fun hfr hl hf fun h₁ hs₁ => ?_)
  refine wpAny_bind (wpAny_entryPlaceOf fun pl hpl => ?_)
  unfold EntryCells.newEntry newFields
  refine wpAny_bind (wpAny_newObj_type ?_ (hpl.sizeOk5 _ _ _ _ _))
  have he₁ : h₁.get? e = some oe := (hs₁.2.1 e hene).trans he
  have kb₁ : base.StaysIn h₁ := fun b o hbo => (hs₁.2.1 b fun hm => by rw [(hl.mem hm).1] at hbo; cases hbo).trans (hkb b o hbo)
  generalize hT : ({ cls := .type "traceback", dict := none, data := .fields ([head, .ref L, .none, rawInt L, .none] ++ (if pl.isEmpty then List.replicate 6 Value.none else pl)).toArray } : Obj) = oT
  have hTd : oT.data = .fields ([head, .ref L, .none, rawInt L, .none] ++ (if pl.isEmpty then List.replicate 6 Value.none else pl)).toArray := by rw [← hT]
  have hTf : oT.isFreed = false := by rw [← hT]; rfl
  have he₂ := Heap.get?_push_of_some (h := h₁) oT he₁
  have hTe : h₁.objs.size ≠ e := Nat.ne_of_gt (Heap.lt_size he₁)
  have hd₃ := Obj.data_mapFields hd (·.setIfInBounds 1 (Value.ref h₁.objs.size))
  have he₃ := Heap.get?_update_self (Obj.mapFields (·.setIfInBounds 1 (Value.ref h₁.objs.size))) he₂ (Obj.isFreed_of_fields hd₃)
  have hT₃ := (Heap.get?_update_other (h₁.push oT) (Obj.mapFields (·.setIfInBounds 1 (Value.ref h₁.objs.size))) (Ne.symm hTe)).trans (Heap.get?_push_size h₁ hTf)
  refine wpAny_setField he₂ hd hsz (h _ ?_ ⟨_, he₃, mapFields_dict _ _⟩)
  have keep : ∀ b o, b ≠ e → h₁.get? b = some o → ((h₁.push oT).update e (Obj.mapFields (·.setIfInBounds 1 (Value.ref h₁.objs.size)))).get? b = some o := fun b o hbe hb => by
    rw [Heap.get?_update_other _ _ (Ne.symm hbe)]
    exact Heap.get?_push_of_some _ hb
  have noRecord : ∀ b o, s.heap.get? b = some o → (∀ vs, o.data ≠ .fields vs) → b ≠ e := fun b o hb hnf q => by
    rw [q, he] at hb
    cases hb
    exact hnf vs hd
  refine ⟨fun b o hbo => keep b o (fun q => by rw [q, hen] at hbo; cases hbo) (kb₁ b o hbo), hl.of_keeps fun b o hb hnf => ?_, ?_, fun b o hb hnf => ?_⟩
  · obtain ⟨sl, hs⟩ := hs₁.2.2 b o hb
    exact ⟨_, keep b _ (noRecord b o hb hnf) hs, rfl⟩
  · exact ⟨_, _, h₁.objs.size, _, _, he₃, ⟨Obj.cls_mapFields _ _, by rw [Array.getElem?_setIfInBounds_ne (by decide)]; exact h0⟩, hd₃, by simp [hsz], kb₁.fresh, hTe, hT₃, hTd, by first | (simp; done) | (rcases hpl with rfl | ⟨_, _, _, _, _, _, _, rfl⟩ <;> simp)⟩
  · obtain ⟨sl, hs⟩ := hs₁.2.2 b o hb
    exact ⟨sl, keep b _ (noRecord b o hb hnf) hs⟩
theorem sig_unflight (hkb : base.StaysIn s.heap) (hl : s.heap.FunFrames base l) (ht : s.heap.TracedAtW base e cls a0 fl) {dd : Option Addr} (hdd : DictAt s.heap e dd)
    (h : ∀ h', base.StaysIn h' → h'.FunFrames base l → h'.TracedW base e cls a0 → s.heap.UpToSlots h' → DictAt h' e dd → Q () { s with heap := h' }) :
    wpAny M A (setFlight (.ref e) none) Q E s := by
  obtain ⟨oe, vs, T, oT, ts, he, hcls, hd, h1, hnT, hTe, hT, hdT, h3⟩ := ht
  have hsz3 : 3 < ts.size := (Array.getElem?_eq_some_iff.mp h3).1
  have other : ∀ b, b ≠ T → (s.heap.update T (Obj.mapFields (·.setIfInBounds 3 ((none : Option Addr).elim Value.none fun f => rawInt f)))).get? b = s.heap.get? b :=
    fun b hb => Heap.get?_update_other _ _ (Ne.symm hb)
  have noRecord : ∀ b o, s.heap.get? b = some o → (∀ vs, o.data ≠ .fields vs) → b ≠ T := fun b o hb hnf q => by
    rw [q, hT] at hb
    cases hb
    exact hnf ts hdT
  unfold setFlight
  refine wpAny_bind (wpAny_field he hd h1 ?_)
  rw [if_pos (show (Value.ref T != Value.none) = true from by simp)]
  refine wpAny_setField hT hdT hsz3 (h _ (fun b o hbo => (other b fun q => by rw [q, hnT] at hbo; cases hbo).trans (hkb b o hbo))
    (hl.of_keeps fun b o hb hnf => ⟨o, (other b (noRecord b o hb hnf)).trans hb, rfl⟩) ?_ (fun b o hb hnf => ⟨o.slots, (other b (noRecord b o hb hnf)).trans hb⟩) ?_)
  · exact ⟨oe, vs, T, _, _, (other e (Ne.symm hTe)).trans he, hcls, hd, h1, hnT, hTe, Heap.get?_update_self _ hT (Obj.isFreed_of_fields (Obj.data_mapFields hdT _)), Obj.data_mapFields hdT _, by simp [hsz3]⟩
  · obtain ⟨o, ho, hod⟩ := hdd
    exact ⟨o, (other e (Ne.symm hTe)).trans ho, hod⟩
/-- a new signal leaves the frame where it was raised -/
theorem sig_leaves_first (hfr : A.frames = some (env :: outer)) (hl : s.heap.FunFrames base (env :: outer)) (hf : env.frame = some L)
    (he : s.heap.get? e = some oe) (hkb : base.StaysIn s.heap) (hen : base.get? e = none) (hd : oe.data = .fields vs) (h1 : vs[1]? = some .none) (h0 : vs[0]? = some a0)
    (h : ∀ h', Heap.FlyingW base outer e oe.cls a0 h' → s.heap.UpToSlots h' → DictAt h' e oe.dict → Q () { s with heap := h' }) : wpAny M A (leaving env (.ref e)) Q E s := by
  unfold leaving noteFrame
  simp only [hf]
  refine wpAny_bind (wpAny_bind (wpAny_field he hd h1 ?_))
  rw [if_neg (by decide)]
  refine sig_newEntry hfr hl hf he hkb hen hd (Array.getElem?_eq_some_iff.mp h1).1 h0 fun h₁ hN hD => ?_
  obtain ⟨k1, k2, k3, k4⟩ := hN
  refine sig_unflight (s := { s with heap := h₁ }) k1 k2 k3 hD fun h' a1 a2 a3 a4 a5 => ?_
  obtain ⟨_, _, a2⟩ := a2
  exact h h' ⟨a1, hen, a2, a3⟩ (Heap.UpToSlots.trans k4 a4) a5
/-- a signal that flies is met by a try -/
theorem sig_looks (hfr : A.frames = some (env :: outer)) (hf : env.frame = some L) (hfl : Heap.FlyingW base (env :: outer) e cls a0 s.heap) {dd : Option Addr} (hdd : DictAt s.heap e dd)
    (hQ : ∀ h', Heap.HeldW base (env :: outer) e cls a0 L h' → s.heap.UpToSlots h' → DictAt h' e dd → Q () { s with heap := h' }) : wpAny M A (noteFrame (.ref e) env) Q E s := by
  obtain ⟨hkb, hen, hl, oe, vs, T, oT, ts, he, ⟨hcls, h0⟩, hd, h1, hnT, hTe, hT, hdT, h3⟩ := hfl
  subst hcls
  obtain ⟨o', ho', hod⟩ := hdd
  rw [he] at ho'
  cases ho'
  subst hod
  unfold noteFrame
  simp only [hf]
  refine wpAny_bind (wpAny_field he hd h1 ?_)
  rw [if_pos (show (Value.ref T != Value.none) = true from by simp)]
  refine wpAny_bind (wpAny_field hT hdT h3 ?_)
  rw [if_neg (show ¬ ((Value.none == rawInt L) = true) from by simp [rawInt])]
  refine wpAny_bind (wpAny_setField hT hdT (Array.getElem?_eq_some_iff.mp h3).1 ?_)
  have other : ∀ b, b ≠ T → (s.heap.update T (Obj.mapFields (·.setIfInBounds 3 Value.none))).get? b = s.heap.get? b := fun b hb => Heap.get?_update_other _ _ (Ne.symm hb)
  have noRecord : ∀ b o, s.heap.get? b = some o → (∀ vs, o.data ≠ .fields vs) → b ≠ T := fun b o hb hnf q => by
    rw [q, hT] at hb
    cases hb
    exact hnf ts hdT
  refine sig_newEntry hfr (hl.of_keeps fun b o hb hnf => ⟨o, (other b (noRecord b o hb hnf)).trans hb, rfl⟩) hf ((other e (Ne.symm hTe)).trans he)
    (fun b o hbo => (other b fun q => by rw [q, hnT] at hbo; cases hbo).trans (hkb b o hbo)) hen hd (Array.getElem?_eq_some_iff.mp h1).1 h0
    fun h' hN hD => ?_
  obtain ⟨x1, x2, x3, x4⟩ := hN
  exact hQ h' ⟨x1, hen, x2, x3⟩ (fun b o hb hnf => x4 b o ((other b (noRecord b o hb hnf)).trans hb) hnf) hD
theorem sig_lands {dd : Option Addr} {fl : Value} (hkb : base.StaysIn s.heap) (hen : base.get? e = none) (hl : s.heap.FunFrames base l) (ht : s.heap.TracedAtW base e cls a0 fl) (hdd : DictAt s.heap e dd)
    (hQ : ∀ h', Heap.FlyingW base l e cls a0 h' → s.heap.UpToSlots h' → DictAt h' e dd → Q () { s with heap := h' }) : wpAny M A (setFlight (.ref e) none) Q E s :=
  sig_unflight hkb hl ht hdd fun h' a1 a2 a3 a4 a5 => hQ h' ⟨a1, hen, a2, a3⟩ a4 a5
end
end Mine
end PartX4
section PartX5
open PySem PySem.W PyProof.Rows PySem.Calls PySem.Spec
set_option maxHeartbeats 1000000
namespace Mine
/-- a signal in flight above a ledger; its dict stands in the ledger, first -/
noncomputable def SigFly (base G : Heap) (l : List Env) (e D : Addr) (oD : Obj) (v : Value) (news : List (Addr × Obj)) (h : Heap) : Prop :=
  (∃ B a0, base.StaysIn B ∧ (∀ b o, G.get? b = some o → b ∉ l.filterMap (·.frame) → B.get? b = some o) ∧ (∀ q ∈ (D, oD) :: news, B.get? q.1 = some q.2 ∧ G.get? q.1 = none ∧ base.get? q.1 = none) ∧ Heap.FlyingW B l e (.ref 38) a0 h) ∧
  DictAt h e (some D) ∧ ∃ mS, IsNs oD mS ∧ mS "symbol" = some v
section
variable {M : Model} {A : Around} {E : Value → Shared → Prop} {s' : Shared} {base g : Heap} {outer : List Env} {L a e D ta : Addr} {m mS : Str → Option Value} {name : Str} {scope : Scope} {cd v : Value} {Q : Unit → Shared → Prop} {news : List (Addr × Obj)} {oD : Obj}
theorem sig_leave (K : Below A base outer g) (F : Fr g L s'.heap m) (N : News g L s'.heap ((D, oD) :: (e, sigO (some D) ta) :: news)) (hne : e ≠ D) (hap : ∀ p ∈ news, p.1 ≠ e) (hD : IsNs oD mS) (hv : mS "symbol" = some v)
    (hQ : ∀ h', SigFly base g outer e D oD v news h' → g.UpToSlots h' → Q () { s' with heap := h' }) (hk : scope.kind = .function := by rfl) :
    wpAny M (A.deeper (envOf name scope L a cd)) (leaving (envOf name scope L a cd) (.ref e)) Q E s' := by
  have K' := K.push (name := name) (a := a) (cd := cd) F hk
  have hin : ∀ env ∈ (envOf name scope L a cd :: outer), ∀ b, env.frame = some b → b ∈ e :: (envOf name scope L a cd :: outer).filterMap (·.frame) := fun env he b hb => .tail _ (List.mem_filterMap.mpr ⟨env, he, hb⟩)
  have nE := N _ (.tail _ (.head _))
  have st : base.StaysIn (hideAll s'.heap (e :: (envOf name scope L a cd :: outer).filterMap (·.frame))) := fun b o q => hideAll_get _ (K'.stays b o q) fun hm => by
    rcases List.mem_cons.mp hm with rfl | hm
    · have := fresh_of_stays K.stays nE.2.2
      rw [this] at q; cases q
    · rw [(K'.frames.mem hm).1] at q; cases q
  have sg : ∀ b o, g.get? b = some o → b ∉ outer.filterMap (·.frame) → (hideAll s'.heap (e :: (envOf name scope L a cd :: outer).filterMap (·.frame))).get? b = some o := fun b o q nm => hideAll_get _ (F.keep b o q) fun hm => by
    rcases List.mem_cons.mp hm with rfl | hm
    · rw [nE.2.2] at q; cases q
    rcases kts_mem hm with z | z
    · rw [z, kts_self F] at q
      cases q
    · exact nm z
  have hl : ∀ q ∈ (D, oD) :: news, (hideAll s'.heap (e :: (envOf name scope L a cd :: outer).filterMap (·.frame))).get? q.1 = some q.2 ∧ g.get? q.1 = none ∧ base.get? q.1 = none := fun q hq => by
    have hqn : q ∈ (D, oD) :: (e, sigO (some D) ta) :: news := by
      rcases List.mem_cons.mp hq with rfl | hq
      · exact .head _
      · exact .tail _ (.tail _ hq)
    have hqe : q.1 ≠ e := by
      rcases List.mem_cons.mp hq with rfl | hq
      · exact Ne.symm hne
      · exact hap q hq
    refine ⟨hideAll_get _ (N q hqn).1 fun hm => ?_, (N q hqn).2.2, fresh_of_stays K.stays (N q hqn).2.2⟩
    rcases List.mem_cons.mp hm with z | hm
    · exact hqe z
    obtain ⟨env, he, hf⟩ := List.mem_filterMap.mp hm
    rcases List.mem_cons.mp he with rfl | he
    · exact (N q hqn).2.1 (Option.some.inj hf).symm
    · obtain ⟨o, ho, _⟩ := (K.frames.mem (List.mem_filterMap.mpr ⟨env, he, hf⟩)).2
      rw [(N q hqn).2.2] at ho; cases ho
  refine sig_leaves_first (a0 := .ref ta) K'.stack (funFrames_hide K'.frames hin) rfl nE.1 (fun b o q => of_hideAll _ q) (hideAll_none _ (.head _)) rfl rfl rfl fun h' x1 x2 x3 => ?_
  exact hQ h' ⟨⟨_, _, st, sg, hl, x1⟩, x3, mS, hD, hv⟩ ((Heap.UpToSlots.of_keeps F.keep).trans x2)
end
section
variable {prog : Program} {w : World} {A₀ : Around} {E : Value → Shared → Prop} {s' : Shared} {base g g₀ G : Heap} {outer : List Env} {L a e D : Addr} {m : Str → Option Value} {name : Str} {scope : Scope} {cd v : Value}
  {n : Str} {b₀ : Stmt} {suite : List Stmt} {pos np : Pos} {rest : List ExceptHandler} {Q : Flow → Shared → Prop} {news : List (Addr × Obj)} {oD : Obj}
  {p : Program} {loose : List Str} {mean : ExcName → Option Value} {mg mb : Str → Option Value} {x : Str}
theorem caught_sig (R : SigFly base G (envOf name scope L a cd :: outer) e D oD v news s'.heap) (F : Fr g L G m) (K : Below A₀ base outer g) (hsm : G.UpToSlots s'.heap) (XB : (Mine.K w.params).In base) (TB : Top p loose mean mg mb base)
    (DD : KtsDicts (outer.filterMap (·.frame)) g) (T0 : KtsTurn (outer.filterMap (·.frame)) g₀ g)
    (ex : nsIn (Mine.K w.params) mainGlobals x = some (some (.ref 38)))
    (k : ∀ h' g' tk oe ws mS, KtsTurn (outer.filterMap (·.frame)) g₀ g' → Fr g' L h' (fun y => if y = n then some (.ref e) else m y) → News g' L h' ((e, oe) :: (D, oD) :: news) → oe.cls = .ref 38 → oe.data = .fields ws → oe.dict = some D → IsNs oD mS → mS "symbol" = some v →
      Below A₀ base outer g' → (Mine.K w.params).In g' → Top p loose mean mg mb g' → KtsDicts (outer.filterMap (·.frame)) g' →
      wpAny (model prog w) ((A₀.deeper (envOf name scope L a cd)).mark (some (.ref e))) (execs (b₀ :: suite) (envOf name scope L a cd))
        (fun f s₄ => wpAny (model prog w) (A₀.deeper (envOf name scope L a cd)) (do bindName (envOf name scope L a cd) n .none; unbindBehindTheSuite (envOf name scope L a cd) n pos) (fun _ s₅ => Q f s₅) E s₄)
        (AsSuiteRaised (model prog w) ((A₀.deeper (envOf name scope L a cd)).mark (some (.ref e))) (envOf name scope L a cd) n pos (notedBy (model prog w) ((A₀.deeper (envOf name scope L a cd)).mark (some (.ref e))) (envOf name scope L a cd) (cameBackBy (model prog w) (A₀.deeper (envOf name scope L a cd)) (envOf name scope L a cd) E)))
        { s' with heap := h', toks := tk })
    (hk : scope.kind = .function := by rfl) (hlo : (envOf name scope L a cd).kindOf n = some .local := by rfl) (hx : (envOf name scope L a cd).kindOf x = some .globalImplicit := by rfl) (hd' : (x == ("__debug__" : Str)) = false := by decide) :
    wpAny (model prog w) (A₀.deeper (envOf name scope L a cd)) (noteFrame (.ref e) (envOf name scope L a cd))
      (fun _ s₂ => wpAny (model prog w) (A₀.deeper (envOf name scope L a cd)) (setFlight (.ref e) none) (fun _ s₃ =>
        wpAny (model prog w) (A₀.deeper (envOf name scope L a cd)) (handleBy (.ref e) (envOf name scope L a cd) (.ExceptHandler (some (.Name x np)) (some n) (b₀ :: suite) pos :: rest)) Q E s₃) E s₂) E s' := by
  obtain ⟨⟨B, a0, hB, hBG, hl, hfl⟩, hdd, mS, hS, hvS⟩ := R
  have hL : B.get? L = none := by
    obtain ⟨_, ⟨L', _, hf, hn', _⟩, _⟩ := hfl.2.2.1
    obtain rfl : L = L' := Option.some.inj hf
    exact hn'
  refine sig_looks (Around.frames_deeper K.stack) rfl hfl hdd fun h₄ hheld₄ hsm₄ hdd₄ => ?_
  refine sig_lands (s := { s' with heap := h₄ }) hheld₄.1 hheld₄.2.1 hheld₄.2.2.1 hheld₄.2.2.2 hdd₄ fun h₅ hheld hsm₅' hdd₅ => ?_
  have hsm₅ := hsm₄.trans hsm₅'
  obtain ⟨g₅, T₅, F₅, K₅⟩ := kts_ground K F hBG hheld.1 (hsm.trans hsm₅)
  have X₅ : (Mine.K w.params).In g₅ := XB.keeps K₅.stays
  have P₅ : TopRead p loose mg mb g₅ := topRead_of (TB.keeps K₅.stays)
  obtain ⟨ob, hob, hobc⟩ := hheld.there
  have hC₅ := F₅.keep _ _ (X₅ _ _ (K38 _))
  refine wpAny_handleBy_cons (codeAny_handlers_test (name_K F₅ X₅ P₅ ex ?_ hk hx hd')) (by intro q; cases q)
  refine wpAny_excMatches_sub_self hC₅ hob hobc (by decide +kernel) (codeAny_handlers_suite_as ?_)
  refine sig_lands (s := { s' with heap := h₅ }) hheld.1 hheld.2.1 hheld.2.2.1 hheld.2.2.2.at hdd₅ fun h₆ hfl₆ hsm₆ hdd₆ => ?_
  obtain ⟨g₆, T₆, F₆, K₆⟩ := kts_ground K F hBG hfl₆.1 ((hsm.trans hsm₅).trans hsm₆)
  obtain ⟨oe, ws, hoe, hoec, hoed, hoe0⟩ := hfl₆.first
  obtain ⟨oe', hoe', hoeD⟩ := hdd₆
  rw [hoe] at hoe'
  cases hoe'
  have ne₆ : g₆.get? e = none := T₆.none_ _ (kts_fresh F hBG hfl₆.2.1 fun o ho m => by
    obtain ⟨_, o', ho', hd⟩ := K.frames.mem m
    rw [ho] at ho'
    cases ho'
    obtain ⟨sl, hs⟩ := ((hsm.trans hsm₅).trans hsm₆) _ _ (F.keep _ _ ho) hd
    rw [hoe] at hs
    cases hs
    exact hd _ hoed)
  have Nl : News g₆ L h₆ ((D, oD) :: news) := fun q hq => ⟨hfl₆.1 _ _ (hl q hq).1, (fun z => by have := (hl q hq).1; rw [z, hL] at this; cases this), T₆.none_ _ (kts_none F.keep (hl q hq).2.1)⟩
  have Ne : News g₆ L h₆ ((e, oe) :: (D, oD) :: news) := News.more F₆ Nl hoe (fun es n q => by rw [hoed] at q; cases q) ne₆
  have X₆ : (Mine.K w.params).In g₆ := XB.keeps K₆.stays
  have P₆ : Top p loose mean mg mb g₆ := TB.keeps K₆.stays
  have D₆ : KtsDicts (outer.filterMap (·.frame)) g₆ := DD.turn T₆
  refine stN F₆ Ne (fun h₇ F₇ N₇ => ?_) hk hlo
  exact k h₇ g₆ _ oe ws mS (T0.trans T₆) F₇ N₇ hoec hoed hoeD hS hvS K₆ X₆ P₆ D₆
end
end Mine
end PartX5
section PartX6
open PySem PySem.W PyProof.Rows PySem.Calls PySem.Spec Mine
set_option maxHeartbeats 4000000
namespace Mine
theorem under_frames {A : Around} {c : Code} : (A.under c).frames = A.frames ∨ True := .inr trivial
/-- what a raise of a signal wants of the value that is raised -/
noncomputable def SigRaise (P : Params) (E : Value → Shared → Prop) (v : Value) (s₁ : Shared) : Prop :=
  ∃ e D ta, v = .ref e ∧ (Mine.K P).In s₁.heap ∧ s₁.heap.get? e = some (sigO (some D) ta) ∧ E (.ref e) s₁
section
variable {M : Model} {A : Around} {E : Value → Shared → Prop} {s : Shared} {env : Env}
theorem Raise_sig {P : Params} {e : PySem.Expr} {pos : Pos} {Q : Flow → Shared → Prop} (hh : A.handled = none)
    (h : wpAny M A (eval e env) (SigRaise P E) E s) : wpAny M A (exec (.Raise (some e) none pos) env) Q E s := by
  show wpAny M A (do standAt pos; raiseStmt env (some (do let v ← eval e env; standAt pos; pure v)) none) Q E s
  refine wpAny_bind (wpAny_standAt ?_)
  unfold raiseStmt
  dsimp only
  refine wpAny_bind (wpAny_bind (wpAny_mono h (fun v s₁ h₁ => wpAny_bind (wpAny_standAt (wpAny_pure ?_))) fun _ _ x => x))
  obtain ⟨a, D, ta, rfl, X, he, hE⟩ := h₁
  obtain ⟨hp, g, d, tk, os⟩ := s₁
  have hC := X _ _ (K38 P)
  have hcB : (Value.ref 38 :: excBm).contains (.type "BaseException") = true := by decide +kernel
  dsimp only at he hC
  generalize hs : sigO (some D) ta = so at he
  have hc : so.cls = .ref 38 := by rw [← hs]
  have hd : so.data = .fields #[.ref ta, .none, .none, .none, .bool false, .none] := by rw [← hs]
  repeat (first | (with_reducible refine wpAny_loadPart_at he ?_; first | rw [hc] | rw [hd]) | with_reducible refine wpAny_loadPart_at hC ?_ | (with_reducible refine wpAny_isSubtype_exc hC ?_; rw [hcB]) | wp_step)
  rw [hd]
  repeat wp_step
  exact wpAny_raiseNew_none hh hE
end
section
variable {prog : Program} {w : World} {p : Program} {loose : List Str} {mean : ExcName → Option Value} {mg mb : Str → Option Value}
 {dp un : Nat} {gd : Option (List Code)} {cn : Str} {cs : Scope} {a : Addr} {ccd : Value} {cl : List (Str × Addr)} {outer : List Env} {A₀ : Around} {base h₀ : Heap} {L : Addr} {m : Str → Option Value} {news : List (Addr × Obj)} {s : Shared} {Q E : Value → Shared → Prop}
theorem Mine.regX61 : True := by
  k_with "setAttr ref" => (guard_hyp fl9 : Mine.Fl 22; ((k_here; (with_reducible show wpAny _ _ (setAttr _ (Str.ofString "symbol") _) _ _ _); k_dflt (refine sig_set1 (by k_asm) (by k_asm) (by k_asm) (by k_asm) ?_); intro hzq9 tkzq9 D' oD' Fzq9 Nzq9 l1zq9 l2 hD'; (have l3 := fun p hp => Nat.ne_of_lt (l2 p hp)); (try k_lt l2); (try k_lt2 l1zq9))))
  k_with "setAttr ref" => (guard_hyp fl9 : Mine.Fl 22; ((k_here; (with_reducible show wpAny _ _ (setAttr _ (Str.ofString "data") _) _ _ _); k_dflt (refine sig_set2 (ns := ["symbol"]) (by k_asm) (by k_asm) (by k_asm) (by omega) (by assumption) (by k_asm) (Within.cons _ _ Within.nil) (by decide) ?_); intro hzq9 tkzq9 oD' Fzq9 Nzq9 hD')))
  exact trivial
theorem lisp_signal {nm : Str} {tk : Tok} {l : Addr} (B : Below A₀ base outer h₀) (F : Fr h₀ L s.heap m) (X : (Mine.K w.params).In h₀) (N : News h₀ L s.heap news) (T : Top p loose mean mg mb h₀) (hk : cs.kind = .function) (hdp : dp ≤ 520) (hun : un ≤ 700)
   (ret : ∀ h' tk' e D oD ta oT mS, Fr h₀ L h' m → News h₀ L h' ((D, oD) :: (e, sigO (some D) ta) :: (ta, oT) :: news) → e ≠ D → (∀ p ∈ (ta, oT) :: news, p.1 ≠ e) → IsNs oD mS → mS "symbol" = some (.str nm tk) → Q (.ref e) { s with heap := h', toks := tk' }) :
   wpAny (model prog w) (ktrTop dp un gd cn cs L a ccd cl outer) (call (.ref 38) [.str nm tk, .ref l]) Q E s := Mine.byKey fun kzq9 => Mine.Fam.of (by exact Mine.Fam.mk : Mine.Fam ((Mine.Key.unbox kzq9 (by simp only [Mine.Key.box kzq9 (by
  clear kzq9
  have fl9 : Mine.Fl 22 := Mine.Fl.mk
  refine sig_make F X N fun h1 e ta F1 N1 ap1 hte => ?_
  clear F N
  have ap2 : ∀ p ∈ (ta, ({ cls := .type "tuple", data := .seq #[.str nm tk, .ref l] } : Obj)) :: news, p.1 ≠ e := fun q hq => by
    rcases List.mem_cons.mp hq with rfl | hq
    · exact hte
    · exact ap1 q hq
  refine wcall ?_
  k_dflt (k_extra "MY enter")
  k_steps
  refine sig_set2 (ns := ["symbol"]) (by k_asm) (by k_asm) (by k_asm) ?_ (by assumption) (by k_asm) ?_ (by decide) ?_
  · first | k_dflt k_ne | done
  · exact Within.cons _ _ Within.nil
  intro h2 tk2 oD2 F2 N2 hD2
  k_steps
  rename (@LT.lt Nat _ _ _) => l9
  exact ret _ _ _ _ _ _ _ _ (by assumption) (by assumption) (Nat.ne_of_lt l9) ap2 hD2 rfl)])) :))
end
end Mine
end PartX6
section PartL1
open PySem PySem.W PyProof.Rows PySem.Calls PySem.Spec Mine
set_option maxHeartbeats 1000000
namespace Mine
inductive AtS (h₀ : Heap) (L : Addr) (s : Shared) (x : Str) (M₀ : Str → Option Value) (news : List (Addr × Obj)) (J : Nat → Value → Prop) (n : Nat) (s₃ : Shared) : Prop
  | mk (h' : Heap) (tk : Nat) (m' : Str → Option Value) (v' : Value) (n' : Nat) (e : s₃ = { s with heap := h', toks := tk }) (F : Fr h₀ L h' m') (N : News h₀ L h' news) (hn : n' < n) (j : J n' v') (e1 : m' x = some v') (e2 : ∀ y, y ≠ x → m' y = M₀ y)
inductive AtT (h₀ : Heap) (L : Addr) (s : Shared) (xl x : Str) (M₀ : Str → Option Value) (news : List (Addr × Obj)) (J : Nat → Value → Prop) (n : Nat) (s₃ : Shared) : Prop
  | mk (h' : Heap) (tk : Nat) (m' : Str → Option Value) (v' : Value) (n' : Nat) (e : s₃ = { s with heap := h', toks := tk }) (F : Fr h₀ L h' m') (N : News h₀ L h' news) (hn : n' < n) (j : J n' v') (e1 : m' x = some v') (e2 : ∀ y, y ≠ x → y ≠ xl → m' y = M₀ y)
/-- a turn's end where one name alone is stored -/
noncomputable def AtStep (h₀ : Heap) (L : Addr) (s : Shared) (x : Str) (M₀ : Str → Option Value) (news : List (Addr × Obj)) (J : Nat → Value → Prop) (Q : Flow → Shared → Prop) (n : Nat) (f : Flow) (s₃ : Shared) : Prop :=
  match f with
  | .next | .cont => AtS h₀ L s x M₀ news J n s₃
  | .brk => Q .next s₃
  | .ret v => Q (.ret v) s₃
/-- the same in a loop that stores its own name too -/
noncomputable def AtTurn (h₀ : Heap) (L : Addr) (s : Shared) (xl x : Str) (M₀ : Str → Option Value) (news : List (Addr × Obj)) (J : Nat → Value → Prop) (Q : Flow → Shared → Prop) (n : Nat) (f : Flow) (s₃ : Shared) : Prop :=
  match f with
  | .next | .cont => AtT h₀ L s xl x M₀ news J n s₃
  | .brk => Q .next s₃
  | .ret v => Q (.ret v) s₃
section
variable {prog : Program} {w : World} {A : Around} {E : Value → Shared → Prop} {Q : Flow → Shared → Prop} {s : Shared} {env : Env} {h₀ : Heap} {L : Addr}
theorem While_at {test : PySem.Expr} {body : List Stmt} {pos : Pos} {x : Str} {v₀ : Value} {M₀ : Str → Option Value} {news : List (Addr × Obj)} (J : Nat → Value → Prop) {n₀ : Nat}
    (F : Fr h₀ L s.heap (fun y => if y = x then some v₀ else M₀ y)) (N : News h₀ L s.heap news) (hJ : J n₀ v₀)
    (turn : ∀ n v h₁ tk₁, Fr h₀ L h₁ (fun y => if y = x then some v else M₀ y) → News h₀ L h₁ news → J n v →
      wpAny (model prog w) A (isTrue test env (eval test env)) (fun b s₂ =>
        if b = true then wpAny (model prog w) A (execs body env) (AtStep h₀ L s x M₀ news J Q n) E s₂ else Q .next s₂) E { s with heap := h₁, toks := tk₁ })
    (hE : PassesOwn (model prog w) A env E := by passes_own) :
    wpAny (model prog w) A (exec (.While test body [] pos) env) Q E s := by
  refine While_inv2 (fun n m₁ news₁ => news₁ = news ∧ ∃ v, J n v ∧ m₁ = fun y => if y = x then some v else M₀ y) F N ⟨rfl, v₀, hJ, rfl⟩ (fun n m₁ news₁ h₁ tk₁ F₁ N₁ J₁ => ?_) hE
  obtain ⟨rfl, v, hv, rfl⟩ := J₁
  refine wpAny_mono (turn n v h₁ tk₁ F₁ N₁ hv) (fun b s₂ h₂ => ?_) fun _ _ e => e
  have fin : ∀ {s₃}, AtS h₀ L s x M₀ news₁ J n s₃ →
      ∃ h' tk m' news₂ n', s₃ = { s with heap := h', toks := tk } ∧ Fr h₀ L h' m' ∧ News h₀ L h' news₂ ∧ n' < n ∧ (news₂ = news₁ ∧ ∃ v, J n' v ∧ m' = fun y => if y = x then some v else M₀ y) := by
    rintro s₃ ⟨h', tk, m', v', n', e, F₂, N₂, hn, J₂, e1, e2⟩
    refine ⟨h', tk, m', news₁, n', e, F₂, N₂, hn, rfl, v', J₂, ?_⟩
    funext y
    by_cases hy : y = x
    · subst hy; simp [e1]
    · simp [hy, e2 y hy]
  cases b with
  | false => simpa using h₂
  | true =>
    simp only [if_true] at h₂ ⊢
    refine wpAny_mono h₂ (fun f s₃ h₃ => ?_) fun _ _ e => e
    cases f with
    | next => exact fin h₃
    | cont => exact fin h₃
    | brk => exact h₃
    | ret v => exact h₃
theorem While_led2 {test : PySem.Expr} {body : List Stmt} {pos : Pos} {x : Str} {v₀ : Value} {M₀ : Str → Option Value} {news : List (Addr × Obj)} (J : List (Addr × Obj) → Nat → Value → Prop) {n₀ : Nat}
    (F : Fr h₀ L s.heap (fun y => if y = x then some v₀ else M₀ y)) (N : News h₀ L s.heap news) (hJ : J news n₀ v₀)
    (turn : ∀ n v h₁ tk₁, Fr h₀ L h₁ (fun y => if y = x then some v else M₀ y) → News h₀ L h₁ news → J news n v →
      wpAny (model prog w) A (isTrue test env (eval test env)) (fun b s₂ =>
        if b = true then wpAny (model prog w) A (execs body env) (AtStep h₀ L s x M₀ news (J news) Q n) E s₂ else Q .next s₂) E { s with heap := h₁, toks := tk₁ })
    (hE : PassesOwn (model prog w) A env E := by passes_own) :
    wpAny (model prog w) A (exec (.While test body [] pos) env) Q E s := While_at (J news) F N hJ turn hE
theorem range_at {x xl : Str} {body : List Stmt} {a₀ : Int} {n : Nat} {I : Addr} {M₀ : Str → Option Value} {news : List (Addr × Obj)} (J : Nat → Value → Prop) (hx : xl ≠ x) (hI : ∀ p ∈ news, p.1 < I)
    (turn : ∀ f v k t it h tk, J f v → Fr h₀ env.locals h (fun y => if y = xl then some (.int k t) else if y = x then some v else M₀ y) → News h₀ env.locals h ((I, it) :: news) →
      wpAny (model prog w) A (execs body env) (AtTurn h₀ env.locals { s with heap := h, toks := tk } xl x M₀ ((I, it) :: news) J Q f) E { s with heap := h, toks := tk }) :
    ∀ k i f v m, m x = some v → (∀ y, y ≠ x → y ≠ xl → m y = M₀ y) → J f v → f < k → RangeRest prog w A E h₀ env xl body Q s I a₀ n k i m news := by
  intro k
  induction k with
  | zero => intro i f v m _ _ _ h; exact absurd h (Nat.not_lt_zero _)
  | succ k ih =>
    intro i f v m h1 h2 hJ hf
    refine RangeRest.succ fun t h tk F N => ?_
    have e : (fun y => if y = xl then some (Value.int (a₀ + (i : Int)) t) else m y) = fun y => if y = xl then some (Value.int (a₀ + (i : Int)) t) else if y = x then some v else M₀ y := by
      funext y
      by_cases hy : y = xl
      · simp [hy]
      · simp only [if_neg hy]
        by_cases hy2 : y = x
        · subst hy2; simp [h1]
        · simp [hy2, h2 y hy2 hy]
    rw [e] at F
    refine wpAny_mono (turn f v _ t _ h tk hJ F N) (fun fl s₂ q => ?_) fun _ _ e => e
    have fin : AtT h₀ env.locals { s with heap := h, toks := tk } xl x M₀ ((I, itR (a₀ + ((i + 1 : Nat) : Int)) ((n : Int) - ((i + 1 : Nat) : Int))) :: news) J f s₂ →
        UnrEnd h₀ env.locals { s with heap := h, toks := tk } I (itR (a₀ + ((i + 1 : Nat) : Int)) ((n : Int) - ((i + 1 : Nat) : Int))) (RangeRest prog w A E h₀ env xl body Q s I a₀ n k (i + 1)) s₂ := by
      rintro ⟨h', tk', m', v', n', e, F₂, N₂, hn, J₂, e1, e2⟩
      exact ⟨h', tk', m', news, e, F₂, N₂, fun p hp => Nat.ne_of_lt (hI p hp), ih (i + 1) n' v' m' e1 e2 J₂ (by omega)⟩
    cases fl with
    | next => exact fin q
    | cont => exact fin q
    | brk => exact q
    | ret v => exact q
theorem iter_at {x xl : Str} {body : List Stmt} {r : Addr} {a₀ b₀ : Int} {t₀ u₀ w₀ : Tok} {n : Nat} {v₀ : Value} {M₀ : Str → Option Value} {news : List (Addr × Obj)} (J : Nat → Value → Prop) {n₀ : Nat} (hx : xl ≠ x)
    (hh : A.handled = none) (hr : IsRange s.heap r a₀ b₀ 1 t₀ u₀ w₀) (hsmall : Builtin.Range.small a₀ b₀ 1 = true) (hn : Builtin.Range.rangeSize a₀ b₀ 1 = (n : Int)) (F : Fr h₀ env.locals s.heap (fun y => if y = x then some v₀ else M₀ y)) (N : News h₀ env.locals s.heap news) (hJ : J n₀ v₀) (hnn : n₀ < n)
    (turn : ∀ f v k t I it h tk, J f v → (∀ p ∈ news, p.1 < I) → Fr h₀ env.locals h (fun y => if y = xl then some (.int k t) else if y = x then some v else M₀ y) → News h₀ env.locals h ((I, it) :: news) →
      wpAny (model prog w) A (execs body env) (AtTurn h₀ env.locals { s with heap := h, toks := tk } xl x M₀ ((I, it) :: news) J Q f) E { s with heap := h, toks := tk }) :
    wpAny (model prog w) A (pyIter (.ref r)) (fun it s₂ => LoopAtV prog w A h₀ env xl body Q E it s₂) E s := by
  refine iter_rangeUnr hh hr hsmall hn F N fun I hI => ?_
  exact range_at J hx hI (fun f v k t it h tk => fun a b c => turn f v k t I it h tk a hI b c) n 0 n₀ v₀ _ (by simp) (fun y hy _ => by simp [hy]) hJ hnn
end
end Mine
end PartL1
section PartCo2
open PySem PySem.W PyProof.Rows PySem.Calls PySem.Spec Mine
set_option maxHeartbeats 1000000
namespace Mine
theorem Mine.regCo21 : True := by
  k_with "pyIter ref" => (guard_hyp fl9 : Mine.Fl 24; ((k_here; refine Hold.out ?_)))
  k_with "ItemsRest" => (guard_hyp fl9 : Mine.Fl 24; ((k_here; refine Hold.out ?_)))
  k_with "exec For Name Tuple cons nil" => (guard_hyp fl9 : Mine.Fl 24; ((k_here; refine Hold.out ?_)))
  exact trivial
section
variable {prog : Program} {w : World} {p : Program} {loose : List Str} {mean : ExcName → Option Value} {mg mb : Str → Option Value}
 {dp un : Nat} {gd : Option (List Code)} {cn : Str} {cs : Scope} {a : Addr} {ccd : Value} {cl : List (Str × Addr)} {outer : List Env} {A₀ : Around} {base h₀ : Heap} {L : Addr} {m : Str → Option Value} {news : List (Addr × Obj)} {s : Shared} {Q E : Value → Shared → Prop}
theorem valueAt_stored_ne {kvs : List (Str × Value)} {k k' : Str} {v : Value} (h : k ≠ k') : valueAt (stored kvs k v) k' = valueAt kvs k' := by
  unfold stored
  split
  · rename_i hany
    clear hany
    unfold valueAt
    congr 1
    induction kvs with
    | nil => rfl
    | cons q r ih =>
      simp only [List.map_cons, List.find?_cons]
      by_cases hq : q.1 = k
      · simp [hq, h, ih]
      · simp only [hq, if_false]
        by_cases hq' : q.1 = k'
        · simp [hq']
        · simp [hq', ih]
  · unfold valueAt
    rw [List.find?_append]
    simp [h]
theorem valueAt_stored_eq {kvs : List (Str × Value)} {k : Str} {v : Value} : valueAt (stored kvs k v) k = some v := by
  unfold stored
  split
  · rename_i hany
    unfold valueAt
    induction kvs with
    | nil => simp at hany
    | cons q r ih =>
      simp only [List.map_cons, List.find?_cons]
      by_cases hq : q.1 = k
      · simp [hq]
      · simp only [hq, if_false]
        simp only [List.any_cons, hq, decide_false, Bool.false_or] at hany
        simpa [hq] using ih hany
  · rename_i hany
    unfold valueAt
    rw [List.find?_append]
    have : List.find? (fun kv => decide (kv.1 = k)) kvs = none := by
      rw [List.find?_eq_none]
      intro x hx hq
      exact hany (List.any_eq_true.mpr ⟨x, hx, hq⟩)
    simp [this]
inductive ItS (h₀ : Heap) (L : Addr) (s : Shared) (xl : Str) (M₀ : Str → Option Value) (I : Addr) (it : Obj) (keep : List (Addr × Obj)) (J : List (Addr × Obj) → Prop) (s₃ : Shared) : Prop
  | mk (h' : Heap) (tk : Nat) (m' : Str → Option Value) (led' : List (Addr × Obj)) (e : s₃ = { s with heap := h', toks := tk }) (F : Fr h₀ L h' m') (N : News h₀ L h' ((I, it) :: led')) (ap : ∀ p ∈ led', p.1 ≠ I) (sub : SubL keep led') (j : J led') (e2 : ∀ y, y ≠ xl → m' y = M₀ y)
/-- a turn's end in a loop over written names -/
noncomputable def ItTurn (h₀ : Heap) (L : Addr) (s : Shared) (xl : Str) (M₀ : Str → Option Value) (I : Addr) (it : Obj) (keep : List (Addr × Obj)) (J : List (Addr × Obj) → Prop) (f : Flow) (s₃ : Shared) : Prop :=
  match f with
  | .next | .cont => ItS h₀ L s xl M₀ I it keep J s₃
  | _ => False
theorem items_at {prog : Program} {w : World} {A : Around} {E : Value → Shared → Prop} {Q : Flow → Shared → Prop} {s : Shared} {env : Env} {h₀ : Heap} {xl : Str} {px : Pos} {body : List Stmt} {I : Addr} {M₀ : Str → Option Value} {keep : List (Addr × Obj)} (J : List (Str × Tok) → List (Addr × Obj) → Prop)
    (turn : ∀ nm t r led it h tk u, J ((nm, t) :: r) led → Fr h₀ env.locals h (fun y => if y = xl then u else M₀ y) → it.cls = .type "tuple_iterator" → News h₀ env.locals h ((I, it) :: led) →
      wpAny (model prog w) A (assign (.Name xl px) env (.str nm t)) (fun _ s₂ => wpAny (model prog w) A (execs body env) (ItTurn h₀ env.locals { s with heap := h, toks := tk } xl M₀ I it keep (J r)) E s₂) E { s with heap := h, toks := tk })
    (done : ∀ led h tk u, J [] led → Fr h₀ env.locals h (fun y => if y = xl then u else M₀ y) → News h₀ env.locals h led → Q .next { s with heap := h, toks := tk }) :
    ∀ xs led m, (∀ y, y ≠ xl → m y = M₀ y) → J xs led → ItemsRest prog w A E h₀ env (.Name xl px) body Q s [(I, "tuple_iterator")] keep (xs.map fun x => .val (.str x.1 x.2)) m led := by
  have fix : ∀ m : Str → Option Value, (∀ y, y ≠ xl → m y = M₀ y) → m = fun y => if y = xl then m xl else M₀ y := by
    intro m hm
    funext y
    by_cases hy : y = xl
    · simp [hy]
    · simp [hy, hm y hy]
  intro xs
  induction xs with
  | nil =>
    intro led m hm hJ h tk F N
    rw [fix m hm] at F
    exact done led h tk _ hJ F N
  | cons x r ih =>
    obtain ⟨nm, t⟩ := x
    intro led m hm hJ
    refine ItemsRest.val fun h tk F => AllObj.cons fun it hit => AllObj.nil fun N => ?_
    rw [fix m hm] at F
    refine wpAny_mono (turn nm t r led it h tk _ hJ F hit N) (fun _ s₂ q => wpAny_mono q (fun fl s₃ z => ?_) fun _ _ e => e) fun _ _ e => e
    have fin : ItS h₀ env.locals { s with heap := h, toks := tk } xl M₀ I it keep (J r) s₃ →
        UnrEndW h₀ env.locals { s with heap := h, toks := tk } [(I, it)] (fun m' n' => SubL keep n' ∧ ItemsRest prog w A E h₀ env (.Name xl px) body Q s [(I, "tuple_iterator")] keep (r.map fun x => .val (.str x.1 x.2)) m' n') s₃ := by
      rintro ⟨h', tk', m', led', e, F', N', ap, sub, J', hm'⟩
      refine ⟨h', tk', m', led', e, F', N', fun p hp q hq => ?_, sub, ih led' m' hm' J'⟩
      rw [List.mem_singleton.mp hq]
      exact ap p hp
    cases fl with
    | next => exact fin z
    | cont => exact fin z
    | brk => exact z.elim
    | ret v => exact z.elim
noncomputable def Ent (kvs : List (Str × Value)) (rest : List (Addr × Obj)) : Prop := ∃ l t1 t2 n, valueAt kvs "setting-constant" = some (.ref l) ∧ (l, lst [.str "setting-constant" t1, .str "error" t2] n) ∈ rest
theorem SubL.cons' {a : Addr × Obj} : ∀ {k l : List (Addr × Obj)}, SubL k l → SubL k (a :: l)
  | [], _, _ => trivial
  | _ :: _, _, h => ⟨.tail _ h.1, SubL.cons' h.2⟩
theorem len_stored {prog : Program} {w : World} {o : Obj} {kvs : List (Str × Value)} {k : Str} {v : Value} (_ : o.IsDictOf (strKind prog w) (stored kvs k v)) : (stored kvs k v).length ≤ kvs.length + 1 := stored_length_le _ _ _
theorem Mine.regCo22 : True := by
  k_with "setItem ref str" => (guard_hyp fl9 : Mine.Fl 24; ((k_here; k_dflt (refine' kda_set (knd := PySem.strKind _ _) (by k_asm) (by k_asm) (by k_updF) (by k_asm) (strKind_is _ _ _ _) (by exact Nat.le_trans (m := 1000) (by k_extra "MY z") (by decide : 1000 ≤ sizeLine)) ?_); intro hzq9 ozq9 Fzq9 Nzq9 hdzq9; (have hz' := len_stored hdzq9); (try dsimp only at Nzq9))))
  exact trivial
inductive CondJ (prog : Program) (w : World) (base : List (Addr × Obj)) (I : Addr) (M₀ : Str → Option Value) (keep : List (Addr × Obj)) (xs : List (Str × Tok)) (led : List (Addr × Obj)) : Prop
  | mk (d9 : Addr) (od : Obj) (kvs : List (Str × Value)) (rest : List (Addr × Obj)) (e : led = (d9, od) :: rest) (hM : M₀ "found" = some (.ref d9)) (hs : SubL keep rest) (hd : od.IsDictOf (strKind prog w) kvs) (lo : (d9 == sysModules) = false) (hz : kvs.length + xs.length ≤ 100) (ap : ∀ p ∈ rest, p.1 ≠ d9) (api : ∀ p ∈ led, p.1 ≠ I)
    (ent : Ent kvs rest ∨ ("setting-constant" : Str) ∈ xs.map (·.1)) (hb : ∀ q ∈ base, q ∈ rest)
theorem items_cond {prog : Program} {w : World} {A : Around} {E : Value → Shared → Prop} {Q : Flow → Shared → Prop} {s : Shared} {env : Env} {h₀ : Heap} {xl : Str} {px : Pos} {body : List Stmt} {I : Addr} {M₀ : Str → Option Value} {keep led base : List (Addr × Obj)} {xs : List (Str × Tok)}
    (hJ : CondJ prog w base I M₀ keep xs led)
    (turn : ∀ nm t r led it h tk u, CondJ prog w base I M₀ keep ((nm, t) :: r) led → Fr h₀ env.locals h (fun y => if y = xl then u else M₀ y) → it.cls = .type "tuple_iterator" → News h₀ env.locals h ((I, it) :: led) →
      wpAny (model prog w) A (assign (.Name xl px) env (.str nm t)) (fun _ s₂ => wpAny (model prog w) A (execs body env) (ItTurn h₀ env.locals { s with heap := h, toks := tk } xl M₀ I it keep (CondJ prog w base I M₀ keep r)) E s₂) E { s with heap := h, toks := tk })
    (done : ∀ led h tk u, CondJ prog w base I M₀ keep [] led → Fr h₀ env.locals h (fun y => if y = xl then u else M₀ y) → News h₀ env.locals h led → Q .next { s with heap := h, toks := tk }) :
    ItemsRest prog w A E h₀ env (.Name xl px) body Q s [(I, "tuple_iterator")] keep (xs.map fun x => .val (.str x.1 x.2)) M₀ led :=
  items_at (CondJ prog w base I M₀ keep) turn done xs led M₀ (fun _ _ => rfl) hJ
theorem Mine.regCo23 : True := by
  k_with "call builtin:dict.get" => (guard_hyp fl9 : Mine.Fl 24; ((k_here; refine Hold.out ?_)))
  exact trivial
end
namespace Ep_conditions_ok
noncomputable abbrev D : Type := (Program) × (World) × (Program) × (List Str) × (ExcName → Option Value) × (Str → Option Value) × (Str → Option Value) × (Nat) × (Nat) × (Option (List Code)) × (Str) × (Scope) × (Addr) × (Value) × (List (Str × Addr)) × (List Env) × (Around) × (Heap) × (Heap) × (Addr) × (Str → Option Value) × (List (Addr × Obj)) × (Shared) × (Value → Shared → Prop) × (Value → Shared → Prop) × (Tok)
noncomputable def S (d : D) : Prop := (fun (prog : Program) (w : World) (p : Program) (loose : List Str) (mean : ExcName → Option Value) (mg : Str → Option Value) (mb : Str → Option Value) (dp : Nat) (un : Nat) (gd : Option (List Code)) (cn : Str) (cs : Scope) (a : Addr) (ccd : Value) (cl : List (Str × Addr)) (outer : List Env) (A₀ : Around) (base : Heap) (h₀ : Heap) (L : Addr) (m : Str → Option Value) (news : List (Addr × Obj)) (s : Shared) (Q : Value → Shared → Prop) (E : Value → Shared → Prop) (tk : Tok) => ∀ (B : Below A₀ base outer h₀) (F : Fr h₀ L s.heap m) (X : (Mine.K w.params).In h₀) (N : News h₀ L s.heap news) (T : Top p loose mean mg mb h₀) (hk : cs.kind = .function) (hdp : dp ≤ 480) (hun : un ≤ 560) (ret : ∀ l t1 t2 n h' tk', Fr h₀ L h' m → News h₀ L h' ((l, lst [.str "setting-constant" t1, .str "error" t2] n) :: news) → Q (.ref l) { s with heap := h', toks := tk' }), wpAny (model prog w) (ktrTop dp un gd cn cs L a ccd cl outer) (call (.ref 55) [.str "setting-constant" tk]) Q E s) d.1 d.2.1 d.2.2.1 d.2.2.2.1 d.2.2.2.2.1 d.2.2.2.2.2.1 d.2.2.2.2.2.2.1 d.2.2.2.2.2.2.2.1 d.2.2.2.2.2.2.2.2.1 d.2.2.2.2.2.2.2.2.2.1 d.2.2.2.2.2.2.2.2.2.2.1 d.2.2.2.2.2.2.2.2.2.2.2.1 d.2.2.2.2.2.2.2.2.2.2.2.2.1 d.2.2.2.2.2.2.2.2.2.2.2.2.2.1 d.2.2.2.2.2.2.2.2.2.2.2.2.2.2.1 d.2.2.2.2.2.2.2.2.2.2.2.2.2.2.2.1 d.2.2.2.2.2.2.2.2.2.2.2.2.2.2.2.2.1 d.2.2.2.2.2.2.2.2.2.2.2.2.2.2.2.2.2.1 d.2.2.2.2.2.2.2.2.2.2.2.2.2.2.2.2.2.2.1 d.2.2.2.2.2.2.2.2.2.2.2.2.2.2.2.2.2.2.2.1 d.2.2.2.2.2.2.2.2.2.2.2.2.2.2.2.2.2.2.2.2.1 d.2.2.2.2.2.2.2.2.2.2.2.2.2.2.2.2.2.2.2.2.2.1 d.2.2.2.2.2.2.2.2.2.2.2.2.2.2.2.2.2.2.2.2.2.2.1 d.2.2.2.2.2.2.2.2.2.2.2.2.2.2.2.2.2.2.2.2.2.2.2.1 d.2.2.2.2.2.2.2.2.2.2.2.2.2.2.2.2.2.2.2.2.2.2.2.2.1 d.2.2.2.2.2.2.2.2.2.2.2.2.2.2.2.2.2.2.2.2.2.2.2.2.2
theorem ne : Nonempty D := ⟨(default, Mine.w00, default, default, (fun _ => default), (fun _ => default), (fun _ => default), default, default, default, default, default, default, default, default, default, ({} : Around), default, default, default, (fun _ => default), default, ({} : Shared), (fun _ _ => True), (fun _ _ => True), default)⟩
noncomputable def X : D := @Classical.epsilon D ne fun d => ¬ S d
@[irreducible] noncomputable def prog : Program := X.1
@[irreducible] noncomputable def w : World := X.2.1
@[irreducible] noncomputable def p : Program := X.2.2.1
@[irreducible] noncomputable def loose : List Str := X.2.2.2.1
@[irreducible] noncomputable def mean : ExcName → Option Value := X.2.2.2.2.1
@[irreducible] noncomputable def mg : Str → Option Value := X.2.2.2.2.2.1
@[irreducible] noncomputable def mb : Str → Option Value := X.2.2.2.2.2.2.1
@[irreducible] noncomputable def dp : Nat := X.2.2.2.2.2.2.2.1
@[irreducible] noncomputable def un : Nat := X.2.2.2.2.2.2.2.2.1
@[irreducible] noncomputable def gd : Option (List Code) := X.2.2.2.2.2.2.2.2.2.1
@[irreducible] noncomputable def cn : Str := X.2.2.2.2.2.2.2.2.2.2.1
@[irreducible] noncomputable def cs : Scope := X.2.2.2.2.2.2.2.2.2.2.2.1
@[irreducible] noncomputable def a : Addr := X.2.2.2.2.2.2.2.2.2.2.2.2.1
@[irreducible] noncomputable def ccd : Value := X.2.2.2.2.2.2.2.2.2.2.2.2.2.1
@[irreducible] noncomputable def cl : List (Str × Addr) := X.2.2.2.2.2.2.2.2.2.2.2.2.2.2.1
@[irreducible] noncomputable def outer : List Env := X.2.2.2.2.2.2.2.2.2.2.2.2.2.2.2.1
@[irreducible] noncomputable def A₀ : Around := X.2.2.2.2.2.2.2.2.2.2.2.2.2.2.2.2.1
@[irreducible] noncomputable def base : Heap := X.2.2.2.2.2.2.2.2.2.2.2.2.2.2.2.2.2.1
@[irreducible] noncomputable def h₀ : Heap := X.2.2.2.2.2.2.2.2.2.2.2.2.2.2.2.2.2.2.1
@[irreducible] noncomputable def L : Addr := X.2.2.2.2.2.2.2.2.2.2.2.2.2.2.2.2.2.2.2.1
@[irreducible] noncomputable def m : Str → Option Value := X.2.2.2.2.2.2.2.2.2.2.2.2.2.2.2.2.2.2.2.2.1
@[irreducible] noncomputable def news : List (Addr × Obj) := X.2.2.2.2.2.2.2.2.2.2.2.2.2.2.2.2.2.2.2.2.2.1
@[irreducible] noncomputable def s : Shared := X.2.2.2.2.2.2.2.2.2.2.2.2.2.2.2.2.2.2.2.2.2.2.1
@[irreducible] noncomputable def Q : Value → Shared → Prop := X.2.2.2.2.2.2.2.2.2.2.2.2.2.2.2.2.2.2.2.2.2.2.2.1
@[irreducible] noncomputable def E : Value → Shared → Prop := X.2.2.2.2.2.2.2.2.2.2.2.2.2.2.2.2.2.2.2.2.2.2.2.2.1
@[irreducible] noncomputable def tk : Tok := X.2.2.2.2.2.2.2.2.2.2.2.2.2.2.2.2.2.2.2.2.2.2.2.2.2
theorem conditions_ok (B : Below A₀ base outer h₀) (F : Fr h₀ L s.heap m) (X : (Mine.K w.params).In h₀) (N : News h₀ L s.heap news) (T : Top p loose mean mg mb h₀) (hk : cs.kind = .function) (hdp : dp ≤ 480) (hun : un ≤ 560) (ret : ∀ l t1 t2 n h' tk', Fr h₀ L h' m → News h₀ L h' ((l, lst [.str "setting-constant" t1, .str "error" t2] n) :: news) → Q (.ref l) { s with heap := h', toks := tk' }):
   wpAny (model prog w) (ktrTop dp un gd cn cs L a ccd cl outer) (call (.ref 55) [.str "setting-constant" tk]) Q E s := Mine.byKey fun kzq9 => Mine.Fam.of (by exact Mine.Fam.mk : Mine.Fam ((Mine.Key.unbox kzq9 (by simp only [Mine.Key.box kzq9 (by
  clear kzq9
  have fl9 : Mine.Fl 24 := Mine.Fl.mk
  refine wcall ?_
  k_dflt (k_extra "MY enter")
  clear F N
  k_steps
  refine Hold.mk ?_
  rename Fr _ _ _ _ => F9
  with_reducible refine For_turns F9 ?h ?hs ?hE
  case hs => exact fun _ => rfl
  case hE => passes_own
  case h =>
    skip
    k_steps
    refine Hold.mk ?_
    rename Fr _ _ _ _ => F9
    rename News _ _ _ _ => N9
    rename Obj.IsDictOf _ _ _ => hd9
    rename ((_ == sysModules) = false) => lo9
    rename (_ < _ ∧ _ < _ ∧ _ < _ ∧ AllLt _ _) => lt9
    replace N9 := News.sel 4 [3, 0, 1, 2] N9
    simp only [sel, nth?, List.drop] at N9
    refine iter_tupTurns (by rfl) F9 N9 (.tail _ (.head _)) rfl rfl fun I hI => ?_
    replace hI := allLt_of hI
    simp only [AllLt] at hI
    refine items_cond (base := news) (xs := [("user-error", _), ("wrong-type-argument", _), ("args-out-of-range", _), ("void-function", _), ("void-variable", _), ("cyclic-function-indirection", _), ("cyclic-variable-indirection", _), ("circular-list", _), ("setting-constant", _), ("invalid-read-syntax", _), ("invalid-function", _), ("wrong-number-of-arguments", _), ("end-of-file", _), ("arith-error", _), ("beginning-of-buffer", _), ("end-of-buffer", _), ("buffer-read-only", _), ("mark-inactive", _), ("search-failed", _), ("invalid-regexp", _), ("scan-error", _), ("file-error", _), ("no-catch", _), ("coding-system-error", _)]) ?J ?turn ?done
    case J =>
      refine ⟨_, _, _, _, rfl, rfl, ⟨.head _, trivial⟩, hd9, lo9, Nat.le_of_ble_eq_true rfl, ?_, ?_, ?e, ?b⟩
      case e => exact .inr (by simp)
      case b => exact fun q hq => .tail _ (.tail _ (.tail _ hq))
      · first | k_dflt k_all | done
      · first | k_dflt k_all | done
    case turn =>
      clear F9 N9
      rintro nm9 t9 r9 led9 it9 h9 tk9 u9 ⟨d9, od9, kvs9, rest9, rfl, hM9, hs9, hd8, lo8, hz9, ap9, api9, hent, hbs9⟩ F9 hit9 N9
      k_extra "MY q"
      have e9 := Option.some.inj hM9
      injection e9 with e9
      subst e9
      have hne9 := Ne.symm (api9 _ (.head _))
      have hz8 : kvs9.length ≤ 900 := by simp only [List.length_cons] at hz9; omega
      have apr9 : ∀ p ∈ rest9, p.1 ≠ I := fun p hp => api9 p (.tail _ hp)
      k_steps
      rename News _ _ _ _ => N8
      rename Obj.IsDictOf _ _ _ => hd7
      rename (_ < _ ∧ _ < _ ∧ AllLt _ rest9) => lt7
      obtain ⟨lt1, lt2, lt3⟩ := lt7
      refine ⟨_, _, _, (_, _) :: (_, _) :: rest9, rfl, by assumption, News.sel 3 [1, 2, 0] N8, ?_, SubL.cons' (SubL.cons' hs9), ⟨_, _, _, _, rfl, rfl, SubL.cons' hs9, hd7, lo8, ?_, ?_, ?_, ?_, fun q hq => .tail _ (hbs9 q hq)⟩, fun y hy => by simp +zetaDelta [hy]⟩
      · intro p hp
        rcases List.mem_cons.mp hp with rfl | hp
        · exact hne9.symm
        rcases List.mem_cons.mp hp with rfl | hp
        · exact Nat.ne_of_gt lt1
        · exact apr9 p hp
      · simp only [List.length_cons] at hz9
        exact Nat.le_trans (Nat.add_le_add_right (stored_length_le _ _ _) _) (by omega)
      · intro p hp
        rcases List.mem_cons.mp hp with rfl | hp
        · exact Nat.ne_of_gt lt2
        · exact ap9 p hp
      · intro p hp
        rcases List.mem_cons.mp hp with rfl | hp
        · exact hne9.symm
        rcases List.mem_cons.mp hp with rfl | hp
        · exact Nat.ne_of_gt lt1
        · exact apr9 p hp
      · by_cases hc : nm9 = "setting-constant"
        · subst hc
          exact .inl ⟨_, _, _, _, valueAt_stored_eq, .head _⟩
        · rcases hent with ⟨l9, t19, t29, n9, hv9, hm9⟩ | hent
          · exact .inl ⟨l9, t19, t29, n9, by rw [valueAt_stored_ne hc]; exact hv9, .tail _ hm9⟩
          · right
            rcases List.mem_cons.mp hent with h | h
            · exact absurd h.symm hc
            · exact h
    case done =>
      clear F9 N9
      rintro led9 h9 tk9 u9 ⟨d9, od9, kvs9, rest9, rfl, hM9, hs9, hd8, lo8, hz9, ap9, api9, hent, hbs9⟩ F9 N9
      have e9 := Option.some.inj hM9
      injection e9 with e9
      subst e9
      have hz8 : kvs9.length ≤ 100 := by simp only [List.length_nil] at hz9; omega
      obtain ⟨l9, t19, t29, n9, hv9, hm9⟩ := hent.resolve_right (by simp)
      k_steps
      refine Hold.mk (kdg_get2 (knd := strKind prog w) (by k_asm) (by k_mem) (by k_asm) lo8 (strKind_is _ _ _ _) (some (.ref l9)) ?_ ?_)
      · repeat rw [valueAt_stored_ne (by decide)]
        exact hv9
      · dsimp only [Option.getD]
        k_steps
        rename News h₀ L _ _ => N8
        refine ret l9 t19 t29 n9 _ _ (by assumption) (fun q hq => N8 q ?_)
        rcases List.mem_cons.mp hq with rfl | hq
        · iterate 8 refine List.mem_cons_of_mem _ ?_
          exact hm9
        · iterate 8 refine List.mem_cons_of_mem _ ?_
          exact hbs9 q hq)])) :))
theorem all : ∀ d, S d := Mine.eps ne (by with_unfolding_all exact @conditions_ok)
end Ep_conditions_ok
section
variable {prog : Program} {w : World} {p : Program} {loose : List Str} {mean : ExcName → Option Value} {mg mb : Str → Option Value}
 {dp un : Nat} {gd : Option (List Code)} {cn : Str} {cs : Scope} {a : Addr} {ccd : Value} {cl : List (Str × Addr)} {outer : List Env} {A₀ : Around} {base h₀ : Heap} {L : Addr} {m : Str → Option Value} {news : List (Addr × Obj)} {s : Shared} {Q E : Value → Shared → Prop}
theorem conditions_ok {tk : Tok}
   (B : Below A₀ base outer h₀) (F : Fr h₀ L s.heap m) (X : (Mine.K w.params).In h₀) (N : News h₀ L s.heap news) (T : Top p loose mean mg mb h₀) (hk : cs.kind = .function) (hdp : dp ≤ 480) (hun : un ≤ 560)
   (ret : ∀ l t1 t2 n h' tk', Fr h₀ L h' m → News h₀ L h' ((l, lst [.str "setting-constant" t1, .str "error" t2] n) :: news) → Q (.ref l) { s with heap := h', toks := tk' }) :
   wpAny (model prog w) (ktrTop dp un gd cn cs L a ccd cl outer) (call (.ref 55) [.str "setting-constant" tk]) Q E s := Ep_conditions_ok.all (prog, w, p, loose, mean, mg, mb, dp, un, gd, cn, cs, a, ccd, cl, outer, A₀, base, h₀, L, m, news, s, Q, E, tk) B F X N T hk hdp hun ret
end
end Mine
end PartCo2
section PartG1
open PySem PySem.W PyProof.Rows PySem.Calls PySem.Spec Mine
set_option maxHeartbeats 4000000
namespace Mine
/-- what a function cell holds: a symbol's number, or the one thing that is no symbol -/
noncomputable def FVal (P : Params) (fz : List (Addr × Obj)) (vs : List Value) (v : Value) : Option Nat → Prop
  | none => ∃ t, v = .int 7 t
  | some i => ∃ x nm, v = .ref x ∧ vs[i]? = some (.ref x) ∧ SymOf P fz x i nm
noncomputable def CellsRel (P : Params) (fz : List (Addr × Obj)) (vs : List Value) (kvs : List (Int × Value)) (fn : Nat → Option Nat) : Prop :=
  ∀ i : Nat, (valueAt kvs (i : Int) = none ∧ fn i = some 0) ∨ ∃ v, valueAt kvs (i : Int) = some v ∧ FVal P fz vs v (fn i)
noncomputable def Ends (fn : Nat → Option Nat) : Nat → Option Nat → Prop
  | 0, c => c = none ∨ c = some 0
  | n + 1, c => (c = none ∨ c = some 0) ∨ ∃ j, c = some (j + 1) ∧ Ends fn n (fn (j + 1))
noncomputable def hits (fn : Nat → Option Nat) : Nat → Nat → Option Nat → Bool
  | 0, _, _ => false
  | _ + 1, _, none => false
  | _ + 1, _, some 0 => false
  | n + 1, i, some (j + 1) => if j + 1 = i then true else hits fn n i (fn (j + 1))
noncomputable def lead (fn : Nat → Option Nat) : Nat → Option Nat → Option Nat
  | 0, c => c
  | _ + 1, none => none
  | _ + 1, some 0 => some 0
  | n + 1, some (j + 1) => lead fn n (fn (j + 1))
noncomputable abbrev celO (P : Params) (fd pd : Addr) (t1 t2 : Tok) : Obj := dictOf [⟨PyData.keyHash P "functions", .str "functions" t1, .ref fd⟩, ⟨PyData.keyHash P "plists", .str "plists" t2, .ref pd⟩] 2
section
variable {prog : Program} {w : World} {p : Program} {loose : List Str} {mean : ExcName → Option Value} {mg mb : Str → Option Value}
 {dp un : Nat} {gd : Option (List Code)} {cn : Str} {cs : Scope} {a : Addr} {ccd : Value} {cl : List (Str × Addr)} {outer : List Env} {A₀ : Around} {base h₀ : Heap} {L : Addr} {m : Str → Option Value} {news : List (Addr × Obj)} {s : Shared} {Q E : Value → Shared → Prop}
variable {ce ceD fd pd : Addr} {t1 t2 : Tok} {fo : Obj} {vs : List Value} {kvs : List (Int × Value)} {fn : Nat → Option Nat} {x : Addr} {i : Nat} {nm : Str}
theorem isi_sym {A : Around} {fz : List (Addr × Obj)} (F : Fr h₀ L s.heap m) (X : (Mine.K w.params).In h₀) (N : News h₀ L s.heap news) (S : SymOf w.params fz x i nm) (sub : ∀ p ∈ fz, p ∈ news) (h : Q (.bool true) s) :
    wpAny (model prog w) A (call (.builtin "isinstance") [.ref x, .ref 72]) Q E s := by
  obtain ⟨dx, u1, u2, u3, u4, I⟩ := sym_inst F X N S sub
  exact isi_call (X.keeps F.keep) (fun M => InstAt.type I) (by k_is) (by intro q; cases q) h
theorem function_of_ok {fz : List (Addr × Obj)}
   (B : Below A₀ base outer h₀) (F : Fr h₀ L s.heap m) (X : (Mine.K w.params).In h₀) (N : News h₀ L s.heap ((ce, instObj 197 ceD) :: (ceD, celO w.params fd pd t1 t2) :: (fd, fo) :: news)) (T : Top p loose mean mg mb h₀) (hk : cs.kind = .function) (hdp : dp ≤ 500) (hun : un ≤ 600)
   (lo : (fd == sysModules) = false) (hd : fo.IsDictOf (intKind prog w) kvs) (h0 : vs[0]? = some (.ref 78)) (R : CellsRel w.params fz vs kvs fn) (S : SymOf w.params fz x i nm) (sub : ∀ p ∈ fz, p ∈ news)
   (ret : ∀ v h' tk', FVal w.params fz vs v (fn i) → Fr h₀ L h' m → News h₀ L h' ((ce, instObj 197 ceD) :: (ceD, celO w.params fd pd t1 t2) :: (fd, fo) :: news) → Q v { s with heap := h', toks := tk' }) :
   wpAny (model prog w) (ktrTop dp un gd cn cs L a ccd cl outer) (call (.ref 138) [.ref ce, .ref x]) Q E s := Mine.byKey fun kzq9 => Mine.Fam.of (by exact Mine.Fam.mk : Mine.Fam ((Mine.Key.unbox kzq9 (by simp only [Mine.Key.box kzq9 (by
  clear kzq9
  replace S := S.mono sub
  refine wcall ?_
  k_dflt (k_extra "MY enter")
  clear F N
  rcases R i with ⟨hv, hf⟩ | ⟨v, hv, hf⟩
  · k_steps
    refine ret _ _ _ ?_ (by assumption) (by assumption)
    rw [hf]
    exact ⟨78, "nil", rfl, h0, .inl ⟨rfl, rfl, rfl⟩⟩
  · k_steps
    exact ret _ _ _ hf (by assumption) (by assumption))])) :))
end
end Mine
theorem Mine.regG11 : True := by
  k_with "call builtin:isinstance" => ((k_here; k_dflt (refine isi_sym (by k_asm) (by k_asm) (by k_asm) (by assumption) (by k_extra "MY sub") ?_)))
  exact trivial
end PartG1
section PartG2
open PySem PySem.W PyProof.Rows PySem.Calls PySem.Spec Mine
set_option maxHeartbeats 4000000
namespace Mine
theorem Mine.regG21 : True := by
  k_with "call ref" => (guard_hyp fl9 : Mine.Fl 26; ((k_here; (with_reducible show wpAny _ _ (call (Value.ref 138) _) _ _ _); refine Hold.out ?_)))
  k_with "exec While BoolOp" => (guard_hyp fl9 : Mine.Fl 26; ((k_here; refine Hold.out ?_)))
  exact trivial
theorem lead_end {fn : Nat → Option Nat} {c : Option Nat} (n : Nat) (h : c = none ∨ c = some 0) : lead fn n c = c := by
  cases n with
  | zero => rfl
  | succ n => rcases h with rfl | rfl <;> rfl
section
variable {prog : Program} {w : World} {p : Program} {loose : List Str} {mean : ExcName → Option Value} {mg mb : Str → Option Value}
 {dp un : Nat} {gd : Option (List Code)} {cn : Str} {cs : Scope} {a : Addr} {ccd : Value} {cl : List (Str × Addr)} {outer : List Env} {A₀ : Around} {base h₀ : Heap} {L : Addr} {m : Str → Option Value} {news : List (Addr × Obj)} {s : Shared} {Q E : Value → Shared → Prop}
variable {ce ceD fd pd : Addr} {t1 t2 : Tok} {fo : Obj} {vs : List Value} {kvs : List (Int × Value)} {fn : Nat → Option Nat} {x : Addr} {i : Nat} {nm : Str}

theorem indirect_ok {v₀ : Value} {c₀ : Option Nat} {n₀ : Nat}
   (B : Below A₀ base outer h₀) (F : Fr h₀ L s.heap m) (X : (Mine.K w.params).In h₀) (N : News h₀ L s.heap ((ce, instObj 197 ceD) :: (ceD, celO w.params fd pd t1 t2) :: (fd, fo) :: news)) (T : Top p loose mean mg mb h₀) (hk : cs.kind = .function) (hdp : dp ≤ 480) (hun : un ≤ 560)
   (lo : (fd == sysModules) = false) (hd : fo.IsDictOf (intKind prog w) kvs) (h0 : vs[0]? = some (.ref 78)) (R : CellsRel w.params news vs kvs fn) (V : FVal w.params news vs v₀ c₀) (hn : Ends fn n₀ c₀)
   (ret : ∀ v h' tk', FVal w.params news vs v (lead fn n₀ c₀) → Fr h₀ L h' m → News h₀ L h' ((ce, instObj 197 ceD) :: (ceD, celO w.params fd pd t1 t2) :: (fd, fo) :: news) → Q v { s with heap := h', toks := tk' }) :
   wpAny (model prog w) (ktrTop dp un gd cn cs L a ccd cl outer) (call (.ref 159) [.ref ce, v₀]) Q E s := Mine.byKey fun kzq9 => Mine.Fam.of (by exact Mine.Fam.mk : Mine.Fam ((Mine.Key.unbox kzq9 (by simp only [Mine.Key.box kzq9 (by
  clear kzq9
  have fl9 : Mine.Fl 26 := Mine.Fl.mk
  refine wcall ?_
  k_dflt (k_extra "MY enter")
  clear F N
  k_steps
  refine Hold.mk ?_
  rename Fr _ _ _ _ => F9
  rename News _ _ _ _ => N9
  refine While_at (x := "at") (fun n v => ∃ c, FVal w.params news vs v c ∧ Ends fn n c ∧ lead fn n c = lead fn n₀ c₀) F9 N9 ⟨c₀, V, hn, rfl⟩ ?_
  clear F9 N9
  rintro n v h1 tk1 F1 N1 ⟨c, V1, E1, L1⟩
  k_extra "MY q"
  cases c with
  | none =>
    obtain ⟨t, rfl⟩ := V1
    k_steps
    refine ret _ _ _ ?_ (by assumption) (by assumption)
    rw [← L1, lead_end n (.inl rfl)]
    exact ⟨t, rfl⟩
  | some i =>
    obtain ⟨x, nm, rfl, hx, S⟩ := V1
    cases i with
    | zero =>
      k_steps
      refine ret _ _ _ ?_ (by assumption) (by assumption)
      rw [← L1, lead_end n (.inr rfl)]
      exact ⟨x, nm, rfl, hx, S⟩
    | succ j =>
      obtain ⟨n', rfl, E2⟩ : ∃ n', n = n' + 1 ∧ Ends fn n' (fn (j + 1)) := by
        cases n with
        | zero => rcases E1 with h | h <;> simp at h
        | succ n' =>
          rcases E1 with (h | h) | ⟨j', h, E2⟩
          · simp at h
          · simp at h
          · simp at h
            subst h
            exact ⟨n', rfl, E2⟩
      k_steps
      k_dflt (refine' Hold.mk (function_of_ok ?B ?F ?X N1 ?T ?hk ?hdp ?hun lo hd h0 R S (fun _ h => h) ?_))
      case B => k_asm
      case F => k_asm
      case X => k_asm
      case T => k_asm
      case hk => first | exact rfl | assumption
      case hdp => ktr_room
      case hun => units_room
      clear F1 N1
      intro v' h' tk' V' F' N'
      k_steps
      refine ⟨_, _, _, v', n', rfl, by assumption, by assumption, Nat.lt_succ_self _, ⟨_, V', E2, L1⟩, rfl, fun y hy => by simp +zetaDelta [hy]⟩)])) :))
end
end Mine
end PartG2
section PartG3
open PySem PySem.W PyProof.Rows PySem.Calls PySem.Spec Mine
set_option maxHeartbeats 4000000
namespace Mine
theorem Raise_sigW {prog : Program} {w : World} {A : Around} {E : Value → Shared → Prop} {s : Shared} {env : Env} {e : PySem.Expr} {pos : Pos} {Q : Flow → Shared → Prop} (hh : A.handled = none)
    (h : wpAny (model prog w) A (eval e env) (SigRaise w.params E) E s) : wpAny (model prog w) A (exec (.Raise (some e) none pos) env) Q E s := Raise_sig hh h
theorem Mine.regG31 : True := by
  k_with "call ref" => (guard_hyp fl9 : Mine.Fl 27; ((k_here; (with_reducible show wpAny _ _ (call (Value.ref 138) _) _ _ _); refine Hold.out ?_)))
  exact trivial
theorem is_sym_ne {prog : Program} {w : World} {A : Around} {E : Value → Shared → Prop} {s : Shared} {h₀ : Heap} {L : Addr} {m : Str → Option Value} {news fz : List (Addr × Obj)} {x y : Addr} {i j : Nat} {nm nm' : Str} {Q : Value → Shared → Prop} (hne : x ≠ y) (F : Fr h₀ L s.heap m) (X : (Mine.K w.params).In h₀) (N : News h₀ L s.heap news) (S : SymOf w.params fz x i nm) (S' : SymOf w.params fz y j nm') (sub : ∀ p ∈ fz, p ∈ news)
    (h : Q (.bool false) s) : wpAny (model prog w) A (compareOp .Is (.ref x) (.ref y)) Q E s := is_sym F X N S S' sub (by simpa [hne] using h)
theorem Mine.regG32 : True := by
  k_with "compareOp Is ref ref" => (guard_hyp fl9 : Mine.Fl 27; ((k_here; k_dflt (refine is_sym_ne (by assumption) (by k_asm) (by k_asm) (by k_asm) (by assumption) (by assumption) (by k_extra "MY sub") ?_))))
  k_with "pyIter ref" => (guard_hyp fl9 : Mine.Fl 27; ((k_here; refine Hold.out ?_)))
  k_with "exec Raise some none" => (guard_hyp fl9 : Mine.Fl 27; ((k_here; k_dflt (refine Raise_sigW (by rfl) ?_))))
  k_with "call ref" => (guard_hyp fl9 : Mine.Fl 27; ((k_here; (with_reducible show wpAny _ _ (call (Value.ref 38) _) _ _ _); k_dflt (refine' lisp_signal (by k_asm) (by k_asm) (by k_asm) (by k_asm) (by k_asm) (by first | exact rfl | assumption) (by ktr_room) (by units_room) ?_); intro hzq9 tkzq9 e' D' oD' ta' oT' mS' Fzq9 Nzq9 ne' ap' hD' hvzq9; k_dflt (refine ⟨e', D', ta', rfl, Frag.In.keeps (by k_asm) (Fr.keep Fzq9), (Nzq9 _ (.tail _ (.head _))).1, ?_⟩))))
  k_with "leaving ref" => (guard_hyp fl9 : Mine.Fl 27; ((k_here; k_dflt (refine' sig_leave (by k_asm) (by k_asm) (by k_asm) (by k_asm) (by k_asm) (by k_asm) (by k_asm) ?_); intro hzq9 R' U')))
  exact trivial
section
variable {prog : Program} {w : World} {p : Program} {loose : List Str} {mean : ExcName → Option Value} {mg mb : Str → Option Value}
 {dp un : Nat} {gd : Option (List Code)} {cn : Str} {cs : Scope} {a : Addr} {ccd : Value} {cl : List (Str × Addr)} {outer : List Env} {A₀ : Around} {base h₀ : Heap} {L : Addr} {m : Str → Option Value} {news : List (Addr × Obj)} {s : Shared} {Q E : Value → Shared → Prop}
variable {ce ceD fd pd : Addr} {t1 t2 : Tok} {fo : Obj} {vs : List Value} {kvs : List (Int × Value)} {fn : Nat → Option Nat} {x : Addr} {i : Nat} {nm : Str}


end
namespace Ep_set_function_ok
noncomputable abbrev D : Type := (Program) × (World) × (Program) × (List Str) × (ExcName → Option Value) × (Str → Option Value) × (Str → Option Value) × (Nat) × (Nat) × (Option (List Code)) × (Str) × (Scope) × (Addr) × (Value) × (List (Str × Addr)) × (List Env) × (Around) × (Heap) × (Heap) × (Addr) × (Str → Option Value) × (List (Addr × Obj)) × (Shared) × (Value → Shared → Prop) × (Value → Shared → Prop) × (Addr) × (Addr) × (Addr) × (Addr) × (Tok) × (Tok) × (Obj) × (List Value) × (List (Int × Value)) × (Nat → Option Nat)
noncomputable def S (d : D) : Prop := (fun (prog : Program) (w : World) (p : Program) (loose : List Str) (mean : ExcName → Option Value) (mg : Str → Option Value) (mb : Str → Option Value) (dp : Nat) (un : Nat) (gd : Option (List Code)) (cn : Str) (cs : Scope) (a : Addr) (ccd : Value) (cl : List (Str × Addr)) (outer : List Env) (A₀ : Around) (base : Heap) (h₀ : Heap) (L : Addr) (m : Str → Option Value) (news : List (Addr × Obj)) (s : Shared) (Q : Value → Shared → Prop) (E : Value → Shared → Prop) (ce : Addr) (ceD : Addr) (fd : Addr) (pd : Addr) (t1 : Tok) (t2 : Tok) (fo : Obj) (vs : List Value) (kvs : List (Int × Value)) (fn : Nat → Option Nat) => ∀ {x : Addr} {i : Nat} {nm : Str} {v₀ : Value} {c₀ : Option Nat} {n₀ : Nat} (B : Below A₀ base outer h₀) (F : Fr h₀ L s.heap m) (X : (Mine.K w.params).In h₀) (N : News h₀ L s.heap ((ce, instObj 197 ceD) :: (ceD, celO w.params fd pd t1 t2) :: (fd, fo) :: news)) (T : Top p loose mean mg mb h₀) (hk : cs.kind = .function) (hdp : dp ≤ 480) (hun : un ≤ 560) (lo : (fd == sysModules) = false) (hd : fo.IsDictOf (intKind prog w) kvs) (hz : kvs.length ≤ 900) (h0 : vs[0]? = some (.ref 78)) (R : CellsRel w.params news vs kvs fn) (S : SymOf w.params news x i nm) (hx : vs[i]? = some (.ref x)) (V : FVal w.params news vs v₀ c₀) (hn : Ends fn n₀ c₀) (hnn : n₀ < 100) (a1 : Apt ce fd) (a2 : Apt ceD fd) (ap : ∀ p ∈ news, p.1 ≠ fd) (ret : ¬(i = 0 ∧ c₀ ≠ some 0) → hits fn (n₀ + 1) i c₀ = false → ∀ o' h' tk', Fr h₀ L h' m → News h₀ L h' ((ce, instObj 197 ceD) :: (ceD, celO w.params fd pd t1 t2) :: (fd, o') :: news) → o'.IsDictOf (intKind prog w) (stored kvs (i : Int) v₀) → Q .none { s with heap := h', toks := tk' }) (rais : ∀ G e D oD h' tk' msg t led, ((i = 0 ∧ c₀ ≠ some 0 ∧ msg = "setting-constant") ∨ (¬(i = 0 ∧ c₀ ≠ some 0) ∧ hits fn (n₀ + 1) i c₀ = true ∧ msg = "cyclic-function-indirection")) → Fr h₀ L G m →
     SigFly base G (envX cn cs L a ccd cl :: outer) e D oD (.str msg t) led h' → (∀ q ∈ (ce, instObj 197 ceD) :: (ceD, celO w.params fd pd t1 t2) :: (fd, fo) :: news, q ∈ led) → G.UpToSlots h' → E (.ref e) { s with heap := h', toks := tk' }), wpAny (model prog w) (ktrTop dp un gd cn cs L a ccd cl outer) (call (.ref 152) [.ref ce, .ref x, v₀]) Q E s) d.1 d.2.1 d.2.2.1 d.2.2.2.1 d.2.2.2.2.1 d.2.2.2.2.2.1 d.2.2.2.2.2.2.1 d.2.2.2.2.2.2.2.1 d.2.2.2.2.2.2.2.2.1 d.2.2.2.2.2.2.2.2.2.1 d.2.2.2.2.2.2.2.2.2.2.1 d.2.2.2.2.2.2.2.2.2.2.2.1 d.2.2.2.2.2.2.2.2.2.2.2.2.1 d.2.2.2.2.2.2.2.2.2.2.2.2.2.1 d.2.2.2.2.2.2.2.2.2.2.2.2.2.2.1 d.2.2.2.2.2.2.2.2.2.2.2.2.2.2.2.1 d.2.2.2.2.2.2.2.2.2.2.2.2.2.2.2.2.1 d.2.2.2.2.2.2.2.2.2.2.2.2.2.2.2.2.2.1 d.2.2.2.2.2.2.2.2.2.2.2.2.2.2.2.2.2.2.1 d.2.2.2.2.2.2.2.2.2.2.2.2.2.2.2.2.2.2.2.1 d.2.2.2.2.2.2.2.2.2.2.2.2.2.2.2.2.2.2.2.2.1 d.2.2.2.2.2.2.2.2.2.2.2.2.2.2.2.2.2.2.2.2.2.1 d.2.2.2.2.2.2.2.2.2.2.2.2.2.2.2.2.2.2.2.2.2.2.1 d.2.2.2.2.2.2.2.2.2.2.2.2.2.2.2.2.2.2.2.2.2.2.2.1 d.2.2.2.2.2.2.2.2.2.2.2.2.2.2.2.2.2.2.2.2.2.2.2.2.1 d.2.2.2.2.2.2.2.2.2.2.2.2.2.2.2.2.2.2.2.2.2.2.2.2.2.1 d.2.2.2.2.2.2.2.2.2.2.2.2.2.2.2.2.2.2.2.2.2.2.2.2.2.2.1 d.2.2.2.2.2.2.2.2.2.2.2.2.2.2.2.2.2.2.2.2.2.2.2.2.2.2.2.1 d.2.2.2.2.2.2.2.2.2.2.2.2.2.2.2.2.2.2.2.2.2.2.2.2.2.2.2.2.1 d.2.2.2.2.2.2.2.2.2.2.2.2.2.2.2.2.2.2.2.2.2.2.2.2.2.2.2.2.2.1 d.2.2.2.2.2.2.2.2.2.2.2.2.2.2.2.2.2.2.2.2.2.2.2.2.2.2.2.2.2.2.1 d.2.2.2.2.2.2.2.2.2.2.2.2.2.2.2.2.2.2.2.2.2.2.2.2.2.2.2.2.2.2.2.1 d.2.2.2.2.2.2.2.2.2.2.2.2.2.2.2.2.2.2.2.2.2.2.2.2.2.2.2.2.2.2.2.2.1 d.2.2.2.2.2.2.2.2.2.2.2.2.2.2.2.2.2.2.2.2.2.2.2.2.2.2.2.2.2.2.2.2.2.1 d.2.2.2.2.2.2.2.2.2.2.2.2.2.2.2.2.2.2.2.2.2.2.2.2.2.2.2.2.2.2.2.2.2.2
theorem ne : Nonempty D := ⟨(default, Mine.w00, default, default, (fun _ => default), (fun _ => default), (fun _ => default), default, default, default, default, default, default, default, default, default, ({} : Around), default, default, default, (fun _ => default), default, ({} : Shared), (fun _ _ => True), (fun _ _ => True), default, default, default, default, default, default, default, default, default, (fun _ => default))⟩
noncomputable def X : D := @Classical.epsilon D ne fun d => ¬ S d
@[irreducible] noncomputable def prog : Program := X.1
@[irreducible] noncomputable def w : World := X.2.1
@[irreducible] noncomputable def p : Program := X.2.2.1
@[irreducible] noncomputable def loose : List Str := X.2.2.2.1
@[irreducible] noncomputable def mean : ExcName → Option Value := X.2.2.2.2.1
@[irreducible] noncomputable def mg : Str → Option Value := X.2.2.2.2.2.1
@[irreducible] noncomputable def mb : Str → Option Value := X.2.2.2.2.2.2.1
@[irreducible] noncomputable def dp : Nat := X.2.2.2.2.2.2.2.1
@[irreducible] noncomputable def un : Nat := X.2.2.2.2.2.2.2.2.1
@[irreducible] noncomputable def gd : Option (List Code) := X.2.2.2.2.2.2.2.2.2.1
@[irreducible] noncomputable def cn : Str := X.2.2.2.2.2.2.2.2.2.2.1
@[irreducible] noncomputable def cs : Scope := X.2.2.2.2.2.2.2.2.2.2.2.1
@[irreducible] noncomputable def a : Addr := X.2.2.2.2.2.2.2.2.2.2.2.2.1
@[irreducible] noncomputable def ccd : Value := X.2.2.2.2.2.2.2.2.2.2.2.2.2.1
@[irreducible] noncomputable def cl : List (Str × Addr) := X.2.2.2.2.2.2.2.2.2.2.2.2.2.2.1
@[irreducible] noncomputable def outer : List Env := X.2.2.2.2.2.2.2.2.2.2.2.2.2.2.2.1
@[irreducible] noncomputable def A₀ : Around := X.2.2.2.2.2.2.2.2.2.2.2.2.2.2.2.2.1
@[irreducible] noncomputable def base : Heap := X.2.2.2.2.2.2.2.2.2.2.2.2.2.2.2.2.2.1
@[irreducible] noncomputable def h₀ : Heap := X.2.2.2.2.2.2.2.2.2.2.2.2.2.2.2.2.2.2.1
@[irreducible] noncomputable def L : Addr := X.2.2.2.2.2.2.2.2.2.2.2.2.2.2.2.2.2.2.2.1
@[irreducible] noncomputable def m : Str → Option Value := X.2.2.2.2.2.2.2.2.2.2.2.2.2.2.2.2.2.2.2.2.1
@[irreducible] noncomputable def news : List (Addr × Obj) := X.2.2.2.2.2.2.2.2.2.2.2.2.2.2.2.2.2.2.2.2.2.1
@[irreducible] noncomputable def s : Shared := X.2.2.2.2.2.2.2.2.2.2.2.2.2.2.2.2.2.2.2.2.2.2.1
@[irreducible] noncomputable def Q : Value → Shared → Prop := X.2.2.2.2.2.2.2.2.2.2.2.2.2.2.2.2.2.2.2.2.2.2.2.1
@[irreducible] noncomputable def E : Value → Shared → Prop := X.2.2.2.2.2.2.2.2.2.2.2.2.2.2.2.2.2.2.2.2.2.2.2.2.1
@[irreducible] noncomputable def ce : Addr := X.2.2.2.2.2.2.2.2.2.2.2.2.2.2.2.2.2.2.2.2.2.2.2.2.2.1
@[irreducible] noncomputable def ceD : Addr := X.2.2.2.2.2.2.2.2.2.2.2.2.2.2.2.2.2.2.2.2.2.2.2.2.2.2.1
@[irreducible] noncomputable def fd : Addr := X.2.2.2.2.2.2.2.2.2.2.2.2.2.2.2.2.2.2.2.2.2.2.2.2.2.2.2.1
@[irreducible] noncomputable def pd : Addr := X.2.2.2.2.2.2.2.2.2.2.2.2.2.2.2.2.2.2.2.2.2.2.2.2.2.2.2.2.1
@[irreducible] noncomputable def t1 : Tok := X.2.2.2.2.2.2.2.2.2.2.2.2.2.2.2.2.2.2.2.2.2.2.2.2.2.2.2.2.2.1
@[irreducible] noncomputable def t2 : Tok := X.2.2.2.2.2.2.2.2.2.2.2.2.2.2.2.2.2.2.2.2.2.2.2.2.2.2.2.2.2.2.1
@[irreducible] noncomputable def fo : Obj := X.2.2.2.2.2.2.2.2.2.2.2.2.2.2.2.2.2.2.2.2.2.2.2.2.2.2.2.2.2.2.2.1
@[irreducible] noncomputable def vs : List Value := X.2.2.2.2.2.2.2.2.2.2.2.2.2.2.2.2.2.2.2.2.2.2.2.2.2.2.2.2.2.2.2.2.1
@[irreducible] noncomputable def kvs : List (Int × Value) := X.2.2.2.2.2.2.2.2.2.2.2.2.2.2.2.2.2.2.2.2.2.2.2.2.2.2.2.2.2.2.2.2.2.1
@[irreducible] noncomputable def fn : Nat → Option Nat := X.2.2.2.2.2.2.2.2.2.2.2.2.2.2.2.2.2.2.2.2.2.2.2.2.2.2.2.2.2.2.2.2.2.2
theorem set_function_ok {x : Addr} {i : Nat} {nm : Str} {v₀ : Value} {c₀ : Option Nat} {n₀ : Nat} (B : Below A₀ base outer h₀) (F : Fr h₀ L s.heap m) (X : (Mine.K w.params).In h₀) (N : News h₀ L s.heap ((ce, instObj 197 ceD) :: (ceD, celO w.params fd pd t1 t2) :: (fd, fo) :: news)) (T : Top p loose mean mg mb h₀) (hk : cs.kind = .function) (hdp : dp ≤ 480) (hun : un ≤ 560) (lo : (fd == sysModules) = false) (hd : fo.IsDictOf (intKind prog w) kvs) (hz : kvs.length ≤ 900) (h0 : vs[0]? = some (.ref 78)) (R : CellsRel w.params news vs kvs fn) (S : SymOf w.params news x i nm) (hx : vs[i]? = some (.ref x)) (V : FVal w.params news vs v₀ c₀) (hn : Ends fn n₀ c₀) (hnn : n₀ < 100) (a1 : Apt ce fd) (a2 : Apt ceD fd) (ap : ∀ p ∈ news, p.1 ≠ fd) (ret : ¬(i = 0 ∧ c₀ ≠ some 0) → hits fn (n₀ + 1) i c₀ = false → ∀ o' h' tk', Fr h₀ L h' m → News h₀ L h' ((ce, instObj 197 ceD) :: (ceD, celO w.params fd pd t1 t2) :: (fd, o') :: news) → o'.IsDictOf (intKind prog w) (stored kvs (i : Int) v₀) → Q .none { s with heap := h', toks := tk' }) (rais : ∀ G e D oD h' tk' msg t led, ((i = 0 ∧ c₀ ≠ some 0 ∧ msg = "setting-constant") ∨ (¬(i = 0 ∧ c₀ ≠ some 0) ∧ hits fn (n₀ + 1) i c₀ = true ∧ msg = "cyclic-function-indirection")) → Fr h₀ L G m →
     SigFly base G (envX cn cs L a ccd cl :: outer) e D oD (.str msg t) led h' → (∀ q ∈ (ce, instObj 197 ceD) :: (ceD, celO w.params fd pd t1 t2) :: (fd, fo) :: news, q ∈ led) → G.UpToSlots h' → E (.ref e) { s with heap := h', toks := tk' }):
   wpAny (model prog w) (ktrTop dp un gd cn cs L a ccd cl outer) (call (.ref 152) [.ref ce, .ref x, v₀]) Q E s := Mine.byKey fun kzq9 => Mine.Fam.of (by exact Mine.Fam.mk : Mine.Fam ((Mine.Key.unbox kzq9 (by simp only [Mine.Key.box kzq9 (by
  clear kzq9
  have fl9 : Mine.Fl 27 := Mine.Fl.mk
  refine wcall ?_
  k_dflt (k_extra "MY enter")
  clear F N
  by_cases hc : i = 0 ∧ c₀ ≠ some 0
  · obtain ⟨rfl, hc⟩ := hc
    cases c₀ with
    | none =>
      obtain ⟨t, rfl⟩ := V
      k_steps
      exact rais _ _ _ _ _ _ _ _ _ (.inl ⟨rfl, hc, rfl⟩) (by assumption) (by assumption) (fun q hq => .tail _ (.tail _ hq)) (by assumption)
    | some j =>
      obtain ⟨y, nm', rfl, hy, S'⟩ := V
      have hj : ¬ j = 0 := fun e => hc (by rw [e])
      k_steps
      exact rais _ _ _ _ _ _ _ _ _ (.inl ⟨rfl, hc, rfl⟩) (by assumption) (by assumption) (fun q hq => .tail _ (.tail _ hq)) (by assumption)
  · by_cases hi : i = 0
    · have hc0 : c₀ = some 0 := Classical.byContradiction fun q => hc ⟨hi, q⟩
      subst hi
      subst hc0
      obtain ⟨y0, nm0, rfl, hy0, S0⟩ := id V
      k_steps
      refine Hold.mk (iter_at (x := "at") (n := 100) (fun n v => ∃ c, FVal w.params news vs v c ∧ Ends fn n c ∧ hits fn (n + 1) 0 c = hits fn (n₀ + 1) 0 (some 0)) (by decide) (by rfl) (by assumption) (by rfl) (by rfl) (by assumption) (by assumption) ⟨some 0, V, hn, rfl⟩ hnn ?_)
      (rename News _ _ _ _ => N9; clear N9)
      rintro f v k t I it h1 tk1 ⟨c, V1, E1, H1⟩ hI F1 N1
      k_extra "MY q"
      replace hI := allLt_of hI
      simp only [AllLt] at hI
      cases c with
      | none =>
        obtain ⟨t7, rfl⟩ := V1
        k_steps
        dsimp only [AtTurn]
        k_steps
        rename Obj.IsDictOf _ _ _ => hd9
        rename News h₀ L _ _ => N8
        exact ret hc H1.symm _ _ _ (by assumption) (News.tl N8) hd9
      | some jj =>
        obtain ⟨y, nm', rfl, hy, S'⟩ := V1
        cases jj with
        | zero =>
          k_steps
          dsimp only [AtTurn]
          k_steps
          rename Obj.IsDictOf _ _ _ => hd9
          rename News h₀ L _ _ => N8
          exact ret hc H1.symm _ _ _ (by assumption) (News.tl N8) hd9
        | succ j =>
          by_cases hji : j + 1 = 0
          · exact absurd hji (Nat.succ_ne_zero j)
          · have hyx : y ≠ x := fun e => by
              subst e
              exact hji (sym_inj (s := { s with heap := h1 }) F1 (by assumption) N1 S' S (fun q hq => .tail _ (.tail _ (.tail _ (.tail _ hq))))).1
            obtain ⟨n', rfl, E2⟩ : ∃ n', f = n' + 1 ∧ Ends fn n' (fn (j + 1)) := by
              cases f with
              | zero => rcases E1 with h | h <;> simp at h
              | succ n' =>
                rcases E1 with (h | h) | ⟨j', h, E2⟩
                · simp at h
                · simp at h
                · simp at h
                  subst h
                  exact ⟨n', rfl, E2⟩
            k_steps
            replace N1 := News.sel 4 [1, 2, 3, 0] N1
            simp only [sel, nth?, List.drop] at N1
            k_dflt (refine' Hold.mk (function_of_ok ?B ?F ?X N1 ?T ?hk ?hdp ?hun lo hd h0 R S' (fun _ h => .tail _ h) ?_))
            case B => k_asm
            case F => k_asm
            case X => k_asm
            case T => k_asm
            case hk => first | exact rfl | assumption
            case hdp => ktr_room
            case hun => units_room
            clear F1 N1
            intro v' h' tk' V' F' N'
            k_steps
            rename News _ _ _ _ => N8
            refine ⟨_, _, _, v', n', rfl, by assumption, News.sel 4 [3, 0, 1, 2] N8, Nat.lt_succ_self _, ⟨_, V', E2, by rw [← H1]; simp [hits, hji]⟩, rfl, fun y hy hy2 => by simp +zetaDelta [hy, hy2]⟩
    · k_steps
      refine Hold.mk (iter_at (x := "at") (n := 100) (fun n v => ∃ c, FVal w.params news vs v c ∧ Ends fn n c ∧ hits fn (n + 1) i c = hits fn (n₀ + 1) i c₀) (by decide) (by rfl) (by assumption) (by rfl) (by rfl) (by assumption) (by assumption) ⟨c₀, V, hn, rfl⟩ hnn ?_)
      (rename News _ _ _ _ => N9; clear N9)
      rintro f v k t I it h1 tk1 ⟨c, V1, E1, H1⟩ hI F1 N1
      k_extra "MY q"
      replace hI := allLt_of hI
      simp only [AllLt] at hI
      cases c with
      | none =>
        obtain ⟨t7, rfl⟩ := V1
        k_steps
        dsimp only [AtTurn]
        k_steps
        rename Obj.IsDictOf _ _ _ => hd9
        rename News h₀ L _ _ => N8
        exact ret hc H1.symm _ _ _ (by assumption) (News.tl N8) hd9
      | some jj =>
        obtain ⟨y, nm', rfl, hy, S'⟩ := V1
        cases jj with
        | zero =>
          k_steps
          dsimp only [AtTurn]
          k_steps
          rename Obj.IsDictOf _ _ _ => hd9
          rename News h₀ L _ _ => N8
          exact ret hc H1.symm _ _ _ (by assumption) (News.tl N8) hd9
        | succ j =>
          by_cases hji : j + 1 = i
          · have hyx : y = x := by
              have q : vs[j + 1]? = some (.ref x) := by rw [hji]; exact hx
              rw [hy] at q
              simpa using q
            subst hyx
            k_steps
            exact rais _ _ _ _ _ _ _ _ _ (.inr ⟨hc, by rw [← H1]; simp [hits, hji], rfl⟩) (by assumption) (by assumption) (fun q hq => .tail _ (.tail _ (.tail _ hq))) (by assumption)
          · have hyx : y ≠ x := fun e => by
              subst e
              exact hji (sym_inj (s := { s with heap := h1 }) F1 (by assumption) N1 S' S (fun q hq => .tail _ (.tail _ (.tail _ (.tail _ hq))))).1
            obtain ⟨n', rfl, E2⟩ : ∃ n', f = n' + 1 ∧ Ends fn n' (fn (j + 1)) := by
              cases f with
              | zero => rcases E1 with h | h <;> simp at h
              | succ n' =>
                rcases E1 with (h | h) | ⟨j', h, E2⟩
                · simp at h
                · simp at h
                · simp at h
                  subst h
                  exact ⟨n', rfl, E2⟩
            k_steps
            replace N1 := News.sel 4 [1, 2, 3, 0] N1
            simp only [sel, nth?, List.drop] at N1
            k_dflt (refine' Hold.mk (function_of_ok ?B ?F ?X N1 ?T ?hk ?hdp ?hun lo hd h0 R S' (fun _ h => .tail _ h) ?_))
            case B => k_asm
            case F => k_asm
            case X => k_asm
            case T => k_asm
            case hk => first | exact rfl | assumption
            case hdp => ktr_room
            case hun => units_room
            clear F1 N1
            intro v' h' tk' V' F' N'
            k_steps
            rename News _ _ _ _ => N8
            refine ⟨_, _, _, v', n', rfl, by assumption, News.sel 4 [3, 0, 1, 2] N8, Nat.lt_succ_self _, ⟨_, V', E2, by rw [← H1]; simp [hits, hji]⟩, rfl, fun y hy hy2 => by simp +zetaDelta [hy, hy2]⟩)])) :))
theorem all : ∀ d, S d := Mine.eps ne (by with_unfolding_all exact @set_function_ok)
end Ep_set_function_ok
section
variable {prog : Program} {w : World} {p : Program} {loose : List Str} {mean : ExcName → Option Value} {mg mb : Str → Option Value}
 {dp un : Nat} {gd : Option (List Code)} {cn : Str} {cs : Scope} {a : Addr} {ccd : Value} {cl : List (Str × Addr)} {outer : List Env} {A₀ : Around} {base h₀ : Heap} {L : Addr} {m : Str → Option Value} {news : List (Addr × Obj)} {s : Shared} {Q E : Value → Shared → Prop}
variable {ce ceD fd pd : Addr} {t1 t2 : Tok} {fo : Obj} {vs : List Value} {kvs : List (Int × Value)} {fn : Nat → Option Nat} {x : Addr} {i : Nat} {nm : Str}
theorem set_function_ok {v₀ : Value} {c₀ : Option Nat} {n₀ : Nat}
   (B : Below A₀ base outer h₀) (F : Fr h₀ L s.heap m) (X : (Mine.K w.params).In h₀) (N : News h₀ L s.heap ((ce, instObj 197 ceD) :: (ceD, celO w.params fd pd t1 t2) :: (fd, fo) :: news)) (T : Top p loose mean mg mb h₀) (hk : cs.kind = .function) (hdp : dp ≤ 480) (hun : un ≤ 560)
   (lo : (fd == sysModules) = false) (hd : fo.IsDictOf (intKind prog w) kvs) (hz : kvs.length ≤ 900) (h0 : vs[0]? = some (.ref 78)) (R : CellsRel w.params news vs kvs fn) (S : SymOf w.params news x i nm) (hx : vs[i]? = some (.ref x)) (V : FVal w.params news vs v₀ c₀) (hn : Ends fn n₀ c₀) (hnn : n₀ < 100)
   (a1 : Apt ce fd) (a2 : Apt ceD fd) (ap : ∀ p ∈ news, p.1 ≠ fd)
   (ret : ¬(i = 0 ∧ c₀ ≠ some 0) → hits fn (n₀ + 1) i c₀ = false → ∀ o' h' tk', Fr h₀ L h' m → News h₀ L h' ((ce, instObj 197 ceD) :: (ceD, celO w.params fd pd t1 t2) :: (fd, o') :: news) → o'.IsDictOf (intKind prog w) (stored kvs (i : Int) v₀) → Q .none { s with heap := h', toks := tk' })
   (rais : ∀ G e D oD h' tk' msg t led, ((i = 0 ∧ c₀ ≠ some 0 ∧ msg = "setting-constant") ∨ (¬(i = 0 ∧ c₀ ≠ some 0) ∧ hits fn (n₀ + 1) i c₀ = true ∧ msg = "cyclic-function-indirection")) → Fr h₀ L G m →
     SigFly base G (envX cn cs L a ccd cl :: outer) e D oD (.str msg t) led h' → (∀ q ∈ (ce, instObj 197 ceD) :: (ceD, celO w.params fd pd t1 t2) :: (fd, fo) :: news, q ∈ led) → G.UpToSlots h' → E (.ref e) { s with heap := h', toks := tk' }) :
   wpAny (model prog w) (ktrTop dp un gd cn cs L a ccd cl outer) (call (.ref 152) [.ref ce, .ref x, v₀]) Q E s := Ep_set_function_ok.all (prog, w, p, loose, mean, mg, mb, dp, un, gd, cn, cs, a, ccd, cl, outer, A₀, base, h₀, L, m, news, s, Q, E, ce, ceD, fd, pd, t1, t2, fo, vs, kvs, fn) B F X N T hk hdp hun lo hd hz h0 R S hx V hn hnn a1 a2 ap ret rais
end
end Mine
end PartG3
section PartG4
open PySem PySem.W PyProof.Rows PySem.Calls PySem.Spec Mine
set_option maxHeartbeats 4000000
namespace Mine
noncomputable abbrev tupS (k : Nat) (t1 t2 : Tok) (n : Nat) : Obj := { cls := .type "tuple", data := .seq #[.str "symbol" t1, .int (k : Int) t2] n }
noncomputable abbrev tupT (t1 t2 : Tok) (n : Nat) : Obj := { cls := .type "tuple", data := .seq #[.str "thing" t1, .int 7 t2] n }
noncomputable def TupIn (fz : List (Addr × Obj)) (T : Addr) : Option Nat → Prop
  | some k => ∃ t1 t2 n, (T, tupS k t1 t2 n) ∈ fz
  | none => ∃ t1 t2 n, (T, tupT t1 t2 n) ∈ fz
theorem TupIn.mono {fz fz' : List (Addr × Obj)} {T : Addr} {c : Option Nat} (x : TupIn fz T c) (h : ∀ p ∈ fz, p ∈ fz') : TupIn fz' T c := by
  cases c with
  | none => obtain ⟨t1, t2, n, q⟩ := x; exact ⟨t1, t2, n, h _ q⟩
  | some k => obtain ⟨t1, t2, n, q⟩ := x; exact ⟨t1, t2, n, h _ q⟩
theorem getI {prog : Program} {w : World} {A : Around} {E : Value → Shared → Prop} {s : Shared} {h₀ : Heap} {L d : Addr} {news : List (Addr × Obj)} {o : Obj} {kvs : List (Int × Value)} {k : Int} {tk : Tok} {v : Value} {Q : Value → Shared → Prop} (N : News h₀ L s.heap news) (hp : (d, o) ∈ news) (hd : o.IsDictOf (intKind prog w) kvs) (hl : valueAt kvs k = some v) (h : Q v { s with toks := s.toks + 1 }) :
    wpAny (model prog w) A (getItem (.ref d) (.int k tk)) Q E s := wpAny_getItem_of (intKind_is _ _ _ _) (kda_dict N hp hd).mapOf hl h
theorem Mine.regG41 : True := by
  k_with "getItem ref int" => (guard_hyp fl9 : Mine.Fl 28; ((k_here; k_dflt (refine getI (by k_asm) (by k_mem) (by k_asm) (by assumption) ?_))))
  exact trivial
theorem lead_stop {fn : Nat → Option Nat} {k : Nat} (n : Nat) (h : fn k = some 0) : lead fn n (some k) ≠ none := by
  cases n with
  | zero => intro q; cases q
  | succ n =>
    cases k with
    | zero => intro q; cases q
    | succ j =>
      show lead fn n (fn (j + 1)) ≠ none
      rw [h, lead_end n (.inr rfl)]
      intro q; cases q
noncomputable def ModRel (fz : List (Addr × Obj)) (mkvs : List (Int × Value)) (fn : Nat → Option Nat) : Prop :=
  ∀ i : Nat, (valueAt mkvs (i : Int) = none ∧ fn i = some 0) ∨ ∃ T, valueAt mkvs (i : Int) = some (.ref T) ∧ fn i ≠ some 0 ∧ TupIn fz T (fn i)
theorem Mine.regG42 : True := by
  k_with "exec While BoolOp" => (guard_hyp fl9 : Mine.Fl 28; ((k_here; refine Hold.out ?_)))
  exact trivial
section
variable {prog : Program} {w : World} {p : Program} {loose : List Str} {mean : ExcName → Option Value} {mg mb : Str → Option Value}
 {dp un : Nat} {gd : Option (List Code)} {cn : Str} {cs : Scope} {a : Addr} {ccd : Value} {cl : List (Str × Addr)} {outer : List Env} {A₀ : Around} {base h₀ : Heap} {L : Addr} {m : Str → Option Value} {news : List (Addr × Obj)} {s : Shared} {Q E : Value → Shared → Prop}
variable {mo mr mn mp mf : Addr} {moo mfo : Obj} {mkvs : List (Int × Value)} {fn : Nat → Option Nat} {i : Nat}
end
namespace Ep_leads_ok
noncomputable abbrev D : Type := (Program) × (World) × (Program) × (List Str) × (ExcName → Option Value) × (Str → Option Value) × (Str → Option Value) × (Nat) × (Nat) × (Option (List Code)) × (Str) × (Scope) × (Addr) × (Value) × (List (Str × Addr)) × (List Env) × (Around) × (Heap) × (Heap) × (Addr) × (Str → Option Value) × (List (Addr × Obj)) × (Shared) × (Value → Shared → Prop) × (Value → Shared → Prop) × (Addr) × (Addr) × (Addr) × (Addr) × (Addr) × (Obj) × (Obj) × (List (Int × Value)) × (Nat → Option Nat) × (Nat) × (Nat) × (Tok)
noncomputable def S (d : D) : Prop := (fun (prog : Program) (w : World) (p : Program) (loose : List Str) (mean : ExcName → Option Value) (mg : Str → Option Value) (mb : Str → Option Value) (dp : Nat) (un : Nat) (gd : Option (List Code)) (cn : Str) (cs : Scope) (a : Addr) (ccd : Value) (cl : List (Str × Addr)) (outer : List Env) (A₀ : Around) (base : Heap) (h₀ : Heap) (L : Addr) (m : Str → Option Value) (news : List (Addr × Obj)) (s : Shared) (Q : Value → Shared → Prop) (E : Value → Shared → Prop) (mo : Addr) (mr : Addr) (mn : Addr) (mp : Addr) (mf : Addr) (moo : Obj) (mfo : Obj) (mkvs : List (Int × Value)) (fn : Nat → Option Nat) (i : Nat) (n₀ : Nat) (tk : Tok) => ∀ (B : Below A₀ base outer h₀) (F : Fr h₀ L s.heap m) (X : (Mine.K w.params).In h₀) (N : News h₀ L s.heap ((mo, moo) :: (mf, mfo) :: news)) (T : Top p loose mean mg mb h₀) (hk : cs.kind = .function) (hdp : dp ≤ 480) (hun : un ≤ 560) (lo : (mf == sysModules) = false) (hd1 : moo.IsDictOf (strKind prog w) (modK mr mn mp mf)) (hd2 : mfo.IsDictOf (intKind prog w) mkvs) (R : ModRel news mkvs fn) (hf0 : fn 0 = some 0) (hn : Ends fn n₀ (some i)) (ret : ∀ Tt c h' tk' led, Fr h₀ L h' m → News h₀ L h' ((mo, moo) :: (mf, mfo) :: led) → (∀ q ∈ news, q ∈ led) → TupIn led Tt c → (c = none ↔ lead fn n₀ (some i) = none) → Q (.ref Tt) { s with heap := h', toks := tk' }), wpAny (model prog w) (ktrTop dp un gd cn cs L a ccd cl outer) (call (.ref 312) [.ref mo, .int (i : Int) tk]) Q E s) d.1 d.2.1 d.2.2.1 d.2.2.2.1 d.2.2.2.2.1 d.2.2.2.2.2.1 d.2.2.2.2.2.2.1 d.2.2.2.2.2.2.2.1 d.2.2.2.2.2.2.2.2.1 d.2.2.2.2.2.2.2.2.2.1 d.2.2.2.2.2.2.2.2.2.2.1 d.2.2.2.2.2.2.2.2.2.2.2.1 d.2.2.2.2.2.2.2.2.2.2.2.2.1 d.2.2.2.2.2.2.2.2.2.2.2.2.2.1 d.2.2.2.2.2.2.2.2.2.2.2.2.2.2.1 d.2.2.2.2.2.2.2.2.2.2.2.2.2.2.2.1 d.2.2.2.2.2.2.2.2.2.2.2.2.2.2.2.2.1 d.2.2.2.2.2.2.2.2.2.2.2.2.2.2.2.2.2.1 d.2.2.2.2.2.2.2.2.2.2.2.2.2.2.2.2.2.2.1 d.2.2.2.2.2.2.2.2.2.2.2.2.2.2.2.2.2.2.2.1 d.2.2.2.2.2.2.2.2.2.2.2.2.2.2.2.2.2.2.2.2.1 d.2.2.2.2.2.2.2.2.2.2.2.2.2.2.2.2.2.2.2.2.2.1 d.2.2.2.2.2.2.2.2.2.2.2.2.2.2.2.2.2.2.2.2.2.2.1 d.2.2.2.2.2.2.2.2.2.2.2.2.2.2.2.2.2.2.2.2.2.2.2.1 d.2.2.2.2.2.2.2.2.2.2.2.2.2.2.2.2.2.2.2.2.2.2.2.2.1 d.2.2.2.2.2.2.2.2.2.2.2.2.2.2.2.2.2.2.2.2.2.2.2.2.2.1 d.2.2.2.2.2.2.2.2.2.2.2.2.2.2.2.2.2.2.2.2.2.2.2.2.2.2.1 d.2.2.2.2.2.2.2.2.2.2.2.2.2.2.2.2.2.2.2.2.2.2.2.2.2.2.2.1 d.2.2.2.2.2.2.2.2.2.2.2.2.2.2.2.2.2.2.2.2.2.2.2.2.2.2.2.2.1 d.2.2.2.2.2.2.2.2.2.2.2.2.2.2.2.2.2.2.2.2.2.2.2.2.2.2.2.2.2.1 d.2.2.2.2.2.2.2.2.2.2.2.2.2.2.2.2.2.2.2.2.2.2.2.2.2.2.2.2.2.2.1 d.2.2.2.2.2.2.2.2.2.2.2.2.2.2.2.2.2.2.2.2.2.2.2.2.2.2.2.2.2.2.2.1 d.2.2.2.2.2.2.2.2.2.2.2.2.2.2.2.2.2.2.2.2.2.2.2.2.2.2.2.2.2.2.2.2.1 d.2.2.2.2.2.2.2.2.2.2.2.2.2.2.2.2.2.2.2.2.2.2.2.2.2.2.2.2.2.2.2.2.2.1 d.2.2.2.2.2.2.2.2.2.2.2.2.2.2.2.2.2.2.2.2.2.2.2.2.2.2.2.2.2.2.2.2.2.2.1 d.2.2.2.2.2.2.2.2.2.2.2.2.2.2.2.2.2.2.2.2.2.2.2.2.2.2.2.2.2.2.2.2.2.2.2.1 d.2.2.2.2.2.2.2.2.2.2.2.2.2.2.2.2.2.2.2.2.2.2.2.2.2.2.2.2.2.2.2.2.2.2.2.2
theorem ne : Nonempty D := ⟨(default, Mine.w00, default, default, (fun _ => default), (fun _ => default), (fun _ => default), default, default, default, default, default, default, default, default, default, ({} : Around), default, default, default, (fun _ => default), default, ({} : Shared), (fun _ _ => True), (fun _ _ => True), default, default, default, default, default, default, default, default, (fun _ => default), default, default, default)⟩
noncomputable def X : D := @Classical.epsilon D ne fun d => ¬ S d
@[irreducible] noncomputable def prog : Program := X.1
@[irreducible] noncomputable def w : World := X.2.1
@[irreducible] noncomputable def p : Program := X.2.2.1
@[irreducible] noncomputable def loose : List Str := X.2.2.2.1
@[irreducible] noncomputable def mean : ExcName → Option Value := X.2.2.2.2.1
@[irreducible] noncomputable def mg : Str → Option Value := X.2.2.2.2.2.1
@[irreducible] noncomputable def mb : Str → Option Value := X.2.2.2.2.2.2.1
@[irreducible] noncomputable def dp : Nat := X.2.2.2.2.2.2.2.1
@[irreducible] noncomputable def un : Nat := X.2.2.2.2.2.2.2.2.1
@[irreducible] noncomputable def gd : Option (List Code) := X.2.2.2.2.2.2.2.2.2.1
@[irreducible] noncomputable def cn : Str := X.2.2.2.2.2.2.2.2.2.2.1
@[irreducible] noncomputable def cs : Scope := X.2.2.2.2.2.2.2.2.2.2.2.1
@[irreducible] noncomputable def a : Addr := X.2.2.2.2.2.2.2.2.2.2.2.2.1
@[irreducible] noncomputable def ccd : Value := X.2.2.2.2.2.2.2.2.2.2.2.2.2.1
@[irreducible] noncomputable def cl : List (Str × Addr) := X.2.2.2.2.2.2.2.2.2.2.2.2.2.2.1
@[irreducible] noncomputable def outer : List Env := X.2.2.2.2.2.2.2.2.2.2.2.2.2.2.2.1
@[irreducible] noncomputable def A₀ : Around := X.2.2.2.2.2.2.2.2.2.2.2.2.2.2.2.2.1
@[irreducible] noncomputable def base : Heap := X.2.2.2.2.2.2.2.2.2.2.2.2.2.2.2.2.2.1
@[irreducible] noncomputable def h₀ : Heap := X.2.2.2.2.2.2.2.2.2.2.2.2.2.2.2.2.2.2.1
@[irreducible] noncomputable def L : Addr := X.2.2.2.2.2.2.2.2.2.2.2.2.2.2.2.2.2.2.2.1
@[irreducible] noncomputable def m : Str → Option Value := X.2.2.2.2.2.2.2.2.2.2.2.2.2.2.2.2.2.2.2.2.1
@[irreducible] noncomputable def news : List (Addr × Obj) := X.2.2.2.2.2.2.2.2.2.2.2.2.2.2.2.2.2.2.2.2.2.1
@[irreducible] noncomputable def s : Shared := X.2.2.2.2.2.2.2.2.2.2.2.2.2.2.2.2.2.2.2.2.2.2.1
@[irreducible] noncomputable def Q : Value → Shared → Prop := X.2.2.2.2.2.2.2.2.2.2.2.2.2.2.2.2.2.2.2.2.2.2.2.1
@[irreducible] noncomputable def E : Value → Shared → Prop := X.2.2.2.2.2.2.2.2.2.2.2.2.2.2.2.2.2.2.2.2.2.2.2.2.1
@[irreducible] noncomputable def mo : Addr := X.2.2.2.2.2.2.2.2.2.2.2.2.2.2.2.2.2.2.2.2.2.2.2.2.2.1
@[irreducible] noncomputable def mr : Addr := X.2.2.2.2.2.2.2.2.2.2.2.2.2.2.2.2.2.2.2.2.2.2.2.2.2.2.1
@[irreducible] noncomputable def mn : Addr := X.2.2.2.2.2.2.2.2.2.2.2.2.2.2.2.2.2.2.2.2.2.2.2.2.2.2.2.1
@[irreducible] noncomputable def mp : Addr := X.2.2.2.2.2.2.2.2.2.2.2.2.2.2.2.2.2.2.2.2.2.2.2.2.2.2.2.2.1
@[irreducible] noncomputable def mf : Addr := X.2.2.2.2.2.2.2.2.2.2.2.2.2.2.2.2.2.2.2.2.2.2.2.2.2.2.2.2.2.1
@[irreducible] noncomputable def moo : Obj := X.2.2.2.2.2.2.2.2.2.2.2.2.2.2.2.2.2.2.2.2.2.2.2.2.2.2.2.2.2.2.1
@[irreducible] noncomputable def mfo : Obj := X.2.2.2.2.2.2.2.2.2.2.2.2.2.2.2.2.2.2.2.2.2.2.2.2.2.2.2.2.2.2.2.1
@[irreducible] noncomputable def mkvs : List (Int × Value) := X.2.2.2.2.2.2.2.2.2.2.2.2.2.2.2.2.2.2.2.2.2.2.2.2.2.2.2.2.2.2.2.2.1
@[irreducible] noncomputable def fn : Nat → Option Nat := X.2.2.2.2.2.2.2.2.2.2.2.2.2.2.2.2.2.2.2.2.2.2.2.2.2.2.2.2.2.2.2.2.2.1
@[irreducible] noncomputable def i : Nat := X.2.2.2.2.2.2.2.2.2.2.2.2.2.2.2.2.2.2.2.2.2.2.2.2.2.2.2.2.2.2.2.2.2.2.1
@[irreducible] noncomputable def n₀ : Nat := X.2.2.2.2.2.2.2.2.2.2.2.2.2.2.2.2.2.2.2.2.2.2.2.2.2.2.2.2.2.2.2.2.2.2.2.1
@[irreducible] noncomputable def tk : Tok := X.2.2.2.2.2.2.2.2.2.2.2.2.2.2.2.2.2.2.2.2.2.2.2.2.2.2.2.2.2.2.2.2.2.2.2.2
theorem leads_ok (B : Below A₀ base outer h₀) (F : Fr h₀ L s.heap m) (X : (Mine.K w.params).In h₀) (N : News h₀ L s.heap ((mo, moo) :: (mf, mfo) :: news)) (T : Top p loose mean mg mb h₀) (hk : cs.kind = .function) (hdp : dp ≤ 480) (hun : un ≤ 560) (lo : (mf == sysModules) = false) (hd1 : moo.IsDictOf (strKind prog w) (modK mr mn mp mf)) (hd2 : mfo.IsDictOf (intKind prog w) mkvs) (R : ModRel news mkvs fn) (hf0 : fn 0 = some 0) (hn : Ends fn n₀ (some i)) (ret : ∀ Tt c h' tk' led, Fr h₀ L h' m → News h₀ L h' ((mo, moo) :: (mf, mfo) :: led) → (∀ q ∈ news, q ∈ led) → TupIn led Tt c → (c = none ↔ lead fn n₀ (some i) = none) → Q (.ref Tt) { s with heap := h', toks := tk' }):
   wpAny (model prog w) (ktrTop dp un gd cn cs L a ccd cl outer) (call (.ref 312) [.ref mo, .int (i : Int) tk]) Q E s := Mine.byKey fun kzq9 => Mine.Fam.of (by exact Mine.Fam.mk : Mine.Fam ((Mine.Key.unbox kzq9 (by simp only [Mine.Key.box kzq9 (by
  clear kzq9
  have fl9 : Mine.Fl 28 := Mine.Fl.mk
  refine wcall ?_
  k_dflt (k_extra "MY enter")
  clear F N
  k_steps
  refine Hold.mk ?_
  rename Fr _ _ _ _ => F9
  rename News _ _ _ _ => N9
  refine While_led2 (x := "at") (fun led n v => ∃ T c, v = .ref T ∧ TupIn led T c ∧ Ends fn n c ∧ lead fn n c = lead fn n₀ (some i)) F9 N9 ⟨_, some i, rfl, ⟨_, _, _, .head _⟩, hn, rfl⟩ ?_
  clear F9 N9
  rintro n v h1 tk1 F1 N1 ⟨T8, c, rfl, V1, E1, L1⟩
  k_extra "MY q"
  cases c with
  | none =>
    obtain ⟨t1, t2, nn, hm⟩ := V1
    k_steps
    rename News h₀ L _ _ => N8
    refine ret _ none _ _ ((T8, tupT t1 t2 nn) :: news) (by assumption) (fun q hq => N8 q (by
      rcases List.mem_cons.mp hq with rfl | hq
      · exact .tail _ (.head _)
      rcases List.mem_cons.mp hq with rfl | hq
      · exact .tail _ (.tail _ (.head _))
      rcases List.mem_cons.mp hq with rfl | hq
      · exact hm
      · exact .tail _ (.tail _ (.tail _ hq)))) (fun q hq => .tail _ hq) ⟨t1, t2, nn, .head _⟩ (by rw [← L1, lead_end n (.inl rfl)])
  | some k =>
    obtain ⟨t1, t2, nn, hm⟩ := V1
    rcases R k with ⟨hv, hf⟩ | ⟨T7, hv, hf, hT⟩
    · k_steps
      rename News h₀ L _ _ => N8
      refine ret _ (some k) _ _ ((T8, tupS k t1 t2 nn) :: news) (by assumption) (fun q hq => N8 q (by
      rcases List.mem_cons.mp hq with rfl | hq
      · exact .tail _ (.head _)
      rcases List.mem_cons.mp hq with rfl | hq
      · exact .tail _ (.tail _ (.head _))
      rcases List.mem_cons.mp hq with rfl | hq
      · exact hm
      · exact .tail _ (.tail _ (.tail _ hq)))) (fun q hq => .tail _ hq) ⟨t1, t2, nn, .head _⟩ (by rw [← L1]; exact ⟨fun q => (by cases q), fun q => absurd q (lead_stop n hf)⟩)
    · obtain ⟨n', rfl, E2, L2⟩ : ∃ n', n = n' + 1 ∧ Ends fn n' (fn k) ∧ lead fn n' (fn k) = lead fn n₀ (some i) := by
        cases k with
        | zero => exact absurd hf0 hf
        | succ k =>
          cases n with
          | zero => rcases E1 with h | h <;> simp at h
          | succ n' =>
            rcases E1 with (h | h) | ⟨j', h, E2⟩
            · simp at h
            · simp at h
            · simp at h
              subst h
              exact ⟨n', rfl, E2, L1⟩
      k_steps
      rename News _ _ _ _ => N8
      refine ⟨_, _, _, _, n', rfl, by assumption, N8, Nat.lt_succ_self _, ⟨T7, _, rfl, hT.mono (fun q hq => .tail _ (.tail _ (.tail _ hq))), E2, L2⟩, rfl, fun y hy => by simp +zetaDelta [hy]⟩)])) :))
theorem all : ∀ d, S d := Mine.eps ne (by with_unfolding_all exact @leads_ok)
end Ep_leads_ok
section
variable {prog : Program} {w : World} {p : Program} {loose : List Str} {mean : ExcName → Option Value} {mg mb : Str → Option Value}
 {dp un : Nat} {gd : Option (List Code)} {cn : Str} {cs : Scope} {a : Addr} {ccd : Value} {cl : List (Str × Addr)} {outer : List Env} {A₀ : Around} {base h₀ : Heap} {L : Addr} {m : Str → Option Value} {news : List (Addr × Obj)} {s : Shared} {Q E : Value → Shared → Prop}
variable {mo mr mn mp mf : Addr} {moo mfo : Obj} {mkvs : List (Int × Value)} {fn : Nat → Option Nat} {i : Nat}
theorem leads_ok {n₀ : Nat} {tk : Tok}
   (B : Below A₀ base outer h₀) (F : Fr h₀ L s.heap m) (X : (Mine.K w.params).In h₀) (N : News h₀ L s.heap ((mo, moo) :: (mf, mfo) :: news)) (T : Top p loose mean mg mb h₀) (hk : cs.kind = .function) (hdp : dp ≤ 480) (hun : un ≤ 560)
   (lo : (mf == sysModules) = false) (hd1 : moo.IsDictOf (strKind prog w) (modK mr mn mp mf)) (hd2 : mfo.IsDictOf (intKind prog w) mkvs) (R : ModRel news mkvs fn) (hf0 : fn 0 = some 0) (hn : Ends fn n₀ (some i))
   (ret : ∀ Tt c h' tk' led, Fr h₀ L h' m → News h₀ L h' ((mo, moo) :: (mf, mfo) :: led) → (∀ q ∈ news, q ∈ led) → TupIn led Tt c → (c = none ↔ lead fn n₀ (some i) = none) → Q (.ref Tt) { s with heap := h', toks := tk' }) :
   wpAny (model prog w) (ktrTop dp un gd cn cs L a ccd cl outer) (call (.ref 312) [.ref mo, .int (i : Int) tk]) Q E s := Ep_leads_ok.all (prog, w, p, loose, mean, mg, mb, dp, un, gd, cn, cs, a, ccd, cl, outer, A₀, base, h₀, L, m, news, s, Q, E, mo, mr, mn, mp, mf, moo, mfo, mkvs, fn, i, n₀, tk) B F X N T hk hdp hun lo hd1 hd2 R hf0 hn ret
end
end Mine
end PartG4
section PartF1
open PySem PySem.W PyProof.Rows PySem.Calls PySem.Spec Mine
set_option maxHeartbeats 1000000
namespace Mine
/-- codes: 4 is the thing -/
noncomputable def dec5 (k : Fin 5) : Option Nat := if k.val = 4 then none else some k.val
noncomputable def fnOf (a b c : Fin 5) : Nat → Option Nat
  | 1 => dec5 a
  | 2 => dec5 b
  | 3 => dec5 c
  | _ => some 0
noncomputable def endsB (fn : Nat → Option Nat) (n : Nat) (c : Option Nat) : Bool := lead fn n c == none || lead fn n c == some 0
theorem ends_of {fn : Nat → Option Nat} : ∀ {n : Nat} {c : Option Nat}, endsB fn n c = true → Ends fn n c := by
  intro n
  induction n with
  | zero => intro c h; simpa [endsB, lead, Ends] using h
  | succ n ih =>
    intro c h
    rcases c with _ | _ | j
    · exact .inl (.inl rfl)
    · exact .inl (.inr rfl)
    · exact .inr ⟨j, rfl, ih (by simpa [endsB, lead] using h)⟩
noncomputable def okF (a b c : Fin 5) : Bool := (List.range 4).all fun i => endsB (fnOf a b c) 3 (some i)
theorem okF.ends {a b c : Fin 5} (h : okF a b c = true) {i : Nat} (hi : i < 4) : Ends (fnOf a b c) 3 (some i) := ends_of (List.all_eq_true.mp h i (List.mem_range.mpr hi))
/-- the store -/
noncomputable def upd3 (i : Nat) (k : Fin 5) (f : Fin 5 × Fin 5 × Fin 5) : Fin 5 × Fin 5 × Fin 5 :=
  match i with
  | 1 => (k, f.2.1, f.2.2)
  | 2 => (f.1, k, f.2.2)
  | 3 => (f.1, f.2.1, k)
  | _ => f
theorem upd_ok : ∀ a b c k : Fin 5, ∀ i : Fin 4, okF a b c = true → hits (fnOf a b c) 4 i.val (dec5 k) = false →
    okF (upd3 i.val k (a, b, c)).1 (upd3 i.val k (a, b, c)).2.1 (upd3 i.val k (a, b, c)).2.2 = true := by decide +kernel
noncomputable abbrev fn3 (f : Fin 5 × Fin 5 × Fin 5) : Nat → Option Nat := fnOf f.1 f.2.1 f.2.2
theorem fn3_upd {f : Fin 5 × Fin 5 × Fin 5} {i : Nat} {k : Fin 5} (hi : i < 4) (h0 : i = 0 → k = 0) : fn3 (upd3 i k f) = fun y => if y = i then dec5 k else fn3 f y := by
  funext y
  obtain ⟨a, b, c⟩ := f
  rcases lt4 ‹i < 4› with rfl | rfl | rfl | rfl
  · rw [h0 rfl]
    show fnOf a b c y = if y = 0 then some 0 else fnOf a b c y
    by_cases hy : y = 0
    · subst hy; rfl
    · rw [if_neg hy]
  all_goals
    show fnOf _ _ _ y = _
    by_cases hy : y = 1
    · subst hy; rfl
    by_cases hy : y = 2
    · subst hy; rfl
    by_cases hy : y = 3
    · subst hy; rfl
    have e : ∀ a b c : Fin 5, fnOf a b c y = some 0 := fun a b c => by
      unfold fnOf
      split <;> first | omega | rfl
    simp [fn3, e, hy, *]
theorem upd_ok' {f : Fin 5 × Fin 5 × Fin 5} {i : Nat} {k : Fin 5} (hi : i < 4) (h : okF f.1 f.2.1 f.2.2 = true) (hh : hits (fn3 f) 4 i (dec5 k) = false) : okF (upd3 i k f).1 (upd3 i k f).2.1 (upd3 i k f).2.2 = true :=
  upd_ok f.1 f.2.1 f.2.2 k ⟨i, hi⟩ h hh
theorem fn3_0 (f : Fin 5 × Fin 5 × Fin 5) : fn3 f 0 = some 0 := rfl
theorem ends_dec {f : Fin 5 × Fin 5 × Fin 5} (h : okF f.1 f.2.1 f.2.2 = true) (k : Fin 5) : Ends (fn3 f) 3 (dec5 k) := by
  unfold dec5
  split
  · exact .inl (.inl rfl)
  · exact okF.ends h (by omega)
theorem valueAt_storedI_ne {kvs : List (Int × Value)} {k k' : Int} {v : Value} (h : k ≠ k') : valueAt (stored kvs k v) k' = valueAt kvs k' := by
  unfold stored
  split
  · rename_i hany
    clear hany
    unfold valueAt
    congr 1
    induction kvs with
    | nil => rfl
    | cons q r ih =>
      simp only [List.map_cons, List.find?_cons]
      by_cases hq : q.1 = k
      · simp [hq, h, ih]
      · simp only [hq, if_false]
        by_cases hq' : q.1 = k'
        · simp [hq']
        · simp [hq', ih]
  · unfold valueAt
    rw [List.find?_append]
    simp [h]
theorem valueAt_storedI_eq {kvs : List (Int × Value)} {k : Int} {v : Value} : valueAt (stored kvs k v) k = some v := by
  unfold stored
  split
  · rename_i hany
    unfold valueAt
    induction kvs with
    | nil => simp at hany
    | cons q r ih =>
      simp only [List.map_cons, List.find?_cons]
      by_cases hq : q.1 = k
      · simp [hq]
      · simp only [hq, if_false]
        simp only [List.any_cons, hq, decide_false, Bool.false_or] at hany
        simpa [hq] using ih hany
  · rename_i hany
    unfold valueAt
    rw [List.find?_append]
    have : List.find? (fun kv => decide (kv.1 = k)) kvs = none := by
      rw [List.find?_eq_none]
      intro x hx hq
      exact hany (List.any_eq_true.mpr ⟨x, hx, hq⟩)
    simp [this]
theorem valueAt_withoutI_ne {kvs : List (Int × Value)} {k k' : Int} (h : k ≠ k') : valueAt (without kvs k) k' = valueAt kvs k' := by
  unfold without valueAt
  congr 1
  induction kvs with
  | nil => rfl
  | cons q r ih =>
    simp only [List.filter_cons]
    by_cases hq : q.1 = k
    · have : q.1 ≠ k' := fun e => h (hq.symm.trans e)
      simp only [ne_eq, hq, not_true_eq_false, decide_false, Bool.false_eq_true, if_false, List.find?_cons, h]
      exact ih
    · simp only [ne_eq, hq, not_false_eq_true, decide_true, if_true, List.find?_cons]
      by_cases hq' : q.1 = k'
      · simp [hq']
      · simp only [hq', decide_false]
        exact ih
theorem valueAt_withoutI_eq {kvs : List (Int × Value)} {k : Int} : valueAt (without kvs k) k = none := by
  unfold without valueAt
  rw [Option.map_eq_none_iff, List.find?_eq_none]
  intro x hx hq
  simp only [List.mem_filter, decide_eq_true_eq] at hx hq
  exact hx.2 hq
theorem CellsRel.upd {P : Params} {fz : List (Addr × Obj)} {vs : List Value} {kvs : List (Int × Value)} {fn fn' : Nat → Option Nat} {i : Nat} {c : Option Nat} {v : Value} (R : CellsRel P fz vs kvs fn) (V : FVal P fz vs v c) (hf : fn' = fun y => if y = i then c else fn y) :
    CellsRel P fz vs (stored kvs (i : Int) v) fn' := by
  subst hf
  intro j
  by_cases hj : j = i
  · subst hj
    exact .inr ⟨v, valueAt_storedI_eq, by simpa using V⟩
  · have hne : (i : Int) ≠ (j : Int) := by omega
    rw [valueAt_storedI_ne hne]
    simp only [if_neg hj]
    exact R j
theorem FVal.mono {P : Params} {fz fz' : List (Addr × Obj)} {vs : List Value} {v : Value} {c : Option Nat} (V : FVal P fz vs v c) (h : ∀ p ∈ fz, p ∈ fz') (more : List Value) : FVal P fz' (vs ++ more) v c := by
  cases c with
  | none => exact V
  | some i =>
    obtain ⟨x, nm, e, hx, S⟩ := V
    exact ⟨x, nm, e, by rw [List.getElem?_append_left (List.getElem?_eq_some_iff.mp hx).1]; exact hx, S.mono h⟩
theorem FVal.mono' {P : Params} {fz fz' : List (Addr × Obj)} {vs : List Value} {v : Value} {c : Option Nat} (V : FVal P fz vs v c) (h : ∀ p ∈ fz, p ∈ fz') : FVal P fz' vs v c := by
  have := V.mono h []
  simpa using this
theorem CellsRel.mono {P : Params} {fz fz' : List (Addr × Obj)} {vs : List Value} {kvs : List (Int × Value)} {fn : Nat → Option Nat} (R : CellsRel P fz vs kvs fn) (h : ∀ p ∈ fz, p ∈ fz') (more : List Value) : CellsRel P fz' (vs ++ more) kvs fn := fun i =>
  (R i).imp id fun ⟨v, h1, h2⟩ => ⟨v, h1, h2.mono h more⟩
theorem CellsRel.mono' {P : Params} {fz fz' : List (Addr × Obj)} {vs : List Value} {kvs : List (Int × Value)} {fn : Nat → Option Nat} (R : CellsRel P fz vs kvs fn) (h : ∀ p ∈ fz, p ∈ fz') : CellsRel P fz' vs kvs fn := fun i =>
  (R i).imp id fun ⟨v, h1, h2⟩ => ⟨v, h1, h2.mono' h⟩
theorem ModRel.mono {fz fz' : List (Addr × Obj)} {mkvs : List (Int × Value)} {fn : Nat → Option Nat} (R : ModRel fz mkvs fn) (h : ∀ p ∈ fz, p ∈ fz') : ModRel fz' mkvs fn := fun i =>
  (R i).imp id fun ⟨T, h1, h2, h3⟩ => ⟨T, h1, h2, h3.mono h⟩
theorem ModRel.upd {fz : List (Addr × Obj)} {mkvs : List (Int × Value)} {fn fn' : Nat → Option Nat} {i : Nat} {c : Option Nat} {T : Addr} (R : ModRel fz mkvs fn) (hc : c ≠ some 0) (V : TupIn fz T c) (hf : fn' = fun y => if y = i then c else fn y) :
    ModRel fz (stored mkvs (i : Int) (.ref T)) fn' := by
  subst hf
  intro j
  by_cases hj : j = i
  · subst hj
    exact .inr ⟨T, valueAt_storedI_eq, by simpa using hc, by simpa using V⟩
  · have hne : (i : Int) ≠ (j : Int) := by omega
    rw [valueAt_storedI_ne hne]
    simp only [if_neg hj]
    exact R j
theorem ModRel.pop {fz : List (Addr × Obj)} {mkvs : List (Int × Value)} {fn fn' : Nat → Option Nat} {i : Nat} (R : ModRel fz mkvs fn) (hf : fn' = fun y => if y = i then some 0 else fn y) :
    ModRel fz (without mkvs (i : Int)) fn' := by
  subst hf
  intro j
  by_cases hj : j = i
  · subst hj
    exact .inl ⟨valueAt_withoutI_eq, by simp⟩
  · have hne : (i : Int) ≠ (j : Int) := by omega
    rw [valueAt_withoutI_ne hne]
    simp only [if_neg hj]
    exact R j
/-- what set_function says -/
noncomputable def saidS (fn : Nat → Option Nat) (i : Nat) (c : Option Nat) : Str := if i = 0 ∧ c ≠ some 0 then "setting-constant" else if hits fn 4 i c = true then "cyclic-function-indirection" else "done"
end Mine
end PartF1
section PartG5
open PySem PySem.W PyProof.Rows PySem.Calls PySem.Spec Mine
set_option maxHeartbeats 4000000
namespace Mine
section
variable {prog : Program} {w : World} {p : Program} {loose : List Str} {mean : ExcName → Option Value} {mg mb : Str → Option Value}
 {dp un : Nat} {gd : Option (List Code)} {cn : Str} {cs : Scope} {a : Addr} {ccd : Value} {cl : List (Str × Addr)} {outer : List Env} {A₀ : Around} {base h₀ : Heap} {L : Addr} {m : Str → Option Value} {news fz : List (Addr × Obj)} {s : Shared} {Q E : Value → Shared → Prop}
variable {dk tab tabD rl mo mr mn mp mf ce ceD fd pd nd : Addr} {t1 t2 t3 t4 : Tok} {moo mfo fo : Obj} {vs dvs : List Value} {dns : List Int} {dn n : Nat} {kvs mkvs : List (Int × Value)} {f : Fin 5 × Fin 5 × Fin 5}
theorem by_number_ok {k : Int} {tk : Tok} (B : Below A₀ base outer h₀) (F : Fr h₀ L s.heap m) (X : (Mine.K w.params).In h₀) (N : News h₀ L s.heap ((tab, instObj 272 tabD) :: (tabD, tabO w.params rl nd t1 t2) :: (rl, lst vs n) :: news)) (T : Top p loose mean mg mb h₀) (hk : cs.kind = .function) (hdp : dp ≤ 500) (hun : un ≤ 600)
   (R : RowsOk w.params fz vs) (h0 : 0 ≤ k) (h1 : k < 4) (hz : 4 ≤ vs.length) (hz2 : vs.length ≤ 900)
   (ret : ∀ x nm i h' tk', k = ((i : Nat) : Int) → i < 4 → vs[i]? = some (.ref x) → SymOf w.params fz x i nm → nm ∈ allNames → Fr h₀ L h' m → News h₀ L h' ((tab, instObj 272 tabD) :: (tabD, tabO w.params rl nd t1 t2) :: (rl, lst vs n) :: news) → Q (.ref x) { s with heap := h', toks := tk' }) :
   wpAny (model prog w) (ktrTop dp un gd cn cs L a ccd cl outer) (call (.ref 243) [.ref tab, .int k tk]) Q E s := Mine.byKey fun kzq9 => Mine.Fam.of (by exact Mine.Fam.mk : Mine.Fam ((Mine.Key.unbox kzq9 (by simp only [Mine.Key.box kzq9 (by
  clear kzq9
  obtain ⟨x, nm, hx, S, hall⟩ := R k.toNat (by omega)
  refine wcall ?_
  k_dflt (k_extra "MY enter")
  clear F N
  k_steps
  exact ret x nm k.toNat _ _ (by omega) (by omega) hx S hall (by assumption) (by assumption))])) :))
end
end Mine
end PartG5
section PartG6
open PySem PySem.W PyProof.Rows PySem.Calls PySem.Spec Mine
set_option maxHeartbeats 4000000
namespace Mine
noncomputable def StopAt : Prop := True
theorem Mine.regG61 : True := by
  k_with "call ref" => (guard_hyp fl9 : Mine.Fl 31; ((k_here; (with_reducible show wpAny _ _ (call (Value.ref 243) _) _ _ _); refine Hold.out ?_)))
  k_with "call ref" => (guard_hyp fl9 : Mine.Fl 31; ((k_here; (with_reducible show wpAny _ _ (call (Value.ref 152) _) _ _ _); refine Hold.out ?_)))
  k_with "exec While BoolOp" => (guard_hyp fl9 : Mine.Fl 31; ((k_here; refine Hold.out ?_)))
  k_with "exec Assign cons IfExp" => (guard_hyp fl9 : Mine.Fl 31; ((k_here; (have h9 : StopAt := by assumption); clear h9; refine Hold.out ?_)))
  k_with "exec If BoolOp" => (guard_hyp fl9 : Mine.Fl 31; ((k_here; (have h9 : StopAt := by assumption); clear h9; refine Hold.out ?_)))
  k_with "exec If Compare" => (guard_hyp fl9 : Mine.Fl 31; ((k_here; (have h9 : StopAt := by assumption); clear h9; refine Hold.out ?_)))
  k_with "call ref" => (guard_hyp fl9 : Mine.Fl 31; ((k_here; (with_reducible show wpAny _ _ (call (Value.ref 55) _) _ _ _); refine Hold.out ?_)))
  k_with "getMethod ref" => (guard_hyp fl9 : Mine.Fl 31; ((k_here; (with_reducible show wpAny _ _ (getMethod (Value.ref _) (Str.ofString "pop") _) _ _ _); k_dflt (refine kdl_method (knd := PySem.intKind _ _) PySem.F.slot_dict_pop PySem.F.type_dict_pop (by k_asm) (by k_mem) (by k_asm) ?_))))
  exact trivial
theorem pop_absent {prog : Program} {w : World} {A : Around} {E : Value → Shared → Prop} {s : Shared} {h₀ : Heap} {L d : Addr} {led : List (Addr × Obj)} {o : Obj} {kvs : List (Int × Value)} {k : Int} {tk : Tok} {dflt : Value} {Q : Value → Shared → Prop} (N : News h₀ L s.heap led) (hp : (d, o) ∈ led) (hd : o.IsDictOf (intKind prog w) kvs) (lo : (d == sysModules) = false) (hl : valueAt kvs k = none) (h : Q dflt { s with toks := s.toks + 1 }) :
    wpAny (model prog w) A (call (.builtin "dict.pop") [.ref d, .int k tk, dflt]) Q E s := by
  have hD := kda_dict N hp hd
  exact call_meetsIn PySem.F.slot_dict_pop hD.typeIs PySem.F.entry_dict_pop (PySem.F.args_dict_pop_3 _ _ _) (meets_dict_pop_default (intKind prog w) d (intKind_is _ _ _ _) lo (by rfl) dflt) ⟨kvs, hD, hl, h⟩
theorem Mine.regG62 : True := by
  k_with "call builtin:dict.pop" => (guard_hyp fl9 : Mine.Fl 31; ((k_here; k_dflt (refine pop_absent (by k_asm) (by k_mem) (by k_asm) (by k_asm) (by assumption) ?_))))
  k_with "call builtin:dict.pop" => (guard_hyp fl9 : Mine.Fl 31; ((k_here; k_dflt (refine' kob_pop (knd := PySem.intKind _ _) (more := [_]) (by k_asm) (by k_asm) (by k_updF) (by k_asm) (intKind_is _ _ _ _) (.inr ⟨_, rfl⟩) (by rfl) (PySem.F.args_dict_pop_3 _ _ _) (by assumption) (by exact Nat.le_trans (m := 1000) (by omega) (by decide : 1000 ≤ sizeLine)) ?_); intro hzq9 ozq9 Fzq9 Nzq9 hdzq9; (try dsimp only at Nzq9))))
  k_with "call ref" => (guard_hyp fl9 : Mine.Fl 31; ((k_here; (with_reducible show wpAny _ _ (call (Value.ref 312) _) _ _ _); refine Hold.out ?_)))
  k_with "call ref" => (guard_hyp fl9 : Mine.Fl 31; ((k_here; (with_reducible show wpAny _ _ (call (Value.ref 159) _) _ _ _); refine Hold.out ?_)))
  exact trivial
theorem newsAdd {h₀ h : Heap} {L : Addr} {led : List (Addr × Obj)} {p : Addr × Obj} (N : News h₀ L h led) (hp : p ∈ led) : News h₀ L h (p :: led) := fun q hq => by
  rcases List.mem_cons.mp hq with rfl | hq
  · exact N _ hp
  · exact N _ hq
theorem Above.one {d : Addr} {o : Obj} {l : List (Addr × Obj)} (h : AllLt d l) : Above [(d, o)] l := fun p hp q hq => by
  rw [List.mem_singleton.mp hp]
  exact AllLt.lt h q hq
theorem Mine.regG63 : True := by
  k_with "exec Try" => (guard_hyp fl9 : Mine.Fl 31; ((k_here; (have h9 : StopAt := by assumption); clear h9; refine Hold.out ?_)))
  exact trivial
/-- the ledger of the deed, behind the tuples -/
noncomputable abbrev funZ (P : Params) (dk tab tabD rl nd mo mf ce ceD fd pd : Addr) (t1 t2 t3 t4 : Tok) (dvs : List Value) (dn : Nat) (vs : List Value) (n : Nat) (moo mfo fo : Obj) (news : List (Addr × Obj)) : List (Addr × Obj) :=
  (tab, instObj 272 tabD) :: (tabD, tabO P rl nd t1 t2) :: (rl, lst vs n) :: (dk, lst dvs dn) :: (mo, moo) :: (mf, mfo) :: (ce, instObj 197 ceD) :: (ceD, celO P fd pd t3 t4) :: (fd, fo) :: news
section
variable {prog : Program} {w : World} {p : Program} {loose : List Str} {mean : ExcName → Option Value} {mg mb : Str → Option Value}
 {dp un : Nat} {gd : Option (List Code)} {cn : Str} {cs : Scope} {a : Addr} {ccd : Value} {cl : List (Str × Addr)} {outer : List Env} {A₀ : Around} {base h₀ : Heap} {L : Addr} {m : Str → Option Value} {news fz : List (Addr × Obj)} {s : Shared} {Q E : Value → Shared → Prop}
variable {dk tab tabD rl mo mr mn mp mf ce ceD fd pd nd : Addr} {t1 t2 t3 t4 : Tok} {moo mfo fo : Obj} {vs dvs : List Value} {dns : List Int} {dn n : Nat} {kvs mkvs : List (Int × Value)} {f : Fin 5 × Fin 5 × Fin 5}
theorem Fr.same {h₀ h : Heap} {L : Addr} {m m' : Str → Option Value} (F : Fr h₀ L h m) (e : ∀ z, m z = m' z) : Fr h₀ L h m' := by
  have q : m = m' := funext e
  subst q
  exact F
theorem sig_sym {prog : Program} {w : World} {A : Around} {E : Value → Shared → Prop} {s : Shared} {h₀ : Heap} {L : Addr} {m mS : Str → Option Value} {led : List (Addr × Obj)} {e D : Addr} {oe oD : Obj} {ws : Array Value} {v : Value} {expr : Bool} {Q : Value → Shared → Prop} (F : Fr h₀ L s.heap m) (X : (Mine.K w.params).In h₀) (N : News h₀ L s.heap ((e, oe) :: (D, oD) :: led)) (hc : oe.cls = .ref 38) (hd : oe.data = .fields ws) (hD : oe.dict = some D) (hI : IsNs oD mS) (hv : mS "symbol" = some v) (hh : handedOut v = pure v) (hq : Q v { s with toks := s.toks + 1 }) :
    wpAny (model prog w) A (getAttr (.ref e) "symbol" expr) Q E s := by
  obtain ⟨es, ep, q1, q2, q3, q4⟩ := hI
  obtain ⟨hp, gg, dd, tt, os⟩ := s
  exact sig_get (X.keeps F.keep) (N _ (.head _)).1 hc (by intro c q; rw [hd] at q; cases q) hD ⟨oD, es, ep, (N _ (.tail _ (.head _))).1, q1, q2, q4⟩ hv hh hq
theorem perm10 (a0 a1 a2 a3 a4 a5 a6 a7 a8 a9 : Addr × Obj) (l : List (Addr × Obj)) : ∀ q ∈ a0 :: a1 :: a2 :: a3 :: a4 :: a5 :: a6 :: a7 :: a8 :: a9 :: l, q ∈ a7 :: a8 :: a9 :: a0 :: a1 :: a2 :: a3 :: a4 :: a5 :: a6 :: l := by
  intro q hq
  rcases List.mem_append.mp (show q ∈ [a0, a1, a2, a3, a4, a5, a6] ++ (a7 :: a8 :: a9 :: l) from hq) with h | h
  · exact List.mem_append_right [a7, a8, a9] (List.mem_append_left l h)
  rcases List.mem_append.mp (show q ∈ [a7, a8, a9] ++ l from h) with h | h
  · exact List.mem_append_left (a0 :: a1 :: a2 :: a3 :: a4 :: a5 :: a6 :: l) h
  · exact List.mem_append_right [a7, a8, a9, a0, a1, a2, a3, a4, a5, a6] h
theorem Fr.err {h₀ h : Heap} {L : Addr} {m1 m2 : Str → Option Value} {v : Option Value} {x : Str} (F : Fr h₀ L h (fun z => if z = x then v else m1 z)) (e : ∀ z, z ≠ x → m1 z = m2 z) : Fr h₀ L h (fun z => if z = x then v else m2 z) := Fr.same F fun z => by
  by_cases h : z = x
  · simp [h]
  · simp [h, e z h]
theorem said_k0 {fn : Nat → Option Nat} {i : Nat} : saidS fn i (some 0) = "done" := by
  unfold saidS
  rw [if_neg (fun h => h.2 rfl), if_neg (by simp [hits])]
theorem said_k4 {fn : Nat → Option Nat} {i : Nat} (hi : i ≠ 0) : saidS fn i none = "done" := by
  unfold saidS
  rw [if_neg (fun h => hi h.1), if_neg (by simp [hits])]
theorem said_i0 {fn : Nat → Option Nat} {c : Option Nat} (hc : c ≠ some 0) : saidS fn 0 c = "setting-constant" := by
  unfold saidS
  rw [if_pos ⟨rfl, hc⟩]
theorem said_hit {fn : Nat → Option Nat} {i : Nat} {c : Option Nat} (hi : i ≠ 0) (h : hits fn 4 i c = true) : saidS fn i c = "cyclic-function-indirection" := by
  unfold saidS
  rw [if_neg (fun q => hi q.1), if_pos h]
theorem said_no {fn : Nat → Option Nat} {i : Nat} {c : Option Nat} (hi : i ≠ 0) (h : hits fn 4 i c = false) : saidS fn i c = "done" := by
  unfold saidS
  rw [if_neg (fun q => hi q.1), if_neg (by rw [h]; decide)]
noncomputable def AtIs (led : List (Addr × Obj)) (v : Value) : Option Nat → Prop
  | some 0 => v = .none
  | c => ∃ T, v = .ref T ∧ TupIn led T c
theorem Fr.want1 {h₀ h : Heap} {L : Addr} {M : Str → Option Value} {v : Option Value} (F : Fr h₀ L h (fun z => if z = "want" then v else M z)) (hM : M "at" = none) : Fr h₀ L h (fun z => if z = "at" then none else if z = "want" then v else M z) := Fr.same F fun z => by
  by_cases h : z = "at"
  · subst h
    show M "at" = none
    exact hM
  · simp only [if_neg h]
theorem Fr.want2 {h₀ h : Heap} {L : Addr} {M : Str → Option Value} {v v' : Option Value} (F : Fr h₀ L h (fun z => if z = "want" then v else if z = "want" then v' else M z)) (hM : M "at" = none) : Fr h₀ L h (fun z => if z = "at" then none else if z = "want" then v else M z) := Fr.want1 (Fr.same F fun z => by
  by_cases h : z = "want"
  · subst h; rfl
  · simp only [if_neg h]) hM
theorem Fr.want3 {h₀ h : Heap} {L : Addr} {M : Str → Option Value} {v v' va : Option Value} (F : Fr h₀ L h (fun z => if z = "want" then v else if z = "at" then va else if z = "want" then v' else M z)) : Fr h₀ L h (fun z => if z = "at" then va else if z = "want" then v else M z) := Fr.same F fun z => by
  by_cases h : z = "want"
  · subst h; rfl
  · simp only [if_neg h]
theorem dec5_0 {k : Fin 5} (h : dec5 k = some 0) : k = 0 := by
  revert h; revert k; decide
theorem AtIs.of {led : List (Addr × Obj)} {T : Addr} {c : Option Nat} (h : c ≠ some 0) (hT : TupIn led T c) : AtIs led (.ref T) c := by
  cases c with
  | none => exact ⟨T, rfl, hT⟩
  | some k =>
    cases k with
    | zero => exact absurd rfl h
    | succ k => exact ⟨T, rfl, hT⟩
theorem FVal.of {P : Params} {y : Addr} {j : Nat} (hrows : RowsOk P fz vs) (hy : vs[j]? = some (.ref y)) : FVal P fz vs (.ref y) (some j) := by
  obtain ⟨y', nm, h1, S, _⟩ := hrows j (List.getElem?_eq_some_iff.mp hy).1
  rw [hy] at h1
  cases h1
  exact ⟨y, nm, rfl, hy, S⟩
end
namespace Ep_function_deed
noncomputable abbrev D : Type := (Program) × (World) × (Program) × (List Str) × (ExcName → Option Value) × (Str → Option Value) × (Str → Option Value) × (Nat) × (Nat) × (Option (List Code)) × (Str) × (Scope) × (Addr) × (Value) × (Around) × (Heap) × (Heap) × (Addr) × (Str → Option Value) × (List (Addr × Obj)) × (List (Addr × Obj)) × (Shared) × (Value → Shared → Prop) × (Value → Shared → Prop) × (Addr) × (Addr) × (Addr) × (Addr) × (Addr) × (Addr) × (Addr) × (Addr) × (Addr) × (Addr) × (Addr) × (Addr) × (Addr) × (Addr) × (Tok) × (Tok) × (Tok) × (Tok) × (Obj) × (Obj) × (Obj) × (List Value) × (List Value) × (List Int) × (Nat) × (Nat) × (List (Int × Value)) × (List (Int × Value)) × (Fin 5 × Fin 5 × Fin 5)
noncomputable def S (d : D) : Prop := (fun (prog : Program) (w : World) (p : Program) (loose : List Str) (mean : ExcName → Option Value) (mg : Str → Option Value) (mb : Str → Option Value) (dp : Nat) (un : Nat) (gd : Option (List Code)) (cn : Str) (cs : Scope) (a : Addr) (ccd : Value) (A₀ : Around) (base : Heap) (h₀ : Heap) (L : Addr) (m : Str → Option Value) (news : List (Addr × Obj)) (fz : List (Addr × Obj)) (s : Shared) (Q : Value → Shared → Prop) (E : Value → Shared → Prop) (dk : Addr) (tab : Addr) (tabD : Addr) (rl : Addr) (mo : Addr) (mr : Addr) (mn : Addr) (mp : Addr) (mf : Addr) (ce : Addr) (ceD : Addr) (fd : Addr) (pd : Addr) (nd : Addr) (t1 : Tok) (t2 : Tok) (t3 : Tok) (t4 : Tok) (moo : Obj) (mfo : Obj) (fo : Obj) (vs : List Value) (dvs : List Value) (dns : List Int) (dn : Nat) (n : Nat) (kvs : List (Int × Value)) (mkvs : List (Int × Value)) (f : Fin 5 × Fin 5 × Fin 5) => ∀ (B : Below A₀ base [] h₀) (F : Fr h₀ L s.heap m) (X : (Mine.K w.params).In h₀) (N : News h₀ L s.heap ((dk, lst dvs dn) :: (tab, instObj 272 tabD) :: (tabD, tabO w.params rl nd t1 t2) :: (rl, lst vs n) :: (mo, moo) :: (mf, mfo) :: (ce, instObj 197 ceD) :: (ceD, celO w.params fd pd t3 t4) :: (fd, fo) :: news)) (T : Top p loose mean mg mb h₀) (XB : (Mine.K w.params).In base) (TB : Top p loose mean mg mb base) (hk : cs.kind = .function) (hdp : dp ≤ 400) (hun : un ≤ 500) (hv : IntsAre dvs dns) (hn : Low dns) (lo1 : (mo == sysModules) = false) (lo2 : (mf == sysModules) = false) (lo3 : (fd == sysModules) = false) (hd1 : moo.IsDictOf (strKind prog w) (modK mr mn mp mf)) (hd2 : mfo.IsDictOf (intKind prog w) mkvs) (hd3 : fo.IsDictOf (intKind prog w) kvs) (sub : ∀ p ∈ fz, p ∈ news) (hrows : RowsOk w.params fz vs) (hz : 4 ≤ vs.length) (hz2 : vs.length ≤ 900) (hz3 : kvs.length ≤ 800) (hz4 : mkvs.length ≤ 800) (R : CellsRel w.params fz vs kvs (fn3 f)) (M : ModRel fz mkvs (fn3 f)) (ok : okF f.1 f.2.1 f.2.2 = true) (A : Aps [dk, tab, tabD, rl, mo, mf, ce, ceD, fd]) (off : Off dk news ∧ Off tab news ∧ Off tabD news ∧ Off rl news ∧ Off mo news ∧ Off mf news ∧ Off ce news ∧ Off ceD news ∧ Off fd news) (ret : ∀ dvs' dns' dn' kvs' mkvs' f' mfo' fo' new h' tk', Fr h₀ L h' m → News h₀ L h' ((dk, lst dvs' dn') :: (tab, instObj 272 tabD) :: (tabD, tabO w.params rl nd t1 t2) :: (rl, lst vs n) :: (mo, moo) :: (mf, mfo') :: (ce, instObj 197 ceD) :: (ceD, celO w.params fd pd t3 t4) :: (fd, fo') :: (new ++ news)) →
     IntsAre dvs' dns' → Low dns' → mfo'.IsDictOf (intKind prog w) mkvs' → fo'.IsDictOf (intKind prog w) kvs' → CellsRel w.params fz vs kvs' (fn3 f') → ModRel (new ++ fz) mkvs' (fn3 f') → okF f'.1 f'.2.1 f'.2.2 = true → kvs'.length ≤ kvs.length + 1 → mkvs'.length ≤ mkvs.length + 1 →
     Above new ((dk, lst dvs dn) :: (tab, instObj 272 tabD) :: (tabD, tabO w.params rl nd t1 t2) :: (rl, lst vs n) :: (mo, moo) :: (mf, mfo) :: (ce, instObj 197 ceD) :: (ceD, celO w.params fd pd t3 t4) :: (fd, fo) :: news) → Q (.bool true) { s with heap := h', toks := tk' }), wpAny (model prog w) (ktrTop dp un gd cn cs L a ccd [] []) (call (.ref 319) [.ref dk, .ref ce, .ref tab, .ref mo]) Q E s) d.1 d.2.1 d.2.2.1 d.2.2.2.1 d.2.2.2.2.1 d.2.2.2.2.2.1 d.2.2.2.2.2.2.1 d.2.2.2.2.2.2.2.1 d.2.2.2.2.2.2.2.2.1 d.2.2.2.2.2.2.2.2.2.1 d.2.2.2.2.2.2.2.2.2.2.1 d.2.2.2.2.2.2.2.2.2.2.2.1 d.2.2.2.2.2.2.2.2.2.2.2.2.1 d.2.2.2.2.2.2.2.2.2.2.2.2.2.1 d.2.2.2.2.2.2.2.2.2.2.2.2.2.2.1 d.2.2.2.2.2.2.2.2.2.2.2.2.2.2.2.1 d.2.2.2.2.2.2.2.2.2.2.2.2.2.2.2.2.1 d.2.2.2.2.2.2.2.2.2.2.2.2.2.2.2.2.2.1 d.2.2.2.2.2.2.2.2.2.2.2.2.2.2.2.2.2.2.1 d.2.2.2.2.2.2.2.2.2.2.2.2.2.2.2.2.2.2.2.1 d.2.2.2.2.2.2.2.2.2.2.2.2.2.2.2.2.2.2.2.2.1 d.2.2.2.2.2.2.2.2.2.2.2.2.2.2.2.2.2.2.2.2.2.1 d.2.2.2.2.2.2.2.2.2.2.2.2.2.2.2.2.2.2.2.2.2.2.1 d.2.2.2.2.2.2.2.2.2.2.2.2.2.2.2.2.2.2.2.2.2.2.2.1 d.2.2.2.2.2.2.2.2.2.2.2.2.2.2.2.2.2.2.2.2.2.2.2.2.1 d.2.2.2.2.2.2.2.2.2.2.2.2.2.2.2.2.2.2.2.2.2.2.2.2.2.1 d.2.2.2.2.2.2.2.2.2.2.2.2.2.2.2.2.2.2.2.2.2.2.2.2.2.2.1 d.2.2.2.2.2.2.2.2.2.2.2.2.2.2.2.2.2.2.2.2.2.2.2.2.2.2.2.1 d.2.2.2.2.2.2.2.2.2.2.2.2.2.2.2.2.2.2.2.2.2.2.2.2.2.2.2.2.1 d.2.2.2.2.2.2.2.2.2.2.2.2.2.2.2.2.2.2.2.2.2.2.2.2.2.2.2.2.2.1 d.2.2.2.2.2.2.2.2.2.2.2.2.2.2.2.2.2.2.2.2.2.2.2.2.2.2.2.2.2.2.1 d.2.2.2.2.2.2.2.2.2.2.2.2.2.2.2.2.2.2.2.2.2.2.2.2.2.2.2.2.2.2.2.1 d.2.2.2.2.2.2.2.2.2.2.2.2.2.2.2.2.2.2.2.2.2.2.2.2.2.2.2.2.2.2.2.2.1 d.2.2.2.2.2.2.2.2.2.2.2.2.2.2.2.2.2.2.2.2.2.2.2.2.2.2.2.2.2.2.2.2.2.1 d.2.2.2.2.2.2.2.2.2.2.2.2.2.2.2.2.2.2.2.2.2.2.2.2.2.2.2.2.2.2.2.2.2.2.1 d.2.2.2.2.2.2.2.2.2.2.2.2.2.2.2.2.2.2.2.2.2.2.2.2.2.2.2.2.2.2.2.2.2.2.2.1 d.2.2.2.2.2.2.2.2.2.2.2.2.2.2.2.2.2.2.2.2.2.2.2.2.2.2.2.2.2.2.2.2.2.2.2.2.1 d.2.2.2.2.2.2.2.2.2.2.2.2.2.2.2.2.2.2.2.2.2.2.2.2.2.2.2.2.2.2.2.2.2.2.2.2.2.1 d.2.2.2.2.2.2.2.2.2.2.2.2.2.2.2.2.2.2.2.2.2.2.2.2.2.2.2.2.2.2.2.2.2.2.2.2.2.2.1 d.2.2.2.2.2.2.2.2.2.2.2.2.2.2.2.2.2.2.2.2.2.2.2.2.2.2.2.2.2.2.2.2.2.2.2.2.2.2.2.1 d.2.2.2.2.2.2.2.2.2.2.2.2.2.2.2.2.2.2.2.2.2.2.2.2.2.2.2.2.2.2.2.2.2.2.2.2.2.2.2.2.1 d.2.2.2.2.2.2.2.2.2.2.2.2.2.2.2.2.2.2.2.2.2.2.2.2.2.2.2.2.2.2.2.2.2.2.2.2.2.2.2.2.2.1 d.2.2.2.2.2.2.2.2.2.2.2.2.2.2.2.2.2.2.2.2.2.2.2.2.2.2.2.2.2.2.2.2.2.2.2.2.2.2.2.2.2.2.1 d.2.2.2.2.2.2.2.2.2.2.2.2.2.2.2.2.2.2.2.2.2.2.2.2.2.2.2.2.2.2.2.2.2.2.2.2.2.2.2.2.2.2.2.1 d.2.2.2.2.2.2.2.2.2.2.2.2.2.2.2.2.2.2.2.2.2.2.2.2.2.2.2.2.2.2.2.2.2.2.2.2.2.2.2.2.2.2.2.2.1 d.2.2.2.2.2.2.2.2.2.2.2.2.2.2.2.2.2.2.2.2.2.2.2.2.2.2.2.2.2.2.2.2.2.2.2.2.2.2.2.2.2.2.2.2.2.1 d.2.2.2.2.2.2.2.2.2.2.2.2.2.2.2.2.2.2.2.2.2.2.2.2.2.2.2.2.2.2.2.2.2.2.2.2.2.2.2.2.2.2.2.2.2.2.1 d.2.2.2.2.2.2.2.2.2.2.2.2.2.2.2.2.2.2.2.2.2.2.2.2.2.2.2.2.2.2.2.2.2.2.2.2.2.2.2.2.2.2.2.2.2.2.2.1 d.2.2.2.2.2.2.2.2.2.2.2.2.2.2.2.2.2.2.2.2.2.2.2.2.2.2.2.2.2.2.2.2.2.2.2.2.2.2.2.2.2.2.2.2.2.2.2.2.1 d.2.2.2.2.2.2.2.2.2.2.2.2.2.2.2.2.2.2.2.2.2.2.2.2.2.2.2.2.2.2.2.2.2.2.2.2.2.2.2.2.2.2.2.2.2.2.2.2.2.1 d.2.2.2.2.2.2.2.2.2.2.2.2.2.2.2.2.2.2.2.2.2.2.2.2.2.2.2.2.2.2.2.2.2.2.2.2.2.2.2.2.2.2.2.2.2.2.2.2.2.2.1 d.2.2.2.2.2.2.2.2.2.2.2.2.2.2.2.2.2.2.2.2.2.2.2.2.2.2.2.2.2.2.2.2.2.2.2.2.2.2.2.2.2.2.2.2.2.2.2.2.2.2.2.1 d.2.2.2.2.2.2.2.2.2.2.2.2.2.2.2.2.2.2.2.2.2.2.2.2.2.2.2.2.2.2.2.2.2.2.2.2.2.2.2.2.2.2.2.2.2.2.2.2.2.2.2.2
theorem ne : Nonempty D := ⟨(default, Mine.w00, default, default, (fun _ => default), (fun _ => default), (fun _ => default), default, default, default, default, default, default, default, ({} : Around), default, default, default, (fun _ => default), default, default, ({} : Shared), (fun _ _ => True), (fun _ _ => True), default, default, default, default, default, default, default, default, default, default, default, default, default, default, default, default, default, default, default, default, default, default, default, default, default, default, default, default, default)⟩
noncomputable def X : D := @Classical.epsilon D ne fun d => ¬ S d
@[irreducible] noncomputable def prog : Program := X.1
@[irreducible] noncomputable def w : World := X.2.1
@[irreducible] noncomputable def p : Program := X.2.2.1
@[irreducible] noncomputable def loose : List Str := X.2.2.2.1
@[irreducible] noncomputable def mean : ExcName → Option Value := X.2.2.2.2.1
@[irreducible] noncomputable def mg : Str → Option Value := X.2.2.2.2.2.1
@[irreducible] noncomputable def mb : Str → Option Value := X.2.2.2.2.2.2.1
@[irreducible] noncomputable def dp : Nat := X.2.2.2.2.2.2.2.1
@[irreducible] noncomputable def un : Nat := X.2.2.2.2.2.2.2.2.1
@[irreducible] noncomputable def gd : Option (List Code) := X.2.2.2.2.2.2.2.2.2.1
@[irreducible] noncomputable def cn : Str := X.2.2.2.2.2.2.2.2.2.2.1
@[irreducible] noncomputable def cs : Scope := X.2.2.2.2.2.2.2.2.2.2.2.1
@[irreducible] noncomputable def a : Addr := X.2.2.2.2.2.2.2.2.2.2.2.2.1
@[irreducible] noncomputable def ccd : Value := X.2.2.2.2.2.2.2.2.2.2.2.2.2.1
@[irreducible] noncomputable def A₀ : Around := X.2.2.2.2.2.2.2.2.2.2.2.2.2.2.1
@[irreducible] noncomputable def base : Heap := X.2.2.2.2.2.2.2.2.2.2.2.2.2.2.2.1
@[irreducible] noncomputable def h₀ : Heap := X.2.2.2.2.2.2.2.2.2.2.2.2.2.2.2.2.1
@[irreducible] noncomputable def L : Addr := X.2.2.2.2.2.2.2.2.2.2.2.2.2.2.2.2.2.1
@[irreducible] noncomputable def m : Str → Option Value := X.2.2.2.2.2.2.2.2.2.2.2.2.2.2.2.2.2.2.1
@[irreducible] noncomputable def news : List (Addr × Obj) := X.2.2.2.2.2.2.2.2.2.2.2.2.2.2.2.2.2.2.2.1
@[irreducible] noncomputable def fz : List (Addr × Obj) := X.2.2.2.2.2.2.2.2.2.2.2.2.2.2.2.2.2.2.2.2.1
@[irreducible] noncomputable def s : Shared := X.2.2.2.2.2.2.2.2.2.2.2.2.2.2.2.2.2.2.2.2.2.1
@[irreducible] noncomputable def Q : Value → Shared → Prop := X.2.2.2.2.2.2.2.2.2.2.2.2.2.2.2.2.2.2.2.2.2.2.1
@[irreducible] noncomputable def E : Value → Shared → Prop := X.2.2.2.2.2.2.2.2.2.2.2.2.2.2.2.2.2.2.2.2.2.2.2.1
@[irreducible] noncomputable def dk : Addr := X.2.2.2.2.2.2.2.2.2.2.2.2.2.2.2.2.2.2.2.2.2.2.2.2.1
@[irreducible] noncomputable def tab : Addr := X.2.2.2.2.2.2.2.2.2.2.2.2.2.2.2.2.2.2.2.2.2.2.2.2.2.1
@[irreducible] noncomputable def tabD : Addr := X.2.2.2.2.2.2.2.2.2.2.2.2.2.2.2.2.2.2.2.2.2.2.2.2.2.2.1
@[irreducible] noncomputable def rl : Addr := X.2.2.2.2.2.2.2.2.2.2.2.2.2.2.2.2.2.2.2.2.2.2.2.2.2.2.2.1
@[irreducible] noncomputable def mo : Addr := X.2.2.2.2.2.2.2.2.2.2.2.2.2.2.2.2.2.2.2.2.2.2.2.2.2.2.2.2.1
@[irreducible] noncomputable def mr : Addr := X.2.2.2.2.2.2.2.2.2.2.2.2.2.2.2.2.2.2.2.2.2.2.2.2.2.2.2.2.2.1
@[irreducible] noncomputable def mn : Addr := X.2.2.2.2.2.2.2.2.2.2.2.2.2.2.2.2.2.2.2.2.2.2.2.2.2.2.2.2.2.2.1
@[irreducible] noncomputable def mp : Addr := X.2.2.2.2.2.2.2.2.2.2.2.2.2.2.2.2.2.2.2.2.2.2.2.2.2.2.2.2.2.2.2.1
@[irreducible] noncomputable def mf : Addr := X.2.2.2.2.2.2.2.2.2.2.2.2.2.2.2.2.2.2.2.2.2.2.2.2.2.2.2.2.2.2.2.2.1
@[irreducible] noncomputable def ce : Addr := X.2.2.2.2.2.2.2.2.2.2.2.2.2.2.2.2.2.2.2.2.2.2.2.2.2.2.2.2.2.2.2.2.2.1
@[irreducible] noncomputable def ceD : Addr := X.2.2.2.2.2.2.2.2.2.2.2.2.2.2.2.2.2.2.2.2.2.2.2.2.2.2.2.2.2.2.2.2.2.2.1
@[irreducible] noncomputable def fd : Addr := X.2.2.2.2.2.2.2.2.2.2.2.2.2.2.2.2.2.2.2.2.2.2.2.2.2.2.2.2.2.2.2.2.2.2.2.1
@[irreducible] noncomputable def pd : Addr := X.2.2.2.2.2.2.2.2.2.2.2.2.2.2.2.2.2.2.2.2.2.2.2.2.2.2.2.2.2.2.2.2.2.2.2.2.1
@[irreducible] noncomputable def nd : Addr := X.2.2.2.2.2.2.2.2.2.2.2.2.2.2.2.2.2.2.2.2.2.2.2.2.2.2.2.2.2.2.2.2.2.2.2.2.2.1
@[irreducible] noncomputable def t1 : Tok := X.2.2.2.2.2.2.2.2.2.2.2.2.2.2.2.2.2.2.2.2.2.2.2.2.2.2.2.2.2.2.2.2.2.2.2.2.2.2.1
@[irreducible] noncomputable def t2 : Tok := X.2.2.2.2.2.2.2.2.2.2.2.2.2.2.2.2.2.2.2.2.2.2.2.2.2.2.2.2.2.2.2.2.2.2.2.2.2.2.2.1
@[irreducible] noncomputable def t3 : Tok := X.2.2.2.2.2.2.2.2.2.2.2.2.2.2.2.2.2.2.2.2.2.2.2.2.2.2.2.2.2.2.2.2.2.2.2.2.2.2.2.2.1
@[irreducible] noncomputable def t4 : Tok := X.2.2.2.2.2.2.2.2.2.2.2.2.2.2.2.2.2.2.2.2.2.2.2.2.2.2.2.2.2.2.2.2.2.2.2.2.2.2.2.2.2.1
@[irreducible] noncomputable def moo : Obj := X.2.2.2.2.2.2.2.2.2.2.2.2.2.2.2.2.2.2.2.2.2.2.2.2.2.2.2.2.2.2.2.2.2.2.2.2.2.2.2.2.2.2.1
@[irreducible] noncomputable def mfo : Obj := X.2.2.2.2.2.2.2.2.2.2.2.2.2.2.2.2.2.2.2.2.2.2.2.2.2.2.2.2.2.2.2.2.2.2.2.2.2.2.2.2.2.2.2.1
@[irreducible] noncomputable def fo : Obj := X.2.2.2.2.2.2.2.2.2.2.2.2.2.2.2.2.2.2.2.2.2.2.2.2.2.2.2.2.2.2.2.2.2.2.2.2.2.2.2.2.2.2.2.2.1
@[irreducible] noncomputable def vs : List Value := X.2.2.2.2.2.2.2.2.2.2.2.2.2.2.2.2.2.2.2.2.2.2.2.2.2.2.2.2.2.2.2.2.2.2.2.2.2.2.2.2.2.2.2.2.2.1
@[irreducible] noncomputable def dvs : List Value := X.2.2.2.2.2.2.2.2.2.2.2.2.2.2.2.2.2.2.2.2.2.2.2.2.2.2.2.2.2.2.2.2.2.2.2.2.2.2.2.2.2.2.2.2.2.2.1
@[irreducible] noncomputable def dns : List Int := X.2.2.2.2.2.2.2.2.2.2.2.2.2.2.2.2.2.2.2.2.2.2.2.2.2.2.2.2.2.2.2.2.2.2.2.2.2.2.2.2.2.2.2.2.2.2.2.1
@[irreducible] noncomputable def dn : Nat := X.2.2.2.2.2.2.2.2.2.2.2.2.2.2.2.2.2.2.2.2.2.2.2.2.2.2.2.2.2.2.2.2.2.2.2.2.2.2.2.2.2.2.2.2.2.2.2.2.1
@[irreducible] noncomputable def n : Nat := X.2.2.2.2.2.2.2.2.2.2.2.2.2.2.2.2.2.2.2.2.2.2.2.2.2.2.2.2.2.2.2.2.2.2.2.2.2.2.2.2.2.2.2.2.2.2.2.2.2.1
@[irreducible] noncomputable def kvs : List (Int × Value) := X.2.2.2.2.2.2.2.2.2.2.2.2.2.2.2.2.2.2.2.2.2.2.2.2.2.2.2.2.2.2.2.2.2.2.2.2.2.2.2.2.2.2.2.2.2.2.2.2.2.2.1
@[irreducible] noncomputable def mkvs : List (Int × Value) := X.2.2.2.2.2.2.2.2.2.2.2.2.2.2.2.2.2.2.2.2.2.2.2.2.2.2.2.2.2.2.2.2.2.2.2.2.2.2.2.2.2.2.2.2.2.2.2.2.2.2.2.1
@[irreducible] noncomputable def f : Fin 5 × Fin 5 × Fin 5 := X.2.2.2.2.2.2.2.2.2.2.2.2.2.2.2.2.2.2.2.2.2.2.2.2.2.2.2.2.2.2.2.2.2.2.2.2.2.2.2.2.2.2.2.2.2.2.2.2.2.2.2.2
inductive Cut1 (g : Heap) (L' x y : Addr) (j : Nat) (fl : Flow) (s₃ : Shared) : Prop
  | mk (f9 : fl = .next) (h' : Heap) (tk' : Nat) (dvs' : List Value) (dns' : List Int) (dn' : Nat) (c : Option Nat) (T9 : Addr) (oT : Obj) (v₀ : Value) (e : s₃ = { s with heap := h', toks := tk' }) (hc : c = none ∨ c = some j) (V : FVal w.params fz vs v₀ c) (hv : IntsAre dvs' dns') (hn : Low dns') (hT : TupIn [(T9, oT)] T9 c)
      (F : Fr g L' h' (fun z => if z = "due" then some (.ref T9) else if z = "function" then some v₀ else if z = "symbol" then some (.ref x) else if z = "other" then some (.ref y) else List.lookup z [("model", .ref mo), ("table", .ref tab), ("cells", .ref ce), ("deck", .ref dk)]))
      (N : News g L' h' ((T9, oT) :: funZ w.params dk tab tabD rl nd mo mf ce ceD fd pd t1 t2 t3 t4 dvs' dn' vs n moo mfo fo news)) (hlt : AllLt T9 (funZ w.params dk tab tabD rl nd mo mf ce ceD fd pd t1 t2 t3 t4 dvs' dn' vs n moo mfo fo news))
inductive Cut2 (g : Heap) (L' x y : Addr) (T9 : Addr) (oT : Obj) (dvs' : List Value) (dn' : Nat) (fl : Flow) (s₃ : Shared) : Prop
  | mk (f9 : fl = .next) (h' : Heap) (tk' : Nat) (k : Fin 5) (v₀ dv : Value) (e : s₃ = { s with heap := h', toks := tk' }) (V : FVal w.params fz vs v₀ (dec5 k)) (hT : k = 0 ∧ dv = .none ∨ k ≠ 0 ∧ dv = .ref T9 ∧ TupIn [(T9, oT)] T9 (dec5 k))
      (F : Fr g L' h' (fun z => if z = "due" then some dv else if z = "function" then some v₀ else if z = "symbol" then some (.ref x) else if z = "other" then some (.ref y) else List.lookup z [("model", .ref mo), ("table", .ref tab), ("cells", .ref ce), ("deck", .ref dk)]))
      (N : News g L' h' ((T9, oT) :: funZ w.params dk tab tabD rl nd mo mf ce ceD fd pd t1 t2 t3 t4 dvs' dn' vs n moo mfo fo news))
inductive Cut3 (g : Heap) (L' x y : Addr) (T9 : Addr) (oT : Obj) (dvs' : List Value) (dn' i : Nat) (k : Fin 5) (v₀ dv : Value) (fl : Flow) (s₃ : Shared) : Prop
  | mk (f9 : fl = .next) (g' h' : Heap) (tk' : Nat) (fo' : Obj) (kvs' : List (Int × Value)) (tt : Tok) (ve : Option Value) (e : s₃ = { s with heap := h', toks := tk' }) (KT : KtsTurn ([envOf cn cs L a ccd].filterMap (·.frame)) g g')
      (F : Fr g' L' h' (fun z => if z = "error" then ve else if z = "told_here" then some (.str (saidS (fn3 f) i (dec5 k)) tt) else if z = "due" then some dv else if z = "function" then some v₀ else if z = "symbol" then some (.ref x) else if z = "other" then some (.ref y) else List.lookup z [("model", .ref mo), ("table", .ref tab), ("cells", .ref ce), ("deck", .ref dk)]))
      (N : News g' L' h' ((T9, oT) :: funZ w.params dk tab tabD rl nd mo mf ce ceD fd pd t1 t2 t3 t4 dvs' dn' vs n moo mfo fo' news)) (hd : fo'.IsDictOf (intKind prog w) kvs') (B : Below (ktrTop dp un gd cn cs L a ccd [] []) base [envOf cn cs L a ccd] g') (X : (Mine.K w.params).In g') (T : Top p loose mean mg mb g')
      (hdone : saidS (fn3 f) i (dec5 k) = "done" → hits (fn3 f) 4 i (dec5 k) = false ∧ ¬(i = 0 ∧ dec5 k ≠ some 0) ∧ kvs' = stored kvs (i : Int) v₀) (hnot : saidS (fn3 f) i (dec5 k) ≠ "done" → kvs' = kvs)
inductive Cut4 (L' x y : Addr) (T9 : Addr) (oT : Obj) (dvs' : List Value) (dn' i : Nat) (k : Fin 5) (v₀ dv : Value) (g' : Heap) (fo' : Obj) (tt : Tok) (ve : Option Value) (fl : Flow) (s₃ : Shared) : Prop
  | mk (f9 : fl = .next) (h' : Heap) (tk' : Nat) (tt2 : Tok) (va : Option Value) (e : s₃ = { s with heap := h', toks := tk' })
      (F : Fr g' L' h' (fun z => if z = "at" then va else if z = "want" then some (.str (saidS (fn3 f) i (dec5 k)) tt2) else if z = "error" then ve else if z = "told_here" then some (.str (saidS (fn3 f) i (dec5 k)) tt) else if z = "due" then some dv else if z = "function" then some v₀ else if z = "symbol" then some (.ref x) else if z = "other" then some (.ref y) else List.lookup z [("model", .ref mo), ("table", .ref tab), ("cells", .ref ce), ("deck", .ref dk)]))
      (N : News g' L' h' ((T9, oT) :: funZ w.params dk tab tabD rl nd mo mf ce ceD fd pd t1 t2 t3 t4 dvs' dn' vs n moo mfo fo' news))
inductive Cut5 (L' x y : Addr) (T9 : Addr) (oT : Obj) (dvs' : List Value) (dn' i : Nat) (k : Fin 5) (v₀ dv : Value) (g' : Heap) (fo' : Obj) (tt : Tok) (ve : Option Value) (kvs' : List (Int × Value)) (tt2 : Tok) (va : Option Value) (fl : Flow) (s₃ : Shared) : Prop
  | mk (f9 : fl = .next) (h' : Heap) (tk' : Nat) (mfo' : Obj) (mkvs' : List (Int × Value)) (f' : Fin 5 × Fin 5 × Fin 5) (e : s₃ = { s with heap := h', toks := tk' })
      (F : Fr g' L' h' (fun z => if z = "at" then va else if z = "want" then some (.str (saidS (fn3 f) i (dec5 k)) tt2) else if z = "error" then ve else if z = "told_here" then some (.str (saidS (fn3 f) i (dec5 k)) tt) else if z = "due" then some dv else if z = "function" then some v₀ else if z = "symbol" then some (.ref x) else if z = "other" then some (.ref y) else List.lookup z [("model", .ref mo), ("table", .ref tab), ("cells", .ref ce), ("deck", .ref dk)]))
      (N : News g' L' h' ((T9, oT) :: funZ w.params dk tab tabD rl nd mo mf ce ceD fd pd t1 t2 t3 t4 dvs' dn' vs n moo mfo' fo' news)) (hd : mfo'.IsDictOf (intKind prog w) mkvs') (ok : okF f'.1 f'.2.1 f'.2.2 = true) (R : CellsRel w.params fz vs kvs' (fn3 f')) (M : ModRel ((T9, oT) :: fz) mkvs' (fn3 f')) (hz : kvs'.length ≤ kvs.length + 1) (hz2 : mkvs'.length ≤ mkvs.length + 1)
theorem function_deed (B : Below A₀ base [] h₀) (F : Fr h₀ L s.heap m) (X : (Mine.K w.params).In h₀) (N : News h₀ L s.heap ((dk, lst dvs dn) :: (tab, instObj 272 tabD) :: (tabD, tabO w.params rl nd t1 t2) :: (rl, lst vs n) :: (mo, moo) :: (mf, mfo) :: (ce, instObj 197 ceD) :: (ceD, celO w.params fd pd t3 t4) :: (fd, fo) :: news)) (T : Top p loose mean mg mb h₀) (XB : (Mine.K w.params).In base) (TB : Top p loose mean mg mb base) (hk : cs.kind = .function) (hdp : dp ≤ 400) (hun : un ≤ 500) (hv : IntsAre dvs dns) (hn : Low dns) (lo1 : (mo == sysModules) = false) (lo2 : (mf == sysModules) = false) (lo3 : (fd == sysModules) = false) (hd1 : moo.IsDictOf (strKind prog w) (modK mr mn mp mf)) (hd2 : mfo.IsDictOf (intKind prog w) mkvs) (hd3 : fo.IsDictOf (intKind prog w) kvs) (sub : ∀ p ∈ fz, p ∈ news) (hrows : RowsOk w.params fz vs) (hz : 4 ≤ vs.length) (hz2 : vs.length ≤ 900) (hz3 : kvs.length ≤ 800) (hz4 : mkvs.length ≤ 800) (R : CellsRel w.params fz vs kvs (fn3 f)) (M : ModRel fz mkvs (fn3 f)) (ok : okF f.1 f.2.1 f.2.2 = true) (A : Aps [dk, tab, tabD, rl, mo, mf, ce, ceD, fd]) (off : Off dk news ∧ Off tab news ∧ Off tabD news ∧ Off rl news ∧ Off mo news ∧ Off mf news ∧ Off ce news ∧ Off ceD news ∧ Off fd news) (ret : ∀ dvs' dns' dn' kvs' mkvs' f' mfo' fo' new h' tk', Fr h₀ L h' m → News h₀ L h' ((dk, lst dvs' dn') :: (tab, instObj 272 tabD) :: (tabD, tabO w.params rl nd t1 t2) :: (rl, lst vs n) :: (mo, moo) :: (mf, mfo') :: (ce, instObj 197 ceD) :: (ceD, celO w.params fd pd t3 t4) :: (fd, fo') :: (new ++ news)) →
     IntsAre dvs' dns' → Low dns' → mfo'.IsDictOf (intKind prog w) mkvs' → fo'.IsDictOf (intKind prog w) kvs' → CellsRel w.params fz vs kvs' (fn3 f') → ModRel (new ++ fz) mkvs' (fn3 f') → okF f'.1 f'.2.1 f'.2.2 = true → kvs'.length ≤ kvs.length + 1 → mkvs'.length ≤ mkvs.length + 1 →
     Above new ((dk, lst dvs dn) :: (tab, instObj 272 tabD) :: (tabD, tabO w.params rl nd t1 t2) :: (rl, lst vs n) :: (mo, moo) :: (mf, mfo) :: (ce, instObj 197 ceD) :: (ceD, celO w.params fd pd t3 t4) :: (fd, fo) :: news) → Q (.bool true) { s with heap := h', toks := tk' }):
   wpAny (model prog w) (ktrTop dp un gd cn cs L a ccd [] []) (call (.ref 319) [.ref dk, .ref ce, .ref tab, .ref mo]) Q E s := Mine.byKey fun kzq9 => Mine.Fam.of (by exact Mine.Fam.mk : Mine.Fam ((Mine.Key.unbox kzq9 (by simp only [Mine.Key.box kzq9 (by
  clear kzq9
  have fl9 : Mine.Fl 31 := Mine.Fl.mk
  obtain ⟨⟨a1, a2, a3, a4, a5, a6, a7, a8, -⟩, ⟨b1, b2, b3, b4, b5, b6, b7, -⟩, ⟨c1, c2, c3, c4, c5, c6, -⟩, ⟨d1, d2, d3, d4, d5, -⟩, ⟨e1, e2, e3, e4, -⟩, ⟨f1, f2, f3, -⟩, ⟨g1, g2, -⟩, ⟨i1, -⟩, -⟩ := A
  obtain ⟨o1, o2, o3, o4, o5, o6, o7, o8, o9⟩ := off
  have h00 : vs[0]? = some (.ref 78) := by
    obtain ⟨x, nm, h1, S, _⟩ := hrows 0 (by omega)
    rcases S with ⟨rfl, _, _⟩ | ⟨_, h, _⟩ | ⟨h, _⟩
    · exact h1
    · cases h
    · omega
  refine wpAny_call ?_
  k_dflt (refine' code_defS0 (binds := [("deck", .ref dk), ("cells", .ref ce), ("table", .ref tab), ("model", .ref mo)]) ?k1 ?k2 ?k3 ?k4 ?k5 ?kA ?k6 ?k7 ?k8 ?k9 ?kB ?_ ?cK ?c2 ?c3 ?c4 ?c5; (case kA => exact rfl); (case k2 => k_asm); (case k1 => k_asm); (case k3 => k_asm); (case k4 => k_asm); (case k5 => k_asm); (case k6 => k_is); (case k7 => k_is); (case k8 => ktr_room); (case k9 => exact BindsTo.of_eq rfl); (case kB => exact locs rfl); (case cK => first | exact rfl | assumption); (case c2 => exact rfl); (case c3 => exact rfl); (case c4 => exact rfl); (case c5 => decide); k_whole)
  intro g L' h1 FG F1 N1 B1 X1 T1 D1
  try dsimp only
  try k_lift B1
  try k_fold
  clear F N
  have hst : StopAt := trivial
  replace F1 : Fr g L' h1 (fun y => List.lookup y [("model", .ref mo), ("table", .ref tab), ("cells", .ref ce), ("deck", .ref dk)]) := F1
  refine nameF F1 ?_
  clear F1
  intro m8 F8
  refine nameAE ?_
  intro v9 a9
  refine nameE ?_
  intro e9
  k_steps
  rename News _ _ _ _ => N8
  replace N8 := News.sel 9 [1, 2, 3, 0, 4, 5, 6, 7, 8] N8
  simp only [sel, nth?, List.drop] at N8
  k_dflt (refine' Hold.mk (by_number_ok ?B ?F ?X N8 ?T ?hk ?hdp ?hun (hrows.mono' sub) ?h0 ?h1 hz hz2 ?_))
  case B => k_asm
  case F => k_asm
  case X => k_asm
  case T => k_asm
  case hk => first | exact rfl | assumption
  case hdp => ktr_room
  case hun => units_room
  case h0 => assumption
  case h1 => assumption
  clear N8
  rintro x nm i h' tk' rfl hi4 hx S hall F' N'
  k_steps
  rename News _ _ _ _ => N8
  k_dflt (refine' Hold.mk (by_number_ok ?B ?F ?X N8 ?T ?hk ?hdp ?hun (hrows.mono' sub) ?h0 ?h1 hz hz2 ?_))
  case B => k_asm
  case F => k_asm
  case X => k_asm
  case T => k_asm
  case hk => first | exact rfl | assumption
  case hdp => ktr_room
  case hun => units_room
  case h0 => assumption
  case h1 => assumption
  clear N8
  rintro y nm' j h' tk' rfl hj4 hy S' hall' F' N'
  k_steps
  rename Fr _ _ _ _ => F8
  rename News _ _ _ _ => N8
  rename IntsAre _ _ => hv8
  rename Low _ => hn8
  refine Hold.mk (wpAny_mono (Q := fun fl s₃ => Hold (Cut1 g L' x y j fl s₃)) ?cut1 ?rest1 (fun _ _ e => e))
  case cut1 =>
    k_extra "MY q"
    clear hst
    k_steps
    all_goals (rename News _ _ _ _ => N8)
    · refine Hold.mk ⟨by first | rfl | trivial, _, _, _, _, _, some j, _, _, _, rfl, .inr rfl, FVal.of hrows hy, by assumption, by assumption, ⟨_, _, _, .head _⟩, by assumption, News.sel 3 [1] N8, And.right (a := _ < _) (by k_dflt assumption)⟩
    · refine Hold.mk ⟨by first | rfl | trivial, _, _, _, _, _, none, _, _, _, rfl, .inl rfl, ⟨_, rfl⟩, by assumption, by assumption, ⟨_, _, _, .head _⟩, by assumption, News.sel 3 [1] N8, And.right (a := _ < _) (by k_dflt assumption)⟩
  clear F8 N8 hv8 hn8
  rintro fl s₃ ⟨rfl, h', tk', dvs', dns', dn', c, T9, oT, v₀, rfl, hc, V, hv', hn', hT, F', N', hlt⟩
  k_steps
  rename Fr _ _ _ _ => F8
  rename News _ _ _ _ => N8
  refine Hold.mk (wpAny_mono (Q := fun fl s₃ => Hold (Cut2 g L' x y T9 oT dvs' dn' fl s₃)) ?cut2 ?rest2 (fun _ _ e => e))
  case cut2 =>
    k_extra "MY q"
    clear hst
    rcases hc with rfl | rfl
    · obtain ⟨u1, u2, u3, hm⟩ := hT
      obtain rfl : oT = tupT u1 u2 u3 := (Prod.mk.inj (List.mem_singleton.mp hm)).2.symm
      obtain ⟨u4, rfl⟩ := V
      cases j with
      | zero =>
        k_steps
        refine Hold.mk ⟨by first | rfl | trivial, _, _, 4, _, _, rfl, ⟨_, rfl⟩, .inr ⟨by decide, rfl, ⟨_, _, _, .head _⟩⟩, by assumption, by assumption⟩
      | succ j =>
        k_steps
        all_goals first
          | (exfalso; omega)
          | refine Hold.mk ⟨by first | rfl | trivial, _, _, 4, _, _, rfl, ⟨_, rfl⟩, .inr ⟨by decide, rfl, ⟨_, _, _, .head _⟩⟩, by assumption, by assumption⟩
    · obtain ⟨u1, u2, u3, hm⟩ := hT
      obtain rfl : oT = tupS j u1 u2 u3 := (Prod.mk.inj (List.mem_singleton.mp hm)).2.symm
      cases j with
      | zero =>
        k_steps
        rename News _ _ _ _ => N7
        refine Hold.mk ⟨by first | rfl | trivial, _, _, 0, _, _, rfl, (FVal.of hrows (vs := vs) (j := 0) ?_ : FVal w.params fz vs (.ref 78) (some 0)), .inl ⟨rfl, rfl⟩, ?_, News.tl N7⟩
        · exact h00
        · rename Fr _ _ _ _ => F7
          (try dsimp +zetaDelta only at F7)
          refine Fr.same F7 fun z => ?_
          by_cases h1 : z = "function"
          · subst h1; rfl
          by_cases h2 : z = "due"
          · subst h2; rfl
          simp only [if_neg h1, if_neg h2]
      | succ j =>
        have hdj : dec5 ⟨j + 1, by omega⟩ = some (j + 1) := by
          show (if j + 1 = 4 then none else some (j + 1)) = _
          rw [if_neg (by omega)]
        k_steps
        all_goals first
          | (exfalso; omega)
          | refine Hold.mk ⟨by first | rfl | trivial, _, _, ⟨j + 1, by omega⟩, _, _, rfl, by rw [hdj]; exact V, .inr ⟨fun e => Nat.succ_ne_zero j (congrArg Fin.val e), rfl, by rw [hdj]; exact ⟨_, _, _, .head _⟩⟩, by assumption, by assumption⟩
  clear F8 N8 V hT hc v₀ c
  rintro fl s₃ ⟨rfl, h', tk', k, v₀, dv, rfl, V, hT, F', N'⟩
  k_steps
  rename Fr _ _ _ _ => F8
  rename News _ _ _ _ => N8
  simp only [AllLt] at hlt
  obtain ⟨q1, q2, q3, q4, q5, q6, q7, q8, q9, q10⟩ := hlt
  have hTf : Apt T9 fd := Nat.ne_of_gt q9
  have tf : TupIn ((T9, oT) :: funZ w.params dk tab tabD rl nd mo mf ce ceD fd pd t1 t2 t3 t4 dvs' dn' vs n moo mfo fo news) T9 (dec5 k) ∨ k = 0 := by
    rcases hT with ⟨h, _⟩ | ⟨_, _, h⟩
    · exact .inr h
    · exact .inl (h.mono fun q hq => by rw [List.mem_singleton.mp hq]; exact .head _)
  refine Hold.mk (wpAny_mono (Q := fun fl s₃ => Hold (Cut3 g L' x y T9 oT dvs' dn' i k v₀ dv fl s₃)) ?cut3 ?rest3 (fun _ _ e => e))
  case cut3 =>
    k_extra "MY q"
    clear hst
    k_steps
    rename News _ _ _ _ => N7
    k_dflt (refine' Hold.mk (set_function_ok ?B ?F ?X (News.sel 10 [7, 8, 9, 0, 1, 2, 3, 4, 5, 6] N7) ?T ?hk ?hdp ?hun lo3 hd3 (by omega) h00 (R.mono' ?sub) (S.mono ?sub2) hx (V.mono' ?sub) (ends_dec ok k) (by decide) g2 i1 ?ap ?ret ?rais))
    case B => k_asm
    case F => k_asm
    case X => k_asm
    case T => k_asm
    case hk => first | exact rfl | assumption
    case hdp => ktr_room
    case hun => units_room
    case sub => exact fun q hq => .tail _ (.tail _ (.tail _ (.tail _ (.tail _ (.tail _ (.tail _ (sub q hq)))))))
    case sub2 => exact fun q hq => .tail _ (.tail _ (.tail _ (.tail _ (.tail _ (.tail _ (.tail _ hq))))))
    case ap => first | k_dflt k_all | done
    case ret =>
      intro z1 z2 o' h9 tk9 F9 N9 hd9
      have hs9 : saidS (fn3 f) i (dec5 k) = "done" := by
        unfold saidS
        rw [if_neg z1, if_neg (by rw [z2]; decide)]
      clear N7
      k_steps
      rename News _ _ _ _ => N6
      rename Fr _ _ _ _ => F6
      (try dsimp +zetaDelta only at F6)
      rw [← hs9] at F6
      exact Hold.mk ⟨by first | rfl | trivial, g, _, _, o', _, _, none, rfl, KtsTurn.refl, Fr.same F6 fun z => (by
        by_cases h1 : z = "error"
        · subst h1; rfl
        · rw [if_neg h1]), News.sel 10 [3, 4, 5, 6, 7, 8, 9, 0, 1, 2] N6, hd9, by k_asm, by k_asm, by k_asm, fun _ => ⟨z2, z1, rfl⟩, fun q => absurd hs9 q⟩
    case rais =>
      intro G e D oD h9 tk9 msg t led z FG SF subl hsm
      have hs9 : saidS (fn3 f) i (dec5 k) = msg ∧ saidS (fn3 f) i (dec5 k) ≠ "done" := by
        unfold saidS
        rcases z with ⟨y1, y2, y3⟩ | ⟨y1, y2, y3⟩
        · rw [if_pos ⟨y1, y2⟩]
          exact ⟨by rw [y3], by decide⟩
        · rw [if_neg y1, if_pos y2]
          exact ⟨by rw [y3], by decide⟩
      clear N7
      k_steps
      rename KtsDicts _ _ => D9
      k_dflt (refine' caught_sig SF FG (by k_asm) hsm XB TB D9 KtsTurn.refl (by k_is) ?_)
      intro h7 g7 tk7 oe ws mS KT7 F7 N7 c1' c2' c3' c4' c5' B7 X7 T7 D7
      k_steps
      rename Fr _ _ _ _ => F6
      (try dsimp +zetaDelta only at F6)
      k_dflt (refine sig_sym F6 (by k_asm) (by k_asm) c1' c2' c3' c4' c5' rfl ?_)
      clear FG
      k_steps
      rename Fr _ _ _ _ => F5
      (try dsimp +zetaDelta only at F5)
      rename News _ _ _ _ => N5
      refine Hold.mk ⟨by first | rfl | trivial, g7, _, _, fo, kvs, t, _, rfl, KT7, Fr.err F5 fun z h1 => ?_, fun q hq => N5 q (.tail _ (.tail _ (subl q (perm10 _ _ _ _ _ _ _ _ _ _ _ q hq)))), hd3, B7, X7, T7, fun q => absurd q hs9.2, fun _ => rfl⟩
      rw [hs9.1]
      by_cases h2 : z = "told_here"
      · subst h2; rfl
      simp only [if_neg h1, if_neg h2]
  clear F8 N8
  rintro fl s₃ ⟨rfl, g', h', tk', fo', kvs', tt, ve, rfl, KT, F', N', hd4, B9, X9, T9', hdone, hnot⟩
  k_steps
  rename Fr _ _ _ _ => F8
  rename News _ _ _ _ => N8
  have hk5 : dec5 k = none ∨ dec5 k = some 0 ∨ ∃ j', dec5 k = some (j' + 1) := by
    cases dec5 k with
    | none => exact .inl rfl
    | some q => cases q with
      | zero => exact .inr (.inl rfl)
      | succ q => exact .inr (.inr ⟨q, rfl⟩)
  refine Hold.mk (wpAny_mono (Q := fun fl s₃ => Hold (Cut4 L' x y T9 oT dvs' dn' i k v₀ dv g' fo' tt ve fl s₃)) ?cut4 ?rest4 (fun _ _ e => e))
  case cut4 =>
    k_extra "MY q"
    clear hst
    rcases hT with ⟨rfl, rfl⟩ | ⟨hk0, rfl, hT⟩
    · have hs : saidS (fn3 f) i (dec5 0) = "done" := said_k0
      cases i with
      | zero =>
        k_steps
        rename Fr _ _ _ _ => F5
        (try dsimp +zetaDelta only at F5)
        rename News _ _ _ _ => N5
        rw [← hs] at F5
        exact Hold.mk ⟨by first | rfl | trivial, _, _, _, none, rfl, Fr.want1 F5 rfl, N5⟩
      | succ i' =>
        k_steps
        · exfalso; omega
        rename Fr _ _ _ _ => F5
        (try dsimp +zetaDelta only at F5)
        rename News _ _ _ _ => N5
        rw [← hs] at F5
        exact Hold.mk ⟨by first | rfl | trivial, _, _, _, none, rfl, Fr.want1 F5 rfl, N5⟩
    · rcases hk5 with h5 | h5 | ⟨j', h5⟩
      · rw [h5] at hT
        obtain ⟨u1, u2, u3, hm⟩ := hT
        obtain rfl : oT = tupT u1 u2 u3 := (Prod.mk.inj (List.mem_singleton.mp hm)).2.symm
        cases i with
        | zero =>
          have hs : saidS (fn3 f) 0 (dec5 k) = "setting-constant" := said_i0 (by rw [h5]; intro q; cases q)
          k_steps
          rename Fr _ _ _ _ => F5
          (try dsimp +zetaDelta only at F5)
          rename News _ _ _ _ => N5
          rw [← hs] at F5
          exact Hold.mk ⟨by first | rfl | trivial, _, _, _, none, rfl, Fr.want2 F5 rfl, N5⟩
        | succ i' =>
          have hs : saidS (fn3 f) (i' + 1) (dec5 k) = "done" := by rw [h5]; exact said_k4 (Nat.succ_ne_zero i')
          k_steps
          · exfalso; omega
          rename Fr _ _ _ _ => F5
          (try dsimp +zetaDelta only at F5)
          rename News _ _ _ _ => N5
          rw [← hs] at F5
          exact Hold.mk ⟨by first | rfl | trivial, _, _, _, none, rfl, Fr.want1 F5 rfl, N5⟩
      · exact absurd (dec5_0 h5) hk0
      · rw [h5] at hT
        obtain ⟨u1, u2, u3, hm⟩ := hT
        obtain rfl : oT = tupS (j' + 1) u1 u2 u3 := (Prod.mk.inj (List.mem_singleton.mp hm)).2.symm
        cases i with
        | zero =>
          have hs : saidS (fn3 f) 0 (dec5 k) = "setting-constant" := said_i0 (by rw [h5]; intro q; cases q)
          k_steps
          rename Fr _ _ _ _ => F5
          (try dsimp +zetaDelta only at F5)
          rename News _ _ _ _ => N5
          rw [← hs] at F5
          exact Hold.mk ⟨by first | rfl | trivial, _, _, _, none, rfl, Fr.want2 F5 rfl, N5⟩
        | succ i' =>
          k_steps
          · exfalso; omega
          rename Fr _ _ _ _ => F7
          (try dsimp +zetaDelta only at F7)
          rename News _ _ _ _ => N7
          refine Hold.mk (While_at (x := "at") (fun n9 v => ∃ c, Ends (fn3 f) n9 c ∧ hits (fn3 f) (n9 + 1) (i' + 1) c = hits (fn3 f) 4 (i' + 1) (dec5 k) ∧ AtIs ((T9, tupS (j' + 1) u1 u2 u3) :: funZ w.params dk tab tabD rl nd mo mf ce ceD fd pd t1 t2 t3 t4 dvs' dn' vs n moo mfo fo' news) v c) F7 N7 ⟨dec5 k, ends_dec ok k, rfl, by rw [h5]; exact ⟨T9, rfl, u1, u2, u3, .head _⟩⟩ ?_)
          clear F7 N7 hm
          rintro n9 v h1 tk1 F1 N1 ⟨c, E1, H1, V1⟩
          cases c with
          | none =>
            obtain ⟨T8, rfl, w1, w2, w3, hm8⟩ := V1
            have hs : saidS (fn3 f) (i' + 1) (dec5 k) = "done" := said_no (Nat.succ_ne_zero i') (by rw [← H1]; rfl)
            k_steps
            rename Fr _ _ _ _ => F5
            (try dsimp +zetaDelta only at F5)
            rename News _ _ _ _ => N5
            rw [← hs] at F5
            exact Hold.mk ⟨by first | rfl | trivial, _, _, _, _, rfl, F5, N5⟩
          | some c1 =>
            cases c1 with
            | zero =>
              obtain rfl : v = .none := V1
              have hs : saidS (fn3 f) (i' + 1) (dec5 k) = "done" := said_no (Nat.succ_ne_zero i') (by rw [← H1]; rfl)
              k_steps
              rename Fr _ _ _ _ => F5
              (try dsimp +zetaDelta only at F5)
              rename News _ _ _ _ => N5
              rw [← hs] at F5
              exact Hold.mk ⟨by first | rfl | trivial, _, _, _, _, rfl, F5, N5⟩
            | succ j =>
              obtain ⟨T8, rfl, w1, w2, w3, hm8⟩ := V1
              by_cases hji : j + 1 = i' + 1
              · have hs : saidS (fn3 f) (i' + 1) (dec5 k) = "cyclic-function-indirection" := said_hit (Nat.succ_ne_zero i') (by rw [← H1]; simp [hits, hji])
                k_steps
                · exfalso; omega
                rename Fr _ _ _ _ => F5
                (try dsimp +zetaDelta only at F5)
                rename News _ _ _ _ => N5
                rw [← hs] at F5
                exact Hold.mk ⟨by first | rfl | trivial, _, _, _, _, rfl, Fr.want3 F5, N5⟩
              · obtain ⟨n', rfl, E2⟩ : ∃ n', n9 = n' + 1 ∧ Ends (fn3 f) n' (fn3 f (j + 1)) := by
                  cases n9 with
                  | zero => rcases E1 with h | h <;> simp at h
                  | succ n' =>
                    rcases E1 with (h | h) | ⟨j', h, E2⟩
                    · simp at h
                    · simp at h
                    · simp at h
                      subst h
                      exact ⟨n', rfl, E2⟩
                have H2 : hits (fn3 f) (n' + 1) (i' + 1) (fn3 f (j + 1)) = hits (fn3 f) 4 (i' + 1) (dec5 k) := by
                  rw [← H1]
                  show _ = (if j + 1 = i' + 1 then true else hits (fn3 f) (n' + 1) (i' + 1) (fn3 f (j + 1)))
                  rw [if_neg hji]
                rcases M (j + 1) with ⟨hv9, hf9⟩ | ⟨T7, hv9, hf9, hT9⟩
                · k_steps
                  · rename News _ _ _ _ => N5
                    exact ⟨_, _, _, .none, n', rfl, by assumption, N5, Nat.lt_succ_self _, ⟨some 0, hf9 ▸ E2, hf9 ▸ H2, rfl⟩, rfl, fun y hy => by simp +zetaDelta [hy]⟩
                  · exfalso; omega
                · k_steps
                  · rename News _ _ _ _ => N5
                    refine ⟨_, _, _, .ref T7, n', rfl, by assumption, N5, Nat.lt_succ_self _, ⟨_, E2, H2, AtIs.of hf9 (hT9.mono fun q hq => .tail _ (.tail _ (.tail _ (.tail _ (.tail _ (.tail _ (.tail _ (.tail _ (.tail _ (.tail _ (sub q hq)))))))))))⟩, rfl, fun y hy => by simp +zetaDelta [hy]⟩
                  · exfalso; omega
  clear F8 N8
  rintro fl s₃ ⟨rfl, h', tk', tt2, va, rfl, F', N'⟩
  k_steps
  rename Fr _ _ _ _ => F8
  rename News _ _ _ _ => N8
  refine Hold.mk (wpAny_mono (Q := fun fl s₃ => Hold (Cut5 L' x y T9 oT dvs' dn' i k v₀ dv g' fo' tt ve kvs' tt2 va fl s₃)) ?cut5 ?rest5 (fun _ _ e => e))
  case cut5 =>
    clear hst
    by_cases hd : saidS (fn3 f) i (dec5 k) = "done"
    · obtain ⟨z1, z2, rfl⟩ := hdone hd
      have hf9 : fn3 (upd3 i k f) = fun y => if y = i then dec5 k else fn3 f y := fn3_upd hi4 (fun e => by
        by_cases e2 : dec5 k = some 0
        · exact dec5_0 e2
        · exact absurd ⟨e, e2⟩ z2)
      have ok9 := upd_ok' hi4 ok z1
      rw [hd] at F8
      k_extra "MY q"
      rcases hT with ⟨rfl, rfl⟩ | ⟨hk0, rfl, hT⟩
      · rcases M i with ⟨hv9, hf8⟩ | ⟨T7, hv9, -, -⟩
        · k_steps
          rename Fr _ _ _ _ => F5
          (try dsimp +zetaDelta only at F5)
          rename News _ _ _ _ => N5
          rw [← hd] at F5
          have e9 : fn3 (upd3 i 0 f) = fn3 f := by
            rw [hf9]
            funext y
            by_cases hy : y = i
            · subst hy; rw [if_pos rfl, hf8]; rfl
            · rw [if_neg hy]
          exact Hold.mk ⟨by first | rfl | trivial, _, _, mfo, mkvs, upd3 i 0 f, rfl, F5, N5, hd2, ok9, R.upd V hf9, by rw [e9]; exact M.mono fun q hq => .tail _ hq, stored_length_le _ _ _, Nat.le_succ _⟩
        · k_steps
          rename Fr _ _ _ _ => F5
          (try dsimp +zetaDelta only at F5)
          rename News _ _ _ _ => N5
          rw [← hd] at F5
          exact Hold.mk ⟨by first | rfl | trivial, _, _, _, _, upd3 i 0 f, rfl, F5, N5, by assumption, ok9, R.upd V hf9, (M.mono fun q hq => .tail _ hq).pop hf9, stored_length_le _ _ _, Nat.le_trans (List.length_filter_le _ _) (Nat.le_succ _)⟩
      · k_steps
        rename Fr _ _ _ _ => F5
        (try dsimp +zetaDelta only at F5)
        rename News _ _ _ _ => N5
        rw [← hd] at F5
        exact Hold.mk ⟨by first | rfl | trivial, _, _, _, _, upd3 i k f, rfl, F5, N5, by assumption, ok9, R.upd V hf9, (M.mono fun q hq => .tail _ hq).upd (fun e => hk0 (dec5_0 e)) (hT.mono fun q hq => by rw [List.mem_singleton.mp hq]; exact .head _) hf9, stored_length_le _ _ _, stored_length_le _ _ _⟩
    · obtain rfl := hnot hd
      k_extra "MY q"
      k_steps
      · exfalso
        rename ((_ == _) = true) => hb
        exact hd (beq_iff_eq.mp hb)
      · rename Fr _ _ _ _ => F5
        (try dsimp +zetaDelta only at F5)
        rename News _ _ _ _ => N5
        exact Hold.mk ⟨by first | rfl | trivial, _, _, _, _, f, rfl, F5, N5, by assumption, ok, R, M.mono fun q hq => .tail _ hq, Nat.le_succ _, Nat.le_succ _⟩
  clear F8 N8
  rintro fl s₃ ⟨rfl, h', tk', mfo', mkvs', f', rfl, F', N', hd5, ok', R', M', hz5, hz6⟩
  clear hst
  k_steps
  · exfalso
    rename (_ = true) => hb
    simp at hb
  k_dflt (refine' Hold.mk (conditions_ok ?B ?F ?X (by assumption) ?T ?hk ?hdp ?hun ?_))
  case B => k_asm
  case F => k_asm
  case X => k_asm
  case T => k_asm
  case hk => first | exact rfl | assumption
  case hdp => ktr_room
  case hun => units_room
  intro l9 w1 w2 w3 h9 tk9 F9 N9
  clear F' N'
  k_steps
  rename News _ _ _ _ => N8
  replace N8 := News.sel 11 [6, 7, 1, 2, 3, 4, 5, 8, 9, 10] N8
  simp only [sel, nth?, List.drop] at N8
  k_dflt (refine' Hold.mk (leads_ok ?B ?F ?X N8 ?T ?hk ?hdp ?hun lo2 hd1 hd5 (M'.mono ?sub) (fn3_0 f') (okF.ends ok' hi4) ?_))
  case B => k_asm
  case F => k_asm
  case X => k_asm
  case T => k_asm
  case hk => first | exact rfl | assumption
  case hdp => ktr_room
  case hun => units_room
  case sub => exact fun q hq => (List.mem_cons.mp hq).elim (fun e => e ▸ .head _) fun h => .tail _ (.tail _ (.tail _ (.tail _ (.tail _ (.tail _ (.tail _ (.tail _ (sub q h))))))))
  clear N8
  intro Tt ce9 h7 tk7 led F7 N7 sub7 hT7 hc7
  have hnw : ∀ q ∈ news, q ∈ led := fun q hq => sub7 q (.tail _ (.tail _ (.tail _ (.tail _ (.tail _ (.tail _ (.tail _ (.tail _ hq))))))))
  have m1 : (fd, fo') ∈ led := sub7 _ (.tail _ (.tail _ (.tail _ (.tail _ (.tail _ (.tail _ (.tail _ (.head _))))))))
  have m2 : (ceD, celO w.params fd pd t3 t4) ∈ led := sub7 _ (.tail _ (.tail _ (.tail _ (.tail _ (.tail _ (.tail _ (.head _)))))))
  have m3 : (ce, instObj 197 ceD) ∈ led := sub7 _ (.tail _ (.tail _ (.tail _ (.tail _ (.tail _ (.head _))))))
  have N6 := newsAdd (p := (fd, fo')) N7 (.tail _ (.tail _ m1))
  replace N6 := newsAdd (p := (ceD, celO w.params fd pd t3 t4)) N6 (.tail _ (.tail _ (.tail _ m2)))
  replace N6 := newsAdd (p := (ce, instObj 197 ceD)) N6 (.tail _ (.tail _ (.tail _ (.tail _ m3))))
  clear N7
  k_steps
  rename News _ _ _ _ => N6
  have V9 : FVal w.params ((mo, moo) :: (mf, mfo') :: led) vs (.ref x) (some i) := ⟨x, nm, rfl, hx, S.mono fun q hq => .tail _ (.tail _ (hnw q hq))⟩
  k_dflt (refine' Hold.mk (indirect_ok ?B ?F ?X N6 ?T ?hk ?hdp ?hun lo3 hd4 h00 (R'.mono' ?sub) V9 (okF.ends ok' hi4) ?_))
  case B => k_asm
  case F => k_asm
  case X => k_asm
  case T => k_asm
  case hk => first | exact rfl | assumption
  case hdp => ktr_room
  case hun => units_room
  case sub => exact fun q hq => .tail _ (.tail _ (hnw q (sub q hq)))
  clear N6
  intro v6 h6 tk6 V6 F6 N6
  have hl : lead (fn3 f') 3 (some i) = none ∨ lead (fn3 f') 3 (some i) = some 0 := by
    have q := List.all_eq_true.mp ok' i (List.mem_range.mpr hi4)
    simpa [endsB] using q
  replace S := S.mono (fz' := (ce, instObj 197 ceD) :: (ceD, celO w.params fd pd t3 t4) :: (fd, fo') :: (mo, moo) :: (mf, mfo') :: led) fun q hq => .tail _ (.tail _ (.tail _ (.tail _ (.tail _ (hnw q hq)))))
  have R9 := R'.mono' (fz' := (ce, instObj 197 ceD) :: (ceD, celO w.params fd pd t3 t4) :: (fd, fo') :: (mo, moo) :: (mf, mfo') :: led) fun q hq => .tail _ (.tail _ (.tail _ (.tail _ (.tail _ (hnw q (sub q hq))))))
  have fin9 : ∀ h tk, Fr h₀ L h m → (∀ q ∈ (ce, instObj 197 ceD) :: (ceD, celO w.params fd pd t3 t4) :: (fd, fo') :: (mo, moo) :: (mf, mfo') :: led, h.get? q.1 = some q.2 ∧ q.1 ≠ L ∧ h₀.get? q.1 = none) → Q (.bool true) { s with heap := h, toks := tk } := by
    intro h tk F N
    refine ret dvs' dns' dn' kvs' mkvs' f' mfo' fo' [(T9, oT)] h tk F (fun q hq => N q ?_) hv' hn' hd5 hd4 R' M' ok' hz5 hz6 (Above.one ⟨q4, q1, q2, q3, q5, q6, q7, q8, q9, q10⟩)
    rcases List.mem_cons.mp hq with rfl | hq
    · exact .tail _ (.tail _ (.tail _ (.tail _ (.tail _ (sub7 _ (.tail _ (.tail _ (.tail _ (.tail _ (.head _)))))))))) 
    rcases List.mem_cons.mp hq with rfl | hq
    · exact .tail _ (.tail _ (.tail _ (.tail _ (.tail _ (sub7 _ (.tail _ (.head _)))))))
    rcases List.mem_cons.mp hq with rfl | hq
    · exact .tail _ (.tail _ (.tail _ (.tail _ (.tail _ (sub7 _ (.tail _ (.tail _ (.head _))))))))
    rcases List.mem_cons.mp hq with rfl | hq
    · exact .tail _ (.tail _ (.tail _ (.tail _ (.tail _ (sub7 _ (.tail _ (.tail _ (.tail _ (.head _)))))))))
    rcases List.mem_cons.mp hq with rfl | hq
    · exact .tail _ (.tail _ (.tail _ (.head _)))
    rcases List.mem_cons.mp hq with rfl | hq
    · exact .tail _ (.tail _ (.tail _ (.tail _ (.head _))))
    rcases List.mem_cons.mp hq with rfl | hq
    · exact .head _
    rcases List.mem_cons.mp hq with rfl | hq
    · exact .tail _ (.head _)
    rcases List.mem_cons.mp hq with rfl | hq
    · exact .tail _ (.tail _ (.head _))
    rcases List.mem_cons.mp hq with rfl | hq
    · exact .tail _ (.tail _ (.tail _ (.tail _ (.tail _ (sub7 _ (.head _))))))
    · exact .tail _ (.tail _ (.tail _ (.tail _ (.tail _ (hnw q hq)))))
  have hT8 : TupIn ((ce, instObj 197 ceD) :: (ceD, celO w.params fd pd t3 t4) :: (fd, fo') :: (mo, moo) :: (mf, mfo') :: led) Tt ce9 := hT7.mono fun q hq => .tail _ (.tail _ (.tail _ (.tail _ (.tail _ hq))))
  clear R V9 hT7
  rcases hl with hl | hl
  · obtain rfl : ce9 = none := hc7.mpr hl
    rw [hl] at V6
    obtain ⟨u6, rfl⟩ := V6
    obtain ⟨p1, p2, p3, hm8⟩ := hT8
    rcases R9 i with ⟨hv8, hf8⟩ | ⟨v8, hv8, hf8⟩
    · rcases M' i with ⟨hv7, hf7⟩ | ⟨T7, hv7, hne7, -⟩
      · k_steps
        exact fin9 _ _ (by assumption) (by assumption)
      · exact absurd hf8 hne7
    · rcases M' i with ⟨hv7, hf7⟩ | ⟨T7, hv7, hne7, -⟩
      · rw [hf7] at hf8
        obtain ⟨y8, nm8, rfl, hy8, S8⟩ := hf8
        k_steps
        exact fin9 _ _ (by assumption) (by assumption)
      · cases hq8 : fn3 f' i with
        | none =>
          rw [hq8] at hf8
          obtain ⟨u8, rfl⟩ := hf8
          k_steps
          exact fin9 _ _ (by assumption) (by assumption)
        | some q8 =>
          cases q8 with
          | zero => exact absurd hq8 hne7
          | succ j8 =>
            rw [hq8] at hf8
            obtain ⟨y8, nm8, rfl, hy8, S8⟩ := hf8
            k_steps
            all_goals first
              | exact fin9 _ _ (by assumption) (by assumption)
              | (exfalso; rename (_ = true) => hb; simp at hb)
  · obtain ⟨k9, rfl⟩ : ∃ k9, ce9 = some k9 := by
      cases ce9 with
      | none => exact absurd (hl.symm.trans (hc7.mp rfl)) (by intro q; cases q)
      | some k9 => exact ⟨k9, rfl⟩
    rw [hl] at V6
    obtain ⟨y6, nm6, rfl, hy6, S6⟩ := V6
    obtain ⟨p1, p2, p3, hm8⟩ := hT8
    replace S6 := S6.mono (fz' := (ce, instObj 197 ceD) :: (ceD, celO w.params fd pd t3 t4) :: (fd, fo') :: (mo, moo) :: (mf, mfo') :: led) fun q hq => .tail _ (.tail _ (.tail _ hq))
    rcases R9 i with ⟨hv8, hf8⟩ | ⟨v8, hv8, hf8⟩
    · rcases M' i with ⟨hv7, hf7⟩ | ⟨T7, hv7, hne7, -⟩
      · k_steps
        exact fin9 _ _ (by assumption) (by assumption)
      · exact absurd hf8 hne7
    · rcases M' i with ⟨hv7, hf7⟩ | ⟨T7, hv7, hne7, -⟩
      · rw [hf7] at hf8
        obtain ⟨y8, nm8, rfl, hy8, S8⟩ := hf8
        k_steps
        exact fin9 _ _ (by assumption) (by assumption)
      · cases hq8 : fn3 f' i with
        | none =>
          rw [hq8] at hf8
          obtain ⟨u8, rfl⟩ := hf8
          k_steps
          exact fin9 _ _ (by assumption) (by assumption)
        | some q8 =>
          cases q8 with
          | zero => exact absurd hq8 hne7
          | succ j8 =>
            rw [hq8] at hf8
            obtain ⟨y8, nm8, rfl, hy8, S8⟩ := hf8
            k_steps
            all_goals first
              | exact fin9 _ _ (by assumption) (by assumption)
              | (exfalso; rename (_ = true) => hb; simp at hb))])) :))
theorem all : ∀ d, S d := Mine.eps ne (by with_unfolding_all exact @function_deed)
end Ep_function_deed
section
variable {prog : Program} {w : World} {p : Program} {loose : List Str} {mean : ExcName → Option Value} {mg mb : Str → Option Value}
 {dp un : Nat} {gd : Option (List Code)} {cn : Str} {cs : Scope} {a : Addr} {ccd : Value} {cl : List (Str × Addr)} {outer : List Env} {A₀ : Around} {base h₀ : Heap} {L : Addr} {m : Str → Option Value} {news fz : List (Addr × Obj)} {s : Shared} {Q E : Value → Shared → Prop}
variable {dk tab tabD rl mo mr mn mp mf ce ceD fd pd nd : Addr} {t1 t2 t3 t4 : Tok} {moo mfo fo : Obj} {vs dvs : List Value} {dns : List Int} {dn n : Nat} {kvs mkvs : List (Int × Value)} {f : Fin 5 × Fin 5 × Fin 5}
theorem function_deed
   (B : Below A₀ base [] h₀) (F : Fr h₀ L s.heap m) (X : (Mine.K w.params).In h₀)
   (N : News h₀ L s.heap ((dk, lst dvs dn) :: (tab, instObj 272 tabD) :: (tabD, tabO w.params rl nd t1 t2) :: (rl, lst vs n) :: (mo, moo) :: (mf, mfo) :: (ce, instObj 197 ceD) :: (ceD, celO w.params fd pd t3 t4) :: (fd, fo) :: news))
   (T : Top p loose mean mg mb h₀) (XB : (Mine.K w.params).In base) (TB : Top p loose mean mg mb base) (hk : cs.kind = .function) (hdp : dp ≤ 400) (hun : un ≤ 500)
   (hv : IntsAre dvs dns) (hn : Low dns) (lo1 : (mo == sysModules) = false) (lo2 : (mf == sysModules) = false) (lo3 : (fd == sysModules) = false)
   (hd1 : moo.IsDictOf (strKind prog w) (modK mr mn mp mf)) (hd2 : mfo.IsDictOf (intKind prog w) mkvs) (hd3 : fo.IsDictOf (intKind prog w) kvs)
   (sub : ∀ p ∈ fz, p ∈ news) (hrows : RowsOk w.params fz vs) (hz : 4 ≤ vs.length) (hz2 : vs.length ≤ 900) (hz3 : kvs.length ≤ 800) (hz4 : mkvs.length ≤ 800)
   (R : CellsRel w.params fz vs kvs (fn3 f)) (M : ModRel fz mkvs (fn3 f)) (ok : okF f.1 f.2.1 f.2.2 = true)
   (A : Aps [dk, tab, tabD, rl, mo, mf, ce, ceD, fd]) (off : Off dk news ∧ Off tab news ∧ Off tabD news ∧ Off rl news ∧ Off mo news ∧ Off mf news ∧ Off ce news ∧ Off ceD news ∧ Off fd news)
   (ret : ∀ dvs' dns' dn' kvs' mkvs' f' mfo' fo' new h' tk', Fr h₀ L h' m → News h₀ L h' ((dk, lst dvs' dn') :: (tab, instObj 272 tabD) :: (tabD, tabO w.params rl nd t1 t2) :: (rl, lst vs n) :: (mo, moo) :: (mf, mfo') :: (ce, instObj 197 ceD) :: (ceD, celO w.params fd pd t3 t4) :: (fd, fo') :: (new ++ news)) →
     IntsAre dvs' dns' → Low dns' → mfo'.IsDictOf (intKind prog w) mkvs' → fo'.IsDictOf (intKind prog w) kvs' → CellsRel w.params fz vs kvs' (fn3 f') → ModRel (new ++ fz) mkvs' (fn3 f') → okF f'.1 f'.2.1 f'.2.2 = true → kvs'.length ≤ kvs.length + 1 → mkvs'.length ≤ mkvs.length + 1 →
     Above new ((dk, lst dvs dn) :: (tab, instObj 272 tabD) :: (tabD, tabO w.params rl nd t1 t2) :: (rl, lst vs n) :: (mo, moo) :: (mf, mfo) :: (ce, instObj 197 ceD) :: (ceD, celO w.params fd pd t3 t4) :: (fd, fo) :: news) → Q (.bool true) { s with heap := h', toks := tk' }) :
   wpAny (model prog w) (ktrTop dp un gd cn cs L a ccd [] []) (call (.ref 319) [.ref dk, .ref ce, .ref tab, .ref mo]) Q E s := Ep_function_deed.all (prog, w, p, loose, mean, mg, mb, dp, un, gd, cn, cs, a, ccd, A₀, base, h₀, L, m, news, fz, s, Q, E, dk, tab, tabD, rl, mo, mr, mn, mp, mf, ce, ceD, fd, pd, nd, t1, t2, t3, t4, moo, mfo, fo, vs, dvs, dns, dn, n, kvs, mkvs, f) B F X N T XB TB hk hdp hun hv hn lo1 lo2 lo3 hd1 hd2 hd3 sub hrows hz hz2 hz3 hz4 R M ok A off ret
end
end Mine
end PartG6
section PartQ1
open PySem PySem.W PyProof.Rows PySem.Calls PySem.Spec Mine
set_option maxHeartbeats 4000000
namespace Mine
section
variable {prog : Program} {w : World} {p : Program} {loose : List Str} {mean : ExcName → Option Value} {mg mb : Str → Option Value}
 {dp un : Nat} {gd : Option (List Code)} {cn : Str} {cs : Scope} {a : Addr} {ccd : Value} {cl : List (Str × Addr)} {outer : List Env} {A₀ : Around} {base h₀ : Heap} {L : Addr} {m : Str → Option Value} {news fz : List (Addr × Obj)} {s : Shared} {Q E : Value → Shared → Prop}
variable {tab tabD rl nd : Addr} {t1 t2 : Tok} {vs : List Value} {n : Nat}
theorem by_number_any {k : Int} {tk : Tok} (B : Below A₀ base outer h₀) (F : Fr h₀ L s.heap m) (X : (Mine.K w.params).In h₀) (N : News h₀ L s.heap ((tab, instObj 272 tabD) :: (tabD, tabO w.params rl nd t1 t2) :: (rl, lst vs n) :: news)) (T : Top p loose mean mg mb h₀) (hk : cs.kind = .function) (hdp : dp ≤ 500) (hun : un ≤ 600)
   (R : RowsOk w.params fz vs) (h0 : 0 ≤ k) (h1 : k < vs.length) (hz : 4 ≤ vs.length) (hz2 : vs.length ≤ 900)
   (ret : ∀ x nm i h' tk', k = ((i : Nat) : Int) → i < vs.length → vs[i]? = some (.ref x) → SymOf w.params fz x i nm → nm ∈ allNames → Fr h₀ L h' m → News h₀ L h' ((tab, instObj 272 tabD) :: (tabD, tabO w.params rl nd t1 t2) :: (rl, lst vs n) :: news) → Q (.ref x) { s with heap := h', toks := tk' }) :
   wpAny (model prog w) (ktrTop dp un gd cn cs L a ccd cl outer) (call (.ref 243) [.ref tab, .int k tk]) Q E s := Mine.byKey fun kzq9 => Mine.Fam.of (by exact Mine.Fam.mk : Mine.Fam ((Mine.Key.unbox kzq9 (by simp only [Mine.Key.box kzq9 (by
  clear kzq9
  obtain ⟨x, nm, hx, S, hall⟩ := R k.toNat (by omega)
  refine wcall ?_
  k_dflt (k_extra "MY enter")
  clear F N
  k_steps
  exact ret x nm k.toNat _ _ (by omega) (by omega) hx S hall (by assumption) (by assumption))])) :))
end
end Mine
end PartQ1
section PartH2
open PySem PySem.W PyProof.Rows PySem.Calls PySem.Spec Mine
set_option maxHeartbeats 4000000
namespace Mine
section
variable {prog : Program} {w : World} {A : Around} {E : Value → Shared → Prop} {s : Shared} {h₀ : Heap} {L : Addr} {m : Str → Option Value} {news fz : List (Addr × Obj)} {p : Program} {loose : List Str} {mean : ExcName → Option Value} {mg mb : Str → Option Value}
theorem booked {h : Heap} (X : (Mine.K w.params).In h) (T : Top p loose mean mg mb h) : NoneBooked h := by
  obtain ⟨mc, hn, _⟩ := T.nolimit
  exact ⟨mc, hn, ns_none_of X hn (by k_is)⟩
/-- two ints: never one object unless equal, where no token tells otherwise -/
theorem is_ints {i j : Int} {t u : Tok} {Q : Value → Shared → Prop} (F : Fr h₀ L s.heap m) (X : (Mine.K w.params).In h₀) (T : Top p loose mean mg mb h₀) (h1 : t ≠ 0) (h2 : u ≠ 0) (hd : i = j ∨ t ≠ u)
    (h : ∀ b, (b = true → i = j) → Q (.bool b) s) : wpAny (model prog w) A (compareOp .Is (.int i t) (.int j u)) Q E s := by
  have hb : NoneBooked s.heap := booked (w := w) (X.keeps F.keep) (T.keeps F.keep)
  have h0 : (t == 0 || u == 0) = false := by simp [h1, h2]
  show wpAny _ A (do return .bool (← isSame (.int i t) (.int j u))) Q E s
  have fin : ∀ b, (b = true → i = j) → wpAny (model prog w) A (pure (.bool b) : Sem Value) Q E s := fun b hq => wpAny_pure (h b hq)
  refine wpAny_bind ?_
  show wpAny _ A (if i == j && smallInt i then isSame.cachedInt t u else isSame.created (i == j) t u) _ E s
  split
  · rename_i hc
    unfold isSame.cachedInt
    rw [if_neg (by rw [h0]; decide)]
    refine wpAny_bind (wpAny_rule (wpAny_pure (fin true fun _ => ?_)))
    simp only [Bool.and_eq_true, beq_iff_eq] at hc
    exact hc.1
  · unfold isSame.created
    refine wpAny_ite ?_
    split
    · rename_i h; rw [h0] at h; exact absurd h Bool.false_ne_true
    refine wpAny_ite ?_
    split
    · rename_i h3
      refine wpAny_pure (fin _ fun _ => ?_)
      rcases hd with e | e
      · exact e
      · exact absurd (beq_iff_eq.mp h3) e
    refine wpAny_ite ?_
    split
    · exact wpAny_pure (fin _ (by intro q; cases q))
    rename_i h4
    have hij : i = j := by simpa using h4
    refine wpAny_bind (wpAny_sharingNotTold_none hb ?_)
    first | rw [if_neg Bool.false_ne_true] | simp only [Bool.false_eq_true, if_false]
    refine wpAny_bind (wpAny_sharingNotTold_none hb ?_)
    first | rw [if_neg Bool.false_ne_true] | simp only [Bool.false_eq_true, if_false]
    exact wpAny_bind (wpAny_rule (wpAny_bind (wpAny_askSetting (wpAny_pure (fin _ fun _ => hij)))))
end
section
variable {prog : Program} {w : World} {p : Program} {loose : List Str} {mean : ExcName → Option Value} {mg mb : Str → Option Value}
 {dp un : Nat} {gd : Option (List Code)} {cn : Str} {cs : Scope} {a : Addr} {ccd : Value} {cl : List (Str × Addr)} {outer : List Env} {A₀ : Around} {base h₀ : Heap} {L : Addr} {m : Str → Option Value} {news : List (Addr × Obj)} {s : Shared} {Q E : Value → Shared → Prop}
variable {ce ceD fd pd : Addr} {t1 t2 : Tok} {po : Obj} {vs : List Value} {kvs : List (Int × Value)} {x : Addr} {i : Nat} {nm : Str}
theorem plist_of_ok {v : Option Value}
   (B : Below A₀ base outer h₀) (F : Fr h₀ L s.heap m) (X : (Mine.K w.params).In h₀) (N : News h₀ L s.heap ((ce, instObj 197 ceD) :: (ceD, celO w.params fd pd t1 t2) :: (pd, po) :: news)) (T : Top p loose mean mg mb h₀) (hk : cs.kind = .function) (hdp : dp ≤ 500) (hun : un ≤ 600)
   (lo : (pd == sysModules) = false) (hd : po.IsDictOf (intKind prog w) kvs) (hv : valueAt kvs (i : Int) = v) (S : SymOf w.params news x i nm)
   (ret : ∀ h' tk', Fr h₀ L h' m → News h₀ L h' ((ce, instObj 197 ceD) :: (ceD, celO w.params fd pd t1 t2) :: (pd, po) :: news) → Q (v.getD (.ref 78)) { s with heap := h', toks := tk' }) :
   wpAny (model prog w) (ktrTop dp un gd cn cs L a ccd cl outer) (call (.ref 166) [.ref ce, .ref x]) Q E s := Mine.byKey fun kzq9 => Mine.Fam.of (by exact Mine.Fam.mk : Mine.Fam ((Mine.Key.unbox kzq9 (by simp only [Mine.Key.box kzq9 (by
  clear kzq9
  refine wcall ?_
  k_dflt (k_extra "MY enter")
  clear F N
  cases v with
  | none =>
    k_steps
    exact ret _ _ (by assumption) (by assumption)
  | some v =>
    k_steps
    exact ret _ _ (by assumption) (by assumption))])) :))
end
end Mine
end PartH2
section PartH3
open PySem PySem.W PyProof.Rows PySem.Calls PySem.Spec Mine
set_option maxHeartbeats 4000000
namespace Mine
inductive AtS2 (h₀ : Heap) (L : Addr) (s : Shared) (x y : Str) (M₀ : Str → Option Value) (news : List (Addr × Obj)) (J : Nat → Value → Value → Prop) (n : Nat) (s₃ : Shared) : Prop
  | mk (h' : Heap) (tk : Nat) (m' : Str → Option Value) (v' u' : Value) (n' : Nat) (e : s₃ = { s with heap := h', toks := tk }) (F : Fr h₀ L h' m') (N : News h₀ L h' news) (hn : n' < n) (j : J n' v' u') (e1 : m' x = some v') (e2 : m' y = some u') (e3 : ∀ z, z ≠ x → z ≠ y → m' z = M₀ z)
/-- a turn's end where two names are stored -/
noncomputable def AtStep2 (h₀ : Heap) (L : Addr) (s : Shared) (x y : Str) (M₀ : Str → Option Value) (news : List (Addr × Obj)) (J : Nat → Value → Value → Prop) (Q : Flow → Shared → Prop) (n : Nat) (f : Flow) (s₃ : Shared) : Prop :=
  match f with
  | .next | .cont => AtS2 h₀ L s x y M₀ news J n s₃
  | .brk => Q .next s₃
  | .ret v => Q (.ret v) s₃
section
variable {prog : Program} {w : World} {A : Around} {E : Value → Shared → Prop} {Q : Flow → Shared → Prop} {s : Shared} {env : Env} {h₀ : Heap} {L : Addr}
theorem While_at2 {test : PySem.Expr} {body : List Stmt} {pos : Pos} {x y : Str} {v₀ u₀ : Value} {m M₀ : Str → Option Value} {news : List (Addr × Obj)} (J : Nat → Value → Value → Prop) {n₀ : Nat}
    (F : Fr h₀ L s.heap m) (e1 : m x = some v₀) (e2 : m y = some u₀) (e3 : ∀ z, z ≠ x → z ≠ y → m z = M₀ z) (N : News h₀ L s.heap news) (hJ : J n₀ v₀ u₀)
    (turn : ∀ n v u h₁ tk₁, Fr h₀ L h₁ (fun z => if z = x then some v else if z = y then some u else M₀ z) → News h₀ L h₁ news → J n v u →
      wpAny (model prog w) A (isTrue test env (eval test env)) (fun b s₂ =>
        if b = true then wpAny (model prog w) A (execs body env) (AtStep2 h₀ L s x y M₀ news J Q n) E s₂ else Q .next s₂) E { s with heap := h₁, toks := tk₁ })
    (hxy : y ≠ x) (hE : PassesOwn (model prog w) A env E := by passes_own) :
    wpAny (model prog w) A (exec (.While test body [] pos) env) Q E s := by
  have norm : ∀ {m' : Str → Option Value} {v u : Value}, m' x = some v → m' y = some u → (∀ z, z ≠ x → z ≠ y → m' z = M₀ z) → m' = fun z => if z = x then some v else if z = y then some u else M₀ z := by
    intro m' v u e1 e2 e3
    funext z
    by_cases h1 : z = x
    · subst h1; simp [e1]
    · by_cases h2 : z = y
      · subst h2; simp [h1, e2]
      · simp [h1, h2, e3 z h1 h2]
  refine While_inv2 (fun n m₁ news₁ => news₁ = news ∧ ∃ v u, J n v u ∧ m₁ = fun z => if z = x then some v else if z = y then some u else M₀ z) F N ⟨rfl, v₀, u₀, hJ, norm e1 e2 e3⟩ (fun n m₁ news₁ h₁ tk₁ F₁ N₁ J₁ => ?_) hE
  obtain ⟨rfl, v, u, hv, rfl⟩ := J₁
  refine wpAny_mono (turn n v u h₁ tk₁ F₁ N₁ hv) (fun b s₂ h₂ => ?_) fun _ _ e => e
  have fin : ∀ {s₃}, AtS2 h₀ L s x y M₀ news₁ J n s₃ →
      ∃ h' tk m' news₂ n', s₃ = { s with heap := h', toks := tk } ∧ Fr h₀ L h' m' ∧ News h₀ L h' news₂ ∧ n' < n ∧ (news₂ = news₁ ∧ ∃ v u, J n' v u ∧ m' = fun z => if z = x then some v else if z = y then some u else M₀ z) := by
    rintro s₃ ⟨h', tk, m', v', u', n', e, F₂, N₂, hn, J₂, e1, e2, e3⟩
    exact ⟨h', tk, m', news₁, n', e, F₂, N₂, hn, rfl, v', u', J₂, norm e1 e2 e3⟩
  cases b with
  | false => simpa using h₂
  | true =>
    simp only [if_true] at h₂ ⊢
    refine wpAny_mono h₂ (fun f s₃ h₃ => ?_) fun _ _ e => e
    cases f with
    | next => exact fin h₃
    | cont => exact fin h₃
    | brk => exact h₃
    | ret v => exact h₃
end
theorem Mine.regH31 : True := by
  k_with "exec While BoolOp" => (guard_hyp fl9 : Mine.Fl 34; ((k_here; refine Hold.out ?_)))
  k_with "call ref" => (guard_hyp fl9 : Mine.Fl 34; ((k_here; (with_reducible show wpAny _ _ (call (Value.ref 166) _) _ _ _); refine Hold.out ?_)))
  exact trivial
/-- what the search for a key needs to know of the keys it meets -/
noncomputable def Meet (xA : Addr) (k' : Nat) (kv' : Value) (k : Nat) (kv : Value) : Prop := KeyV xA k kv ∧ (k = k' ∨ tokOf kv ≠ tokOf kv' ∨ tokOf kv = 0)
section
variable {prog : Program} {w : World} {p : Program} {loose : List Str} {mean : ExcName → Option Value} {mg mb : Str → Option Value}
 {dp un : Nat} {gd : Option (List Code)} {cn : Str} {cs : Scope} {a : Addr} {ccd : Value} {cl : List (Str × Addr)} {outer : List Env} {A₀ : Around} {base h₀ : Heap} {L : Addr} {m : Str → Option Value} {news : List (Addr × Obj)} {s : Shared} {Q E : Value → Shared → Prop}
variable {ce ceD fd pd xA : Addr} {t1 t2 : Tok} {po : Obj} {kvs : List (Int × Value)} {x : Addr} {i : Nat} {nm : Str}
theorem is_key {A : Around} {k k' : Nat} {kv kv' : Value} (F : Fr h₀ L s.heap m) (X : (Mine.K w.params).In h₀) (N : News h₀ L s.heap news) (T : Top p loose mean mg mb h₀) (SX : SymOf w.params news xA 2 "x")
    (hk : KeyV xA k' kv') (hm : Meet xA k' kv' k kv)
    (h : ∀ b, (b = true → k = k') → (k = k' → (∃ a, kv = .ref a) → b = true) → Q (.bool b) s) : wpAny (model prog w) A (compareOp .Is kv kv') Q E s := by
  obtain ⟨h1, h2⟩ := hm
  have ST : SymOf w.params news 81 1 "t" := .inr (.inl ⟨rfl, rfl, rfl⟩)
  rcases h1 with ⟨rfl, rfl⟩ | ⟨rfl, t, rfl, ht⟩ | ⟨rfl, rfl⟩ | ⟨rfl, t, rfl, ht⟩ <;> rcases hk with ⟨rfl, rfl⟩ | ⟨rfl, u, rfl, hu⟩ | ⟨rfl, rfl⟩ | ⟨rfl, u, rfl, hu⟩
  · exact wpAny_is_ref_self (h _ (fun _ => rfl) fun _ _ => rfl)
  · exact wpAny_is_other rfl (by intro h9; cases h9) (h _ (by intro q; cases q) (by intro q; cases q))
  · refine is_sym F X N ST SX (fun _ h => h) (h _ (fun q => ?_) (by intro q; cases q))
    have e := sym_inj F X N ST (by rw [of_decide_eq_true q]; exact SX) (fun _ h => h)
    exact absurd e.1 (by decide)
  · exact wpAny_is_other rfl (by intro h9; cases h9) (h _ (by intro q; cases q) (by intro q; cases q))
  · exact wpAny_is_other rfl (by intro h9; cases h9) (h _ (by intro q; cases q) (by intro q; cases q))
  · exact is_ints F X T ht hu (.inl rfl) fun b hb => h b (fun _ => rfl) (by rintro - ⟨a, q⟩; cases q)
  · exact wpAny_is_other rfl (by intro h9; cases h9) (h _ (by intro q; cases q) (by intro q; cases q))
  · refine is_ints F X T ht hu (.inr ?_) fun b hb => h b (fun q => absurd (hb q) (by decide)) (by intro q; cases q)
    rcases h2 with q | q | q
    · cases q
    · exact q
    · exact absurd q ht
  · refine is_sym F X N SX ST (fun _ h => h) (h _ (fun q => ?_) (by intro q; cases q))
    have e := sym_inj F X N SX (by rw [of_decide_eq_true q]; exact ST) (fun _ h => h)
    exact absurd e.1 (by decide)
  · exact wpAny_is_other rfl (by intro h9; cases h9) (h _ (by intro q; cases q) (by intro q; cases q))
  · exact wpAny_is_ref_self (h _ (fun _ => rfl) fun _ _ => rfl)
  · exact wpAny_is_other rfl (by intro h9; cases h9) (h _ (by intro q; cases q) (by intro q; cases q))
  · exact wpAny_is_other rfl (by intro h9; cases h9) (h _ (by intro q; cases q) (by intro q; cases q))
  · refine is_ints F X T ht hu (.inr ?_) fun b hb => h b (fun q => absurd (hb q) (by decide)) (by intro q; cases q)
    rcases h2 with q | q | q
    · cases q
    · exact q
    · exact absurd q ht
  · exact wpAny_is_other rfl (by intro h9; cases h9) (h _ (by intro q; cases q) (by intro q; cases q))
  · exact is_ints F X T ht hu (.inl rfl) fun b hb => h b (fun _ => rfl) (by rintro - ⟨a, q⟩; cases q)
end
end Mine
end PartH3
section PartH4
open PySem PySem.W PyProof.Rows PySem.Calls PySem.Spec Mine
set_option maxHeartbeats 4000000
namespace Mine
theorem newsMore {h₀ h : Heap} {L : Addr} {led : List (Addr × Obj)} (N : News h₀ L h led) (ex : List (Addr × Obj)) (hs : ∀ p ∈ ex, p ∈ led) : News h₀ L h (ex ++ led) := fun q hq => by
  rcases List.mem_append.mp hq with hq | hq
  · exact N _ (hs _ hq)
  · exact N _ hq
noncomputable def isIntV : Value → Bool | .int _ _ => true | _ => false
section
variable {prog : Program} {w : World} {A : Around} {E : Value → Shared → Prop} {s : Shared} {h₀ : Heap} {L : Addr} {m : Str → Option Value} {news : List (Addr × Obj)} {Q : Value → Shared → Prop} {xA : Addr} {k k' : Nat} {kv kv' : Value}
theorem isi_sym_int {x : Addr} {i : Nat} {nm : Str} (F : Fr h₀ L s.heap m) (X : (Mine.K w.params).In h₀) (N : News h₀ L s.heap news) (S : SymOf w.params news x i nm) (h : Q (.bool false) { s with toks := s.toks + 1 }) :
    wpAny (model prog w) A (call (.builtin "isinstance") [.ref x, .type "int"]) Q E s := by
  obtain ⟨dx, u1, u2, u3, u4, I⟩ := sym_inst F X N S (fun _ h => h)
  exact kin_callT (X.keeps F.keep) I (by kin_no) (by kernel_rfl) (by k_is) (by k_is) (by k_is) (by k_is) (by k_is) (by k_is) h
theorem isi_key (F : Fr h₀ L s.heap m) (X : (Mine.K w.params).In h₀) (N : News h₀ L s.heap news) (SX : SymOf w.params news xA 2 "x") (hk : KeyV xA k kv) (h : ∀ tk, Q (.bool (isIntV kv)) { s with toks := tk }) :
    wpAny (model prog w) A (call (.builtin "isinstance") [kv, .type "int"]) Q E s := Mine.byKey fun kzq9 => Mine.Fam.of (by exact Mine.Fam.mk : Mine.Fam ((Mine.Key.unbox kzq9 (by simp only [Mine.Key.box kzq9 (by
  clear kzq9
  have fl9 : Mine.Fl 35 := Mine.Fl.mk
  rcases hk with ⟨rfl, rfl⟩ | ⟨rfl, t, rfl, ht⟩ | ⟨rfl, rfl⟩ | ⟨rfl, t, rfl, ht⟩
  · exact isi_sym_int F X N (.inr (.inl ⟨rfl, rfl, rfl⟩)) (h _)
  · walk1; exact h _
  · exact isi_sym_int F X N SX (h _)
  · walk1; exact h _)])) :))
theorem eq_key (hk : KeyV xA k kv) (hk' : KeyV xA k' kv') (h1 : isIntV kv = true) (h2 : isIntV kv' = true) (h : Q (.bool (decide (k = k'))) s) :
    wpAny (model prog w) A (compareOp .Eq kv kv') Q E s := Mine.byKey fun kzq9 => Mine.Fam.of (by exact Mine.Fam.mk : Mine.Fam ((Mine.Key.unbox kzq9 (by simp only [Mine.Key.box kzq9 (by
  clear kzq9
  have fl9 : Mine.Fl 35 := Mine.Fl.mk
  rcases hk with ⟨rfl, rfl⟩ | ⟨rfl, t, rfl, ht⟩ | ⟨rfl, rfl⟩ | ⟨rfl, t, rfl, ht⟩ <;> rcases hk' with ⟨rfl, rfl⟩ | ⟨rfl, u, rfl, hu⟩ | ⟨rfl, rfl⟩ | ⟨rfl, u, rfl, hu⟩ <;> first | (exfalso; cases h1; done) | (exfalso; cases h2; done) | (walk1; exact h))])) :))
end
theorem Mine.regH41 : True := by
  k_with "call builtin:isinstance" => (guard_hyp fl9 : Mine.Fl 35; ((k_here; (with_reducible show wpAny _ _ (call _ [_, Value.type _]) _ _ _); k_dflt (refine isi_key (by k_asm) (by k_asm) (by k_asm) (by assumption) (by assumption) ?_); intro tk9)))
  k_with "compareOp Eq" => (guard_hyp fl9 : Mine.Fl 35; ((k_here; k_dflt (refine eq_key (by assumption) (by assumption) (by assumption) (by assumption) ?_))))
  k_with "exec While BoolOp" => (guard_hyp fl9 : Mine.Fl 35; ((k_here; refine Hold.out ?_)))
  k_with "call ref" => (guard_hyp fl9 : Mine.Fl 35; ((k_here; (with_reducible show wpAny _ _ (call (Value.ref 166) _) _ _ _); refine Hold.out ?_)))
  k_with "compareOp Is" => (guard_hyp fl9 : Mine.Fl 35; ((k_here; k_dflt (refine is_key (by k_asm) (by k_asm) (by k_asm) (by k_asm) (by assumption) (by assumption) (by assumption) ?_); intro b9 hb9 hb8)))
  exact trivial
theorem handed_key {xA : Addr} {k : Nat} {v : Value} (h : KeyV xA k v) : handedIn v = true := by
  rcases h with ⟨rfl, rfl⟩ | ⟨rfl, t, rfl, ht⟩ | ⟨rfl, rfl⟩ | ⟨rfl, t, rfl, ht⟩ <;> rfl
section
variable {prog : Program} {w : World} {A : Around} {E : Value → Shared → Prop} {s : Shared} {h₀ : Heap} {L : Addr} {m : Str → Option Value} {news : List (Addr × Obj)} {Q : Value → Shared → Prop} {expr : Bool}
theorem get_car {c d : Addr} {a nx : Value} {t1 t2 : Tok} (F : Fr h₀ L s.heap m) (X : (Mine.K w.params).In h₀) (N : News h₀ L s.heap news) (h1 : (c, instObj 99 d) ∈ news) (h2 : (d, consO w.params a nx t1 t2) ∈ news) (hh : handedIn a = true)
    (h : Q a { s with toks := s.toks + 1 }) : wpAny (model prog w) A (getAttr (.ref c) "car" expr) Q E s :=
  get_own F X (InstAt.of_news N h1 h2) (by k_is) (by k_is) (by k_is) (by k_is) (by k_get) hh h
theorem get_cdr {c d : Addr} {a nx : Value} {t1 t2 : Tok} (F : Fr h₀ L s.heap m) (X : (Mine.K w.params).In h₀) (N : News h₀ L s.heap news) (h1 : (c, instObj 99 d) ∈ news) (h2 : (d, consO w.params a nx t1 t2) ∈ news) (hh : handedIn nx = true)
    (h : Q nx { s with toks := s.toks + 1 }) : wpAny (model prog w) A (getAttr (.ref c) "cdr" expr) Q E s :=
  get_own F X (InstAt.of_news N h1 h2) (by k_is) (by k_is) (by k_is) (by k_is) (by k_get) hh h
end
theorem Mine.regH42 : True := by
  k_with "getAttr ref" => (guard_hyp fl9 : Mine.Fl 35; ((k_here; (with_reducible show wpAny _ _ (getAttr (Value.ref _) (Str.ofString "car") _) _ _ _); k_dflt (refine get_car (by k_asm) (by k_asm) (by k_asm) (by k_mem) (by k_mem) (by first | rfl | assumption) ?_))))
  k_with "getAttr ref" => (guard_hyp fl9 : Mine.Fl 35; ((k_here; (with_reducible show wpAny _ _ (getAttr (Value.ref _) (Str.ofString "cdr") _) _ _ _); k_dflt (refine get_cdr (by k_asm) (by k_asm) (by k_asm) (by k_mem) (by k_mem) (by first | rfl | assumption) ?_))))
  exact trivial
section
variable {prog : Program} {w : World} {p : Program} {loose : List Str} {mean : ExcName → Option Value} {mg mb : Str → Option Value}
 {dp un : Nat} {gd : Option (List Code)} {cn : Str} {cs : Scope} {a : Addr} {ccd : Value} {cl : List (Str × Addr)} {outer : List Env} {A₀ : Around} {base h₀ : Heap} {L : Addr} {m : Str → Option Value} {news : List (Addr × Obj)} {s : Shared} {Q E : Value → Shared → Prop}
variable {ce ceD fd pd xA : Addr} {t1 t2 : Tok} {po : Obj} {kvs : List (Int × Value)} {x : Addr} {i : Nat} {nm : Str}
theorem key_same {xA : Addr} {k k' : Nat} {kv kv' : Value} (h1 : KeyV xA k kv) (h2 : KeyV xA k' kv') (e : k = k') : isIntV kv = isIntV kv' ∧ (isIntV kv = false → ∃ a, kv = .ref a) := by
  subst e
  rcases h1 with ⟨rfl, rfl⟩ | ⟨rfl, t, rfl, ht⟩ | ⟨rfl, rfl⟩ | ⟨rfl, t, rfl, ht⟩ <;> rcases h2 with ⟨h9, rfl⟩ | ⟨h9, u9, rfl, hu⟩ | ⟨h9, rfl⟩ | ⟨h9, u9, rfl, hu⟩ <;> first | exact absurd h9 (by decide) | exact ⟨rfl, fun _ => ⟨_, rfl⟩⟩ | exact ⟨rfl, fun h9 => by cases h9⟩
theorem drop_next {l : List (Addr × Obj)} {j : Nat} {a b c d : Addr × Obj} {l2 : List (Addr × Obj)} (h : l.drop (4 * j) = a :: b :: c :: d :: l2) : l2 = l.drop (4 * (j + 1)) ∧ l[2 * (2 * j + 1)]? = some c := by
  constructor
  · rw [show 4 * (j + 1) = 4 * j + 4 from rfl, ← List.drop_drop, h]
    rfl
  · have q : (l.drop (4 * j))[2]? = some c := by rw [h]; rfl
    rw [List.getElem?_drop] at q
    rw [← q]
    congr 1
    omega
theorem pos_here {k k' : Nat} {v : Int} {r r' : List (Nat × Int)} {j : Nat} (h : pos k' r = (pos k' ((k, v) :: r')).map (· + j)) : (k = k' → pos k' r = some j) ∧ (k ≠ k' → pos k' r = (pos k' r').map (· + (j + 1))) := by
  refine ⟨fun e => ?_, fun e => ?_⟩
  · rw [h]
    unfold pos
    rw [if_pos e]
    simp
  · rw [h]
    show Option.map _ (if k = k' then some 0 else (pos k' r').map (· + 1)) = _
    rw [if_neg e, Option.map_map]
    congr 1
    funext z
    exact Nat.add_right_comm z 1 j
end
namespace Ep_place_of_ok
noncomputable abbrev D : Type := (Program) × (World) × (Program) × (List Str) × (ExcName → Option Value) × (Str → Option Value) × (Str → Option Value) × (Nat) × (Nat) × (Option (List Code)) × (Str) × (Scope) × (Addr) × (Value) × (List (Str × Addr)) × (List Env) × (Around) × (Heap) × (Heap) × (Addr) × (Str → Option Value) × (List (Addr × Obj)) × (Shared) × (Value → Shared → Prop) × (Value → Shared → Prop) × (Addr) × (Addr) × (Addr) × (Addr) × (Addr) × (Tok) × (Tok) × (Obj) × (List (Int × Value)) × (Addr) × (Nat) × (Str) × (Option Value) × (Nat) × (Value) × (List Value) × (List Value) × (List (Nat × Int)) × (List (Addr × Obj))
noncomputable def S (d : D) : Prop := (fun (prog : Program) (w : World) (p : Program) (loose : List Str) (mean : ExcName → Option Value) (mg : Str → Option Value) (mb : Str → Option Value) (dp : Nat) (un : Nat) (gd : Option (List Code)) (cn : Str) (cs : Scope) (a : Addr) (ccd : Value) (cl : List (Str × Addr)) (outer : List Env) (A₀ : Around) (base : Heap) (h₀ : Heap) (L : Addr) (m : Str → Option Value) (news : List (Addr × Obj)) (s : Shared) (Q : Value → Shared → Prop) (E : Value → Shared → Prop) (ce : Addr) (ceD : Addr) (fd : Addr) (pd : Addr) (xA : Addr) (t1 : Tok) (t2 : Tok) (po : Obj) (kvs : List (Int × Value)) (x : Addr) (i : Nat) (nm : Str) (v : Option Value) (k' : Nat) (kv' : Value) (cars : List Value) (rs : List Value) (r : List (Nat × Int)) (l : List (Addr × Obj)) => ∀ (B : Below A₀ base outer h₀) (F : Fr h₀ L s.heap m) (X : (Mine.K w.params).In h₀) (N : News h₀ L s.heap ((ce, instObj 197 ceD) :: (ceD, celO w.params fd pd t1 t2) :: (pd, po) :: news)) (T : Top p loose mean mg mb h₀) (hk : cs.kind = .function) (hdp : dp ≤ 480) (hun : un ≤ 560) (lo : (pd == sysModules) = false) (hd : po.IsDictOf (intKind prog w) kvs) (hv : valueAt kvs (i : Int) = v) (S : SymOf w.params news x i nm) (C : Ch w.params (v.getD (.ref 78)) cars l) (sub : ∀ p ∈ l, p ∈ news) (R : PR (Meet xA k' kv') cars rs r) (hkv : KeyV xA k' kv') (SX : SymOf w.params news xA 2 "x") (hz : r.length ≤ 1000) (ret : ∀ res h' tk', (pos k' r = none ∧ res = .none ∨ ∃ j c d, pos k' r = some j ∧ res = .ref c ∧ l[2 * (2 * j + 1)]? = some (c, instObj 99 d)) → Fr h₀ L h' m → News h₀ L h' ((ce, instObj 197 ceD) :: (ceD, celO w.params fd pd t1 t2) :: (pd, po) :: news) → Q res { s with heap := h', toks := tk' }), wpAny (model prog w) (ktrTop dp un gd cn cs L a ccd cl outer) (call (.ref 180) [.ref ce, .ref x, kv']) Q E s) d.1 d.2.1 d.2.2.1 d.2.2.2.1 d.2.2.2.2.1 d.2.2.2.2.2.1 d.2.2.2.2.2.2.1 d.2.2.2.2.2.2.2.1 d.2.2.2.2.2.2.2.2.1 d.2.2.2.2.2.2.2.2.2.1 d.2.2.2.2.2.2.2.2.2.2.1 d.2.2.2.2.2.2.2.2.2.2.2.1 d.2.2.2.2.2.2.2.2.2.2.2.2.1 d.2.2.2.2.2.2.2.2.2.2.2.2.2.1 d.2.2.2.2.2.2.2.2.2.2.2.2.2.2.1 d.2.2.2.2.2.2.2.2.2.2.2.2.2.2.2.1 d.2.2.2.2.2.2.2.2.2.2.2.2.2.2.2.2.1 d.2.2.2.2.2.2.2.2.2.2.2.2.2.2.2.2.2.1 d.2.2.2.2.2.2.2.2.2.2.2.2.2.2.2.2.2.2.1 d.2.2.2.2.2.2.2.2.2.2.2.2.2.2.2.2.2.2.2.1 d.2.2.2.2.2.2.2.2.2.2.2.2.2.2.2.2.2.2.2.2.1 d.2.2.2.2.2.2.2.2.2.2.2.2.2.2.2.2.2.2.2.2.2.1 d.2.2.2.2.2.2.2.2.2.2.2.2.2.2.2.2.2.2.2.2.2.2.1 d.2.2.2.2.2.2.2.2.2.2.2.2.2.2.2.2.2.2.2.2.2.2.2.1 d.2.2.2.2.2.2.2.2.2.2.2.2.2.2.2.2.2.2.2.2.2.2.2.2.1 d.2.2.2.2.2.2.2.2.2.2.2.2.2.2.2.2.2.2.2.2.2.2.2.2.2.1 d.2.2.2.2.2.2.2.2.2.2.2.2.2.2.2.2.2.2.2.2.2.2.2.2.2.2.1 d.2.2.2.2.2.2.2.2.2.2.2.2.2.2.2.2.2.2.2.2.2.2.2.2.2.2.2.1 d.2.2.2.2.2.2.2.2.2.2.2.2.2.2.2.2.2.2.2.2.2.2.2.2.2.2.2.2.1 d.2.2.2.2.2.2.2.2.2.2.2.2.2.2.2.2.2.2.2.2.2.2.2.2.2.2.2.2.2.1 d.2.2.2.2.2.2.2.2.2.2.2.2.2.2.2.2.2.2.2.2.2.2.2.2.2.2.2.2.2.2.1 d.2.2.2.2.2.2.2.2.2.2.2.2.2.2.2.2.2.2.2.2.2.2.2.2.2.2.2.2.2.2.2.1 d.2.2.2.2.2.2.2.2.2.2.2.2.2.2.2.2.2.2.2.2.2.2.2.2.2.2.2.2.2.2.2.2.1 d.2.2.2.2.2.2.2.2.2.2.2.2.2.2.2.2.2.2.2.2.2.2.2.2.2.2.2.2.2.2.2.2.2.1 d.2.2.2.2.2.2.2.2.2.2.2.2.2.2.2.2.2.2.2.2.2.2.2.2.2.2.2.2.2.2.2.2.2.2.1 d.2.2.2.2.2.2.2.2.2.2.2.2.2.2.2.2.2.2.2.2.2.2.2.2.2.2.2.2.2.2.2.2.2.2.2.1 d.2.2.2.2.2.2.2.2.2.2.2.2.2.2.2.2.2.2.2.2.2.2.2.2.2.2.2.2.2.2.2.2.2.2.2.2.1 d.2.2.2.2.2.2.2.2.2.2.2.2.2.2.2.2.2.2.2.2.2.2.2.2.2.2.2.2.2.2.2.2.2.2.2.2.2.1 d.2.2.2.2.2.2.2.2.2.2.2.2.2.2.2.2.2.2.2.2.2.2.2.2.2.2.2.2.2.2.2.2.2.2.2.2.2.2.1 d.2.2.2.2.2.2.2.2.2.2.2.2.2.2.2.2.2.2.2.2.2.2.2.2.2.2.2.2.2.2.2.2.2.2.2.2.2.2.2.1 d.2.2.2.2.2.2.2.2.2.2.2.2.2.2.2.2.2.2.2.2.2.2.2.2.2.2.2.2.2.2.2.2.2.2.2.2.2.2.2.2.1 d.2.2.2.2.2.2.2.2.2.2.2.2.2.2.2.2.2.2.2.2.2.2.2.2.2.2.2.2.2.2.2.2.2.2.2.2.2.2.2.2.2.1 d.2.2.2.2.2.2.2.2.2.2.2.2.2.2.2.2.2.2.2.2.2.2.2.2.2.2.2.2.2.2.2.2.2.2.2.2.2.2.2.2.2.2.1 d.2.2.2.2.2.2.2.2.2.2.2.2.2.2.2.2.2.2.2.2.2.2.2.2.2.2.2.2.2.2.2.2.2.2.2.2.2.2.2.2.2.2.2
theorem ne : Nonempty D := ⟨(default, Mine.w00, default, default, (fun _ => default), (fun _ => default), (fun _ => default), default, default, default, default, default, default, default, default, default, ({} : Around), default, default, default, (fun _ => default), default, ({} : Shared), (fun _ _ => True), (fun _ _ => True), default, default, default, default, default, default, default, default, default, default, default, default, default, default, default, default, default, default, default)⟩
noncomputable def X : D := @Classical.epsilon D ne fun d => ¬ S d
@[irreducible] noncomputable def prog : Program := X.1
@[irreducible] noncomputable def w : World := X.2.1
@[irreducible] noncomputable def p : Program := X.2.2.1
@[irreducible] noncomputable def loose : List Str := X.2.2.2.1
@[irreducible] noncomputable def mean : ExcName → Option Value := X.2.2.2.2.1
@[irreducible] noncomputable def mg : Str → Option Value := X.2.2.2.2.2.1
@[irreducible] noncomputable def mb : Str → Option Value := X.2.2.2.2.2.2.1
@[irreducible] noncomputable def dp : Nat := X.2.2.2.2.2.2.2.1
@[irreducible] noncomputable def un : Nat := X.2.2.2.2.2.2.2.2.1
@[irreducible] noncomputable def gd : Option (List Code) := X.2.2.2.2.2.2.2.2.2.1
@[irreducible] noncomputable def cn : Str := X.2.2.2.2.2.2.2.2.2.2.1
@[irreducible] noncomputable def cs : Scope := X.2.2.2.2.2.2.2.2.2.2.2.1
@[irreducible] noncomputable def a : Addr := X.2.2.2.2.2.2.2.2.2.2.2.2.1
@[irreducible] noncomputable def ccd : Value := X.2.2.2.2.2.2.2.2.2.2.2.2.2.1
@[irreducible] noncomputable def cl : List (Str × Addr) := X.2.2.2.2.2.2.2.2.2.2.2.2.2.2.1
@[irreducible] noncomputable def outer : List Env := X.2.2.2.2.2.2.2.2.2.2.2.2.2.2.2.1
@[irreducible] noncomputable def A₀ : Around := X.2.2.2.2.2.2.2.2.2.2.2.2.2.2.2.2.1
@[irreducible] noncomputable def base : Heap := X.2.2.2.2.2.2.2.2.2.2.2.2.2.2.2.2.2.1
@[irreducible] noncomputable def h₀ : Heap := X.2.2.2.2.2.2.2.2.2.2.2.2.2.2.2.2.2.2.1
@[irreducible] noncomputable def L : Addr := X.2.2.2.2.2.2.2.2.2.2.2.2.2.2.2.2.2.2.2.1
@[irreducible] noncomputable def m : Str → Option Value := X.2.2.2.2.2.2.2.2.2.2.2.2.2.2.2.2.2.2.2.2.1
@[irreducible] noncomputable def news : List (Addr × Obj) := X.2.2.2.2.2.2.2.2.2.2.2.2.2.2.2.2.2.2.2.2.2.1
@[irreducible] noncomputable def s : Shared := X.2.2.2.2.2.2.2.2.2.2.2.2.2.2.2.2.2.2.2.2.2.2.1
@[irreducible] noncomputable def Q : Value → Shared → Prop := X.2.2.2.2.2.2.2.2.2.2.2.2.2.2.2.2.2.2.2.2.2.2.2.1
@[irreducible] noncomputable def E : Value → Shared → Prop := X.2.2.2.2.2.2.2.2.2.2.2.2.2.2.2.2.2.2.2.2.2.2.2.2.1
@[irreducible] noncomputable def ce : Addr := X.2.2.2.2.2.2.2.2.2.2.2.2.2.2.2.2.2.2.2.2.2.2.2.2.2.1
@[irreducible] noncomputable def ceD : Addr := X.2.2.2.2.2.2.2.2.2.2.2.2.2.2.2.2.2.2.2.2.2.2.2.2.2.2.1
@[irreducible] noncomputable def fd : Addr := X.2.2.2.2.2.2.2.2.2.2.2.2.2.2.2.2.2.2.2.2.2.2.2.2.2.2.2.1
@[irreducible] noncomputable def pd : Addr := X.2.2.2.2.2.2.2.2.2.2.2.2.2.2.2.2.2.2.2.2.2.2.2.2.2.2.2.2.1
@[irreducible] noncomputable def xA : Addr := X.2.2.2.2.2.2.2.2.2.2.2.2.2.2.2.2.2.2.2.2.2.2.2.2.2.2.2.2.2.1
@[irreducible] noncomputable def t1 : Tok := X.2.2.2.2.2.2.2.2.2.2.2.2.2.2.2.2.2.2.2.2.2.2.2.2.2.2.2.2.2.2.1
@[irreducible] noncomputable def t2 : Tok := X.2.2.2.2.2.2.2.2.2.2.2.2.2.2.2.2.2.2.2.2.2.2.2.2.2.2.2.2.2.2.2.1
@[irreducible] noncomputable def po : Obj := X.2.2.2.2.2.2.2.2.2.2.2.2.2.2.2.2.2.2.2.2.2.2.2.2.2.2.2.2.2.2.2.2.1
@[irreducible] noncomputable def kvs : List (Int × Value) := X.2.2.2.2.2.2.2.2.2.2.2.2.2.2.2.2.2.2.2.2.2.2.2.2.2.2.2.2.2.2.2.2.2.1
@[irreducible] noncomputable def x : Addr := X.2.2.2.2.2.2.2.2.2.2.2.2.2.2.2.2.2.2.2.2.2.2.2.2.2.2.2.2.2.2.2.2.2.2.1
@[irreducible] noncomputable def i : Nat := X.2.2.2.2.2.2.2.2.2.2.2.2.2.2.2.2.2.2.2.2.2.2.2.2.2.2.2.2.2.2.2.2.2.2.2.1
@[irreducible] noncomputable def nm : Str := X.2.2.2.2.2.2.2.2.2.2.2.2.2.2.2.2.2.2.2.2.2.2.2.2.2.2.2.2.2.2.2.2.2.2.2.2.1
@[irreducible] noncomputable def v : Option Value := X.2.2.2.2.2.2.2.2.2.2.2.2.2.2.2.2.2.2.2.2.2.2.2.2.2.2.2.2.2.2.2.2.2.2.2.2.2.1
@[irreducible] noncomputable def k' : Nat := X.2.2.2.2.2.2.2.2.2.2.2.2.2.2.2.2.2.2.2.2.2.2.2.2.2.2.2.2.2.2.2.2.2.2.2.2.2.2.1
@[irreducible] noncomputable def kv' : Value := X.2.2.2.2.2.2.2.2.2.2.2.2.2.2.2.2.2.2.2.2.2.2.2.2.2.2.2.2.2.2.2.2.2.2.2.2.2.2.2.1
@[irreducible] noncomputable def cars : List Value := X.2.2.2.2.2.2.2.2.2.2.2.2.2.2.2.2.2.2.2.2.2.2.2.2.2.2.2.2.2.2.2.2.2.2.2.2.2.2.2.2.1
@[irreducible] noncomputable def rs : List Value := X.2.2.2.2.2.2.2.2.2.2.2.2.2.2.2.2.2.2.2.2.2.2.2.2.2.2.2.2.2.2.2.2.2.2.2.2.2.2.2.2.2.1
@[irreducible] noncomputable def r : List (Nat × Int) := X.2.2.2.2.2.2.2.2.2.2.2.2.2.2.2.2.2.2.2.2.2.2.2.2.2.2.2.2.2.2.2.2.2.2.2.2.2.2.2.2.2.2.1
@[irreducible] noncomputable def l : List (Addr × Obj) := X.2.2.2.2.2.2.2.2.2.2.2.2.2.2.2.2.2.2.2.2.2.2.2.2.2.2.2.2.2.2.2.2.2.2.2.2.2.2.2.2.2.2.2
inductive PJ (n : Nat) (at_ st : Value) : Prop
  | mk (j : Nat) (cars' rs' : List Value) (r' : List (Nat × Int)) (l' : List (Addr × Obj)) (u : Tok) (C : Ch w.params at_ cars' l') (R : PR (Meet xA k' kv') cars' rs' r') (hl : l' = l.drop (4 * j)) (hp : pos k' r = (pos k' r').map (· + j)) (hn : n = r'.length) (hr : r'.length + j = r.length) (e : st = .int (j : Int) u)
theorem place_of_ok (B : Below A₀ base outer h₀) (F : Fr h₀ L s.heap m) (X : (Mine.K w.params).In h₀) (N : News h₀ L s.heap ((ce, instObj 197 ceD) :: (ceD, celO w.params fd pd t1 t2) :: (pd, po) :: news)) (T : Top p loose mean mg mb h₀) (hk : cs.kind = .function) (hdp : dp ≤ 480) (hun : un ≤ 560) (lo : (pd == sysModules) = false) (hd : po.IsDictOf (intKind prog w) kvs) (hv : valueAt kvs (i : Int) = v) (S : SymOf w.params news x i nm) (C : Ch w.params (v.getD (.ref 78)) cars l) (sub : ∀ p ∈ l, p ∈ news) (R : PR (Meet xA k' kv') cars rs r) (hkv : KeyV xA k' kv') (SX : SymOf w.params news xA 2 "x") (hz : r.length ≤ 1000) (ret : ∀ res h' tk', (pos k' r = none ∧ res = .none ∨ ∃ j c d, pos k' r = some j ∧ res = .ref c ∧ l[2 * (2 * j + 1)]? = some (c, instObj 99 d)) → Fr h₀ L h' m → News h₀ L h' ((ce, instObj 197 ceD) :: (ceD, celO w.params fd pd t1 t2) :: (pd, po) :: news) → Q res { s with heap := h', toks := tk' }):
   wpAny (model prog w) (ktrTop dp un gd cn cs L a ccd cl outer) (call (.ref 180) [.ref ce, .ref x, kv']) Q E s := Mine.byKey fun kzq9 => Mine.Fam.of (by exact Mine.Fam.mk : Mine.Fam ((Mine.Key.unbox kzq9 (by simp only [Mine.Key.box kzq9 (by
  clear kzq9
  have fl9 : Mine.Fl 35 := Mine.Fl.mk
  have SX2 : SymOf w.params ((ce, instObj 197 ceD) :: (ceD, celO w.params fd pd t1 t2) :: (pd, po) :: news) xA 2 "x" := SX.mono fun q hq => .tail _ (.tail _ (.tail _ hq))
  refine wcall ?_
  k_dflt (k_extra "MY enter")
  clear F N
  k_steps
  rename News _ _ _ _ => N8
  k_dflt (refine' Hold.mk (plist_of_ok ?B ?F ?X N8 ?T ?hk ?hdp ?hun lo hd hv S ?_))
  case B => k_asm
  case F => k_asm
  case X => k_asm
  case T => k_asm
  case hk => first | exact rfl | assumption
  case hdp => ktr_room
  case hun => units_room
  clear N8
  intro h' tk' F' N'
  k_steps
  rename Fr _ _ _ _ => F9
  rename News _ _ _ _ => N9
  refine Hold.mk (While_at2 (x := "at") (y := "steps") (v₀ := v.getD (.ref 78)) (u₀ := .int ((0 : Nat) : Int) _) PJ F9 rfl rfl (fun _ _ _ => rfl) N9 ⟨0, cars, rs, r, l, _, C, R, rfl, by simp, rfl, rfl, rfl⟩ ?_ (by decide))
  clear F9 N9
  rintro n at_ st h1 tk1 F1 N1 ⟨j, cars', rs', r', l', u, C', R', rfl, hp', rfl, hlen, rfl⟩
  k_extra "MY q"
  have sub' : ∀ q ∈ l.drop (4 * j), q ∈ news := fun q hq => sub q (List.mem_of_mem_drop hq)
  cases R' with
  | nil =>
    obtain ⟨rfl, -⟩ := C'.inv0
    k_steps
    exact ret _ _ _ (.inl ⟨by rw [hp']; rfl, rfl⟩) (by assumption) (by assumption)
  | @cons k kv nv vv tt tt' cs' rs' r' hM hk4 hn' R'' =>
    obtain ⟨c1, d1, nx1, l1, w1, w2, rfl, hl1, C1⟩ := C'.inv
    obtain ⟨c2, d2, nx2, l2, w3, w4, rfl, rfl, C2⟩ := C1.inv
    rw [hl1] at sub'
    have N2 := newsMore N1 [(c1, instObj 99 d1), (d1, consO w.params kv (.ref c2) w1 w2), (c2, instObj 99 d2), (d2, consO w.params (.int vv tt) nx2 w3 w4)] fun q hq => .tail _ (.tail _ (.tail _ (sub' q (List.mem_append_left l2 hq))))
    simp only [List.cons_append, List.nil_append] at N2
    have SX3 : SymOf w.params ((c1, instObj 99 d1) :: (d1, consO w.params kv (.ref c2) w1 w2) :: (c2, instObj 99 d2) :: (d2, consO w.params (.int vv tt) nx2 w3 w4) :: (ce, instObj 197 ceD) :: (ceD, celO w.params fd pd t1 t2) :: (pd, po) :: news) xA 2 "x" := SX2.mono fun q hq => .tail _ (.tail _ (.tail _ (.tail _ hq)))
    clear N1 SX2
    obtain ⟨hl2, hcell⟩ := drop_next hl1
    have hpos1 := (pos_here hp').1
    have hpos2 := (pos_here hp').2
    have hkk := key_same hM.1 hkv
    have hhd := handed_key hM.1
    have hkv1 := hM.1
    have hnx : handedIn nx2 = true := by cases C2 <;> rfl
    k_steps
    · rename (_ = true → k = k') => hb9
      unfold AtStep2
      dsimp only
      k_steps
      rename News _ _ _ _ => N9
      exact ret _ _ _ (.inr ⟨j, c2, d2, hpos1 (hb9 (by assumption)), rfl, hcell⟩) (by assumption) (fun q hq => N9 q (.tail _ (.tail _ (.tail _ (.tail _ hq)))))
    · unfold AtStep2
      dsimp only
      k_steps
      rename News _ _ _ _ => N9
      exact ret _ _ _ (.inr ⟨j, c2, d2, hpos1 (by assumption), rfl, hcell⟩) (by assumption) (fun q hq => N9 q (.tail _ (.tail _ (.tail _ (.tail _ hq)))))
    all_goals
      have hne : k ≠ k' := by
        first
        | assumption
        | (intro e
           have q := hkk e
           have hi : isIntV kv = false := by first | assumption | (rw [q.1]; assumption)
           first
           | exact Bool.false_ne_true (hi.symm.trans (q.1.trans (by assumption)))
           | (rename (k = k' → (∃ a, kv = Value.ref a) → _ = true) => hb8
              exact Bool.false_ne_true ((by assumption : _ = false).symm.trans (hb8 e (q.2 hi)))))
      rename News _ _ _ _ => N9
      refine ⟨_, _, _, nx2, _, r'.length, rfl, by assumption, fun q hq => N9 q (.tail _ (.tail _ (.tail _ (.tail _ hq)))), Nat.lt_succ_self _, ⟨j + 1, cs', rs', r', l2, _, C2, R'', hl2, hpos2 hne, rfl, by simp only [List.length_cons] at hlen; omega, rfl⟩, rfl, rfl, fun z h1 h2 => by simp +zetaDelta [h1, h2]⟩)])) :))
theorem all : ∀ d, S d := Mine.eps ne (by with_unfolding_all exact @place_of_ok)
end Ep_place_of_ok
section
variable {prog : Program} {w : World} {p : Program} {loose : List Str} {mean : ExcName → Option Value} {mg mb : Str → Option Value}
 {dp un : Nat} {gd : Option (List Code)} {cn : Str} {cs : Scope} {a : Addr} {ccd : Value} {cl : List (Str × Addr)} {outer : List Env} {A₀ : Around} {base h₀ : Heap} {L : Addr} {m : Str → Option Value} {news : List (Addr × Obj)} {s : Shared} {Q E : Value → Shared → Prop}
variable {ce ceD fd pd xA : Addr} {t1 t2 : Tok} {po : Obj} {kvs : List (Int × Value)} {x : Addr} {i : Nat} {nm : Str}
theorem place_of_ok {v : Option Value} {k' : Nat} {kv' : Value} {cars rs : List Value} {r : List (Nat × Int)} {l : List (Addr × Obj)}
   (B : Below A₀ base outer h₀) (F : Fr h₀ L s.heap m) (X : (Mine.K w.params).In h₀) (N : News h₀ L s.heap ((ce, instObj 197 ceD) :: (ceD, celO w.params fd pd t1 t2) :: (pd, po) :: news)) (T : Top p loose mean mg mb h₀) (hk : cs.kind = .function) (hdp : dp ≤ 480) (hun : un ≤ 560)
   (lo : (pd == sysModules) = false) (hd : po.IsDictOf (intKind prog w) kvs) (hv : valueAt kvs (i : Int) = v) (S : SymOf w.params news x i nm)
   (C : Ch w.params (v.getD (.ref 78)) cars l) (sub : ∀ p ∈ l, p ∈ news) (R : PR (Meet xA k' kv') cars rs r) (hkv : KeyV xA k' kv') (SX : SymOf w.params news xA 2 "x") (hz : r.length ≤ 1000)
   (ret : ∀ res h' tk', (pos k' r = none ∧ res = .none ∨ ∃ j c d, pos k' r = some j ∧ res = .ref c ∧ l[2 * (2 * j + 1)]? = some (c, instObj 99 d)) → Fr h₀ L h' m → News h₀ L h' ((ce, instObj 197 ceD) :: (ceD, celO w.params fd pd t1 t2) :: (pd, po) :: news) → Q res { s with heap := h', toks := tk' }) :
   wpAny (model prog w) (ktrTop dp un gd cn cs L a ccd cl outer) (call (.ref 180) [.ref ce, .ref x, kv']) Q E s := Ep_place_of_ok.all (prog, w, p, loose, mean, mg, mb, dp, un, gd, cn, cs, a, ccd, cl, outer, A₀, base, h₀, L, m, news, s, Q, E, ce, ceD, fd, pd, xA, t1, t2, po, kvs, x, i, nm, v, k', kv', cars, rs, r, l) B F X N T hk hdp hun lo hd hv S C sub R hkv SX hz ret
end
end Mine
end PartH4
section PartH5
open PySem PySem.W PyProof.Rows PySem.Calls PySem.Spec Mine
set_option maxHeartbeats 4000000
namespace Mine
theorem Mine.regH51 : True := by
  k_with "call ref" => (guard_hyp fl9 : Mine.Fl 36; ((k_here; (with_reducible show wpAny _ _ (call (Value.ref 180) _) _ _ _); refine Hold.out ?_)))
  k_with "getAttr ref" => (guard_hyp fl9 : Mine.Fl 36; ((k_here; (with_reducible show wpAny _ _ (getAttr (Value.ref _) (Str.ofString "car") _) _ _ _); k_dflt (refine get_car (by k_asm) (by k_asm) (by k_asm) (by k_mem) (by k_mem) (by first | rfl | assumption) ?_))))
  exact trivial
section
variable {prog : Program} {w : World} {p : Program} {loose : List Str} {mean : ExcName → Option Value} {mg mb : Str → Option Value}
 {dp un : Nat} {gd : Option (List Code)} {cn : Str} {cs : Scope} {a : Addr} {ccd : Value} {cl : List (Str × Addr)} {outer : List Env} {A₀ : Around} {base h₀ : Heap} {L : Addr} {m : Str → Option Value} {news : List (Addr × Obj)} {s : Shared} {Q E : Value → Shared → Prop}
variable {ce ceD fd pd xA : Addr} {t1 t2 : Tok} {po : Obj} {kvs : List (Int × Value)} {x : Addr} {i : Nat} {nm : Str}
theorem get_ok {v : Option Value} {k' : Nat} {kv' : Value} {cars rs : List Value} {r : List (Nat × Int)} {l : List (Addr × Obj)}
   (B : Below A₀ base outer h₀) (F : Fr h₀ L s.heap m) (X : (Mine.K w.params).In h₀) (N : News h₀ L s.heap ((ce, instObj 197 ceD) :: (ceD, celO w.params fd pd t1 t2) :: (pd, po) :: news)) (T : Top p loose mean mg mb h₀) (hk : cs.kind = .function) (hdp : dp ≤ 460) (hun : un ≤ 540)
   (lo : (pd == sysModules) = false) (hd : po.IsDictOf (intKind prog w) kvs) (hv : valueAt kvs (i : Int) = v) (S : SymOf w.params news x i nm)
   (C : Ch w.params (v.getD (.ref 78)) cars l) (sub : ∀ p ∈ l, p ∈ news) (R : PR (Meet xA k' kv') cars rs r) (hkv : KeyV xA k' kv') (SX : SymOf w.params news xA 2 "x") (hz : r.length ≤ 1000)
   (ret : ∀ res h' tk', (pos k' r = none ∧ res = .ref 78 ∨ ∃ j k v t, pos k' r = some j ∧ r[j]? = some (k, v) ∧ res = .int v t) → Fr h₀ L h' m → News h₀ L h' ((ce, instObj 197 ceD) :: (ceD, celO w.params fd pd t1 t2) :: (pd, po) :: news) → Q res { s with heap := h', toks := tk' }) :
   wpAny (model prog w) (ktrTop dp un gd cn cs L a ccd cl outer) (call (.ref 187) [.ref ce, .ref x, kv']) Q E s := Mine.byKey fun kzq9 => Mine.Fam.of (by exact Mine.Fam.mk : Mine.Fam ((Mine.Key.unbox kzq9 (by simp only [Mine.Key.box kzq9 (by
  clear kzq9
  have fl9 : Mine.Fl 36 := Mine.Fl.mk
  refine wcall ?_
  k_dflt (k_extra "MY enter")
  clear F N
  k_steps
  rename News _ _ _ _ => N8
  k_dflt (refine' Hold.mk (place_of_ok ?B ?F ?X N8 ?T ?hk ?hdp ?hun lo hd hv S C sub R hkv SX hz ?_))
  case B => k_asm
  case F => k_asm
  case X => k_asm
  case T => k_asm
  case hk => first | exact rfl | assumption
  case hdp => ktr_room
  case hun => units_room
  clear N8
  rintro res h' tk' (⟨hp, rfl⟩ | ⟨j, c, d, hp, rfl, hc⟩) F' N'
  · k_steps
    exact ret _ _ _ (.inl ⟨hp, rfl⟩) (by assumption) (by assumption)
  · obtain ⟨k, kv, nv, vv, t, t', g1, g2, g3, g4, g5, g6, g7, g8⟩ := R.at (pos_lt hp)
    obtain ⟨c', d', nx, w1, w2, h1, h2, -⟩ := C.hole _ _ g3
    rw [hc] at h1
    simp only [Option.some.injEq, Prod.mk.injEq] at h1
    obtain ⟨rfl, e2⟩ := h1
    obtain rfl : d = d' := by simpa [instObj] using e2
    have m1 := sub _ (List.mem_of_getElem? hc)
    have m2 := sub _ (List.mem_of_getElem? h2)
    have N2 := newsMore N' [(c, instObj 99 d), (d, consO w.params (.int vv t) nx w1 w2)] fun q hq => by
      rcases List.mem_cons.mp hq with rfl | hq
      · exact .tail _ (.tail _ (.tail _ m1))
      · rw [List.mem_singleton.mp hq]
        exact .tail _ (.tail _ (.tail _ m2))
    simp only [List.cons_append, List.nil_append] at N2
    clear N'
    k_steps
    rename News _ _ _ _ => N9
    exact ret _ _ _ (.inr ⟨j, k, vv, t, hp, g1, rfl⟩) (by assumption) (fun q hq => N9 q (.tail _ (.tail _ hq))))])) :))
end
end Mine
end PartH5
section PartH6
open PySem PySem.W PyProof.Rows PySem.Calls PySem.Spec Mine
set_option maxHeartbeats 4000000
namespace Mine
theorem upd_at {d : Addr} {o o' : Obj} : ∀ {pre post : List (Addr × Obj)}, (∀ p ∈ pre, p.1 ≠ d) → (∀ p ∈ post, p.1 ≠ d) → Upd d o o' (pre ++ (d, o) :: post) (pre ++ (d, o') :: post)
  | [], _, _, h => .head h
  | p :: pre, _, h, h' => .tail (h p (.head _)) (upd_at (fun q hq => h q (.tail _ hq)) h')
theorem split_at {l : List (Addr × Obj)} {n : Nat} {q : Addr × Obj} (h : l[n]? = some q) (q' : Addr × Obj) : l = l.take n ++ q :: l.drop (n + 1) ∧ l.set n q' = l.take n ++ q' :: l.drop (n + 1) := by
  obtain ⟨hn, e⟩ := List.getElem?_eq_some_iff.mp h
  subst e
  refine ⟨?_, List.set_eq_take_append_cons_drop.trans (by rw [if_pos hn])⟩
  rw [List.getElem_cons_drop, List.take_append_drop]
section
variable {prog : Program} {w : World} {A : Around} {E : Value → Shared → Prop} {s : Shared} {h₀ : Heap} {L : Addr} {m : Str → Option Value} {news news' : List (Addr × Obj)} {Q : Unit → Shared → Prop}
theorem set_car {c d : Addr} {a nx v : Value} {t1 t2 : Tok} (F : Fr h₀ L s.heap m) (X : (Mine.K w.params).In h₀) (N : News h₀ L s.heap news) (h1 : (c, instObj 99 d) ∈ news) (h2 : (d, consO w.params a nx t1 t2) ∈ news)
    (U : Upd d (consO w.params a nx t1 t2) (consO w.params v nx t1 t2) news news')
    (h : ∀ h', Fr h₀ L h' m → News h₀ L h' news' → Q () { s with heap := h', toks := s.toks + 2 }) : wpAny (model prog w) A (setAttr (.ref c) "car" v) Q E s := by
  refine' set_dict F X N (InstAt.of_news N h1 h2) ?k5 ?k6 ?k7 ?k8 ?k9 ?k10 ?k11 ?k12 ?k13 ?_
  case k5 => exact rfl
  case k6 => k_is
  case k7 => k_is
  case k8 => k_is
  case k9 => k_is
  case k10 => k_get
  case k11 => k_put
  case k12 => exact U
  case k13 => exact Nat.le_of_ble_eq_true rfl
  exact h
theorem set_cdr {c d : Addr} {a nx v : Value} {t1 t2 : Tok} (F : Fr h₀ L s.heap m) (X : (Mine.K w.params).In h₀) (N : News h₀ L s.heap news) (h1 : (c, instObj 99 d) ∈ news) (h2 : (d, consO w.params a nx t1 t2) ∈ news)
    (U : Upd d (consO w.params a nx t1 t2) (consO w.params a v t1 t2) news news')
    (h : ∀ h', Fr h₀ L h' m → News h₀ L h' news' → Q () { s with heap := h', toks := s.toks + 2 }) : wpAny (model prog w) A (setAttr (.ref c) "cdr" v) Q E s := by
  refine' set_dict F X N (InstAt.of_news N h1 h2) ?k5 ?k6 ?k7 ?k8 ?k9 ?k10 ?k11 ?k12 ?k13 ?_
  case k5 => exact rfl
  case k6 => k_is
  case k7 => k_is
  case k8 => k_is
  case k9 => k_is
  case k10 => k_get
  case k11 => k_put
  case k12 => exact U
  case k13 => exact Nat.le_of_ble_eq_true rfl
  exact h
end
end Mine
end PartH6
section PartH7
open PySem PySem.W PyProof.Rows PySem.Calls PySem.Spec Mine
set_option maxHeartbeats 4000000
namespace Mine
theorem set_same {α : Type} : ∀ {l : List α} {n : Nat} {a : α}, l[n]? = some a → l.set n a = l
  | [], _, _, h => by simp at h
  | b :: l, 0, a, h => by simp at h; simp [h]
  | b :: l, n + 1, a, h => by simp only [List.set_cons_succ]; rw [set_same (by simpa using h)]
theorem four_lt {x2 d2 x1 d1 : Addr} {led : List (Addr × Obj)} (h : ∀ q ∈ led, q.1 < d1) (a1 : d1 < x1) (a2 : x1 < d2) (a3 : d2 < x2) : [x2, d2, x1, d1].Nodup ∧ ∀ b ∈ [x2, d2, x1, d1], ∀ q ∈ led, q.1 < b := by
  replace a1 := ltN a1
  replace a2 := ltN a2
  replace a3 := ltN a3
  constructor
  · simp only [List.nodup_cons, List.mem_cons, List.not_mem_nil, or_false, not_or, List.nodup_nil, and_true, not_false_eq_true]
    refine ⟨⟨?_, ?_, ?_⟩, ⟨?_, ?_⟩, ?_⟩ <;> (intro e; subst e; omega)
  · intro b hb q hq
    have hq := ltN (h q hq)
    simp only [List.mem_cons, List.not_mem_nil, or_false] at hb
    rcases hb with rfl | rfl | rfl | rfl
    · exact Nat.lt_trans hq (Nat.lt_trans a1 (Nat.lt_trans a2 a3))
    · exact Nat.lt_trans hq (Nat.lt_trans a1 a2)
    · exact Nat.lt_trans hq a1
    · exact hq
theorem upd_end {E1 E2 E3 E4 E5 E6 E7 : Addr × Obj} {de : Addr} {o o' : Obj} {l lp news LN : List (Addr × Obj)} (hl : l = lp ++ [(de, o)]) (hLN : LN = l ++ news) (h1 : E1.1 ≠ de) (h2 : E2.1 ≠ de) (h3 : E3.1 ≠ de) (h4 : E4.1 ≠ de) (h5 : E5.1 ≠ de) (h6 : E6.1 ≠ de) (h7 : E7.1 ≠ de) (hp : ∀ p ∈ lp, p.1 ≠ de) (hn : ∀ p ∈ news, p.1 ≠ de) :
    Upd de o o' (E1 :: E2 :: E3 :: E4 :: E5 :: E6 :: E7 :: LN) (E1 :: E2 :: E3 :: E4 :: E5 :: E6 :: E7 :: (lp ++ (de, o') :: news)) := by
  subst hl
  subst hLN
  rw [List.append_assoc]
  exact .tail h1 (.tail h2 (.tail h3 (.tail h4 (.tail h5 (.tail h6 (.tail h7 (upd_at hp hn)))))))
theorem reorder7 {E1 E2 E3 E4 E5 E6 E7 D : Addr × Obj} {lp news : List (Addr × Obj)} : ∀ q ∈ E1 :: E2 :: E3 :: ((lp ++ D :: [E4, E5, E6, E7]) ++ news), q ∈ E1 :: E2 :: E3 :: E4 :: E5 :: E6 :: E7 :: (lp ++ D :: news) := by
  intro q hq
  rcases List.mem_append.mp (show q ∈ [E1, E2, E3] ++ ((lp ++ ([D] ++ [E4, E5, E6, E7])) ++ news) from hq) with h | h
  · exact List.mem_append_left (E4 :: E5 :: E6 :: E7 :: (lp ++ D :: news)) h
  have R : ∀ {q}, q ∈ lp ++ ([D] ++ news) → q ∈ E1 :: E2 :: E3 :: E4 :: E5 :: E6 :: E7 :: (lp ++ D :: news) := fun h => List.mem_append_right [E1, E2, E3, E4, E5, E6, E7] h
  rcases List.mem_append.mp h with h | h
  · rcases List.mem_append.mp h with h | h
    · exact R (List.mem_append_left _ h)
    rcases List.mem_append.mp h with h | h
    · exact R (List.mem_append_right _ (List.mem_append_left _ h))
    · exact List.mem_append_right [E1, E2, E3] (List.mem_append_left (lp ++ D :: news) h)
  · exact R (List.mem_append_right _ (List.mem_append_right _ h))
noncomputable def StopSet : Prop := True
theorem Mine.regH71 : True := by
  k_with "call ref" => (guard_hyp fl9 : Mine.Fl 38; ((k_here; (with_reducible show wpAny _ _ (call (Value.ref 180) _) _ _ _); refine Hold.out ?_)))
  k_with "call ref" => (guard_hyp fl9 : Mine.Fl 38; ((k_here; (with_reducible show wpAny _ _ (call (Value.ref 166) _) _ _ _); refine Hold.out ?_)))
  k_with "getAttr ref" => (guard_hyp fl9 : Mine.Fl 38; ((k_here; (with_reducible show wpAny _ _ (getAttr (Value.ref _) (Str.ofString "car") _) _ _ _); k_dflt (refine get_car (by k_asm) (by k_asm) (by k_asm) (by k_mem) (by k_mem) (by first | rfl | assumption) ?_))))
  k_with "getAttr ref" => (guard_hyp fl9 : Mine.Fl 38; ((k_here; (with_reducible show wpAny _ _ (getAttr (Value.ref _) (Str.ofString "cdr") _) _ _ _); k_dflt (refine get_cdr (by k_asm) (by k_asm) (by k_asm) (by k_mem) (by k_mem) (by first | rfl | assumption) ?_))))
  k_with "setAttr ref" => (guard_hyp fl9 : Mine.Fl 38; ((k_here; (have h9 : StopSet := by assumption); clear h9; refine Hold.out ?_)))
  exact trivial
theorem isi_cons {prog : Program} {w : World} {A : Around} {E : Value → Shared → Prop} {s : Shared} {h₀ : Heap} {L c d : Addr} {m : Str → Option Value} {news : List (Addr × Obj)} {Q : Value → Shared → Prop} (F : Fr h₀ L s.heap m) (X : (Mine.K w.params).In h₀) (N : News h₀ L s.heap news) (h1 : (c, instObj 99 d) ∈ news) (h : Q (.bool true) s) :
    wpAny (model prog w) A (call (.builtin "isinstance") [.ref c, .ref 99]) Q E s :=
  isi_call (t := .ref 99) (X.keeps F.keep) (fun _ => (Looks.ld (N.get h1)).andThen .now) (by k_is) (by intro q; cases q) h
theorem Mine.regH72 : True := by
  k_with "call builtin:isinstance" => (guard_hyp fl9 : Mine.Fl 38; ((k_here; (with_reducible show wpAny _ _ (call _ [Value.ref _, Value.ref 99]) _ _ _); k_dflt (refine isi_cons (by k_asm) (by k_asm) (by k_asm) (by k_mem) ?_))))
  k_with "exec While" => (guard_hyp fl9 : Mine.Fl 38; ((k_here; refine Hold.out ?_)))
  exact trivial
section
variable {prog : Program} {w : World} {p : Program} {loose : List Str} {mean : ExcName → Option Value} {mg mb : Str → Option Value}
 {dp un : Nat} {gd : Option (List Code)} {cn : Str} {cs : Scope} {a : Addr} {ccd : Value} {cl : List (Str × Addr)} {outer : List Env} {A₀ : Around} {base h₀ : Heap} {L : Addr} {m : Str → Option Value} {news : List (Addr × Obj)} {s : Shared} {Q E : Value → Shared → Prop}
variable {ce ceD fd pd xA : Addr} {t1 t2 : Tok} {po : Obj} {kvs : List (Int × Value)} {x : Addr} {i : Nat} {nm : Str}
end
namespace Ep_put_ok
noncomputable abbrev D : Type := (Program) × (World) × (Program) × (List Str) × (ExcName → Option Value) × (Str → Option Value) × (Str → Option Value) × (Nat) × (Nat) × (Option (List Code)) × (Str) × (Scope) × (Addr) × (Value) × (List (Str × Addr)) × (List Env) × (Around) × (Heap) × (Heap) × (Addr) × (Str → Option Value) × (List (Addr × Obj)) × (Shared) × (Value → Shared → Prop) × (Value → Shared → Prop) × (Addr) × (Addr) × (Addr) × (Addr) × (Addr) × (Tok) × (Tok) × (Obj) × (List (Int × Value)) × (Addr) × (Nat) × (Str) × (Option Value) × (Nat) × (Value) × (List Value) × (List Value) × (List (Nat × Int)) × (List (Addr × Obj)) × (Int) × (Tok)
noncomputable def S (d : D) : Prop := (fun (prog : Program) (w : World) (p : Program) (loose : List Str) (mean : ExcName → Option Value) (mg : Str → Option Value) (mb : Str → Option Value) (dp : Nat) (un : Nat) (gd : Option (List Code)) (cn : Str) (cs : Scope) (a : Addr) (ccd : Value) (cl : List (Str × Addr)) (outer : List Env) (A₀ : Around) (base : Heap) (h₀ : Heap) (L : Addr) (m : Str → Option Value) (news : List (Addr × Obj)) (s : Shared) (Q : Value → Shared → Prop) (E : Value → Shared → Prop) (ce : Addr) (ceD : Addr) (fd : Addr) (pd : Addr) (xA : Addr) (t1 : Tok) (t2 : Tok) (po : Obj) (kvs : List (Int × Value)) (x : Addr) (i : Nat) (nm : Str) (v : Option Value) (k' : Nat) (kv' : Value) (cars : List Value) (rs : List Value) (r : List (Nat × Int)) (l : List (Addr × Obj)) (val : Int) (tv : Tok) => ∀ (B : Below A₀ base outer h₀) (F : Fr h₀ L s.heap m) (X : (Mine.K w.params).In h₀) (N : News h₀ L s.heap ((ce, instObj 197 ceD) :: (ceD, celO w.params fd pd t1 t2) :: (pd, po) :: (l ++ news))) (T : Top p loose mean mg mb h₀) (hk : cs.kind = .function) (hdp : dp ≤ 460) (hun : un ≤ 540) (lo : (pd == sysModules) = false) (hd : po.IsDictOf (intKind prog w) kvs) (hz2 : kvs.length ≤ 900) (hv : valueAt kvs (i : Int) = v) (S : SymOf w.params news x i nm) (C : Ch w.params (v.getD (.ref 78)) cars l) (R : PR (Meet xA k' kv') cars rs r) (hkv : KeyV xA k' kv') (SX : SymOf w.params news xA 2 "x") (hz : r.length ≤ 400) (hnd : (ce :: ceD :: pd :: l.map (·.1)).Nodup) (hoff : ∀ p ∈ l, Off p.1 news) (hoff2 : Off pd news) (ret : ∀ kvs' po' v' cars' l' as h' tk', Fr h₀ L h' m → News h₀ L h' ((ce, instObj 197 ceD) :: (ceD, celO w.params fd pd t1 t2) :: (pd, po') :: (l' ++ news)) → po'.IsDictOf (intKind prog w) kvs' → kvs'.length ≤ kvs.length + 1 → valueAt kvs' (i : Int) = v' → (∀ y : Int, y ≠ i → valueAt kvs' y = valueAt kvs y) →
     Ch w.params (v'.getD (.ref 78)) cars' l' → l'.map (·.1) = l.map (·.1) ++ as → as.Nodup → (∀ b ∈ as, ∀ q ∈ (ce, instObj 197 ceD) :: (ceD, celO w.params fd pd t1 t2) :: (pd, po) :: (l ++ news), q.1 < b) →
     (∀ j, pos k' r = some j → cars' = cars.set (2 * j + 1) (.int val tv)) → (pos k' r = none → cars' = cars ++ [kv', .int val tv]) → Q .none { s with heap := h', toks := tk' }), wpAny (model prog w) (ktrTop dp un gd cn cs L a ccd cl outer) (call (.ref 194) [.ref ce, .ref x, kv', .int val tv]) Q E s) d.1 d.2.1 d.2.2.1 d.2.2.2.1 d.2.2.2.2.1 d.2.2.2.2.2.1 d.2.2.2.2.2.2.1 d.2.2.2.2.2.2.2.1 d.2.2.2.2.2.2.2.2.1 d.2.2.2.2.2.2.2.2.2.1 d.2.2.2.2.2.2.2.2.2.2.1 d.2.2.2.2.2.2.2.2.2.2.2.1 d.2.2.2.2.2.2.2.2.2.2.2.2.1 d.2.2.2.2.2.2.2.2.2.2.2.2.2.1 d.2.2.2.2.2.2.2.2.2.2.2.2.2.2.1 d.2.2.2.2.2.2.2.2.2.2.2.2.2.2.2.1 d.2.2.2.2.2.2.2.2.2.2.2.2.2.2.2.2.1 d.2.2.2.2.2.2.2.2.2.2.2.2.2.2.2.2.2.1 d.2.2.2.2.2.2.2.2.2.2.2.2.2.2.2.2.2.2.1 d.2.2.2.2.2.2.2.2.2.2.2.2.2.2.2.2.2.2.2.1 d.2.2.2.2.2.2.2.2.2.2.2.2.2.2.2.2.2.2.2.2.1 d.2.2.2.2.2.2.2.2.2.2.2.2.2.2.2.2.2.2.2.2.2.1 d.2.2.2.2.2.2.2.2.2.2.2.2.2.2.2.2.2.2.2.2.2.2.1 d.2.2.2.2.2.2.2.2.2.2.2.2.2.2.2.2.2.2.2.2.2.2.2.1 d.2.2.2.2.2.2.2.2.2.2.2.2.2.2.2.2.2.2.2.2.2.2.2.2.1 d.2.2.2.2.2.2.2.2.2.2.2.2.2.2.2.2.2.2.2.2.2.2.2.2.2.1 d.2.2.2.2.2.2.2.2.2.2.2.2.2.2.2.2.2.2.2.2.2.2.2.2.2.2.1 d.2.2.2.2.2.2.2.2.2.2.2.2.2.2.2.2.2.2.2.2.2.2.2.2.2.2.2.1 d.2.2.2.2.2.2.2.2.2.2.2.2.2.2.2.2.2.2.2.2.2.2.2.2.2.2.2.2.1 d.2.2.2.2.2.2.2.2.2.2.2.2.2.2.2.2.2.2.2.2.2.2.2.2.2.2.2.2.2.1 d.2.2.2.2.2.2.2.2.2.2.2.2.2.2.2.2.2.2.2.2.2.2.2.2.2.2.2.2.2.2.1 d.2.2.2.2.2.2.2.2.2.2.2.2.2.2.2.2.2.2.2.2.2.2.2.2.2.2.2.2.2.2.2.1 d.2.2.2.2.2.2.2.2.2.2.2.2.2.2.2.2.2.2.2.2.2.2.2.2.2.2.2.2.2.2.2.2.1 d.2.2.2.2.2.2.2.2.2.2.2.2.2.2.2.2.2.2.2.2.2.2.2.2.2.2.2.2.2.2.2.2.2.1 d.2.2.2.2.2.2.2.2.2.2.2.2.2.2.2.2.2.2.2.2.2.2.2.2.2.2.2.2.2.2.2.2.2.2.1 d.2.2.2.2.2.2.2.2.2.2.2.2.2.2.2.2.2.2.2.2.2.2.2.2.2.2.2.2.2.2.2.2.2.2.2.1 d.2.2.2.2.2.2.2.2.2.2.2.2.2.2.2.2.2.2.2.2.2.2.2.2.2.2.2.2.2.2.2.2.2.2.2.2.1 d.2.2.2.2.2.2.2.2.2.2.2.2.2.2.2.2.2.2.2.2.2.2.2.2.2.2.2.2.2.2.2.2.2.2.2.2.2.1 d.2.2.2.2.2.2.2.2.2.2.2.2.2.2.2.2.2.2.2.2.2.2.2.2.2.2.2.2.2.2.2.2.2.2.2.2.2.2.1 d.2.2.2.2.2.2.2.2.2.2.2.2.2.2.2.2.2.2.2.2.2.2.2.2.2.2.2.2.2.2.2.2.2.2.2.2.2.2.2.1 d.2.2.2.2.2.2.2.2.2.2.2.2.2.2.2.2.2.2.2.2.2.2.2.2.2.2.2.2.2.2.2.2.2.2.2.2.2.2.2.2.1 d.2.2.2.2.2.2.2.2.2.2.2.2.2.2.2.2.2.2.2.2.2.2.2.2.2.2.2.2.2.2.2.2.2.2.2.2.2.2.2.2.2.1 d.2.2.2.2.2.2.2.2.2.2.2.2.2.2.2.2.2.2.2.2.2.2.2.2.2.2.2.2.2.2.2.2.2.2.2.2.2.2.2.2.2.2.1 d.2.2.2.2.2.2.2.2.2.2.2.2.2.2.2.2.2.2.2.2.2.2.2.2.2.2.2.2.2.2.2.2.2.2.2.2.2.2.2.2.2.2.2.1 d.2.2.2.2.2.2.2.2.2.2.2.2.2.2.2.2.2.2.2.2.2.2.2.2.2.2.2.2.2.2.2.2.2.2.2.2.2.2.2.2.2.2.2.2.1 d.2.2.2.2.2.2.2.2.2.2.2.2.2.2.2.2.2.2.2.2.2.2.2.2.2.2.2.2.2.2.2.2.2.2.2.2.2.2.2.2.2.2.2.2.2
theorem ne : Nonempty D := ⟨(default, Mine.w00, default, default, (fun _ => default), (fun _ => default), (fun _ => default), default, default, default, default, default, default, default, default, default, ({} : Around), default, default, default, (fun _ => default), default, ({} : Shared), (fun _ _ => True), (fun _ _ => True), default, default, default, default, default, default, default, default, default, default, default, default, default, default, default, default, default, default, default, default, default)⟩
noncomputable def X : D := @Classical.epsilon D ne fun d => ¬ S d
@[irreducible] noncomputable def prog : Program := X.1
@[irreducible] noncomputable def w : World := X.2.1
@[irreducible] noncomputable def p : Program := X.2.2.1
@[irreducible] noncomputable def loose : List Str := X.2.2.2.1
@[irreducible] noncomputable def mean : ExcName → Option Value := X.2.2.2.2.1
@[irreducible] noncomputable def mg : Str → Option Value := X.2.2.2.2.2.1
@[irreducible] noncomputable def mb : Str → Option Value := X.2.2.2.2.2.2.1
@[irreducible] noncomputable def dp : Nat := X.2.2.2.2.2.2.2.1
@[irreducible] noncomputable def un : Nat := X.2.2.2.2.2.2.2.2.1
@[irreducible] noncomputable def gd : Option (List Code) := X.2.2.2.2.2.2.2.2.2.1
@[irreducible] noncomputable def cn : Str := X.2.2.2.2.2.2.2.2.2.2.1
@[irreducible] noncomputable def cs : Scope := X.2.2.2.2.2.2.2.2.2.2.2.1
@[irreducible] noncomputable def a : Addr := X.2.2.2.2.2.2.2.2.2.2.2.2.1
@[irreducible] noncomputable def ccd : Value := X.2.2.2.2.2.2.2.2.2.2.2.2.2.1
@[irreducible] noncomputable def cl : List (Str × Addr) := X.2.2.2.2.2.2.2.2.2.2.2.2.2.2.1
@[irreducible] noncomputable def outer : List Env := X.2.2.2.2.2.2.2.2.2.2.2.2.2.2.2.1
@[irreducible] noncomputable def A₀ : Around := X.2.2.2.2.2.2.2.2.2.2.2.2.2.2.2.2.1
@[irreducible] noncomputable def base : Heap := X.2.2.2.2.2.2.2.2.2.2.2.2.2.2.2.2.2.1
@[irreducible] noncomputable def h₀ : Heap := X.2.2.2.2.2.2.2.2.2.2.2.2.2.2.2.2.2.2.1
@[irreducible] noncomputable def L : Addr := X.2.2.2.2.2.2.2.2.2.2.2.2.2.2.2.2.2.2.2.1
@[irreducible] noncomputable def m : Str → Option Value := X.2.2.2.2.2.2.2.2.2.2.2.2.2.2.2.2.2.2.2.2.1
@[irreducible] noncomputable def news : List (Addr × Obj) := X.2.2.2.2.2.2.2.2.2.2.2.2.2.2.2.2.2.2.2.2.2.1
@[irreducible] noncomputable def s : Shared := X.2.2.2.2.2.2.2.2.2.2.2.2.2.2.2.2.2.2.2.2.2.2.1
@[irreducible] noncomputable def Q : Value → Shared → Prop := X.2.2.2.2.2.2.2.2.2.2.2.2.2.2.2.2.2.2.2.2.2.2.2.1
@[irreducible] noncomputable def E : Value → Shared → Prop := X.2.2.2.2.2.2.2.2.2.2.2.2.2.2.2.2.2.2.2.2.2.2.2.2.1
@[irreducible] noncomputable def ce : Addr := X.2.2.2.2.2.2.2.2.2.2.2.2.2.2.2.2.2.2.2.2.2.2.2.2.2.1
@[irreducible] noncomputable def ceD : Addr := X.2.2.2.2.2.2.2.2.2.2.2.2.2.2.2.2.2.2.2.2.2.2.2.2.2.2.1
@[irreducible] noncomputable def fd : Addr := X.2.2.2.2.2.2.2.2.2.2.2.2.2.2.2.2.2.2.2.2.2.2.2.2.2.2.2.1
@[irreducible] noncomputable def pd : Addr := X.2.2.2.2.2.2.2.2.2.2.2.2.2.2.2.2.2.2.2.2.2.2.2.2.2.2.2.2.1
@[irreducible] noncomputable def xA : Addr := X.2.2.2.2.2.2.2.2.2.2.2.2.2.2.2.2.2.2.2.2.2.2.2.2.2.2.2.2.2.1
@[irreducible] noncomputable def t1 : Tok := X.2.2.2.2.2.2.2.2.2.2.2.2.2.2.2.2.2.2.2.2.2.2.2.2.2.2.2.2.2.2.1
@[irreducible] noncomputable def t2 : Tok := X.2.2.2.2.2.2.2.2.2.2.2.2.2.2.2.2.2.2.2.2.2.2.2.2.2.2.2.2.2.2.2.1
@[irreducible] noncomputable def po : Obj := X.2.2.2.2.2.2.2.2.2.2.2.2.2.2.2.2.2.2.2.2.2.2.2.2.2.2.2.2.2.2.2.2.1
@[irreducible] noncomputable def kvs : List (Int × Value) := X.2.2.2.2.2.2.2.2.2.2.2.2.2.2.2.2.2.2.2.2.2.2.2.2.2.2.2.2.2.2.2.2.2.1
@[irreducible] noncomputable def x : Addr := X.2.2.2.2.2.2.2.2.2.2.2.2.2.2.2.2.2.2.2.2.2.2.2.2.2.2.2.2.2.2.2.2.2.2.1
@[irreducible] noncomputable def i : Nat := X.2.2.2.2.2.2.2.2.2.2.2.2.2.2.2.2.2.2.2.2.2.2.2.2.2.2.2.2.2.2.2.2.2.2.2.1
@[irreducible] noncomputable def nm : Str := X.2.2.2.2.2.2.2.2.2.2.2.2.2.2.2.2.2.2.2.2.2.2.2.2.2.2.2.2.2.2.2.2.2.2.2.2.1
@[irreducible] noncomputable def v : Option Value := X.2.2.2.2.2.2.2.2.2.2.2.2.2.2.2.2.2.2.2.2.2.2.2.2.2.2.2.2.2.2.2.2.2.2.2.2.2.1
@[irreducible] noncomputable def k' : Nat := X.2.2.2.2.2.2.2.2.2.2.2.2.2.2.2.2.2.2.2.2.2.2.2.2.2.2.2.2.2.2.2.2.2.2.2.2.2.2.1
@[irreducible] noncomputable def kv' : Value := X.2.2.2.2.2.2.2.2.2.2.2.2.2.2.2.2.2.2.2.2.2.2.2.2.2.2.2.2.2.2.2.2.2.2.2.2.2.2.2.1
@[irreducible] noncomputable def cars : List Value := X.2.2.2.2.2.2.2.2.2.2.2.2.2.2.2.2.2.2.2.2.2.2.2.2.2.2.2.2.2.2.2.2.2.2.2.2.2.2.2.2.1
@[irreducible] noncomputable def rs : List Value := X.2.2.2.2.2.2.2.2.2.2.2.2.2.2.2.2.2.2.2.2.2.2.2.2.2.2.2.2.2.2.2.2.2.2.2.2.2.2.2.2.2.1
@[irreducible] noncomputable def r : List (Nat × Int) := X.2.2.2.2.2.2.2.2.2.2.2.2.2.2.2.2.2.2.2.2.2.2.2.2.2.2.2.2.2.2.2.2.2.2.2.2.2.2.2.2.2.2.1
@[irreducible] noncomputable def l : List (Addr × Obj) := X.2.2.2.2.2.2.2.2.2.2.2.2.2.2.2.2.2.2.2.2.2.2.2.2.2.2.2.2.2.2.2.2.2.2.2.2.2.2.2.2.2.2.2.1
@[irreducible] noncomputable def val : Int := X.2.2.2.2.2.2.2.2.2.2.2.2.2.2.2.2.2.2.2.2.2.2.2.2.2.2.2.2.2.2.2.2.2.2.2.2.2.2.2.2.2.2.2.2.1
@[irreducible] noncomputable def tv : Tok := X.2.2.2.2.2.2.2.2.2.2.2.2.2.2.2.2.2.2.2.2.2.2.2.2.2.2.2.2.2.2.2.2.2.2.2.2.2.2.2.2.2.2.2.2.2
theorem put_ok (B : Below A₀ base outer h₀) (F : Fr h₀ L s.heap m) (X : (Mine.K w.params).In h₀) (N : News h₀ L s.heap ((ce, instObj 197 ceD) :: (ceD, celO w.params fd pd t1 t2) :: (pd, po) :: (l ++ news))) (T : Top p loose mean mg mb h₀) (hk : cs.kind = .function) (hdp : dp ≤ 460) (hun : un ≤ 540) (lo : (pd == sysModules) = false) (hd : po.IsDictOf (intKind prog w) kvs) (hz2 : kvs.length ≤ 900) (hv : valueAt kvs (i : Int) = v) (S : SymOf w.params news x i nm) (C : Ch w.params (v.getD (.ref 78)) cars l) (R : PR (Meet xA k' kv') cars rs r) (hkv : KeyV xA k' kv') (SX : SymOf w.params news xA 2 "x") (hz : r.length ≤ 400) (hnd : (ce :: ceD :: pd :: l.map (·.1)).Nodup) (hoff : ∀ p ∈ l, Off p.1 news) (hoff2 : Off pd news) (ret : ∀ kvs' po' v' cars' l' as h' tk', Fr h₀ L h' m → News h₀ L h' ((ce, instObj 197 ceD) :: (ceD, celO w.params fd pd t1 t2) :: (pd, po') :: (l' ++ news)) → po'.IsDictOf (intKind prog w) kvs' → kvs'.length ≤ kvs.length + 1 → valueAt kvs' (i : Int) = v' → (∀ y : Int, y ≠ i → valueAt kvs' y = valueAt kvs y) →
     Ch w.params (v'.getD (.ref 78)) cars' l' → l'.map (·.1) = l.map (·.1) ++ as → as.Nodup → (∀ b ∈ as, ∀ q ∈ (ce, instObj 197 ceD) :: (ceD, celO w.params fd pd t1 t2) :: (pd, po) :: (l ++ news), q.1 < b) →
     (∀ j, pos k' r = some j → cars' = cars.set (2 * j + 1) (.int val tv)) → (pos k' r = none → cars' = cars ++ [kv', .int val tv]) → Q .none { s with heap := h', toks := tk' }):
   wpAny (model prog w) (ktrTop dp un gd cn cs L a ccd cl outer) (call (.ref 194) [.ref ce, .ref x, kv', .int val tv]) Q E s := Mine.byKey fun kzq9 => Mine.Fam.of (by exact Mine.Fam.mk : Mine.Fam ((Mine.Key.unbox kzq9 (by simp only [Mine.Key.box kzq9 (by
  clear kzq9
  have fl9 : Mine.Fl 38 := Mine.Fl.mk
  obtain ⟨LN, hLN⟩ : ∃ LN, LN = l ++ news := ⟨_, rfl⟩
  rw [← hLN] at N
  have sl : ∀ p ∈ l, p ∈ LN := fun p hp => hLN ▸ List.mem_append_left _ hp
  have sn : ∀ p ∈ news, p ∈ LN := fun p hp => hLN ▸ List.mem_append_right _ hp
  have SL : SymOf w.params LN x i nm := S.mono sn
  have SX2 : SymOf w.params LN xA 2 "x" := SX.mono sn
  obtain ⟨n1, n2, n3, n4⟩ : (ce ≠ ceD ∧ ce ≠ pd ∧ ∀ p ∈ l, ce ≠ p.1) ∧ (ceD ≠ pd ∧ ∀ p ∈ l, ceD ≠ p.1) ∧ (∀ p ∈ l, pd ≠ p.1) ∧ (l.map (·.1)).Nodup := by
    simp only [List.nodup_cons, List.mem_cons, not_or, List.mem_map, not_exists, not_and] at hnd
    exact ⟨⟨hnd.1.1, hnd.1.2.1, fun p hp e => hnd.1.2.2 p hp e.symm⟩, ⟨hnd.2.1.1, fun p hp e => hnd.2.1.2 p hp e.symm⟩, fun p hp e => hnd.2.2.1 p hp e.symm, hnd.2.2.2⟩
  refine wcall ?_
  k_dflt (k_extra "MY enter")
  clear F N
  k_steps
  rename News _ _ _ _ => N8
  k_dflt (refine' Hold.mk (place_of_ok ?B ?F ?X N8 ?T ?hk ?hdp ?hun lo hd hv SL C sl R hkv SX2 (by omega) ?_))
  case B => k_asm
  case F => k_asm
  case X => k_asm
  case T => k_asm
  case hk => first | exact rfl | assumption
  case hdp => ktr_room
  case hun => units_room
  clear N8
  rintro res h' tk' (⟨hp, rfl⟩ | ⟨j, c, d, hp, rfl, hc⟩) F' N'
  · have o2 : ∀ p ∈ LN, p.1 ≠ pd := fun p hp => by
      rcases List.mem_append.mp (hLN ▸ hp) with hp | hp
      · exact Ne.symm (n3 p hp)
      · exact hoff2 p hp
    have ap1 : Apt ce pd := n1.2.1
    have ap2 : Apt ceD pd := n2.1
    k_steps
    rename News _ _ _ _ => N8
    replace N8 := News.sel 7 [4, 5, 6, 0, 1, 2, 3] N8
    simp only [sel, nth?, List.drop] at N8
    k_dflt (refine' Hold.mk (plist_of_ok ?B ?F ?X N8 ?T ?hk ?hdp ?hun lo hd hv (SL.mono ?sub) ?_))
    case B => k_asm
    case F => k_asm
    case X => k_asm
    case T => k_asm
    case hk => first | exact rfl | assumption
    case hdp => ktr_room
    case hun => units_room
    case sub => exact fun q hq => .tail _ (.tail _ (.tail _ (.tail _ hq)))
    clear N8
    intro h' tk' F' N'
    rename _ < _ ∧ _ < _ ∧ _ < _ ∧ _ < _ ∧ _ < _ ∧ AllLt _ _ => l2
    rename _ < _ ∧ _ < _ ∧ _ < _ ∧ AllLt _ _ => l1
    rcases C.head with ⟨e1, hv0, e3⟩ | ⟨c, d, hv0, hcm⟩
    · rw [hv0] at *
      obtain rfl : LN = news := by rw [hLN, e3]; rfl
      k_steps
      rename News _ _ _ _ => N8
      have q9 := four_lt (led := (ce, instObj 197 ceD) :: (ceD, celO w.params fd pd t1 t2) :: (pd, po) :: news) (fun q hq => by
        rcases List.mem_cons.mp hq with rfl | hq
        · exact l1.1
        rcases List.mem_cons.mp hq with rfl | hq
        · exact l1.2.1
        rcases List.mem_cons.mp hq with rfl | hq
        · exact l1.2.2.1
        · exact AllLt.lt l1.2.2.2 q hq) (by assumption) l2.1 (by assumption)
      exact ret _ _ (some _) _ [_, _, _, _] _ _ _ (by assumption) N8 (by assumption) (stored_length_le _ _ _) valueAt_storedI_eq (fun y hy => valueAt_storedI_ne (Ne.symm hy)) (.cons (.cons .nil)) (by rw [e3]; rfl) q9.1 (by rw [e3]; exact q9.2) (fun j hj => by rw [hp] at hj; cases hj) (fun _ => by rw [e1]; rfl)
    · rw [hv0] at C ⊢
      have hne : cars ≠ [] := by
        intro e1
        rw [e1] at C
        rw [C.inv0.2] at hcm
        cases hcm
      obtain ⟨n, e, de, ae, lp, u1, u2, hn, hT, hl, hem, hc⟩ := C.toEnd hne
      have N2 := newsMore N' [(c, instObj 99 d)] fun q hq => by
        rw [List.mem_singleton.mp hq]
        exact .tail _ (.tail _ (.tail _ (.tail _ (.tail _ (.tail _ (.tail _ (sl _ hcm)))))))
      simp only [List.cons_append, List.nil_append] at N2
      clear N'
      k_steps
      rename Fr _ _ _ _ => F9
      rename News _ _ _ _ => N9
      refine Hold.mk (While_at (x := "last") (fun n v => ToEnd w.params LN e n v) F9 (News.tl N9) (hT.mono sl) ?_)
      clear F9 N9
      rintro n v h1 tk1 F1 N1 J1
      k_extra "MY q"
      cases n with
      | zero =>
        obtain rfl : v = .ref e := J1
        have me1 : (e, instObj 99 de) ∈ LN := sl _ (hl ▸ List.mem_append_left _ hem)
        have me2 : (de, consO w.params ae (.ref 78) u1 u2) ∈ LN := sl _ (hl ▸ List.mem_append_right _ (.head _))
        have N2 := newsMore N1 [(e, instObj 99 de), (de, consO w.params ae (.ref 78) u1 u2)] fun q hq => by
          rcases List.mem_cons.mp hq with rfl | hq
          · exact .tail _ (.tail _ (.tail _ (.tail _ (.tail _ (.tail _ (.tail _ me1))))))
          · rw [List.mem_singleton.mp hq]
            exact .tail _ (.tail _ (.tail _ (.tail _ (.tail _ (.tail _ (.tail _ me2))))))
        simp only [List.cons_append, List.nil_append] at N2
        clear N1
        have hst : StopSet := trivial
        k_steps
        rename News _ _ _ _ => N9
        replace N9 := News.tl (News.tl N9)
        have q9 := four_lt (led := (ce, instObj 197 ceD) :: (ceD, celO w.params fd pd t1 t2) :: (pd, po) :: LN) (fun q hq => by
          rcases List.mem_cons.mp hq with rfl | hq
          · exact l1.1
          rcases List.mem_cons.mp hq with rfl | hq
          · exact l1.2.1
          rcases List.mem_cons.mp hq with rfl | hq
          · exact l1.2.2.1
          · exact AllLt.lt l1.2.2.2 q hq) (by assumption) l2.1 (by assumption)
        have mde : (de, consO w.params ae (.ref 78) u1 u2) ∈ l := hl ▸ List.mem_append_right _ (.head _)
        have big : ∀ b ∈ [_, _, _, _], b ≠ de := fun b hb e => Nat.lt_irrefl _ (show de < de from e ▸ q9.2 b hb _ (.tail _ (.tail _ (.tail _ me2))))
        have nd := n4
        rw [hl, List.map_append, List.nodup_append] at nd
        k_dflt (refine' Hold.mk (set_cdr ?F ?X N9 (.tail _ (.tail _ (.tail _ (.tail _ (.tail _ (.tail _ (.tail _ me1))))))) (.tail _ (.tail _ (.tail _ (.tail _ (.tail _ (.tail _ (.tail _ me2))))))) (upd_end (l := l) (lp := lp) (news := news) hl hLN (n1.2.2 _ mde) (n2.2 _ mde) (n3 _ mde) (big _ (.head _)) (big _ (.tail _ (.head _))) (big _ (.tail _ (.tail _ (.head _)))) (big _ (.tail _ (.tail _ (.tail _ (.head _))))) (fun p hp => nd.2.2 p.1 (List.mem_map_of_mem hp) de (.head _)) (hoff _ mde)) ?_))
        case F => k_asm
        case X => k_asm
        clear N9
        intro h9 F9 N9
        k_steps
        rename News _ _ _ _ => N8
        refine ret kvs po v _ (lp ++ _ :: [_, _, _, _]) [_, _, _, _] _ _ (by assumption) (fun q hq => N8 q (reorder7 q hq)) hd (Nat.le_succ _) hv (fun _ _ => rfl) (by rw [hv0]; exact hc _ _ _ (.cons (.cons .nil))) ?_ q9.1 (by rw [← hLN]; exact q9.2) (fun j hj => by rw [hp] at hj; cases hj) (fun _ => rfl)
        rw [hl]
        simp
      | succ n =>
        obtain ⟨c1, d1, a1, c2, u3, u4, rfl, m1, m2, ⟨d2, m3⟩, J2⟩ := J1
        have N2 := newsMore N1 [(c1, instObj 99 d1), (d1, consO w.params a1 (.ref c2) u3 u4), (c2, instObj 99 d2)] fun q hq => by
          rcases List.mem_cons.mp hq with rfl | hq
          · exact .tail _ (.tail _ (.tail _ (.tail _ (.tail _ (.tail _ (.tail _ m1))))))
          rcases List.mem_cons.mp hq with rfl | hq
          · exact .tail _ (.tail _ (.tail _ (.tail _ (.tail _ (.tail _ (.tail _ m2))))))
          · rw [List.mem_singleton.mp hq]
            exact .tail _ (.tail _ (.tail _ (.tail _ (.tail _ (.tail _ (.tail _ m3))))))
        simp only [List.cons_append, List.nil_append] at N2
        clear N1
        k_steps
        rename News _ _ _ _ => N9
        exact ⟨_, _, _, .ref c2, n, rfl, by assumption, fun q hq => N9 q (.tail _ (.tail _ (.tail _ hq))), Nat.lt_succ_self _, J2, rfl, fun y hy => by simp +zetaDelta [hy]⟩
  · obtain ⟨k, kv, nv, vv, t, t', g1, g2, g3, g4, g5, g6, g7, g8⟩ := R.at (pos_lt hp)
    obtain ⟨c', d', nx, w1, w2, h1, h2, h3⟩ := C.hole _ _ g3
    rw [hc] at h1
    simp only [Option.some.injEq, Prod.mk.injEq] at h1
    obtain ⟨rfl, e2⟩ := h1
    obtain rfl : d = d' := by simpa [instObj] using e2
    have m1 := List.mem_of_getElem? hc
    have m2 := List.mem_of_getElem? h2
    have hst : StopSet := trivial
    k_steps
    rename News _ _ _ _ => N9
    have key : Upd d (consO w.params (.int vv t) nx w1 w2) (consO w.params (.int val tv) nx w1 w2) ((ce, instObj 197 ceD) :: (ceD, celO w.params fd pd t1 t2) :: (pd, po) :: LN) ((ce, instObj 197 ceD) :: (ceD, celO w.params fd pd t1 t2) :: (pd, po) :: (l.set (2 * (2 * j + 1) + 1) (d, consO w.params (.int val tv) nx w1 w2) ++ news)) := by
      obtain ⟨q1, q2⟩ := split_at h2 (d, consO w.params (.int val tv) nx w1 w2)
      rw [hLN, q2]
      refine .tail (n1.2.2 _ m2) (.tail (n2.2 _ m2) (.tail (n3 _ m2) ?_))
      conv => rw [show l ++ news = (l.take (2 * (2 * j + 1) + 1) ++ (d, consO w.params (.int vv t) nx w1 w2) :: l.drop (2 * (2 * j + 1) + 1 + 1)) ++ news from congrArg (· ++ news) q1]
      rw [List.append_assoc, List.append_assoc]
      have nd := n4
      rw [q1, List.map_append, List.map_cons, List.nodup_append, List.nodup_cons] at nd
      refine upd_at (fun p hp e => nd.2.2 p.1 (List.mem_map_of_mem hp) d (.head _) e) fun p hp => ?_
      rcases List.mem_append.mp hp with hp | hp
      · exact fun e => nd.2.1.1 (List.mem_map.mpr ⟨p, hp, e⟩)
      · exact hoff _ m2 p hp
    k_dflt (refine' Hold.mk (set_car ?F ?X N9 (.tail _ (.tail _ (.tail _ (sl _ m1)))) (.tail _ (.tail _ (.tail _ (sl _ m2)))) key ?_))
    case F => k_asm
    case X => k_asm
    clear N9
    intro h9 F9 N9
    k_steps
    refine ret kvs po v _ _ [] _ _ (by assumption) (by assumption) hd (Nat.le_succ _) hv (fun _ _ => rfl) (h3 _) ?_ List.nodup_nil (fun b hb => nomatch hb) (fun j' hj' => ?_) (fun e => ?_)
    · rw [List.append_nil, List.map_set]
      exact set_same (by rw [List.getElem?_map, h2]; rfl)
    · rw [hp] at hj'; cases hj'; rfl
    · rw [hp] at e; cases e)])) :))
theorem all : ∀ d, S d := Mine.eps ne (by with_unfolding_all exact @put_ok)
end Ep_put_ok
section
variable {prog : Program} {w : World} {p : Program} {loose : List Str} {mean : ExcName → Option Value} {mg mb : Str → Option Value}
 {dp un : Nat} {gd : Option (List Code)} {cn : Str} {cs : Scope} {a : Addr} {ccd : Value} {cl : List (Str × Addr)} {outer : List Env} {A₀ : Around} {base h₀ : Heap} {L : Addr} {m : Str → Option Value} {news : List (Addr × Obj)} {s : Shared} {Q E : Value → Shared → Prop}
variable {ce ceD fd pd xA : Addr} {t1 t2 : Tok} {po : Obj} {kvs : List (Int × Value)} {x : Addr} {i : Nat} {nm : Str}
theorem put_ok {v : Option Value} {k' : Nat} {kv' : Value} {cars rs : List Value} {r : List (Nat × Int)} {l : List (Addr × Obj)} {val : Int} {tv : Tok}
   (B : Below A₀ base outer h₀) (F : Fr h₀ L s.heap m) (X : (Mine.K w.params).In h₀) (N : News h₀ L s.heap ((ce, instObj 197 ceD) :: (ceD, celO w.params fd pd t1 t2) :: (pd, po) :: (l ++ news))) (T : Top p loose mean mg mb h₀) (hk : cs.kind = .function) (hdp : dp ≤ 460) (hun : un ≤ 540)
   (lo : (pd == sysModules) = false) (hd : po.IsDictOf (intKind prog w) kvs) (hz2 : kvs.length ≤ 900) (hv : valueAt kvs (i : Int) = v) (S : SymOf w.params news x i nm)
   (C : Ch w.params (v.getD (.ref 78)) cars l) (R : PR (Meet xA k' kv') cars rs r) (hkv : KeyV xA k' kv') (SX : SymOf w.params news xA 2 "x") (hz : r.length ≤ 400)
   (hnd : (ce :: ceD :: pd :: l.map (·.1)).Nodup) (hoff : ∀ p ∈ l, Off p.1 news) (hoff2 : Off pd news)
   (ret : ∀ kvs' po' v' cars' l' as h' tk', Fr h₀ L h' m → News h₀ L h' ((ce, instObj 197 ceD) :: (ceD, celO w.params fd pd t1 t2) :: (pd, po') :: (l' ++ news)) → po'.IsDictOf (intKind prog w) kvs' → kvs'.length ≤ kvs.length + 1 → valueAt kvs' (i : Int) = v' → (∀ y : Int, y ≠ i → valueAt kvs' y = valueAt kvs y) →
     Ch w.params (v'.getD (.ref 78)) cars' l' → l'.map (·.1) = l.map (·.1) ++ as → as.Nodup → (∀ b ∈ as, ∀ q ∈ (ce, instObj 197 ceD) :: (ceD, celO w.params fd pd t1 t2) :: (pd, po) :: (l ++ news), q.1 < b) →
     (∀ j, pos k' r = some j → cars' = cars.set (2 * j + 1) (.int val tv)) → (pos k' r = none → cars' = cars ++ [kv', .int val tv]) → Q .none { s with heap := h', toks := tk' }) :
   wpAny (model prog w) (ktrTop dp un gd cn cs L a ccd cl outer) (call (.ref 194) [.ref ce, .ref x, kv', .int val tv]) Q E s := Ep_put_ok.all (prog, w, p, loose, mean, mg, mb, dp, un, gd, cn, cs, a, ccd, cl, outer, A₀, base, h₀, L, m, news, s, Q, E, ce, ceD, fd, pd, xA, t1, t2, po, kvs, x, i, nm, v, k', kv', cars, rs, r, l, val, tv) B F X N T hk hdp hun lo hd hz2 hv S C R hkv SX hz hnd hoff hoff2 ret
end
end Mine
end PartH7
section PartH8
open PySem PySem.W PyProof.Rows PySem.Calls PySem.Spec Mine
set_option maxHeartbeats 4000000
namespace Mine
noncomputable def ShowV (xA : Addr) (v : Value) (d : Dat) : Prop := v = .ref 81 ∧ d = .str "t" ∨ v = .ref xA ∧ d = .str "x" ∨ ∃ i t, v = .int i t ∧ d = .int i
inductive Shown (xA : Addr) : List Value → List Dat → Prop
  | nil : Shown xA [] []
  | cons {v : Value} {d : Dat} {vs : List Value} {ds : List Dat} : ShowV xA v d → Shown xA vs ds → Shown xA (v :: vs) (d :: ds)
theorem PR.shown {D : Nat → Value → Prop} {xA : Addr} {cars rs : List Value} {r : List (Nat × Int)} (R : PR D cars rs r) (h : ∀ k v, D k v → KeyV xA k v) : Shown xA cars (flatD r) := by
  induction R with
  | nil => exact .nil
  | cons h1 h2 h3 _ ih =>
    refine .cons ?_ (.cons (.inr (.inr ⟨_, _, rfl, rfl⟩)) ih)
    rcases h _ _ h1 with ⟨rfl, rfl⟩ | ⟨rfl, t, rfl, ht⟩ | ⟨rfl, rfl⟩ | ⟨rfl, t, rfl, ht⟩
    · exact .inl ⟨rfl, rfl⟩
    · exact .inr (.inr ⟨_, _, rfl, rfl⟩)
    · exact .inr (.inl ⟨rfl, rfl⟩)
    · exact .inr (.inr ⟨_, _, rfl, rfl⟩)
theorem datAll_snoc {ws : List Value} {ds : List Dat} {v : Value} {d : Dat} (h : DatIn [] v d) : DatAll [] ws ds → DatAll [] (ws ++ [v]) (ds ++ [d])
  | .nil => .cons h .nil
  | .cons a b => .cons a (datAll_snoc h b)
inductive GrowS (h₀ : Heap) (L : Addr) (s : Shared) (x : Str) (M₀ : Str → Option Value) (fa : Addr) (led : List (Addr × Obj)) (J : Nat → Value → List Value → Prop) (n : Nat) (s₃ : Shared) : Prop
  | mk (h' : Heap) (tk : Nat) (m' : Str → Option Value) (v' : Value) (ws' : List Value) (k' n' : Nat) (e : s₃ = { s with heap := h', toks := tk }) (F : Fr h₀ L h' m') (N : News h₀ L h' ((fa, lst ws' k') :: led)) (hn : n' < n) (j : J n' v' ws') (e1 : m' x = some v') (e2 : ∀ z, z ≠ x → m' z = M₀ z)
/-- a turn's end where one name is stored and one list grows -/
noncomputable def GrowStep (h₀ : Heap) (L : Addr) (s : Shared) (x : Str) (M₀ : Str → Option Value) (fa : Addr) (led : List (Addr × Obj)) (J : Nat → Value → List Value → Prop) (Q : Flow → Shared → Prop) (n : Nat) (f : Flow) (s₃ : Shared) : Prop :=
  match f with
  | .next | .cont => GrowS h₀ L s x M₀ fa led J n s₃
  | .brk => Q .next s₃
  | .ret v => Q (.ret v) s₃
section
variable {prog : Program} {w : World} {A : Around} {E : Value → Shared → Prop} {Q : Flow → Shared → Prop} {s : Shared} {env : Env} {h₀ : Heap} {L : Addr}
theorem While_grow {test : PySem.Expr} {body : List Stmt} {pos : Pos} {x : Str} {v₀ : Value} {m M₀ : Str → Option Value} {fa : Addr} {led : List (Addr × Obj)} {ws₀ : List Value} {k₀ : Nat} (J : Nat → Value → List Value → Prop) {n₀ : Nat}
    (F : Fr h₀ L s.heap m) (e1 : m x = some v₀) (e3 : ∀ z, z ≠ x → m z = M₀ z) (N : News h₀ L s.heap ((fa, lst ws₀ k₀) :: led)) (hJ : J n₀ v₀ ws₀)
    (turn : ∀ n v ws k h₁ tk₁, Fr h₀ L h₁ (fun z => if z = x then some v else M₀ z) → News h₀ L h₁ ((fa, lst ws k) :: led) → J n v ws →
      wpAny (model prog w) A (isTrue test env (eval test env)) (fun b s₂ =>
        if b = true then wpAny (model prog w) A (execs body env) (GrowStep h₀ L s x M₀ fa led J Q n) E s₂ else Q .next s₂) E { s with heap := h₁, toks := tk₁ })
    (hE : PassesOwn (model prog w) A env E := by passes_own) :
    wpAny (model prog w) A (exec (.While test body [] pos) env) Q E s := by
  have norm : ∀ {m' : Str → Option Value} {v : Value}, m' x = some v → (∀ z, z ≠ x → m' z = M₀ z) → m' = fun z => if z = x then some v else M₀ z := by
    intro m' v e1 e3
    funext z
    by_cases h1 : z = x
    · subst h1; simp [e1]
    · simp [h1, e3 z h1]
  refine While_inv2 (fun n m₁ news₁ => ∃ v ws k, news₁ = (fa, lst ws k) :: led ∧ J n v ws ∧ m₁ = fun z => if z = x then some v else M₀ z) F N ⟨v₀, ws₀, k₀, rfl, hJ, norm e1 e3⟩ (fun n m₁ news₁ h₁ tk₁ F₁ N₁ J₁ => ?_) hE
  obtain ⟨v, ws, k, rfl, hv, rfl⟩ := J₁
  refine wpAny_mono (turn n v ws k h₁ tk₁ F₁ N₁ hv) (fun b s₂ h₂ => ?_) fun _ _ e => e
  have fin : ∀ {s₃}, GrowS h₀ L s x M₀ fa led J n s₃ →
      ∃ h' tk m' news₂ n', s₃ = { s with heap := h', toks := tk } ∧ Fr h₀ L h' m' ∧ News h₀ L h' news₂ ∧ n' < n ∧ (∃ v ws k, news₂ = (fa, lst ws k) :: led ∧ J n' v ws ∧ m' = fun z => if z = x then some v else M₀ z) := by
    rintro s₃ ⟨h', tk, m', v', ws', k', n', e, F₂, N₂, hn, J₂, e1, e3⟩
    exact ⟨h', tk, m', _, n', e, F₂, N₂, hn, v', ws', k', rfl, J₂, norm e1 e3⟩
  cases b with
  | false => simpa using h₂
  | true =>
    simp only [if_true] at h₂ ⊢
    refine wpAny_mono h₂ (fun f s₃ h₃ => ?_) fun _ _ e => e
    cases f with
    | next => exact fin h₃
    | cont => exact fin h₃
    | brk => exact h₃
    | ret v => exact h₃
end
theorem allLt_of {d : Addr} : ∀ {l : List (Addr × Obj)}, (∀ p ∈ l, p.1 < d) → AllLt d l
  | [], _ => trivial
  | q :: r, h => ⟨h q (.head _), allLt_of fun p hp => h p (.tail _ hp)⟩
theorem Mine.regH81 : True := by
  k_with "exec While" => (guard_hyp fl9 : Mine.Fl 39; ((k_here; refine Hold.out ?_)))
  k_with "getAttr ref" => (guard_hyp fl9 : Mine.Fl 39; ((k_here; (with_reducible show wpAny _ _ (getAttr (Value.ref _) (Str.ofString "car") _) _ _ _); k_dflt (refine get_car (by k_asm) (by k_asm) (by k_asm) (by first | exact List.Mem.tail _ (by assumption) | k_mem) (by first | exact List.Mem.tail _ (by assumption) | k_mem) (by first | rfl | assumption) ?_))))
  k_with "getAttr ref" => (guard_hyp fl9 : Mine.Fl 39; ((k_here; (with_reducible show wpAny _ _ (getAttr (Value.ref _) (Str.ofString "cdr") _) _ _ _); k_dflt (refine get_cdr (by k_asm) (by k_asm) (by k_asm) (by first | exact List.Mem.tail _ (by assumption) | k_mem) (by first | exact List.Mem.tail _ (by assumption) | k_mem) (by first | rfl | assumption) ?_))))
  k_with "call builtin:isinstance" => (guard_hyp fl9 : Mine.Fl 39; ((k_here; (with_reducible show wpAny _ _ (call _ [Value.ref _, Value.type _]) _ _ _); k_dflt (refine isi_sym_int (by k_asm) (by k_asm) (by k_asm) (SymOf.mono (by assumption) (by k_extra "MY sub")) ?_))))
  k_with "call builtin:isinstance" => (guard_hyp fl9 : Mine.Fl 39; ((k_here; (with_reducible show wpAny _ _ (call _ [Value.ref _, Value.ref 99]) _ _ _); k_dflt (refine isi_cons (by k_asm) (by k_asm) (by k_asm) (by first | exact List.Mem.tail _ (by assumption) | k_mem) ?_))))
  exact trivial
section
variable {prog : Program} {w : World} {p : Program} {loose : List Str} {mean : ExcName → Option Value} {mg mb : Str → Option Value}
 {dp un : Nat} {gd : Option (List Code)} {cn : Str} {cs : Scope} {a : Addr} {ccd : Value} {cl : List (Str × Addr)} {outer : List Env} {A₀ : Around} {base h₀ : Heap} {L : Addr} {m : Str → Option Value} {news : List (Addr × Obj)} {s : Shared} {Q E : Value → Shared → Prop}
variable {xA : Addr}
end
namespace Ep_shown_ok
noncomputable abbrev D : Type := (Program) × (World) × (Program) × (List Str) × (ExcName → Option Value) × (Str → Option Value) × (Str → Option Value) × (Nat) × (Nat) × (Option (List Code)) × (Str) × (Scope) × (Addr) × (Value) × (List (Str × Addr)) × (List Env) × (Around) × (Heap) × (Heap) × (Addr) × (Str → Option Value) × (List (Addr × Obj)) × (Shared) × (Value → Shared → Prop) × (Value → Shared → Prop) × (Addr) × (Value) × (List Value) × (List Dat) × (List (Addr × Obj))
noncomputable def S (d : D) : Prop := (fun (prog : Program) (w : World) (p : Program) (loose : List Str) (mean : ExcName → Option Value) (mg : Str → Option Value) (mb : Str → Option Value) (dp : Nat) (un : Nat) (gd : Option (List Code)) (cn : Str) (cs : Scope) (a : Addr) (ccd : Value) (cl : List (Str × Addr)) (outer : List Env) (A₀ : Around) (base : Heap) (h₀ : Heap) (L : Addr) (m : Str → Option Value) (news : List (Addr × Obj)) (s : Shared) (Q : Value → Shared → Prop) (E : Value → Shared → Prop) (xA : Addr) (v₀ : Value) (cars : List Value) (ds : List Dat) (l : List (Addr × Obj)) => ∀ (B : Below A₀ base outer h₀) (F : Fr h₀ L s.heap m) (X : (Mine.K w.params).In h₀) (N : News h₀ L s.heap news) (T : Top p loose mean mg mb h₀) (hk : cs.kind = .function) (hdp : dp ≤ 480) (hun : un ≤ 560) (C : Ch w.params v₀ cars l) (sub : ∀ p ∈ l, p ∈ news) (R : Shown xA cars ds) (SX : SymOf w.params news xA 2 "x") (hz : cars.length ≤ 900) (ret : ∀ fa ws n h' tk', DatAll [] ws ds → AllLt fa news → Fr h₀ L h' m → News h₀ L h' ((fa, lst ws n) :: news) → Q (.ref fa) { s with heap := h', toks := tk' }), wpAny (model prog w) (ktrTop dp un gd cn cs L a ccd cl outer) (call (.ref 300) [v₀]) Q E s) d.1 d.2.1 d.2.2.1 d.2.2.2.1 d.2.2.2.2.1 d.2.2.2.2.2.1 d.2.2.2.2.2.2.1 d.2.2.2.2.2.2.2.1 d.2.2.2.2.2.2.2.2.1 d.2.2.2.2.2.2.2.2.2.1 d.2.2.2.2.2.2.2.2.2.2.1 d.2.2.2.2.2.2.2.2.2.2.2.1 d.2.2.2.2.2.2.2.2.2.2.2.2.1 d.2.2.2.2.2.2.2.2.2.2.2.2.2.1 d.2.2.2.2.2.2.2.2.2.2.2.2.2.2.1 d.2.2.2.2.2.2.2.2.2.2.2.2.2.2.2.1 d.2.2.2.2.2.2.2.2.2.2.2.2.2.2.2.2.1 d.2.2.2.2.2.2.2.2.2.2.2.2.2.2.2.2.2.1 d.2.2.2.2.2.2.2.2.2.2.2.2.2.2.2.2.2.2.1 d.2.2.2.2.2.2.2.2.2.2.2.2.2.2.2.2.2.2.2.1 d.2.2.2.2.2.2.2.2.2.2.2.2.2.2.2.2.2.2.2.2.1 d.2.2.2.2.2.2.2.2.2.2.2.2.2.2.2.2.2.2.2.2.2.1 d.2.2.2.2.2.2.2.2.2.2.2.2.2.2.2.2.2.2.2.2.2.2.1 d.2.2.2.2.2.2.2.2.2.2.2.2.2.2.2.2.2.2.2.2.2.2.2.1 d.2.2.2.2.2.2.2.2.2.2.2.2.2.2.2.2.2.2.2.2.2.2.2.2.1 d.2.2.2.2.2.2.2.2.2.2.2.2.2.2.2.2.2.2.2.2.2.2.2.2.2.1 d.2.2.2.2.2.2.2.2.2.2.2.2.2.2.2.2.2.2.2.2.2.2.2.2.2.2.1 d.2.2.2.2.2.2.2.2.2.2.2.2.2.2.2.2.2.2.2.2.2.2.2.2.2.2.2.1 d.2.2.2.2.2.2.2.2.2.2.2.2.2.2.2.2.2.2.2.2.2.2.2.2.2.2.2.2.1 d.2.2.2.2.2.2.2.2.2.2.2.2.2.2.2.2.2.2.2.2.2.2.2.2.2.2.2.2.2
theorem ne : Nonempty D := ⟨(default, Mine.w00, default, default, (fun _ => default), (fun _ => default), (fun _ => default), default, default, default, default, default, default, default, default, default, ({} : Around), default, default, default, (fun _ => default), default, ({} : Shared), (fun _ _ => True), (fun _ _ => True), default, default, default, default, default)⟩
noncomputable def X : D := @Classical.epsilon D ne fun d => ¬ S d
@[irreducible] noncomputable def prog : Program := X.1
@[irreducible] noncomputable def w : World := X.2.1
@[irreducible] noncomputable def p : Program := X.2.2.1
@[irreducible] noncomputable def loose : List Str := X.2.2.2.1
@[irreducible] noncomputable def mean : ExcName → Option Value := X.2.2.2.2.1
@[irreducible] noncomputable def mg : Str → Option Value := X.2.2.2.2.2.1
@[irreducible] noncomputable def mb : Str → Option Value := X.2.2.2.2.2.2.1
@[irreducible] noncomputable def dp : Nat := X.2.2.2.2.2.2.2.1
@[irreducible] noncomputable def un : Nat := X.2.2.2.2.2.2.2.2.1
@[irreducible] noncomputable def gd : Option (List Code) := X.2.2.2.2.2.2.2.2.2.1
@[irreducible] noncomputable def cn : Str := X.2.2.2.2.2.2.2.2.2.2.1
@[irreducible] noncomputable def cs : Scope := X.2.2.2.2.2.2.2.2.2.2.2.1
@[irreducible] noncomputable def a : Addr := X.2.2.2.2.2.2.2.2.2.2.2.2.1
@[irreducible] noncomputable def ccd : Value := X.2.2.2.2.2.2.2.2.2.2.2.2.2.1
@[irreducible] noncomputable def cl : List (Str × Addr) := X.2.2.2.2.2.2.2.2.2.2.2.2.2.2.1
@[irreducible] noncomputable def outer : List Env := X.2.2.2.2.2.2.2.2.2.2.2.2.2.2.2.1
@[irreducible] noncomputable def A₀ : Around := X.2.2.2.2.2.2.2.2.2.2.2.2.2.2.2.2.1
@[irreducible] noncomputable def base : Heap := X.2.2.2.2.2.2.2.2.2.2.2.2.2.2.2.2.2.1
@[irreducible] noncomputable def h₀ : Heap := X.2.2.2.2.2.2.2.2.2.2.2.2.2.2.2.2.2.2.1
@[irreducible] noncomputable def L : Addr := X.2.2.2.2.2.2.2.2.2.2.2.2.2.2.2.2.2.2.2.1
@[irreducible] noncomputable def m : Str → Option Value := X.2.2.2.2.2.2.2.2.2.2.2.2.2.2.2.2.2.2.2.2.1
@[irreducible] noncomputable def news : List (Addr × Obj) := X.2.2.2.2.2.2.2.2.2.2.2.2.2.2.2.2.2.2.2.2.2.1
@[irreducible] noncomputable def s : Shared := X.2.2.2.2.2.2.2.2.2.2.2.2.2.2.2.2.2.2.2.2.2.2.1
@[irreducible] noncomputable def Q : Value → Shared → Prop := X.2.2.2.2.2.2.2.2.2.2.2.2.2.2.2.2.2.2.2.2.2.2.2.1
@[irreducible] noncomputable def E : Value → Shared → Prop := X.2.2.2.2.2.2.2.2.2.2.2.2.2.2.2.2.2.2.2.2.2.2.2.2.1
@[irreducible] noncomputable def xA : Addr := X.2.2.2.2.2.2.2.2.2.2.2.2.2.2.2.2.2.2.2.2.2.2.2.2.2.1
@[irreducible] noncomputable def v₀ : Value := X.2.2.2.2.2.2.2.2.2.2.2.2.2.2.2.2.2.2.2.2.2.2.2.2.2.2.1
@[irreducible] noncomputable def cars : List Value := X.2.2.2.2.2.2.2.2.2.2.2.2.2.2.2.2.2.2.2.2.2.2.2.2.2.2.2.1
@[irreducible] noncomputable def ds : List Dat := X.2.2.2.2.2.2.2.2.2.2.2.2.2.2.2.2.2.2.2.2.2.2.2.2.2.2.2.2.1
@[irreducible] noncomputable def l : List (Addr × Obj) := X.2.2.2.2.2.2.2.2.2.2.2.2.2.2.2.2.2.2.2.2.2.2.2.2.2.2.2.2.2
theorem shown_ok (B : Below A₀ base outer h₀) (F : Fr h₀ L s.heap m) (X : (Mine.K w.params).In h₀) (N : News h₀ L s.heap news) (T : Top p loose mean mg mb h₀) (hk : cs.kind = .function) (hdp : dp ≤ 480) (hun : un ≤ 560) (C : Ch w.params v₀ cars l) (sub : ∀ p ∈ l, p ∈ news) (R : Shown xA cars ds) (SX : SymOf w.params news xA 2 "x") (hz : cars.length ≤ 900) (ret : ∀ fa ws n h' tk', DatAll [] ws ds → AllLt fa news → Fr h₀ L h' m → News h₀ L h' ((fa, lst ws n) :: news) → Q (.ref fa) { s with heap := h', toks := tk' }):
   wpAny (model prog w) (ktrTop dp un gd cn cs L a ccd cl outer) (call (.ref 300) [v₀]) Q E s := Mine.byKey fun kzq9 => Mine.Fam.of (by exact Mine.Fam.mk : Mine.Fam ((Mine.Key.unbox kzq9 (by simp only [Mine.Key.box kzq9 (by
  clear kzq9
  have fl9 : Mine.Fl 39 := Mine.Fl.mk
  refine wcall ?_
  k_dflt (k_extra "MY enter")
  clear F N
  k_steps
  rename Fr _ _ _ _ => F9
  rename News _ _ _ _ => N9
  rename ∀ (q : Addr × Obj), q ∈ news → q.1 < _ => l1
  have l1n := fun q hq => Nat.ne_of_lt (l1 q hq)
  refine Hold.mk (While_grow (x := "at") (led := news) (k₀ := 0) (v₀ := v₀) (fun n v ws => ∃ cars' ds1 ds2 l', n = cars'.length ∧ Ch w.params v cars' l' ∧ (∀ p ∈ l', p ∈ news) ∧ DatAll [] ws ds1 ∧ Shown xA cars' ds2 ∧ ds1 ++ ds2 = ds ∧ ws.length + cars'.length = cars.length) F9 rfl (fun _ _ => rfl) (News.tl N9) ⟨cars, [], ds, l, rfl, C, sub, .nil, R, rfl, by simp⟩ ?_)
  clear F9 N9
  rintro n v ws k h1 tk1 F1 N1 ⟨cars', ds1, ds2, l', rfl, C', sub', hD, R', hds, hlen⟩
  k_extra "MY q"
  cases R' with
  | nil =>
    obtain ⟨rfl, -⟩ := C'.inv0
    k_steps
    rw [List.append_nil] at hds
    subst hds
    exact ret _ ws _ _ _ hD (allLt_of l1) (by assumption) (by assumption)
  | @cons cv cd cars'' ds'' hS R'' =>
    obtain ⟨c1, d1, nx, l2, w1, w2, rfl, rfl, C2⟩ := C'.inv
    have g1 := sub' _ (.head _)
    have g2 := sub' _ (.tail _ (.head _))
    have hnx : handedIn nx = true := by cases C2 <;> rfl
    have hlen2 : ws.length ≤ 1000 := by omega
    rcases hS with ⟨rfl, rfl⟩ | ⟨rfl, rfl⟩ | ⟨i, t, rfl, rfl⟩
    · have ST : SymOf w.params news 81 1 "t" := .inr (.inl ⟨rfl, rfl, rfl⟩)
      k_steps
      refine ⟨_, _, _, nx, _, _, cars''.length, rfl, by assumption, by assumption, Nat.lt_succ_self _, ⟨cars'', ds1 ++ [.str "t"], ds'', l2, rfl, C2, fun q hq => sub' _ (.tail _ (.tail _ hq)), datAll_snoc (.str _ _) hD, R'', by rw [← hds]; simp, by simp only [List.length_append, List.length_cons, List.length_nil] at hlen ⊢; omega⟩, rfl, fun y hy => by simp +zetaDelta [hy]⟩
    · k_steps
      refine ⟨_, _, _, nx, _, _, cars''.length, rfl, by assumption, by assumption, Nat.lt_succ_self _, ⟨cars'', ds1 ++ [.str "x"], ds'', l2, rfl, C2, fun q hq => sub' _ (.tail _ (.tail _ hq)), datAll_snoc (.str _ _) hD, R'', by rw [← hds]; simp, by simp only [List.length_append, List.length_cons, List.length_nil] at hlen ⊢; omega⟩, rfl, fun y hy => by simp +zetaDelta [hy]⟩
    · k_steps
      refine ⟨_, _, _, nx, _, _, cars''.length, rfl, by assumption, by assumption, Nat.lt_succ_self _, ⟨cars'', ds1 ++ [.int i], ds'', l2, rfl, C2, fun q hq => sub' _ (.tail _ (.tail _ hq)), datAll_snoc (.int _ _) hD, R'', by rw [← hds]; simp, by simp only [List.length_append, List.length_cons, List.length_nil] at hlen ⊢; omega⟩, rfl, fun y hy => by simp +zetaDelta [hy]⟩)])) :))
theorem all : ∀ d, S d := Mine.eps ne (by with_unfolding_all exact @shown_ok)
end Ep_shown_ok
section
variable {prog : Program} {w : World} {p : Program} {loose : List Str} {mean : ExcName → Option Value} {mg mb : Str → Option Value}
 {dp un : Nat} {gd : Option (List Code)} {cn : Str} {cs : Scope} {a : Addr} {ccd : Value} {cl : List (Str × Addr)} {outer : List Env} {A₀ : Around} {base h₀ : Heap} {L : Addr} {m : Str → Option Value} {news : List (Addr × Obj)} {s : Shared} {Q E : Value → Shared → Prop}
variable {xA : Addr}
theorem shown_ok {v₀ : Value} {cars : List Value} {ds : List Dat} {l : List (Addr × Obj)}
   (B : Below A₀ base outer h₀) (F : Fr h₀ L s.heap m) (X : (Mine.K w.params).In h₀) (N : News h₀ L s.heap news) (T : Top p loose mean mg mb h₀) (hk : cs.kind = .function) (hdp : dp ≤ 480) (hun : un ≤ 560)
   (C : Ch w.params v₀ cars l) (sub : ∀ p ∈ l, p ∈ news) (R : Shown xA cars ds) (SX : SymOf w.params news xA 2 "x") (hz : cars.length ≤ 900)
   (ret : ∀ fa ws n h' tk', DatAll [] ws ds → AllLt fa news → Fr h₀ L h' m → News h₀ L h' ((fa, lst ws n) :: news) → Q (.ref fa) { s with heap := h', toks := tk' }) :
   wpAny (model prog w) (ktrTop dp un gd cn cs L a ccd cl outer) (call (.ref 300) [v₀]) Q E s := Ep_shown_ok.all (prog, w, p, loose, mean, mg, mb, dp, un, gd, cn, cs, a, ccd, cl, outer, A₀, base, h₀, L, m, news, s, Q, E, xA, v₀, cars, ds, l) B F X N T hk hdp hun C sub R SX hz ret
end
end Mine
end PartH8
section PartH9
open PySem PySem.W PyProof.Rows PySem.Calls PySem.Spec Mine
set_option maxHeartbeats 4000000
namespace Mine
open LCg LCt
section
variable {prog : Program} {w : World} {A : Around} {E : Value → Shared → Prop} {s : Shared} {h₀ : Heap} {L : Addr} {m : Str → Option Value} {env : Env}
theorem step_walks {I : Addr} (hh : A.handled = none) (a c : Int) (n : Nat) : Walks prog w A I [I] [I] n (fun i v => ∃ t, v = .int (a + (i : Int) * c) t) (fun i h => IsRangeIter h I (a + (i : Nat) * c) ((n : Int) - (i : Nat)) c) := Walks.range hh I a c n
theorem step_st {I : Addr} {a c : Int} {n : Nat} : ∀ i (h h' : Heap) (o : Obj) (nw : List (Addr × Obj)), IsRangeIter h I (a + (i : Nat) * c) ((n : Int) - (i : Nat)) c → h.get? I = some o → h'.get? I = some o → (∀ b o, h₀.get? b = some o → h'.get? b = some o) → News h₀ L h' nw → True → IsRangeIter h' I (a + (i : Nat) * c) ((n : Int) - (i : Nat)) c :=
  fun i h h' o nw st e e' _ _ _ => by
    have st' : h.get? I = some _ := st
    show h'.get? I = some _
    rw [e', ← e]; exact st'
/-- the places of a range by steps, taken by one test, kept under a name -/
theorem Assign_ListComp_S {ct elt iter : PySem.Expr} {x y : Str} {px py : Pos} {scope : Scope} {cl : List (Str × Addr)} {pos spos : Pos} {Q : Flow → Shared → Prop} (F₀ : Fr h₀ L s.heap m) (hLe : env.locals = L)
    (hsw : swapsWith (.ListComp elt [⟨.Name x px, iter, [ct], 0⟩] scope pos) (some (.Name y py)) spos.line env = pure true)
    (hclos : closureFor scope env = pure cl) (hcell : ∀ z ∈ scope.names, z.2 ≠ .cell) (hkind : scope.kind = .function)
    (hnames : ∀ z ∈ scope.names, z.2 = .local → scope.names.lookup z.1 = some .local) (hx : scope.names.lookup x = some .local)
    (hy : env.kindOf y = some .local) (hp : (env.scope.kind == .class || (env.scope.kind == .module && env.locals != env.globals)) = false)
    (h : wpAny (model prog w) A (eval iter env) (fun xv s₁ => Hold (∃ r a b c t u v n news, xv = .ref r ∧ A.handled = none ∧ Fr h₀ L s₁.heap m ∧ News h₀ L s₁.heap news ∧ IsRange s₁.heap r a b c t u v ∧ Builtin.Range.small a b c = true ∧ Builtin.Range.rangeSize a b c = ((n : Nat) : Int) ∧ n ≤ sizeLine ∧
      ∀ s₂ : Shared, (∃ h, s₂ = { s₁ with heap := h }) → CompRestT prog w A h₀ L m env ct elt x scope cl s₂ (fun _ => True) (fun i v => ∃ t, v = .int (a + (i : Int) * c) t) (FinA h₀ L m s₂ y Q) n 0 [] news)) E s)
    (hs : ∀ x, foldedSetIterable iter env x = pure x := by intro _; rfl) :
    wpAny (model prog w) A (exec (.Assign [.Name y py] (.ListComp elt [⟨.Name x px, iter, [ct], 0⟩] scope pos) spos) env) Q E s := by
  subst hLe
  rw [exec_Assign_Name_used _ _ _ _ hsw]
  refine wpAny_bind (wpAny_standAt (wpAny_bind ?_))
  show wpAny _ A (do let _ ← comprehension (.ListComp elt [⟨.Name x px, iter, [ct], 0⟩] scope pos) scope env _ (newList []) false (eval iter env) (some (assign (.Name y py) env))) _ _ s
  refine wpAny_bind (wpAny_mono (wpAny_comprehension_free (use := some (assign (.Name y py) env)) (Q := fun _ s' => Q .next s') rfl hs hclos hkind hnames
    (wpAny_mono h (fun xv s₁ h₁ => ?_) fun _ _ e => e)) (fun _ s' hq => wpAny_pure (wpAny_pure hq)) fun _ _ e => e)
  obtain ⟨r, a, b, c, t, u, v, n, news, rfl, hh, F, N, hr, hsm, hn, hsz, R⟩ := h₁
  refine wpAny_pyIter_range hr hsm ?_
  refine LCt.block_T (step_walks hh a c n) hsz (fun i h st => ⟨_, st⟩) step_st hcell hkind hx (by show IsRangeIter _ _ _ _ _; rw [hn]; simpa using Heap.get?_push_size _ rfl) (fun b hb => ?_)
    (F.keeps fun _ _ e => Heap.get?_push_of_some _ e) (N.grown fun _ _ e => Heap.get?_push_of_some _ e) (Nat.ne_of_lt F.ns.lt) (next_is_new F) (fun p hp => Nat.ne_of_lt (Heap.lt_size (N p hp).1)) trivial (R _ ⟨_, rfl⟩) ?_
  · rw [List.mem_singleton.mp hb]
    show s₁.heap.objs.size < (s₁.heap.push _).objs.size
    rw [Heap.size_push]; exact Nat.lt_succ_self _
  · intro D C h' tk m' ys news' F' N' o1 hn hC₀ hD₀ hCL hDL hCD offC fin
    show wpAny _ A (assign (.Name y py) env (.ref D)) _ _ _
    refine wpAny_assign_Name (wpAny_storeName_local hy F'.ns (fun h₂ hn₂ hs₂ => ?_) hp)
    have hL₀ : h₀.get? env.locals = none := Heap.get?_none_of_le F'.above
    have F₂ : Fr h₀ env.locals h₂ (fun z => if z = y then some (.ref D) else m z) := ⟨hn₂, fun b o e => hs₂.extBut b o (fun q => by rw [q, hL₀] at e; cases e) (F'.keep b o e), F'.above⟩
    refine ⟨m', hn.sameBut hs₂ hCL, fun h'' hs'' => fin D h'' _ (F₂.change hs'' hCL hC₀) (fun p hp => ?_) o1⟩
    have z : h₂.get? p.1 = some p.2 := hs₂.extBut _ _ (N' p hp).2.1 (N' p hp).1
    refine ⟨hs''.extBut _ _ ?_ z, (N' p hp).2⟩
    rcases List.mem_cons.mp hp with rfl | hp
    · exact Ne.symm hCD
    · exact offC p hp
/-- what a test takes from the first n turns -/
inductive Sel (b : Nat → Bool) (P : Nat → Value → Prop) : Nat → List Value → Prop
  | zero : Sel b P 0 []
  | yes {i : Nat} {ys : List Value} {y : Value} : Sel b P i ys → b i = true → P i y → Sel b P (i + 1) (ys ++ [y])
  | no {i : Nat} {ys : List Value} : Sel b P i ys → b i = false → Sel b P (i + 1) ys
theorem comp_sel {ct elt : PySem.Expr} {x : Str} {scope : Scope} {cl : List (Str × Addr)} {a c : Int} {n : Nat} {Fin : List Value → List (Addr × Obj) → Prop} {news : List (Addr × Obj)} (b : Nat → Bool) (P : Nat → Value → Prop)
    (turn : ∀ i t I oI C oC D m₂ ys h tk (E' : Value → Shared → Prop), i < n → NsObj oC m₂ → m₂ x = some (.int (a + (i : Int) * c) t) → Fr h₀ L h m → News h₀ L h ((I, oI) :: (C, oC) :: (D, LCg.lst ys) :: news) → Off3 I C D news → ((@Ne Nat I C) ∧ (@Ne Nat I D) ∧ (@Ne Nat C D)) →
      wpAny (model prog w) A (isTrue ct (compEnvC scope cl C env) (eval ct (compEnvC scope cl C env))) (fun ok s' => if ok = true then
        wpAny (model prog w) A (eval elt (compEnvC scope cl C env)) (fun y s₂ => CompEnd h₀ L m { s with heap := h, toks := tk } I oI C oC D (LCg.lst ys) (fun _ => True) (fun y news' => news' = news ∧ b i = true ∧ P i y) y s₂) E' s'
        else CompEnd h₀ L m { s with heap := h, toks := tk } I oI C oC D (LCg.lst ys) (fun _ => True) (fun _ news' => news' = news ∧ b i = false) Value.none s') E' { s with heap := h, toks := tk })
    (fin : ∀ ys, Sel b P n ys → Fin ys news) :
    CompRestT prog w A h₀ L m env ct elt x scope cl s (fun _ => True) (fun i v => ∃ t, v = .int (a + (i : Int) * c) t) Fin n 0 [] news := by
  have key : ∀ (j i : Nat) (ys : List Value), i + j = n → Sel b P i ys → CompRestT prog w A h₀ L m env ct elt x scope cl s (fun _ => True) (fun i v => ∃ t, v = .int (a + (i : Int) * c) t) Fin j i ys news := by
    intro j
    induction j with
    | zero =>
      intro i ys hi hy
      have e : i = n := by omega
      subst e
      exact CompRestT.zero (fin ys hy)
    | succ j ih =>
      intro i ys hi hy
      refine CompRestT.succ ?_
      rintro v I oI C oC D m₂ h tk E' ⟨t, rfl⟩ hC hx F N off ne
      refine wpAny_mono (turn i t I oI C oC D m₂ ys h tk E' (by omega) hC hx F N off ne) (fun ok s₂ hq => ?_) fun _ _ e => e
      cases ok with
      | true =>
        simp only [if_true] at hq ⊢
        refine wpAny_mono hq (fun y s₃ h₃ => ?_) fun _ _ e => e
        obtain ⟨h', tk', nw, e, F', N', off', hS, rfl, hb, hP⟩ := h₃
        exact ⟨h', tk', nw, e, F', N', off', hS, ih (i + 1) _ (by omega) (.yes hy hb hP)⟩
      | false =>
        simp only [Bool.false_eq_true, if_false] at hq ⊢
        obtain ⟨h', tk', nw, e, F', N', off', hS, rfl, hb⟩ := hq
        exact ⟨h', tk', nw, e, F', N', off', hS, ih (i + 1) _ (by omega) (.no hy hb)⟩
  exact key n 0 [] (by omega) .zero
end
end Mine
end PartH9
section PartH10
open PySem PySem.W PyProof.Rows PySem.Calls PySem.Spec Mine
set_option maxHeartbeats 4000000
namespace Mine
section
variable {prog : Program} {w : World} {A A₀ : Around} {p : Program} {loose : List Str} {mean : ExcName → Option Value} {mg mb : Str → Option Value} {base h₀ : Heap} {L : Addr} {m : Str → Option Value} {news : List (Addr × Obj)} {s : Shared} {K : Frag}
/-- into a def with cells: no token is older there -/
theorem code_defCt {env : Env} {outer : List Env} {R : Result → Shared → Prop} {name qual : Str} {params : Arguments} {body : List Stmt} {scope : Scope} {dV kV doc pm cdv ct oc : Value} {an od : Option Addr} {osl : Array (Option Value)} {f : Addr} {args : Args} {binds : List (Str × Value)}
    (B : Below A₀ base outer h₀) (F : Fr h₀ L s.heap m) (X₀ : K.In h₀) (N : News h₀ L s.heap news) (T : Top p loose mean mg mb h₀) (hA : A.frames = some (env :: outer)) (hf : env.frame = some L) (hke : env.scope.kind = .function)
    (ho : K.lookup f = some ⟨oc, od, .func (W.fnOf name qual params body scope dV kV doc pm an cdv ct), osl⟩) (hcd : codeIn K cdv qual = true) (hroom : A.depth < recursionLimit)
    (hbind : BindsTo s (W.fnOf name qual params body scope dV kV doc pm an cdv ct) args binds) (hkind : (binds.all fun y => scope.names.lookup y.1 == some .local || scope.names.lookup y.1 == some .cell) = true)
    (hnd : ((cellsFrom 0 scope.names []).map (·.1)).Nodup)
    (h : ∀ g L' h₁ tk cells, Fr h₀ L g m → Fr g L' h₁ (bindL (envOfC qual scope L' f cdv).kindOf binds fun _ => none) → News g L' h₁ (cells ++ news) →
      CellsAre (bindC (envOfC qual scope L' f cdv).kindOf binds fun _ => none) (cellsFrom (L' + 1) scope.names []) cells → Below A base (env :: outer) g → K.In g → Top p loose mean mg mb g → (∀ p ∈ news, p.1 < L') → s.toks ≤ tk →
      wpAny (model prog w) (A.deeper (envOfC qual scope L' f cdv)) (execs body (envOfC qual scope L' f cdv))
        (fun fl s' => LeaveK h₀ L m g R (match fl with | .ret v => v | _ => .none) s')
        (fun e s' => wpAny (model prog w) (A.deeper (envOfC qual scope L' f cdv)) (leaving (envOfC qual scope L' f cdv) e) (fun _ s'' => R (.error e) s'') (fun e' s'' => R (.error e') s'') s')
        { s with heap := h₁, toks := tk })
    (hco : scope.isCoroutine = false) (hgen : scope.isGenerator = false) (hk : scope.kind = .function) : codeAny (model prog w) A (.call (.ref f) args) R s := by
  obtain ⟨FG, BG, st, lv⟩ := groundX (R := R) B F N hA hf hke
  have hkeep := X₀.keeps F.keep
  refine codeAny_call_function hroom (hkeep _ _ ho) rfl hco hgen rfl (codeRec_of hkeep hcd) (hbind _ _ _ _ ?_)
  refine wpAny_toks (wpAny_newFunctionEnv_cells hk (kindsX hkind _) fun env' he s' x htk => ?_)
  subst he
  refine ⟨(T.nolimit.keeps F.keep).keeps x.toInCall.keep, codeAny_func ?_⟩
  obtain ⟨h₁, tk, rfl, _⟩ := x.done
  have hk₁ := x.toInCall.keep
  obtain ⟨cells, NC, Y⟩ := Cl.news (h₀ := s.heap) (Nat.le_refl _) fun n c hm => ⟨x.cell n c (lookup_of_mem_nodup (cellsFrom_names scope.names 0 (s.heap.objs.size + 1) [] [] rfl ▸ hnd) hm), x.above n c hm⟩
  refine wpAny_mono (h _ s.heap.objs.size h₁ tk cells FG ⟨x.toInCall.ns, fun b o e => hk₁ b o (of_hideAll _ e), Nat.le_of_eq (hideAll_size _ _)⟩ (fun p hp => ?_) Y BG (X₀.keeps st) (T.keeps st) (fun p hp => Heap.lt_size (N p hp).1) htk) (fun fl s' hl => lv _ _ hl) fun _ _ y => y
  rcases List.mem_append.mp hp with hp | hp
  · refine ⟨(NC p hp).1, (NC p hp).2.1, ?_⟩
    cases q : (hideAll s.heap (news.map (·.1))).get? p.1 with
    | none => rfl
    | some o => have := of_hideAll _ q; rw [(NC p hp).2.2] at this; cases this
  · exact ⟨hk₁ _ _ (N p hp).1, Nat.ne_of_lt (Heap.lt_size (N p hp).1), hideAll_none _ (List.mem_map_of_mem hp)⟩
end
end Mine
end PartH10
section PartH11
open PySem PySem.W PyProof.Rows PySem.Calls PySem.Spec Mine
set_option maxHeartbeats 4000000
namespace Mine
/-- what one symbol's properties are: the chain's head, its items, where it lies; the model's row; both told in pairs -/
structure PS where
  v : Option Value
  cars : List Value
  l : List (Addr × Obj)
  row : Option (Addr × List Value × Nat)
  r : List (Nat × Int)
noncomputable def PS.rl (S : PS) : List (Addr × Obj) := match S.row with | none => [] | some (a, vs, n) => [(a, lst vs n)]
noncomputable def PS.rs (S : PS) : List Value := match S.row with | none => [] | some (_, vs, _) => vs
noncomputable def PS.ra (S : PS) : Option Value := S.row.map fun x => .ref x.1
noncomputable def PS.led (S : PS) : List (Addr × Obj) := S.l ++ S.rl
noncomputable def Old (xA : Addr) (B : Nat) (k : Nat) (kv : Value) : Prop := KeyV xA k kv ∧ tokOf kv < B
noncomputable def Now (xA : Addr) (B : Nat) (k' : Nat) (kv' : Value) (k : Nat) (kv : Value) : Prop := KeyV xA k kv ∧ (tokOf kv < B ∨ k = k' ∧ kv = kv')
structure PS.Ok (P : Params) (xA : Addr) (B M : Nat) (S : PS) : Prop where
  ch : Ch P (S.v.getD (.ref 78)) S.cars S.l
  pr : PR (Old xA B) S.cars S.rs S.r
  len : S.r.length ≤ M
noncomputable def updS (St : Nat → PS) (i : Nat) (S : PS) : Nat → PS := fun j => if j = i then S else St j
noncomputable def chains (St : Nat → PS) : List (Addr × Obj) := (St 0).led ++ ((St 1).led ++ (St 2).led)
noncomputable def others (St : Nat → PS) (i : Nat) : List (Addr × Obj) := if i = 0 then (St 1).led ++ (St 2).led else if i = 1 then (St 0).led ++ (St 2).led else (St 0).led ++ (St 1).led
theorem chains_perm (St : Nat → PS) {i : Nat} (h : i < 3) : (chains St).Perm ((St i).led ++ others St i) := by
  have : i = 0 ∨ i = 1 ∨ i = 2 := lt3 ‹i < 3›
  rcases this with rfl | rfl | rfl
  · exact List.Perm.refl _
  · show ((St 0).led ++ ((St 1).led ++ (St 2).led)).Perm ((St 1).led ++ ((St 0).led ++ (St 2).led))
    rw [← List.append_assoc, ← List.append_assoc]
    exact List.Perm.append_right _ List.perm_append_comm
  · show ((St 0).led ++ ((St 1).led ++ (St 2).led)).Perm ((St 2).led ++ ((St 0).led ++ (St 1).led))
    rw [← List.append_assoc]
    exact List.perm_append_comm
theorem chains_upd (St : Nat → PS) {i : Nat} (h : i < 3) (S : PS) : (chains (updS St i S)).Perm (S.led ++ others St i) := by
  refine (chains_perm (updS St i S) h).trans ?_
  have e1 : updS St i S i = S := by simp [updS]
  have e2 : others (updS St i S) i = others St i := by
    have : i = 0 ∨ i = 1 ∨ i = 2 := lt3 ‹i < 3›
    rcases this with rfl | rfl | rfl <;> simp [others, updS]
  rw [e1, e2]
section
variable {xA : Addr} {B B' k' : Nat} {kv' : Value}
theorem Old.now {k : Nat} {kv : Value} (h : Old xA B k kv) : Now xA B k' kv' k kv := ⟨h.1, .inl h.2⟩
theorem Now.old {k : Nat} {kv : Value} (h : Now xA B k' kv' k kv) (h1 : B ≤ B') (h2 : tokOf kv' < B') : Old xA B' k kv := by
  refine ⟨h.1, ?_⟩
  rcases h.2 with h | ⟨_, rfl⟩
  · exact Nat.lt_of_lt_of_le h h1
  · exact h2
theorem Now.meet {k : Nat} {kv : Value} (h : Now xA B k' kv' k kv) (h2 : tokOf kv' = 0 ∨ B ≤ tokOf kv') : Meet xA k' kv' k kv := by
  refine ⟨h.1, ?_⟩
  rcases h.2 with h | ⟨e, _⟩
  · by_cases h0 : tokOf kv = 0
    · exact .inr (.inr h0)
    · rcases h2 with h2 | h2
      · exact .inr (.inl (by rw [h2]; exact h0))
      · exact .inr (.inl (Nat.ne_of_lt (Nat.lt_of_lt_of_le h h2)))
  · exact .inl e
theorem tok_key {k : Nat} {kv : Value} (h : KeyV xA k kv) : k < 4 := by
  rcases h with ⟨rfl, rfl⟩ | ⟨rfl, t, rfl, ht⟩ | ⟨rfl, rfl⟩ | ⟨rfl, t, rfl, ht⟩ <;> decide
end
/-- whether a place holds a key -/
noncomputable def holds (k : Nat) (r : List (Nat × Int)) (i : Nat) : Bool := match r[i]? with | some (k', _) => decide (k' = k) | none => false
theorem Sel.none {b : Nat → Bool} {P : Nat → Value → Prop} {n : Nat} {ys : List Value} (S : Sel b P n ys) (h : ∀ i < n, b i = false) : ys = [] := by
  induction S with
  | zero => rfl
  | yes S hb hP ih => rw [h _ (Nat.lt_succ_self _)] at hb; cases hb
  | no S hb ih => exact ih fun i hi => h i (Nat.lt_succ_of_lt hi)
theorem Sel.first {b : Nat → Bool} {P : Nat → Value → Prop} {n j : Nat} {ys : List Value} (S : Sel b P n ys) (hj : j < n) (h1 : b j = true) (h : ∀ i < j, b i = false) : ∃ y rest, ys = y :: rest ∧ P j y := by
  induction S with
  | zero => exact absurd hj (Nat.not_lt_zero _)
  | @yes i ys y S hb hP ih =>
    by_cases e : j < i
    · obtain ⟨y', rest, rfl, hP'⟩ := ih e
      exact ⟨y', rest ++ [y], rfl, hP'⟩
    · obtain rfl : j = i := by omega
      rw [S.none h]
      exact ⟨y, [], rfl, hP⟩
  | @no i ys S hb ih =>
    by_cases e : j < i
    · exact ih e
    · obtain rfl : j = i := by omega
      rw [h1] at hb; cases hb
theorem Sel.all {b : Nat → Bool} {P : Nat → Value → Prop} {n : Nat} {ys : List Value} (S : Sel b P n ys) {Q : Value → Prop} (h : ∀ i y, P i y → Q y) : (∀ y ∈ ys, Q y) ∧ ys.length ≤ n := by
  induction S with
  | zero => exact ⟨fun _ h => (nomatch h), Nat.le_refl _⟩
  | yes S hb hP ih =>
    refine ⟨fun y hy => ?_, by rw [List.length_append, List.length_singleton]; exact Nat.succ_le_succ ih.2⟩
    rcases List.mem_append.mp hy with hy | hy
    · exact ih.1 y hy
    · rw [List.mem_singleton.mp hy]; exact h _ _ hP
  | no S hb ih => exact ⟨ih.1, Nat.le_succ_of_le ih.2⟩
theorem holds_none {k : Nat} {r : List (Nat × Int)} (h : pos k r = none) : ∀ i < r.length, holds k r i = false := by
  intro i hi
  unfold holds
  rw [List.getElem?_eq_getElem hi]
  have := pos_least (r := r) (k := k) (i := i) (k' := r[i].1) (v := r[i].2) (fun j hj => by rw [h] at hj; cases hj) (List.getElem?_eq_getElem hi)
  exact decide_eq_false this
theorem holds_some {k j : Nat} {r : List (Nat × Int)} (h : pos k r = some j) : holds k r j = true ∧ ∀ i < j, holds k r i = false := by
  have hj := pos_lt h
  constructor
  · unfold holds
    rw [List.getElem?_eq_getElem hj]
    exact decide_eq_true (pos_at h (k' := r[j].1) (v := r[j].2) (List.getElem?_eq_getElem hj))
  · intro i hi
    have hi' : i < r.length := by omega
    unfold holds
    rw [List.getElem?_eq_getElem hi']
    exact decide_eq_false (pos_least (r := r) (k := k) (i := i) (k' := r[i].1) (v := r[i].2) (fun j' hj' => by rw [h] at hj'; cases hj'; exact hi) (List.getElem?_eq_getElem hi'))
/-- whether two leaves are alike -/
noncomputable def leafEq : Dat → Dat → Bool
  | .str x, .str y => x == y
  | .int i, .int j => i == j
  | _, _ => false
noncomputable def leaf : Dat → Bool
  | .str _ => true
  | .int _ => true
  | _ => false
section
variable {prog : Program} {w : World} {A : Around} {E : Value → Shared → Prop} {s : Shared} {Q : Value → Shared → Prop}
theorem eq_leaf {d d' : Dat} {nv nv' : Value} (h1 : DatIn [] nv d) (h2 : DatIn [] nv' d') (l1 : leaf d = true) (l2 : leaf d' = true) (h : Q (.bool (leafEq d d')) s) :
    wpAny (model prog w) A (compareOp .Eq nv nv') Q E s := Mine.byKey fun kzq9 => Mine.Fam.of (by exact Mine.Fam.mk : Mine.Fam ((Mine.Key.unbox kzq9 (by simp only [Mine.Key.box kzq9 (by
  clear kzq9
  cases h1 <;> first | (cases l1; done) | (cases h2 <;> first | (cases l2; done) | (walk1; exact h)))])) :))
theorem keys_leaf : ∀ k k' : _root_.Fin 4, leaf (keyD k.val) = true ∧ leafEq (keyD k.val) (keyD k'.val) = decide (k.val = k'.val) := by decide +kernel
theorem eq_name {k k' : Nat} {nv nv' : Value} (h1 : DatIn [] nv (keyD k)) (h2 : DatIn [] nv' (keyD k')) (hk : k < 4) (hk' : k' < 4) (h : Q (.bool (decide (k = k'))) s) :
    wpAny (model prog w) A (compareOp .Eq nv nv') Q E s :=
  eq_leaf h1 h2 (keys_leaf ⟨k, hk⟩ ⟨k', hk'⟩).1 (keys_leaf ⟨k', hk'⟩ ⟨k, hk⟩).1 (by rw [show leafEq (keyD k) (keyD k') = decide (k = k') from (keys_leaf ⟨k, hk⟩ ⟨k', hk'⟩).2]; exact h)
end
end Mine
end PartH11
section PartR1
open PySem PySem.W PyProof.Rows PySem.Calls PySem.Spec Mine
set_option maxHeartbeats 4000000
namespace Mine
section
variable {prog : Program} {w : World} {A : Around} {E : Value → Shared → Prop} {s : Shared} {h₀ : Heap} {L : Addr} {m : Str → Option Value} {news : List (Addr × Obj)} {Q : Value → Shared → Prop}
theorem upd_keys (kvs : List (Int × Value)) (k : Int) (v : Value) : valueAt (stored kvs k v) k = some v ∧ (∀ y, y ≠ k → valueAt (stored kvs k v) y = valueAt kvs y) ∧ (stored kvs k v).length ≤ kvs.length + 1 :=
  ⟨valueAt_storedI_eq, fun y hy => valueAt_storedI_ne (Ne.symm hy), stored_length_le _ _ _⟩
end
namespace Ep_setdefault_row
noncomputable abbrev D : Type := (Program) × (World) × (Around) × (Value → Shared → Prop) × (Shared) × (Heap) × (Addr) × (Str → Option Value) × (List (Addr × Obj)) × (Value → Shared → Prop) × (Nat → PS) × (Nat) × (Addr) × (Addr) × (Obj) × (List (Int × Value)) × (Tok) × (Addr × Obj) × (Addr × Obj) × (Addr × Obj) × (Addr × Obj) × (Addr × Obj) × (Addr × Obj) × (Addr × Obj) × (Addr × Obj) × (Addr × Obj) × (Addr × Obj) × (List (Addr × Obj))
noncomputable def S (d : D) : Prop := (fun (prog : Program) (w : World) (A : Around) (E : Value → Shared → Prop) (s : Shared) (h₀ : Heap) (L : Addr) (m : Str → Option Value) (news : List (Addr × Obj)) (Q : Value → Shared → Prop) (St : Nat → PS) (i : Nat) (e : Addr) (mp : Addr) (mpo : Obj) (mkvs : List (Int × Value)) (t : Tok) (A1 : Addr × Obj) (A2 : Addr × Obj) (A3 : Addr × Obj) (A4 : Addr × Obj) (A5 : Addr × Obj) (A7 : Addr × Obj) (A8 : Addr × Obj) (A9 : Addr × Obj) (A10 : Addr × Obj) (A11 : Addr × Obj) (ZZ : List (Addr × Obj)) => ∀ (F : Fr h₀ L s.heap m) (N : News h₀ L s.heap ((e, lst [] 0) :: A1 :: A2 :: A3 :: A4 :: A5 :: (mp, mpo) :: A7 :: A8 :: A9 :: A10 :: A11 :: ZZ)) (hZ : ZZ = chains St ++ news) (hi : i < 3) (hd : mpo.IsDictOf (intKind prog w) mkvs) (lo : (mp == sysModules) = false) (hz : mkvs.length ≤ 900) (hra : valueAt mkvs (i : Int) = (St i).ra) (hnd : ((chains St).map (·.1)).Nodup) (hoffc : ∀ q ∈ chains St, Off q.1 news) (hAZ : ∀ b ∈ [A1.1, A2.1, A3.1, A4.1, A5.1, mp, A7.1, A8.1, A9.1, A10.1, A11.1], ∀ q ∈ ZZ, q.1 ≠ b) (hlt : ∀ b ∈ [A1.1, A2.1, A3.1, A4.1, A5.1, mp, A7.1, A8.1, A9.1, A10.1, A11.1], b < e) (hlt2 : ∀ q ∈ ZZ, q.1 < e) (hmp : ∀ b ∈ [A1.1, A2.1, A3.1, A4.1, A5.1, A7.1, A8.1, A9.1, A10.1, A11.1], b ≠ mp) (h : ∀ ra n' mpo' mkvs' h', Fr h₀ L h' m → News h₀ L h' ((ra, lst (St i).rs n') :: A1 :: A2 :: A3 :: A4 :: A5 :: (mp, mpo') :: A7 :: A8 :: A9 :: A10 :: A11 :: ((St i).l ++ (others St i ++ news))) → mpo'.IsDictOf (intKind prog w) mkvs' → valueAt mkvs' (i : Int) = some (.ref ra) → (∀ y : Int, y ≠ i → valueAt mkvs' y = valueAt mkvs y) → mkvs'.length ≤ mkvs.length + 1 →
      (∀ b ∈ [A1.1, A2.1, A3.1, A4.1, A5.1, mp, A7.1, A8.1, A9.1, A10.1, A11.1], ra ≠ b) → (∀ q ∈ (St i).l ++ (others St i ++ news), q.1 ≠ ra) → Q (.ref ra) { s with heap := h', toks := s.toks + 1 }), wpAny (model prog w) A (call (.builtin "dict.setdefault") [.ref mp, .int (i : Int) t, .ref e]) Q E s) d.1 d.2.1 d.2.2.1 d.2.2.2.1 d.2.2.2.2.1 d.2.2.2.2.2.1 d.2.2.2.2.2.2.1 d.2.2.2.2.2.2.2.1 d.2.2.2.2.2.2.2.2.1 d.2.2.2.2.2.2.2.2.2.1 d.2.2.2.2.2.2.2.2.2.2.1 d.2.2.2.2.2.2.2.2.2.2.2.1 d.2.2.2.2.2.2.2.2.2.2.2.2.1 d.2.2.2.2.2.2.2.2.2.2.2.2.2.1 d.2.2.2.2.2.2.2.2.2.2.2.2.2.2.1 d.2.2.2.2.2.2.2.2.2.2.2.2.2.2.2.1 d.2.2.2.2.2.2.2.2.2.2.2.2.2.2.2.2.1 d.2.2.2.2.2.2.2.2.2.2.2.2.2.2.2.2.2.1 d.2.2.2.2.2.2.2.2.2.2.2.2.2.2.2.2.2.2.1 d.2.2.2.2.2.2.2.2.2.2.2.2.2.2.2.2.2.2.2.1 d.2.2.2.2.2.2.2.2.2.2.2.2.2.2.2.2.2.2.2.2.1 d.2.2.2.2.2.2.2.2.2.2.2.2.2.2.2.2.2.2.2.2.2.1 d.2.2.2.2.2.2.2.2.2.2.2.2.2.2.2.2.2.2.2.2.2.2.1 d.2.2.2.2.2.2.2.2.2.2.2.2.2.2.2.2.2.2.2.2.2.2.2.1 d.2.2.2.2.2.2.2.2.2.2.2.2.2.2.2.2.2.2.2.2.2.2.2.2.1 d.2.2.2.2.2.2.2.2.2.2.2.2.2.2.2.2.2.2.2.2.2.2.2.2.2.1 d.2.2.2.2.2.2.2.2.2.2.2.2.2.2.2.2.2.2.2.2.2.2.2.2.2.2.1 d.2.2.2.2.2.2.2.2.2.2.2.2.2.2.2.2.2.2.2.2.2.2.2.2.2.2.2
theorem ne : Nonempty D := ⟨(default, Mine.w00, ({} : Around), (fun _ _ => True), ({} : Shared), default, default, (fun _ => default), default, (fun _ _ => True), (fun _ => (⟨none, [], [], none, []⟩ : PS)), default, default, default, default, default, default, default, default, default, default, default, default, default, default, default, default, default)⟩
noncomputable def X : D := @Classical.epsilon D ne fun d => ¬ S d
@[irreducible] noncomputable def prog : Program := X.1
@[irreducible] noncomputable def w : World := X.2.1
@[irreducible] noncomputable def A : Around := X.2.2.1
@[irreducible] noncomputable def E : Value → Shared → Prop := X.2.2.2.1
@[irreducible] noncomputable def s : Shared := X.2.2.2.2.1
@[irreducible] noncomputable def h₀ : Heap := X.2.2.2.2.2.1
@[irreducible] noncomputable def L : Addr := X.2.2.2.2.2.2.1
@[irreducible] noncomputable def m : Str → Option Value := X.2.2.2.2.2.2.2.1
@[irreducible] noncomputable def news : List (Addr × Obj) := X.2.2.2.2.2.2.2.2.1
@[irreducible] noncomputable def Q : Value → Shared → Prop := X.2.2.2.2.2.2.2.2.2.1
@[irreducible] noncomputable def St : Nat → PS := X.2.2.2.2.2.2.2.2.2.2.1
@[irreducible] noncomputable def i : Nat := X.2.2.2.2.2.2.2.2.2.2.2.1
@[irreducible] noncomputable def e : Addr := X.2.2.2.2.2.2.2.2.2.2.2.2.1
@[irreducible] noncomputable def mp : Addr := X.2.2.2.2.2.2.2.2.2.2.2.2.2.1
@[irreducible] noncomputable def mpo : Obj := X.2.2.2.2.2.2.2.2.2.2.2.2.2.2.1
@[irreducible] noncomputable def mkvs : List (Int × Value) := X.2.2.2.2.2.2.2.2.2.2.2.2.2.2.2.1
@[irreducible] noncomputable def t : Tok := X.2.2.2.2.2.2.2.2.2.2.2.2.2.2.2.2.1
@[irreducible] noncomputable def A1 : Addr × Obj := X.2.2.2.2.2.2.2.2.2.2.2.2.2.2.2.2.2.1
@[irreducible] noncomputable def A2 : Addr × Obj := X.2.2.2.2.2.2.2.2.2.2.2.2.2.2.2.2.2.2.1
@[irreducible] noncomputable def A3 : Addr × Obj := X.2.2.2.2.2.2.2.2.2.2.2.2.2.2.2.2.2.2.2.1
@[irreducible] noncomputable def A4 : Addr × Obj := X.2.2.2.2.2.2.2.2.2.2.2.2.2.2.2.2.2.2.2.2.1
@[irreducible] noncomputable def A5 : Addr × Obj := X.2.2.2.2.2.2.2.2.2.2.2.2.2.2.2.2.2.2.2.2.2.1
@[irreducible] noncomputable def A7 : Addr × Obj := X.2.2.2.2.2.2.2.2.2.2.2.2.2.2.2.2.2.2.2.2.2.2.1
@[irreducible] noncomputable def A8 : Addr × Obj := X.2.2.2.2.2.2.2.2.2.2.2.2.2.2.2.2.2.2.2.2.2.2.2.1
@[irreducible] noncomputable def A9 : Addr × Obj := X.2.2.2.2.2.2.2.2.2.2.2.2.2.2.2.2.2.2.2.2.2.2.2.2.1
@[irreducible] noncomputable def A10 : Addr × Obj := X.2.2.2.2.2.2.2.2.2.2.2.2.2.2.2.2.2.2.2.2.2.2.2.2.2.1
@[irreducible] noncomputable def A11 : Addr × Obj := X.2.2.2.2.2.2.2.2.2.2.2.2.2.2.2.2.2.2.2.2.2.2.2.2.2.2.1
@[irreducible] noncomputable def ZZ : List (Addr × Obj) := X.2.2.2.2.2.2.2.2.2.2.2.2.2.2.2.2.2.2.2.2.2.2.2.2.2.2.2
theorem setdefault_row (F : Fr h₀ L s.heap m) (N : News h₀ L s.heap ((e, lst [] 0) :: A1 :: A2 :: A3 :: A4 :: A5 :: (mp, mpo) :: A7 :: A8 :: A9 :: A10 :: A11 :: ZZ)) (hZ : ZZ = chains St ++ news) (hi : i < 3) (hd : mpo.IsDictOf (intKind prog w) mkvs) (lo : (mp == sysModules) = false) (hz : mkvs.length ≤ 900) (hra : valueAt mkvs (i : Int) = (St i).ra) (hnd : ((chains St).map (·.1)).Nodup) (hoffc : ∀ q ∈ chains St, Off q.1 news) (hAZ : ∀ b ∈ [A1.1, A2.1, A3.1, A4.1, A5.1, mp, A7.1, A8.1, A9.1, A10.1, A11.1], ∀ q ∈ ZZ, q.1 ≠ b) (hlt : ∀ b ∈ [A1.1, A2.1, A3.1, A4.1, A5.1, mp, A7.1, A8.1, A9.1, A10.1, A11.1], b < e) (hlt2 : ∀ q ∈ ZZ, q.1 < e) (hmp : ∀ b ∈ [A1.1, A2.1, A3.1, A4.1, A5.1, A7.1, A8.1, A9.1, A10.1, A11.1], b ≠ mp) (h : ∀ ra n' mpo' mkvs' h', Fr h₀ L h' m → News h₀ L h' ((ra, lst (St i).rs n') :: A1 :: A2 :: A3 :: A4 :: A5 :: (mp, mpo') :: A7 :: A8 :: A9 :: A10 :: A11 :: ((St i).l ++ (others St i ++ news))) → mpo'.IsDictOf (intKind prog w) mkvs' → valueAt mkvs' (i : Int) = some (.ref ra) → (∀ y : Int, y ≠ i → valueAt mkvs' y = valueAt mkvs y) → mkvs'.length ≤ mkvs.length + 1 →
      (∀ b ∈ [A1.1, A2.1, A3.1, A4.1, A5.1, mp, A7.1, A8.1, A9.1, A10.1, A11.1], ra ≠ b) → (∀ q ∈ (St i).l ++ (others St i ++ news), q.1 ≠ ra) → Q (.ref ra) { s with heap := h', toks := s.toks + 1 }):
   wpAny (model prog w) A (call (.builtin "dict.setdefault") [.ref mp, .int (i : Int) t, .ref e]) Q E s := by
  have hargs : argsOk "dict.setdefault" ⟨[.ref mp, .int (i : Int) t, .ref e], []⟩ := PySem.F.args_dict_setdefault_3 _ _ _
  have inZ : ∀ q ∈ (St i).l ++ (others St i ++ news), q ∈ ZZ := fun q hq => by
    rw [hZ]
    rcases List.mem_append.mp hq with hq | hq
    · exact List.mem_append_left _ ((chains_perm St hi).mem_iff.mpr (List.mem_append_left _ (List.mem_append_left _ hq)))
    rcases List.mem_append.mp hq with hq | hq
    · exact List.mem_append_left _ ((chains_perm St hi).mem_iff.mpr (List.mem_append_right _ hq))
    · exact List.mem_append_right _ hq
  have toZ : ∀ {X : List (Addr × Obj)}, ∀ q ∈ A1 :: A2 :: A3 :: A4 :: A5 :: (mp, mpo) :: A7 :: A8 :: A9 :: A10 :: A11 :: ((St i).l ++ (others St i ++ news)), q ∈ A1 :: A2 :: A3 :: A4 :: A5 :: (mp, mpo) :: A7 :: A8 :: A9 :: A10 :: A11 :: ZZ := fun q hq => by
    simp only [List.mem_cons] at hq ⊢
    rcases hq with h | h | h | h | h | h | h | h | h | h | h | h <;> first | (simp only [h, true_or, or_true]; done) | (have := inZ q h; simp only [this, or_true])
  cases hr : (St i).row with
  | none =>
    have e1 : (St i).ra = none := by unfold PS.ra; rw [hr]; rfl
    have e2 : (St i).rs = [] := by unfold PS.rs; rw [hr]
    rw [e1] at hra
    have U : UpdF mp mpo ((e, lst [] 0) :: A1 :: A2 :: A3 :: A4 :: A5 :: (mp, mpo) :: A7 :: A8 :: A9 :: A10 :: A11 :: ZZ) (fun o' => (e, lst [] 0) :: A1 :: A2 :: A3 :: A4 :: A5 :: (mp, o') :: A7 :: A8 :: A9 :: A10 :: A11 :: ZZ) := by
      refine .tail (Ne.symm (Nat.ne_of_lt (hlt mp (by simp)))) (.tail (hmp _ (by simp)) (.tail (hmp _ (by simp)) (.tail (hmp _ (by simp)) (.tail (hmp _ (by simp)) (.tail (hmp _ (by simp)) (.head fun p hp => ?_))))))
      simp only [List.mem_cons] at hp
      rcases hp with rfl | rfl | rfl | rfl | rfl | hp
      · exact hmp _ (by simp)
      · exact hmp _ (by simp)
      · exact hmp _ (by simp)
      · exact hmp _ (by simp)
      · exact hmp _ (by simp)
      · exact hAZ mp (by simp) p hp
    refine kob_setdef_new F N U hd lo (intKind_is _ _ _ _) hargs hra (Nat.le_trans hz (by decide)) fun h' o' F' N' hd' => ?_
    obtain ⟨k1, k2, k3⟩ := upd_keys mkvs (i : Int) (.ref e)
    refine h e 0 o' _ h' F' (fun q hq => N' q ?_) hd' k1 k2 k3 (fun b hb => Ne.symm (Nat.ne_of_lt (hlt b hb))) (fun q hq => Nat.ne_of_lt (hlt2 q (inZ q hq)))
    rw [e2] at hq
    simp only [List.mem_cons] at hq ⊢
    rcases hq with h | h | h | h | h | h | h | h | h | h | h | h | h <;> first | (simp only [h, true_or, or_true]; done) | (have := inZ q h; simp only [this, or_true])
  | some row =>
    obtain ⟨ra, vs, n⟩ := row
    have e1 : (St i).ra = some (.ref ra) := by unfold PS.ra; rw [hr]; rfl
    have e2 : (St i).rs = vs := by unfold PS.rs; rw [hr]
    have e3 : (St i).rl = [(ra, lst vs n)] := by unfold PS.rl; rw [hr]
    rw [e1] at hra
    have mled : (ra, lst vs n) ∈ chains St := (chains_perm St hi).mem_iff.mpr (List.mem_append_left _ (by unfold PS.led; rw [e3]; simp))
    have mZ : (ra, lst vs n) ∈ ZZ := hZ ▸ List.mem_append_left _ mled
    refine kob_setdef_there N (.tail _ (.tail _ (.tail _ (.tail _ (.tail _ (.tail _ (.head _))))))) hd lo (intKind_is _ _ _ _) hargs hra (Nat.le_trans hz (by decide)) ?_
    refine h ra n mpo mkvs s.heap F (fun q hq => N q ?_) hd hra (fun _ _ => rfl) (Nat.le_succ _) (fun b hb => hAZ b hb _ mZ) (fun q hq => ?_)
    · rw [e2] at hq
      rcases List.mem_cons.mp hq with rfl | hq
      · refine .tail _ (.tail _ (.tail _ (.tail _ (.tail _ (.tail _ (.tail _ (.tail _ (.tail _ (.tail _ (.tail _ (.tail _ mZ)))))))))))
      · exact .tail _ (toZ (X := []) q hq)
    · have nd := (List.Perm.nodup_iff ((chains_perm St hi).map (·.1))).mp hnd
      unfold PS.led at nd
      rw [e3, List.map_append, List.map_append, List.nodup_append, List.nodup_append] at nd
      rcases List.mem_append.mp hq with hq | hq
      · exact nd.1.2.2 q.1 (List.mem_map_of_mem hq) ra (by simp)
      rcases List.mem_append.mp hq with hq | hq
      · exact fun e => nd.2.2 ra (by simp) q.1 (List.mem_map_of_mem hq) e.symm
      · exact hoffc _ mled q hq
theorem all : ∀ d, S d := Mine.eps ne (by with_unfolding_all exact @setdefault_row)
end Ep_setdefault_row
section
variable {prog : Program} {w : World} {A : Around} {E : Value → Shared → Prop} {s : Shared} {h₀ : Heap} {L : Addr} {m : Str → Option Value} {news : List (Addr × Obj)} {Q : Value → Shared → Prop}
theorem setdefault_row {St : Nat → PS} {i : Nat} {e mp : Addr} {mpo : Obj} {mkvs : List (Int × Value)} {t : Tok} {A1 A2 A3 A4 A5 A7 A8 A9 A10 A11 : Addr × Obj} {ZZ : List (Addr × Obj)}
    (F : Fr h₀ L s.heap m) (N : News h₀ L s.heap ((e, lst [] 0) :: A1 :: A2 :: A3 :: A4 :: A5 :: (mp, mpo) :: A7 :: A8 :: A9 :: A10 :: A11 :: ZZ)) (hZ : ZZ = chains St ++ news) (hi : i < 3)
    (hd : mpo.IsDictOf (intKind prog w) mkvs) (lo : (mp == sysModules) = false) (hz : mkvs.length ≤ 900) (hra : valueAt mkvs (i : Int) = (St i).ra)
    (hnd : ((chains St).map (·.1)).Nodup) (hoffc : ∀ q ∈ chains St, Off q.1 news)
    (hAZ : ∀ b ∈ [A1.1, A2.1, A3.1, A4.1, A5.1, mp, A7.1, A8.1, A9.1, A10.1, A11.1], ∀ q ∈ ZZ, q.1 ≠ b) (hlt : ∀ b ∈ [A1.1, A2.1, A3.1, A4.1, A5.1, mp, A7.1, A8.1, A9.1, A10.1, A11.1], b < e) (hlt2 : ∀ q ∈ ZZ, q.1 < e)
    (hmp : ∀ b ∈ [A1.1, A2.1, A3.1, A4.1, A5.1, A7.1, A8.1, A9.1, A10.1, A11.1], b ≠ mp)
    (h : ∀ ra n' mpo' mkvs' h', Fr h₀ L h' m → News h₀ L h' ((ra, lst (St i).rs n') :: A1 :: A2 :: A3 :: A4 :: A5 :: (mp, mpo') :: A7 :: A8 :: A9 :: A10 :: A11 :: ((St i).l ++ (others St i ++ news))) → mpo'.IsDictOf (intKind prog w) mkvs' → valueAt mkvs' (i : Int) = some (.ref ra) → (∀ y : Int, y ≠ i → valueAt mkvs' y = valueAt mkvs y) → mkvs'.length ≤ mkvs.length + 1 →
      (∀ b ∈ [A1.1, A2.1, A3.1, A4.1, A5.1, mp, A7.1, A8.1, A9.1, A10.1, A11.1], ra ≠ b) → (∀ q ∈ (St i).l ++ (others St i ++ news), q.1 ≠ ra) → Q (.ref ra) { s with heap := h', toks := s.toks + 1 }) :
    wpAny (model prog w) A (call (.builtin "dict.setdefault") [.ref mp, .int (i : Int) t, .ref e]) Q E s := Ep_setdefault_row.all (prog, w, A, E, s, h₀, L, m, news, Q, St, i, e, mp, mpo, mkvs, t, A1, A2, A3, A4, A5, A7, A8, A9, A10, A11, ZZ) F N hZ hi hd lo hz hra hnd hoffc hAZ hlt hlt2 hmp h
end
end Mine
end PartR1
section PartR2
open PySem PySem.W PyProof.Rows PySem.Calls PySem.Spec Mine
set_option maxHeartbeats 4000000
namespace Mine
section
variable {prog : Program} {w : World} {A : Around} {E : Value → Shared → Prop} {s : Shared} {h₀ : Heap} {L : Addr} {m : Str → Option Value} {news news' : List (Addr × Obj)}
theorem set1 {D : Addr} {vs : List Value} {n : Nat} {k : Int} {t : Tok} {v : Value} {Q : Unit → Shared → Prop} (F : Fr h₀ L s.heap m) (N : News h₀ L s.heap news) (U : Upd D (lst vs n) (lst (vs.set k.toNat v) n) news news') (h0 : 0 ≤ k) (h1 : k < vs.length) (hz : vs.length ≤ 1000)
    (h : ∀ h', Fr h₀ L h' m → News h₀ L h' news' → Q () { s with heap := h' }) : wpAny (model prog w) A (setItem (.ref D) (.int k t) v) Q E s := by
  obtain ⟨pre, post, rfl, rfl, a, b⟩ := U.split
  have z := N (D, lst vs n) (List.mem_append.mpr (.inr (.head _)))
  have hs : vs.toArray.size = vs.length := by simp
  refine ki_setAt z.1 h0 (by omega) (by omega) (h _ (F.change (Heap.SameBut.update ..) z.2.1 z.2.2) (ki_turn _ N a b ?_ ?_))
  · show vs.toArray.setIfInBounds k.toNat v = (vs.set k.toNat v).toArray
    apply Array.toList_inj.mp
    simp
  · simp
theorem ext2 {D b : Addr} {vs ws : List Value} {n n2 : Nat} {Q : Value → Shared → Prop} (F : Fr h₀ L s.heap m) (N : News h₀ L s.heap news) (hb : (b, lst ws n2) ∈ news) (hne : ws ≠ []) (U : Upd D (lst vs n) (lst (vs ++ ws) (n + 1)) news news') (hz : vs.length ≤ 500) (hz2 : ws.length ≤ 4)
    (h : ∀ h', Fr h₀ L h' m → News h₀ L h' news' → Q .none { s with heap := h' }) : wpAny (model prog w) A (call (.builtin "list.extend") [.ref D, .ref b]) Q E s := by
  have z : vs.length + ws.length ≤ 504 := by omega
  refine kl_extend F N hb rfl (by simpa using hne) U ?_ ?_ ?_ h
  · have : Builtin.List.listTooLong (vs.toArray.size + ws.toArray.size) = false := by
      rw [List.size_toArray, List.size_toArray]
      unfold Builtin.List.listTooLong
      rw [decide_eq_false]
      exact Nat.not_lt.mpr (Nat.le_trans z (by decide))
    rw [this]
    simp
  · simpa using Nat.le_trans hz (by decide)
  · rw [List.size_toArray, List.size_toArray]; exact Nat.le_trans z (by decide)
theorem ints_dat : ∀ {ys : List Value}, (∀ y ∈ ys, ∃ i t, y = .int i t) → ∃ ds, DatAll [] ys ds ∧ (∀ d ∈ ds, kqdOk 8 d = true) ∧ ds.length = ys.length
  | [], _ => ⟨[], .nil, fun _ h => (nomatch h), rfl⟩
  | y :: ys, h => by
    obtain ⟨i, t, rfl⟩ := h y (.head _)
    obtain ⟨ds, h1, h2, h3⟩ := ints_dat fun z hz => h z (.tail _ hz)
    refine ⟨.int i :: ds, .cons (.int i t) h1, fun d hd => ?_, by simp [h3]⟩
    rcases List.mem_cons.mp hd with rfl | hd
    · rfl
    · exact h2 d hd
theorem ne_nil {a b : Addr} {ys : List Value} {n k : Nat} {Q : Value → Shared → Prop} (N : News h₀ L s.heap news) (ma : (a, lst ys n) ∈ news) (mb : (b, lst [] k) ∈ news) (hy : ∀ y ∈ ys, ∃ i t, y = .int i t) (hu : A.units + 64 < cLine) (h : Q (.bool (!ys.isEmpty)) s) :
    wpAny (model prog w) A (compareOp .NotEq (.ref a) (.ref b)) Q E s := by
  classical
  obtain ⟨ds, h1, h2, h3⟩ := ints_dat hy
  refine kqd_ne (n₁ := []) (n₂ := []) (es := []) N ma rfl rfl h1 (by intro _ h; cases h) mb rfl rfl .nil (by intro _ h; cases h) h2 (by intro _ h; cases h) hu ?_
  have e : (decide (ds = [])) = ys.isEmpty := by
    cases ys with
    | nil => cases ds with
      | nil => simp
      | cons _ _ => simp at h3
    | cons _ _ => cases ds with
      | nil => simp at h3
      | cons _ _ => simp
  rw [e]
  exact h
theorem eq_nil {a b : Addr} {ys : List Value} {n k : Nat} {Q : Value → Shared → Prop} (N : News h₀ L s.heap news) (ma : (a, lst ys n) ∈ news) (mb : (b, lst [] k) ∈ news) (hy : ∀ y ∈ ys, ∃ i t, y = .int i t) (hu : A.units + 64 < cLine) (h : Q (.bool ys.isEmpty) s) :
    wpAny (model prog w) A (compareOp .Eq (.ref a) (.ref b)) Q E s := by
  classical
  obtain ⟨ds, h1, h2, h3⟩ := ints_dat hy
  refine kqd_eq (n₁ := []) (n₂ := []) (es := []) N ma rfl rfl h1 (by intro _ h; cases h) mb rfl rfl .nil (by intro _ h; cases h) h2 (by intro _ h; cases h) hu ?_
  have e : (decide (ds = [])) = ys.isEmpty := by
    cases ys with
    | nil => cases ds with
      | nil => simp
      | cons _ _ => simp at h3
    | cons _ _ => cases ds with
      | nil => simp at h3
      | cons _ _ => simp
  rw [e]
  exact h
theorem eq_rows {a b : Addr} {xs ys : List Value} {ds : List Dat} {n k : Nat} {Q : Value → Shared → Prop} (N : News h₀ L s.heap news) (ma : (a, lst xs n) ∈ news) (mb : (b, lst ys k) ∈ news) (hx : DatAll [] xs ds) (hy : DatAll [] ys ds) (hok : ∀ d ∈ ds, kqdOk 8 d = true) (hu : A.units + 64 < cLine) (h : Q (.bool true) s) :
    wpAny (model prog w) A (compareOp .Eq (.ref a) (.ref b)) Q E s := by
  classical
  refine kqd_eq (n₁ := []) (n₂ := []) N ma rfl rfl hx (by intro _ h; cases h) mb rfl rfl hy (by intro _ h; cases h) hok hok hu ?_
  simpa using h
end
theorem toPut {B0 B1 B2 B3 B4 B5 B6 B7 B8 B9 E1 E2 E3 : Addr × Obj} {l OT : List (Addr × Obj)} : ∀ q ∈ E1 :: E2 :: E3 :: (l ++ (B0 :: B1 :: B2 :: B3 :: B4 :: B5 :: B6 :: B7 :: B8 :: B9 :: OT)), q ∈ B0 :: B1 :: B2 :: B3 :: B4 :: B5 :: B6 :: B7 :: E1 :: E2 :: E3 :: B8 :: B9 :: (l ++ OT) := by
  intro q hq
  rcases List.mem_append.mp (show q ∈ [E1, E2, E3] ++ (l ++ ([B0, B1, B2, B3, B4, B5, B6, B7] ++ ([B8, B9] ++ OT))) from hq) with h | h
  · exact List.mem_append_right [B0, B1, B2, B3, B4, B5, B6, B7] (List.mem_append_left (B8 :: B9 :: (l ++ OT)) h)
  rcases List.mem_append.mp h with h | h
  · exact List.mem_append_right [B0, B1, B2, B3, B4, B5, B6, B7, E1, E2, E3, B8, B9] (List.mem_append_left OT h)
  rcases List.mem_append.mp h with h | h
  · exact List.mem_append_left (E1 :: E2 :: E3 :: B8 :: B9 :: (l ++ OT)) h
  rcases List.mem_append.mp h with h | h
  · exact List.mem_append_right [B0, B1, B2, B3, B4, B5, B6, B7, E1, E2, E3] (List.mem_append_left (l ++ OT) h)
  · exact List.mem_append_right [B0, B1, B2, B3, B4, B5, B6, B7, E1, E2, E3, B8, B9] (List.mem_append_right l h)
theorem ofPut {B0 B1 B2 B3 B4 B5 B6 B7 B8 B9 E1 E2 E3 : Addr × Obj} {l OT : List (Addr × Obj)} : ∀ q ∈ B0 :: B1 :: B2 :: B3 :: B4 :: B5 :: B6 :: B7 :: E1 :: E2 :: E3 :: B8 :: B9 :: (l ++ OT), q ∈ E1 :: E2 :: E3 :: (l ++ (B0 :: B1 :: B2 :: B3 :: B4 :: B5 :: B6 :: B7 :: B8 :: B9 :: OT)) := by
  intro q hq
  have R : ∀ {q}, q ∈ [B0, B1, B2, B3, B4, B5, B6, B7] ++ ([B8, B9] ++ OT) → q ∈ E1 :: E2 :: E3 :: (l ++ (B0 :: B1 :: B2 :: B3 :: B4 :: B5 :: B6 :: B7 :: B8 :: B9 :: OT)) := fun h => List.mem_append_right [E1, E2, E3] (List.mem_append_right l h)
  rcases List.mem_append.mp (show q ∈ [B0, B1, B2, B3, B4, B5, B6, B7] ++ ([E1, E2, E3] ++ ([B8, B9] ++ (l ++ OT))) from hq) with h | h
  · exact R (List.mem_append_left _ h)
  rcases List.mem_append.mp h with h | h
  · exact List.mem_append_left (l ++ (B0 :: B1 :: B2 :: B3 :: B4 :: B5 :: B6 :: B7 :: B8 :: B9 :: OT)) h
  rcases List.mem_append.mp h with h | h
  · exact R (List.mem_append_right _ (List.mem_append_left _ h))
  rcases List.mem_append.mp h with h | h
  · exact List.mem_append_right [E1, E2, E3] (List.mem_append_left _ h)
  · exact R (List.mem_append_right _ (List.mem_append_right _ h))
/-- a part that grew by newest addresses stands apart from what it stood apart from -/
theorem grow_off {l l' : List (Addr × Obj)} {as : List Addr} {b : Addr} (h : l'.map (·.1) = l.map (·.1) ++ as) (h1 : ∀ q ∈ l, q.1 ≠ b) (h2 : ∀ a ∈ as, a ≠ b) : ∀ q ∈ l', q.1 ≠ b := by
  intro q hq
  have : q.1 ∈ l'.map (·.1) := List.mem_map_of_mem hq
  rw [h] at this
  rcases List.mem_append.mp this with h | h
  · obtain ⟨q', hq', e⟩ := List.mem_map.mp h
    rw [← e]; exact h1 q' hq'
  · exact h2 _ h
theorem grow_nodup {l l' : List (Addr × Obj)} {as : List Addr} (h : l'.map (·.1) = l.map (·.1) ++ as) (h1 : (l.map (·.1)).Nodup) (h2 : as.Nodup) (h3 : ∀ a ∈ as, ∀ q ∈ l, q.1 < a) : (l'.map (·.1)).Nodup := by
  rw [h, List.nodup_append]
  refine ⟨h1, h2, fun x hx y hy => ?_⟩
  obtain ⟨q, hq, rfl⟩ := List.mem_map.mp hx
  exact Nat.ne_of_lt (h3 y hy q hq)
end Mine
end PartR2
section PartR3
open PySem PySem.W PyProof.Rows PySem.Calls PySem.Spec Mine
set_option maxHeartbeats 4000000
namespace Mine
theorem st_end {St : Nat → PS} {i : Nat} {S' : PS} {news l' : List (Addr × Obj)} {E : List Addr} {ra : Addr} {o : Obj} (hi : i < 3) (hE : (E ++ (chains St).map (·.1)).Nodup) (hoffc : ∀ q ∈ chains St, Off q.1 news)
    (hS : S'.led = l' ++ [(ra, o)]) (hnl : (l'.map (·.1)).Nodup) (hfl : ∀ b ∈ E, ∀ q ∈ l', q.1 ≠ b) (hrl : ∀ q ∈ l', q.1 ≠ ra) (hol : ∀ q ∈ l', ∀ p ∈ others St i ++ news, p.1 ≠ q.1) (hraE : ∀ b ∈ E, ra ≠ b) (hraO : ∀ p ∈ others St i ++ news, p.1 ≠ ra) :
    (E ++ (chains (updS St i S')).map (·.1)).Nodup ∧ ∀ q ∈ chains (updS St i S'), Off q.1 news := by
  have pm := chains_upd St hi S'
  rw [hS] at pm
  have po := chains_perm St hi
  obtain ⟨e1, e2, e3⟩ := List.nodup_append.mp hE
  have nd := (List.Perm.nodup_iff (po.map (·.1))).mp e2
  rw [List.map_append, List.nodup_append] at nd
  have hoC : ∀ q ∈ others St i, q ∈ chains St := fun q hq => po.mem_iff.mpr (List.mem_append_right _ hq)
  constructor
  · rw [List.nodup_append]
    refine ⟨e1, (List.Perm.nodup_iff (pm.map (·.1))).mpr ?_, fun b hb y hy e => ?_⟩
    · rw [List.map_append, List.map_append, List.nodup_append, List.nodup_append]
      refine ⟨⟨hnl, by simp, fun x hx y hy => ?_⟩, nd.2.1, fun x hx y hy => ?_⟩
      · obtain ⟨q, hq, rfl⟩ := List.mem_map.mp hx
        simp only [List.map_cons, List.map_nil, List.mem_singleton] at hy
        subst hy
        exact hrl q hq
      · obtain ⟨p, hp, rfl⟩ := List.mem_map.mp hy
        rcases List.mem_append.mp hx with hx | hx
        · obtain ⟨q, hq, rfl⟩ := List.mem_map.mp hx
          exact fun e => hol q hq p (List.mem_append_left _ hp) e.symm
        · simp only [List.map_cons, List.map_nil, List.mem_singleton] at hx
          subst hx
          exact fun e => hraO p (List.mem_append_left _ hp) e.symm
    · subst e
      have hy' := (pm.map (·.1)).mem_iff.mp hy
      obtain ⟨q, hq, rfl⟩ := List.mem_map.mp hy'
      rcases List.mem_append.mp hq with hq | hq
      · rcases List.mem_append.mp hq with hq | hq
        · exact hfl _ hb q hq rfl
        · rw [List.mem_singleton.mp hq] at hb
          exact hraE _ hb rfl
      · exact e3 _ hb q.1 (List.mem_map_of_mem (hoC q hq)) rfl
  · intro q hq
    rcases List.mem_append.mp (pm.mem_iff.mp hq) with hq | hq
    · rcases List.mem_append.mp hq with hq | hq
      · exact fun p hp => hol q hq p (List.mem_append_right _ hp)
      · rw [List.mem_singleton.mp hq]
        exact fun p hp => hraO p (List.mem_append_right _ hp)
    · exact hoffc q (hoC q hq)
theorem PS.Ok.mono {P : Params} {xA : Addr} {B B' M M' : Nat} {S : PS} (h : S.Ok P xA B M) (hB : B ≤ B') (hM : M ≤ M') : S.Ok P xA B' M' :=
  ⟨h.ch, h.pr.mono fun _ _ z => ⟨z.1, Nat.lt_of_lt_of_le z.2 hB⟩, Nat.le_trans h.len hM⟩
end Mine
end PartR3
section PartH12
open PySem PySem.W PyProof.Rows PySem.Calls PySem.Spec Mine
set_option maxHeartbeats 40000000
theorem Mine.regH121 : True := by
  k_with "T k_steps" => (guard_hyp fl9 : Mine.Fl 46; (repeat' (first | k_extra "MY xcut" | (k_unfold; (try dsimp only)) | (k_end; wrow_close) | (walk1; (try dsimp only)) | (dsimp only; walk1) | (leave1; walk_say "STEP leave1"; try dsimp only) | k_extra "MY qback" | fail "no step")))
  exact trivial
namespace Mine
theorem aps1_of {a : Addr} : ∀ {l : List Addr}, (∀ b ∈ l, a ≠ b) → Aps1 a l
  | [], _ => trivial
  | b :: l, h => ⟨h b (.head _), aps1_of fun c hc => h c (.tail _ hc)⟩
theorem aps_of : ∀ {l : List Addr}, l.Nodup → Aps l
  | [], _ => trivial
  | a :: l, h => by
    rw [List.nodup_cons] at h
    exact ⟨aps1_of fun b hb e => h.1 (e ▸ hb), aps_of h.2⟩
theorem Mine.regH122 : True := by
  k_with "call ref" => (guard_hyp fl9 : Mine.Fl 46; ((k_here; (with_reducible show wpAny _ _ (call (Value.ref 288) _) _ _ _); k_dflt (refine wpAny_toks ?_); k_dflt (refine' draw_at (by k_asm) (by k_asm) (by k_asm) (by k_asm) (by k_asm) (by first | exact rfl | assumption) (by ktr_room) (by units_room) (by k_dflt k_updF) (by k_asm) (by k_asm) (by first | decide | omega) (by first | decide | omega) ?_) ; intro r' tkzq9 vs' ns' n' hzq9 tk2' Fzq9 Nzq9 hvzq9 hn' hr0 hr1 htk'; (try dsimp only at Nzq9); (try dsimp only at htk'); (try k_sweep))))
  k_with "call ref" => (guard_hyp fl9 : Mine.Fl 46; ((k_here; (with_reducible show wpAny _ _ (call (Value.ref 243) _) _ _ _); refine Hold.out ?_)))
  k_with "call ref" => (guard_hyp fl9 : Mine.Fl 46; ((k_here; (with_reducible show wpAny _ _ (call (Value.ref 194) _) _ _ _); refine Hold.out ?_)))
  k_with "call ref" => (guard_hyp fl9 : Mine.Fl 46; ((k_here; (with_reducible show wpAny _ _ (call (Value.ref 187) _) _ _ _); refine Hold.out ?_)))
  k_with "call ref" => (guard_hyp fl9 : Mine.Fl 46; ((k_here; (with_reducible show wpAny _ _ (call (Value.ref 166) _) _ _ _); refine Hold.out ?_)))
  k_with "call ref" => (guard_hyp fl9 : Mine.Fl 46; ((k_here; (with_reducible show wpAny _ _ (call (Value.ref 300) _) _ _ _); refine Hold.out ?_)))
  exact trivial
inductive CutV (h₀ : Heap) (L : Addr) (s : Shared) (m : Str → Option Value) (led : List (Addr × Obj)) (P : Prop) (s₃ : Shared) : Prop
  | mk (h' : Heap) (tk' : Nat) (e : s₃ = { s with heap := h', toks := tk' }) (F : Fr h₀ L h' m) (N : News h₀ L h' led) (p : P)
inductive CutS (h₀ : Heap) (L : Addr) (s : Shared) (m : Str → Option Value) (P : List (Addr × Obj) → Prop) (fl : Flow) (s₃ : Shared) : Prop
  | mk (f : fl = .next) (h' : Heap) (tk' : Nat) (led : List (Addr × Obj)) (vo : Option Value) (e : s₃ = { s with heap := h', toks := tk' }) (F : Fr h₀ L h' (fun z => if z = "value" then vo else m z)) (N : News h₀ L h' led) (p : P led)
theorem cut_val {prog : Program} {w : World} {A : Around} {E : Value → Shared → Prop} {s : Shared} {h₀ : Heap} {L : Addr} {m : Str → Option Value} {led : List (Addr × Obj)} {t : Sem Value} {Q : Value → Shared → Prop} (F : Fr h₀ L s.heap m) (N : News h₀ L s.heap led) (P : Value → Prop)
    (h1 : wpAny (model prog w) A t (fun v s₃ => Hold (CutV h₀ L s m led (P v) s₃)) E s)
    (h2 : ∀ v h' tk', Fr h₀ L h' m → News h₀ L h' led → P v → Q v { s with heap := h', toks := tk' }) : wpAny (model prog w) A t Q E s :=
  wpAny_mono h1 (fun v s₃ h => by obtain ⟨h', tk', rfl, F', N', p⟩ := h; exact h2 v h' tk' F' N' p) fun _ _ e => e
theorem allLt_ap2 {d : Nat} : ∀ {l : List (Addr × Obj)}, AllLt d l → ∀ p ∈ l, p.1 ≠ d + 1 + 1 := fun h p hp => Nat.ne_of_lt (Nat.lt_trans (AllLt.lt h p hp) (Nat.lt_succ_of_lt (Nat.lt_succ_self d)))
theorem Mine.regH123 : True := by
  k_with "T k_all" => (guard_hyp fl9 : Mine.Fl 46; (exact allLt_ap2 (by assumption)))
  exact trivial
theorem cut_stmt {prog : Program} {w : World} {A : Around} {E : Value → Shared → Prop} {s : Shared} {h₀ : Heap} {L : Addr} {m : Str → Option Value} {t : Sem Flow} {Q : Flow → Shared → Prop} (F : Fr h₀ L s.heap m) (P : List (Addr × Obj) → Prop)
    (h1 : wpAny (model prog w) A t (fun fl s₃ => Hold (CutS h₀ L s m P fl s₃)) E s)
    (h2 : ∀ h' tk' led vo, Fr h₀ L h' (fun z => if z = "value" then vo else m z) → News h₀ L h' led → P led → Q .next { s with heap := h', toks := tk' }) : wpAny (model prog w) A t Q E s :=
  wpAny_mono h1 (fun v s₃ h => by obtain ⟨rfl, h', tk', led, vo, rfl, F', N', p⟩ := h; exact h2 h' tk' led vo F' N' p) fun _ _ e => e
theorem frSame {h₀ h : Heap} {L : Addr} {m m' : Str → Option Value} (F : Fr h₀ L h m) (e : ∀ z, m z = m' z) : Fr h₀ L h m' := by
  have q : m = m' := funext e
  subst q
  exact F
theorem newsOf {h₀ h : Heap} {L : Addr} {l1 l2 : List (Addr × Obj)} (N : News h₀ L h l1) (hs : ∀ q ∈ l2, q ∈ l1) : News h₀ L h l2 := fun q hq => N q (hs q hq)
theorem frVal {h₀ h : Heap} {L : Addr} {m : Str → Option Value} (F : Fr h₀ L h m) (e : m "value" = none) : Fr h₀ L h (fun z => if z = "value" then none else m z) := frSame F fun z => by
  by_cases h : z = "value"
  · subst h
    show m "value" = none
    exact e
  · simp only [if_neg h]
theorem snoc_pack {D : Nat → Value → Prop} {cars cars' rs : List Value} {r : List (Nat × Int)} {k : Nat} {kv nv : Value} {v : Int} {t : Tok} (h : PR D cars rs r) (hD : D k kv) (hk : k < 4) (hn : DatIn [] nv (keyD k)) (e : cars' = cars ++ [kv, .int v t]) : PR D cars' (rs ++ [nv, .int v t]) (r ++ [(k, v)]) := by
  rw [e]; exact h.snoc hD hk hn v t t
theorem set_pack {D : Nat → Value → Prop} {cars cars' rs : List Value} {r : List (Nat × Int)} {k j : Nat} {v : Int} {t : Tok} (h : PR D cars rs r) (hj : pos k r = some j) (e : cars' = cars.set (2 * j + 1) (.int v t)) : ∃ r', PR D cars' (rs.set (2 * j + 1) (.int v t)) r' ∧ r'.length = r.length := by
  obtain ⟨r', h1, h2, _⟩ := h.set hj v t t
  exact ⟨r', by rw [e]; exact h1, h2⟩
noncomputable def StopCmp : Prop := True
theorem Mine.regH124 : True := by
  k_with "exec If Compare" => (guard_hyp fl9 : Mine.Fl 46; ((k_here; (have h9 : StopCmp := by assumption); clear h9; refine Hold.out ?_)))
  exact trivial
noncomputable def StopIf : Prop := True
theorem Mine.regH125 : True := by
  k_with "eval IfExp" => (guard_hyp fl9 : Mine.Fl 46; ((k_here; (have h9 : StopIf := by assumption); clear h9; refine Hold.out ?_)))
  k_with "call builtin:isinstance" => (guard_hyp fl9 : Mine.Fl 46; ((k_here; (with_reducible show wpAny _ _ (call _ [Value.ref _, Value.type _]) _ _ _); k_dflt (refine isi_sym_int (by k_asm) (by k_asm) (by k_asm) (SymOf.mono (by assumption) (by k_extra "MY sub")) ?_))))
  k_with "exec Assign cons ListComp" => (guard_hyp fl9 : Mine.Fl 46; ((k_here; refine Hold.out ?_)))
  k_with "compareOp Eq" => (guard_hyp fl9 : Mine.Fl 46; ((k_here; k_dflt (refine eq_name (by assumption) (by assumption) (by assumption) (by assumption) ?_))))
  k_with "compareOp NotEq ref ref" => (guard_hyp fl9 : Mine.Fl 46; ((k_here; k_dflt (refine ne_nil (by k_asm) (by k_mem) (by k_mem) (by assumption) (by units_room) ?_); (try dsimp only [List.isEmpty, Bool.not]))))
  k_with "setItem ref int" => (guard_hyp fl9 : Mine.Fl 46; ((k_here; k_dflt (refine' set1 (by k_asm) (by k_asm) (by k_upd) (by first | assumption | omega) (by first | assumption | omega) (by first | exact Mine.rm0 (by k_extra "MY len") (by rfl) | omega) ?_); intro hzq9 Fzq9 Nzq9)))
  k_with "call builtin:list.extend" => (guard_hyp fl9 : Mine.Fl 46; ((k_here; k_dflt (refine' ext2 (by k_asm) (by k_asm) (by k_mem) (by simp) (by k_upd) (by first | exact Mine.rm0 (by k_extra "MY len") (by rfl) | omega) (by simp) ?_); intro hzq9 Fzq9 Nzq9)))
  k_with "newList" => (guard_hyp fl9 : Mine.Fl 46; ((k_here; k_dflt (refine' newList_K (by k_asm) (by k_asm) ?_ (by exact Nat.le_of_ble_eq_true rfl); k_whole); intro lzq9 hzq9 Fzq9 Nzq9 l1zq9; (try k_lt l1zq9); (try k_sweep))))
  k_with "compareOp Eq ref ref" => (guard_hyp fl9 : Mine.Fl 46; ((k_here; k_dflt (refine eq_rows (by k_asm) (by k_mem) (by k_mem) (by assumption) (by assumption) (by assumption) (by units_room) ?_))))
  k_with "compareOp Eq ref ref" => (guard_hyp fl9 : Mine.Fl 46; ((k_here; k_dflt (refine eq_nil (by k_asm) (by k_mem) (by k_mem) (by assumption) (by units_room) ?_); (try dsimp only [List.isEmpty, Bool.not]))))
  k_with "call builtin:dict.setdefault" => (guard_hyp fl9 : Mine.Fl 46; ((k_here; refine Hold.out ?_)))
  exact trivial
noncomputable def IsIdx (n : Int) (v : Value) : Prop := ∃ i t, v = .int i t ∧ 0 ≤ i ∧ i < n
theorem steps_small : ∀ k : Nat, k ≤ 200 → Builtin.Range.small 0 ((2 * k : Nat) : Int) 2 = true ∧ Builtin.Range.rangeSize 0 ((2 * k : Nat) : Int) 2 = (k : Int) := by
  have h : ∀ k : _root_.Fin 201, Builtin.Range.small 0 ((2 * k.val : Nat) : Int) 2 = true ∧ Builtin.Range.rangeSize 0 ((2 * k.val : Nat) : Int) 2 = (k.val : Int) := by decide +kernel
  exact fun k hk => h ⟨k, by omega⟩
theorem tn0 (j : Nat) : (0 + (j : Int) * 2).toNat = 2 * j := by omega
theorem tn1 (j : Nat) : (0 + (j : Int) * 2 + 1).toNat = 2 * j + 1 := by omega
theorem fin_mem {D T1 T2 T3 O1 P1 C1 C2 P2 x1 x2 : Addr × Obj} {St : Nat → PS} {i : Nat} {v' : Option Value} {cars' rs' : List Value} {l' news : List (Addr × Obj)} {ra : Addr} {n3 : Nat} {r' : List (Nat × Int)} (hi : i < 3) :
    ∀ q ∈ D :: T1 :: T2 :: T3 :: O1 :: P1 :: C1 :: C2 :: P2 :: (chains (updS St i ⟨v', cars', l', some (ra, rs', n3), r'⟩) ++ news), q ∈ C1 :: C2 :: P2 :: (ra, lst rs' n3) :: T1 :: T2 :: T3 :: D :: O1 :: P1 :: x1 :: x2 :: (l' ++ (others St i ++ news)) := by
  intro q hq
  have R : ∀ {q}, q ∈ l' ++ (others St i ++ news) → q ∈ C1 :: C2 :: P2 :: (ra, lst rs' n3) :: T1 :: T2 :: T3 :: D :: O1 :: P1 :: x1 :: x2 :: (l' ++ (others St i ++ news)) := fun h => List.mem_append_right [C1, C2, P2, (ra, lst rs' n3), T1, T2, T3, D, O1, P1, x1, x2] h
  rcases List.mem_append.mp (show q ∈ [D] ++ ([T1, T2, T3] ++ ([O1, P1] ++ ([C1, C2, P2] ++ (chains (updS St i ⟨v', cars', l', some (ra, rs', n3), r'⟩) ++ news)))) from hq) with h | h
  · exact List.mem_append_right [C1, C2, P2, (ra, lst rs' n3), T1, T2, T3] (List.mem_append_left (O1 :: P1 :: x1 :: x2 :: (l' ++ (others St i ++ news))) h)
  rcases List.mem_append.mp h with h | h
  · exact List.mem_append_right [C1, C2, P2, (ra, lst rs' n3)] (List.mem_append_left (D :: O1 :: P1 :: x1 :: x2 :: (l' ++ (others St i ++ news))) h)
  rcases List.mem_append.mp h with h | h
  · exact List.mem_append_right [C1, C2, P2, (ra, lst rs' n3), T1, T2, T3, D] (List.mem_append_left (x1 :: x2 :: (l' ++ (others St i ++ news))) h)
  rcases List.mem_append.mp h with h | h
  · exact List.mem_append_left ((ra, lst rs' n3) :: T1 :: T2 :: T3 :: D :: O1 :: P1 :: x1 :: x2 :: (l' ++ (others St i ++ news))) h
  rcases List.mem_append.mp h with h | h
  · rcases List.mem_append.mp ((chains_upd St hi _).mem_iff.mp h) with h | h
    · rcases List.mem_append.mp h with h | h
      · exact R (List.mem_append_left _ h)
      · exact List.mem_append_right [C1, C2, P2] (List.mem_append_left (T1 :: T2 :: T3 :: D :: O1 :: P1 :: x1 :: x2 :: (l' ++ (others St i ++ news))) h)
    · exact R (List.mem_append_right _ (List.mem_append_left _ h))
  · exact R (List.mem_append_right _ (List.mem_append_right _ h))
theorem all9 {P : Addr → Prop} {ra dk tab tabD rl mo mp ce ceD pd x y : Addr} (h : ∀ b ∈ [ra, tab, tabD, rl, dk, mo, mp, ce, ceD, pd, x, y], P b) : ∀ b ∈ [dk, tab, tabD, rl, mo, mp, ce, ceD, pd], P b := by
  intro b hb
  rcases List.mem_append.mp (show b ∈ [dk] ++ ([tab, tabD, rl] ++ [mo, mp, ce, ceD, pd]) from hb) with h1 | h1
  · exact h b (List.mem_append_right [ra, tab, tabD, rl] (List.mem_append_left [mo, mp, ce, ceD, pd, x, y] h1))
  rcases List.mem_append.mp h1 with h1 | h1
  · exact h b (List.mem_append_right [ra] (List.mem_append_left [dk, mo, mp, ce, ceD, pd, x, y] h1))
  · exact h b (List.mem_append_right [ra, tab, tabD, rl, dk] (List.mem_append_left [x, y] h1))
theorem fin_st {P : Params} {xA : Addr} {Bt Bt' M i : Nat} {St : Nat → PS} {S' : PS} {kvs kvs' mkvs mkvs' : List (Int × Value)} (hP : ∀ j, j < 3 → valueAt kvs ((j : Nat) : Int) = (St j).v ∧ valueAt mkvs ((j : Nat) : Int) = (St j).ra ∧ (St j).Ok P xA Bt M) (h1 : valueAt kvs' ((i : Nat) : Int) = S'.v) (h2 : valueAt mkvs' ((i : Nat) : Int) = S'.ra) (ok : S'.Ok P xA Bt' (M + 1)) (hB : Bt ≤ Bt') (hy : ∀ y : Int, y ≠ ((i : Nat) : Int) → valueAt kvs' y = valueAt kvs y) (hm : ∀ y : Int, y ≠ ((i : Nat) : Int) → valueAt mkvs' y = valueAt mkvs y) :
    ∀ j, j < 3 → valueAt kvs' ((j : Nat) : Int) = (updS St i S' j).v ∧ valueAt mkvs' ((j : Nat) : Int) = (updS St i S' j).ra ∧ (updS St i S' j).Ok P xA Bt' (M + 1) := by
  intro j hj
  unfold updS
  by_cases hji : j = i
  · subst hji
    rw [if_pos rfl]
    exact ⟨h1, h2, ok⟩
  · rw [if_neg hji]
    obtain ⟨q1, q2, q3⟩ := hP j hj
    have hji' : ((j : Nat) : Int) ≠ ((i : Nat) : Int) := fun e => hji (Int.ofNat.inj e)
    exact ⟨(hy _ hji').trans q1, (hm _ hji').trans q2, q3.mono hB (Nat.le_succ _)⟩
theorem tn2 (j : Nat) : 0 ≤ 0 + (j : Int) * 2 := by omega
theorem tn3 (j : Nat) : 0 ≤ 0 + (j : Int) * 2 + 1 := by omega
theorem tn4 {j n k : Nat} (h : j < n) (e : k = 2 * n) : 0 + (j : Int) * 2 + 1 < (k : Int) := by omega
theorem dbl {a b c d : Nat} (e : a = 2 * b) (h : b ≤ c) (k : Nat.ble (2 * c) d = true) : a ≤ d := by
  rw [e]
  exact Nat.le_trans (Nat.mul_le_mul_left 2 h) (Nat.le_of_ble_eq_true k)
theorem tk_a {a b : Nat} (h : a + 1 + 1 ≤ b) : a < b + 1 + 1 + 1 := Nat.lt_of_lt_of_le (Nat.lt_of_succ_lt h) (Nat.le_add_right b 3)
noncomputable def StopToks : Prop := True
theorem tok_gen {α : Type} {M : Model} {A : Around} {t : Sem α} {Q : α → Shared → Prop} {E : Value → Shared → Prop} {s : Shared} (h : ∀ n, s.toks ≤ n → wpAny M A t Q E { s with toks := n }) : wpAny M A t Q E s := h s.toks (Nat.le_refl _)
theorem Mine.regH126 : True := by
  k_with "execs cons" => (guard_hyp fl9 : Mine.Fl 46; ((k_here; (have h9 : StopToks := by assumption); clear h9; refine Hold.out ?_)))
  exact trivial
theorem lst_cases3 {t1 t2 t3 : Tok} : ∀ v ∈ [Value.int 0 t1, .int 1 t2, .int 2 t3], IsIdx 3 v := by
  intro v hv
  simp only [List.mem_cons, List.not_mem_nil, or_false] at hv
  rcases hv with rfl | rfl | rfl <;> exact ⟨_, _, rfl, by decide, by decide⟩
theorem sym_one {P : Params} {fz : List (Addr × Obj)} {x : Addr} {nm : Str} (S : SymOf P fz x 1 nm) : x = 81 := by
  rcases S with ⟨_, h, _⟩ | ⟨h, _, _⟩ | ⟨h, _⟩
  · cases h
  · exact h
  · omega
section
variable {prog : Program} {w : World} {p : Program} {loose : List Str} {mean : ExcName → Option Value} {mg mb : Str → Option Value}
 {dp un : Nat} {gd : Option (List Code)} {cn : Str} {cs : Scope} {a : Addr} {ccd : Value} {cl : List (Str × Addr)} {outer : List Env} {A₀ : Around} {base h₀ : Heap} {L : Addr} {m : Str → Option Value} {news fz : List (Addr × Obj)} {s : Shared} {Q E : Value → Shared → Prop}
variable {dk tab tabD rl mo mr mn mp mf ce ceD fd pd nd xA : Addr} {t1 t2 t3 t4 : Tok} {moo mpo po : Obj} {vs dvs : List Value} {dns : List Int} {dn n : Nat} {kvs mkvs : List (Int × Value)} {St : Nat → PS} {Bt M : Nat}
end
namespace Ep_plist_deed
noncomputable abbrev D : Type := (Program) × (World) × (Program) × (List Str) × (ExcName → Option Value) × (Str → Option Value) × (Str → Option Value) × (Nat) × (Nat) × (Option (List Code)) × (Str) × (Scope) × (Addr) × (Value) × (List (Str × Addr)) × (List Env) × (Around) × (Heap) × (Heap) × (Addr) × (Str → Option Value) × (List (Addr × Obj)) × (List (Addr × Obj)) × (Shared) × (Value → Shared → Prop) × (Value → Shared → Prop) × (Addr) × (Addr) × (Addr) × (Addr) × (Addr) × (Addr) × (Addr) × (Addr) × (Addr) × (Addr) × (Addr) × (Addr) × (Addr) × (Addr) × (Tok) × (Tok) × (Tok) × (Tok) × (Obj) × (Obj) × (Obj) × (List Value) × (List Value) × (List Int) × (Nat) × (Nat) × (List (Int × Value)) × (List (Int × Value)) × (Nat → PS) × (Nat) × (Nat)
noncomputable def S (d : D) : Prop := (fun (prog : Program) (w : World) (p : Program) (loose : List Str) (mean : ExcName → Option Value) (mg : Str → Option Value) (mb : Str → Option Value) (dp : Nat) (un : Nat) (gd : Option (List Code)) (cn : Str) (cs : Scope) (a : Addr) (ccd : Value) (cl : List (Str × Addr)) (outer : List Env) (A₀ : Around) (base : Heap) (h₀ : Heap) (L : Addr) (m : Str → Option Value) (news : List (Addr × Obj)) (fz : List (Addr × Obj)) (s : Shared) (Q : Value → Shared → Prop) (E : Value → Shared → Prop) (dk : Addr) (tab : Addr) (tabD : Addr) (rl : Addr) (mo : Addr) (mr : Addr) (mn : Addr) (mp : Addr) (mf : Addr) (ce : Addr) (ceD : Addr) (fd : Addr) (pd : Addr) (nd : Addr) (t1 : Tok) (t2 : Tok) (t3 : Tok) (t4 : Tok) (moo : Obj) (mpo : Obj) (po : Obj) (vs : List Value) (dvs : List Value) (dns : List Int) (dn : Nat) (n : Nat) (kvs : List (Int × Value)) (mkvs : List (Int × Value)) (St : Nat → PS) (Bt : Nat) (M : Nat) => ∀ {xA : Addr} (B : Below A₀ base outer h₀) (F : Fr h₀ L s.heap m) (X : (Mine.K w.params).In h₀) (N : News h₀ L s.heap ((dk, lst dvs dn) :: (tab, instObj 272 tabD) :: (tabD, tabO w.params rl nd t1 t2) :: (rl, lst vs n) :: (mo, moo) :: (mp, mpo) :: (ce, instObj 197 ceD) :: (ceD, celO w.params fd pd t3 t4) :: (pd, po) :: (chains St ++ news))) (T : Top p loose mean mg mb h₀) (hk : cs.kind = .function) (hdp : dp ≤ 400) (hun : un ≤ 500) (hv : IntsAre dvs dns) (hn : Low dns) (lo1 : (mo == sysModules) = false) (lo2 : (mp == sysModules) = false) (lo3 : (pd == sysModules) = false) (hd1 : moo.IsDictOf (strKind prog w) (modK mr mn mp mf)) (hd2 : mpo.IsDictOf (intKind prog w) mkvs) (hd3 : po.IsDictOf (intKind prog w) kvs) (sub : ∀ p ∈ fz, p ∈ news) (hrows : RowsOk w.params fz vs) (hz : 4 ≤ vs.length) (hz2 : vs.length ≤ 900) (hz3 : kvs.length ≤ 800) (hz4 : mkvs.length ≤ 800) (hx2 : vs[2]? = some (.ref xA)) (SX : SymOf w.params fz xA 2 "x") (hP : ∀ i, i < 3 → valueAt kvs ((i : Nat) : Int) = (St i).v ∧ valueAt mkvs ((i : Nat) : Int) = (St i).ra ∧ (St i).Ok w.params xA Bt M) (hM : M ≤ 100) (hB : Bt ≤ s.toks) (hnd : ([dk, tab, tabD, rl, mo, mp, ce, ceD, pd] ++ (chains St).map (·.1)).Nodup) (hoff : ∀ b ∈ [dk, tab, tabD, rl, mo, mp, ce, ceD, pd], Off b news) (hoffc : ∀ q ∈ chains St, Off q.1 news) (ret : ∀ dvs' dns' dn' kvs' mkvs' mpo' po' St' Bt' h' tk', Fr h₀ L h' m → News h₀ L h' ((dk, lst dvs' dn') :: (tab, instObj 272 tabD) :: (tabD, tabO w.params rl nd t1 t2) :: (rl, lst vs n) :: (mo, moo) :: (mp, mpo') :: (ce, instObj 197 ceD) :: (ceD, celO w.params fd pd t3 t4) :: (pd, po') :: (chains St' ++ news)) →
     IntsAre dvs' dns' → Low dns' → mpo'.IsDictOf (intKind prog w) mkvs' → po'.IsDictOf (intKind prog w) kvs' → kvs'.length ≤ kvs.length + 1 → mkvs'.length ≤ mkvs.length + 1 →
     (∀ i, i < 3 → valueAt kvs' ((i : Nat) : Int) = (St' i).v ∧ valueAt mkvs' ((i : Nat) : Int) = (St' i).ra ∧ (St' i).Ok w.params xA Bt' (M + 1)) → Bt' ≤ tk' →
     ([dk, tab, tabD, rl, mo, mp, ce, ceD, pd] ++ (chains St').map (·.1)).Nodup → (∀ q ∈ chains St', Off q.1 news) → Q (.bool true) { s with heap := h', toks := tk' }), wpAny (model prog w) (ktrTop dp un gd cn cs L a ccd cl outer) (call (.ref 305) [.ref dk, .ref ce, .ref tab, .ref mo]) Q E s) d.1 d.2.1 d.2.2.1 d.2.2.2.1 d.2.2.2.2.1 d.2.2.2.2.2.1 d.2.2.2.2.2.2.1 d.2.2.2.2.2.2.2.1 d.2.2.2.2.2.2.2.2.1 d.2.2.2.2.2.2.2.2.2.1 d.2.2.2.2.2.2.2.2.2.2.1 d.2.2.2.2.2.2.2.2.2.2.2.1 d.2.2.2.2.2.2.2.2.2.2.2.2.1 d.2.2.2.2.2.2.2.2.2.2.2.2.2.1 d.2.2.2.2.2.2.2.2.2.2.2.2.2.2.1 d.2.2.2.2.2.2.2.2.2.2.2.2.2.2.2.1 d.2.2.2.2.2.2.2.2.2.2.2.2.2.2.2.2.1 d.2.2.2.2.2.2.2.2.2.2.2.2.2.2.2.2.2.1 d.2.2.2.2.2.2.2.2.2.2.2.2.2.2.2.2.2.2.1 d.2.2.2.2.2.2.2.2.2.2.2.2.2.2.2.2.2.2.2.1 d.2.2.2.2.2.2.2.2.2.2.2.2.2.2.2.2.2.2.2.2.1 d.2.2.2.2.2.2.2.2.2.2.2.2.2.2.2.2.2.2.2.2.2.1 d.2.2.2.2.2.2.2.2.2.2.2.2.2.2.2.2.2.2.2.2.2.2.1 d.2.2.2.2.2.2.2.2.2.2.2.2.2.2.2.2.2.2.2.2.2.2.2.1 d.2.2.2.2.2.2.2.2.2.2.2.2.2.2.2.2.2.2.2.2.2.2.2.2.1 d.2.2.2.2.2.2.2.2.2.2.2.2.2.2.2.2.2.2.2.2.2.2.2.2.2.1 d.2.2.2.2.2.2.2.2.2.2.2.2.2.2.2.2.2.2.2.2.2.2.2.2.2.2.1 d.2.2.2.2.2.2.2.2.2.2.2.2.2.2.2.2.2.2.2.2.2.2.2.2.2.2.2.1 d.2.2.2.2.2.2.2.2.2.2.2.2.2.2.2.2.2.2.2.2.2.2.2.2.2.2.2.2.1 d.2.2.2.2.2.2.2.2.2.2.2.2.2.2.2.2.2.2.2.2.2.2.2.2.2.2.2.2.2.1 d.2.2.2.2.2.2.2.2.2.2.2.2.2.2.2.2.2.2.2.2.2.2.2.2.2.2.2.2.2.2.1 d.2.2.2.2.2.2.2.2.2.2.2.2.2.2.2.2.2.2.2.2.2.2.2.2.2.2.2.2.2.2.2.1 d.2.2.2.2.2.2.2.2.2.2.2.2.2.2.2.2.2.2.2.2.2.2.2.2.2.2.2.2.2.2.2.2.1 d.2.2.2.2.2.2.2.2.2.2.2.2.2.2.2.2.2.2.2.2.2.2.2.2.2.2.2.2.2.2.2.2.2.1 d.2.2.2.2.2.2.2.2.2.2.2.2.2.2.2.2.2.2.2.2.2.2.2.2.2.2.2.2.2.2.2.2.2.2.1 d.2.2.2.2.2.2.2.2.2.2.2.2.2.2.2.2.2.2.2.2.2.2.2.2.2.2.2.2.2.2.2.2.2.2.2.1 d.2.2.2.2.2.2.2.2.2.2.2.2.2.2.2.2.2.2.2.2.2.2.2.2.2.2.2.2.2.2.2.2.2.2.2.2.1 d.2.2.2.2.2.2.2.2.2.2.2.2.2.2.2.2.2.2.2.2.2.2.2.2.2.2.2.2.2.2.2.2.2.2.2.2.2.1 d.2.2.2.2.2.2.2.2.2.2.2.2.2.2.2.2.2.2.2.2.2.2.2.2.2.2.2.2.2.2.2.2.2.2.2.2.2.2.1 d.2.2.2.2.2.2.2.2.2.2.2.2.2.2.2.2.2.2.2.2.2.2.2.2.2.2.2.2.2.2.2.2.2.2.2.2.2.2.2.1 d.2.2.2.2.2.2.2.2.2.2.2.2.2.2.2.2.2.2.2.2.2.2.2.2.2.2.2.2.2.2.2.2.2.2.2.2.2.2.2.2.1 d.2.2.2.2.2.2.2.2.2.2.2.2.2.2.2.2.2.2.2.2.2.2.2.2.2.2.2.2.2.2.2.2.2.2.2.2.2.2.2.2.2.1 d.2.2.2.2.2.2.2.2.2.2.2.2.2.2.2.2.2.2.2.2.2.2.2.2.2.2.2.2.2.2.2.2.2.2.2.2.2.2.2.2.2.2.1 d.2.2.2.2.2.2.2.2.2.2.2.2.2.2.2.2.2.2.2.2.2.2.2.2.2.2.2.2.2.2.2.2.2.2.2.2.2.2.2.2.2.2.2.1 d.2.2.2.2.2.2.2.2.2.2.2.2.2.2.2.2.2.2.2.2.2.2.2.2.2.2.2.2.2.2.2.2.2.2.2.2.2.2.2.2.2.2.2.2.1 d.2.2.2.2.2.2.2.2.2.2.2.2.2.2.2.2.2.2.2.2.2.2.2.2.2.2.2.2.2.2.2.2.2.2.2.2.2.2.2.2.2.2.2.2.2.1 d.2.2.2.2.2.2.2.2.2.2.2.2.2.2.2.2.2.2.2.2.2.2.2.2.2.2.2.2.2.2.2.2.2.2.2.2.2.2.2.2.2.2.2.2.2.2.1 d.2.2.2.2.2.2.2.2.2.2.2.2.2.2.2.2.2.2.2.2.2.2.2.2.2.2.2.2.2.2.2.2.2.2.2.2.2.2.2.2.2.2.2.2.2.2.2.1 d.2.2.2.2.2.2.2.2.2.2.2.2.2.2.2.2.2.2.2.2.2.2.2.2.2.2.2.2.2.2.2.2.2.2.2.2.2.2.2.2.2.2.2.2.2.2.2.2.1 d.2.2.2.2.2.2.2.2.2.2.2.2.2.2.2.2.2.2.2.2.2.2.2.2.2.2.2.2.2.2.2.2.2.2.2.2.2.2.2.2.2.2.2.2.2.2.2.2.2.1 d.2.2.2.2.2.2.2.2.2.2.2.2.2.2.2.2.2.2.2.2.2.2.2.2.2.2.2.2.2.2.2.2.2.2.2.2.2.2.2.2.2.2.2.2.2.2.2.2.2.2.1 d.2.2.2.2.2.2.2.2.2.2.2.2.2.2.2.2.2.2.2.2.2.2.2.2.2.2.2.2.2.2.2.2.2.2.2.2.2.2.2.2.2.2.2.2.2.2.2.2.2.2.2.1 d.2.2.2.2.2.2.2.2.2.2.2.2.2.2.2.2.2.2.2.2.2.2.2.2.2.2.2.2.2.2.2.2.2.2.2.2.2.2.2.2.2.2.2.2.2.2.2.2.2.2.2.2.1 d.2.2.2.2.2.2.2.2.2.2.2.2.2.2.2.2.2.2.2.2.2.2.2.2.2.2.2.2.2.2.2.2.2.2.2.2.2.2.2.2.2.2.2.2.2.2.2.2.2.2.2.2.2.1 d.2.2.2.2.2.2.2.2.2.2.2.2.2.2.2.2.2.2.2.2.2.2.2.2.2.2.2.2.2.2.2.2.2.2.2.2.2.2.2.2.2.2.2.2.2.2.2.2.2.2.2.2.2.2.1 d.2.2.2.2.2.2.2.2.2.2.2.2.2.2.2.2.2.2.2.2.2.2.2.2.2.2.2.2.2.2.2.2.2.2.2.2.2.2.2.2.2.2.2.2.2.2.2.2.2.2.2.2.2.2.2.1 d.2.2.2.2.2.2.2.2.2.2.2.2.2.2.2.2.2.2.2.2.2.2.2.2.2.2.2.2.2.2.2.2.2.2.2.2.2.2.2.2.2.2.2.2.2.2.2.2.2.2.2.2.2.2.2.2
theorem ne : Nonempty D := ⟨(default, Mine.w00, default, default, (fun _ => default), (fun _ => default), (fun _ => default), default, default, default, default, default, default, default, default, default, ({} : Around), default, default, default, (fun _ => default), default, default, ({} : Shared), (fun _ _ => True), (fun _ _ => True), default, default, default, default, default, default, default, default, default, default, default, default, default, default, default, default, default, default, default, default, default, default, default, default, default, default, default, default, (fun _ => (⟨none, [], [], none, []⟩ : PS)), default, default)⟩
noncomputable def X : D := @Classical.epsilon D ne fun d => ¬ S d
@[irreducible] noncomputable def prog : Program := X.1
@[irreducible] noncomputable def w : World := X.2.1
@[irreducible] noncomputable def p : Program := X.2.2.1
@[irreducible] noncomputable def loose : List Str := X.2.2.2.1
@[irreducible] noncomputable def mean : ExcName → Option Value := X.2.2.2.2.1
@[irreducible] noncomputable def mg : Str → Option Value := X.2.2.2.2.2.1
@[irreducible] noncomputable def mb : Str → Option Value := X.2.2.2.2.2.2.1
@[irreducible] noncomputable def dp : Nat := X.2.2.2.2.2.2.2.1
@[irreducible] noncomputable def un : Nat := X.2.2.2.2.2.2.2.2.1
@[irreducible] noncomputable def gd : Option (List Code) := X.2.2.2.2.2.2.2.2.2.1
@[irreducible] noncomputable def cn : Str := X.2.2.2.2.2.2.2.2.2.2.1
@[irreducible] noncomputable def cs : Scope := X.2.2.2.2.2.2.2.2.2.2.2.1
@[irreducible] noncomputable def a : Addr := X.2.2.2.2.2.2.2.2.2.2.2.2.1
@[irreducible] noncomputable def ccd : Value := X.2.2.2.2.2.2.2.2.2.2.2.2.2.1
@[irreducible] noncomputable def cl : List (Str × Addr) := X.2.2.2.2.2.2.2.2.2.2.2.2.2.2.1
@[irreducible] noncomputable def outer : List Env := X.2.2.2.2.2.2.2.2.2.2.2.2.2.2.2.1
@[irreducible] noncomputable def A₀ : Around := X.2.2.2.2.2.2.2.2.2.2.2.2.2.2.2.2.1
@[irreducible] noncomputable def base : Heap := X.2.2.2.2.2.2.2.2.2.2.2.2.2.2.2.2.2.1
@[irreducible] noncomputable def h₀ : Heap := X.2.2.2.2.2.2.2.2.2.2.2.2.2.2.2.2.2.2.1
@[irreducible] noncomputable def L : Addr := X.2.2.2.2.2.2.2.2.2.2.2.2.2.2.2.2.2.2.2.1
@[irreducible] noncomputable def m : Str → Option Value := X.2.2.2.2.2.2.2.2.2.2.2.2.2.2.2.2.2.2.2.2.1
@[irreducible] noncomputable def news : List (Addr × Obj) := X.2.2.2.2.2.2.2.2.2.2.2.2.2.2.2.2.2.2.2.2.2.1
@[irreducible] noncomputable def fz : List (Addr × Obj) := X.2.2.2.2.2.2.2.2.2.2.2.2.2.2.2.2.2.2.2.2.2.2.1
@[irreducible] noncomputable def s : Shared := X.2.2.2.2.2.2.2.2.2.2.2.2.2.2.2.2.2.2.2.2.2.2.2.1
@[irreducible] noncomputable def Q : Value → Shared → Prop := X.2.2.2.2.2.2.2.2.2.2.2.2.2.2.2.2.2.2.2.2.2.2.2.2.1
@[irreducible] noncomputable def E : Value → Shared → Prop := X.2.2.2.2.2.2.2.2.2.2.2.2.2.2.2.2.2.2.2.2.2.2.2.2.2.1
@[irreducible] noncomputable def dk : Addr := X.2.2.2.2.2.2.2.2.2.2.2.2.2.2.2.2.2.2.2.2.2.2.2.2.2.2.1
@[irreducible] noncomputable def tab : Addr := X.2.2.2.2.2.2.2.2.2.2.2.2.2.2.2.2.2.2.2.2.2.2.2.2.2.2.2.1
@[irreducible] noncomputable def tabD : Addr := X.2.2.2.2.2.2.2.2.2.2.2.2.2.2.2.2.2.2.2.2.2.2.2.2.2.2.2.2.1
@[irreducible] noncomputable def rl : Addr := X.2.2.2.2.2.2.2.2.2.2.2.2.2.2.2.2.2.2.2.2.2.2.2.2.2.2.2.2.2.1
@[irreducible] noncomputable def mo : Addr := X.2.2.2.2.2.2.2.2.2.2.2.2.2.2.2.2.2.2.2.2.2.2.2.2.2.2.2.2.2.2.1
@[irreducible] noncomputable def mr : Addr := X.2.2.2.2.2.2.2.2.2.2.2.2.2.2.2.2.2.2.2.2.2.2.2.2.2.2.2.2.2.2.2.1
@[irreducible] noncomputable def mn : Addr := X.2.2.2.2.2.2.2.2.2.2.2.2.2.2.2.2.2.2.2.2.2.2.2.2.2.2.2.2.2.2.2.2.1
@[irreducible] noncomputable def mp : Addr := X.2.2.2.2.2.2.2.2.2.2.2.2.2.2.2.2.2.2.2.2.2.2.2.2.2.2.2.2.2.2.2.2.2.1
@[irreducible] noncomputable def mf : Addr := X.2.2.2.2.2.2.2.2.2.2.2.2.2.2.2.2.2.2.2.2.2.2.2.2.2.2.2.2.2.2.2.2.2.2.1
@[irreducible] noncomputable def ce : Addr := X.2.2.2.2.2.2.2.2.2.2.2.2.2.2.2.2.2.2.2.2.2.2.2.2.2.2.2.2.2.2.2.2.2.2.2.1
@[irreducible] noncomputable def ceD : Addr := X.2.2.2.2.2.2.2.2.2.2.2.2.2.2.2.2.2.2.2.2.2.2.2.2.2.2.2.2.2.2.2.2.2.2.2.2.1
@[irreducible] noncomputable def fd : Addr := X.2.2.2.2.2.2.2.2.2.2.2.2.2.2.2.2.2.2.2.2.2.2.2.2.2.2.2.2.2.2.2.2.2.2.2.2.2.1
@[irreducible] noncomputable def pd : Addr := X.2.2.2.2.2.2.2.2.2.2.2.2.2.2.2.2.2.2.2.2.2.2.2.2.2.2.2.2.2.2.2.2.2.2.2.2.2.2.1
@[irreducible] noncomputable def nd : Addr := X.2.2.2.2.2.2.2.2.2.2.2.2.2.2.2.2.2.2.2.2.2.2.2.2.2.2.2.2.2.2.2.2.2.2.2.2.2.2.2.1
@[irreducible] noncomputable def t1 : Tok := X.2.2.2.2.2.2.2.2.2.2.2.2.2.2.2.2.2.2.2.2.2.2.2.2.2.2.2.2.2.2.2.2.2.2.2.2.2.2.2.2.1
@[irreducible] noncomputable def t2 : Tok := X.2.2.2.2.2.2.2.2.2.2.2.2.2.2.2.2.2.2.2.2.2.2.2.2.2.2.2.2.2.2.2.2.2.2.2.2.2.2.2.2.2.1
@[irreducible] noncomputable def t3 : Tok := X.2.2.2.2.2.2.2.2.2.2.2.2.2.2.2.2.2.2.2.2.2.2.2.2.2.2.2.2.2.2.2.2.2.2.2.2.2.2.2.2.2.2.1
@[irreducible] noncomputable def t4 : Tok := X.2.2.2.2.2.2.2.2.2.2.2.2.2.2.2.2.2.2.2.2.2.2.2.2.2.2.2.2.2.2.2.2.2.2.2.2.2.2.2.2.2.2.2.1
@[irreducible] noncomputable def moo : Obj := X.2.2.2.2.2.2.2.2.2.2.2.2.2.2.2.2.2.2.2.2.2.2.2.2.2.2.2.2.2.2.2.2.2.2.2.2.2.2.2.2.2.2.2.2.1
@[irreducible] noncomputable def mpo : Obj := X.2.2.2.2.2.2.2.2.2.2.2.2.2.2.2.2.2.2.2.2.2.2.2.2.2.2.2.2.2.2.2.2.2.2.2.2.2.2.2.2.2.2.2.2.2.1
@[irreducible] noncomputable def po : Obj := X.2.2.2.2.2.2.2.2.2.2.2.2.2.2.2.2.2.2.2.2.2.2.2.2.2.2.2.2.2.2.2.2.2.2.2.2.2.2.2.2.2.2.2.2.2.2.1
@[irreducible] noncomputable def vs : List Value := X.2.2.2.2.2.2.2.2.2.2.2.2.2.2.2.2.2.2.2.2.2.2.2.2.2.2.2.2.2.2.2.2.2.2.2.2.2.2.2.2.2.2.2.2.2.2.2.1
@[irreducible] noncomputable def dvs : List Value := X.2.2.2.2.2.2.2.2.2.2.2.2.2.2.2.2.2.2.2.2.2.2.2.2.2.2.2.2.2.2.2.2.2.2.2.2.2.2.2.2.2.2.2.2.2.2.2.2.1
@[irreducible] noncomputable def dns : List Int := X.2.2.2.2.2.2.2.2.2.2.2.2.2.2.2.2.2.2.2.2.2.2.2.2.2.2.2.2.2.2.2.2.2.2.2.2.2.2.2.2.2.2.2.2.2.2.2.2.2.1
@[irreducible] noncomputable def dn : Nat := X.2.2.2.2.2.2.2.2.2.2.2.2.2.2.2.2.2.2.2.2.2.2.2.2.2.2.2.2.2.2.2.2.2.2.2.2.2.2.2.2.2.2.2.2.2.2.2.2.2.2.1
@[irreducible] noncomputable def n : Nat := X.2.2.2.2.2.2.2.2.2.2.2.2.2.2.2.2.2.2.2.2.2.2.2.2.2.2.2.2.2.2.2.2.2.2.2.2.2.2.2.2.2.2.2.2.2.2.2.2.2.2.2.1
@[irreducible] noncomputable def kvs : List (Int × Value) := X.2.2.2.2.2.2.2.2.2.2.2.2.2.2.2.2.2.2.2.2.2.2.2.2.2.2.2.2.2.2.2.2.2.2.2.2.2.2.2.2.2.2.2.2.2.2.2.2.2.2.2.2.1
@[irreducible] noncomputable def mkvs : List (Int × Value) := X.2.2.2.2.2.2.2.2.2.2.2.2.2.2.2.2.2.2.2.2.2.2.2.2.2.2.2.2.2.2.2.2.2.2.2.2.2.2.2.2.2.2.2.2.2.2.2.2.2.2.2.2.2.1
@[irreducible] noncomputable def St : Nat → PS := X.2.2.2.2.2.2.2.2.2.2.2.2.2.2.2.2.2.2.2.2.2.2.2.2.2.2.2.2.2.2.2.2.2.2.2.2.2.2.2.2.2.2.2.2.2.2.2.2.2.2.2.2.2.2.1
@[irreducible] noncomputable def Bt : Nat := X.2.2.2.2.2.2.2.2.2.2.2.2.2.2.2.2.2.2.2.2.2.2.2.2.2.2.2.2.2.2.2.2.2.2.2.2.2.2.2.2.2.2.2.2.2.2.2.2.2.2.2.2.2.2.2.1
@[irreducible] noncomputable def M : Nat := X.2.2.2.2.2.2.2.2.2.2.2.2.2.2.2.2.2.2.2.2.2.2.2.2.2.2.2.2.2.2.2.2.2.2.2.2.2.2.2.2.2.2.2.2.2.2.2.2.2.2.2.2.2.2.2.2
inductive Cut3 (ra L9 : Addr) (mpo' : Obj) (oR oN : Obj) (i : Nat) (x2 : Addr) (k' : Nat) (kv' : Value) (led : List (Addr × Obj)) : Prop
  | mk (dvs' : List Value) (dns' : List Int) (dn' n3 : Nat) (kvs' : List (Int × Value)) (po' : Obj) (v' : Option Value) (cars' rs' : List Value) (r' : List (Nat × Int)) (l' : List (Addr × Obj)) (e : led = (ra, lst rs' n3) :: (tab, instObj 272 tabD) :: (tabD, tabO w.params rl nd t1 t2) :: (rl, lst vs n) :: (dk, lst dvs' dn') :: (mo, moo) :: (mp, mpo') :: (ce, instObj 197 ceD) :: (ceD, celO w.params fd pd t3 t4) :: (pd, po') :: (L9 + 1 + 1, oR) :: (L9 + 1, oN) :: (l' ++ (others St i ++ news)))
      (hv : IntsAre dvs' dns') (hn : Low dns') (hd : po'.IsDictOf (intKind prog w) kvs') (hz : kvs'.length ≤ kvs.length + 1) (hy : valueAt kvs' ((i : Nat) : Int) = v') (hy2 : ∀ y : Int, y ≠ ((i : Nat) : Int) → valueAt kvs' y = valueAt kvs y)
      (C : Ch w.params (v'.getD (.ref 78)) cars' l') (R : PR (Now x2 Bt k' kv') cars' rs' r') (hr : r'.length ≤ (St i).r.length + 1) (nl : (l'.map (·.1)).Nodup) (fl : ∀ b ∈ [ra, tab, tabD, rl, dk, mo, mp, ce, ceD, pd, L9 + 1 + 1, L9 + 1], ∀ q ∈ l', q.1 ≠ b) (ol : ∀ q ∈ l', ∀ p ∈ others St i ++ news, p.1 ≠ q.1)
theorem plist_deed {xA : Addr} (B : Below A₀ base outer h₀) (F : Fr h₀ L s.heap m) (X : (Mine.K w.params).In h₀) (N : News h₀ L s.heap ((dk, lst dvs dn) :: (tab, instObj 272 tabD) :: (tabD, tabO w.params rl nd t1 t2) :: (rl, lst vs n) :: (mo, moo) :: (mp, mpo) :: (ce, instObj 197 ceD) :: (ceD, celO w.params fd pd t3 t4) :: (pd, po) :: (chains St ++ news))) (T : Top p loose mean mg mb h₀) (hk : cs.kind = .function) (hdp : dp ≤ 400) (hun : un ≤ 500) (hv : IntsAre dvs dns) (hn : Low dns) (lo1 : (mo == sysModules) = false) (lo2 : (mp == sysModules) = false) (lo3 : (pd == sysModules) = false) (hd1 : moo.IsDictOf (strKind prog w) (modK mr mn mp mf)) (hd2 : mpo.IsDictOf (intKind prog w) mkvs) (hd3 : po.IsDictOf (intKind prog w) kvs) (sub : ∀ p ∈ fz, p ∈ news) (hrows : RowsOk w.params fz vs) (hz : 4 ≤ vs.length) (hz2 : vs.length ≤ 900) (hz3 : kvs.length ≤ 800) (hz4 : mkvs.length ≤ 800) (hx2 : vs[2]? = some (.ref xA)) (SX : SymOf w.params fz xA 2 "x") (hP : ∀ i, i < 3 → valueAt kvs ((i : Nat) : Int) = (St i).v ∧ valueAt mkvs ((i : Nat) : Int) = (St i).ra ∧ (St i).Ok w.params xA Bt M) (hM : M ≤ 100) (hB : Bt ≤ s.toks) (hnd : ([dk, tab, tabD, rl, mo, mp, ce, ceD, pd] ++ (chains St).map (·.1)).Nodup) (hoff : ∀ b ∈ [dk, tab, tabD, rl, mo, mp, ce, ceD, pd], Off b news) (hoffc : ∀ q ∈ chains St, Off q.1 news) (ret : ∀ dvs' dns' dn' kvs' mkvs' mpo' po' St' Bt' h' tk', Fr h₀ L h' m → News h₀ L h' ((dk, lst dvs' dn') :: (tab, instObj 272 tabD) :: (tabD, tabO w.params rl nd t1 t2) :: (rl, lst vs n) :: (mo, moo) :: (mp, mpo') :: (ce, instObj 197 ceD) :: (ceD, celO w.params fd pd t3 t4) :: (pd, po') :: (chains St' ++ news)) →
     IntsAre dvs' dns' → Low dns' → mpo'.IsDictOf (intKind prog w) mkvs' → po'.IsDictOf (intKind prog w) kvs' → kvs'.length ≤ kvs.length + 1 → mkvs'.length ≤ mkvs.length + 1 →
     (∀ i, i < 3 → valueAt kvs' ((i : Nat) : Int) = (St' i).v ∧ valueAt mkvs' ((i : Nat) : Int) = (St' i).ra ∧ (St' i).Ok w.params xA Bt' (M + 1)) → Bt' ≤ tk' →
     ([dk, tab, tabD, rl, mo, mp, ce, ceD, pd] ++ (chains St').map (·.1)).Nodup → (∀ q ∈ chains St', Off q.1 news) → Q (.bool true) { s with heap := h', toks := tk' }):
   wpAny (model prog w) (ktrTop dp un gd cn cs L a ccd cl outer) (call (.ref 305) [.ref dk, .ref ce, .ref tab, .ref mo]) Q E s := Mine.byKey fun kzq9 => Mine.Fam.of (by exact Mine.Fam.mk : Mine.Fam ((Mine.Key.unbox kzq9 (by simp only [Mine.Key.box kzq9 (by
  clear kzq9
  have fl9 : Mine.Fl 46 := Mine.Fl.mk
  obtain ⟨⟨a1, a2, a3, a4, a5, a6, a7, a8, -⟩, ⟨b1, b2, b3, b4, b5, b6, b7, -⟩, ⟨c1, c2, c3, c4, c5, c6, -⟩, ⟨d1, d2, d3, d4, d5, -⟩, ⟨e1, e2, e3, e4, -⟩, ⟨f1, f2, f3, -⟩, ⟨g1, g2, -⟩, ⟨i1, -⟩, -⟩ := aps_of (List.nodup_append.mp hnd).1
  have hoZ : ∀ b ∈ [dk, tab, tabD, rl, mo, mp, ce, ceD, pd], Off b (chains St ++ news) := fun b hb q hq => by
    rcases List.mem_append.mp hq with hq | hq
    · exact fun e => (List.nodup_append.mp hnd).2.2 b hb q.1 (List.mem_map_of_mem hq) e.symm
    · exact hoff b hb q hq
  obtain ⟨ZZ, hZ⟩ : ∃ ZZ, ZZ = chains St ++ news := ⟨_, rfl⟩
  rw [← hZ] at N hoZ
  have o1 := hoZ dk (by k_extra "MY in")
  have o6 := hoZ mp (by k_extra "MY in")
  have hsub2 : ∀ q ∈ news, q ∈ ZZ := fun q hq => hZ ▸ List.mem_append_right _ hq
  have hz5 : mkvs.length ≤ 900 := rm0 hz4 rfl
  have hz6 : kvs.length ≤ 900 := rm0 hz3 rfl
  have hrows2 := hrows.mono' fun q hq => hsub2 q (sub q hq)
  refine wpAny_call ?_
  k_dflt (refine' code_defCt ?k1 ?k2 ?k3 ?k4 ?k5 ?kA ?kF ?kK ?k6 ?k7 ?k8 ?k9 ?kB ?kD ?_ ?c2 ?c3 ?c4; (case kA => exact rfl); (case kF => exact rfl); (case kK => assumption); (case k1 => k_asm); (case k2 => k_asm); (case k3 => k_asm); (case k4 => k_asm); (case k5 => k_asm); (case k6 => k_is); (case k7 => k_is); (case k8 => ktr_room); (case k9 => exact BindsTo.of_eq rfl); (case kB => exact rfl); (case kD => decide +kernel); (case c2 => exact rfl); (case c3 => exact rfl); (case c4 => exact rfl); k_whole)
  intro g9 L9 h1 tkE cells FG F1 N1 Y1 B1 X1 T1 l1 htkE
  try k_lt l1
  k_cells Y1
  try simp only [List.cons_append, List.nil_append] at N1
  try dsimp only
  try k_fold
  clear F N
  show wpAny _ _ (execs (_ :: _) _) _ _ _
  k_extra "MY q"
  rename _ < _ ∧ _ < _ ∧ _ < _ ∧ _ < _ ∧ _ < _ ∧ _ < _ ∧ _ < _ ∧ _ < _ ∧ _ < _ ∧ AllLt _ _ => l1E
  have oc1 := AllLt.ap1 l1E.2.2.2.2.2.2.2.2.2
  have oc2 := allLt_ap2 l1E.2.2.2.2.2.2.2.2.2
  replace F1 := frSame (m' := fun y => if y = "model" then some (Value.ref mo) else if y = "table" then some (.ref tab) else if y = "cells" then some (.ref ce) else if y = "deck" then some (.ref dk) else none) F1 (fun _ => rfl)
  refine nameF F1 ?_
  clear F1
  intro m8 F8
  refine nameAE ?_
  intro v9 a9
  refine nameE ?_
  intro e9
  have kt : KeepTk := .mk
  have hst : StopToks := trivial
  k_steps
  refine Hold.mk ?_
  clear hst
  walk1
  refine wpAny_toks ?_
  k_steps
  refine Hold.mk (pickL (P := IsIdx 3) (by k_asm) (by k_mem) (by assumption) ?_ (by simp) lst_cases3 ?_)
  · simp; omega
  rintro _ ⟨i0, ti, rfl, hi0, hi1⟩
  k_steps
  rename News _ _ _ _ => N8
  replace N8 := News.sel 12 [4, 5, 6, 3, 7, 8, 9, 10, 11, 1, 2] N8
  simp only [sel, nth?, List.drop] at N8
  k_dflt (refine' Hold.mk (by_number_ok ?B ?F ?X N8 ?T ?hk ?hdp ?hun hrows ?h0 ?h1 hz hz2 ?_))
  case B => k_asm
  case F => k_asm
  case X => k_asm
  case T => k_asm
  case hk => first | exact rfl | assumption
  case hdp => ktr_room
  case hun => units_room
  case h0 => first | assumption | decide
  case h1 => first | omega | decide
  clear N8
  rintro x nm i h' tk' rfl hi4 hxi S hall F' N'
  have S2 : SymOf w.params ZZ x i nm := S.mono fun q hq => hsub2 q (sub q hq)
  have hi3 : i < 3 := by omega
  have hst : StopToks := trivial
  k_steps
  rename _ ≤ Shared.toks _ => htk1
  (try dsimp only at htk1)
  clear hst
  refine Hold.mk (tok_gen ?_)
  intro tk0 htk0
  dsimp only at htk0 ⊢
  k_steps
  rename News _ _ _ _ => N8
  replace N8 := News.sel 12 [1, 2, 3, 4, 5, 6, 7, 8, 9, 10, 11] N8
  simp only [sel, nth?, List.drop] at N8
  refine Hold.mk (wpAny_toks ?_)
  k_dflt (refine' by_number_ok ?B ?F ?X N8 ?T ?hk ?hdp ?hun hrows ?h0 ?h1 hz hz2 ?_)
  case B => k_asm
  case F => k_asm
  case X => k_asm
  case T => k_asm
  case hk => first | exact rfl | assumption
  case hdp => ktr_room
  case hun => units_room
  case h0 => first | assumption | decide
  case h1 => first | omega | decide
  clear N8
  rintro x1 nm1 j1 h' tk5 hj1 - hx1 S1 - F' N' htk2
  obtain rfl : j1 = 1 := by omega
  obtain rfl := sym_one S1
  (try dsimp only at htk2)
  k_steps
  rename News _ _ _ _ => N8
  refine Hold.mk (wpAny_toks ?_)
  k_dflt (refine' by_number_ok ?B ?F ?X N8 ?T ?hk ?hdp ?hun hrows ?h0 ?h1 hz hz2 ?_)
  case B => k_asm
  case F => k_asm
  case X => k_asm
  case T => k_asm
  case hk => first | exact rfl | assumption
  case hdp => ktr_room
  case hun => units_room
  case h0 => first | assumption | decide
  case h1 => first | omega | decide
  clear N8
  rintro x2 nm2 j2 h' tk20 hj2 - hxx - - F' N' htk3
  obtain rfl : j2 = 2 := by omega
  obtain rfl : x2 = xA := by
    rw [hx2] at hxx
    exact ((Value.ref.inj (Option.some.inj hxx))).symm
  (try dsimp only at htk3)
  k_steps
  have hB0 : Bt ≤ tk0 := Nat.le_trans htk1 (Nat.le_trans htkE (Nat.le_trans (by assumption) htk0))
  have hB5 : Bt ≤ tk5 := Nat.le_trans hB0 (Nat.le_of_succ_le htk2)
  have hB20 : Bt ≤ tk20 := Nat.le_trans hB5 (Nat.le_trans (Nat.le_add_right tk5 2) htk3)
  have hst : StopToks := trivial
  refine Hold.mk (pickL (P := fun v => ∃ k, KeyV x2 k v ∧ (tokOf v = 0 ∨ Bt ≤ tokOf v) ∧ tokOf v < tk20 + 1 + 1 + 1) (by k_asm) (by k_mem) (by assumption) ?_ (by simp) ?_ ?_)
  · simp; omega
  · intro v hv
    simp only [List.mem_cons, List.not_mem_nil, or_false] at hv
    rcases hv with rfl | rfl | rfl | rfl
    · exact ⟨0, .inl ⟨rfl, rfl⟩, .inl rfl, Nat.succ_pos _⟩
    · exact ⟨1, .inr (.inl ⟨rfl, tk5, rfl, fun e => absurd (show (tk5 : Nat) = 0 from e) (Nat.ne_of_gt (Nat.lt_of_lt_of_le (Nat.succ_pos _) htk2))⟩), .inr hB5, tk_a htk3⟩
    · exact ⟨2, .inr (.inr (.inl ⟨rfl, rfl⟩)), .inl rfl, Nat.succ_pos _⟩
    · exact ⟨3, .inr (.inr (.inr ⟨rfl, tk20 + 1 + 1, rfl, Nat.succ_ne_zero _⟩)), .inr (show Bt ≤ tk20 + 1 + 1 from Nat.le_trans hB20 (Nat.le_add_right tk20 2)), Nat.lt_succ_self _⟩
  rintro kv' ⟨k', hkv, hto1, hto2⟩
  refine wpAny_toks ?_
  k_steps
  rename tk20 + 1 + 1 + 1 + 1 ≤ _ => htk4
  rename (_ : Nat) ≤ _ + 1 => htk5
  have hBt : Bt ≤ tk20 + 1 + 1 + 1 + 1 := Nat.le_trans hB20 (Nat.le_add_right tk20 4)
  (try dsimp only at htk5)
  refine Hold.mk ?_
  refine wpAny_toks ?_
  (try dsimp only)
  have SX2 : SymOf w.params ZZ x2 2 "x" := SX.mono fun q hq => hsub2 q (sub q hq)
  have ST2 : SymOf w.params ZZ 81 1 "t" := .inr (.inl ⟨rfl, rfl, rfl⟩)
  clear hst
  have hst : StopIf := trivial
  k_steps
  clear hst
  rename Fr _ _ _ _ => F8
  rename News _ _ _ _ => N8
  refine Hold.mk (cut_val F8 N8 (fun v => DatIn [] v (keyD k')) ?cutN ?_)
  case cutN =>
    k_extra "MY q"
    rcases hkv with ⟨rfl, rfl⟩ | ⟨rfl, t, rfl, ht⟩ | ⟨rfl, rfl⟩ | ⟨rfl, t, rfl, ht⟩
    · k_steps
      exact Hold.mk ⟨_, _, rfl, by assumption, by assumption, .str _ _⟩
    · k_steps
      exact Hold.mk ⟨_, _, rfl, by assumption, by assumption, .int _ _⟩
    · k_steps
      exact Hold.mk ⟨_, _, rfl, by assumption, by assumption, .str _ _⟩
    · k_steps
      exact Hold.mk ⟨_, _, rfl, by assumption, by assumption, .int _ _⟩
  clear F8 N8
  intro nv h' tk' F' N' hnv
  (try dsimp only)
  k_steps
  rename Obj => oN
  rename _ < _ ∧ _ < _ ∧ _ < _ ∧ _ < _ ∧ _ < _ ∧ _ < _ ∧ _ < _ ∧ _ < _ ∧ _ < _ ∧ _ < _ ∧ _ < _ ∧ _ < _ ∧ AllLt _ _ => l2
  rename Fr _ _ _ _ => F8
  rename News _ _ _ _ => N8
  replace N8 := News.sel 13 [0, 2, 3, 4, 5, 6, 7, 8, 9, 10, 11, 12] N8
  simp only [sel, nth?, List.drop] at N8
  obtain ⟨hv0, hra0, ok0⟩ := hP i hi3
  refine Hold.mk (setdefault_row (St := St) (news := news) F8 N8 hZ hi3 hd2 lo2 (rm0 hz4 rfl) hra0 (List.nodup_append.mp hnd).2.1 hoffc ?sA ?sB (AllLt.lt l2.2.2.2.2.2.2.2.2.2.2.2.2) ?sC ?_)
  case sA =>
    k_extra "MY all" <;> first | exact oc1 | exact oc2 | exact hoZ _ (by k_extra "MY in")
  case sB =>
    intro b hb
    revert b hb
    k_extra "MY all" <;> first | exact l2.1 | exact l2.2.1 | exact l2.2.2.1 | exact l2.2.2.2.1 | exact l2.2.2.2.2.1 | exact l2.2.2.2.2.2.1 | exact l2.2.2.2.2.2.2.1 | exact l2.2.2.2.2.2.2.2.1 | exact l2.2.2.2.2.2.2.2.2.1 | exact l2.2.2.2.2.2.2.2.2.2.1 | exact l2.2.2.2.2.2.2.2.2.2.2.1 | exact l2.2.2.2.2.2.2.2.2.2.2.2.1
  case sC =>
    intro b hb
    have y5 := l1E.2.2.2.2.2.1
    revert b hb
    k_extra "MY all" <;> first | exact Apt.ne (by assumption) | exact Apt.en (by assumption) | exact Nat.ne_of_gt (Nat.lt_trans y5 (Nat.lt_succ_self _)) | exact Nat.ne_of_gt (Nat.lt_trans y5 (Nat.lt_trans (Nat.lt_succ_self _) (Nat.lt_succ_self _)))
  clear F8 N8
  intro ra n2 mpo' mkvs' h' F' N' hd2' hra' hmk' hmz' hraA hraY
  obtain ⟨YY, hY⟩ : ∃ YY, YY = (St i).l ++ (others St i ++ news) := ⟨_, rfl⟩
  rw [← hY] at N' hraY
  have hYZ : ∀ q ∈ YY, q ∈ ZZ := fun q hq => by
    rw [hY] at hq
    rw [hZ]
    rcases List.mem_append.mp hq with hq | hq
    · exact List.mem_append_left _ ((chains_perm St hi3).mem_iff.mpr (List.mem_append_left _ (List.mem_append_left _ hq)))
    rcases List.mem_append.mp hq with hq | hq
    · exact List.mem_append_left _ ((chains_perm St hi3).mem_iff.mpr (List.mem_append_right _ hq))
    · exact List.mem_append_right _ hq
  have oY1 : ∀ q ∈ YY, q.1 ≠ L9 + 1 := fun q hq => oc1 q (hYZ q hq)
  have oY2 : ∀ q ∈ YY, q.1 ≠ L9 + 1 + 1 := fun q hq => oc2 q (hYZ q hq)
  have oY3 : ∀ q ∈ YY, q.1 ≠ dk := fun q hq => o1 q (hYZ q hq)
  have S3 : SymOf w.params YY x i nm := S.mono fun q hq => hY ▸ List.mem_append_right _ (List.mem_append_right _ (sub q hq))
  have SX3 : SymOf w.params YY x2 2 "x" := SX.mono fun q hq => hY ▸ List.mem_append_right _ (List.mem_append_right _ (sub q hq))
  have ST3 : SymOf w.params YY 81 1 "t" := .inr (.inl ⟨rfl, rfl, rfl⟩)
  have aR1 : Apt ra (L9 + 1) := hraA _ (by k_extra "MY in")
  have aR2 : Apt ra (L9 + 1 + 1) := hraA _ (by k_extra "MY in")
  have aR3 : Apt ra dk := hraA _ (by k_extra "MY in")
  have aR4 : Apt ra tab := hraA _ (by k_extra "MY in")
  have aR5 : Apt ra tabD := hraA _ (by k_extra "MY in")
  have aR6 : Apt ra rl := hraA _ (by k_extra "MY in")
  have aR7 : Apt ra mo := hraA _ (by k_extra "MY in")
  have aR8 : Apt ra mp := hraA _ (by k_extra "MY in")
  have aR9 : Apt ra ce := hraA _ (by k_extra "MY in")
  have aR10 : Apt ra ceD := hraA _ (by k_extra "MY in")
  have aR11 : Apt ra pd := hraA _ (by k_extra "MY in")
  (try dsimp only)
  k_steps
  rename Obj => oR
  have hlenR : (St i).rs.length = 2 * (St i).r.length := ok0.pr.len.2
  have hk4 : k' < 4 := tok_key hkv
  have hlenM : (St i).r.length ≤ 100 := Nat.le_trans ok0.len hM
  have hrs5 : (St i).rs.length ≤ 500 := dbl hlenR hlenM rfl
  rename Fr _ _ _ _ => F8
  refine Hold.mk (Assign_ListComp_S (F₀ := F8) rfl (by with_unfolding_all rfl) (by with_unfolding_all rfl) (by decide) (by rfl) (by decide) (by rfl) (by rfl) (by rfl) ?_)
  k_steps
  rename IsRange _ _ _ _ _ _ _ _ => hrg
  rename Fr _ _ _ _ => F8
  rename News _ _ _ _ => N8
  obtain ⟨sm1, sm2⟩ := steps_small (St i).r.length (rm0 hlenM rfl)
  rw [hlenR] at hrg
  refine Hold.mk ⟨_, 0, ((2 * (St i).r.length : Nat) : Int), 2, _, _, _, (St i).r.length, _, rfl, rfl, F8, N8, hrg, sm1, sm2, Nat.le_trans hlenM (by decide), ?_⟩
  clear F8 N8 hrg
  rintro _ ⟨h9, rfl⟩
  refine comp_sel (holds k' (St i).r) (fun j y => ∃ t, y = .int (0 + (j : Int) * 2) t) ?_ ?_
  · intro j t I oI C oC D m₂ ys h tk E' hj hC hx F8 N8 off ne
    obtain ⟨k2, kv2, nv2, v2, u1, u2, q1, q2, q3, q4, q5, q6, q7, q8⟩ := ok0.pr.at hj
    have hrow : (St i).rs[(0 + (j : Int) * 2).toNat]? = some nv2 := by
      rw [tn0]; exact q4
    have hb : holds k' (St i).r j = decide (k2 = k') := by unfold holds; rw [q1]
    have hj0 := tn2 j
    k_steps
    · rename News _ _ _ _ => N9
      exact ⟨_, _, _, rfl, by assumption, N9, off, trivial, rfl, hb.trans (decide_eq_true (by assumption)), _, rfl⟩
    · rename News _ _ _ _ => N9
      exact ⟨_, _, _, rfl, by assumption, N9, off, trivial, rfl, hb.trans (decide_eq_false (by assumption))⟩
  · intro ys hS Dp h9 tk9 F9 N9 off9
    replace N9 : News g9 L9 h9 ((Dp, lst ys ys.length) :: (ra, lst (St i).rs n2) :: (tab, instObj 272 tabD) :: (tabD, tabO w.params rl nd t1 t2) :: (rl, lst vs n) :: (dk, lst _ _) :: (mo, moo) :: (mp, mpo') :: (ce, instObj 197 ceD) :: (ceD, celO w.params fd pd t3 t4) :: (pd, po) :: (L9 + 1 + 1, oR) :: (L9 + 1, oN) :: YY) := N9
    (try dsimp only)
    have hst : StopCmp := trivial
    k_steps
    clear hst
    rename IntsAre _ _ => hv8
    rename Low _ => hn8
    rename Fr _ _ _ _ => F8
    rename News _ _ _ _ => N8
    have offD := off1_mem off9
    have aD1 : Apt ra Dp := offD _ (.head _)
    have aD2 : Apt dk Dp := offD (dk, lst _ _) (.tail _ (.tail _ (.tail _ (.tail _ (.head _)))))
    have aD3 : Apt pd Dp := offD (pd, po) (.tail _ (.tail _ (.tail _ (.tail _ (.tail _ (.tail _ (.tail _ (.tail _ (.tail _ (.head _))))))))))
    have oD : ∀ q ∈ YY, q.1 ≠ Dp := fun q hq => offD q (.tail _ (.tail _ (.tail _ (.tail _ (.tail _ (.tail _ (.tail _ (.tail _ (.tail _ (.tail _ (.tail _ (.tail _ hq))))))))))))
    have hlY : ∀ q ∈ (St i).l, q ∈ YY := fun q hq => hY ▸ List.mem_append_left _ hq
    have hlC : ∀ q ∈ (St i).l, q ∈ chains St := fun q hq => (chains_perm St hi3).mem_iff.mpr (List.mem_append_left _ (List.mem_append_left _ hq))
    have hl1 : ∀ b ∈ [Dp, ra, tab, tabD, rl, dk, mo, mp, ce, ceD, pd, L9 + 1 + 1, L9 + 1], ∀ q ∈ (St i).l, q.1 ≠ b := by
      k_extra "MY all" <;> first | exact fun q hq => oD q (hlY q hq) | exact fun q hq => hraY q (hlY q hq) | exact fun q hq => oY2 q (hlY q hq) | exact fun q hq => oY1 q (hlY q hq) | exact fun q hq => hoZ _ (by k_extra "MY in") q (hYZ q (hlY q hq))
    have ndc := (List.Perm.nodup_iff ((chains_perm St hi3).map (·.1))).mp (List.nodup_append.mp hnd).2.1
    have hl2 : ((St i).l.map (·.1)).Nodup := by
      unfold PS.led at ndc
      rw [List.map_append, List.map_append, List.nodup_append, List.nodup_append] at ndc
      exact ndc.1.1
    have hl3 : ∀ q ∈ (St i).l, ∀ p ∈ others St i ++ news, p.1 ≠ q.1 := by
      intro q hq p hp
      rcases List.mem_append.mp hp with hp | hp
      · unfold PS.led at ndc
        rw [List.map_append, List.map_append, List.nodup_append] at ndc
        exact fun e => ndc.2.2 q.1 (List.mem_append_left _ (List.mem_map_of_mem hq)) p.1 (List.mem_map_of_mem hp) e.symm
      · exact hoffc q (hlC q hq) p hp
    refine Hold.mk (cut_stmt F8 (Cut3 ra L9 mpo' oR oN i x2 k' kv') ?cut3 ?_)
    case cut3 =>
      k_extra "MY q"
      have hP1 : PR (Now x2 Bt k' kv') (St i).cars (St i).rs (St i).r := ok0.pr.mono fun _ _ h => h.now
      have hP2 : PR (Meet x2 k' kv') (St i).cars (St i).rs (St i).r := hP1.mono fun _ _ h => h.meet hto1
      k_steps
      · rename News _ _ _ _ => N7
        rw [hY] at N7
        k_dflt (refine' Hold.mk (put_ok ?B ?F ?X (fun q hq => N7 q (toPut q hq)) ?T ?hk ?hdp ?hun lo3 hd3 ?z1 hv0 (S.mono ?s1) ok0.ch hP2 hkv (SX.mono ?s2) ?z2 ?nd ?of1 ?of2 ?_))
        case B => k_asm
        case F => k_asm
        case X => k_asm
        case T => k_asm
        case hk => first | exact rfl | assumption
        case hdp => ktr_room
        case hun => units_room
        case z1 => exact hz6
        case z2 => exact rm0 hlenM rfl
        case s1 => exact fun q hq => .tail _ (.tail _ (.tail _ (.tail _ (.tail _ (.tail _ (.tail _ (.tail _ (.tail _ (.tail _ (List.mem_append_right _ (sub q hq)))))))))))
        case s2 => exact fun q hq => .tail _ (.tail _ (.tail _ (.tail _ (.tail _ (.tail _ (.tail _ (.tail _ (.tail _ (.tail _ (List.mem_append_right _ (sub q hq)))))))))))
        case nd =>
          simp only [List.nodup_cons, List.mem_cons, not_or, List.mem_map, not_exists, not_and]
          exact ⟨⟨g1, g2, fun q hq e => hl1 ce (by k_extra "MY in") q hq e⟩, ⟨i1, fun q hq e => hl1 ceD (by k_extra "MY in") q hq e⟩, fun q hq e => hl1 pd (by k_extra "MY in") q hq e, hl2⟩
        case of1 =>
          intro p hp q hq
          simp only [List.mem_cons] at hq
          rcases hq with rfl | rfl | rfl | rfl | rfl | rfl | rfl | rfl | rfl | rfl | hq <;> first | exact hl3 p hp q hq | exact Ne.symm (hl1 _ (by k_extra "MY in") p hp)
        case of2 =>
          intro q hq
          obtain ⟨y0, y1, y2, y3, y4, y5, y6, y7, y8, -⟩ := l1E
          simp only [List.mem_cons] at hq
          rcases hq with rfl | rfl | rfl | rfl | rfl | rfl | rfl | rfl | rfl | rfl | hq <;> first | exact hoZ pd (by k_extra "MY in") q (hYZ q (hY ▸ List.mem_append_right _ hq)) | exact Apt.ne (by assumption) | exact Apt.en (by assumption) | exact Nat.ne_of_gt (Nat.lt_trans y8 (Nat.lt_succ_self _)) | exact Nat.ne_of_gt (Nat.lt_trans y8 (Nat.lt_trans (Nat.lt_succ_self _) (Nat.lt_succ_self _)))
        intro kvs' po' v' cars' l' as h' tk' F' N' hd3' hz' hv' hy' C' hmap has hab hset hsnoc
        replace N' := newsOf N' ofPut
        replace hab := fun a ha q hq => hab a ha q (ofPut q hq)
        have hnl : (l'.map (·.1)).Nodup := grow_nodup hmap hl2 has fun a ha q hq => hab a ha q (.tail _ (.tail _ (.tail _ (.tail _ (.tail _ (.tail _ (.tail _ (.tail _ (.tail _ (.tail _ (.tail _ (.tail _ (.tail _ (List.mem_append_left _ hq))))))))))))))
        have hfl : ∀ b ∈ [ra, tab, tabD, rl, dk, mo, mp, ce, ceD, pd, L9 + 1 + 1, L9 + 1], ∀ q ∈ l', q.1 ≠ b := by
          have hab2 : ∀ b ∈ [ra, tab, tabD, rl, dk, mo, mp, ce, ceD, pd, L9 + 1 + 1, L9 + 1], ∀ a ∈ as, b < a := by
            k_extra "MY all" <;> exact fun a ha => hab a ha (_, _) (by k_mem)
          exact fun b hb => grow_off hmap (hl1 b (.tail _ hb)) fun a ha => Nat.ne_of_gt (hab2 b hb a ha)
        have hol : ∀ q ∈ l', ∀ p ∈ others St i ++ news, p.1 ≠ q.1 := fun q hq p hp => Ne.symm (grow_off (b := p.1) hmap (fun q hq => Ne.symm (hl3 q hq p hp)) (fun a ha => Nat.ne_of_gt (hab a ha p (.tail _ (.tail _ (.tail _ (.tail _ (.tail _ (.tail _ (.tail _ (.tail _ (.tail _ (.tail _ (.tail _ (.tail _ (.tail _ (List.mem_append_right _ hp))))))))))))))) ) q hq)
        obtain ⟨Y4, hY4⟩ : ∃ Y4, Y4 = l' ++ (others St i ++ news) := ⟨_, rfl⟩
        have hraZ : ∀ q ∈ Y4, q.1 ≠ ra := fun q hq => by
          rcases List.mem_append.mp (hY4 ▸ hq) with hq | hq
          · exact hfl ra (by k_extra "MY in") q hq
          · exact hraY q (hY ▸ List.mem_append_right _ hq)
        rw [← hY4] at N'
        have hys : ∀ y ∈ ys, ∃ i t, y = .int i t := (hS.all fun i y ⟨t, e⟩ => ⟨_, t, e⟩).1
        (try dsimp only)
        cases hp : pos k' (St i).r with
        | none =>
          obtain rfl : ys = [] := hS.none (holds_none hp)
          have hR9 := snoc_pack hP1 (⟨hkv, .inr ⟨rfl, rfl⟩⟩ : Now x2 Bt k' kv' k' kv') hk4 hnv (hsnoc hp)
          k_steps
          rename News _ _ _ _ => N5
          exact Hold.mk ⟨rfl, _, _, _, some _, rfl, by assumption, newsOf N5 (fun q hq => .tail _ (.tail _ (.tail _ (hY4 ▸ hq)))), ⟨_, _, _, _, kvs', po', v', _, _, _, l', rfl, by assumption, by assumption, hd3', hz', hv', hy', C', hR9, by rw [List.length_append]; exact Nat.le_refl _, hnl, hfl, hol⟩⟩
        | some j =>
          obtain ⟨y, rest, rfl, t, rfl⟩ := hS.first (pos_lt hp) (holds_some hp).1 (holds_some hp).2
          have hj := pos_lt hp
          have hq0 : (Value.int (0 + (j : Int) * 2) t :: rest)[(0 : Int).toNat]? = some (.int (0 + (j : Int) * 2) t) := rfl
          have hlen5 := (hS.all (Q := fun _ => True) fun _ _ _ => trivial).2
          have ej : (0 + (j : Int) * 2 + 1).toNat = 2 * j + 1 := tn1 j
          have hj1 := tn3 j
          have hj2 := tn4 hj hlenR
          obtain ⟨r9, hR9, hR8⟩ := set_pack hP1 hp (hset j hp)
          k_steps
          rename News _ _ _ _ => N5
          rw [ej] at N5
          exact Hold.mk ⟨rfl, _, _, _, some _, rfl, by assumption, newsOf N5 (fun q hq => .tail _ (.tail _ (hY4 ▸ hq))), ⟨_, _, _, _, kvs', po', v', _, _, _, l', rfl, by assumption, by assumption, hd3', hz', hv', hy', C', hR9, Nat.le_succ_of_le (Nat.le_of_eq hR8), hnl, hfl, hol⟩⟩
      · refine Hold.mk ⟨rfl, _, _, _, none, rfl, frVal (by assumption) rfl, News.tl N8, ⟨_, _, _, _, kvs, po, _, _, _, _, (St i).l, by rw [hY], hv8, hn8, hd3, Nat.le_succ _, hv0, fun _ _ => rfl, ok0.ch, hP1, Nat.le_succ _, hl2, fun b hb => hl1 b (.tail _ hb), hl3⟩⟩
    clear F8 N8
    rintro h' tk' led vo F' N' ⟨dvs', dns', dn', n3, kvs', po', v', cars', rs', r', l', rfl, hv9, hn9, hd9, hz9, hvv, hvy, C', R', hr', hnl, hfl, hol⟩
    have Sf : Hold (SymOf w.params fz x i nm) := Hold.mk S
    obtain ⟨Y5, hY5⟩ : ∃ Y5, Y5 = l' ++ (others St i ++ news) := ⟨_, rfl⟩
    rw [← hY5] at N'
    have hn5 : ∀ q ∈ fz, q ∈ Y5 := fun q hq => hY5 ▸ List.mem_append_right _ (List.mem_append_right _ (sub q hq))
    have hl5 : ∀ q ∈ l', q ∈ Y5 := fun q hq => hY5 ▸ List.mem_append_left _ hq
    have hR5 : PR (Meet x2 k' kv') cars' rs' r' := R'.mono fun _ _ h => h.meet hto1
    have hlenR' : rs'.length = 2 * r'.length := R'.len.2
    have hlenC' : cars'.length = 2 * r'.length := R'.len.1
    have hlenM' : r'.length ≤ 101 := Nat.le_trans hr' (Nat.succ_le_succ hlenM)
    (try dsimp only)
    k_steps
    rename News _ _ _ _ => N8
    replace N8 := News.sel 12 [7, 8, 9, 0, 1, 2, 3, 4, 5, 6, 10, 11] N8
    simp only [sel, nth?, List.drop] at N8
    k_dflt (refine' Hold.mk (get_ok ?B ?F ?X N8 ?T ?hk ?hdp ?hun lo3 hd9 hvv (S.mono ?s1) C' ?s3 hR5 hkv (SX.mono ?s2) ?z2 ?_))
    case B => k_asm
    case F => k_asm
    case X => k_asm
    case T => k_asm
    case hk => first | exact rfl | assumption
    case hdp => ktr_room
    case hun => units_room
    case z2 => first | exact rm0 hlenM' rfl | omega
    case s1 => exact fun q hq => .tail _ (.tail _ (.tail _ (.tail _ (.tail _ (.tail _ (.tail _ (.tail _ (.tail _ (hn5 q hq)))))))))
    case s2 => exact fun q hq => .tail _ (.tail _ (.tail _ (.tail _ (.tail _ (.tail _ (.tail _ (.tail _ (.tail _ (hn5 q hq)))))))))
    case s3 => exact fun q hq => .tail _ (.tail _ (.tail _ (.tail _ (.tail _ (.tail _ (.tail _ (.tail _ (.tail _ (hl5 q hq)))))))))
    clear N8
    intro res h' tk' hres F' N'
    k_steps
    rename Fr _ _ _ _ => F8
    refine Hold.mk (Assign_ListComp_S (F₀ := F8) rfl (by with_unfolding_all rfl) (by with_unfolding_all rfl) (by decide) (by rfl) (by decide) (by rfl) (by rfl) (by rfl) ?_)
    k_steps
    rename IsRange _ _ _ _ _ _ _ _ => hrg
    rename Fr _ _ _ _ => F8
    rename News _ _ _ _ => N8
    obtain ⟨sm1, sm2⟩ := steps_small r'.length (rm0 hlenM' rfl)
    have hrs9 : rs'.length ≤ 500 := dbl hlenR' hlenM' rfl
    have hcs9 : cars'.length ≤ 900 := dbl hlenC' hlenM' rfl
    rw [hlenR'] at hrg
    refine Hold.mk ⟨_, 0, ((2 * r'.length : Nat) : Int), 2, _, _, _, r'.length, _, rfl, rfl, F8, N8, hrg, sm1, sm2, Nat.le_trans hlenM' (by decide), ?_⟩
    clear F8 N8 hrg
    rintro _ ⟨h9, rfl⟩
    refine comp_sel (holds k' r') (fun j y => ∃ k v t, r'[j]? = some (k, v) ∧ y = .int v t) ?_ ?_
    · intro j t I oI C oC D m₂ ys h tk E' hj hC hx F8 N8 off ne
      obtain ⟨k2, kv2, nv2, v2, u1, u2, q1, q2, q3, q4, q5, q6, q7, q8⟩ := R'.at hj
      have hrow : rs'[(0 + (j : Int) * 2).toNat]? = some nv2 := by
        rw [tn0]; exact q4
      have hrow2 : rs'[(0 + (j : Int) * 2 + 1).toNat]? = some (.int v2 u2) := by
        rw [tn1]; exact q5
      have hb : holds k' r' j = decide (k2 = k') := by unfold holds; rw [q1]
      have hj0 := tn2 j
      have hj1 := tn3 j
      k_steps
      · rename News _ _ _ _ => N9
        exact ⟨_, _, _, rfl, by assumption, N9, off, trivial, rfl, hb.trans (decide_eq_true (by assumption)), _, _, _, q1, rfl⟩
      · rename News _ _ _ _ => N9
        exact ⟨_, _, _, rfl, by assumption, N9, off, trivial, rfl, hb.trans (decide_eq_false (by assumption))⟩
    intro ys hS Dd h9 tk9 F9 N9 off9
    replace N9 : News g9 L9 h9 ((Dd, lst ys ys.length) :: (ce, instObj 197 ceD) :: (ceD, celO w.params fd pd t3 t4) :: (pd, po') :: (ra, lst rs' n3) :: (tab, instObj 272 tabD) :: (tabD, tabO w.params rl nd t1 t2) :: (rl, lst vs n) :: (dk, lst dvs' dn') :: (mo, moo) :: (mp, mpo') :: (L9 + 1 + 1, oR) :: (L9 + 1, oN) :: Y5) := N9
    have hys : ∀ y ∈ ys, ∃ i t, y = .int i t := (hS.all fun i y ⟨k, v, t, _, e⟩ => ⟨v, t, e⟩).1
    have hdat : DatAll [] rs' (flatD r') := R'.dat
    have hdok := flatD_ok r'
    have hlen5 := (hS.all (Q := fun _ => True) fun _ _ _ => trivial).2
    have FIN9 : ∀ h tk, Fr h₀ L h m → tk20 + 1 + 1 + 1 + 1 ≤ tk → (∀ q ∈ (ce, instObj 197 ceD) :: (ceD, celO w.params fd pd t3 t4) :: (pd, po') :: (ra, lst rs' n3) :: (tab, instObj 272 tabD) :: (tabD, tabO w.params rl nd t1 t2) :: (rl, lst vs n) :: (dk, lst dvs' dn') :: (mo, moo) :: (mp, mpo') :: (L9 + 1 + 1, oR) :: (L9 + 1, oN) :: Y5, h.get? q.1 = some q.2 ∧ q.1 ≠ L ∧ h₀.get? q.1 = none) → Q (.bool true) { s with heap := h, toks := tk } := by
      intro h tk F9 htk9 N9
      have hraO : ∀ q ∈ others St i ++ news, q.1 ≠ ra := fun q hq => hraY q (hY ▸ List.mem_append_right _ hq)
      obtain ⟨en1, en2⟩ := st_end (S' := ⟨v', cars', l', some (ra, rs', n3), r'⟩) (l' := l') (ra := ra) (o := lst rs' n3) hi3 hnd hoffc rfl hnl (all9 hfl) (hfl ra (.head _)) hol (allc aR3 (allc aR4 (allc aR5 (allc aR6 (allc aR7 (allc aR8 (allc aR9 (allc aR10 (allc aR11 alln))))))))) hraO
      exact ret dvs' dns' dn' kvs' mkvs' mpo' po' (updS St i ⟨v', cars', l', some (ra, rs', n3), r'⟩) (tk20 + 1 + 1 + 1 + 1) h tk F9 (fun q hq => N9 q (hY5 ▸ fin_mem hi3 q hq)) hv9 hn9 hd2' hd9 hz9 hmz' (fin_st hP hvv hra' ⟨C', R'.mono (fun _ _ h => h.old hBt (Nat.lt_succ_of_lt hto2)), Nat.le_trans hr' (Nat.succ_le_succ ok0.len)⟩ hBt hvy hmk') htk9 en1 en2
    (try dsimp only)
    cases hp : pos k' r' with
    | none =>
      obtain rfl : ys = [] := hS.none (holds_none hp)
      obtain rfl : res = .ref 78 := by
        rcases hres with ⟨-, e⟩ | ⟨j, k, v, t, e, -⟩
        · exact e
        · rw [hp] at e; cases e
      k_steps
      rename News _ _ _ _ => N8
      replace N8 := News.sel 14 [2, 3, 4, 5, 6, 7, 8, 9, 10, 11, 12, 13] N8
      simp only [sel, nth?, List.drop] at N8
      k_dflt (refine' Hold.mk (plist_of_ok ?B ?F ?X N8 ?T ?hk ?hdp ?hun lo3 hd9 hvv (S.mono ?s1) ?_))
      case B => k_asm
      case F => k_asm
      case X => k_asm
      case T => k_asm
      case hk => first | exact rfl | assumption
      case hdp => ktr_room
      case hun => units_room
      case s1 => exact fun q hq => .tail _ (.tail _ (.tail _ (.tail _ (.tail _ (.tail _ (.tail _ (.tail _ (.tail _ (hn5 q hq)))))))))
      clear N8
      intro h' tk' F' N'
      k_steps
      rename News _ _ _ _ => N8
      k_dflt (refine' Hold.mk (shown_ok ?B ?F ?X N8 ?T ?hk ?hdp ?hun C' ?s3 (R'.shown fun _ _ h => h.1) (SX.mono ?s2) ?z2 ?_))
      case B => k_asm
      case F => k_asm
      case X => k_asm
      case T => k_asm
      case hk => first | exact rfl | assumption
      case hdp => ktr_room
      case hun => units_room
      case z2 => exact hcs9
      case s2 => exact fun q hq => .tail _ (.tail _ (.tail _ (.tail _ (.tail _ (.tail _ (.tail _ (.tail _ (.tail _ (.tail _ (.tail _ (.tail _ (hn5 q hq))))))))))))
      case s3 => exact fun q hq => .tail _ (.tail _ (.tail _ (.tail _ (.tail _ (.tail _ (.tail _ (.tail _ (.tail _ (.tail _ (.tail _ (.tail _ (hl5 q hq))))))))))))
      clear N8
      intro fa ws n4 h' tk' hDa hlt F' N'
      k_steps
      rename News h₀ L _ _ => NF
      exact FIN9 _ _ (by assumption) (by omega) (fun q hq => NF q (.tail _ hq))
    | some j =>
      obtain ⟨y, rest, rfl, k3, v3, t3, e3, rfl⟩ := hS.first (pos_lt hp) (holds_some hp).1 (holds_some hp).2
      obtain ⟨t4, rfl⟩ : ∃ t, res = .int v3 t := by
        rcases hres with ⟨e, -⟩ | ⟨j', k, v, t, e, e2, e4⟩
        · rw [hp] at e; cases e
        · rw [hp] at e; cases e
          rw [e3] at e2; cases e2
          exact ⟨t, e4⟩
      have hq0 : (Value.int v3 t3 :: rest)[(0 : Int).toNat]? = some (.int v3 t3) := rfl
      k_steps
      rotate_left
      · exfalso
        have hb : v3 ≠ v3 := by with_reducible assumption
        exact hb rfl
      rename News _ _ _ _ => N8
      replace N8 := News.sel 14 [2, 3, 4, 5, 6, 7, 8, 9, 10, 11, 12, 13] N8
      simp only [sel, nth?, List.drop] at N8
      k_dflt (refine' Hold.mk (plist_of_ok ?B ?F ?X N8 ?T ?hk ?hdp ?hun lo3 hd9 hvv (S.mono ?s1) ?_))
      case B => k_asm
      case F => k_asm
      case X => k_asm
      case T => k_asm
      case hk => first | exact rfl | assumption
      case hdp => ktr_room
      case hun => units_room
      case s1 => exact fun q hq => .tail _ (.tail _ (.tail _ (.tail _ (.tail _ (.tail _ (.tail _ (.tail _ (.tail _ (hn5 q hq)))))))))
      clear N8
      intro h' tk' F' N'
      k_steps
      rename News _ _ _ _ => N8
      k_dflt (refine' Hold.mk (shown_ok ?B ?F ?X N8 ?T ?hk ?hdp ?hun C' ?s3 (R'.shown fun _ _ h => h.1) (SX.mono ?s2) ?z2 ?_))
      case B => k_asm
      case F => k_asm
      case X => k_asm
      case T => k_asm
      case hk => first | exact rfl | assumption
      case hdp => ktr_room
      case hun => units_room
      case z2 => exact hcs9
      case s2 => exact fun q hq => .tail _ (.tail _ (.tail _ (.tail _ (.tail _ (.tail _ (.tail _ (.tail _ (.tail _ (.tail _ (.tail _ (.tail _ (hn5 q hq))))))))))))
      case s3 => exact fun q hq => .tail _ (.tail _ (.tail _ (.tail _ (.tail _ (.tail _ (.tail _ (.tail _ (.tail _ (.tail _ (.tail _ (.tail _ (hl5 q hq))))))))))))
      clear N8
      intro fa ws n4 h' tk' hDa hlt F' N'
      k_steps
      rename News h₀ L _ _ => NF
      exact FIN9 _ _ (by assumption) (by omega) (fun q hq => NF q (.tail _ hq)))])) :))
theorem all : ∀ d, S d := Mine.eps ne (by with_unfolding_all exact @plist_deed)
end Ep_plist_deed
section
variable {prog : Program} {w : World} {p : Program} {loose : List Str} {mean : ExcName → Option Value} {mg mb : Str → Option Value}
 {dp un : Nat} {gd : Option (List Code)} {cn : Str} {cs : Scope} {a : Addr} {ccd : Value} {cl : List (Str × Addr)} {outer : List Env} {A₀ : Around} {base h₀ : Heap} {L : Addr} {m : Str → Option Value} {news fz : List (Addr × Obj)} {s : Shared} {Q E : Value → Shared → Prop}
variable {dk tab tabD rl mo mr mn mp mf ce ceD fd pd nd xA : Addr} {t1 t2 t3 t4 : Tok} {moo mpo po : Obj} {vs dvs : List Value} {dns : List Int} {dn n : Nat} {kvs mkvs : List (Int × Value)} {St : Nat → PS} {Bt M : Nat}
theorem plist_deed
   (B : Below A₀ base outer h₀) (F : Fr h₀ L s.heap m) (X : (Mine.K w.params).In h₀)
   (N : News h₀ L s.heap ((dk, lst dvs dn) :: (tab, instObj 272 tabD) :: (tabD, tabO w.params rl nd t1 t2) :: (rl, lst vs n) :: (mo, moo) :: (mp, mpo) :: (ce, instObj 197 ceD) :: (ceD, celO w.params fd pd t3 t4) :: (pd, po) :: (chains St ++ news)))
   (T : Top p loose mean mg mb h₀) (hk : cs.kind = .function) (hdp : dp ≤ 400) (hun : un ≤ 500)
   (hv : IntsAre dvs dns) (hn : Low dns) (lo1 : (mo == sysModules) = false) (lo2 : (mp == sysModules) = false) (lo3 : (pd == sysModules) = false)
   (hd1 : moo.IsDictOf (strKind prog w) (modK mr mn mp mf)) (hd2 : mpo.IsDictOf (intKind prog w) mkvs) (hd3 : po.IsDictOf (intKind prog w) kvs)
   (sub : ∀ p ∈ fz, p ∈ news) (hrows : RowsOk w.params fz vs) (hz : 4 ≤ vs.length) (hz2 : vs.length ≤ 900) (hz3 : kvs.length ≤ 800) (hz4 : mkvs.length ≤ 800)
   (hx2 : vs[2]? = some (.ref xA)) (SX : SymOf w.params fz xA 2 "x")
   (hP : ∀ i, i < 3 → valueAt kvs ((i : Nat) : Int) = (St i).v ∧ valueAt mkvs ((i : Nat) : Int) = (St i).ra ∧ (St i).Ok w.params xA Bt M) (hM : M ≤ 100) (hB : Bt ≤ s.toks)
   (hnd : ([dk, tab, tabD, rl, mo, mp, ce, ceD, pd] ++ (chains St).map (·.1)).Nodup) (hoff : ∀ b ∈ [dk, tab, tabD, rl, mo, mp, ce, ceD, pd], Off b news) (hoffc : ∀ q ∈ chains St, Off q.1 news)
   (ret : ∀ dvs' dns' dn' kvs' mkvs' mpo' po' St' Bt' h' tk', Fr h₀ L h' m → News h₀ L h' ((dk, lst dvs' dn') :: (tab, instObj 272 tabD) :: (tabD, tabO w.params rl nd t1 t2) :: (rl, lst vs n) :: (mo, moo) :: (mp, mpo') :: (ce, instObj 197 ceD) :: (ceD, celO w.params fd pd t3 t4) :: (pd, po') :: (chains St' ++ news)) →
     IntsAre dvs' dns' → Low dns' → mpo'.IsDictOf (intKind prog w) mkvs' → po'.IsDictOf (intKind prog w) kvs' → kvs'.length ≤ kvs.length + 1 → mkvs'.length ≤ mkvs.length + 1 →
     (∀ i, i < 3 → valueAt kvs' ((i : Nat) : Int) = (St' i).v ∧ valueAt mkvs' ((i : Nat) : Int) = (St' i).ra ∧ (St' i).Ok w.params xA Bt' (M + 1)) → Bt' ≤ tk' →
     ([dk, tab, tabD, rl, mo, mp, ce, ceD, pd] ++ (chains St').map (·.1)).Nodup → (∀ q ∈ chains St', Off q.1 news) → Q (.bool true) { s with heap := h', toks := tk' }) :
   wpAny (model prog w) (ktrTop dp un gd cn cs L a ccd cl outer) (call (.ref 305) [.ref dk, .ref ce, .ref tab, .ref mo]) Q E s := Ep_plist_deed.all (prog, w, p, loose, mean, mg, mb, dp, un, gd, cn, cs, a, ccd, cl, outer, A₀, base, h₀, L, m, news, fz, s, Q, E, dk, tab, tabD, rl, mo, mr, mn, mp, mf, ce, ceD, fd, pd, nd, t1, t2, t3, t4, moo, mpo, po, vs, dvs, dns, dn, n, kvs, mkvs, St, Bt, M) B F X N T hk hdp hun hv hn lo1 lo2 lo3 hd1 hd2 hd3 sub hrows hz hz2 hz3 hz4 hx2 SX hP hM hB hnd hoff hoffc ret
end
end Mine
end PartH12
section PartW1
open PySem PySem.W PyProof.Rows PySem.Calls PySem.Spec PyProof.V
set_option maxHeartbeats 1000000
namespace Mine
theorem leS_trans {a b c : List Nat} (h : ¬ b < a) (g : ¬ c < b) : ¬ c < a := by
  rw [List.not_lt] at *
  exact List.le_trans h g
theorem risingS_pw : ∀ (l : List Str) (p : Str), risingS p l = true → (p :: l).Pairwise (fun a b => ¬ b.cps.toList < a.cps.toList)
  | [], p, _ => by simp
  | x :: r, p, h => by
    have h' : (!ltCps x.cps.toList p.cps.toList && risingS x r) = true := h
    rw [Bool.and_eq_true, Bool.not_eq_true', ltCps_eq, decide_eq_false_iff_not] at h'
    have ih := risingS_pw r x h'.2
    refine List.pairwise_cons.mpr ⟨fun y hy => ?_, ih⟩
    rcases List.mem_cons.mp hy with rfl | hy
    · exact h'.1
    · exact leS_trans h'.1 (List.rel_of_pairwise_cons ih hy)
theorem sortedS_pw {l : List Str} (h : sortedS l = true) : l.Pairwise (fun a b => ¬ b.cps.toList < a.cps.toList) := by
  cases l with
  | nil => exact .nil
  | cons x r => exact risingS_pw r x h
theorem sorted_unique : ∀ {l l' : List Str}, l.Pairwise (fun a b => ¬ b.cps.toList < a.cps.toList) → l'.Pairwise (fun a b => ¬ b.cps.toList < a.cps.toList) → l.Perm l' → l = l'
  | [], l', _, _, h => (List.Perm.nil_eq h)
  | x :: r, [], _, _, h => by have := h.length_eq; simp at this
  | x :: r, y :: t, hl, hl', h => by
    have e : x = y := by
      have hx : x ∈ y :: t := h.mem_iff.mp (.head _)
      have hy : y ∈ x :: r := h.mem_iff.mpr (.head _)
      rcases List.mem_cons.mp hx with rfl | hx
      · rfl
      rcases List.mem_cons.mp hy with rfl | hy
      · rfl
      have a := List.rel_of_pairwise_cons hl hy
      have b := List.rel_of_pairwise_cons hl' hx
      rw [List.not_lt] at a b
      have c := List.le_antisymm a b
      cases x with | mk cx => cases y with | mk cy => exact congrArg Str.mk (Array.ext' c)
    subst e
    rw [sorted_unique (List.pairwise_cons.mp hl).2 (List.pairwise_cons.mp hl').2 (List.Perm.cons_inv h)]
theorem strsAre_of {kvs : List (Str × Value)} {knd : Str → Value → Bool} (hk : ∀ k v, knd k v = true → ∃ t, v = .str k t) : ∀ {kvs : List (Str × Value)} {vs : List Value}, vs.length = kvs.length → (∀ (j : Nat) (v : Value), vs[j]? = some v → ∃ k x, kvs[j]? = some (k, x) ∧ knd k v = true) → StrsAre vs (kvs.map (·.1)) := by
  intro kvs vs
  induction vs generalizing kvs with
  | nil =>
    intro hl _
    cases kvs with
    | nil => exact .nil
    | cons _ _ => simp at hl
  | cons v r ih =>
    intro hl h
    cases kvs with
    | nil => simp at hl
    | cons q t =>
      obtain ⟨k, x, e, hv⟩ := h 0 v rfl
      simp only [List.getElem?_cons_zero, Option.some.injEq] at e
      subst e
      obtain ⟨u, rfl⟩ := hk k v hv
      exact .cons k u (ih (by simpa using hl) fun j v' hj => by simpa using h (j + 1) v' (by simpa using hj))
section
variable {prog : Program} {w : World} {A : Around} {E : Value → Shared → Prop} {s : Shared} {h₀ : Heap} {L d : Addr} {m : Str → Option Value} {news : List (Addr × Obj)} {od : Obj} {kvs : List (Str × Value)} {Q : Value → Shared → Prop}
theorem sorted_heap_keep {h : Heap} {a b : Addr} {vs : List Value} {out : Array Value} {o : Obj} (hb : b ≠ a) (ho : h.get? b = some o) : (sortedHeap h a vs out).get? b = some o := by
  rw [sortedHeap_old hb (Heap.lt_size ho)]; exact ho
theorem sort_strs {D : Addr} {vs : List Value} {ss : List Str} (F : Fr h₀ L s.heap m) (N : News h₀ L s.heap ((D, W.listOf vs.toArray 0) :: news)) (hap : ∀ p ∈ news, p.1 ≠ D) (hS : StrsAre vs ss) (h64 : vs.length < 64)
    (h : ∀ h' vs' ss' e, Fr h₀ L h' m → News h₀ L h' ((D, lst vs' e) :: news) → StrsAre vs' ss' → ss'.Perm ss → sortedS ss' = true → Q .none { s with heap := h' }) :
    wpAny (model prog w) A (call (.builtin "list.sort") [.ref D]) Q E s := by
  have ho : s.heap.get? D = some (seqObj "list" vs.toArray 0) := (N _ (.head _)).1
  have hD := (N _ (.head _)).2
  refine wpAny_call_entry slot_list_sort ⟨_, ho, rfl⟩ entry_list_sort (list_sort_treeK strKind_oneLt ho hS.keysOf (fun v₁ v₂ rest e => keyKind_strs (by rw [← e]; exact hS)) h64 fun st' hp hs => ⟨_, rfl, ?_⟩) (args_list_sort _)
  obtain ⟨ss', h1, h2, h3⟩ := sorted_out_str hS hp hs
  obtain ⟨e, he⟩ := sortedHeap_at (out := (arrOf st').map (·.2)) ho
  refine h _ ((arrOf st').map (·.2)).toList ss' e ?_ ?_ h1 h2 h3
  · have hL : L ≠ D := fun q => hD.1 q.symm
    obtain ⟨oL, a1, a2, hoL, a3⟩ := F.ns
    exact ⟨⟨oL, a1, a2, sorted_heap_keep hL hoL, a3⟩, fun b o q => sorted_heap_keep (fun z => by rw [z, hD.2] at q; cases q) (F.keep b o q), F.above⟩
  · intro q hq
    rcases List.mem_cons.mp hq with rfl | hq
    · exact ⟨by show _ = some (W.listOf (Array.toList _).toArray e); rw [Array.toArray_toList]; exact he, hD⟩
    · exact ⟨sorted_heap_keep (hap q hq) (N q (.tail _ hq)).1, (N q (.tail _ hq)).2⟩
theorem sorted_names (F : Fr h₀ L s.heap m) (N : News h₀ L s.heap news) (hm : (d, od) ∈ news) (hd : od.IsDictOf (PySem.strKind prog w) kvs) (lo : (d == sysModules) = false) (hA : A.handled = none) (h64 : kvs.length < 64)
    (h : ∀ D h' tk vs' ss' e, Fr h₀ L h' m → News h₀ L h' ((D, lst vs' e) :: news) → (∀ p ∈ news, p.1 < D) → StrsAre vs' ss' → ss'.Perm (kvs.map (·.1)) → sortedS ss' = true → Q (.ref D) { s with heap := h', toks := tk }) :
    wpAny (model prog w) A (call (.builtin "sorted") [.ref d]) Q E s := by
  have hD : s.heap.DictOf (PySem.strKind prog w) d kvs := Heap.dictOf_iff.mpr ⟨od, (N _ hm).1, hd⟩
  obtain ⟨ep, hat⟩ := hD.dictAt
  refine kdu_sorted (kdl_dict (knd := PySem.strKind prog w) (kvs := kvs) (ep := ep) lo) hA F N hat (by rw [sizeLine_eq]; omega) fun B h' tk vs F' N' l1 hl hv => ?_
  have hS : StrsAre vs (kvs.map (·.1)) := strsAre_of (kvs := kvs) (knd := (PySem.strKind prog w).is) (fun k v q => Value.isStrOf_shape q) hl hv
  exact sort_strs F' N' (fun p hp => Nat.ne_of_lt (l1 p hp)) hS (by omega) fun h'' vs' ss' e F'' N'' a1 a2 a3 => h B h'' tk vs' ss' e F'' N'' l1 a1 a2 a3
theorem News.back {h : Heap} {x : Addr × Obj} {base n9 : List (Addr × Obj)} (N : News h₀ L h (x :: n9)) (hb : ∀ q ∈ base, q ∈ n9) : News h₀ L h (x :: base) := fun q hq => by
  rcases List.mem_cons.mp hq with rfl | hq
  · exact N _ (.head _)
  · exact N _ (.tail _ (hb _ hq))
/-- two lists of strs that hold the same -/
theorem eq_strs {l1 l2 : Addr} {vs vs' : List Value} {ss : List Str} {n n' : Nat} (N : News h₀ L s.heap news) (m1 : (l1, lst vs n) ∈ news) (m2 : (l2, lst vs' n') ∈ news) (S1 : StrsAre vs ss) (S2 : StrsAre vs' ss) (hok : ∀ x ∈ ss, PyData.strOk x = true) (hu : A.units + 64 < cLine)
    (h : Q (.bool true) s) : wpAny (model prog w) A (compareOp .Eq (.ref l1) (.ref l2)) Q E s := by
  have sh : SeqAt.shaped (.list (ss.map .str)) = true := by
    unfold SeqAt.shaped
    rw [Bool.and_eq_true]
    refine ⟨?_, decide_eq_true ?_⟩
    · show PyData.canLay0 (.list (ss.map .str)) = true
      simp only [PyData.canLay0, canLayAll_strs', List.all_eq_true]
      exact hok
    · simp only [PyData.depth, depthAll_strs']; omega
  refine eq_dataH (reads_list_at (N.get m1) rfl rfl (S1.reads _)) (reads_list_at (N.get m2) rfl rfl (S2.reads _)) sh sh hu ?_
  have e : ∀ l : List Str, PyData.eqvAll (l.map .str) (l.map .str) = true := by
    intro l
    induction l with
    | nil => simp [PyData.eqvAll]
    | cons x r ih => simp [PyData.eqvAll, PyData.eqv, ih]
  have e2 : PyData.eqv (.list (ss.map .str)) (.list (ss.map .str)) = true := by
    simp only [PyData.eqv]; exact e ss
  rw [e2]
  exact h
theorem eq_sorted {l1 l2 : Addr} {vs vs' : List Value} {ss ss' k k' : List Str} {n n' : Nat} (N : News h₀ L s.heap news) (m1 : (l1, lst vs n) ∈ news) (m2 : (l2, lst vs' n') ∈ news) (S1 : StrsAre vs ss) (S2 : StrsAre vs' ss') (p1 : ss.Perm k) (p2 : ss'.Perm k') (o1 : sortedS ss = true) (o2 : sortedS ss' = true) (hk : k = k') (hok : ∀ x ∈ k, PyData.strOk x = true) (hu : A.units + 64 < cLine)
    (h : Q (.bool true) s) : wpAny (model prog w) A (compareOp .Eq (.ref l1) (.ref l2)) Q E s := by
  subst hk
  have e := sorted_unique (sortedS_pw o1) (sortedS_pw o2) (p1.trans p2.symm)
  subst e
  exact eq_strs N m1 m2 S1 S2 (fun x hx => hok x (p1.mem_iff.mp hx)) hu h
end
end Mine
open Mine
theorem Mine.regW11 : True := by
  k_with "call builtin:sorted" => ((k_here; k_dflt (refine sorted_names (by k_asm) (by k_asm) (by k_mem) (by k_asm) (by k_asm) (by rfl) (by omega) ?_); intro D' hzq9 tkzq9 vs' ss' e' Fzq9 Nzq9 l1zq9 S' p' ozq9; (try k_lt l1zq9)))
  k_with "compareOp Eq ref ref" => ((k_here; k_dflt (refine eq_sorted (by k_asm) (by k_mem) (by k_mem) (by assumption) (by assumption) (by assumption) (by assumption) (by assumption) (by assumption) (by assumption) (by assumption) (by units_room) ?_)))
  exact trivial
end PartW1
section PartC4
open PySem PySem.W PyProof.Rows PySem.Calls PySem.Spec
set_option maxHeartbeats 2000000
namespace Mine
section
variable {prog : Program} {w : World} {p : Program} {loose : List Str} {mean : ExcName → Option Value} {mg mb : Str → Option Value}
 {dp un : Nat} {gd : Option (List Code)} {cn : Str} {cs : Scope} {a : Addr} {ccd : Value} {cl : List (Str × Addr)} {outer : List Env} {A₀ : Around} {base h₀ : Heap} {L : Addr} {m : Str → Option Value} {news : List (Addr × Obj)} {s : Shared} {Q E : Value → Shared → Prop}
variable {tab tabD nd rl : Addr} {t1 t2 tk : Tok} {no : Obj} {vs : List Value} {n : Nat} {kvs : List (Str × Value)} {nm : Str}

theorem unintern_no
   (B : Below A₀ base outer h₀) (F : Fr h₀ L s.heap m) (X : (Mine.K w.params).In h₀) (N : News h₀ L s.heap ((tab, instObj 272 tabD) :: (tabD, tabO w.params rl nd t1 t2) :: (nd, no) :: news)) (T : Top p loose mean mg mb h₀) (hk : cs.kind = .function) (hdp : dp ≤ 500) (hun : un ≤ 600)
   (lo : (nd == sysModules) = false) (hd : no.IsDictOf (strKind prog w) kvs)
   (hv : valueAt kvs nm = none ∨ (∃ v, valueAt kvs nm = some v) ∧ (nm = "nil" ∨ nm = "t"))
   (ret : ∀ h' tk', Fr h₀ L h' m → News h₀ L h' ((tab, instObj 272 tabD) :: (tabD, tabO w.params rl nd t1 t2) :: (nd, no) :: news) → Q (.bool false) { s with heap := h', toks := tk' }) :
   wpAny (model prog w) (ktrTop dp un gd cn cs L a ccd cl outer) (call (.ref 255) [.ref tab, .str nm tk]) Q E s := Mine.byKey fun kzq9 => Mine.Fam.of (by exact Mine.Fam.mk : Mine.Fam ((Mine.Key.unbox kzq9 (by simp only [Mine.Key.box kzq9 (by
  clear kzq9
  refine wcall ?_
  k_dflt (k_extra "MY enterC")
  clear F N
  rcases hv with hv | ⟨⟨v9, hv⟩, hn⟩
  · k_steps
    rename News h₀ L _ _ => N8
    refine ret _ _ (by assumption) ?_
    (first | exact N8 | (refine News.perm N8 ?_; k_extra "MY perm"))
  · rcases hn with rfl | rfl
    all_goals
      k_steps
      rename News h₀ L _ _ => N8
      refine ret _ _ (by assumption) ?_
      (first | exact N8 | (refine News.perm N8 ?_; k_extra "MY perm")))])) :))
end
end Mine
end PartC4
section PartT2
open PySem PySem.W PyProof.Rows PySem.Calls PySem.Spec Mine
set_option maxHeartbeats 40000000
namespace Mine
section
variable {prog : Program} {w : World} {p : Program} {loose : List Str} {mean : ExcName → Option Value} {mg mb : Str → Option Value}
 {dp un : Nat} {gd : Option (List Code)} {cn : Str} {cs : Scope} {a : Addr} {ccd : Value} {cl : List (Str × Addr)} {outer : List Env} {A₀ : Around} {base h₀ : Heap} {L : Addr} {m : Str → Option Value} {led news : List (Addr × Obj)} {s : Shared} {Q E : Value → Shared → Prop}
variable {dk tab tabD rl mo mr mp mf : Addr} {K : Nat} {vs : List Value} {fz : List (Addr × Obj)}
theorem Mine.regT21 : True := by
  k_with "getMethod ref" => (guard_hyp fl9 : Mine.Fl 49; ((k_here; (with_reducible show wpAny _ _ (getMethod (Value.ref _) (Str.ofString "items") _) _ _ _); k_dflt (refine kdl_method (knd := PySem.strKind _ _) PySem.F.slot_dict_items PySem.F.type_dict_items (by k_asm) (by k_mem) (by k_asm) ?_))))
  k_with "call builtin:dict.items" => (guard_hyp fl9 : Mine.Fl 49; ((k_here; k_dflt (refine kta_callItems (knd := PySem.strKind _ _) (by k_asm) (by k_asm) (by k_mem) (by k_asm) (by k_asm) ?_); intro hzq9 hvzq9 Fzq9 Nzq9)))
  k_with "eval ListComp" => (guard_hyp fl9 : Mine.Fl 49; ((k_here; k_dflt (refine kct_ListComp (PySem.strKind _ _) (by k_asm) (by rfl) (by decide) (by rfl) (by decide) (by rfl) (by rfl) (by decide) ?_))))
  k_with "call type:dict" => (guard_hyp fl9 : Mine.Fl 49; ((k_here; k_dflt (refine dict_pairs (by k_asm) (by k_asm) (Top.nolimit (by k_asm)) (by k_mem) (by assumption) (by assumption) (by assumption) (by rfl) ?_); intro dzq9 hzq9 ozq9 tkzq9 Fzq9 Nzq9 l1zq9 lozq9 hdzq9; (try k_lt l1zq9))))
  exact trivial
noncomputable def IsSix (v : Value) : Prop := ∃ nm t, v = .str nm t ∧ nm ∈ sixNames
theorem MEM2 {a b : Addr × Obj} {fz news : List (Addr × Obj)} (sub : ∀ p ∈ fz, p ∈ news) : ∀ p ∈ a :: b :: fz, p ∈ a :: b :: news := fun p hp => by
  rcases List.mem_cons.mp hp with rfl | hp
  · exact .head _
  rcases List.mem_cons.mp hp with rfl | hp
  · exact .tail _ (.head _)
  · exact .tail _ (.tail _ (sub _ hp))
theorem lt2_or {r : Int} (_ : r < 5) : decide (r < 2) = true ∨ (decide (r < 2) = false ∧ ¬ r < 2) := by
  by_cases h : r < 2
  · exact .inl (decide_eq_true h)
  · exact .inr ⟨decide_eq_false h, h⟩
theorem eq2_or {r : Int} (h : ¬ r < 2) : r = 2 ∨ ((r == 2) = false ∧ 2 < r) := by
  by_cases h2 : r = 2
  · exact .inl h2
  · exact .inr ⟨by rw [beq_eq_false_iff_ne]; exact h2, by omega⟩
theorem eq3_or {r : Int} (h : 2 < r) : r = 3 ∨ ((r == 3) = false ∧ 3 < r) := by
  by_cases h2 : r = 3
  · exact .inl h2
  · exact .inr ⟨by rw [beq_eq_false_iff_ne]; exact h2, by omega⟩
theorem Fr.sm {h₀ h : Heap} {L : Addr} {m m' : Str → Option Value} (F : Fr h₀ L h m) (e : ∀ z, m z = m' z) : Fr h₀ L h m' := by
  have q : m = m' := funext e
  subst q
  exact F
noncomputable def StopW : Prop := True
theorem Mine.regT22 : True := by
  k_with "exec If Compare" => (guard_hyp fl9 : Mine.Fl 49; ((k_here; (have h9 : StopW := by assumption); clear h9; refine Hold.out ?_)))
  k_with "exec If Name" => (guard_hyp fl9 : Mine.Fl 49; ((k_here; (have h9 : StopW := by assumption); clear h9; refine Hold.out ?_)))
  k_with "exec Assign cons BoolOp" => (guard_hyp fl9 : Mine.Fl 49; ((k_here; (have h9 : StopW := by assumption); clear h9; refine Hold.out ?_)))
  exact trivial
theorem get_val {prog : Program} {w : World} {A : Around} {E : Value → Shared → Prop} {s : Shared} {h₀ : Heap} {L d : Addr} {news : List (Addr × Obj)} {o : Obj} {kvs : List (Str × Value)} {k : Str} {t : Tok} {dflt x : Value} {Q : Value → Shared → Prop} (N : News h₀ L s.heap news) (hp : (d, o) ∈ news) (hd : o.IsDictOf (strKind prog w) kvs) (lo : (d == sysModules) = false) (hl : (valueAt kvs k).getD dflt = x) (h : Q x { s with toks := s.toks + 1 }) :
    wpAny (model prog w) A (call (.builtin "dict.get") [.ref d, .str k t, dflt]) Q E s := kdg_get2 N hp hd lo (strKind_is _ _ _ _) (valueAt kvs k) rfl (by rw [hl]; exact h)
theorem Mine.regT23 : True := by
  k_with "call builtin:dict.get" => (guard_hyp fl9 : Mine.Fl 49; ((k_here; k_dflt (refine get_val (by k_asm) (by k_mem) (by k_asm) (by k_asm) (by assumption) ?_))))
  exact trivial
inductive CutD (g : Heap) (L : Addr) (s : Shared) (m : Str → Option Value) (led : List (Addr × Obj)) (P : Bool → Prop) (fl : Flow) (s₃ : Shared) : Prop
  | mk (f : fl = .next) (h' : Heap) (tk' : Nat) (b : Bool) (e : s₃ = { s with heap := h', toks := tk' }) (F : Fr g L h' (fun z => if z = "due" then some (.bool b) else m z)) (N : News g L h' led) (p : P b)
theorem cut_due {prog : Program} {w : World} {A : Around} {E : Value → Shared → Prop} {s : Shared} {g : Heap} {L : Addr} {m : Str → Option Value} {led : List (Addr × Obj)} {t : Sem Flow} {Q : Flow → Shared → Prop} (F : Fr g L s.heap m) (N : News g L s.heap led) (P : Bool → Prop)
    (h1 : wpAny (model prog w) A t (fun fl s₃ => Hold (CutD g L s m led P fl s₃)) E s)
    (h2 : ∀ h' tk' b, Fr g L h' (fun z => if z = "due" then some (.bool b) else m z) → News g L h' led → P b → Q .next { s with heap := h', toks := tk' }) : wpAny (model prog w) A t Q E s :=
  wpAny_mono h1 (fun v s₃ h => by obtain ⟨rfl, h', tk', b, rfl, F', N', p⟩ := h; exact h2 h' tk' b F' N' p) fun _ _ e => e
/-- whether the name goes -/
noncomputable def Goes (mkvs : List (Str × Value)) (nm : Str) (b : Bool) : Prop := (b = false ∧ (valueAt mkvs nm = none ∨ nm = "nil" ∨ nm = "t")) ∨ (b = true ∧ valueAt mkvs nm ≠ none ∧ ¬ (nm = "nil" ∨ nm = "t"))
theorem any_two {nm : Str} {b : Bool} (h : List.any [("nil" : Str), "t"] (fun y => y == nm) = b) : (b = true → nm = "nil" ∨ nm = "t") ∧ (b = false → ¬ (nm = "nil" ∨ nm = "t")) := by
  simp only [List.any_cons, List.any_nil, Bool.or_false] at h
  subst h
  refine ⟨fun h => ?_, fun h => ?_⟩
  · rcases Bool.or_eq_true_iff.mp h with h | h
    · exact .inl (eq_of_beq h).symm
    · exact .inr (eq_of_beq h).symm
  · rintro (rfl | rfl)
    · simp at h
    · simp at h
theorem goes_any {mkvs : List (Str × Value)} {nm : Str} {v : Value} (h : valueAt mkvs nm = some v) : Goes mkvs nm (!List.any [("nil" : Str), "t"] (fun y => y == nm)) := by
  cases hb : List.any [("nil" : Str), "t"] (fun y => y == nm) with
  | true => exact .inl ⟨rfl, .inr ((any_two hb).1 rfl)⟩
  | false => exact .inr ⟨rfl, (by rw [h]; exact fun q => by cases q), (any_two hb).2 rfl⟩
theorem goes_no {P : Params} {fz : List (Addr × Obj)} {vs : List Value} {kvs mkvs : List (Str × Value)} {nm : Str} (R : NamesRel P fz vs kvs mkvs) (h : valueAt mkvs nm = none ∨ nm = "nil" ∨ nm = "t") : valueAt kvs nm = none ∨ (∃ v, valueAt kvs nm = some v) ∧ (nm = "nil" ∨ nm = "t") := by
  rcases R.at nm with ⟨h1, _⟩ | ⟨x, i, t, h1, h2, _⟩
  · exact .inl h1
  · rcases h with h | h
    · rw [h2] at h; cases h
    · exact .inr ⟨⟨_, h1⟩, h⟩
variable {nd mn : Addr} {t1 t2 : Tok} {no moo mno : Obj} {dvs : List Value} {dns : List Int} {dn n : Nat} {ms : List Value} {n2 : Nat} {kvs mkvs : List (Str × Value)}
end
namespace Ep_table_deedD
noncomputable abbrev D : Type := (Program) × (World) × (Program) × (List Str) × (ExcName → Option Value) × (Str → Option Value) × (Str → Option Value) × (Nat) × (Nat) × (Option (List Code)) × (Str) × (Scope) × (Addr) × (Value) × (List (Str × Addr)) × (List Env) × (Around) × (Heap) × (Heap) × (Addr) × (Str → Option Value) × (List (Addr × Obj)) × (List (Addr × Obj)) × (Shared) × (Value → Shared → Prop) × (Value → Shared → Prop) × (Addr) × (Addr) × (Addr) × (Addr) × (Addr) × (Addr) × (Addr) × (Addr) × (Nat) × (List Value) × (List (Addr × Obj)) × (Addr) × (Addr) × (Tok) × (Tok) × (Obj) × (Obj) × (Obj) × (List Value) × (List Int) × (Nat) × (Nat) × (List Value) × (Nat) × (List (Str × Value)) × (List (Str × Value))
noncomputable def S (d : D) : Prop := (fun (prog : Program) (w : World) (p : Program) (loose : List Str) (mean : ExcName → Option Value) (mg : Str → Option Value) (mb : Str → Option Value) (dp : Nat) (un : Nat) (gd : Option (List Code)) (cn : Str) (cs : Scope) (a : Addr) (ccd : Value) (cl : List (Str × Addr)) (outer : List Env) (A₀ : Around) (base : Heap) (h₀ : Heap) (L : Addr) (m : Str → Option Value) (led : List (Addr × Obj)) (news : List (Addr × Obj)) (s : Shared) (Q : Value → Shared → Prop) (E : Value → Shared → Prop) (dk : Addr) (tab : Addr) (tabD : Addr) (rl : Addr) (mo : Addr) (mr : Addr) (mp : Addr) (mf : Addr) (K : Nat) (vs : List Value) (fz : List (Addr × Obj)) (nd : Addr) (mn : Addr) (t1 : Tok) (t2 : Tok) (no : Obj) (moo : Obj) (mno : Obj) (dvs : List Value) (dns : List Int) (dn : Nat) (n : Nat) (ms : List Value) (n2 : Nat) (kvs : List (Str × Value)) (mkvs : List (Str × Value)) => ∀ (B : Below A₀ base outer h₀) (F : Fr h₀ L s.heap m) (X : (Mine.K w.params).In h₀) (N : News h₀ L s.heap led) (S : TabD prog w dk tab tabD rl mo mr mp mf vs fz news led K nd mn t1 t2 no moo mno dvs dns dn n ms n2 kvs mkvs) (hK : K ≤ 50) (T : Top p loose mean mg mb h₀) (hk : cs.kind = .function) (hdp : dp ≤ 400) (hun : un ≤ 500) (ret : ∀ led' vs' new h' tk', (∃ more, vs' = vs ++ more) → Fr h₀ L h' m → News h₀ L h' led' → TabSt prog w dk tab tabD rl mo mr mp mf vs' (new ++ fz) (new ++ news) led' (K + 1) → Above new news → Q (.bool true) { s with heap := h', toks := tk' }), wpAny (model prog w) (ktrTop dp un gd cn cs L a ccd cl outer) (call (.ref 293) [.ref dk, .ref tab, .ref mo]) Q E s) d.1 d.2.1 d.2.2.1 d.2.2.2.1 d.2.2.2.2.1 d.2.2.2.2.2.1 d.2.2.2.2.2.2.1 d.2.2.2.2.2.2.2.1 d.2.2.2.2.2.2.2.2.1 d.2.2.2.2.2.2.2.2.2.1 d.2.2.2.2.2.2.2.2.2.2.1 d.2.2.2.2.2.2.2.2.2.2.2.1 d.2.2.2.2.2.2.2.2.2.2.2.2.1 d.2.2.2.2.2.2.2.2.2.2.2.2.2.1 d.2.2.2.2.2.2.2.2.2.2.2.2.2.2.1 d.2.2.2.2.2.2.2.2.2.2.2.2.2.2.2.1 d.2.2.2.2.2.2.2.2.2.2.2.2.2.2.2.2.1 d.2.2.2.2.2.2.2.2.2.2.2.2.2.2.2.2.2.1 d.2.2.2.2.2.2.2.2.2.2.2.2.2.2.2.2.2.2.1 d.2.2.2.2.2.2.2.2.2.2.2.2.2.2.2.2.2.2.2.1 d.2.2.2.2.2.2.2.2.2.2.2.2.2.2.2.2.2.2.2.2.1 d.2.2.2.2.2.2.2.2.2.2.2.2.2.2.2.2.2.2.2.2.2.1 d.2.2.2.2.2.2.2.2.2.2.2.2.2.2.2.2.2.2.2.2.2.2.1 d.2.2.2.2.2.2.2.2.2.2.2.2.2.2.2.2.2.2.2.2.2.2.2.1 d.2.2.2.2.2.2.2.2.2.2.2.2.2.2.2.2.2.2.2.2.2.2.2.2.1 d.2.2.2.2.2.2.2.2.2.2.2.2.2.2.2.2.2.2.2.2.2.2.2.2.2.1 d.2.2.2.2.2.2.2.2.2.2.2.2.2.2.2.2.2.2.2.2.2.2.2.2.2.2.1 d.2.2.2.2.2.2.2.2.2.2.2.2.2.2.2.2.2.2.2.2.2.2.2.2.2.2.2.1 d.2.2.2.2.2.2.2.2.2.2.2.2.2.2.2.2.2.2.2.2.2.2.2.2.2.2.2.2.1 d.2.2.2.2.2.2.2.2.2.2.2.2.2.2.2.2.2.2.2.2.2.2.2.2.2.2.2.2.2.1 d.2.2.2.2.2.2.2.2.2.2.2.2.2.2.2.2.2.2.2.2.2.2.2.2.2.2.2.2.2.2.1 d.2.2.2.2.2.2.2.2.2.2.2.2.2.2.2.2.2.2.2.2.2.2.2.2.2.2.2.2.2.2.2.1 d.2.2.2.2.2.2.2.2.2.2.2.2.2.2.2.2.2.2.2.2.2.2.2.2.2.2.2.2.2.2.2.2.1 d.2.2.2.2.2.2.2.2.2.2.2.2.2.2.2.2.2.2.2.2.2.2.2.2.2.2.2.2.2.2.2.2.2.1 d.2.2.2.2.2.2.2.2.2.2.2.2.2.2.2.2.2.2.2.2.2.2.2.2.2.2.2.2.2.2.2.2.2.2.1 d.2.2.2.2.2.2.2.2.2.2.2.2.2.2.2.2.2.2.2.2.2.2.2.2.2.2.2.2.2.2.2.2.2.2.2.1 d.2.2.2.2.2.2.2.2.2.2.2.2.2.2.2.2.2.2.2.2.2.2.2.2.2.2.2.2.2.2.2.2.2.2.2.2.1 d.2.2.2.2.2.2.2.2.2.2.2.2.2.2.2.2.2.2.2.2.2.2.2.2.2.2.2.2.2.2.2.2.2.2.2.2.2.1 d.2.2.2.2.2.2.2.2.2.2.2.2.2.2.2.2.2.2.2.2.2.2.2.2.2.2.2.2.2.2.2.2.2.2.2.2.2.2.1 d.2.2.2.2.2.2.2.2.2.2.2.2.2.2.2.2.2.2.2.2.2.2.2.2.2.2.2.2.2.2.2.2.2.2.2.2.2.2.2.1 d.2.2.2.2.2.2.2.2.2.2.2.2.2.2.2.2.2.2.2.2.2.2.2.2.2.2.2.2.2.2.2.2.2.2.2.2.2.2.2.2.1 d.2.2.2.2.2.2.2.2.2.2.2.2.2.2.2.2.2.2.2.2.2.2.2.2.2.2.2.2.2.2.2.2.2.2.2.2.2.2.2.2.2.1 d.2.2.2.2.2.2.2.2.2.2.2.2.2.2.2.2.2.2.2.2.2.2.2.2.2.2.2.2.2.2.2.2.2.2.2.2.2.2.2.2.2.2.1 d.2.2.2.2.2.2.2.2.2.2.2.2.2.2.2.2.2.2.2.2.2.2.2.2.2.2.2.2.2.2.2.2.2.2.2.2.2.2.2.2.2.2.2.1 d.2.2.2.2.2.2.2.2.2.2.2.2.2.2.2.2.2.2.2.2.2.2.2.2.2.2.2.2.2.2.2.2.2.2.2.2.2.2.2.2.2.2.2.2.1 d.2.2.2.2.2.2.2.2.2.2.2.2.2.2.2.2.2.2.2.2.2.2.2.2.2.2.2.2.2.2.2.2.2.2.2.2.2.2.2.2.2.2.2.2.2.1 d.2.2.2.2.2.2.2.2.2.2.2.2.2.2.2.2.2.2.2.2.2.2.2.2.2.2.2.2.2.2.2.2.2.2.2.2.2.2.2.2.2.2.2.2.2.2.1 d.2.2.2.2.2.2.2.2.2.2.2.2.2.2.2.2.2.2.2.2.2.2.2.2.2.2.2.2.2.2.2.2.2.2.2.2.2.2.2.2.2.2.2.2.2.2.2.1 d.2.2.2.2.2.2.2.2.2.2.2.2.2.2.2.2.2.2.2.2.2.2.2.2.2.2.2.2.2.2.2.2.2.2.2.2.2.2.2.2.2.2.2.2.2.2.2.2.1 d.2.2.2.2.2.2.2.2.2.2.2.2.2.2.2.2.2.2.2.2.2.2.2.2.2.2.2.2.2.2.2.2.2.2.2.2.2.2.2.2.2.2.2.2.2.2.2.2.2.1 d.2.2.2.2.2.2.2.2.2.2.2.2.2.2.2.2.2.2.2.2.2.2.2.2.2.2.2.2.2.2.2.2.2.2.2.2.2.2.2.2.2.2.2.2.2.2.2.2.2.2.1 d.2.2.2.2.2.2.2.2.2.2.2.2.2.2.2.2.2.2.2.2.2.2.2.2.2.2.2.2.2.2.2.2.2.2.2.2.2.2.2.2.2.2.2.2.2.2.2.2.2.2.2
theorem ne : Nonempty D := ⟨(default, Mine.w00, default, default, (fun _ => default), (fun _ => default), (fun _ => default), default, default, default, default, default, default, default, default, default, ({} : Around), default, default, default, (fun _ => default), default, default, ({} : Shared), (fun _ _ => True), (fun _ _ => True), default, default, default, default, default, default, default, default, default, default, default, default, default, default, default, default, default, default, default, default, default, default, default, default, default, default)⟩
noncomputable def X : D := @Classical.epsilon D ne fun d => ¬ S d
@[irreducible] noncomputable def prog : Program := X.1
@[irreducible] noncomputable def w : World := X.2.1
@[irreducible] noncomputable def p : Program := X.2.2.1
@[irreducible] noncomputable def loose : List Str := X.2.2.2.1
@[irreducible] noncomputable def mean : ExcName → Option Value := X.2.2.2.2.1
@[irreducible] noncomputable def mg : Str → Option Value := X.2.2.2.2.2.1
@[irreducible] noncomputable def mb : Str → Option Value := X.2.2.2.2.2.2.1
@[irreducible] noncomputable def dp : Nat := X.2.2.2.2.2.2.2.1
@[irreducible] noncomputable def un : Nat := X.2.2.2.2.2.2.2.2.1
@[irreducible] noncomputable def gd : Option (List Code) := X.2.2.2.2.2.2.2.2.2.1
@[irreducible] noncomputable def cn : Str := X.2.2.2.2.2.2.2.2.2.2.1
@[irreducible] noncomputable def cs : Scope := X.2.2.2.2.2.2.2.2.2.2.2.1
@[irreducible] noncomputable def a : Addr := X.2.2.2.2.2.2.2.2.2.2.2.2.1
@[irreducible] noncomputable def ccd : Value := X.2.2.2.2.2.2.2.2.2.2.2.2.2.1
@[irreducible] noncomputable def cl : List (Str × Addr) := X.2.2.2.2.2.2.2.2.2.2.2.2.2.2.1
@[irreducible] noncomputable def outer : List Env := X.2.2.2.2.2.2.2.2.2.2.2.2.2.2.2.1
@[irreducible] noncomputable def A₀ : Around := X.2.2.2.2.2.2.2.2.2.2.2.2.2.2.2.2.1
@[irreducible] noncomputable def base : Heap := X.2.2.2.2.2.2.2.2.2.2.2.2.2.2.2.2.2.1
@[irreducible] noncomputable def h₀ : Heap := X.2.2.2.2.2.2.2.2.2.2.2.2.2.2.2.2.2.2.1
@[irreducible] noncomputable def L : Addr := X.2.2.2.2.2.2.2.2.2.2.2.2.2.2.2.2.2.2.2.1
@[irreducible] noncomputable def m : Str → Option Value := X.2.2.2.2.2.2.2.2.2.2.2.2.2.2.2.2.2.2.2.2.1
@[irreducible] noncomputable def led : List (Addr × Obj) := X.2.2.2.2.2.2.2.2.2.2.2.2.2.2.2.2.2.2.2.2.2.1
@[irreducible] noncomputable def news : List (Addr × Obj) := X.2.2.2.2.2.2.2.2.2.2.2.2.2.2.2.2.2.2.2.2.2.2.1
@[irreducible] noncomputable def s : Shared := X.2.2.2.2.2.2.2.2.2.2.2.2.2.2.2.2.2.2.2.2.2.2.2.1
@[irreducible] noncomputable def Q : Value → Shared → Prop := X.2.2.2.2.2.2.2.2.2.2.2.2.2.2.2.2.2.2.2.2.2.2.2.2.1
@[irreducible] noncomputable def E : Value → Shared → Prop := X.2.2.2.2.2.2.2.2.2.2.2.2.2.2.2.2.2.2.2.2.2.2.2.2.2.1
@[irreducible] noncomputable def dk : Addr := X.2.2.2.2.2.2.2.2.2.2.2.2.2.2.2.2.2.2.2.2.2.2.2.2.2.2.1
@[irreducible] noncomputable def tab : Addr := X.2.2.2.2.2.2.2.2.2.2.2.2.2.2.2.2.2.2.2.2.2.2.2.2.2.2.2.1
@[irreducible] noncomputable def tabD : Addr := X.2.2.2.2.2.2.2.2.2.2.2.2.2.2.2.2.2.2.2.2.2.2.2.2.2.2.2.2.1
@[irreducible] noncomputable def rl : Addr := X.2.2.2.2.2.2.2.2.2.2.2.2.2.2.2.2.2.2.2.2.2.2.2.2.2.2.2.2.2.1
@[irreducible] noncomputable def mo : Addr := X.2.2.2.2.2.2.2.2.2.2.2.2.2.2.2.2.2.2.2.2.2.2.2.2.2.2.2.2.2.2.1
@[irreducible] noncomputable def mr : Addr := X.2.2.2.2.2.2.2.2.2.2.2.2.2.2.2.2.2.2.2.2.2.2.2.2.2.2.2.2.2.2.2.1
@[irreducible] noncomputable def mp : Addr := X.2.2.2.2.2.2.2.2.2.2.2.2.2.2.2.2.2.2.2.2.2.2.2.2.2.2.2.2.2.2.2.2.1
@[irreducible] noncomputable def mf : Addr := X.2.2.2.2.2.2.2.2.2.2.2.2.2.2.2.2.2.2.2.2.2.2.2.2.2.2.2.2.2.2.2.2.2.1
@[irreducible] noncomputable def K : Nat := X.2.2.2.2.2.2.2.2.2.2.2.2.2.2.2.2.2.2.2.2.2.2.2.2.2.2.2.2.2.2.2.2.2.2.1
@[irreducible] noncomputable def vs : List Value := X.2.2.2.2.2.2.2.2.2.2.2.2.2.2.2.2.2.2.2.2.2.2.2.2.2.2.2.2.2.2.2.2.2.2.2.1
@[irreducible] noncomputable def fz : List (Addr × Obj) := X.2.2.2.2.2.2.2.2.2.2.2.2.2.2.2.2.2.2.2.2.2.2.2.2.2.2.2.2.2.2.2.2.2.2.2.2.1
@[irreducible] noncomputable def nd : Addr := X.2.2.2.2.2.2.2.2.2.2.2.2.2.2.2.2.2.2.2.2.2.2.2.2.2.2.2.2.2.2.2.2.2.2.2.2.2.1
@[irreducible] noncomputable def mn : Addr := X.2.2.2.2.2.2.2.2.2.2.2.2.2.2.2.2.2.2.2.2.2.2.2.2.2.2.2.2.2.2.2.2.2.2.2.2.2.2.1
@[irreducible] noncomputable def t1 : Tok := X.2.2.2.2.2.2.2.2.2.2.2.2.2.2.2.2.2.2.2.2.2.2.2.2.2.2.2.2.2.2.2.2.2.2.2.2.2.2.2.1
@[irreducible] noncomputable def t2 : Tok := X.2.2.2.2.2.2.2.2.2.2.2.2.2.2.2.2.2.2.2.2.2.2.2.2.2.2.2.2.2.2.2.2.2.2.2.2.2.2.2.2.1
@[irreducible] noncomputable def no : Obj := X.2.2.2.2.2.2.2.2.2.2.2.2.2.2.2.2.2.2.2.2.2.2.2.2.2.2.2.2.2.2.2.2.2.2.2.2.2.2.2.2.2.1
@[irreducible] noncomputable def moo : Obj := X.2.2.2.2.2.2.2.2.2.2.2.2.2.2.2.2.2.2.2.2.2.2.2.2.2.2.2.2.2.2.2.2.2.2.2.2.2.2.2.2.2.2.1
@[irreducible] noncomputable def mno : Obj := X.2.2.2.2.2.2.2.2.2.2.2.2.2.2.2.2.2.2.2.2.2.2.2.2.2.2.2.2.2.2.2.2.2.2.2.2.2.2.2.2.2.2.2.1
@[irreducible] noncomputable def dvs : List Value := X.2.2.2.2.2.2.2.2.2.2.2.2.2.2.2.2.2.2.2.2.2.2.2.2.2.2.2.2.2.2.2.2.2.2.2.2.2.2.2.2.2.2.2.2.1
@[irreducible] noncomputable def dns : List Int := X.2.2.2.2.2.2.2.2.2.2.2.2.2.2.2.2.2.2.2.2.2.2.2.2.2.2.2.2.2.2.2.2.2.2.2.2.2.2.2.2.2.2.2.2.2.1
@[irreducible] noncomputable def dn : Nat := X.2.2.2.2.2.2.2.2.2.2.2.2.2.2.2.2.2.2.2.2.2.2.2.2.2.2.2.2.2.2.2.2.2.2.2.2.2.2.2.2.2.2.2.2.2.2.1
@[irreducible] noncomputable def n : Nat := X.2.2.2.2.2.2.2.2.2.2.2.2.2.2.2.2.2.2.2.2.2.2.2.2.2.2.2.2.2.2.2.2.2.2.2.2.2.2.2.2.2.2.2.2.2.2.2.1
@[irreducible] noncomputable def ms : List Value := X.2.2.2.2.2.2.2.2.2.2.2.2.2.2.2.2.2.2.2.2.2.2.2.2.2.2.2.2.2.2.2.2.2.2.2.2.2.2.2.2.2.2.2.2.2.2.2.2.1
@[irreducible] noncomputable def n2 : Nat := X.2.2.2.2.2.2.2.2.2.2.2.2.2.2.2.2.2.2.2.2.2.2.2.2.2.2.2.2.2.2.2.2.2.2.2.2.2.2.2.2.2.2.2.2.2.2.2.2.2.1
@[irreducible] noncomputable def kvs : List (Str × Value) := X.2.2.2.2.2.2.2.2.2.2.2.2.2.2.2.2.2.2.2.2.2.2.2.2.2.2.2.2.2.2.2.2.2.2.2.2.2.2.2.2.2.2.2.2.2.2.2.2.2.2.1
@[irreducible] noncomputable def mkvs : List (Str × Value) := X.2.2.2.2.2.2.2.2.2.2.2.2.2.2.2.2.2.2.2.2.2.2.2.2.2.2.2.2.2.2.2.2.2.2.2.2.2.2.2.2.2.2.2.2.2.2.2.2.2.2.2
theorem table_deedD (B : Below A₀ base outer h₀) (F : Fr h₀ L s.heap m) (X : (Mine.K w.params).In h₀) (N : News h₀ L s.heap led) (S : TabD prog w dk tab tabD rl mo mr mp mf vs fz news led K nd mn t1 t2 no moo mno dvs dns dn n ms n2 kvs mkvs) (hK : K ≤ 50) (T : Top p loose mean mg mb h₀) (hk : cs.kind = .function) (hdp : dp ≤ 400) (hun : un ≤ 500) (ret : ∀ led' vs' new h' tk', (∃ more, vs' = vs ++ more) → Fr h₀ L h' m → News h₀ L h' led' → TabSt prog w dk tab tabD rl mo mr mp mf vs' (new ++ fz) (new ++ news) led' (K + 1) → Above new news → Q (.bool true) { s with heap := h', toks := tk' }):
   wpAny (model prog w) (ktrTop dp un gd cn cs L a ccd cl outer) (call (.ref 293) [.ref dk, .ref tab, .ref mo]) Q E s := Mine.byKey fun kzq9 => Mine.Fam.of (by exact Mine.Fam.mk : Mine.Fam ((Mine.Key.unbox kzq9 (by simp only [Mine.Key.box kzq9 (by
  clear kzq9
  have fl9 : Mine.Fl 49 := Mine.Fl.mk
  rw [S.eq] at N
  have sub9 := S.sub; have hv := S.hv; have hn := S.hn; have lo1 := S.l1; have lo2 := S.l2; have lo3 := S.l3; have hd1 := S.d1; have hd2 := S.d2; have hd3 := S.d3; have hrows0 := S.rows; have hrel0 := S.rel; have hnd := S.nd9; have hz1 := S.z1; have hl4 := S.z2; have hz2 := S.z3; have hz2' := S.z4; have hA0 := S.ap
  refine andE8 S.off ?_
  intro ap1 ap0 ap2 ap3 ap4 ap5 ap6 ap7
  have hrows := hrows0.mono' sub9
  have hrel := hrel0.mono' sub9
  have hz3 : mkvs.length ≤ 900 := by rw [← hrel.len]; omega
  have hz3' : mkvs.length < 64 := by rw [← hrel.len]; omega
  replace hz1 : kvs.length ≤ vs.length := hz1
  have hz1' : kvs.length ≤ 900 := by omega
  have hz2'' : vs.length ≤ 900 := by omega
  have hz4 : ms.length ≤ 900 := by omega
  refine aps8E hA0 ?_
  intro a1 a2 a3 a4 a5 a6 a7 b1 b2 b3 b4 b5 b6 c1 c2 c3 c4 c5 d1 d2 d3 d4 e1 e2 e3 f1 f2 g1
  refine wcall ?_
  k_dflt (k_extra "MY enterC")
  clear F N
  (with_reducible rename Fr _ _ _ (bindL _ _ _) => F8)
  replace F8 := Fr.sm (m' := fun y => if y = "model" then some (Value.ref mo) else if y = "table" then some (.ref tab) else if y = "deck" then some (.ref dk) else none) F8 (fun _ => rfl)
  refine nameF F8 ?_
  clear F8
  intro m8 F8
  refine nameAE ?_
  intro v9 a9
  refine nameE ?_
  intro e9
  k_extra "MY q"
  k_steps
  refine Hold.mk (pickL (P := IsSix) (by k_asm) (by k_mem) (by omega) ?_ (by simp) ?_ ?_)
  · simp only [List.length_cons, List.length_nil]; omega
  · intro v hv; simp only [List.mem_cons, List.not_mem_nil, or_false] at hv; rcases hv with rfl | rfl | rfl | rfl | rfl | rfl <;> exact ⟨_, _, rfl, by decide⟩
  rintro _ ⟨nm9, tn9, rfl, hsix9⟩
  rename _ < (5 : Int) => hw5
  have hall9 := six_all hsix9
  have hok9 : PyData.strOk nm9 = true := all_ok hall9
  obtain ⟨kv, hkv⟩ : ∃ kv, (valueAt mkvs nm9).getD Value.none = kv := ⟨_, rfl⟩
  have hst : StopW := trivial
  k_steps
  clear hst
  rename News _ _ _ _ => N8
  replace N8 := News.tl (News.tl N8)
  refine Hold.mk ?_
  rcases lt2_or hw5 with hw | ⟨hd5, hw⟩
  · rcases hrel.at nm9 with ⟨hq1, hq2⟩ | ⟨x9, i9, t9, hq1, hq2, hq3, hq4⟩
    · rw [hq2] at hkv
      replace hkv : Value.none = kv := hkv
      subst hkv
      k_steps
      rename News _ _ _ _ => N8
      replace N8 := News.sel 9 [2, 3, 4, 5, 0, 1, 6, 7, 8] N8
      simp only [sel, nth?, List.drop] at N8
      k_dflt (refine' Hold.mk (intern_new ?B ?F ?X N8 ?T ?hk ?hdp ?hun lo1 hd1 ?z1 ?z2 b2 b3 c1 c2 d1 ?p1 ?p2 hq1 ?_))
      case B => k_asm
      case F => k_asm
      case X => k_asm
      case T => k_asm
      case hk => first | exact rfl | assumption
      case hdp => ktr_room
      case hun => units_room
      case z1 => omega
      case z2 => omega
      case p1 => first | k_dflt k_all | done
      case p2 => first | k_dflt k_all | done
      clear N8
      intro x dx u1 u2 u3 u4 o' h' tk' lt1 lt2 F' N' hd'
      rw [stored_absent hq1] at hd'
      have hq5 := valueAt_snoc (v := .ref x) hq1
      have hq6 : (vs ++ [Value.ref x])[((ms.length : Nat) : Int).toNat]? = some (.ref x) := by simp [hl4]
      simp only [AllLt] at lt1
      refine andE10 lt1 ?_
      clear lt1
      intro l1 l2 l3 l4 l5 l6 l7 l8 l9 l10
      replace l1 := ltN l1; replace l2 := ltN l2; replace l3 := ltN l3; replace l4 := ltN l4; replace lt2 := ltN lt2
      k_steps
      rename IntsAre _ _ => hv8
      rename Low _ => hn8
      rename News h₀ L _ _ => N8
      rename Obj.IsDictOf _ _ _ => hd9
      rw [stored_absent hq2, hl4] at hd9
      have hE := fun (ox od : Obj) => Above.two (ox := ox) (od := od) l10 lt2
      have hS : SymOf w.params ((x, instObj 72 dx) :: (dx, symO w.params vs.length nm9 u1 u2 u3 u4) :: fz) x vs.length nm9 := .inr (.inr ⟨by omega, _, _, _, _, _, .head _, .tail _ (.head _)⟩)
      have sub2 : ∀ q ∈ fz, q ∈ (x, instObj 72 dx) :: (dx, symO w.params vs.length nm9 u1 u2 u3 u4) :: fz := fun _ h => .tail _ (.tail _ h)
      replace N8 := News.sel 13 [9, 4, 5, 6, 7, 10, 11, 12, 2, 3] N8
      simp only [sel, nth?, List.drop] at N8
      refine ret _ _ [(x, instObj 72 dx), (dx, symO w.params vs.length nm9 u1 u2 u3 u4)] _ _ ⟨[.ref x], rfl⟩ (by assumption) N8 ⟨nd, mn, t1, t2, o', moo, _, _, _, _, _, _, _, kvs ++ [(nm9, Value.ref x)], _, rfl, (fun q hq => MEM2 sub9 q hq), hv8, hn8, lo1, lo2, lo3, hd', hd9, hd3, hrows0.snoc sub2 hS hall9, (hrel0.mono sub2 [.ref x]).snoc (by simp) hS hall9, nodup_snoc hnd hq1, by simp; omega, by simp [hl4], by simp; omega, by simp; omega, ⟨ap1.two l6 lt2, ap0.two l1 lt2, ap2.two l2 lt2, ap3.two l3 lt2, ap4.two l4 lt2, ap5.two l7 lt2, ap6.two l8 lt2, ap7.two l9 lt2⟩, hA0⟩ (hE _ _)
    · rw [hq2] at hkv
      replace hkv : Value.int (i9 : Int) t9 = kv := hkv
      subst hkv
      k_steps
      rename News _ _ _ _ => N8
      replace N8 := News.sel 9 [2, 3, 4, 0, 1, 5, 6, 7, 8] N8
      simp only [sel, nth?, List.drop] at N8
      k_dflt (refine' Hold.mk (intern_old ?B ?F ?X N8 ?T ?hk ?hdp ?hun lo1 hd1 hq1 ?_))
      case B => k_asm
      case F => k_asm
      case X => k_asm
      case T => k_asm
      case hk => first | exact rfl | assumption
      case hdp => ktr_room
      case hun => units_room
      clear N8
      intro h' tk' F' N'
      have hq7 : vs[((i9 : Nat) : Int).toNat]? = some (.ref x9) := by simpa using hq3
      k_steps
      rename IntsAre _ _ => hv8
      rename Low _ => hn8
      rename News h₀ L _ _ => N8
      refine ret _ _ [] _ _ ⟨[], (List.append_nil _).symm⟩ (by assumption) (News.sel 11 [6, 2, 3, 4, 7, 8, 9, 10] N8) ⟨nd, mn, t1, t2, no, moo, mno, _, _, _, _, _, _, kvs, mkvs, rfl, sub9, hv8, hn8, lo1, lo2, lo3, hd1, hd2, hd3, hrows0, hrel0, hnd, hz1, hl4, by omega, hz2', ⟨ap1, ap0, ap2, ap3, ap4, ap5, ap6, ap7⟩, hA0⟩ (Above.nil _)
  · walk1
    have hst : StopW := trivial
    k_steps
    clear hst
    refine Hold.mk ?_
    rcases eq2_or hw with hw2 | ⟨hd6, hw2⟩
    · subst hw2
      rcases hrel.at nm9 with ⟨hq1, hq2⟩ | ⟨x9, i9, t9, hq1, hq2, hq3, hq4⟩
      · rw [hq2] at hkv
        replace hkv : Value.none = kv := hkv
        subst hkv
        k_steps
        rename IntsAre _ _ => hv8
        rename Low _ => hn8
        rename News h₀ L _ _ => N8
        (try rw [beq_self_eq_true])
        refine' ret _ _ [] _ _ ⟨[], (List.append_nil _).symm⟩ (by assumption) ?N ⟨nd, mn, t1, t2, no, moo, mno, _, _, _, _, _, _, kvs, mkvs, rfl, sub9, hv8, hn8, lo1, lo2, lo3, hd1, hd2, hd3, hrows0, hrel0, hnd, hz1, hl4, by omega, hz2', ⟨ap1, ap0, ap2, ap3, ap4, ap5, ap6, ap7⟩, hA0⟩ (Above.nil _)
        case N => refine News.perm N8 ?_; k_extra "MY perm"
      · rw [hq2] at hkv
        replace hkv : Value.int (i9 : Int) t9 = kv := hkv
        subst hkv
        k_steps
        rename IntsAre _ _ => hv8
        rename Low _ => hn8
        rename News h₀ L _ _ => N8
        (try rw [beq_self_eq_true])
        refine' ret _ _ [] _ _ ⟨[], (List.append_nil _).symm⟩ (by assumption) ?N ⟨nd, mn, t1, t2, no, moo, mno, _, _, _, _, _, _, kvs, mkvs, rfl, sub9, hv8, hn8, lo1, lo2, lo3, hd1, hd2, hd3, hrows0, hrel0, hnd, hz1, hl4, by omega, hz2', ⟨ap1, ap0, ap2, ap3, ap4, ap5, ap6, ap7⟩, hA0⟩ (Above.nil _)
        case N => refine News.perm N8 ?_; k_extra "MY perm"
    walk1
    have hst : StopW := trivial
    k_steps
    clear hst
    refine Hold.mk ?_
    rcases eq3_or hw2 with hw3 | ⟨hd7, hw3⟩
    · subst hw3
      k_steps
      rcases hrel.at nm9 with ⟨hq1, hq2⟩ | ⟨x9, i9, t9, hq1, hq2, hq3, hq4⟩
      all_goals
        k_steps
        rename IntsAre _ _ => hv8
        rename Low _ => hn8
        rename News h₀ L _ _ => N8
        rename _ < _ ∧ _ < _ ∧ _ < _ ∧ _ < _ ∧ _ < _ ∧ _ < _ ∧ _ < _ ∧ _ < _ ∧ _ < _ ∧ AllLt _ _ => l9
        rename (@LT.lt Nat _ _ _) => l8
        refine andE10 l9 ?_
        clear l9
        intro _ q1 q2 q3 q4 q5 q6 q7 q8 q9
        have hE := fun (ox od : Obj) => Above.two (ox := ox) (od := od) q9 l8
        replace N8 := News.sel 13 [5, 6, 7, 8, 9, 10, 11, 12, 2, 3] N8
        simp only [sel, nth?, List.drop] at N8
        refine ret _ _ [_, _] _ _ ⟨[_], rfl⟩ (by assumption) N8 ⟨nd, mn, t1, t2, no, moo, mno, _, _, _, _, _, _, kvs, mkvs, rfl, (fun q hq => MEM2 sub9 q hq), hv8, hn8, lo1, lo2, lo3, hd1, hd2, hd3, hrows0.snoc (fun _ h => .tail _ (.tail _ h)) (.inr (.inr ⟨by omega, _, _, _, _, _, .head _, .tail _ (.head _)⟩)) hall9, hrel0.mono (fun _ h => .tail _ (.tail _ h)) _, hnd, by simp; omega, by simp [hl4], by simp; omega, by simp; omega, ⟨ap1.two q1 l8, ap0.two q2 l8, ap2.two q3 l8, ap3.two q4 l8, ap4.two q5 l8, ap5.two q6 l8, ap6.two q7 l8, ap7.two q8 l8⟩, hA0⟩ (hE _ _)
    walk1
    have hst : StopW := trivial
    k_steps
    clear hst
    refine Hold.mk ?_
    have hks := hrel.keys
    have hoks : ∀ x ∈ kvs.map (·.1), PyData.strOk x = true := fun x hx => all_ok (hrel.all x hx)
    rename Fr _ _ _ _ => F8
    rename News _ _ _ _ => N8
    refine cut_due F8 N8 (Goes mkvs nm9) ?due ?rest
    case due =>
      rcases hrel.at nm9 with ⟨hq1, hq2⟩ | ⟨x9, i9, t9, hq1, hq2, hq3, hq4⟩
      · rw [hq2] at hkv
        replace hkv : Value.none = kv := hkv
        subst hkv
        k_steps
        rename Fr _ _ _ _ => F7
        rename News _ _ _ _ => N7
        exact Hold.mk ⟨by first | rfl | trivial, _, _, false, rfl, F7, N7, .inl ⟨rfl, .inl hq2⟩⟩
      · rw [hq2] at hkv
        replace hkv : Value.int (i9 : Int) t9 = kv := hkv
        subst hkv
        k_steps
        rename Fr _ _ _ _ => F7
        rename News _ _ _ _ => N7
        exact Hold.mk ⟨by first | rfl | trivial, _, _, _, rfl, F7, News.tl N7, goes_any hq2⟩
    case rest =>
      clear F8 N8 hkv
      intro h' tk' b F8 N8 hgo
      rcases hgo with ⟨rfl, hno⟩ | ⟨rfl, hsome, hnt⟩
      · k_steps
        rename News _ _ _ _ => N8
        replace N8 := News.sel 9 [2, 3, 4, 0, 1, 5, 6, 7, 8] N8
        simp only [sel, nth?, List.drop] at N8
        k_dflt (refine' Hold.mk (unintern_no ?B ?F ?X N8 ?T ?hk ?hdp ?hun lo1 hd1 (goes_no hrel hno) ?_))
        case B => k_asm
        case F => k_asm
        case X => k_asm
        case T => k_asm
        case hk => first | exact rfl | assumption
        case hdp => ktr_room
        case hun => units_room
        clear N8
        intro h' tk' F' N'
        k_steps
        rename IntsAre _ _ => hv8
        rename Low _ => hn8
        rename News h₀ L _ _ => N8
        refine ret _ _ [] _ _ ⟨[], (List.append_nil _).symm⟩ (by assumption) (News.sel 11 [6, 2, 3, 4, 7, 8, 9, 10] N8) ⟨nd, mn, t1, t2, no, moo, mno, _, _, _, _, _, _, kvs, mkvs, rfl, sub9, hv8, hn8, lo1, lo2, lo3, hd1, hd2, hd3, hrows0, hrel0, hnd, hz1, hl4, by omega, hz2', ⟨ap1, ap0, ap2, ap3, ap4, ap5, ap6, ap7⟩, hA0⟩ (Above.nil _)
      obtain ⟨x9, i9, t9, hq1, hq2, hq3, hq4⟩ := (hrel.at nm9).resolve_left (fun h => hsome h.2)
      k_steps
      rename News _ _ _ _ => N9
      rename Obj.data _ = _ => hc9
      replace hc9 : Obj.data _ = .cell (some (.str nm9 _)) := hc9
      refine KctSrc.intro (enc := PyData.str) (by rfl) (by k_asm) N9 (by assumption) (by k_mem) hd2 (Nat.le_trans hz3 (by decide)) (fun _ _ h => Value.isStrOf_shape h) rfl ?_
      intro g9
      refine kct_filter (fun _ => by rfl) (fun _ => by rfl) (fun _ => by rfl) (fun _ => by rfl) (by rfl) (by rfl) (by rfl) (by rfl) (.head _) hc9 (by k_mem) ?_
      clear N9
      rintro ys n9 hP hb D h9 tk9 F9 N9 off9
      have hP9 := (hP.mono (fun q hq => .tail _ hq)).at N9
      replace N9 := News.back N9 hb
      have aD : Apt D mo := Ne.symm (off1_mem off9 (mo, moo) (hb _ (by k_mem)))
      clear hP hb off9
      have hnd9 := nodup_without (hrel.keys ▸ hnd : (mkvs.map (·.1)).Nodup) nm9
      have hz9 : (PySem.without mkvs nm9).length ≤ 1000 := Nat.le_trans (List.length_filter_le _ _) (by omega)
      have hz9' : (PySem.without mkvs nm9).length < 64 := Nat.lt_of_le_of_lt (List.length_filter_le _ _) (by omega)
      have hz8' : (PySem.without kvs nm9).length < 64 := Nat.lt_of_le_of_lt (List.length_filter_le _ _) (by omega)
      have hks2 := (hrel.without nm9).keys
      have hoks2 : ∀ x ∈ (PySem.without kvs nm9).map (·.1), PyData.strOk x = true := fun x hx => all_ok ((hrel.without nm9).all x hx)
      k_steps
      rename (Obj.IsDictOf _ _ (PySem.without _ _)) => hdm
      rename (Obj.IsDictOf _ _ _) => hdo
      rename ((_ == sysModules) = false) => lod
      rename (@LT.lt Nat _ _ _ ∧ _ < _ ∧ _ < _ ∧ _ < _ ∧ _ < _ ∧ _ < _ ∧ _ < _ ∧ _ < _ ∧ _ < _ ∧ _ < _ ∧ AllLt _ _) => ld
      refine andE11 ld ?_
      clear ld
      intro _ _ ld1 ld2 ld3 _ ld5 ld6 ld7 _ ld9
      rename News _ _ _ _ => N8
      replace N8 := News.sel 11 [4, 5, 6, 0, 2, 3, 7, 8, 9] N8
      simp only [sel, nth?, List.drop] at N8
      k_dflt (refine' Hold.mk (unintern_some ?B ?F ?X N8 ?T ?hk ?hdp ?hun lo1 hd1 ?hz hnd b1 (Apt.en c1) ?ap hq1 (fun e => hnt (.inl e)) (fun e => hnt (.inr e)) ?_))
      case B => k_asm
      case F => k_asm
      case X => k_asm
      case T => k_asm
      case hk => first | exact rfl | assumption
      case hdp => ktr_room
      case hun => units_room
      case hz => omega
      case ap => first | k_dflt k_all | done
      clear N8
      intro d o' h' tk' F' N' lo' m1 m2 m3 m4 hd'
      simp only [AllLt] at m4
      refine andE7 m4 ?_
      clear m4
      intro n1 n2' n3 n4 n5 n6 n7
      replace m1 := ltN m1; replace m2 := ltN m2
      k_steps
      rename IntsAre _ _ => hv8
      rename Low _ => hn8
      rename News h₀ L _ _ => N8
      replace N8 := News.sel 12 [8, 3, 4, 2, 9, 10, 11, 6] N8
      simp only [sel, nth?, List.drop] at N8
      refine ret _ _ [] _ _ ⟨[], (List.append_nil _).symm⟩ (by assumption) N8 ⟨d, _, t1, t2, o', _, _, _, _, _, _, _, _, PySem.without kvs nm9, PySem.without mkvs nm9, rfl, sub9, hv8, hn8, lo', lod, lo3, hd', hdm, hdo, hrows0, hrel0.without nm9, nodup_without hnd nm9, Nat.le_trans (List.length_filter_le _ _) hz1, hl4, by omega, hz2', ⟨ap1, ap0, ap2, AllLt.ap n7, ap4, ap5, ap6, AllLt.ap ld9⟩, ?_⟩ (Above.nil _)
      refine ⟨⟨?_, ?_, ?_, ?_, ?_, ?_, ?_, trivial⟩, ⟨?_, ?_, ?_, ?_, ?_, ?_, trivial⟩, ⟨?_, ?_, ?_, ?_, ?_, trivial⟩, ⟨?_, ?_, ?_, ?_, trivial⟩, ⟨?_, ?_, ?_, trivial⟩, ⟨?_, ?_, trivial⟩, ⟨?_, trivial⟩, trivial, trivial⟩ <;> first | assumption | exact Nat.ne_of_lt (by assumption) | exact Nat.ne_of_gt (by assumption))])) :))
theorem all : ∀ d, S d := Mine.eps ne (by with_unfolding_all exact @table_deedD)
end Ep_table_deedD
section
variable {prog : Program} {w : World} {p : Program} {loose : List Str} {mean : ExcName → Option Value} {mg mb : Str → Option Value}
 {dp un : Nat} {gd : Option (List Code)} {cn : Str} {cs : Scope} {a : Addr} {ccd : Value} {cl : List (Str × Addr)} {outer : List Env} {A₀ : Around} {base h₀ : Heap} {L : Addr} {m : Str → Option Value} {led news : List (Addr × Obj)} {s : Shared} {Q E : Value → Shared → Prop}
variable {dk tab tabD rl mo mr mp mf : Addr} {K : Nat} {vs : List Value} {fz : List (Addr × Obj)}
variable {nd mn : Addr} {t1 t2 : Tok} {no moo mno : Obj} {dvs : List Value} {dns : List Int} {dn n : Nat} {ms : List Value} {n2 : Nat} {kvs mkvs : List (Str × Value)}
theorem table_deedD
   (B : Below A₀ base outer h₀) (F : Fr h₀ L s.heap m) (X : (Mine.K w.params).In h₀)
   (N : News h₀ L s.heap led) (S : TabD prog w dk tab tabD rl mo mr mp mf vs fz news led K nd mn t1 t2 no moo mno dvs dns dn n ms n2 kvs mkvs) (hK : K ≤ 50)
   (T : Top p loose mean mg mb h₀) (hk : cs.kind = .function) (hdp : dp ≤ 400) (hun : un ≤ 500)
   (ret : ∀ led' vs' new h' tk', (∃ more, vs' = vs ++ more) → Fr h₀ L h' m → News h₀ L h' led' → TabSt prog w dk tab tabD rl mo mr mp mf vs' (new ++ fz) (new ++ news) led' (K + 1) → Above new news → Q (.bool true) { s with heap := h', toks := tk' }) :
   wpAny (model prog w) (ktrTop dp un gd cn cs L a ccd cl outer) (call (.ref 293) [.ref dk, .ref tab, .ref mo]) Q E s := Ep_table_deedD.all (prog, w, p, loose, mean, mg, mb, dp, un, gd, cn, cs, a, ccd, cl, outer, A₀, base, h₀, L, m, led, news, s, Q, E, dk, tab, tabD, rl, mo, mr, mp, mf, K, vs, fz, nd, mn, t1, t2, no, moo, mno, dvs, dns, dn, n, ms, n2, kvs, mkvs) B F X N S hK T hk hdp hun ret
theorem table_deed
   (B : Below A₀ base outer h₀) (F : Fr h₀ L s.heap m) (X : (Mine.K w.params).In h₀)
   (N : News h₀ L s.heap led) (S : TabSt prog w dk tab tabD rl mo mr mp mf vs fz news led K) (hK : K ≤ 50)
   (T : Top p loose mean mg mb h₀) (hk : cs.kind = .function) (hdp : dp ≤ 400) (hun : un ≤ 500)
   (ret : ∀ led' vs' new h' tk', (∃ more, vs' = vs ++ more) → Fr h₀ L h' m → News h₀ L h' led' → TabSt prog w dk tab tabD rl mo mr mp mf vs' (new ++ fz) (new ++ news) led' (K + 1) → Above new news → Q (.bool true) { s with heap := h', toks := tk' }) :
   wpAny (model prog w) (ktrTop dp un gd cn cs L a ccd cl outer) (call (.ref 293) [.ref dk, .ref tab, .ref mo]) Q E s := by
  obtain ⟨_, _, _, _, _, _, _, _, _, _, _, _, _, _, _, D⟩ := S
  exact table_deedD B F X N D hK T hk hdp hun ret
end
end Mine
end PartT2
section PartL2
open PySem PySem.W PyProof.Rows PySem.Calls PySem.Spec Mine
set_option maxHeartbeats 4000000
namespace Mine
section
variable {prog : Program} {w : World} {A : Around} {E : Value → Shared → Prop} {s : Shared} {env : Env} {h₀ : Heap}
inductive LedE (h₀ : Heap) (L I : Addr) (it : Obj) (J : (Str → Option Value) → List (Addr × Obj) → Nat → Prop) (s₁ s₂ : Shared) : Prop
  | mk (h' : Heap) (tk : Nat) (m' : Str → Option Value) (news' : List (Addr × Obj)) (e : s₂ = { s₁ with heap := h', toks := tk }) (F : Fr h₀ L h' m') (N : News h₀ L h' ((I, it) :: news')) (ap : ∀ p ∈ news', p.1 ≠ I) (j : J m' news' tk)
inductive FLI (h₀ : Heap) (L I : Addr) (n : Nat) (J : Nat → (Str → Option Value) → List (Addr × Obj) → Nat → Prop) (s₁ : Shared) (k : Nat) (s' : Shared) : Prop
  | mk (h' : Heap) (tk tk₀ : Nat) (m' : Str → Option Value) (news' : List (Addr × Obj)) (i : Nat) (e : s' = { s₁ with heap := h', toks := tk }) (htk : tk₀ ≤ tk) (hst : IsRangeIter h' I (0 + (i : Nat) * 1) ((n : Int) - (i : Nat)) 1) (F : Fr h₀ L h' m') (N : News h₀ L h' news') (ap : ∀ p ∈ news', p.1 ≠ I) (j : J i m' news' tk₀) (hi : i ≤ n) (hk : k = n + 1 - i)
/-- a turn's end in a loop over a range: frame, ledger and tokens by J -/
noncomputable def LedEnd (h₀ : Heap) (L I : Addr) (it : Obj) (J : (Str → Option Value) → List (Addr × Obj) → Nat → Prop) (s₁ : Shared) (Q : Flow → Shared → Prop) (f : Flow) (s₂ : Shared) : Prop :=
  match f with
  | .ret v => Q (.ret v) s₂
  | .brk => Q .next s₂
  | _ => LedE h₀ L I it J s₁ s₂
inductive LoopIn (prog : Program) (w : World) (A : Around) (E : Value → Shared → Prop) (env : Env) (h₀ : Heap) (x : Str) (body : List Stmt) (Q : Flow → Shared → Prop) (n : Nat) (J : Nat → (Str → Option Value) → List (Addr × Obj) → Nat → Prop) (xv : Value) (s₁ : Shared) : Prop
  | mk (r : Addr) (b : Int) (t u v : Tok) (m : Str → Option Value) (news : List (Addr × Obj)) (e : xv = .ref r) (hh : A.handled = none) (hr : IsRange s₁.heap r 0 b 1 t u v) (hsm : Builtin.Range.small 0 b 1 = true) (hn : Builtin.Range.rangeSize 0 b 1 = (n : Int)) (F : Fr h₀ env.locals s₁.heap m) (N : News h₀ env.locals s₁.heap news) (h0 : J 0 m news s₁.toks)
      (turn : ∀ i t I it m₁ news₁ h tk tk₀, i < n → J i m₁ news₁ tk₀ → tk₀ ≤ tk → Fr h₀ env.locals h (fun y => if y = x then some (.int (i : Int) t) else m₁ y) → News h₀ env.locals h ((I, it) :: news₁) → (∀ p ∈ news₁, p.1 ≠ I) → it.cls = .type "range_iterator" →
        wpAny (model prog w) A (execs body env) (LedEnd h₀ env.locals I it (J (i + 1)) { s₁ with heap := h, toks := tk } Q) E { s₁ with heap := h, toks := tk })
      (done : ∀ h tk m₁ news₁ tk₀, Fr h₀ env.locals h m₁ → News h₀ env.locals h news₁ → J n m₁ news₁ tk₀ → tk₀ ≤ tk → Q .next { s₁ with heap := h, toks := tk })
theorem For_led {x : Str} {px pos : Pos} {iter : PySem.Expr} {body : List Stmt} {Q : Flow → Shared → Prop} {n : Nat} (J : Nat → (Str → Option Value) → List (Addr × Obj) → Nat → Prop)
    (hx : env.kindOf x = some .local) (hp : (env.scope.kind == .class || (env.scope.kind == .module && env.locals != env.globals)) = false)
    (hs : ∀ x, foldedSetIterable iter env x = pure x) (hE : PassesOwn (model prog w) A env E)
    (h : wpAny (model prog w) A (eval iter env) (fun xv s₁ => Hold (LoopIn prog w A E env h₀ x body Q n J xv s₁)) E s) :
    wpAny (model prog w) A (exec (.For (.Name x px) iter body [] pos) env) Q E s := by
  refine wpAny_For (wpAny_mono h (fun xv s₁ h₁ => ?_) fun _ _ e => e) hs
  obtain ⟨r, b, t, u, v, m, news, rfl, hh, hr, hsm, hn, F, N, h0, turn, done⟩ := h₁
  refine wpAny_pyIter_range hr hsm ?_
  have hF1 := F.push (o := { cls := .type "range_iterator", data := .fields #[rawInt 0, rawInt (Builtin.Range.rangeSize 0 b 1), rawInt 1] })
  have hnew := next_is_new F
  have hLlt := F.ns.lt
  have hLI : env.locals ≠ s₁.heap.objs.size := Nat.ne_of_lt hLlt
  have hNI : ∀ p ∈ news, p.1 ≠ s₁.heap.objs.size := fun p hp => Nat.ne_of_lt (Heap.lt_size (N p hp).1)
  have N1 : News h₀ env.locals (s₁.heap.push { cls := .type "range_iterator", data := .fields #[rawInt 0, rawInt (Builtin.Range.rangeSize 0 b 1), rawInt 1] }) news := fun p hp => ⟨Heap.get?_push_of_some _ (N p hp).1, (N p hp).2⟩
  have W := Walks.range (prog := prog) (w := w) hh s₁.heap.objs.size 0 1 n
  have hst0 : IsRangeIter (s₁.heap.push { cls := .type "range_iterator", data := .fields #[rawInt 0, rawInt (Builtin.Range.rangeSize 0 b 1), rawInt 1] }) s₁.heap.objs.size (0 + ((0 : Nat) : Int) * 1) ((n : Int) - ((0 : Nat) : Int)) 1 := by
    show IsRangeIter _ _ _ _ _; rw [hn]; simpa using Heap.get?_push_size _ rfl
  generalize s₁.heap.push { cls := .type "range_iterator", data := .fields #[rawInt 0, rawInt (Builtin.Range.rangeSize 0 b 1), rawInt 1] } = H1 at hF1 N1 hst0 ⊢
  generalize s₁.heap.objs.size = I at hnew hLI hNI W hst0 ⊢
  clear hr F N
  refine codeAny_forLoop
    (FLI h₀ env.locals I n J s₁) ?_ (n + 1)
    ⟨H1, s₁.toks, s₁.toks, m, news, 0, rfl, Nat.le_refl _, hst0, hF1, N1, hNI, h0, Nat.zero_le _, rfl⟩
  rintro k s' ⟨h', tk, tk₀, m', news', i, rfl, htk, hst', F', N', hnw', hJ, hi, rfl⟩
  have next : ∀ h₁ : Heap, (∀ b o, b ∉ [I] → h'.get? b = some o → h₁.get? b = some o) → Fr h₀ env.locals h₁ m' ∧ News h₀ env.locals h₁ news' := fun h₁ hk₁ =>
    ⟨⟨F'.ns.at' fun o e => hk₁ _ o (by simpa using hLI) e, fun b o e => hk₁ b o (fun hb => by rw [List.mem_singleton.mp hb, hnew] at e; cases e) (F'.keep b o e), F'.above⟩, fun p hp => ⟨hk₁ _ _ (by simpa using hnw' p hp) (N' p hp).1, (N' p hp).2⟩⟩
  by_cases hlt : i < n
  · refine wpAny_toks (W.item i _ _ _ hlt hst' fun v h₁ tk₁ hP hst₁ hk₁ htk1 => ?_)
    obtain ⟨t1, rfl⟩ := hP
    obtain ⟨F₁, N₁⟩ := next h₁ hk₁
    refine wpAny_toks (wpAny_assign_Name (wpAny_storeName_local hx F₁.ns (fun h₂ hn₂ hs₂ htk2 => ?_) hp))
    have F₂ := F₁.set hn₂ hs₂
    have hst₂ : IsRangeIter h₂ I (0 + ((i + 1 : Nat) : Int) * 1) ((n : Int) - ((i + 1 : Nat) : Int)) 1 := W.frame _ _ _ hst₁ fun b hb o e => (hs₂.2 b fun q => hLI (by have hb := List.mem_singleton.mp hb; rw [← hb]; exact q.symm)).trans e
    have N₂ := N₁.set hs₂
    have e0 : (0 : Int) + (i : Int) * 1 = (i : Int) := by omega
    rw [e0] at F₂
    refine wpAny_passesOwn hE (wpAny_mono (turn i t1 I { cls := .type "range_iterator", data := .fields #[rawInt (0 + ((i + 1 : Nat) : Int) * 1), rawInt ((n : Int) - ((i + 1 : Nat) : Int)), rawInt 1] } m' news' h₂ _ tk₀ hlt hJ ?_ F₂ (fun p hp => ?_) hnw' rfl) (fun f s₃ h₃ => ?_) fun _ _ e => e)
    · exact Nat.le_trans htk (Nat.le_trans htk1 htk2)
    · rcases List.mem_cons.mp hp with rfl | hp
      · exact ⟨hst₂, Ne.symm hLI, hnew⟩
      · exact N₂ p hp
    · have fin : ∀ {tk9 : Nat} {s₃ : Shared}, LedE h₀ env.locals I { cls := .type "range_iterator", data := .fields #[rawInt (0 + ((i + 1 : Nat) : Int) * 1), rawInt ((n : Int) - ((i + 1 : Nat) : Int)), rawInt 1] } (J (i + 1)) { s₁ with heap := h₂, toks := tk9 } s₃ → ∃ k', k' < n + 1 - i ∧ FLI h₀ env.locals I n J s₁ k' s₃ := by
        rintro tk9 _ ⟨h₃', tk₃, m₂, news₂, rfl, F₃, N₃, ha₃, hJ₃⟩
        exact ⟨n + 1 - (i + 1), by omega, h₃', tk₃, tk₃, m₂, news₂, i + 1, rfl, Nat.le_refl _, (N₃ _ (.head _)).1, F₃, fun p hp => N₃ p (.tail _ hp), ha₃, hJ₃, hlt, rfl⟩
      cases f with
      | ret v => exact h₃
      | brk => exact h₃
      | cont => exact fin h₃
      | next => exact fin h₃
  · have hin : i = n := by omega
    subst hin
    refine wpAny_toks (W.done _ _ _ hst' fun h₁ tk₁ hk₁ htk1 => wpAny_execs_nil ?_)
    obtain ⟨F₁, N₁⟩ := next h₁ hk₁
    exact done h₁ tk₁ m' news' tk₀ F₁ N₁ hJ (Nat.le_trans htk htk1)
end
end Mine
end PartL2
section PartI1
open PySem PySem.W PyProof.Rows PySem.Calls PySem.Spec Mine
set_option maxHeartbeats 4000000
namespace Mine
set_option genInjectivity false in
set_option genSizeOf false in
/-- the ledger's own part at the start -/
structure Own where
  (dk tab tabD nd rl mo mr mn ce ceD fd mf pd mp tt : Addr)
  (t1 t2 t3 t4 : Tok)
  (ys : List Value)
  (k0 : Nat)
  (moo fo mfo po mpo ott : Obj)
noncomputable def Own.adr (O : Own) : List Addr := [O.dk, O.tab, O.tabD, O.nd, O.rl, O.mo, O.mr, O.mn, O.ce, O.ceD, O.fd, O.mf, O.pd, O.mp]
set_option genInjectivity false in
set_option genSizeOf false in
/-- what changes from turn to turn -/
structure IV where
  vs : List Value
  fz : List (Addr × Obj)
  (t1 t2 t3 t4 : Tok)
  (nd mn : Addr)
  (no moo mno fo mfo po mpo : Obj)
  dvs : List Value
  dns : List Int
  (dn n : Nat)
  ms : List Value
  n2 : Nat
  (kvs mkvs : List (Str × Value))
  (fkvs fmkvs pkvs pmkvs : List (Int × Value))
  f : _root_.Fin 5 × _root_.Fin 5 × _root_.Fin 5
  St : Nat → PS
noncomputable abbrev adr8 (O : Own) (D : IV) : List Addr := [O.dk, O.tab, O.tabD, D.nd, O.rl, O.mo, O.mr, D.mn]
noncomputable abbrev adr6 (O : Own) : List Addr := [O.ce, O.ceD, O.fd, O.mf, O.pd, O.mp]
noncomputable abbrev own8 (P : Params) (O : Own) (D : IV) : List (Addr × Obj) := [(O.dk, lst D.dvs D.dn), (O.tab, instObj 272 O.tabD), (O.tabD, tabO P O.rl D.nd D.t1 D.t2), (D.nd, D.no), (O.rl, lst D.vs D.n), (O.mo, D.moo), (O.mr, lst D.ms D.n2), (D.mn, D.mno)]
noncomputable abbrev own6 (P : Params) (O : Own) (D : IV) : List (Addr × Obj) := [(O.ce, instObj 197 O.ceD), (O.ceD, celO P O.fd O.pd D.t3 D.t4), (O.fd, D.fo), (O.mf, D.mfo), (O.pd, D.po), (O.mp, D.mpo)]
noncomputable abbrev C (D : IV) : List (Addr × Obj) := chains D.St
structure InvD (prog : Program) (w : World) (kp : List (Addr × Obj)) (xA : Addr) (O : Own) (K : Nat) (led : List (Addr × Obj)) (B : Nat) (D : IV) : Prop where
  eq : led = own8 w.params O D ++ (own6 w.params O D ++ (C D ++ D.fz))
  hv : IntsAre D.dvs D.dns
  hn : Low D.dns
  l1 : (D.nd == sysModules) = false
  l2 : (D.mn == sysModules) = false
  l3 : (O.mo == sysModules) = false
  d1 : D.no.IsDictOf (strKind prog w) D.kvs
  d2 : D.mno.IsDictOf (strKind prog w) D.mkvs
  d3 : D.moo.IsDictOf (strKind prog w) (modK O.mr D.mn O.mp O.mf)
  rows : RowsOk w.params D.fz D.vs
  rel : NamesRel w.params D.fz D.vs D.kvs D.mkvs
  nd9 : (D.kvs.map (·.1)).Nodup
  z1 : D.kvs.length ≤ D.vs.length
  z2 : D.ms.length = D.vs.length
  z3 : D.vs.length ≤ 10 + K
  z4 : 4 ≤ D.vs.length
  e1 : D.fo.IsDictOf (intKind prog w) D.fkvs
  e2 : D.mfo.IsDictOf (intKind prog w) D.fmkvs
  e3 : D.po.IsDictOf (intKind prog w) D.pkvs
  e4 : D.mpo.IsDictOf (intKind prog w) D.pmkvs
  m1 : (O.fd == sysModules) = false
  m2 : (O.mf == sysModules) = false
  m3 : (O.pd == sysModules) = false
  m4 : (O.mp == sysModules) = false
  hC : CellsRel w.params D.fz D.vs D.fkvs (fn3 D.f)
  hM : ModRel D.fz D.fmkvs (fn3 D.f)
  ok : okF D.f.1 D.f.2.1 D.f.2.2 = true
  y1 : D.fkvs.length ≤ K
  y2 : D.fmkvs.length ≤ K
  y3 : D.pkvs.length ≤ K
  y4 : D.pmkvs.length ≤ K
  hx : D.vs[2]? = some (.ref xA)
  sx : SymOf w.params D.fz xA 2 "x"
  hP : ∀ i, i < 3 → valueAt D.pkvs ((i : Nat) : Int) = (D.St i).v ∧ valueAt D.pmkvs ((i : Nat) : Int) = (D.St i).ra ∧ (D.St i).Ok w.params xA B K
  all : (adr8 O D ++ (adr6 O ++ (C D).map (·.1))).Nodup
  offz : ∀ b ∈ adr8 O D ++ adr6 O, Off b D.fz
  offc : ∀ q ∈ C D, Off q.1 D.fz
  kp : ∀ q ∈ kp, q ∈ D.fz
structure InvO (prog : Program) (w : World) (kp : List (Addr × Obj)) (xA : Addr) (O : Own) (K : Nat) (led : List (Addr × Obj)) (B : Nat) : Prop where
  out : ∃ D, InvD prog w kp xA O K led B D
theorem offL {T R : List Addr} {fz : List (Addr × Obj)} (h : ∀ b ∈ T ++ R, Off b fz) : ∀ b ∈ T, Off b fz := fun b hb => h b (List.mem_append_left _ hb)
theorem offR {T R : List Addr} {fz : List (Addr × Obj)} (h : ∀ b ∈ T ++ R, Off b fz) : ∀ b ∈ R, Off b fz := fun b hb => h b (List.mem_append_right _ hb)
theorem InvD.tab {prog : Program} {w : World} {kp : List (Addr × Obj)} {xA : Addr} {O : Own} {K : Nat} {led : List (Addr × Obj)} {B : Nat} {D : IV} (I : InvD prog w kp xA O K led B D) :
    TabSt prog w O.dk O.tab O.tabD O.rl O.mo O.mr O.mp O.mf D.vs D.fz (own6 w.params O D ++ (C D ++ D.fz)) led (10 + K) :=
  ⟨D.nd, D.mn, D.t1, D.t2, D.no, D.moo, D.mno, D.dvs, D.dns, D.dn, D.n, D.ms, D.n2, D.kvs, D.mkvs, I.eq, fun q hq => List.mem_append_right _ (List.mem_append_right _ hq), I.hv, I.hn, I.l1, I.l2, I.l3, I.d1, I.d2, I.d3, I.rows, I.rel, I.nd9, I.z1, I.z2, I.z3, I.z4,
    off8.mpr (off_rest (R := own6 w.params O D) I.all (offL I.offz)), aps_of (List.nodup_append.mp I.all).1⟩
/-- new entries go into the frozen part -/
theorem news_in {h₀ h : Heap} {L : Addr} {X Y R C fz : List (Addr × Obj)} (N : News h₀ L h (X ++ (Y ++ (R ++ (C ++ fz))))) : News h₀ L h (X ++ (R ++ (C ++ (Y ++ fz)))) := fun q hq => N q (by
  simp only [List.mem_append] at hq ⊢
  rcases hq with h | h | h | h | h <;> simp only [h, true_or, or_true])
theorem offz_in {T R1 : List Addr} {Y R C fz : List (Addr × Obj)} (e : R.map (·.1) = R1) (ho : ∀ b ∈ T, Off b (Y ++ (R ++ (C ++ fz)))) (hab : ∀ p ∈ Y, ∀ q ∈ R, q.1 < p.1) (hr : ∀ b ∈ R1, Off b fz) : ∀ b ∈ T ++ R1, Off b (Y ++ fz) := fun b hb q hq => by
  rcases List.mem_append.mp hb with hb | hb
  · rcases List.mem_append.mp hq with hq | hq
    · exact ho b hb q (List.mem_append_left _ hq)
    · exact ho b hb q (List.mem_append_right _ (List.mem_append_right _ (List.mem_append_right _ hq)))
  · rcases List.mem_append.mp hq with hq | hq
    · rw [← e] at hb
      obtain ⟨z, hz, rfl⟩ := List.mem_map.mp hb
      exact Nat.ne_of_gt (hab q hq z hz)
    · exact hr b hb q hq
theorem offc_in {Y C fz : List (Addr × Obj)} (hab : ∀ p ∈ Y, ∀ q ∈ C, q.1 < p.1) (hc : ∀ q ∈ C, Off q.1 fz) : ∀ q ∈ C, Off q.1 (Y ++ fz) := fun c hc' q hq => by
  rcases List.mem_append.mp hq with hq | hq
  · exact Nat.ne_of_gt (hab q hq c hc')
  · exact hc c hc' q hq
theorem offDrop {b : Addr} {Y Z : List (Addr × Obj)} (h : Off b (Y ++ Z)) : Off b Z := fun q hq => h q (List.mem_append_right _ hq)
section
variable {prog : Program} {w : World} {p : Program} {loose : List Str} {mean : ExcName → Option Value} {mg mb : Str → Option Value}
 {dp un : Nat} {gd : Option (List Code)} {cn : Str} {cs : Scope} {a : Addr} {ccd : Value} {A₀ : Around} {base h₀ : Heap} {L : Addr} {m : Str → Option Value} {led : List (Addr × Obj)} {s : Shared} {Q E : Value → Shared → Prop}
variable {kp : List (Addr × Obj)} {xA : Addr} {O : Own} {K Bt : Nat}
theorem inv_table {cl : List (Str × Addr)} {outer : List Env} (B : Below A₀ base outer h₀) (F : Fr h₀ L s.heap m) (X : (Mine.K w.params).In h₀) (N : News h₀ L s.heap led) (T : Top p loose mean mg mb h₀) (hk : cs.kind = .function) (hdp : dp ≤ 400) (hun : un ≤ 500)
   (I : InvO prog w kp xA O K led Bt) (hK : K ≤ 20)
   (ret : ∀ led' h' tk', Fr h₀ L h' m → News h₀ L h' led' → InvO prog w kp xA O (K + 1) led' Bt → Q (.bool true) { s with heap := h', toks := tk' }) :
   wpAny (model prog w) (ktrTop dp un gd cn cs L a ccd cl outer) (call (.ref 293) [.ref O.dk, .ref O.tab, .ref O.mo]) Q E s := by
  obtain ⟨D, I⟩ := I
  refine table_deed B F X N I.tab (by omega) T hk hdp hun ?_
  rintro led' vs' new h' tk' ⟨more, rfl⟩ F' N' ⟨nd, mn, t1, t2, no, moo, mno, dvs, dns, dn, n, ms, n2, kvs, mkvs, S⟩ hab
  have fzs : ∀ q ∈ D.fz, q ∈ new ++ D.fz := fun q hq => List.mem_append_right _ hq
  have h2 : 2 < D.vs.length := (List.getElem?_eq_some_iff.mp I.hx).1
  have ho := off8.mp S.off
  rw [S.eq] at N'
  refine ret _ h' tk' F' (news_in (X := own8 w.params O ⟨D.vs ++ more, new ++ D.fz, t1, t2, D.t3, D.t4, nd, mn, no, moo, mno, D.fo, D.mfo, D.po, D.mpo, dvs, dns, dn, n, ms, n2, kvs, mkvs, D.fkvs, D.fmkvs, D.pkvs, D.pmkvs, D.f, D.St⟩) (R := own6 w.params O D) N') ⟨⟨D.vs ++ more, new ++ D.fz, t1, t2, D.t3, D.t4, nd, mn, no, moo, mno, D.fo, D.mfo, D.po, D.mpo, dvs, dns, dn, n, ms, n2, kvs, mkvs, D.fkvs, D.fmkvs, D.pkvs, D.pmkvs, D.f, D.St⟩, ?_⟩
  exact { eq := rfl, hv := S.hv, hn := S.hn, l1 := S.l1, l2 := S.l2, l3 := S.l3, d1 := S.d1, d2 := S.d2, d3 := S.d3, rows := S.rows, rel := S.rel, nd9 := S.nd9, z1 := S.z1, z2 := S.z2, z3 := S.z3, z4 := S.z4, e1 := I.e1, e2 := I.e2, e3 := I.e3, e4 := I.e4, m1 := I.m1, m2 := I.m2, m3 := I.m3, m4 := I.m4, hC := I.hC.mono fzs more, hM := I.hM.mono fzs, ok := I.ok, y1 := Nat.le_succ_of_le I.y1, y2 := Nat.le_succ_of_le I.y2, y3 := Nat.le_succ_of_le I.y3, y4 := Nat.le_succ_of_le I.y4, hx := (List.getElem?_append_left h2).trans I.hx, sx := I.sx.mono fzs, hP := fun i hi => ⟨(I.hP i hi).1, (I.hP i hi).2.1, (I.hP i hi).2.2.mono (Nat.le_refl _) (Nat.le_succ _)⟩, all := all_of (R := own6 w.params O D) (aps_nodup S.ap) (List.nodup_append.mp I.all).2.1 (fun b hb => offDrop (ho b hb)), offz := offz_in (R := own6 w.params O D) rfl ho (fun p hp q hq => hab p hp q (List.mem_append_left _ hq)) (offR I.offz), offc := offc_in (fun p hp q hq => hab p hp q (List.mem_append_right _ (List.mem_append_left _ hq))) I.offc, kp := fun q hq => fzs q (I.kp q hq) }
end
end Mine
end PartI1
section PartI2
open PySem PySem.W PyProof.Rows PySem.Calls PySem.Spec Mine
set_option maxHeartbeats 4000000
namespace Mine
noncomputable abbrev adr14 (O : Own) (D : IV) : List Addr := [O.dk, O.tab, O.tabD, D.nd, O.rl, O.mo, O.mr, D.mn, O.ce, O.ceD, O.fd, O.mf, O.pd, O.mp]
section
variable {prog : Program} {w : World} {p : Program} {loose : List Str} {mean : ExcName → Option Value} {mg mb : Str → Option Value}
 {dp un : Nat} {gd : Option (List Code)} {cn : Str} {cs : Scope} {a : Addr} {ccd : Value} {A₀ : Around} {base h₀ : Heap} {L : Addr} {m : Str → Option Value} {led : List (Addr × Obj)} {s : Shared} {Q E : Value → Shared → Prop}
variable {kp : List (Addr × Obj)} {xA : Addr} {O : Own} {K Bt : Nat} {D : IV}
theorem InvD.all14 (I : InvD prog w kp xA O K led Bt D) : (adr14 O D ++ (C D).map (·.1)).Nodup := I.all
theorem InvD.nd14 (I : InvD prog w kp xA O K led Bt D) : (adr14 O D).Nodup := (List.nodup_append.mp I.all14).1
theorem InvD.offz14 (I : InvD prog w kp xA O K led Bt D) : ∀ b ∈ adr14 O D, Off b D.fz := I.offz
theorem InvD.news (I : InvD prog w kp xA O K led Bt D) {h₀ h : Heap} {L : Addr} (N : News h₀ L h led) : News h₀ L h ((own8 w.params O D ++ own6 w.params O D) ++ (C D ++ D.fz)) := by
  rw [I.eq] at N
  exact N
theorem cov14 {is js : List Nat} (h : (List.range 14).all (fun i => is.contains i || js.contains i) = true) : ∀ i, i < 14 → i ∈ is ∨ i ∈ js := fun i hi => by
  have := List.all_eq_true.mp h i (List.mem_range.mpr hi)
  simpa only [Bool.or_eq_true, List.contains_iff_mem] using this
theorem inv_plist {cl : List (Str × Addr)} {outer : List Env} (B : Below A₀ base outer h₀) (F : Fr h₀ L s.heap m) (X : (Mine.K w.params).In h₀) (N : News h₀ L s.heap led) (T : Top p loose mean mg mb h₀) (hk : cs.kind = .function) (hdp : dp ≤ 400) (hun : un ≤ 500)
   (I : InvO prog w kp xA O K led Bt) (hK : K ≤ 20) (hB : Bt ≤ s.toks)
   (ret : ∀ led' Bt' h' tk', Fr h₀ L h' m → News h₀ L h' led' → InvO prog w kp xA O (K + 1) led' Bt' → Bt' ≤ tk' → Q (.bool true) { s with heap := h', toks := tk' }) :
   wpAny (model prog w) (ktrTop dp un gd cn cs L a ccd cl outer) (call (.ref 305) [.ref O.dk, .ref O.ce, .ref O.tab, .ref O.mo]) Q E s := by
  obtain ⟨D, I⟩ := I
  have N1 : News h₀ L s.heap ([(O.dk, lst D.dvs D.dn), (O.tab, instObj 272 O.tabD), (O.tabD, tabO w.params O.rl D.nd D.t1 D.t2), (O.rl, lst D.vs D.n), (O.mo, D.moo), (O.mp, D.mpo), (O.ce, instObj 197 O.ceD), (O.ceD, celO w.params O.fd O.pd D.t3 D.t4), (O.pd, D.po)] ++ (C D ++ ([(D.nd, D.no), (O.mr, lst D.ms D.n2), (D.mn, D.mno), (O.fd, D.fo), (O.mf, D.mfo)] ++ D.fz))) :=
    news4 (n := 14) [0, 1, 2, 4, 5, 13, 8, 9, 12] [3, 6, 7, 10, 11] (I.news N) rfl
  have h9 : ([O.dk, O.tab, O.tabD, O.rl, O.mo, O.mp, O.ce, O.ceD, O.pd] ++ (C D).map (·.1)).Nodup := at_app (is := [0, 1, 2, 4, 5, 13, 8, 9, 12]) I.all14 (by decide) rfl
  have h5 : ∀ b ∈ [O.dk, O.tab, O.tabD, O.rl, O.mo, O.mp, O.ce, O.ceD, O.pd], Off b ([(D.nd, D.no), (O.mr, lst D.ms D.n2), (D.mn, D.mno), (O.fd, D.fo), (O.mf, D.mfo)] ++ D.fz) :=
    off_at (is := [0, 1, 2, 4, 5, 13, 8, 9, 12]) (js := [3, 6, 7, 10, 11]) I.nd14 rfl (by decide) rfl I.offz14
  have hc : ∀ q ∈ C D, Off q.1 ([(D.nd, D.no), (O.mr, lst D.ms D.n2), (D.mn, D.mno), (O.fd, D.fo), (O.mf, D.mfo)] ++ D.fz) := offc_at (js := [3, 6, 7, 10, 11]) I.all14 rfl rfl I.offc
  refine plist_deed (n := D.n) (dn := D.dn) (t1 := D.t1) (t2 := D.t2) (t3 := D.t3) (t4 := D.t4) (nd := D.nd) (fd := O.fd) (St := D.St) B F X N1 T hk hdp hun I.hv I.hn I.l3 I.m4 I.m3 I.d3 I.e4 I.e3 (fun q hq => List.mem_append_right _ hq) I.rows I.z4 (Nat.le_trans I.z3 (by omega)) (Nat.le_trans I.y3 (by omega)) (Nat.le_trans I.y4 (by omega)) I.hx I.sx I.hP (by omega) hB h9 h5 hc ?_
  intro dvs' dns' dn' kvs' mkvs' mpo' po' St' Bt' h' tk' F' N' hv' hn' hd4' hd3' hz3' hz4' hP' hB' hnd' hofc'
  have hall := all_back (is := [0, 1, 2, 4, 5, 13, 8, 9, 12]) (js := [3, 6, 7, 10, 11]) (X := [(D.nd, D.no), (O.mr, lst D.ms D.n2), (D.mn, D.mno), (O.fd, D.fo), (O.mf, D.mfo)]) (C := chains St') I.nd14 hnd' hofc' rfl (cov14 rfl)
  refine ret _ Bt' h' tk' F' (news4b (Y1 := [(O.dk, lst dvs' dn'), (O.tab, instObj 272 O.tabD), (O.tabD, tabO w.params O.rl D.nd D.t1 D.t2), (O.rl, lst D.vs D.n), (O.mo, D.moo), (O.mp, mpo'), (O.ce, instObj 197 O.ceD), (O.ceD, celO w.params O.fd O.pd D.t3 D.t4), (O.pd, po')]) (Y2 := [(D.nd, D.no), (O.mr, lst D.ms D.n2), (D.mn, D.mno), (O.fd, D.fo), (O.mf, D.mfo)]) (C := chains St') (fz := D.fz) [0, 1, 2, 9, 3, 4, 10, 11, 6, 7, 12, 13, 8, 5] N') ⟨{ D with mpo := mpo', po := po', dvs := dvs', dns := dns', dn := dn', pkvs := kvs', pmkvs := mkvs', St := St' }, ?_⟩ hB'
  exact { I with eq := rfl, hv := hv', hn := hn', z3 := Nat.le_succ_of_le I.z3, e3 := hd3', e4 := hd4', y1 := Nat.le_succ_of_le I.y1, y2 := Nat.le_succ_of_le I.y2, y3 := Nat.le_trans hz3' (Nat.succ_le_succ I.y3), y4 := Nat.le_trans hz4' (Nat.succ_le_succ I.y4), hP := hP', all := hall, offc := fun q hq => offDrop (Y := [(D.nd, D.no), (O.mr, lst D.ms D.n2), (D.mn, D.mno), (O.fd, D.fo), (O.mf, D.mfo)]) (hofc' q hq) }
theorem news4f {h₀ h : Heap} {L : Addr} {X C fz : List (Addr × Obj)} {n : Nat} (is js : List Nat) (N : News h₀ L h (X ++ (C ++ fz))) (hn : X.length = n) : News h₀ L h (sel X n is ++ (sel X n js ++ (C ++ fz))) := fun q hq => N q (by
  subst hn
  rcases List.mem_append.mp hq with h | h
  · exact List.mem_append_left _ (sel_sub _ _ _ _ h)
  rcases List.mem_append.mp h with h | h
  · exact List.mem_append_left _ (sel_sub _ _ _ _ h)
  · exact List.mem_append_right _ h)
theorem news4g {h₀ h : Heap} {L : Addr} {Y1 Y2 C new fz : List (Addr × Obj)} (is : List Nat) (N : News h₀ L h (Y1 ++ (new ++ (Y2 ++ (C ++ fz))))) : News h₀ L h (sel (Y1 ++ Y2) (Y1 ++ Y2).length is ++ (C ++ (new ++ fz))) := fun q hq => N q (by
  rcases List.mem_append.mp hq with h | h
  · rcases List.mem_append.mp (sel_sub _ _ _ _ h) with h | h
    · exact List.mem_append_left _ h
    · exact List.mem_append_right _ (List.mem_append_right _ (List.mem_append_left _ h))
  simp only [List.mem_append] at h ⊢
  rcases h with h | h | h <;> simp only [h, true_or, or_true])
theorem offz_new {l : List Addr} {is js : List Nat} {X fz new : List (Addr × Obj)} {C : List (Addr × Obj)} {Y : List (Addr × Obj)} (hab : Above new (Y ++ (X ++ (C ++ fz)))) (hY : Y.map (·.1) = at_ l is) (hX : X.map (·.1) = at_ l js) (cov : ∀ i, i < l.length → i ∈ is ∨ i ∈ js) (ho : ∀ b ∈ l, Off b fz) : ∀ b ∈ l, Off b (new ++ fz) := fun b hb q hq => by
  rcases List.mem_append.mp hq with hq | hq
  · obtain ⟨i, hi, rfl⟩ := List.getElem_of_mem hb
    rw [← getD_el hi]
    refine Nat.ne_of_gt ?_
    rcases cov i hi with hm | hm
    · have : l.getD i 0 ∈ Y.map (·.1) := hY ▸ (List.mem_map_of_mem hm)
      obtain ⟨x, hx, e2⟩ := List.mem_map.mp this
      rw [← e2]
      exact hab q hq x (List.mem_append_left _ hx)
    · have : l.getD i 0 ∈ X.map (·.1) := hX ▸ (List.mem_map_of_mem hm)
      obtain ⟨x, hx, e2⟩ := List.mem_map.mp this
      rw [← e2]
      exact hab q hq x (List.mem_append_right _ (List.mem_append_left _ hx))
  · exact ho b hb q hq
theorem inv_fun (B : Below A₀ base [] h₀) (F : Fr h₀ L s.heap m) (X : (Mine.K w.params).In h₀) (N : News h₀ L s.heap led) (T : Top p loose mean mg mb h₀) (XB : (Mine.K w.params).In base) (TB : Top p loose mean mg mb base) (hk : cs.kind = .function) (hdp : dp ≤ 400) (hun : un ≤ 500)
   (I : InvO prog w kp xA O K led Bt) (hK : K ≤ 20)
   (ret : ∀ led' h' tk', Fr h₀ L h' m → News h₀ L h' led' → InvO prog w kp xA O (K + 1) led' Bt → Q (.bool true) { s with heap := h', toks := tk' }) :
   wpAny (model prog w) (ktrTop dp un gd cn cs L a ccd [] []) (call (.ref 319) [.ref O.dk, .ref O.ce, .ref O.tab, .ref O.mo]) Q E s := by
  obtain ⟨D, I⟩ := I
  have N1 : News h₀ L s.heap ([(O.dk, lst D.dvs D.dn), (O.tab, instObj 272 O.tabD), (O.tabD, tabO w.params O.rl D.nd D.t1 D.t2), (O.rl, lst D.vs D.n), (O.mo, D.moo), (O.mf, D.mfo), (O.ce, instObj 197 O.ceD), (O.ceD, celO w.params O.fd O.pd D.t3 D.t4), (O.fd, D.fo)] ++ ([(D.nd, D.no), (O.mr, lst D.ms D.n2), (D.mn, D.mno), (O.pd, D.po), (O.mp, D.mpo)] ++ (C D ++ D.fz))) :=
    news4f (n := 14) [0, 1, 2, 4, 5, 11, 8, 9, 10] [3, 6, 7, 12, 13] (I.news N) rfl
  have h9 : [O.dk, O.tab, O.tabD, O.rl, O.mo, O.mf, O.ce, O.ceD, O.fd].Nodup := at_nodup (is := [0, 1, 2, 4, 5, 11, 8, 9, 10]) I.nd14 (by decide) rfl
  have hfc : ∀ b ∈ adr14 O D, Off b (C D ++ D.fz) := fun b hb => Off.app (fun c hc e => (List.nodup_append.mp I.all14).2.2 b hb c hc e.symm) (I.offz14 b hb)
  have h5 : ∀ b ∈ [O.dk, O.tab, O.tabD, O.rl, O.mo, O.mf, O.ce, O.ceD, O.fd], Off b ([(D.nd, D.no), (O.mr, lst D.ms D.n2), (D.mn, D.mno), (O.pd, D.po), (O.mp, D.mpo)] ++ (C D ++ D.fz)) :=
    off_at (is := [0, 1, 2, 4, 5, 11, 8, 9, 10]) (js := [3, 6, 7, 12, 13]) I.nd14 rfl (by decide) rfl hfc
  refine function_deed (n := D.n) (dn := D.dn) (t1 := D.t1) (t2 := D.t2) (t3 := D.t3) (t4 := D.t4) (nd := D.nd) (pd := O.pd) (fz := D.fz) (news := [(D.nd, D.no), (O.mr, lst D.ms D.n2), (D.mn, D.mno), (O.pd, D.po), (O.mp, D.mpo)] ++ (C D ++ D.fz)) B F X N1 T XB TB hk hdp hun I.hv I.hn I.l3 I.m2 I.m1 I.d3 I.e2 I.e1 (fun q hq => List.mem_append_right _ (List.mem_append_right _ hq)) I.rows I.z4 (Nat.le_trans I.z3 (by omega)) (Nat.le_trans I.y1 (by omega)) (Nat.le_trans I.y2 (by omega)) I.hC I.hM I.ok (aps_of h9) (off9 h5) ?_
  intro dvs' dns' dn' kvs' mkvs' f' mfo' fo' new h' tk' F' N' hv' hn' hd2' hd1' hC' hM' hok' hz1' hz2' hab
  have fzs : ∀ q ∈ D.fz, q ∈ new ++ D.fz := fun q hq => List.mem_append_right _ hq
  have hnc : ∀ q ∈ C D, q ∈ [(D.nd, D.no), (O.mr, lst D.ms D.n2), (D.mn, D.mno), (O.pd, D.po), (O.mp, D.mpo)] ++ (C D ++ D.fz) := fun q hq => List.mem_append_right _ (List.mem_append_left _ hq)
  have hoz := offz_new (is := [0, 1, 2, 4, 5, 11, 8, 9, 10]) (js := [3, 6, 7, 12, 13]) (l := adr14 O D) (Y := [(O.dk, lst D.dvs D.dn), (O.tab, instObj 272 O.tabD), (O.tabD, tabO w.params O.rl D.nd D.t1 D.t2), (O.rl, lst D.vs D.n), (O.mo, D.moo), (O.mf, D.mfo), (O.ce, instObj 197 O.ceD), (O.ceD, celO w.params O.fd O.pd D.t3 D.t4), (O.fd, D.fo)]) (X := [(D.nd, D.no), (O.mr, lst D.ms D.n2), (D.mn, D.mno), (O.pd, D.po), (O.mp, D.mpo)]) (C := C D) hab rfl rfl (cov14 rfl) I.offz14
  refine ret _ h' tk' F' (news4g (Y1 := [(O.dk, lst dvs' dn'), (O.tab, instObj 272 O.tabD), (O.tabD, tabO w.params O.rl D.nd D.t1 D.t2), (O.rl, lst D.vs D.n), (O.mo, D.moo), (O.mf, mfo'), (O.ce, instObj 197 O.ceD), (O.ceD, celO w.params O.fd O.pd D.t3 D.t4), (O.fd, fo')]) (Y2 := [(D.nd, D.no), (O.mr, lst D.ms D.n2), (D.mn, D.mno), (O.pd, D.po), (O.mp, D.mpo)]) (C := C D) (new := new) (fz := D.fz) [0, 1, 2, 9, 3, 4, 10, 11, 6, 7, 8, 5, 12, 13] N') ⟨{ D with fz := new ++ D.fz, mfo := mfo', fo := fo', dvs := dvs', dns := dns', dn := dn', fkvs := kvs', fmkvs := mkvs', f := f' }, ?_⟩
  exact { I with eq := rfl, hv := hv', hn := hn', rows := I.rows.mono' fzs, rel := I.rel.mono' fzs, z3 := Nat.le_succ_of_le I.z3, e1 := hd1', e2 := hd2', hC := hC'.mono' fzs, hM := hM', ok := hok', y1 := Nat.le_trans hz1' (Nat.succ_le_succ I.y1), y2 := Nat.le_trans hz2' (Nat.succ_le_succ I.y2), y3 := Nat.le_succ_of_le I.y3, y4 := Nat.le_succ_of_le I.y4, sx := I.sx.mono fzs, hP := fun i hi => ⟨(I.hP i hi).1, (I.hP i hi).2.1, (I.hP i hi).2.2.mono (Nat.le_refl _) (Nat.le_succ _)⟩, offz := hoz, offc := offc_in (C := C D) (fun p hp q hq => hab p hp q (List.mem_append_right ([(O.dk, lst D.dvs D.dn), (O.tab, instObj 272 O.tabD), (O.tabD, tabO w.params O.rl D.nd D.t1 D.t2), (O.rl, lst D.vs D.n), (O.mo, D.moo), (O.mf, D.mfo), (O.ce, instObj 197 O.ceD), (O.ceD, celO w.params O.fd O.pd D.t3 D.t4), (O.fd, D.fo)]) (hnc q hq))) I.offc, kp := fun q hq => fzs q (I.kp q hq) }
theorem updF_hd {o : Obj} {b : Addr} {l : List (Addr × Obj)} (h : Off b l) : UpdF b o ((b, o) :: l) (fun o' => (b, o') :: l) := .head h
/-- a draw -/
theorem inv_draw {cl : List (Str × Addr)} {outer : List Env} {many : Int} {tk : Tok} (B : Below A₀ base outer h₀) (F : Fr h₀ L s.heap m) (X : (Mine.K w.params).In h₀) (N : News h₀ L s.heap led) (T : Top p loose mean mg mb h₀) (hk : cs.kind = .function) (hdp : dp ≤ 400) (hun : un ≤ 500)
   (I : InvO prog w kp xA O K led Bt) (hm : 0 < many) (hm2 : many < 2 ^ 20)
   (ret : ∀ r tk led' h' tk', Fr h₀ L h' m → News h₀ L h' led' → InvO prog w kp xA O K led' Bt → 0 ≤ r → r < many → Q (.int r tk) { s with heap := h', toks := tk' }) :
   wpAny (model prog w) (ktrTop dp un gd cn cs L a ccd cl outer) (call (.ref 288) [.ref O.dk, .int many tk]) Q E s := by
  obtain ⟨D, I⟩ := I
  have hd := List.nodup_cons.mp (show (O.dk :: (((own8 w.params O D).tail ++ own6 w.params O D ++ C D).map (·.1))).Nodup by rw [List.map_append]; exact I.all14)
  have off : Off O.dk ((own8 w.params O D).tail ++ (own6 w.params O D ++ (C D ++ D.fz))) := by
    have h1 : Off O.dk (((own8 w.params O D).tail ++ own6 w.params O D ++ C D) ++ D.fz) := Off.app (fun c hc e => hd.1 (e ▸ hc)) (I.offz14 _ (.head _))
    rw [List.append_assoc, List.append_assoc] at h1
    exact h1
  rw [I.eq] at N
  refine draw_at B F X N T hk (by omega) (by omega) (updF_hd off) I.hv I.hn hm hm2 fun r tk dvs' dns' dn' h' tk' F' N' hv' hn' h0 h1 => ret r tk _ h' tk' F' N' ⟨{ D with dvs := dvs', dns := dns', dn := dn' }, ?_⟩ h0 h1
  exact { I with eq := rfl, hv := hv', hn := hn' }
end
end Mine
end PartI2
section PartI3
open PySem PySem.W PyProof.Rows PySem.Calls PySem.Spec Mine
set_option maxHeartbeats 4000000
namespace Mine
noncomputable def isIter (o : Obj) : Bool := match o.cls with | .type s => s == "range_iterator" | _ => false
noncomputable def noIt (l : List (Addr × Obj)) : List (Addr × Obj) := l.filter fun p => !isIter p.2
theorem mem_noIt {l : List (Addr × Obj)} {q : Addr × Obj} (h : q ∈ l) (e : isIter q.2 = false) : q ∈ noIt l := List.mem_filter.mpr ⟨h, by rw [e]; rfl⟩
theorem noIt_sub {l : List (Addr × Obj)} : ∀ q ∈ noIt l, q ∈ l := fun _ h => (List.mem_filter.mp h).1
section
variable {P : Params} {fz : List (Addr × Obj)} {vs : List Value}
theorem SymOf.noIt {x : Addr} {i : Nat} {nm : Str} (S : SymOf P fz x i nm) : SymOf P (noIt fz) x i nm := by
  rcases S with S | S | ⟨hi, dx, t1, t2, t3, t4, h1, h2⟩
  · exact .inl S
  · exact .inr (.inl S)
  · exact .inr (.inr ⟨hi, dx, t1, t2, t3, t4, mem_noIt h1 rfl, mem_noIt h2 (show ("dict" == "range_iterator") = false by decide)⟩)
theorem RowsOk.noIt (R : RowsOk P fz vs) : RowsOk P (noIt fz) vs := fun i hi => let ⟨x, nm, h1, h2, h3⟩ := R i hi; ⟨x, nm, h1, h2.noIt, h3⟩
theorem NamesRel.noIt {kvs mkvs : List (Str × Value)} (R : NamesRel P fz vs kvs mkvs) : NamesRel P (noIt fz) vs kvs mkvs := by
  induction R with
  | nil => exact .nil
  | cons h1 h2 h3 _ ih => exact .cons h1 h2.noIt h3 ih
theorem CellsRel.noIt {kvs : List (Int × Value)} {fn : Nat → Option Nat} (R : CellsRel P fz vs kvs fn) : CellsRel P (noIt fz) vs kvs fn := fun i => by
  rcases R i with h | ⟨v, h1, h2⟩
  · exact .inl h
  · refine .inr ⟨v, h1, ?_⟩
    cases hf : fn i with
    | none => rw [hf] at h2; exact h2
    | some j => rw [hf] at h2; obtain ⟨x, nm, e, hx, S⟩ := h2; exact ⟨x, nm, e, hx, S.noIt⟩
theorem TupIn.noIt {T : Addr} {c : Option Nat} (h : TupIn fz T c) : TupIn (noIt fz) T c := by
  cases c with
  | none => obtain ⟨a, b, d, h⟩ := h; exact ⟨a, b, d, mem_noIt h (show ("tuple" == "range_iterator") = false by decide)⟩
  | some j => obtain ⟨a, b, d, h⟩ := h; exact ⟨a, b, d, mem_noIt h (show ("tuple" == "range_iterator") = false by decide)⟩
theorem ModRel.noIt {mkvs : List (Int × Value)} {fn : Nat → Option Nat} (R : ModRel fz mkvs fn) : ModRel (noIt fz) mkvs fn := fun i => (R i).imp id fun ⟨T, h1, h2, h3⟩ => ⟨T, h1, h2, h3.noIt⟩
end
section
variable {prog : Program} {w : World} {xA : Addr} {O : Own} {K Bt : Nat} {led : List (Addr × Obj)}
theorem own14 (P : Params) (O : Own) (D : IV) : (own8 P O D ++ own6 P O D).map (·.1) = adr14 O D := rfl
theorem inv_in {I9 : Addr} {it : Obj} (I : InvO prog w [] xA O K led Bt) (hI : ∀ p ∈ led, p.1 ≠ I9) :
    ∃ led2, InvO prog w [(I9, it)] xA O K led2 Bt ∧ ∀ q ∈ led2, q ∈ (I9, it) :: led := by
  obtain ⟨D, I⟩ := I
  have fzs : ∀ q ∈ D.fz, q ∈ (I9, it) :: D.fz := fun q hq => .tail _ hq
  have hI' : ∀ p ∈ (own8 w.params O D ++ own6 w.params O D) ++ (C D ++ D.fz), p.1 ≠ I9 := fun p hp => hI p (by rw [I.eq]; exact hp)
  refine ⟨(own8 w.params O D ++ own6 w.params O D) ++ (C D ++ ((I9, it) :: D.fz)), ⟨{ D with fz := (I9, it) :: D.fz }, ?_⟩, fun q hq => ?_⟩
  · have hz : ∀ b ∈ adr14 O D, Off b ((I9, it) :: D.fz) := fun b hb q hq => by
      rcases List.mem_cons.mp hq with rfl | hq
      · have hb' : b ∈ (own8 w.params O D ++ own6 w.params O D).map (·.1) := hb
        obtain ⟨z, hz, rfl⟩ := List.mem_map.mp hb'
        exact Ne.symm (hI' z (List.mem_append_left _ hz))
      · exact I.offz b hb q hq
    have hc : ∀ q ∈ C D, Off q.1 ((I9, it) :: D.fz) := fun c hc q hq => by
      rcases List.mem_cons.mp hq with rfl | hq
      · exact Ne.symm (hI' c (List.mem_append_right _ (List.mem_append_left _ hc)))
      · exact I.offc c hc q hq
    have hkp : ∀ q ∈ [(I9, it)], q ∈ (I9, it) :: D.fz := fun q hq => by rw [List.mem_singleton.mp hq]; exact .head _
    exact { I with eq := rfl, rows := I.rows.mono' fzs, rel := I.rel.mono' fzs, hC := I.hC.mono' fzs, hM := I.hM.mono fzs, sx := I.sx.mono fzs, kp := hkp, offz := hz, offc := hc }
  · rw [I.eq]
    rcases List.mem_append.mp hq with h | h
    · exact .tail _ (show q ∈ (own8 w.params O D ++ own6 w.params O D) ++ (C D ++ D.fz) from List.mem_append_left _ h)
    rcases List.mem_append.mp h with h | h
    · exact .tail _ (show q ∈ (own8 w.params O D ++ own6 w.params O D) ++ (C D ++ D.fz) from List.mem_append_right _ (List.mem_append_left _ h))
    rcases List.mem_cons.mp h with rfl | h
    · exact .head _
    · exact .tail _ (show q ∈ (own8 w.params O D ++ own6 w.params O D) ++ (C D ++ D.fz) from List.mem_append_right _ (List.mem_append_right _ h))
theorem inv_out {h₀ h : Heap} {L I9 : Addr} {it : Obj} (I : InvO prog w [(I9, it)] xA O K led Bt) (hit : it.cls = .type "range_iterator") (N : News h₀ L h led) :
    ∃ led2, InvO prog w [] xA O K led2 Bt ∧ (∀ q ∈ led2, q ∈ led) ∧ (I9, it) ∈ led ∧ ∀ q ∈ led2, q.1 ≠ I9 := by
  obtain ⟨D, I⟩ := I
  have hk := I.kp _ (.head _)
  have N1 := I.news N
  have inL : ∀ q ∈ D.fz, q ∈ (own8 w.params O D ++ own6 w.params O D) ++ (C D ++ D.fz) := fun q hq => List.mem_append_right _ (List.mem_append_right _ hq)
  have sub : ∀ q ∈ (own8 w.params O D ++ own6 w.params O D) ++ (C D ++ noIt D.fz), q ∈ (own8 w.params O D ++ own6 w.params O D) ++ (C D ++ D.fz) := fun q hq => by
    rcases List.mem_append.mp hq with h | h
    · exact List.mem_append_left _ h
    rcases List.mem_append.mp h with h | h
    · exact List.mem_append_right _ (List.mem_append_left _ h)
    · exact inL q (noIt_sub q h)
  refine ⟨(own8 w.params O D ++ own6 w.params O D) ++ (C D ++ noIt D.fz), ⟨{ D with fz := noIt D.fz }, ?_⟩, fun q hq => by rw [I.eq]; exact sub q hq, by rw [I.eq]; exact inL _ hk, fun q hq => ?_⟩
  · exact { I with eq := rfl, rows := I.rows.noIt, rel := I.rel.noIt, hC := I.hC.noIt, hM := I.hM.noIt, sx := I.sx.noIt, kp := fun q hq => (nomatch hq), offz := fun b hb q hq => I.offz b hb q (noIt_sub q hq), offc := fun c hc q hq => I.offc c hc q (noIt_sub q hq) }
  · rcases List.mem_append.mp hq with h | h
    · exact Ne.symm (I.offz14 q.1 (own14 w.params O D ▸ List.mem_map_of_mem h) _ hk)
    rcases List.mem_append.mp h with h | h
    · exact Ne.symm (I.offc q h _ hk)
    · intro e
      have z1 := (N1 q (inL q (noIt_sub q h))).1
      have z2 := (N1 (I9, it) (inL _ hk)).1
      rw [e] at z1
      have z3 : q.2 = it := Option.some.inj (z1.symm.trans z2)
      have z4 := (List.mem_filter.mp h).2
      rw [z3] at z4
      unfold isIter at z4
      rw [hit] at z4
      exact absurd z4 (by decide)
end
/-- the ledger behind the first statement, put in order -/
theorem clean1 {P : Params} {h₀ h : Heap} {L : Addr} {T pd fd ce ceD nd rl tab tabD dk : Addr} {ot po fo no : Obj} {t1 t2 t3 t4 : Tok} {ys : List Value} {n k : Nat} {more : List (Addr × Obj)}
    (N : News h₀ L h ((T, ot) :: (pd, po) :: (fd, fo) :: (ce, instObj 197 ceD) :: (ceD, celO P fd pd t3 t4) :: (nd, no) :: (rl, lst [.ref 78, .ref 81] n) :: (tab, instObj 272 tabD) :: (tabD, tabO P rl nd t1 t2) :: (dk, lst ys k) :: more))
    (h1 : dk < tabD) (h2 : tabD < tab) (h3 : tab < rl) (h4 : rl < nd) (h5 : nd < ceD) (h6 : ceD < ce) (h7 : ce < fd) (h8 : fd < pd) :
    ∃ pd' fd' ce' ceD' nd' rl' tab' tabD' dk' t1' t2' t3' t4' k', (pd' = pd ∧ fd' = fd ∧ ce' = ce ∧ ceD' = ceD ∧ nd' = nd ∧ rl' = rl ∧ tab' = tab ∧ tabD' = tabD ∧ dk' = dk) ∧
      News h₀ L h [(dk', lst ys k'), (tab', instObj 272 tabD'), (tabD', tabO P rl' nd' t1' t2'), (nd', no), (rl', lst [.ref 78, .ref 81] n), (ce', instObj 197 ceD'), (ceD', celO P fd' pd' t3' t4'), (fd', fo), (pd', po)] ∧
      (dk' < tabD' ∧ tabD' < tab' ∧ tab' < rl' ∧ rl' < nd' ∧ nd' < ceD' ∧ ceD' < ce' ∧ ce' < fd' ∧ fd' < pd') :=
  ⟨pd, fd, ce, ceD, nd, rl, tab, tabD, dk, t1, t2, t3, t4, k, ⟨rfl, rfl, rfl, rfl, rfl, rfl, rfl, rfl, rfl⟩, fun q hq => N q (by
    simp only [List.mem_cons, List.not_mem_nil, or_false] at hq ⊢
    rcases hq with h | h | h | h | h | h | h | h | h <;> simp only [h, true_or, or_true]), h1, h2, h3, h4, h5, h6, h7, h8⟩
theorem low_deck {xs : List Int} : Low ((xs.take 16).map fun k' => (if k' < 0 then -k' else k').fmod (10 ^ Int.toNat 16)) := by
  constructor
  · rw [List.length_map, List.length_take]; omega
  · intro i hi
    obtain ⟨k, -, rfl⟩ := List.mem_map.mp hi
    have e : ((10 : Int) ^ Int.toNat 16) = 10 ^ 16 := rfl
    rw [e]
    have h0 : 0 ≤ (if k < 0 then -k else k) := by split <;> omega
    refine ⟨Int.fmod_nonneg h0 (by decide), Int.fmod_lt_of_pos _ (by decide)⟩
theorem st_split {α : Type} {M : Model} {A : Around} {t : Sem α} {Q : α → Shared → Prop} {E : Value → Shared → Prop} {h : Heap} {g : Array GenState} {d : Drawn} {tk : Nat} {o : OsState}
    (H : ∀ g' d' tk' o', Hold (g' = g ∧ d' = d ∧ o' = o) → wpAny M A t Q E ⟨h, g', d', tk', o'⟩) : wpAny M A t Q E ⟨h, g, d, tk, o⟩ := H g d tk o ⟨rfl, rfl, rfl⟩
theorem deck_of {ys : List Value} {xs : List Int} {f : Int → Int} (h : IntsAre ys (xs.map f)) (h1 : xs.length ≤ 16) (h2 : ∀ k, 0 ≤ f k ∧ f k < 10 ^ 16) : ∃ ns, IntsAre ys ns ∧ Low ns := ⟨_, h, by rw [List.length_map]; exact h1, fun i hi => by obtain ⟨k, -, rfl⟩ := List.mem_map.mp hi; exact h2 k⟩
theorem absmod (k : Int) : 0 ≤ (if k < 0 then -k else k).fmod (10 ^ Int.toNat 16) ∧ (if k < 0 then -k else k).fmod (10 ^ Int.toNat 16) < 10 ^ 16 := by
  have h0 : 0 ≤ (if k < 0 then -k else k) := by split <;> omega
  rw [show Int.toNat 16 = 16 from rfl]
  exact ⟨Int.fmod_nonneg h0 (by decide), Int.fmod_lt_of_pos _ (by decide)⟩
noncomputable def Pre (prog : Program) (w : World) (O : Own) (tt : Addr) (ott : Obj) (k : Nat) (led : List (Addr × Obj)) : Prop :=
  ∃ no mno vs n ms n2 kvs mkvs fz,
    led = (O.dk, lst O.ys O.k0) :: (O.tab, instObj 272 O.tabD) :: (O.tabD, tabO w.params O.rl O.nd O.t1 O.t2) :: (O.nd, no) :: (O.rl, lst vs n) :: (O.mo, O.moo) :: (O.mr, lst ms n2) :: (O.mn, mno) :: (O.ce, instObj 197 O.ceD) :: (O.ceD, celO w.params O.fd O.pd O.t3 O.t4) :: (O.fd, O.fo) :: (O.mf, O.mfo) :: (O.pd, O.po) :: (O.mp, O.mpo) :: fz ∧
    no.IsDictOf (strKind prog w) kvs ∧ mno.IsDictOf (strKind prog w) mkvs ∧ RowsOk w.params fz vs ∧ NamesRel w.params fz vs kvs mkvs ∧ kvs.map (·.1) = (["nil", "t", "x", "y"] : List Str).take (2 + k) ∧ vs.length = 2 + k ∧ ms.length = 2 + k ∧
    (∀ b ∈ O.adr, Off b fz) ∧ (1 ≤ k → ∃ xA, vs[2]? = some (.ref xA) ∧ SymOf w.params fz xA 2 "x") ∧ (tt, ott) ∈ fz
noncomputable def NamesJ (prog : Program) (w : World) (O : Own) (tt : Addr) (ott : Obj) (I : Addr) (r : List (Str × Tok)) (led : List (Addr × Obj)) : Prop :=
  ∃ k, k + r.length = 2 ∧ r.map (·.1) = (["x", "y"] : List Str).drop k ∧ Pre prog w O tt ott k led ∧ ∀ p ∈ led, p.1 ≠ I
theorem absent {kvs : List (Str × Value)} {nm : Str} (h : nm ∉ kvs.map (·.1)) : valueAt kvs nm = none := by
  unfold valueAt
  rw [Option.map_eq_none_iff, List.find?_eq_none]
  intro q hq e
  exact h (by rw [← of_decide_eq_true e]; exact List.mem_map_of_mem hq)
theorem nextN {nm : Str} {rs : List Str} {k : Nat} (h : nm :: rs = (["x", "y"] : List Str).drop k) : nm ∉ (["nil", "t", "x", "y"] : List Str).take (2 + k) ∧ nm ∈ allNames ∧ (["nil", "t", "x", "y"] : List Str).take (2 + k) ++ [nm] = (["nil", "t", "x", "y"] : List Str).take (2 + (k + 1)) ∧ rs = (["x", "y"] : List Str).drop (k + 1) ∧ (k = 0 → nm = "x") ∧ k ≤ 1 := by
  match k, h with
  | 0, h => obtain ⟨rfl, rfl⟩ := List.cons.inj h; exact ⟨by decide +kernel, by decide +kernel, rfl, rfl, fun _ => rfl, by decide⟩
  | 1, h => obtain ⟨rfl, rfl⟩ := List.cons.inj h; exact ⟨by decide +kernel, by decide +kernel, rfl, rfl, (fun e => by cases e), by decide⟩
  | k + 2, h => simp at h
theorem names_nd : (["nil", "t", "x", "y"] : List Str).Nodup := by decide +kernel
noncomputable def St0 : Nat → PS := fun _ => ⟨none, [], [], none, []⟩
theorem fn00 : ∀ i : Nat, fn3 ((0, 0, 0) : _root_.Fin 5 × _root_.Fin 5 × _root_.Fin 5) i = some 0
  | 0 => rfl
  | 1 => rfl
  | 2 => rfl
  | 3 => rfl
  | _ + 4 => rfl
/-- a rising row -/
noncomputable def Inc : Addr → List Addr → Prop
  | _, [] => True
  | a, b :: r => a < b ∧ Inc b r
theorem Inc.lt {a c : Addr} : ∀ {l : List Addr} {b : Addr}, a ≤ b → Inc b l → c ∈ l → a < c
  | [], _, _, _, h => nomatch h
  | d :: l, b, hb, h, hc => by
    rcases List.mem_cons.mp hc with rfl | hc
    · exact Nat.lt_of_le_of_lt hb h.1
    · exact Inc.lt (Nat.le_trans hb (Nat.le_of_lt h.1)) h.2 hc
theorem Inc.nodup : ∀ {l : List Addr} {a : Addr}, Inc a l → (a :: l).Nodup
  | [], _, _ => by simp
  | b :: l, a, h => List.nodup_cons.mpr ⟨fun hm => Nat.lt_irrefl _ (Inc.lt (l := b :: l) (Nat.le_refl a) h hm), Inc.nodup h.2⟩
/-- the ledger behind the second statement, put in order -/
theorem clean2 {P : Params} {h₀ h : Heap} {L : Addr} {dk tab tabD nd rl mo mr mn ce ceD fd mf pd mp : Addr} {t1 t2 t3 t4 u1 u2 : Tok} {ys : List Value} {k0 : Nat} {no mno moo fo mfo po mpo : Obj}
    (N : News h₀ L h [(mf, mfo), (mp, mpo), (mn, mno), (mr, lst [.str "nil" u1, .str "t" u2] 0), (mo, moo), (dk, lst ys k0), (tab, instObj 272 tabD), (tabD, tabO P rl nd t1 t2), (nd, no), (rl, lst [.ref 78, .ref 81] 0), (ce, instObj 197 ceD), (ceD, celO P fd pd t3 t4), (fd, fo), (pd, po)])
    (ch : dk < tabD ∧ tabD < tab ∧ tab < rl ∧ rl < nd ∧ nd < ceD ∧ ceD < ce ∧ ce < fd ∧ fd < pd) (c1 : pd < mo) (c2 : mo < mr) (c3 : mr < mn) (c4 : mn < mp) (c5 : mp < mf) :
    ∃ O : Own, (O.dk = dk ∧ O.tab = tab ∧ O.tabD = tabD ∧ O.nd = nd ∧ O.rl = rl ∧ O.mo = mo ∧ O.mr = mr ∧ O.mn = mn ∧ O.ce = ce ∧ O.ceD = ceD ∧ O.fd = fd ∧ O.mf = mf ∧ O.pd = pd ∧ O.mp = mp ∧ O.ys = ys ∧ O.moo = moo ∧ O.fo = fo ∧ O.mfo = mfo ∧ O.po = po ∧ O.mpo = mpo) ∧ O.adr.Nodup ∧
      News h₀ L h ((O.dk, lst O.ys O.k0) :: (O.tab, instObj 272 O.tabD) :: (O.tabD, tabO P O.rl O.nd O.t1 O.t2) :: (O.nd, no) :: (O.rl, lst [.ref 78, .ref 81] 0) :: (O.mo, O.moo) :: (O.mr, lst [.str "nil" u1, .str "t" u2] 0) :: (O.mn, mno) :: (O.ce, instObj 197 O.ceD) :: (O.ceD, celO P O.fd O.pd O.t3 O.t4) :: (O.fd, O.fo) :: (O.mf, O.mfo) :: (O.pd, O.po) :: (O.mp, O.mpo) :: []) := by
  obtain ⟨b1, b2, b3, b4, b5, b6, b7, b8⟩ := ch
  replace b1 := ltN b1; replace b2 := ltN b2; replace b3 := ltN b3; replace b4 := ltN b4; replace b5 := ltN b5; replace b6 := ltN b6; replace b7 := ltN b7; replace b8 := ltN b8
  replace c1 := ltN c1; replace c2 := ltN c2; replace c3 := ltN c3; replace c4 := ltN c4; replace c5 := ltN c5
  refine ⟨⟨dk, tab, tabD, nd, rl, mo, mr, mn, ce, ceD, fd, mf, pd, mp, 0, t1, t2, t3, t4, ys, k0, moo, fo, mfo, po, mpo, moo⟩, ⟨rfl, rfl, rfl, rfl, rfl, rfl, rfl, rfl, rfl, rfl, rfl, rfl, rfl, rfl, rfl, rfl, rfl, rfl, rfl, rfl⟩, ?_, fun q hq => N q ?_⟩
  · exact at_nodup (l := [dk, tabD, tab, rl, nd, ceD, ce, fd, pd, mo, mr, mn, mp, mf]) (is := [0, 2, 1, 4, 3, 9, 10, 11, 6, 5, 7, 13, 8, 12]) (Inc.nodup ⟨b1, b2, b3, b4, b5, b6, b7, b8, c1, c2, c3, c4, c5, trivial⟩) (by decide) rfl
  · exact sel_sub [(mf, mfo), (mp, mpo), (mn, mno), (mr, lst [.str "nil" u1, .str "t" u2] 0), (mo, moo), (dk, lst ys k0), (tab, instObj 272 tabD), (tabD, tabO P rl nd t1 t2), (nd, no), (rl, lst [.ref 78, .ref 81] 0), (ce, instObj 197 ceD), (ceD, celO P fd pd t3 t4), (fd, fo), (pd, po)] 14 [5, 6, 7, 8, 9, 4, 3, 2, 10, 11, 12, 0, 13, 1] q hq
/-- after both names all is set -/
theorem start_inv {prog : Program} {w : World} {O : Own} {tt : Addr} {ott : Obj} {led : List (Addr × Obj)} {dns : List Int} (H : Pre prog w O tt ott 2 led) (hv : IntsAre O.ys dns) (hn : Low dns)
    (l1 : (O.nd == sysModules) = false) (l2 : (O.mn == sysModules) = false) (l3 : (O.mo == sysModules) = false) (l4 : (O.fd == sysModules) = false) (l5 : (O.mf == sysModules) = false) (l6 : (O.pd == sysModules) = false) (l7 : (O.mp == sysModules) = false)
    (h1 : O.moo.IsDictOf (strKind prog w) (modK O.mr O.mn O.mp O.mf)) (h2 : O.fo.IsDictOf (intKind prog w) []) (h3 : O.mfo.IsDictOf (intKind prog w) []) (h4 : O.po.IsDictOf (intKind prog w) []) (h5 : O.mpo.IsDictOf (intKind prog w) []) (hnd : O.adr.Nodup) :
    ∃ xA led2, InvO prog w [] xA O 0 led2 0 ∧ ∀ q ∈ led2, q ∈ led := by
  obtain ⟨no, mno, vs, n, ms, n2, kvs, mkvs, fz, rfl, e1, e2, hrows, hrel, hkeys, hvl, hml, hoff, hx, htt⟩ := H
  obtain ⟨xA, hx2, SX⟩ := hx (by decide)
  have hkn : (kvs.map (·.1)).Nodup := by rw [hkeys]; exact names_nd
  have hkl : kvs.length = 4 := by have := congrArg List.length hkeys; simpa using this
  refine ⟨xA, _, ⟨⟨vs, fz, O.t1, O.t2, O.t3, O.t4, O.nd, O.mn, no, O.moo, mno, O.fo, O.mfo, O.po, O.mpo, O.ys, dns, O.k0, n, ms, n2, kvs, mkvs, [], [], [], [], (0, 0, 0), St0⟩, ?_⟩, fun q hq => hq⟩
  exact { eq := rfl, hv := hv, hn := hn, l1 := l1, l2 := l2, l3 := l3, d1 := e1, d2 := e2, d3 := h1, rows := hrows, rel := hrel, nd9 := hkn, z1 := by show kvs.length ≤ vs.length; omega, z2 := by show ms.length = vs.length; omega, z3 := by show vs.length ≤ _; omega, z4 := by show 4 ≤ vs.length; omega, e1 := h2, e2 := h3, e3 := h4, e4 := h5, m1 := l4, m2 := l5, m3 := l6, m4 := l7, hC := fun i => .inl ⟨rfl, fn00 i⟩, hM := fun i => .inl ⟨rfl, fn00 i⟩, ok := (by decide : okF 0 0 0 = true), y1 := Nat.le_refl _, y2 := Nat.le_refl _, y3 := Nat.le_refl _, y4 := Nat.le_refl _, hx := hx2, sx := SX, hP := fun i hi => ⟨rfl, rfl, ⟨.nil, .nil, Nat.le_refl _⟩⟩, all := hnd, offz := hoff, offc := fun q hq => (nomatch hq), kp := fun q hq => (nomatch hq) }
theorem Own.lt {O : Own} {D : Addr} (h : O.dk < D ∧ O.tab < D ∧ O.tabD < D ∧ O.nd < D ∧ O.rl < D ∧ O.mo < D ∧ O.mr < D ∧ O.mn < D ∧ O.ce < D ∧ O.ceD < D ∧ O.fd < D ∧ O.mf < D ∧ O.pd < D ∧ O.mp < D) : ∀ b ∈ O.adr, b < D := by
  obtain ⟨z0, z1, z2, z3, z4, z5, z6, z7, z8, z9, z10, z11, z12, z13⟩ := h
  simpa only [Own.adr, List.forall_mem_cons, List.not_mem_nil, false_imp_iff, implies_true, and_true] using ⟨z0, z1, z2, z3, z4, z5, z6, z7, z8, z9, z10, z11, z12, z13⟩
theorem Own.ltI {O : Own} {I : Addr} {o0 o1 o2 o3 o4 o5 o6 o7 o8 o9 o10 o11 o12 o13 : Obj} {r : List (Addr × Obj)} (h : ∀ p ∈ (O.dk, o0) :: (O.tab, o1) :: (O.tabD, o2) :: (O.nd, o3) :: (O.rl, o4) :: (O.mo, o5) :: (O.mr, o6) :: (O.mn, o7) :: (O.ce, o8) :: (O.ceD, o9) :: (O.fd, o10) :: (O.mf, o11) :: (O.pd, o12) :: (O.mp, o13) :: r, p.1 < I) : ∀ b ∈ O.adr, b < I := fun b hb => by
  have hb' : b ∈ ([(O.dk, o0), (O.tab, o1), (O.tabD, o2), (O.nd, o3), (O.rl, o4), (O.mo, o5), (O.mr, o6), (O.mn, o7), (O.ce, o8), (O.ceD, o9), (O.fd, o10), (O.mf, o11), (O.pd, o12), (O.mp, o13)] : List (Addr × Obj)).map (·.1) := hb
  obtain ⟨z, hz, rfl⟩ := List.mem_map.mp hb'
  exact h z (show z ∈ [(O.dk, o0), (O.tab, o1), (O.tabD, o2), (O.nd, o3), (O.rl, o4), (O.mo, o5), (O.mr, o6), (O.mn, o7), (O.ce, o8), (O.ceD, o9), (O.fd, o10), (O.mf, o11), (O.pd, o12), (O.mp, o13)] ++ r from List.mem_append_left _ hz)
theorem Own.off {O : Own} {o0 o1 o2 o3 o4 o5 o6 o7 o8 o9 : Obj} {ex : List (Addr × Obj)} (hadr : O.adr.Nodup) (hex : ∀ p ∈ ex, ∀ b ∈ O.adr, b < p.1) :
    (∀ p ∈ (O.dk, o0) :: (O.mo, o1) :: (O.mr, o2) :: (O.mn, o3) :: (O.ce, o4) :: (O.ceD, o5) :: (O.fd, o6) :: (O.mf, o7) :: (O.pd, o8) :: (O.mp, o9) :: ex, p.1 ≠ O.nd) ∧ (∀ p ∈ (O.dk, o0) :: (O.mo, o1) :: (O.mr, o2) :: (O.mn, o3) :: (O.ce, o4) :: (O.ceD, o5) :: (O.fd, o6) :: (O.mf, o7) :: (O.pd, o8) :: (O.mp, o9) :: ex, p.1 ≠ O.rl) :=
  have h := off_at (l := O.adr) (is := [3, 4]) (js := [0, 5, 6, 7, 8, 9, 10, 11, 12, 13]) (X := [(O.dk, o0), (O.mo, o1), (O.mr, o2), (O.mn, o3), (O.ce, o4), (O.ceD, o5), (O.fd, o6), (O.mf, o7), (O.pd, o8), (O.mp, o9)]) (fz := ex) hadr rfl (by decide) rfl (fun b hb p hp => Nat.ne_of_gt (hex p hp b hb))
  ⟨h _ (.head _), h _ (.tail _ (.head _))⟩
theorem cutXY {prog : Program} {w : World} {A : Around} {E : Value → Shared → Prop} {Q : Flow → Shared → Prop} {s : Shared} {env : Env} {h₀ : Heap} {L : Addr} {M : Str → Option Value} {st : Stmt} (O : Own) (F : Fr h₀ L s.heap M)
    (forXY : wpAny (model prog w) A (exec st env) (fun fl s₂ => Hold (∃ h tk tt ott u led, fl = .next ∧ s₂ = { s with heap := h, toks := tk } ∧ Fr h₀ L h (fun y => if y = "name" then u else M y) ∧ News h₀ L h led ∧ Pre prog w O tt ott 2 led)) E s)
    (rest : ∀ h tk tt ott u led, Fr h₀ L h (fun y => if y = "name" then u else M y) → News h₀ L h led → Pre prog w O tt ott 2 led → Q .next { s with heap := h, toks := tk }) :
    wpAny (model prog w) A (exec st env) Q E s :=
  wpAny_mono forXY (fun fl s₂ hh => by
    obtain ⟨h, tk, tt, ott, u, led, rfl, rfl, F', N', H⟩ := hh
    exact rest h tk tt ott u led F' N' H) fun _ _ e => e
theorem Own.lt1 {O : Own} {D : Addr} {R : Prop} (h : O.tab < D ∧ O.tabD < D ∧ O.nd < D ∧ O.rl < D ∧ O.dk < D ∧ O.mo < D ∧ O.mr < D ∧ O.mn < D ∧ O.ce < D ∧ O.ceD < D ∧ O.fd < D ∧ O.mf < D ∧ O.pd < D ∧ O.mp < D ∧ R) : ∀ b ∈ O.adr, b < D := by
  obtain ⟨z0, z1, z2, z3, z4, z5, z6, z7, z8, z9, z10, z11, z12, z13, -⟩ := h
  exact Own.lt ⟨z4, z0, z1, z2, z3, z5, z6, z7, z8, z9, z10, z11, z12, z13⟩
theorem Own.off2 {O : Own} {om o0 o1 o2 o3 o4 o5 o6 o7 o8 o9 o10 o11 : Obj} {ex : List (Addr × Obj)} (hadr : O.adr.Nodup) (hex : ∀ p ∈ ex, ∀ b ∈ O.adr, b < p.1) :
    (∀ p ∈ (O.mr, om) :: (O.dk, o0) :: (O.tab, o1) :: (O.tabD, o2) :: (O.nd, o3) :: (O.rl, o4) :: (O.mo, o5) :: (O.ce, o6) :: (O.ceD, o7) :: (O.fd, o8) :: (O.mf, o9) :: (O.pd, o10) :: (O.mp, o11) :: ex, p.1 ≠ O.mn) ∧ (∀ p ∈ (O.dk, o0) :: (O.tab, o1) :: (O.tabD, o2) :: (O.nd, o3) :: (O.rl, o4) :: (O.mo, o5) :: (O.ce, o6) :: (O.ceD, o7) :: (O.fd, o8) :: (O.mf, o9) :: (O.pd, o10) :: (O.mp, o11) :: ex, p.1 ≠ O.mr) :=
  have h1 := off_at (l := O.adr) (is := [7]) (js := [6, 0, 1, 2, 3, 4, 5, 8, 9, 10, 11, 12, 13]) (X := [(O.mr, om), (O.dk, o0), (O.tab, o1), (O.tabD, o2), (O.nd, o3), (O.rl, o4), (O.mo, o5), (O.ce, o6), (O.ceD, o7), (O.fd, o8), (O.mf, o9), (O.pd, o10), (O.mp, o11)]) (fz := ex) hadr rfl (by decide) rfl (fun b hb p hp => Nat.ne_of_gt (hex p hp b hb))
  have h2 := off_at (l := O.adr) (is := [6]) (js := [0, 1, 2, 3, 4, 5, 8, 9, 10, 11, 12, 13]) (X := [(O.dk, o0), (O.tab, o1), (O.tabD, o2), (O.nd, o3), (O.rl, o4), (O.mo, o5), (O.ce, o6), (O.ceD, o7), (O.fd, o8), (O.mf, o9), (O.pd, o10), (O.mp, o11)]) (fz := ex) hadr rfl (by decide) rfl (fun b hb p hp => Nat.ne_of_gt (hex p hp b hb))
  ⟨h1 _ (.head _), h2 _ (.head _)⟩
theorem no_x {a b : Value} : valueAt [(("nil" : Str), a), (("t" : Str), b)] "x" = none := absent (kvs := [(("nil" : Str), a), (("t" : Str), b)]) (nm := "x") (show ("x" : Str) ∉ (["nil", "t"] : List Str) by decide +kernel)
theorem no_y {a b c : Value} : valueAt [(("nil" : Str), a), (("t" : Str), b), (("x" : Str), c)] "y" = none := absent (kvs := [(("nil" : Str), a), (("t" : Str), b), (("x" : Str), c)]) (nm := "y") (show ("y" : Str) ∉ (["nil", "t", "x"] : List Str) by decide +kernel)
theorem st_x {a b v : Value} : stored [(("nil" : Str), a), (("t" : Str), b)] "x" v = [(("nil" : Str), a), (("t" : Str), b), (("x" : Str), v)] := by
  rw [stored_absent no_x]; rfl
theorem st_y {a b c v : Value} : stored [(("nil" : Str), a), (("t" : Str), b), (("x" : Str), c)] "y" v = [(("nil" : Str), a), (("t" : Str), b), (("x" : Str), c), (("y" : Str), v)] := by
  rw [stored_absent no_y]; rfl
theorem Own.offI {O : Own} {I : Addr} {o0 o1 o2 o3 o4 o5 o6 o7 o8 o9 o10 o11 o12 o13 : Obj} {ex : List (Addr × Obj)} (h : ∀ b ∈ O.adr, b < I) (hex : ∀ p ∈ ex, p.1 ≠ I) : ∀ p ∈ (O.dk, o0) :: (O.tab, o1) :: (O.tabD, o2) :: (O.nd, o3) :: (O.rl, o4) :: (O.mo, o5) :: (O.mr, o6) :: (O.mn, o7) :: (O.ce, o8) :: (O.ceD, o9) :: (O.fd, o10) :: (O.mf, o11) :: (O.pd, o12) :: (O.mp, o13) :: ex, p.1 ≠ I := fun p hp => by
  rcases List.mem_append.mp (show p ∈ [(O.dk, o0), (O.tab, o1), (O.tabD, o2), (O.nd, o3), (O.rl, o4), (O.mo, o5), (O.mr, o6), (O.mn, o7), (O.ce, o8), (O.ceD, o9), (O.fd, o10), (O.mf, o11), (O.pd, o12), (O.mp, o13)] ++ ex from hp) with hp | hp
  · exact Nat.ne_of_lt (h p.1 (show p.1 ∈ ([(O.dk, o0), (O.tab, o1), (O.tabD, o2), (O.nd, o3), (O.rl, o4), (O.mo, o5), (O.mr, o6), (O.mn, o7), (O.ce, o8), (O.ceD, o9), (O.fd, o10), (O.mf, o11), (O.pd, o12), (O.mp, o13)] : List (Addr × Obj)).map (·.1) from List.mem_map_of_mem hp))
  · exact hex p hp
theorem end1 {h₀ h' : Heap} {L I : Addr} {it : Obj} {s₁ : Shared} {rest : (Str → Option Value) → List (Addr × Obj) → Prop} {m' : Str → Option Value} {news' : List (Addr × Obj)} {tk : Nat} (F : Fr h₀ L h' m') (N : News h₀ L h' ((I, it) :: news')) (off : ∀ p ∈ news', p.1 ≠ I) (r : rest m' news') : UnrEndW h₀ L s₁ [(I, it)] rest { s₁ with heap := h', toks := tk } :=
  ⟨h', tk, m', news', rfl, F, N, fun p hp q hq => by rw [List.mem_singleton.mp hq]; exact off p hp, r⟩
theorem pre2 {prog : Program} {w : World} {O : Own} {T x dx y dy : Addr} {no mno ott : Obj} {n n2 : Nat} {v0 v1 v2 v3 : Value} {a b c d u1 u2 u3 u4 z1 z2 z3 z4 : Tok} (hd1 : no.IsDictOf (strKind prog w) [(("nil" : Str), .ref 78), (("t" : Str), .ref 81), (("x" : Str), .ref x), (("y" : Str), .ref y)]) (hd2 : mno.IsDictOf (strKind prog w) [(("nil" : Str), .int ((0 : Nat) : Int) a), (("t" : Str), .int ((1 : Nat) : Int) b), (("x" : Str), .int ((2 : Nat) : Int) c), (("y" : Str), .int ((3 : Nat) : Int) d)])
    (hex : ∀ p ∈ [(y, instObj 72 dy), (dy, symO w.params ((3 : Nat) : Int) "y" z1 z2 z3 z4), (x, instObj 72 dx), (dx, symO w.params ((2 : Nat) : Int) "x" u1 u2 u3 u4), (T, ott)], ∀ b ∈ O.adr, b < p.1) :
    Pre prog w O T ott 2 ((O.dk, lst O.ys O.k0) :: (O.tab, instObj 272 O.tabD) :: (O.tabD, tabO w.params O.rl O.nd O.t1 O.t2) :: (O.nd, no) :: (O.rl, lst [.ref 78, .ref 81, .ref x, .ref y] n) :: (O.mo, O.moo) :: (O.mr, lst [v0, v1, v2, v3] n2) :: (O.mn, mno) :: (O.ce, instObj 197 O.ceD) :: (O.ceD, celO w.params O.fd O.pd O.t3 O.t4) :: (O.fd, O.fo) :: (O.mf, O.mfo) :: (O.pd, O.po) :: (O.mp, O.mpo) :: [(y, instObj 72 dy), (dy, symO w.params ((3 : Nat) : Int) "y" z1 z2 z3 z4), (x, instObj 72 dx), (dx, symO w.params ((2 : Nat) : Int) "x" u1 u2 u3 u4), (T, ott)]) := by
  have S0 : ∀ fz, SymOf w.params fz 78 0 "nil" := fun _ => .inl ⟨rfl, rfl, rfl⟩
  have S1 : ∀ fz, SymOf w.params fz 81 1 "t" := fun _ => .inr (.inl ⟨rfl, rfl, rfl⟩)
  have S2 : SymOf w.params [(y, instObj 72 dy), (dy, symO w.params ((3 : Nat) : Int) "y" z1 z2 z3 z4), (x, instObj 72 dx), (dx, symO w.params ((2 : Nat) : Int) "x" u1 u2 u3 u4), (T, ott)] x 2 "x" := .inr (.inr ⟨by decide, _, _, _, _, _, .tail _ (.tail _ (.head _)), .tail _ (.tail _ (.tail _ (.head _)))⟩)
  have S3 : SymOf w.params [(y, instObj 72 dy), (dy, symO w.params ((3 : Nat) : Int) "y" z1 z2 z3 z4), (x, instObj 72 dx), (dx, symO w.params ((2 : Nat) : Int) "x" u1 u2 u3 u4), (T, ott)] y 3 "y" := .inr (.inr ⟨by decide, _, _, _, _, _, .head _, .tail _ (.head _)⟩)
  have n0 : ("nil" : Str) ∈ allNames := by decide +kernel
  have n1 : ("t" : Str) ∈ allNames := by decide +kernel
  have n2' : ("x" : Str) ∈ allNames := by decide +kernel
  have n3 : ("y" : Str) ∈ allNames := by decide +kernel
  refine ⟨no, mno, [.ref 78, .ref 81, .ref x, .ref y], n, [v0, v1, v2, v3], n2, _, _, [(y, instObj 72 dy), (dy, symO w.params ((3 : Nat) : Int) "y" z1 z2 z3 z4), (x, instObj 72 dx), (dx, symO w.params ((2 : Nat) : Int) "x" u1 u2 u3 u4), (T, ott)], rfl, hd1, hd2, ?_, ?_, rfl, rfl, rfl, fun b hb q hq => Nat.ne_of_gt (hex q hq b hb), fun _ => ⟨x, rfl, S2⟩, .tail _ (.tail _ (.tail _ (.tail _ (.head _))))⟩
  · intro i hi
    match i, hi with
    | 0, _ => exact ⟨78, "nil", rfl, S0 _, n0⟩
    | 1, _ => exact ⟨81, "t", rfl, S1 _, n1⟩
    | 2, _ => exact ⟨x, "x", rfl, S2, n2'⟩
    | 3, _ => exact ⟨y, "y", rfl, S3, n3⟩
    | i + 4, hi => simp at hi; omega
  · exact .cons (i := 0) rfl (S0 _) n0 (.cons (i := 1) rfl (S1 _) n1 (.cons (i := 2) rfl S2 n2' (.cons (i := 3) rfl S3 n3 .nil)))
theorem Fr.twice {h₀ h : Heap} {L : Addr} {M : Str → Option Value} {v v' : Option Value} {x : Str} (F : Fr h₀ L h (fun z => if z = x then v else if z = x then v' else M z)) : Fr h₀ L h (fun z => if z = x then v else M z) := Fr.same F fun z => by
  by_cases hz : z = x
  · simp only [if_pos hz]
  · simp only [if_neg hz]
theorem cutTurns {prog : Program} {w : World} {A : Around} {E : Value → Shared → Prop} {Q : Flow → Shared → Prop} {s : Shared} {env : Env} {h₀ : Heap} {L : Addr} {M : Str → Option Value} {st : Stmt} (O : Own) (xA : Addr) (F : Fr h₀ L s.heap M)
    (loop : wpAny (model prog w) A (exec st env) (fun fl s₂ => Hold (∃ h tk u1 u2 led B, fl = .next ∧ s₂ = { s with heap := h, toks := tk } ∧ Fr h₀ L h (fun y => if y = "way" then u1 else if y = "turn" then u2 else M y) ∧ News h₀ L h led ∧ InvO prog w [] xA O 9 led B)) E s)
    (rest : ∀ h tk u1 u2 led B, Fr h₀ L h (fun y => if y = "way" then u1 else if y = "turn" then u2 else M y) → News h₀ L h led → InvO prog w [] xA O 9 led B → Q .next { s with heap := h, toks := tk }) :
    wpAny (model prog w) A (exec st env) Q E s :=
  wpAny_mono loop (fun fl s₂ hh => by
    obtain ⟨h, tk, u1, u2, led, B, rfl, rfl, F', N', H⟩ := hh
    exact rest h tk u1 u2 led B F' N' H) fun _ _ e => e
noncomputable def JT (prog : Program) (w : World) (xA : Addr) (O : Own) (M : Str → Option Value) (i : Nat) (m : Str → Option Value) (led : List (Addr × Obj)) (tk : Nat) : Prop :=
  ∃ u1 u2 B, m = (fun y : Str => if y = "way" then u1 else if y = "turn" then u2 else M y) ∧ InvO prog w [] xA O i led B ∧ B ≤ tk
theorem Fr.start {h₀ h : Heap} {L : Addr} {M : Str → Option Value} (F : Fr h₀ L h M) (e1 : M "way" = none) (e2 : M "turn" = none) : Fr h₀ L h (fun y => if y = "way" then none else if y = "turn" then none else M y) := Fr.same F fun z => by
  by_cases h1 : z = "way"
  · simp only [if_pos h1]; rw [h1]; exact e1
  · simp only [if_neg h1]
    by_cases h2 : z = "turn"
    · simp only [if_pos h2]; rw [h2]; exact e2
    · simp only [if_neg h2]
theorem Fr.turnEnd {h₀ h : Heap} {L : Addr} {M : Str → Option Value} {a b c d : Option Value} (F : Fr h₀ L h (fun y => if y = "way" then a else if y = "turn" then b else if y = "way" then c else if y = "turn" then d else M y)) : Fr h₀ L h (fun y => if y = "way" then a else if y = "turn" then b else M y) := Fr.same F fun z => by
  by_cases h1 : z = "way"
  · simp only [if_pos h1]
  · simp only [if_neg h1]
    by_cases h2 : z = "turn"
    · simp only [if_pos h2]
    · simp only [if_neg h2]
inductive TurnE (prog : Program) (w : World) (O : Own) (xA : Addr) (h₀ : Heap) (L : Addr) (M : Str → Option Value) (s : Shared) (I : Addr) (it : Obj) (i : Nat) (fl : Flow) (s₂ : Shared) : Prop
  | mk (h' : Heap) (tk' : Nat) (v1 v2 : Option Value) (B' : Nat) (led' : List (Addr × Obj)) (f : fl = .next) (e : s₂ = { s with heap := h', toks := tk' }) (F : Fr h₀ L h' (fun y => if y = "way" then v1 else if y = "turn" then v2 else M y)) (N : News h₀ L h' led') (I9 : InvO prog w [(I, it)] xA O (i + 1) led' B') (hB : B' ≤ tk')
theorem law_loop {prog : Program} {w : World} {A : Around} {E : Value → Shared → Prop} {Q : Flow → Shared → Prop} {s : Shared} {env : Env} {h₀ : Heap} {M : Str → Option Value} {px pos : Pos} {iter : PySem.Expr} {body : List Stmt} {led0 : List (Addr × Obj)} (O : Own) (xA : Addr)
    (F : Fr h₀ env.locals s.heap M) (N0 : News h₀ env.locals s.heap led0) (I0 : InvO prog w [] xA O 0 led0 0) (e1 : M "way" = none) (e2 : M "turn" = none)
    (hx : env.kindOf "turn" = some .local) (hp : (env.scope.kind == .class || (env.scope.kind == .module && env.locals != env.globals)) = false)
    (hs : ∀ x, foldedSetIterable iter env x = pure x) (hE : PassesOwn (model prog w) A env E)
    (h : wpAny (model prog w) A (eval iter env) (fun xv s₁ => Hold (∃ r t u v tk h1, xv = .ref r ∧ A.handled = none ∧ s₁ = { s with heap := h1, toks := tk } ∧ IsRange h1 r 0 9 1 t u v ∧ Fr h₀ env.locals h1 M ∧ News h₀ env.locals h1 led0)) E s)
    (turn : ∀ i t I it u1 u2 B led h tk, i < 9 → InvO prog w [(I, it)] xA O i led B → B ≤ tk → it.cls = .type "range_iterator" → Fr h₀ env.locals h (fun y => if y = "turn" then some (.int (i : Int) t) else if y = "way" then u1 else if y = "turn" then u2 else M y) → News h₀ env.locals h led →
      wpAny (model prog w) A (execs body env) (fun fl s₂ => tk ≤ s₂.toks → Hold (TurnE prog w O xA h₀ env.locals M s I it i fl s₂)) E { s with heap := h, toks := tk })
    (rest : ∀ h tk u1 u2 led B, Fr h₀ env.locals h (fun y => if y = "way" then u1 else if y = "turn" then u2 else M y) → News h₀ env.locals h led → InvO prog w [] xA O 9 led B → Q .next { s with heap := h, toks := tk }) :
    wpAny (model prog w) A (exec (.For (.Name "turn" px) iter body [] pos) env) Q E s := by
  refine For_led (h₀ := h₀) (JT prog w xA O M) hx hp hs hE (n := 9) (wpAny_mono h (fun xv s₁ hh => ?_) fun _ _ e => e)
  obtain ⟨r, t, u, v, tk1, h1, rfl, hh0, rfl, hr, F1, N1⟩ := hh
  refine ⟨r, 9, t, u, v, _, led0, rfl, hh0, hr, by decide, by decide, Fr.start F1 e1 e2, N1, ⟨none, none, 0, rfl, I0, Nat.zero_le _⟩, ?_, ?_⟩
  · rintro i t' I it m₁ news₁ h2 tk2 tk₀ hi ⟨u1, u2, B, rfl, I1, hB⟩ hle F2 N2 hn2 hit
    obtain ⟨led2, I2, sub2⟩ := inv_in (it := it) I1 hn2
    refine wpAny_toks (wpAny_mono (turn i t' I it u1 u2 B led2 h2 tk2 hi I2 (Nat.le_trans hB hle) hit F2 (newsOf N2 sub2)) (fun fl s₂ hq hle2 => ?_) fun _ _ e => e)
    obtain ⟨h', tk', v1, v2, B', led', rfl, rfl, F3, N3, I3, hB3⟩ := hq hle2
    obtain ⟨led3, I4, sub3, hmI, hn3⟩ := inv_out I3 hit N3
    exact ⟨h', tk', _, led3, rfl, F3, newsOf N3 (fun q hq => by rcases List.mem_cons.mp hq with rfl | hq; exact hmI; exact sub3 q hq), hn3, v1, v2, B', rfl, I4, hB3⟩
  · rintro h2 tk2 m₁ news₁ tk₀ F2 N2 ⟨u1, u2, B, rfl, I1, hB⟩ hle
    exact rest h2 tk2 u1 u2 news₁ B F2 N2 I1
theorem InvD.dkOff {prog : Program} {w : World} {kp : List (Addr × Obj)} {xA : Addr} {O : Own} {K : Nat} {led : List (Addr × Obj)} {Bt : Nat} {D : IV} (I : InvD prog w kp xA O K led Bt D) : Off O.dk ((own8 w.params O D).tail ++ (own6 w.params O D ++ (C D ++ D.fz))) := by
  have hd := List.nodup_cons.mp (show (O.dk :: (((own8 w.params O D).tail ++ own6 w.params O D ++ C D).map (·.1))).Nodup by rw [List.map_append]; exact I.all14)
  have h1 : Off O.dk (((own8 w.params O D).tail ++ own6 w.params O D ++ C D) ++ D.fz) := Off.app (fun c hc e => hd.1 (e ▸ hc)) (I.offz14 _ (.head _))
  rw [List.append_assoc, List.append_assoc] at h1
  exact h1
inductive OpenI (prog : Program) (w : World) (O : Own) (K : Nat) (led : List (Addr × Obj)) : Prop
  | mk (t1 t2 : Tok) (vs : List Value) (n : Nat) (ms : List Value) (n2 : Nat) (nd mn : Addr) (no mno moo : Obj) (dvs : List Value) (dn : Nat) (rest fz : List (Addr × Obj))
      (e : led = (O.dk, lst dvs dn) :: (O.tab, instObj 272 O.tabD) :: (O.tabD, tabO w.params O.rl nd t1 t2) :: (nd, no) :: (O.rl, lst vs n) :: (O.mo, moo) :: (O.mr, lst ms n2) :: (mn, mno) :: rest) (l3 : (O.mo == sysModules) = false) (d3 : moo.IsDictOf (strKind prog w) (modK O.mr mn O.mp O.mf)) (rows : RowsOk w.params fz vs) (sub : ∀ p ∈ fz, p ∈ rest) (z2 : ms.length = vs.length) (z4 : 4 ≤ vs.length) (z3 : vs.length ≤ 10 + K)
inductive OpenJ (w : World) (O : Own) (K : Nat) (led : List (Addr × Obj)) : Prop
  | mk (t1 t2 : Tok) (vs : List Value) (n : Nat) (ms : List Value) (n2 : Nat) (nd mn : Addr) (no mno moo : Obj) (dvs : List Value) (dns : List Int) (dn : Nat) (rest fz : List (Addr × Obj))
      (e : led = (O.dk, lst dvs dn) :: (O.tab, instObj 272 O.tabD) :: (O.tabD, tabO w.params O.rl nd t1 t2) :: (nd, no) :: (O.rl, lst vs n) :: (O.mo, moo) :: (O.mr, lst ms n2) :: (mn, mno) :: rest) (rows : RowsOk w.params fz vs) (sub : ∀ p ∈ fz, p ∈ rest) (z4 : 4 ≤ vs.length) (z3 : vs.length ≤ 10 + K) (hv : IntsAre dvs dns) (hn : Low dns)
      (off : ∀ p ∈ (O.tab, instObj 272 O.tabD) :: (O.tabD, tabO w.params O.rl nd t1 t2) :: (nd, no) :: (O.rl, lst vs n) :: (O.mo, moo) :: (O.mr, lst ms n2) :: (mn, mno) :: rest, p.1 ≠ O.dk)
theorem inv_open {prog : Program} {w : World} {kp : List (Addr × Obj)} {xA : Addr} {O : Own} {K : Nat} {led : List (Addr × Obj)} {B : Nat} (I : InvO prog w kp xA O K led B) :
    OpenI prog w O K led := by
  obtain ⟨D, I⟩ := I
  exact ⟨D.t1, D.t2, D.vs, D.n, D.ms, D.n2, D.nd, D.mn, D.no, D.mno, D.moo, D.dvs, D.dn, own6 w.params O D ++ (C D ++ D.fz), D.fz, I.eq, I.l3, I.d3, I.rows, fun p hp => List.mem_append_right _ (List.mem_append_right _ hp), I.z2, I.z4, I.z3⟩
theorem inv_open2 {prog : Program} {w : World} {kp : List (Addr × Obj)} {xA : Addr} {O : Own} {K : Nat} {led : List (Addr × Obj)} {B : Nat} (I : InvO prog w kp xA O K led B) :
    OpenJ w O K led := by
  obtain ⟨D, I⟩ := I
  exact ⟨D.t1, D.t2, D.vs, D.n, D.ms, D.n2, D.nd, D.mn, D.no, D.mno, D.moo, D.dvs, D.dns, D.dn, own6 w.params O D ++ (C D ++ D.fz), D.fz, I.eq, I.rows, fun p hp => List.mem_append_right _ (List.mem_append_right _ hp), I.z4, I.z3, I.hv, I.hn, I.dkOff⟩
theorem any_E {α : Type} {M : Model} {A : Around} {t : Sem α} {Q : α → Shared → Prop} {E : Value → Shared → Prop} {s : Shared} (h : ∀ E' : Value → Shared → Prop, wpAny M A t Q E' s) : wpAny M A t Q E s := h E
end Mine
end PartI3
section PartLaw
open PySem PySem.W PyProof.Rows PySem.Calls PySem.Spec Mine
set_option maxHeartbeats 40000000
theorem Mine.regLaw1 : True := by
  k_with "T k_steps" => (repeat' (first | k_extra "MY xcut" | (k_unfold; (try dsimp only)) | (k_end; wrow_close) | (walk1; (try dsimp only)) | (dsimp only; walk1) | (leave1; walk_say "STEP leave1"; try dsimp only) | k_extra "MY qback" | fail "no step"))
  k_with "pyIter ref" => ((k_here; refine Hold.out ?_))
  k_with "execs cons" => ((k_here; (have h9 : StopToks := by assumption); clear h9; (with_reducible show wpAny _ _ (execs (Stmt.Assign _ (Expr.Dict (_ :: _) _ _) _ :: Stmt.For _ _ _ _ _ :: _) _) _ _ _); refine Hold.out ?_))
  k_with "exec For" => ((k_here; refine Hold.out ?_))
  k_with "exec For Name Tuple cons nil" => ((k_here; refine Hold.out ?_))
  k_with "exec For Name Call cons nil" => ((k_here; refine Hold.out ?_))
  k_with "newList" => ((k_here; (with_reducible rename Fr _ _ _ _ => kF8); (with_reducible rename News _ _ _ _ => kN8); k_dflt (refine newList_K kF8 kN8 ?_ (Nat.le_of_ble_eq_true rfl); k_whole); intro lzq9 hzq9 Fzq9 Nzq9 l1zq9; (try dsimp only); (try k_lt l1zq9); (try k_sweep)))
  k_with "newTuple" => ((k_here; k_dflt (refine kup_newTuple (by k_asm) (by k_asm) ?_ (by first | exact Nat.le_of_ble_eq_true rfl | kmk_size)); intro D' hzq9 Fzq9 Nzq9 l1zq9; (try k_lt l1zq9); (try k_sweep)))
  k_with "eval Dict" => ((k_here; (with_reducible rename Fr _ _ _ _ => kF8); (with_reducible rename News _ _ _ _ => kN8); (with_reducible rename Top _ _ _ _ _ _ => kT8); k_dflt (refine kdn_str ?_ kF8 kN8 (Top.nolimit kT8) ?_ ?_ ?_ ?_ ?_; exact rfl; exact rfl; exact rfl; exact List.cons_ne_nil _ _; exact Nat.le_of_ble_eq_true rfl); intro dzq9 hzq9 ozq9 Fzq9 Nzq9 l1zq9 lozq9 hdzq9; (try dsimp only); (try k_lt l1zq9)))
  k_with "eval Dict nil nil" => ((k_here; (with_reducible rename Fr _ _ _ _ => kF8); (with_reducible rename News _ _ _ _ => kN8); (with_reducible rename Top _ _ _ _ _ _ => kT8); k_dflt (refine newDict_K kF8 kN8 (Top.nolimit kT8) ?_); intro dzq9 hzq9 ozq9 Fzq9 Nzq9 l1zq9 lozq9 hszq9 fszq9 hizq9 fizq9; (try dsimp only); (try k_lt l1zq9); (try k_sweep)))
  k_with "KdnMade" => ((k_here; k_dflt (refine' kdn_made_str (by k_asm) (by k_asm) (by k_updF) (by k_asm) (by rfl) (by exact of_decide_eq_true (by first | rfl | kernel_rfl!)) ?_); intro hzq9 ozq9 Fzq9 Nzq9 hdzq9; (try dsimp only at Nzq9); (try dsimp only [strPairs, List.length_cons, List.length_nil] at hdzq9 ⊢)))
  k_with "call ref" => ((k_here; (with_reducible show wpAny _ _ (call (Value.ref 117) _) _ _ _); refine Hold.out ?_))
  k_with "subscriptTail" => ((k_here; (with_reducible show wpAny _ _ (subscriptTail _ (Expr.Slice none (some _) none _) (Value.str _ _) _) _ _ _); (with_reducible rename Fr _ _ _ _ => Fzq9); (with_reducible rename News _ _ _ _ => Nzq9); k_dflt (refine slice_strN_ns (hsz := (by assumption)) (s := ⟨_, _, _, _, _⟩) Fzq9 Nzq9 ?_); intro _ _ _ _ _))
  k_with "call ref" => ((k_here; (with_reducible show wpAny _ _ (call (Value.ref 281) _) _ _ _); (refine Mine.wcall ?_); k_dflt ktr_enter; (with_reducible rename Below _ _ _ _ => kB8); k_dflt (k_lift kB8); k_dflt (k_extra "MY frm"); (refine Mine.nameAE ?_); intro v9e a9e; (try k_extra "MY tk")))
  exact trivial
structure Mine.StopE : Prop where
  mk ::
theorem Mine.regLaw2 : True := by
  k_with "UnrEndW" => ((refine Hold.out ?_))
  k_with "setItem ref str" => ((k_here; refine Hold.out ?_))
  k_with "call builtin:list.append" => ((k_here; refine Hold.out ?_))
  k_with "call ref" => ((k_here; (with_reducible show wpAny _ _ (call (Value.ref 288) _) _ _ _); refine Hold.out ?_))
  k_with "call ref" => ((k_here; (with_reducible show wpAny _ _ (call (Value.ref 293) _) _ _ _); refine Hold.out ?_))
  k_with "call ref" => ((k_here; (with_reducible show wpAny _ _ (call (Value.ref 305) _) _ _ _); refine Hold.out ?_))
  k_with "call ref" => ((k_here; (with_reducible show wpAny _ _ (call (Value.ref 319) _) _ _ _); refine Hold.out ?_))
  k_with "call ref" => ((k_here; (with_reducible show wpAny _ _ (call (Value.ref 243) _) _ _ _); refine Hold.out ?_))
  k_with "forall" => ((k_here; (with_reducible show (_ : Nat) ≤ _ → _); refine Hold.out ?_))
  k_with "execs cons" => ((k_here; (have h9 : StopE := by assumption); clear h9; refine Hold.out ?_))
  exact trivial
namespace Mine
section
variable {prog : Program} {w : World} {p : Program} {loose : List Str} {mean : ExcName → Option Value} {mg mb : Str → Option Value} {h₀ h₁ : Heap} {L fa sc : Addr} {cd : Value} {gn : Array GenState} {dn : Drawn} {tk : Nat} {os : OsState} {vals : List Value} {ns : List Int} {Q : Flow → Shared → Prop} {E : Value → Shared → Prop}
end
namespace Ep_law_walk
noncomputable abbrev D : Type := (Program) × (World) × (Program) × (List Str) × (ExcName → Option Value) × (Str → Option Value) × (Str → Option Value) × (Heap) × (Heap) × (Addr) × (Addr) × (Addr) × (Value) × (Array GenState) × (Drawn) × (Nat) × (OsState) × (List Value) × (List Int) × (Flow → Shared → Prop) × (Value → Shared → Prop)
noncomputable def S (d : D) : Prop := (fun (prog : Program) (w : World) (p : Program) (loose : List Str) (mean : ExcName → Option Value) (mg : Str → Option Value) (mb : Str → Option Value) (h₀ : Heap) (h₁ : Heap) (L : Addr) (fa : Addr) (sc : Addr) (cd : Value) (gn : Array GenState) (dn : Drawn) (tk : Nat) (os : OsState) (vals : List Value) (ns : List Int) (Q : Flow → Shared → Prop) (E : Value → Shared → Prop) => ∀ (B : Below callerA h₀ [] h₀) (F : Fr h₀ L h₁ (fun x => List.lookup x [("script", .ref sc)])) (X : (Mine.K w.params).In h₀) (N : News h₀ L h₁ []) (T : Top p loose mean mg mb h₀) (hL : h₀.IsList sc vals.toArray) (hI : IntsAre vals ns) (hlen : ¬ ((63 : Nat) : Int) < (ns.length : Int)) (hE : PassesOwn (model prog w) (callerA.deeper (envOf "law" (scopeOf 26 99) L fa cd)) (envOf "law" (scopeOf 26 99) L fa cd) E) (ret : ∀ h' tk' m', Fr h₀ L h' m' → Q (.ret (.bool true)) ⟨h', gn, dn, tk', os⟩), wpAny (model prog w) (callerA.deeper (envOf "law" (scopeOf 26 99) L fa cd)) (execs (bodyOf 26 99) (envOf "law" (scopeOf 26 99) L fa cd)) Q E ⟨h₁, gn, dn, tk, os⟩) d.1 d.2.1 d.2.2.1 d.2.2.2.1 d.2.2.2.2.1 d.2.2.2.2.2.1 d.2.2.2.2.2.2.1 d.2.2.2.2.2.2.2.1 d.2.2.2.2.2.2.2.2.1 d.2.2.2.2.2.2.2.2.2.1 d.2.2.2.2.2.2.2.2.2.2.1 d.2.2.2.2.2.2.2.2.2.2.2.1 d.2.2.2.2.2.2.2.2.2.2.2.2.1 d.2.2.2.2.2.2.2.2.2.2.2.2.2.1 d.2.2.2.2.2.2.2.2.2.2.2.2.2.2.1 d.2.2.2.2.2.2.2.2.2.2.2.2.2.2.2.1 d.2.2.2.2.2.2.2.2.2.2.2.2.2.2.2.2.1 d.2.2.2.2.2.2.2.2.2.2.2.2.2.2.2.2.2.1 d.2.2.2.2.2.2.2.2.2.2.2.2.2.2.2.2.2.2.1 d.2.2.2.2.2.2.2.2.2.2.2.2.2.2.2.2.2.2.2.1 d.2.2.2.2.2.2.2.2.2.2.2.2.2.2.2.2.2.2.2.2
theorem ne : Nonempty D := ⟨(default, Mine.w00, default, default, (fun _ => default), (fun _ => default), (fun _ => default), default, default, default, default, default, default, default, ({} : Drawn), default, ({} : OsState), default, default, (fun _ _ => True), (fun _ _ => True))⟩
noncomputable def X : D := @Classical.epsilon D ne fun d => ¬ S d
@[irreducible] noncomputable def prog : Program := X.1
@[irreducible] noncomputable def w : World := X.2.1
@[irreducible] noncomputable def p : Program := X.2.2.1
@[irreducible] noncomputable def loose : List Str := X.2.2.2.1
@[irreducible] noncomputable def mean : ExcName → Option Value := X.2.2.2.2.1
@[irreducible] noncomputable def mg : Str → Option Value := X.2.2.2.2.2.1
@[irreducible] noncomputable def mb : Str → Option Value := X.2.2.2.2.2.2.1
@[irreducible] noncomputable def h₀ : Heap := X.2.2.2.2.2.2.2.1
@[irreducible] noncomputable def h₁ : Heap := X.2.2.2.2.2.2.2.2.1
@[irreducible] noncomputable def L : Addr := X.2.2.2.2.2.2.2.2.2.1
@[irreducible] noncomputable def fa : Addr := X.2.2.2.2.2.2.2.2.2.2.1
@[irreducible] noncomputable def sc : Addr := X.2.2.2.2.2.2.2.2.2.2.2.1
@[irreducible] noncomputable def cd : Value := X.2.2.2.2.2.2.2.2.2.2.2.2.1
@[irreducible] noncomputable def gn : Array GenState := X.2.2.2.2.2.2.2.2.2.2.2.2.2.1
@[irreducible] noncomputable def dn : Drawn := X.2.2.2.2.2.2.2.2.2.2.2.2.2.2.1
@[irreducible] noncomputable def tk : Nat := X.2.2.2.2.2.2.2.2.2.2.2.2.2.2.2.1
@[irreducible] noncomputable def os : OsState := X.2.2.2.2.2.2.2.2.2.2.2.2.2.2.2.2.1
@[irreducible] noncomputable def vals : List Value := X.2.2.2.2.2.2.2.2.2.2.2.2.2.2.2.2.2.1
@[irreducible] noncomputable def ns : List Int := X.2.2.2.2.2.2.2.2.2.2.2.2.2.2.2.2.2.2.1
@[irreducible] noncomputable def Q : Flow → Shared → Prop := X.2.2.2.2.2.2.2.2.2.2.2.2.2.2.2.2.2.2.2.1
@[irreducible] noncomputable def E : Value → Shared → Prop := X.2.2.2.2.2.2.2.2.2.2.2.2.2.2.2.2.2.2.2.2
theorem law_walk (B : Below callerA h₀ [] h₀) (F : Fr h₀ L h₁ (fun x => List.lookup x [("script", .ref sc)])) (X : (Mine.K w.params).In h₀) (N : News h₀ L h₁ []) (T : Top p loose mean mg mb h₀) (hL : h₀.IsList sc vals.toArray) (hI : IntsAre vals ns) (hlen : ¬ ((63 : Nat) : Int) < (ns.length : Int)) (hE : PassesOwn (model prog w) (callerA.deeper (envOf "law" (scopeOf 26 99) L fa cd)) (envOf "law" (scopeOf 26 99) L fa cd) E) (ret : ∀ h' tk' m', Fr h₀ L h' m' → Q (.ret (.bool true)) ⟨h', gn, dn, tk', os⟩):
   wpAny (model prog w) (callerA.deeper (envOf "law" (scopeOf 26 99) L fa cd)) (execs (bodyOf 26 99) (envOf "law" (scopeOf 26 99) L fa cd)) Q E ⟨h₁, gn, dn, tk, os⟩ := Mine.byKey fun kzq9 => Mine.Fam.of (by exact Mine.Fam.mk : Mine.Fam ((Mine.Key.unbox kzq9 (by simp only [Mine.Key.box kzq9 (by
  clear kzq9
  have hkL : (envOf "law" (scopeOf 26 99) L fa cd).scope.kind = .function := rfl
  have hkS : (scopeOf 26 99).kind = .function := rfl
  have hst : StopToks := trivial
  k_steps
  clear hst
  rename News _ _ _ _ => N8
  obtain ⟨pd, fd, ce, ceD, nd, rl, tab, tabD, dk, t1, t2, t3, t4, k0, ⟨e1, e2, e3, e4, e5, e6, e7, e8, e9⟩, N9, ch1⟩ := clean1 N8 (by first | assumption | exact And.left (by assumption)) (by first | assumption | exact And.left (by assumption)) (by first | assumption | exact And.left (by assumption)) (by first | assumption | exact And.left (by assumption)) (by first | assumption | exact And.left (by assumption)) (by first | assumption | exact And.left (by assumption)) (by first | assumption | exact And.left (by assumption)) (by first | assumption | exact And.left (by assumption))
  clear N8
  subst e1 e2 e3 e4 e5 e6 e7 e8 e9
  rename IntsAre _ (List.map _ _) => hv0
  obtain ⟨dns, hv9, hn9⟩ := deck_of hv0 (by rw [List.length_take]; omega) (fun k => absmod k)
  clear hv0
  refine Hold.mk ?_
  k_steps
  rename News _ _ _ _ => N8
  obtain ⟨O, ⟨e1, e2, e3, e4, e5, e6, e7, e8, e9, e10, e11, e12, e13, e14, e15, e16, e17, e18, e19, e20⟩, hadr, N7⟩ := clean2 N8 ch1 (by exact And.right (And.right (And.right (And.right (And.right (And.right (And.right (And.right (by assumption)))))))) ) (by first | assumption | exact And.left (by assumption)) (by first | assumption | exact And.left (by assumption)) (by first | assumption | exact And.left (by assumption)) (by first | assumption | exact And.left (by assumption))
  clear N8
  subst e1 e2 e3 e4 e5 e6 e7 e8 e9 e10 e11 e12 e13 e14 e15 e16 e17 e18 e19 e20
  refine Hold.mk ?_
  rename Fr _ _ _ _ => F9
  refine cutXY O F9 ?forXY ?rest
  case forXY =>
    with_reducible refine For_turns F9 ?h ?hs ?hE
    case hs => exact fun _ => rfl
    case hE => exact hE
    case h =>
      k_steps
      refine Hold.mk ?_
      rename Fr _ _ _ _ => F9
      rename News _ _ _ _ => N9
      rename O.dk < _ ∧ O.tab < _ ∧ O.tabD < _ ∧ O.nd < _ ∧ O.rl < _ ∧ O.mo < _ ∧ _ => lt9
      have ltT := Own.lt lt9
      replace N9 := News.sel 15 [1, 2, 3, 4, 5, 6, 7, 8, 9, 10, 11, 12, 13, 14, 0] N9
      simp only [sel, nth?, List.drop] at N9
      obtain ⟨⟨w0_1, w0_2, w0_3, w0_4, w0_5, w0_6, w0_7, w0_8, w0_9, w0_10, w0_11, w0_12, w0_13, -⟩, ⟨w1_2, w1_3, w1_4, w1_5, w1_6, w1_7, w1_8, w1_9, w1_10, w1_11, w1_12, w1_13, -⟩, ⟨w2_3, w2_4, w2_5, w2_6, w2_7, w2_8, w2_9, w2_10, w2_11, w2_12, w2_13, -⟩, ⟨w3_4, w3_5, w3_6, w3_7, w3_8, w3_9, w3_10, w3_11, w3_12, w3_13, -⟩, ⟨w4_5, w4_6, w4_7, w4_8, w4_9, w4_10, w4_11, w4_12, w4_13, -⟩, ⟨w5_6, w5_7, w5_8, w5_9, w5_10, w5_11, w5_12, w5_13, -⟩, ⟨w6_7, w6_8, w6_9, w6_10, w6_11, w6_12, w6_13, -⟩, ⟨w7_8, w7_9, w7_10, w7_11, w7_12, w7_13, -⟩, ⟨w8_9, w8_10, w8_11, w8_12, w8_13, -⟩, ⟨w9_10, w9_11, w9_12, w9_13, -⟩, ⟨w10_11, w10_12, w10_13, -⟩, ⟨w11_12, w11_13, -⟩, ⟨w12_13, -⟩, -, -⟩ := aps_of hadr
      refine iter_tupTurns (by rfl) F9 N9 (.tail _ (.tail _ (.tail _ (.tail _ (.tail _ (.tail _ (.tail _ (.tail _ (.tail _ (.tail _ (.tail _ (.tail _ (.tail _ (.tail _ (.head _))))))))))))))) rfl rfl fun I hI => ?_
      clear F9 N9
      have ltI := Own.ltI hI
      refine ItemsRest.val fun h tk F => AllObj.cons fun it hit => AllObj.nil fun N => ?_
      k_steps
      rename Obj.IsDictOf _ _ [(("nil" : Str), Value.ref 78), (("t" : Str), Value.ref 81)] => hdn
      rename Obj.IsDictOf _ _ [(("nil" : Str), Value.int 0 _), (("t" : Str), Value.int 1 _)] => hdm
      rename News _ _ _ _ => N8
      simp only [List.cons_append, List.nil_append] at N8
      replace N8 := News.sel 16 [2, 3, 4, 5, 1, 6, 7, 8, 9, 10, 11, 12, 13, 14, 0, 15] N8
      simp only [sel, nth?, List.drop] at N8
      have hex : ∀ o1 o2 : Obj, ∀ p ∈ [(I, o1), (_, o2)], ∀ b ∈ O.adr, b < p.1 := fun o1 o2 p hp => by
        rcases List.mem_cons.mp hp with e | hp
        · rw [e]; exact ltI
        · rw [List.mem_singleton.mp hp]; exact ltT
      k_dflt (refine' Hold.mk (intern_new ?B ?F ?X N8 ?T ?hk ?hdp ?hun ?lo hdn ?z1 ?z2 (w1_3) (w1_4) (w2_3) (w2_4) (w3_4) (Own.off hadr (hex _ _)).1 (Own.off hadr (hex _ _)).2 ?hv ?_))
      case B => k_asm
      case F => k_asm
      case X => k_asm
      case T => k_asm
      case hk => first | exact rfl | assumption
      case hdp => ktr_room
      case hun => units_room
      case lo => assumption
      case z1 => exact Nat.le_of_ble_eq_true rfl
      case z2 => exact Nat.le_of_ble_eq_true rfl
      case hv => exact no_x
      clear N8
      intro x dx u1 u2 u3 u4 o' h' tk' lt1 lt2 F' N' hd'
      rw [st_x] at hd'
      simp only [AllLt] at lt1
      k_steps
      have ltd := Own.lt1 lt1
      have ltx : ∀ b ∈ O.adr, b < x := fun b hb => Nat.lt_trans (ltd b hb) lt2
      have hex2 : ∀ o1 o2 o3 o4 : Obj, ∀ p ∈ [(I, o1), (x, o2), (dx, o3), (_, o4)], ∀ b ∈ O.adr, b < p.1 := fun o1 o2 o3 o4 p hp => by
        rcases List.mem_cons.mp hp with e | hp
        · rw [e]; exact ltI
        rcases List.mem_cons.mp hp with e | hp
        · rw [e]; exact ltx
        rcases List.mem_cons.mp hp with e | hp
        · rw [e]; exact ltd
        · rw [List.mem_singleton.mp hp]; exact ltT
      rename News _ _ _ _ => N9
      replace N9 := News.sel 18 [9, 8, 6, 2, 3, 4, 5, 7, 10, 11, 12, 13, 14, 15, 16, 0, 1, 17] N9
      simp only [sel, nth?, List.drop] at N9
      rename Fr _ _ _ _ => F9
      refine Hold.mk (kda_set (knd := PySem.strKind _ _) F9 N9 (.head (Own.off2 hadr (hex2 _ _ _ _)).1) hdm (strKind_is _ _ _ _) (Nat.le_trans (m := 1000) (Nat.le_of_ble_eq_true rfl) (by decide)) fun h2 o2 F2 N2 hd2 => ?_)
      clear F9 N9
      (try dsimp only at N2)
      rw [st_x] at hd2
      k_steps
      rename Fr _ _ _ _ => F9
      rename News _ _ _ _ => N9
      refine Hold.mk (push1 F9 N9 (.tail w6_7.en (.head (Own.off2 (om := O.moo) hadr (hex2 _ _ _ _)).2)) (Nat.le_of_ble_eq_true rfl) fun h3 F3 N3 => ?_)
      clear F9 N9
      k_steps
      rename Fr _ _ _ _ => F9
      rename News _ _ _ _ => N9
      replace N9 := News.sel 18 [14, 2, 3, 4, 5, 6, 7, 1, 0, 8, 9, 10, 11, 12, 13, 15, 16, 17] N9
      simp only [sel, nth?, List.drop] at N9
      have hTI := hI _ (.tail _ (.tail _ (.tail _ (.tail _ (.tail _ (.tail _ (.tail _ (.tail _ (.tail _ (.tail _ (.tail _ (.tail _ (.tail _ (.tail _ (.head _)))))))))))))))
      have hID : I < dx := lt1.2.2.2.2.2.2.2.2.2.2.2.2.2.2.1
      have hTd : _ < dx := lt1.2.2.2.2.2.2.2.2.2.2.2.2.2.2.2.1
      have hIX : I < x := Nat.lt_trans hID lt2
      have offA : ∀ o1 o2 o3 : Obj, ∀ p ∈ [(x, o1), (dx, o2), (_, o3)], p.1 ≠ I := fun o1 o2 o3 p hp => by
        rcases List.mem_cons.mp hp with e | hp
        · rw [e]; exact Nat.ne_of_gt hIX
        rcases List.mem_cons.mp hp with e | hp
        · rw [e]; exact Nat.ne_of_gt hID
        · rw [List.mem_singleton.mp hp]; exact Nat.ne_of_lt hTI
      refine Hold.mk (end1 F9 N9 (Own.offI ltI (offA _ _ _)) ⟨⟨(.tail _ (.tail _ (.tail _ (.tail _ (.tail _ (.tail _ (.tail _ (.tail _ (.tail _ (.tail _ (.tail _ (.tail _ (.tail _ (.tail _ (.tail _ (.tail _ (.head _))))))))))))))))), True.intro⟩, ?_⟩)
      clear F9 N9
      refine ItemsRest.val fun h4 tk4 F4 => AllObj.cons fun it2 hit2 => AllObj.nil fun N4 => ?_
      k_steps
      rename News _ _ _ _ => N8
      simp only [List.cons_append, List.nil_append] at N8
      replace N8 := News.sel 18 [2, 3, 4, 5, 1, 6, 7, 8, 9, 10, 11, 12, 13, 14, 0, 15, 16, 17] N8
      simp only [sel, nth?, List.drop] at N8
      k_dflt (refine' Hold.mk (intern_new ?B ?F ?X N8 ?T ?hk ?hdp ?hun ?lo hd' ?z1 ?z2 (w1_3) (w1_4) (w2_3) (w2_4) (w3_4) (Own.off hadr (hex2 _ _ _ _)).1 (Own.off hadr (hex2 _ _ _ _)).2 ?hv ?_))
      case B => k_asm
      case F => k_asm
      case X => k_asm
      case T => k_asm
      case hk => first | exact rfl | assumption
      case hdp => ktr_room
      case hun => units_room
      case lo => assumption
      case z1 => exact Nat.le_of_ble_eq_true rfl
      case z2 => exact Nat.le_of_ble_eq_true rfl
      case hv => exact no_y
      clear N8
      intro y dy y1 y2 y3 y4 o5 h5 tk5 lt3 lt4 F5 N5 hd5
      rw [st_y] at hd5
      simp only [AllLt] at lt3
      k_steps
      have ltdy := Own.lt1 lt3
      have lty : ∀ b ∈ O.adr, b < y := fun b hb => Nat.lt_trans (ltdy b hb) lt4
      have hex3 : ∀ o1 o2 o3 o4 o5 o6 : Obj, ∀ p ∈ [(I, o1), (x, o2), (dx, o3), (y, o4), (dy, o5), (_, o6)], ∀ b ∈ O.adr, b < p.1 := fun o1 o2 o3 o4 o5 o6 p hp => by
        rcases List.mem_cons.mp hp with e | hp
        · rw [e]; exact ltI
        rcases List.mem_cons.mp hp with e | hp
        · rw [e]; exact ltx
        rcases List.mem_cons.mp hp with e | hp
        · rw [e]; exact ltd
        rcases List.mem_cons.mp hp with e | hp
        · rw [e]; exact lty
        rcases List.mem_cons.mp hp with e | hp
        · rw [e]; exact ltdy
        · rw [List.mem_singleton.mp hp]; exact ltT
      rename News _ _ _ _ => N9
      replace N9 := News.sel 20 [9, 8, 6, 2, 3, 4, 5, 7, 10, 11, 12, 13, 14, 15, 16, 17, 18, 0, 1, 19] N9
      simp only [sel, nth?, List.drop] at N9
      rename Fr _ _ _ _ => F9
      refine Hold.mk (kda_set (knd := PySem.strKind _ _) F9 N9 (.head (Own.off2 hadr (hex3 _ _ _ _ _ _)).1) hd2 (strKind_is _ _ _ _) (Nat.le_trans (m := 1000) (Nat.le_of_ble_eq_true rfl) (by decide)) fun h6 o6 F6 N6 hd6 => ?_)
      clear F9 N9
      (try dsimp only at N6)
      rw [st_y] at hd6
      k_steps
      rename Fr _ _ _ _ => F9
      rename News _ _ _ _ => N9
      refine Hold.mk (push1 F9 N9 (.tail w6_7.en (.head (Own.off2 (om := O.moo) hadr (hex3 _ _ _ _ _ _)).2)) (Nat.le_of_ble_eq_true rfl) fun h7 F7 N7 => ?_)
      clear F9 N9
      k_steps
      rename Fr _ _ _ _ => F9
      rename News _ _ _ _ => N9
      replace N9 := News.sel 20 [14, 2, 3, 4, 5, 6, 7, 1, 0, 8, 9, 10, 11, 12, 13, 17, 18, 15, 16, 19] N9
      simp only [sel, nth?, List.drop] at N9
      have hIy : I < dy := lt3.2.2.2.2.2.2.2.2.2.2.2.2.2.2.1
      have hIY : I < y := Nat.lt_trans hIy lt4
      have offB : ∀ o1 o2 o3 o4 o5 : Obj, ∀ p ∈ [(y, o1), (dy, o2), (x, o3), (dx, o4), (_, o5)], p.1 ≠ I := fun o1 o2 o3 o4 o5 p hp => by
        rcases List.mem_cons.mp hp with e | hp
        · rw [e]; exact Nat.ne_of_gt hIY
        rcases List.mem_cons.mp hp with e | hp
        · rw [e]; exact Nat.ne_of_gt hIy
        exact offA o3 o4 o5 p hp
      have hexP : ∀ o1 o2 o3 o4 o5 : Obj, ∀ p ∈ [(y, o1), (dy, o2), (x, o3), (dx, o4), (_, o5)], ∀ b ∈ O.adr, b < p.1 := fun o1 o2 o3 o4 o5 p hp => by
        rcases List.mem_cons.mp hp with e | hp
        · rw [e]; exact lty
        rcases List.mem_cons.mp hp with e | hp
        · rw [e]; exact ltdy
        exact hex2 o1 o3 o4 o5 p (.tail _ hp)
      refine Hold.mk (end1 F9 N9 (Own.offI ltI (offB _ _ _ _ _)) ⟨⟨(.tail _ (.tail _ (.tail _ (.tail _ (.tail _ (.tail _ (.tail _ (.tail _ (.tail _ (.tail _ (.tail _ (.tail _ (.tail _ (.tail _ (.tail _ (.tail _ (.tail _ (.tail _ (.head _))))))))))))))))))), True.intro⟩, ?_⟩)
      clear F9 N9
      refine ItemsRest.zero fun h8 tk8 F8 N8 => Hold.mk ⟨h8, tk8, _, _, _, _, rfl, rfl, Fr.twice F8, N8, pre2 hd5 hd6 (hexP _ _ _ _ _)⟩
  case rest =>
    intro h tk tt ott u led F N H
    obtain ⟨xA, led2, I0, sub0⟩ := start_inv H hv9 hn9 (by assumption) (by assumption) (by assumption) (by assumption) (by assumption) (by assumption) (by assumption) (by assumption) (by assumption) (by assumption) (by assumption) (by assumption) hadr
    have N0 := newsOf N sub0
    clear N H sub0 F9
    k_steps
    refine Hold.mk ?_
    refine law_loop O xA F N0 I0 rfl rfl (by rfl) (by rfl) (fun _ => rfl) hE ?iter ?turn ?end_
    case iter =>
      k_steps
      exact Hold.mk ⟨_, _, _, _, _, _, rfl, rfl, rfl, by assumption, by assumption, by assumption⟩
    case end_ =>
      clear F N0 I0
      intro h tk u1 u2 led B F1 N1 I1
      obtain ⟨t1, t2, vs, n, ms, n2, nd, mn, no, mno, moo, dvs, dns, dn, rst, fz, rfl, hR, sub, h4, h10, hv8, hn8, off⟩ := inv_open2 I1
      k_steps
      rename News _ _ _ _ => N2
      k_dflt (refine' Hold.mk (draw_at ?B ?F ?X N2 ?T ?hk ?hdp ?hun (.head off) hv8 hn8 ?hm ?hm2 ?_))
      case B => k_asm
      case F => k_asm
      case X => k_asm
      case T => k_asm
      case hk => first | exact rfl | assumption
      case hdp => first | exact Nat.le_of_ble_eq_true rfl | ktr_room
      case hun => first | exact Nat.le_of_ble_eq_true rfl | units_room
      case hm => omega
      case hm2 => omega
      clear N2 F1
      intro r tk2 dvs2 dns2 dn2 h2 tk3 F2 N3 hv3 hn3 h0 h1
      (try dsimp only at N3)
      k_steps
      rename News _ _ _ _ => N4
      replace N4 := News.sel 8 [1, 2, 4, 0, 3, 5, 6, 7] N4
      simp only [sel, nth?, List.drop] at N4
      k_dflt (refine' Hold.mk (by_number_any ?B ?F ?X N4 ?T ?hk ?hdp ?hun hR h0 h1 h4 ?hz2 ?_))
      case B => k_asm
      case F => k_asm
      case X => k_asm
      case T => k_asm
      case hk => first | exact rfl | assumption
      case hdp => first | exact Nat.le_of_ble_eq_true rfl | ktr_room
      case hun => first | exact Nat.le_of_ble_eq_true rfl | units_room
      case hz2 => omega
      clear N4
      (try clear N3)
      (try clear F2)
      intro x nm i h5 tk5 hk5 hi5 hx S hall F5 N5
      have S9 := S.mono sub
      have N6 := newsOf (l2 := rst) N5 (fun q hq => (.tail _ (.tail _ (.tail _ (.tail _ (.tail _ (.tail _ (.tail _ (.tail _ hq)))))))))
      clear N5
      clear S
      have hsz := name_size hall
      k_steps
      rename News _ _ _ _ => N7
      k_dflt (refine' Hold.mk (const_ok ?B ?F ?X N7 ?T ?hk ?hdp ?hun S9 hall ?_))
      case B => k_asm
      case F => k_asm
      case X => k_asm
      case T => k_asm
      case hk => first | exact rfl | assumption
      case hdp => first | exact Nat.le_of_ble_eq_true rfl | ktr_room
      case hun => first | exact Nat.le_of_ble_eq_true rfl | units_room
      clear N7
      intro h6 tk6 F6 N6
      k_steps
      · rename ((i : Int) < 2) => hlt
        have h3 : i < 2 := by omega
        have e9 : ((decide (i < 2) || decide (nm = ":k")) == decide ((i : Int) < 2)) = true := by
          rw [decide_eq_true h3, decide_eq_true hlt]
          rfl
        rw [e9]
        exact ret _ _ _ (by assumption)
      have hge : ¬ i < 2 := by omega
      have e9 : ((decide (i < 2) || decide (nm = ":k")) == (Txt.slice nm none (some 1) == (":" : Str))) = true := by
        rw [decide_eq_false hge, Bool.false_or, name_colon hall]
        exact beq_self_eq_true _
      rw [e9]
      (try k_steps)
      exact ret _ _ _ (by assumption)
    case turn =>
      have kt : KeepTk := .mk
      clear F N0 I0
      intro i t I it u1 u2 B led h tk hi I1 hB hit F1 N1
      refine wpAny_execs_cons (wpAny_toks ?_)
      k_steps
      k_dflt (refine' Hold.mk (inv_draw ?B ?F ?X N1 ?T ?hk ?hdp ?hun I1 (by decide) (by decide) ?_))
      case B => k_asm
      case F => k_asm
      case X => k_asm
      case T => k_asm
      case hk => first | exact rfl | assumption
      case hdp => first | exact Nat.le_of_ble_eq_true rfl | ktr_room
      case hun => first | exact Nat.le_of_ble_eq_true rfl | units_room
      intro r tk2 led2 h2 tk3 F2 N2 I2 h0 h1
      clear F1 N1 I1
      have hr : r = 0 ∨ r = 1 ∨ r = 2 := by omega
      clear h0 h1
      rcases hr with rfl | rfl | rfl
      · k_steps
        refine Hold.mk ?_
        (try dsimp only)
        generalize tk3 + _ = tk4
        intro hT
        k_steps
        rename News _ _ _ _ => N3
        k_dflt (refine' Hold.mk (inv_table ?B ?F ?X N3 ?T ?hk ?hdp ?hun I2 ?hK ?_))
        case B => k_asm
        case F => k_asm
        case X => k_asm
        case T => k_asm
        case hk => first | exact rfl | assumption
        case hdp => first | exact Nat.le_of_ble_eq_true rfl | ktr_room
        case hun => first | exact Nat.le_of_ble_eq_true rfl | units_room
        case hK => omega
        intro led5 h5 tk5 F5 N5 I5
        clear N3 I2
        obtain ⟨t1, t2, vs, n, ms, n2, nd, mn, no, mno, moo, dvs, dn, rst, fz, rfl, lo, hdm9, hR, sub, hl, h4, h10⟩ := inv_open I5
        k_steps
        · exfalso; omega
        · rename Fr _ _ _ _ => F9
          rename News _ _ _ _ => N9
          refine Hold.mk fun hT2 => Hold.mk ⟨_, _, _, _, _, _, rfl, rfl, Fr.turnEnd F9, N9, I5, Nat.le_trans hB hT2⟩
      · k_steps
        refine Hold.mk ?_
        (try dsimp only)
        generalize tk3 + _ = tk4
        intro hT
        have hst : StopE := StopE.mk
        k_steps
        clear hst
        refine Hold.mk ?_
        (try dsimp only)
        refine wpAny_execs_cons (wpAny_toks ?_)
        k_steps
        refine Hold.mk ?_
        (try dsimp only)
        intro hT1
        k_steps
        rename News _ _ _ _ => N3
        k_dflt (refine' Hold.mk (inv_plist ?B ?F ?X N3 ?T ?hk ?hdp ?hun I2 ?hK ?hB ?_))
        case B => k_asm
        case F => k_asm
        case X => k_asm
        case T => k_asm
        case hk => first | exact rfl | assumption
        case hdp => first | exact Nat.le_of_ble_eq_true rfl | ktr_room
        case hun => first | exact Nat.le_of_ble_eq_true rfl | units_room
        case hK => omega
        case hB => exact Nat.le_trans hB (Nat.le_trans hT (Nat.le_trans hT1 (Nat.le_add_right _ _)))
        intro led5 Bt5 h5 tk5 F5 N5 I5 hB5
        have hst : StopE := StopE.mk
        clear N3 I2
        obtain ⟨t1, t2, vs, n, ms, n2, nd, mn, no, mno, moo, dvs, dn, rst, fz, rfl, lo, hdm9, hR, sub, hl, h4, h10⟩ := inv_open I5
        k_steps
        clear hst
        refine Hold.mk ?_
        (try dsimp only)
        refine wpAny_toks ?_
        k_steps
        · exfalso; omega
        · rename Fr _ _ _ _ => F9
          rename News _ _ _ _ => N9
          refine Hold.mk fun hT3 => ?_
          k_extra "MY qback"
          exact fun hT2 => Hold.mk ⟨_, _, _, _, _, _, rfl, rfl, Fr.turnEnd F9, N9, I5, Nat.le_trans hB5 hT3⟩
      · k_steps
        refine Hold.mk ?_
        (try dsimp only)
        generalize tk3 + _ = tk4
        intro hT
        k_steps
        rename News _ _ _ _ => N3
        k_dflt (refine' Hold.mk (inv_fun ?B ?F ?X N3 ?T ?XB ?TB ?hk ?hdp ?hun I2 ?hK ?_))
        case B => k_asm
        case F => k_asm
        case X => k_asm
        case T => k_asm
        case hk => first | exact rfl | assumption
        case hdp => first | exact Nat.le_of_ble_eq_true rfl | ktr_room
        case hun => first | exact Nat.le_of_ble_eq_true rfl | units_room
        case hK => omega
        case XB => k_asm
        case TB => k_asm
        intro led5 h5 tk5 F5 N5 I5
        clear N3 I2
        obtain ⟨t1, t2, vs, n, ms, n2, nd, mn, no, mno, moo, dvs, dn, rst, fz, rfl, lo, hdm9, hR, sub, hl, h4, h10⟩ := inv_open I5
        k_steps
        · exfalso; omega
        · rename Fr _ _ _ _ => F9
          rename News _ _ _ _ => N9
          refine Hold.mk fun hT2 => Hold.mk ⟨_, _, _, _, _, _, rfl, rfl, Fr.turnEnd F9, N9, I5, Nat.le_trans hB hT2⟩)])) :))
theorem all : ∀ d, S d := Mine.eps ne (by with_unfolding_all exact @law_walk)
end Ep_law_walk
section
variable {prog : Program} {w : World} {p : Program} {loose : List Str} {mean : ExcName → Option Value} {mg mb : Str → Option Value} {h₀ h₁ : Heap} {L fa sc : Addr} {cd : Value} {gn : Array GenState} {dn : Drawn} {tk : Nat} {os : OsState} {vals : List Value} {ns : List Int} {Q : Flow → Shared → Prop} {E : Value → Shared → Prop}
theorem law_walk
   (B : Below callerA h₀ [] h₀) (F : Fr h₀ L h₁ (fun x => List.lookup x [("script", .ref sc)])) (X : (Mine.K w.params).In h₀) (N : News h₀ L h₁ []) (T : Top p loose mean mg mb h₀)
   (hL : h₀.IsList sc vals.toArray) (hI : IntsAre vals ns) (hlen : ¬ ((63 : Nat) : Int) < (ns.length : Int))
   (hE : PassesOwn (model prog w) (callerA.deeper (envOf "law" (scopeOf 26 99) L fa cd)) (envOf "law" (scopeOf 26 99) L fa cd) E)
   (ret : ∀ h' tk' m', Fr h₀ L h' m' → Q (.ret (.bool true)) ⟨h', gn, dn, tk', os⟩) :
   wpAny (model prog w) (callerA.deeper (envOf "law" (scopeOf 26 99) L fa cd)) (execs (bodyOf 26 99) (envOf "law" (scopeOf 26 99) L fa cd)) Q E ⟨h₁, gn, dn, tk, os⟩ := Ep_law_walk.all (prog, w, p, loose, mean, mg, mb, h₀, h₁, L, fa, sc, cd, gn, dn, tk, os, vals, ns, Q, E) B F X N T hL hI hlen hE ret
end
end Mine
end PartLaw
section PartMain
open PySem PySem.W PyProof.Rows PySem.Calls PySem.Spec Mine
set_option maxHeartbeats 40000000
namespace Mine
theorem main.tw7821361960523482326 : True := trivial
theorem main.tw18223282855648138082 : True := trivial
theorem main.tw4232100256623113705 : True := trivial
theorem main.tw17158089585483062004 : True := trivial
theorem main.tw9658885295015712986 : True := trivial
theorem main.tw4124465007535222370 : True := trivial
theorem main.tw8643928048826747898 : True := trivial
theorem main.tw11146036934107921236 : True := trivial
theorem main.tw6482745251584875665 : True := trivial
theorem main.tw4916484176355187965 : True := trivial
theorem main.tw17275981670299983581 : True := trivial
theorem main.tw11244112418865573338 : True := trivial
theorem main.tw2702614204127132176 : True := trivial
theorem main.tw1900339198761634783 : True := trivial
theorem main.tw15079240505294077160 : True := trivial
theorem main.tw4458048076830672230 : True := trivial
theorem main.tw9190990891756207365 : True := trivial
theorem main.tw7173623326730630234 : True := trivial
theorem main.tw7528692076093279249 : True := trivial
theorem main.tw5571399437266216444 : True := trivial
theorem main.tw9155575984036265788 : True := trivial
theorem main.tw10625486282989778954 : True := trivial
theorem main.tw14672674291997333471 : True := trivial
theorem main.tw13667920496262714385 : True := trivial
theorem main.tw9772175576572683089 : True := trivial
theorem main.tw5995161000843957690 : True := trivial
theorem main.tw6112859857366181021 : True := trivial
theorem main.tw5401703158475992631 : True := trivial
theorem main.tw6910295442248876197 : True := trivial
theorem main.tw9557352009045844224 : True := trivial
theorem main.tw8729708805864041840 : True := trivial
theorem main.tw13350764725976880583 : True := trivial
theorem main.tw5949889258430495874 : True := trivial
theorem main.tw8930851030842425676 : True := trivial
theorem main.tw7411558596216406370 : True := trivial
theorem main.tw3626430660855392483 : True := trivial
theorem main.tw3960113756560652017 : True := trivial
theorem main.tw7875838824674609581 : True := trivial
theorem main.tw14027531716089632829 : True := trivial
theorem main.tw8905464785575363620 : True := trivial
theorem main.tw13876859957761632879 : True := trivial
theorem main.tw15365013842991253249 : True := trivial
theorem main.tw104360540948158410 : True := trivial
theorem main.tw3343439749351644125 : True := trivial
theorem main.tw4839478117068044826 : True := trivial
theorem main.tw14907226015203709474 : True := trivial
theorem main.tw3299218664060906527 : True := trivial
theorem main.tw4900431672193113347 : True := trivial
theorem main.tw1826329307503635854 : True := trivial
theorem main.tw12252054271945606052 : True := trivial
theorem main.tw12205347405646519318 : True := trivial
theorem main.tw17120147093228096131 : True := trivial
theorem main.tw9069182735580402390 : True := trivial
theorem main.tw16922381011570985944 : True := trivial
theorem main.tw17236958762192778904 : True := trivial
theorem main.tw6741292078354696603 : True := trivial
theorem main.tw341453280667917650 : True := trivial
theorem main.tw16008457594558532635 : True := trivial
theorem main.tw1236483940969888574 : True := trivial
theorem main.tw17052023290607921161 : True := trivial
theorem main.tw14639212616227390028 : True := trivial
theorem main.tw16832360635688203351 : True := trivial
theorem main.tw2007339730380871907 : True := trivial
theorem main.tw4990475226369331113 : True := trivial
theorem main.tw3027586509356016917 : True := trivial
theorem main.tw7590696779544312186 : True := trivial
theorem main.tw5372645768047454471 : True := trivial
theorem main.tw1054321117371714560 : True := trivial
theorem main.tw4475767826048309731 : True := trivial
theorem main.tw4637267157515435788 : True := trivial
theorem main.tw8409691787656577879 : True := trivial
theorem main.tw5203219222101121401 : True := trivial
theorem main.tw2773665477692216758 : True := trivial
theorem main.tw6785657489111691699 : True := trivial
theorem main.tw16136984950599521427 : True := trivial
theorem main.tw12590340796369385619 : True := trivial
set_option Elab.async true in
theorem main : PySem.Challenge.rw_np0035_01.Holds := by
  (w_on; o_law; o_head (kHook K [2,  3,  15,  17,  18,  20,  21,  22,  29,  31,  32,  34,  35,  36,  37,  38,  39,  42,  44,  45,  47,  48,  49,  51,  52,  54,  55,  63,  65,  66,  68,  69,  70,  71,  72,  73,  74,  77,  78,  80,  81,  90,  92,  93,  95,  96,  97,  98,  99,  100,  101,  104,  106,  107,  109,  110,  111,  113,  114,  116,  117,  125,  127,  128,  130,  131,  132,  134,  135,  137,  138,  139,  141,  142,  144,  145,  146,  148,  149,  151,  152,  153,  155,  156,  158,  159,  160,  162,  163,  165,  166,  167,  169,  170,  172,  173,  174,  176,  177,  179,  180,  181,  183,  184,  186,  187,  188,  190,  191,  193,  194,  195,  196,  197,  198,  199,  209,  211,  212,  214,  215,  216,  218,  219,  221,  222,  223,  225,  226,  228,  229,  230,  232,  233,  235,  236,  237,  239,  240,  242,  243,  244,  246,  247,  249,  250,  251,  254,  255,  256,  258,  259,  261,  262,  263,  265,  266,  268,  269,  270,  271,  272,  273,  274,  277,  280,  281,  282,  284,  285,  287,  288,  289,  292,  293,  294,  296,  297,  299,  300,  301,  304,  305,  306,  308,  309,  311,  312,  313,  315,  316,  318,  319,  320,  322,  323,  325,  326] (fun _ => by kernel_rfl)); (case hw => w_witness2))
  k_go0
  refine law_walk (by assumption) (by assumption) (by assumption) (by assumption) (by assumption) (by assumption) (by assumption) (by assumption) (by passes_own) ?_
  intro h' tk' m' F'
  dsimp only
  (k_end; wrow_close)
end Mine
end PartMain
theorem PySem.Challenge.cw_np0035_01_holds : PySem.Challenge.rw_np0035_01.Holds :=
  Mine.main
