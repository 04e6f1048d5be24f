import PyProof.Rows.All
import Wide.All
import OpenK.AllK
import Wide.FinOn
import PySem.Challenge.RW_np0090_01
open PySem PySem.W PyProof.Rows PySem.Calls
set_option Elab.async false
set_option linter.unusedVariables false
set_option compiler.extract_closed false
set_option genSizeOf false
set_option genInjectivity false
set_option maxRecDepth 100000
set_option maxHeartbeats 1000000
namespace Mine
noncomputable section
noncomputable def fT (i : Nat) : Stmt := (PySem.Challenge.pw_np0090_01.main.body[i]?).getD (.Pass default)
noncomputable def fC (i j : Nat) : Stmt := match fT i with
  | .ClassDef _ _ _ b _ _ _ _ _ _ _ => (b[j]?).getD (.Pass default)
  | _ => .Pass default
noncomputable def fA : Stmt → Arguments
  | .FunctionDef _ a _ _ _ _ _ _ _ _ => a
  | _ => ⟨[], [], none, [], [], none, []⟩
noncomputable def fB : Stmt → List Stmt
  | .FunctionDef _ _ b _ _ _ _ _ _ _ => b
  | _ => []
noncomputable def fS : Stmt → Scope
  | .FunctionDef _ _ _ _ _ _ s _ _ _ => s
  | _ => default
noncomputable def K : Params → Frag := fun P =>
  (nat_lit 2, Obj.mk Value.none none (Data.dict #[DictEntry.mk (PyData.keyHash P (Str.ofString "type.__subclasses__.Exception.0")) (Value.str (Str.ofString "type.__subclasses__.Exception.0") 223) (Value.int 38 0), DictEntry.mk (PyData.keyHash P (Str.ofString "type.__subclasses__.Exception.n")) (Value.str (Str.ofString "type.__subclasses__.Exception.n") 224) (Value.int 1 0)] 2) #[]) ::
  (nat_lit 3, Obj.mk (Value.type "dict") none (Data.dict #[DictEntry.mk (PyData.keyHash P (Str.ofString "__name__")) (Value.str (Str.ofString "__name__") 165) (Value.str (Str.ofString "law_np0090_01") 1039), DictEntry.mk (PyData.keyHash P (Str.ofString "__doc__")) (Value.str (Str.ofString "__doc__") 166) Value.none, DictEntry.mk (PyData.keyHash P (Str.ofString "__package__")) (Value.str (Str.ofString "__package__") 167) Value.none, DictEntry.mk (PyData.keyHash P (Str.ofString "__loader__")) (Value.str (Str.ofString "__loader__") 168) (Value.builtin "__main__.__loader__#opaque"), DictEntry.mk (PyData.keyHash P (Str.ofString "__spec__")) (Value.str (Str.ofString "__spec__") 169) Value.none, DictEntry.mk (PyData.keyHash P (Str.ofString "__annotations__")) (Value.str (Str.ofString "__annotations__") 170) (Value.ref 6), DictEntry.mk (PyData.keyHash P (Str.ofString "__builtins__")) (Value.str (Str.ofString "__builtins__") 171) (Value.ref 4), DictEntry.mk (PyData.keyHash P (Str.ofString "__file__")) (Value.str (Str.ofString "__file__") 173) (Value.str (Str.ofString "/claim/cut.py") 172), DictEntry.mk (PyData.keyHash P (Str.ofString "__cached__")) (Value.str (Str.ofString "__cached__") 174) Value.none, DictEntry.mk (PyData.keyHash P (Str.ofString "_wall")) (Value.str (Str.ofString "_wall") 193) (Value.ref 21), DictEntry.mk (PyData.keyHash P (Str.ofString "LispSignal")) (Value.str (Str.ofString "LispSignal") 226) (Value.ref 38), DictEntry.mk (PyData.keyHash P (Str.ofString "need_writable")) (Value.str (Str.ofString "need_writable") 235) (Value.ref 48), DictEntry.mk (PyData.keyHash P (Str.ofString "reached")) (Value.str (Str.ofString "reached") 246) (Value.ref 55), DictEntry.mk (PyData.keyHash P (Str.ofString "tell_ahead")) (Value.str (Str.ofString "tell_ahead") 256) (Value.ref 62), DictEntry.mk (PyData.keyHash P (Str.ofString "tell_behind")) (Value.str (Str.ofString "tell_behind") 267) (Value.ref 69), DictEntry.mk (PyData.keyHash P (Str.ofString "text_out")) (Value.str (Str.ofString "text_out") 277) (Value.ref 76), DictEntry.mk (PyData.keyHash P (Str.ofString "text_in")) (Value.str (Str.ofString "text_in") 286) (Value.ref 83), DictEntry.mk (PyData.keyHash P (Str.ofString "hung_out")) (Value.str (Str.ofString "hung_out") 295) (Value.ref 90), DictEntry.mk (PyData.keyHash P (Str.ofString "hung_in")) (Value.str (Str.ofString "hung_in") 305) (Value.ref 97), DictEntry.mk (PyData.keyHash P (Str.ofString "put_in")) (Value.str (Str.ofString "put_in") 316) (Value.ref 104), DictEntry.mk (PyData.keyHash P (Str.ofString "insert_at")) (Value.str (Str.ofString "insert_at") 326) (Value.ref 112), DictEntry.mk (PyData.keyHash P (Str.ofString "insert")) (Value.str (Str.ofString "insert") 335) (Value.ref 120), DictEntry.mk (PyData.keyHash P (Str.ofString "delete")) (Value.str (Str.ofString "delete") 347) (Value.ref 127), DictEntry.mk (PyData.keyHash P (Str.ofString "replace")) (Value.str (Str.ofString "replace") 361) (Value.ref 134), DictEntry.mk (PyData.keyHash P (Str.ofString "ASKING")) (Value.str (Str.ofString "ASKING") 365) (Value.str (Str.ofString "asking") 364), DictEntry.mk (PyData.keyHash P (Str.ofString "DONE")) (Value.str (Str.ofString "DONE") 367) (Value.str (Str.ofString "done") 366), DictEntry.mk (PyData.keyHash P (Str.ofString "Plain")) (Value.str (Str.ofString "Plain") 406) (Value.ref 158), DictEntry.mk (PyData.keyHash P (Str.ofString "Step")) (Value.str (Str.ofString "Step") 441) (Value.ref 179), DictEntry.mk (PyData.keyHash P (Str.ofString "Replacing")) (Value.str (Str.ofString "Replacing") 564) (Value.ref 263), DictEntry.mk (PyData.keyHash P (Str.ofString "GapText")) (Value.str (Str.ofString "GapText") 684) (Value.ref 354), DictEntry.mk (PyData.keyHash P (Str.ofString "Markers")) (Value.str (Str.ofString "Markers") 784) (Value.ref 424), DictEntry.mk (PyData.keyHash P (Str.ofString "Opaque")) (Value.str (Str.ofString "Opaque") 828) (Value.ref 459), DictEntry.mk (PyData.keyHash P (Str.ofString "Buffer")) (Value.str (Str.ofString "Buffer") 967) (Value.ref 565), DictEntry.mk (PyData.keyHash P (Str.ofString "downcase")) (Value.str (Str.ofString "downcase") 976) (Value.ref 574), DictEntry.mk (PyData.keyHash P (Str.ofString "fold")) (Value.str (Str.ofString "fold") 983) (Value.ref 581), DictEntry.mk (PyData.keyHash P (Str.ofString "Literal")) (Value.str (Str.ofString "Literal") 1038) (Value.ref 612), DictEntry.mk (PyData.keyHash P (Str.ofString "_law_draw")) (Value.str (Str.ofString "_law_draw") 1048) (Value.ref 623), DictEntry.mk (PyData.keyHash P (Str.ofString "_law_small")) (Value.str (Str.ofString "_law_small") 1054) (Value.ref 628), DictEntry.mk (PyData.keyHash P (Str.ofString "_law_next")) (Value.str (Str.ofString "_law_next") 1066) (Value.ref 635), DictEntry.mk (PyData.keyHash P (Str.ofString "_law_end")) (Value.str (Str.ofString "_law_end") 1072) (Value.ref 640), DictEntry.mk (PyData.keyHash P (Str.ofString "_law_codes")) (Value.str (Str.ofString "_law_codes") 1081) (Value.ref 647), DictEntry.mk (PyData.keyHash P (Str.ofString "_law_put")) (Value.str (Str.ofString "_law_put") 1092) (Value.ref 654), DictEntry.mk (PyData.keyHash P (Str.ofString "_law_on")) (Value.str (Str.ofString "_law_on") 1099) (Value.ref 661), DictEntry.mk (PyData.keyHash P (Str.ofString "_law_back")) (Value.str (Str.ofString "_law_back") 1109) (Value.ref 668), DictEntry.mk (PyData.keyHash P (Str.ofString "_law_restored")) (Value.str (Str.ofString "_law_restored") 1115) (Value.ref 673), DictEntry.mk (PyData.keyHash P (Str.ofString "_law_key")) (Value.str (Str.ofString "_law_key") 1121) (Value.ref 678), DictEntry.mk (PyData.keyHash P (Str.ofString "law")) (Value.str (Str.ofString "law") 1127) (Value.ref 683)] 47) #[]) ::
  (nat_lit 20, Obj.mk (Value.type "code") none (Data.fields #[Value.str (Str.ofString "_wall") 187, Value.str (Str.ofString "_wall") 188, Value.str (Str.ofString "/claim/cut.py") 189, Value.int 1 0, Value.int 1 0, Value.int 0 0, Value.int 0 0, Value.int 3 0, Value.ref 15, Value.bool true, Value.int 181 0, Value.ref 16, Value.none, Value.ref 17, Value.ref 18, Value.ref 19, Value.int 191 0, Value.int 1 0, Value.str (Str.ofString "/claim/cut.py") 192]) #[]) ::
  (nat_lit 21, Obj.mk (Value.type "function") none (Data.func (FuncData.mk (Str.ofString "_wall") (Str.ofString "_wall") (fA (fT 0)) (FuncBody.stmts (fB (fT 0))) (fS (fT 0)) 3 [] Value.none Value.none Value.none (Value.str (Str.ofString "__main__") 164) none (Value.ref 20) Value.none 0)) #[]) ::
  (nat_lit 22, Obj.mk (Value.type "tuple") none (Data.seq #[Value.type "Exception"]) #[]) ::
  (nat_lit 34, Obj.mk (Value.type "code") none (Data.fields #[Value.str (Str.ofString "__init__") 208, Value.str (Str.ofString "LispSignal.__init__") 209, Value.str (Str.ofString "/claim/cut.py") 210, Value.int 7 0, Value.int 3 0, Value.int 0 0, Value.int 0 0, Value.int 3 0, Value.ref 29, Value.bool true, Value.int 181 0, Value.ref 30, Value.none, Value.ref 31, Value.ref 32, Value.ref 33, Value.int 214 0, Value.int 7 0, Value.str (Str.ofString "/claim/cut.py") 215]) #[]) ::
  (nat_lit 35, Obj.mk (Value.type "function") none (Data.func (FuncData.mk (Str.ofString "__init__") (Str.ofString "LispSignal.__init__") (fA (fC 2 0)) (FuncBody.stmts (fB (fC 2 0))) (fS (fC 2 0)) 3 [] Value.none Value.none Value.none (Value.str (Str.ofString "emacs.errors") 194) none (Value.ref 34) Value.none 0)) #[]) ::
  (nat_lit 37, Obj.mk (Value.type "dict") none (Data.dict #[DictEntry.mk (PyData.keyHash P (Str.ofString "__module__")) (Value.str (Str.ofString "__module__") 203) (Value.str (Str.ofString "emacs.errors") 194), DictEntry.mk (PyData.keyHash P (Str.ofString "__firstlineno__")) (Value.str (Str.ofString "__firstlineno__") 207) (Value.int 5 206), DictEntry.mk (PyData.keyHash P (Str.ofString "__init__")) (Value.str (Str.ofString "__init__") 216) (Value.ref 35), DictEntry.mk (PyData.keyHash P (Str.ofString "__static_attributes__")) (Value.str (Str.ofString "__static_attributes__") 219) (Value.ref 36), DictEntry.mk (PyData.keyHash P (Str.ofString "__weakref__")) (Value.str (Str.ofString "__weakref__") 221) (Value.ref 39), DictEntry.mk (PyData.keyHash P (Str.ofString "__doc__")) (Value.str (Str.ofString "__doc__") 222) Value.none] 3) #[]) ::
  (nat_lit 38, Obj.mk (Value.type "type") none (Data.cls (ClassData.mk (Str.ofString "LispSignal") [Value.type "Exception"] [Value.ref 38, Value.type "Exception", Value.type "BaseException", Value.type "object"] 37 (Str.ofString "LispSignal") true [] [] false none false)) #[some (Value.ref 22), none, some (Value.str (Str.ofString "LispSignal") 196), some (Value.str (Str.ofString "LispSignal") 204), some (Value.builtin "Exception.__new__"), some (Value.bool true)]) ::
  (nat_lit 39, Obj.mk (Value.type "getset_descriptor") none (Data.fields #[Value.str (Str.ofString "__weakref__") 220, Value.ref 38, Value.builtin "ExceptionGroup.__weakref__", Value.none]) #[]) ::
  (nat_lit 47, Obj.mk (Value.type "code") none (Data.fields #[Value.str (Str.ofString "need_writable") 229, Value.str (Str.ofString "need_writable") 230, Value.str (Str.ofString "/claim/cut.py") 231, Value.int 11 0, Value.int 1 0, Value.int 0 0, Value.int 0 0, Value.int 3 0, Value.ref 42, Value.bool true, Value.int 181 0, Value.ref 43, Value.none, Value.ref 44, Value.ref 45, Value.ref 46, Value.int 233 0, Value.int 11 0, Value.str (Str.ofString "/claim/cut.py") 234]) #[]) ::
  (nat_lit 48, Obj.mk (Value.type "function") none (Data.func (FuncData.mk (Str.ofString "need_writable") (Str.ofString "need_writable") (fA (fT 4)) (FuncBody.stmts (fB (fT 4))) (fS (fT 4)) 3 [] Value.none Value.none Value.none (Value.str (Str.ofString "emacs.editing") 227) none (Value.ref 47) Value.none 0)) #[]) ::
  (nat_lit 54, Obj.mk (Value.type "code") none (Data.fields #[Value.str (Str.ofString "reached") 236, Value.str (Str.ofString "reached") 237, Value.str (Str.ofString "/claim/cut.py") 238, Value.int 14 0, Value.int 3 0, Value.int 0 0, Value.int 0 0, Value.int 3 0, Value.ref 49, Value.bool true, Value.int 181 0, Value.ref 50, Value.none, Value.ref 51, Value.ref 52, Value.ref 53, Value.int 244 0, Value.int 14 0, Value.str (Str.ofString "/claim/cut.py") 245]) #[]) ::
  (nat_lit 55, Obj.mk (Value.type "function") none (Data.func (FuncData.mk (Str.ofString "reached") (Str.ofString "reached") (fA (fT 5)) (FuncBody.stmts (fB (fT 5))) (fS (fT 5)) 3 [] Value.none Value.none Value.none (Value.str (Str.ofString "emacs.editing") 227) none (Value.ref 54) Value.none 0)) #[]) ::
  (nat_lit 61, Obj.mk (Value.type "code") none (Data.fields #[Value.str (Str.ofString "tell_ahead") 247, Value.str (Str.ofString "tell_ahead") 248, Value.str (Str.ofString "/claim/cut.py") 249, Value.int 19 0, Value.int 3 0, Value.int 0 0, Value.int 0 0, Value.int 3 0, Value.ref 56, Value.bool true, Value.int 181 0, Value.ref 57, Value.none, Value.ref 58, Value.ref 59, Value.ref 60, Value.int 254 0, Value.int 19 0, Value.str (Str.ofString "/claim/cut.py") 255]) #[]) ::
  (nat_lit 62, Obj.mk (Value.type "function") none (Data.func (FuncData.mk (Str.ofString "tell_ahead") (Str.ofString "tell_ahead") (fA (fT 6)) (FuncBody.stmts (fB (fT 6))) (fS (fT 6)) 3 [] Value.none Value.none Value.none (Value.str (Str.ofString "emacs.editing") 227) none (Value.ref 61) Value.none 0)) #[]) ::
  (nat_lit 68, Obj.mk (Value.type "code") none (Data.fields #[Value.str (Str.ofString "tell_behind") 257, Value.str (Str.ofString "tell_behind") 258, Value.str (Str.ofString "/claim/cut.py") 259, Value.int 22 0, Value.int 4 0, Value.int 0 0, Value.int 0 0, Value.int 3 0, Value.ref 63, Value.bool true, Value.int 181 0, Value.ref 64, Value.none, Value.ref 65, Value.ref 66, Value.ref 67, Value.int 265 0, Value.int 22 0, Value.str (Str.ofString "/claim/cut.py") 266]) #[]) ::
  (nat_lit 69, Obj.mk (Value.type "function") none (Data.func (FuncData.mk (Str.ofString "tell_behind") (Str.ofString "tell_behind") (fA (fT 7)) (FuncBody.stmts (fB (fT 7))) (fS (fT 7)) 3 [] Value.none Value.none Value.none (Value.str (Str.ofString "emacs.editing") 227) none (Value.ref 68) Value.none 0)) #[]) ::
  (nat_lit 75, Obj.mk (Value.type "code") none (Data.fields #[Value.str (Str.ofString "text_out") 268, Value.str (Str.ofString "text_out") 269, Value.str (Str.ofString "/claim/cut.py") 270, Value.int 26 0, Value.int 3 0, Value.int 0 0, Value.int 0 0, Value.int 3 0, Value.ref 70, Value.bool true, Value.int 181 0, Value.ref 71, Value.none, Value.ref 72, Value.ref 73, Value.ref 74, Value.int 275 0, Value.int 26 0, Value.str (Str.ofString "/claim/cut.py") 276]) #[]) ::
  (nat_lit 76, Obj.mk (Value.type "function") none (Data.func (FuncData.mk (Str.ofString "text_out") (Str.ofString "text_out") (fA (fT 8)) (FuncBody.stmts (fB (fT 8))) (fS (fT 8)) 3 [] Value.none Value.none Value.none (Value.str (Str.ofString "emacs.editing") 227) none (Value.ref 75) Value.none 0)) #[]) ::
  (nat_lit 82, Obj.mk (Value.type "code") none (Data.fields #[Value.str (Str.ofString "text_in") 278, Value.str (Str.ofString "text_in") 279, Value.str (Str.ofString "/claim/cut.py") 280, Value.int 34 0, Value.int 3 0, Value.int 0 0, Value.int 0 0, Value.int 3 0, Value.ref 77, Value.bool true, Value.int 181 0, Value.ref 78, Value.none, Value.ref 79, Value.ref 80, Value.ref 81, Value.int 284 0, Value.int 34 0, Value.str (Str.ofString "/claim/cut.py") 285]) #[]) ::
  (nat_lit 83, Obj.mk (Value.type "function") none (Data.func (FuncData.mk (Str.ofString "text_in") (Str.ofString "text_in") (fA (fT 9)) (FuncBody.stmts (fB (fT 9))) (fS (fT 9)) 3 [] Value.none Value.none Value.none (Value.str (Str.ofString "emacs.editing") 227) none (Value.ref 82) Value.none 0)) #[]) ::
  (nat_lit 89, Obj.mk (Value.type "code") none (Data.fields #[Value.str (Str.ofString "hung_out") 287, Value.str (Str.ofString "hung_out") 288, Value.str (Str.ofString "/claim/cut.py") 289, Value.int 41 0, Value.int 3 0, Value.int 0 0, Value.int 0 0, Value.int 3 0, Value.ref 84, Value.bool true, Value.int 181 0, Value.ref 85, Value.none, Value.ref 86, Value.ref 87, Value.ref 88, Value.int 293 0, Value.int 41 0, Value.str (Str.ofString "/claim/cut.py") 294]) #[]) ::
  (nat_lit 90, Obj.mk (Value.type "function") none (Data.func (FuncData.mk (Str.ofString "hung_out") (Str.ofString "hung_out") (fA (fT 10)) (FuncBody.stmts (fB (fT 10))) (fS (fT 10)) 3 [] Value.none Value.none Value.none (Value.str (Str.ofString "emacs.editing") 227) none (Value.ref 89) Value.none 0)) #[]) ::
  (nat_lit 96, Obj.mk (Value.type "code") none (Data.fields #[Value.str (Str.ofString "hung_in") 296, Value.str (Str.ofString "hung_in") 297, Value.str (Str.ofString "/claim/cut.py") 298, Value.int 46 0, Value.int 4 0, Value.int 0 0, Value.int 0 0, Value.int 3 0, Value.ref 91, Value.bool true, Value.int 181 0, Value.ref 92, Value.none, Value.ref 93, Value.ref 94, Value.ref 95, Value.int 303 0, Value.int 46 0, Value.str (Str.ofString "/claim/cut.py") 304]) #[]) ::
  (nat_lit 97, Obj.mk (Value.type "function") none (Data.func (FuncData.mk (Str.ofString "hung_in") (Str.ofString "hung_in") (fA (fT 11)) (FuncBody.stmts (fB (fT 11))) (fS (fT 11)) 3 [] Value.none Value.none Value.none (Value.str (Str.ofString "emacs.editing") 227) none (Value.ref 96) Value.none 0)) #[]) ::
  (nat_lit 103, Obj.mk (Value.type "code") none (Data.fields #[Value.str (Str.ofString "put_in") 306, Value.str (Str.ofString "put_in") 307, Value.str (Str.ofString "/claim/cut.py") 308, Value.int 51 0, Value.int 5 0, Value.int 0 0, Value.int 0 0, Value.int 3 0, Value.ref 98, Value.bool true, Value.int 181 0, Value.ref 99, Value.none, Value.ref 100, Value.ref 101, Value.ref 102, Value.int 314 0, Value.int 51 0, Value.str (Str.ofString "/claim/cut.py") 315]) #[]) ::
  (nat_lit 104, Obj.mk (Value.type "function") none (Data.func (FuncData.mk (Str.ofString "put_in") (Str.ofString "put_in") (fA (fT 12)) (FuncBody.stmts (fB (fT 12))) (fS (fT 12)) 3 [] Value.none Value.none Value.none (Value.str (Str.ofString "emacs.editing") 227) none (Value.ref 103) Value.none 0)) #[]) ::
  (nat_lit 105, Obj.mk (Value.type "tuple") none (Data.seq #[Value.bool false]) #[]) ::
  (nat_lit 111, Obj.mk (Value.type "code") none (Data.fields #[Value.str (Str.ofString "insert_at") 317, Value.str (Str.ofString "insert_at") 318, Value.str (Str.ofString "/claim/cut.py") 319, Value.int 63 0, Value.int 4 0, Value.int 0 0, Value.int 0 0, Value.int 3 0, Value.ref 106, Value.bool true, Value.int 181 0, Value.ref 107, Value.none, Value.ref 108, Value.ref 109, Value.ref 110, Value.int 324 0, Value.int 63 0, Value.str (Str.ofString "/claim/cut.py") 325]) #[]) ::
  (nat_lit 112, Obj.mk (Value.type "function") none (Data.func (FuncData.mk (Str.ofString "insert_at") (Str.ofString "insert_at") (fA (fT 13)) (FuncBody.stmts (fB (fT 13))) (fS (fT 13)) 3 [] (Value.ref 105) Value.none Value.none (Value.str (Str.ofString "emacs.editing") 227) none (Value.ref 111) Value.none 0)) #[]) ::
  (nat_lit 113, Obj.mk (Value.type "tuple") none (Data.seq #[Value.bool false]) #[]) ::
  (nat_lit 119, Obj.mk (Value.type "code") none (Data.fields #[Value.str (Str.ofString "insert") 327, Value.str (Str.ofString "insert") 328, Value.str (Str.ofString "/claim/cut.py") 329, Value.int 65 0, Value.int 3 0, Value.int 0 0, Value.int 0 0, Value.int 3 0, Value.ref 114, Value.bool true, Value.int 181 0, Value.ref 115, Value.none, Value.ref 116, Value.ref 117, Value.ref 118, Value.int 333 0, Value.int 65 0, Value.str (Str.ofString "/claim/cut.py") 334]) #[]) ::
  (nat_lit 120, Obj.mk (Value.type "function") none (Data.func (FuncData.mk (Str.ofString "insert") (Str.ofString "insert") (fA (fT 14)) (FuncBody.stmts (fB (fT 14))) (fS (fT 14)) 3 [] (Value.ref 113) Value.none Value.none (Value.str (Str.ofString "emacs.editing") 227) none (Value.ref 119) Value.none 0)) #[]) ::
  (nat_lit 126, Obj.mk (Value.type "code") none (Data.fields #[Value.str (Str.ofString "delete") 336, Value.str (Str.ofString "delete") 337, Value.str (Str.ofString "/claim/cut.py") 338, Value.int 67 0, Value.int 3 0, Value.int 0 0, Value.int 0 0, Value.int 3 0, Value.ref 121, Value.bool true, Value.int 181 0, Value.ref 122, Value.none, Value.ref 123, Value.ref 124, Value.ref 125, Value.int 345 0, Value.int 67 0, Value.str (Str.ofString "/claim/cut.py") 346]) #[]) ::
  (nat_lit 127, Obj.mk (Value.type "function") none (Data.func (FuncData.mk (Str.ofString "delete") (Str.ofString "delete") (fA (fT 15)) (FuncBody.stmts (fB (fT 15))) (fS (fT 15)) 3 [] Value.none Value.none Value.none (Value.str (Str.ofString "emacs.editing") 227) none (Value.ref 126) Value.none 0)) #[]) ::
  (nat_lit 133, Obj.mk (Value.type "code") none (Data.fields #[Value.str (Str.ofString "replace") 348, Value.str (Str.ofString "replace") 349, Value.str (Str.ofString "/claim/cut.py") 350, Value.int 78 0, Value.int 4 0, Value.int 0 0, Value.int 0 0, Value.int 3 0, Value.ref 128, Value.bool true, Value.int 181 0, Value.ref 129, Value.none, Value.ref 130, Value.ref 131, Value.ref 132, Value.int 359 0, Value.int 78 0, Value.str (Str.ofString "/claim/cut.py") 360]) #[]) ::
  (nat_lit 134, Obj.mk (Value.type "function") none (Data.func (FuncData.mk (Str.ofString "replace") (Str.ofString "replace") (fA (fT 16)) (FuncBody.stmts (fB (fT 16))) (fS (fT 16)) 3 [] Value.none Value.none Value.none (Value.str (Str.ofString "emacs.editing") 227) none (Value.ref 133) Value.none 0)) #[]) ::
  (nat_lit 147, Obj.mk (Value.type "code") none (Data.fields #[Value.str (Str.ofString "__init__") 380, Value.str (Str.ofString "Plain.__init__") 381, Value.str (Str.ofString "/claim/cut.py") 382, Value.int 102 0, Value.int 2 0, Value.int 0 0, Value.int 0 0, Value.int 3 0, Value.ref 142, Value.bool true, Value.int 181 0, Value.ref 143, Value.none, Value.ref 144, Value.ref 145, Value.ref 146, Value.int 385 0, Value.int 102 0, Value.str (Str.ofString "/claim/cut.py") 386]) #[]) ::
  (nat_lit 148, Obj.mk (Value.type "function") none (Data.func (FuncData.mk (Str.ofString "__init__") (Str.ofString "Plain.__init__") (fA (fC 20 0)) (FuncBody.stmts (fB (fC 20 0))) (fS (fC 20 0)) 3 [] Value.none Value.none Value.none (Value.str (Str.ofString "emacs.queryreplace") 362) none (Value.ref 147) Value.none 0)) #[]) ::
  (nat_lit 154, Obj.mk (Value.type "code") none (Data.fields #[Value.str (Str.ofString "made") 388, Value.str (Str.ofString "Plain.made") 389, Value.str (Str.ofString "/claim/cut.py") 390, Value.int 105 0, Value.int 4 0, Value.int 0 0, Value.int 0 0, Value.int 3 0, Value.ref 149, Value.bool true, Value.int 181 0, Value.ref 150, Value.none, Value.ref 151, Value.ref 152, Value.ref 153, Value.int 395 0, Value.int 105 0, Value.str (Str.ofString "/claim/cut.py") 396]) #[]) ::
  (nat_lit 155, Obj.mk (Value.type "function") none (Data.func (FuncData.mk (Str.ofString "made") (Str.ofString "Plain.made") (fA (fC 20 1)) (FuncBody.stmts (fB (fC 20 1))) (fS (fC 20 1)) 3 [] Value.none Value.none Value.none (Value.str (Str.ofString "emacs.queryreplace") 362) none (Value.ref 154) Value.none 0)) #[]) ::
  (nat_lit 157, Obj.mk (Value.type "dict") none (Data.dict #[DictEntry.mk (PyData.keyHash P (Str.ofString "__module__")) (Value.str (Str.ofString "__module__") 375) (Value.str (Str.ofString "emacs.queryreplace") 362), DictEntry.mk (PyData.keyHash P (Str.ofString "__firstlineno__")) (Value.str (Str.ofString "__firstlineno__") 379) (Value.int 100 378), DictEntry.mk (PyData.keyHash P (Str.ofString "__init__")) (Value.str (Str.ofString "__init__") 387) (Value.ref 148), DictEntry.mk (PyData.keyHash P (Str.ofString "made")) (Value.str (Str.ofString "made") 397) (Value.ref 155), DictEntry.mk (PyData.keyHash P (Str.ofString "__static_attributes__")) (Value.str (Str.ofString "__static_attributes__") 399) (Value.ref 156), DictEntry.mk (PyData.keyHash P (Str.ofString "__dict__")) (Value.str (Str.ofString "__dict__") 401) (Value.ref 159), DictEntry.mk (PyData.keyHash P (Str.ofString "__weakref__")) (Value.str (Str.ofString "__weakref__") 403) (Value.ref 160), DictEntry.mk (PyData.keyHash P (Str.ofString "__doc__")) (Value.str (Str.ofString "__doc__") 404) Value.none] 4) #[]) ::
  (nat_lit 158, Obj.mk (Value.type "type") none (Data.cls (ClassData.mk (Str.ofString "Plain") [Value.type "object"] [Value.ref 158, Value.type "object"] 157 (Str.ofString "Plain") true [] [] false none false)) #[none, none, some (Value.str (Str.ofString "Plain") 368), some (Value.str (Str.ofString "Plain") 376), some (Value.builtin "object.__new__"), some (Value.bool true)]) ::
  (nat_lit 159, Obj.mk (Value.type "getset_descriptor") none (Data.fields #[Value.str (Str.ofString "__dict__") 400, Value.ref 158, Value.builtin "function.__dict__", Value.builtin "function.__dict__#set"]) #[]) ::
  (nat_lit 160, Obj.mk (Value.type "getset_descriptor") none (Data.fields #[Value.str (Str.ofString "__weakref__") 402, Value.ref 158, Value.builtin "ExceptionGroup.__weakref__", Value.none]) #[]) ::
  (nat_lit 175, Obj.mk (Value.type "code") none (Data.fields #[Value.str (Str.ofString "__init__") 419, Value.str (Str.ofString "Step.__init__") 420, Value.str (Str.ofString "/claim/cut.py") 421, Value.int 109 0, Value.int 5 0, Value.int 0 0, Value.int 0 0, Value.int 3 0, Value.ref 170, Value.bool true, Value.int 181 0, Value.ref 171, Value.none, Value.ref 172, Value.ref 173, Value.ref 174, Value.int 427 0, Value.int 109 0, Value.str (Str.ofString "/claim/cut.py") 428]) #[]) ::
  (nat_lit 176, Obj.mk (Value.type "function") none (Data.func (FuncData.mk (Str.ofString "__init__") (Str.ofString "Step.__init__") (fA (fC 21 0)) (FuncBody.stmts (fB (fC 21 0))) (fS (fC 21 0)) 3 [] Value.none Value.none Value.none (Value.str (Str.ofString "emacs.queryreplace") 362) none (Value.ref 175) Value.none 0)) #[]) ::
  (nat_lit 178, Obj.mk (Value.type "dict") none (Data.dict #[DictEntry.mk (PyData.keyHash P (Str.ofString "__module__")) (Value.str (Str.ofString "__module__") 414) (Value.str (Str.ofString "emacs.queryreplace") 362), DictEntry.mk (PyData.keyHash P (Str.ofString "__firstlineno__")) (Value.str (Str.ofString "__firstlineno__") 418) (Value.int 107 417), DictEntry.mk (PyData.keyHash P (Str.ofString "__init__")) (Value.str (Str.ofString "__init__") 429) (Value.ref 176), DictEntry.mk (PyData.keyHash P (Str.ofString "__static_attributes__")) (Value.str (Str.ofString "__static_attributes__") 434) (Value.ref 177), DictEntry.mk (PyData.keyHash P (Str.ofString "__dict__")) (Value.str (Str.ofString "__dict__") 436) (Value.ref 180), DictEntry.mk (PyData.keyHash P (Str.ofString "__weakref__")) (Value.str (Str.ofString "__weakref__") 438) (Value.ref 181), DictEntry.mk (PyData.keyHash P (Str.ofString "__doc__")) (Value.str (Str.ofString "__doc__") 439) Value.none] 4) #[]) ::
  (nat_lit 179, Obj.mk (Value.type "type") none (Data.cls (ClassData.mk (Str.ofString "Step") [Value.type "object"] [Value.ref 179, Value.type "object"] 178 (Str.ofString "Step") true [] [] false none false)) #[none, none, some (Value.str (Str.ofString "Step") 407), some (Value.str (Str.ofString "Step") 415), some (Value.builtin "object.__new__"), some (Value.bool true)]) ::
  (nat_lit 180, Obj.mk (Value.type "getset_descriptor") none (Data.fields #[Value.str (Str.ofString "__dict__") 435, Value.ref 179, Value.builtin "function.__dict__", Value.builtin "function.__dict__#set"]) #[]) ::
  (nat_lit 181, Obj.mk (Value.type "getset_descriptor") none (Data.fields #[Value.str (Str.ofString "__weakref__") 437, Value.ref 179, Value.builtin "ExceptionGroup.__weakref__", Value.none]) #[]) ::
  (nat_lit 196, Obj.mk (Value.type "code") none (Data.fields #[Value.str (Str.ofString "__init__") 454, Value.str (Str.ofString "Replacing.__init__") 455, Value.str (Str.ofString "/claim/cut.py") 456, Value.int 116 0, Value.int 6 0, Value.int 0 0, Value.int 0 0, Value.int 3 0, Value.ref 191, Value.bool true, Value.int 181 0, Value.ref 192, Value.none, Value.ref 193, Value.ref 194, Value.ref 195, Value.int 465 0, Value.int 116 0, Value.str (Str.ofString "/claim/cut.py") 466]) #[]) ::
  (nat_lit 197, Obj.mk (Value.type "function") none (Data.func (FuncData.mk (Str.ofString "__init__") (Str.ofString "Replacing.__init__") (fA (fC 22 0)) (FuncBody.stmts (fB (fC 22 0))) (fS (fC 22 0)) 3 [] Value.none Value.none Value.none (Value.str (Str.ofString "emacs.queryreplace") 362) none (Value.ref 196) Value.none 0)) #[]) ::
  (nat_lit 203, Obj.mk (Value.type "code") none (Data.fields #[Value.str (Str.ofString "look") 468, Value.str (Str.ofString "Replacing.look") 469, Value.str (Str.ofString "/claim/cut.py") 470, Value.int 130 0, Value.int 3 0, Value.int 0 0, Value.int 0 0, Value.int 3 0, Value.ref 198, Value.bool true, Value.int 181 0, Value.ref 199, Value.none, Value.ref 200, Value.ref 201, Value.ref 202, Value.int 476 0, Value.int 130 0, Value.str (Str.ofString "/claim/cut.py") 477]) #[]) ::
  (nat_lit 204, Obj.mk (Value.type "function") none (Data.func (FuncData.mk (Str.ofString "look") (Str.ofString "Replacing.look") (fA (fC 22 1)) (FuncBody.stmts (fB (fC 22 1))) (fS (fC 22 1)) 3 [] Value.none Value.none Value.none (Value.str (Str.ofString "emacs.queryreplace") 362) none (Value.ref 203) Value.none 0)) #[]) ::
  (nat_lit 210, Obj.mk (Value.type "code") none (Data.fields #[Value.str (Str.ofString "put_new") 479, Value.str (Str.ofString "Replacing.put_new") 480, Value.str (Str.ofString "/claim/cut.py") 481, Value.int 141 0, Value.int 1 0, Value.int 0 0, Value.int 0 0, Value.int 3 0, Value.ref 205, Value.bool true, Value.int 181 0, Value.ref 206, Value.none, Value.ref 207, Value.ref 208, Value.ref 209, Value.int 485 0, Value.int 141 0, Value.str (Str.ofString "/claim/cut.py") 486]) #[]) ::
  (nat_lit 211, Obj.mk (Value.type "function") none (Data.func (FuncData.mk (Str.ofString "put_new") (Str.ofString "Replacing.put_new") (fA (fC 22 2)) (FuncBody.stmts (fB (fC 22 2))) (fS (fC 22 2)) 3 [] Value.none Value.none Value.none (Value.str (Str.ofString "emacs.queryreplace") 362) none (Value.ref 210) Value.none 0)) #[]) ::
  (nat_lit 217, Obj.mk (Value.type "code") none (Data.fields #[Value.str (Str.ofString "go_on") 488, Value.str (Str.ofString "Replacing.go_on") 489, Value.str (Str.ofString "/claim/cut.py") 490, Value.int 154 0, Value.int 1 0, Value.int 0 0, Value.int 0 0, Value.int 3 0, Value.ref 212, Value.bool true, Value.int 181 0, Value.ref 213, Value.none, Value.ref 214, Value.ref 215, Value.ref 216, Value.int 494 0, Value.int 154 0, Value.str (Str.ofString "/claim/cut.py") 495]) #[]) ::
  (nat_lit 218, Obj.mk (Value.type "function") none (Data.func (FuncData.mk (Str.ofString "go_on") (Str.ofString "Replacing.go_on") (fA (fC 22 3)) (FuncBody.stmts (fB (fC 22 3))) (fS (fC 22 3)) 3 [] Value.none Value.none Value.none (Value.str (Str.ofString "emacs.queryreplace") 362) none (Value.ref 217) Value.none 0)) #[]) ::
  (nat_lit 224, Obj.mk (Value.type "code") none (Data.fields #[Value.str (Str.ofString "put_all") 497, Value.str (Str.ofString "Replacing.put_all") 498, Value.str (Str.ofString "/claim/cut.py") 499, Value.int 161 0, Value.int 1 0, Value.int 0 0, Value.int 0 0, Value.int 3 0, Value.ref 219, Value.bool true, Value.int 181 0, Value.ref 220, Value.none, Value.ref 221, Value.ref 222, Value.ref 223, Value.int 501 0, Value.int 161 0, Value.str (Str.ofString "/claim/cut.py") 502]) #[]) ::
  (nat_lit 225, Obj.mk (Value.type "function") none (Data.func (FuncData.mk (Str.ofString "put_all") (Str.ofString "Replacing.put_all") (fA (fC 22 4)) (FuncBody.stmts (fB (fC 22 4))) (fS (fC 22 4)) 3 [] Value.none Value.none Value.none (Value.str (Str.ofString "emacs.queryreplace") 362) none (Value.ref 224) Value.none 0)) #[]) ::
  (nat_lit 231, Obj.mk (Value.type "code") none (Data.fields #[Value.str (Str.ofString "go_back") 504, Value.str (Str.ofString "Replacing.go_back") 505, Value.str (Str.ofString "/claim/cut.py") 506, Value.int 166 0, Value.int 1 0, Value.int 0 0, Value.int 0 0, Value.int 3 0, Value.ref 226, Value.bool true, Value.int 181 0, Value.ref 227, Value.none, Value.ref 228, Value.ref 229, Value.ref 230, Value.int 510 0, Value.int 166 0, Value.str (Str.ofString "/claim/cut.py") 511]) #[]) ::
  (nat_lit 232, Obj.mk (Value.type "function") none (Data.func (FuncData.mk (Str.ofString "go_back") (Str.ofString "Replacing.go_back") (fA (fC 22 5)) (FuncBody.stmts (fB (fC 22 5))) (fS (fC 22 5)) 3 [] Value.none Value.none Value.none (Value.str (Str.ofString "emacs.queryreplace") 362) none (Value.ref 231) Value.none 0)) #[]) ::
  (nat_lit 238, Obj.mk (Value.type "code") none (Data.fields #[Value.str (Str.ofString "take_back") 513, Value.str (Str.ofString "Replacing.take_back") 514, Value.str (Str.ofString "/claim/cut.py") 515, Value.int 179 0, Value.int 1 0, Value.int 0 0, Value.int 0 0, Value.int 3 0, Value.ref 233, Value.bool true, Value.int 181 0, Value.ref 234, Value.none, Value.ref 235, Value.ref 236, Value.ref 237, Value.int 519 0, Value.int 179 0, Value.str (Str.ofString "/claim/cut.py") 520]) #[]) ::
  (nat_lit 239, Obj.mk (Value.type "function") none (Data.func (FuncData.mk (Str.ofString "take_back") (Str.ofString "Replacing.take_back") (fA (fC 22 6)) (FuncBody.stmts (fB (fC 22 6))) (fS (fC 22 6)) 3 [] Value.none Value.none Value.none (Value.str (Str.ofString "emacs.queryreplace") 362) none (Value.ref 238) Value.none 0)) #[]) ::
  (nat_lit 245, Obj.mk (Value.type "code") none (Data.fields #[Value.str (Str.ofString "take_out") 522, Value.str (Str.ofString "Replacing.take_out") 523, Value.str (Str.ofString "/claim/cut.py") 524, Value.int 196 0, Value.int 1 0, Value.int 0 0, Value.int 0 0, Value.int 3 0, Value.ref 240, Value.bool true, Value.int 181 0, Value.ref 241, Value.none, Value.ref 242, Value.ref 243, Value.ref 244, Value.int 527 0, Value.int 196 0, Value.str (Str.ofString "/claim/cut.py") 528]) #[]) ::
  (nat_lit 246, Obj.mk (Value.type "function") none (Data.func (FuncData.mk (Str.ofString "take_out") (Str.ofString "Replacing.take_out") (fA (fC 22 7)) (FuncBody.stmts (fB (fC 22 7))) (fS (fC 22 7)) 3 [] Value.none Value.none Value.none (Value.str (Str.ofString "emacs.queryreplace") 362) none (Value.ref 245) Value.none 0)) #[]) ::
  (nat_lit 252, Obj.mk (Value.type "code") none (Data.fields #[Value.str (Str.ofString "answer") 530, Value.str (Str.ofString "Replacing.answer") 531, Value.str (Str.ofString "/claim/cut.py") 532, Value.int 202 0, Value.int 2 0, Value.int 0 0, Value.int 0 0, Value.int 3 0, Value.ref 247, Value.bool true, Value.int 181 0, Value.ref 248, Value.none, Value.ref 249, Value.ref 250, Value.ref 251, Value.int 535 0, Value.int 202 0, Value.str (Str.ofString "/claim/cut.py") 536]) #[]) ::
  (nat_lit 253, Obj.mk (Value.type "function") none (Data.func (FuncData.mk (Str.ofString "answer") (Str.ofString "Replacing.answer") (fA (fC 22 8)) (FuncBody.stmts (fB (fC 22 8))) (fS (fC 22 8)) 3 [] Value.none Value.none Value.none (Value.str (Str.ofString "emacs.queryreplace") 362) none (Value.ref 252) Value.none 0)) #[]) ::
  (nat_lit 259, Obj.mk (Value.type "code") none (Data.fields #[Value.str (Str.ofString "other") 538, Value.str (Str.ofString "Replacing.other") 539, Value.str (Str.ofString "/claim/cut.py") 540, Value.int 225 0, Value.int 2 0, Value.int 0 0, Value.int 0 0, Value.int 3 0, Value.ref 254, Value.bool true, Value.int 181 0, Value.ref 255, Value.none, Value.ref 256, Value.ref 257, Value.ref 258, Value.int 544 0, Value.int 225 0, Value.str (Str.ofString "/claim/cut.py") 545]) #[]) ::
  (nat_lit 260, Obj.mk (Value.type "function") none (Data.func (FuncData.mk (Str.ofString "other") (Str.ofString "Replacing.other") (fA (fC 22 9)) (FuncBody.stmts (fB (fC 22 9))) (fS (fC 22 9)) 3 [] Value.none Value.none Value.none (Value.str (Str.ofString "emacs.queryreplace") 362) none (Value.ref 259) Value.none 0)) #[]) ::
  (nat_lit 262, Obj.mk (Value.type "dict") none (Data.dict #[DictEntry.mk (PyData.keyHash P (Str.ofString "__module__")) (Value.str (Str.ofString "__module__") 449) (Value.str (Str.ofString "emacs.queryreplace") 362), DictEntry.mk (PyData.keyHash P (Str.ofString "__firstlineno__")) (Value.str (Str.ofString "__firstlineno__") 453) (Value.int 114 452), DictEntry.mk (PyData.keyHash P (Str.ofString "__init__")) (Value.str (Str.ofString "__init__") 467) (Value.ref 197), DictEntry.mk (PyData.keyHash P (Str.ofString "look")) (Value.str (Str.ofString "look") 478) (Value.ref 204), DictEntry.mk (PyData.keyHash P (Str.ofString "put_new")) (Value.str (Str.ofString "put_new") 487) (Value.ref 211), DictEntry.mk (PyData.keyHash P (Str.ofString "go_on")) (Value.str (Str.ofString "go_on") 496) (Value.ref 218), DictEntry.mk (PyData.keyHash P (Str.ofString "put_all")) (Value.str (Str.ofString "put_all") 503) (Value.ref 225), DictEntry.mk (PyData.keyHash P (Str.ofString "go_back")) (Value.str (Str.ofString "go_back") 512) (Value.ref 232), DictEntry.mk (PyData.keyHash P (Str.ofString "take_back")) (Value.str (Str.ofString "take_back") 521) (Value.ref 239), DictEntry.mk (PyData.keyHash P (Str.ofString "take_out")) (Value.str (Str.ofString "take_out") 529) (Value.ref 246), DictEntry.mk (PyData.keyHash P (Str.ofString "answer")) (Value.str (Str.ofString "answer") 537) (Value.ref 253), DictEntry.mk (PyData.keyHash P (Str.ofString "other")) (Value.str (Str.ofString "other") 546) (Value.ref 260), DictEntry.mk (PyData.keyHash P (Str.ofString "__static_attributes__")) (Value.str (Str.ofString "__static_attributes__") 557) (Value.ref 261), DictEntry.mk (PyData.keyHash P (Str.ofString "__dict__")) (Value.str (Str.ofString "__dict__") 559) (Value.ref 264), DictEntry.mk (PyData.keyHash P (Str.ofString "__weakref__")) (Value.str (Str.ofString "__weakref__") 561) (Value.ref 265), DictEntry.mk (PyData.keyHash P (Str.ofString "__doc__")) (Value.str (Str.ofString "__doc__") 562) Value.none] 4) #[]) ::
  (nat_lit 263, Obj.mk (Value.type "type") none (Data.cls (ClassData.mk (Str.ofString "Replacing") [Value.type "object"] [Value.ref 263, Value.type "object"] 262 (Str.ofString "Replacing") true [] [] false none false)) #[none, none, some (Value.str (Str.ofString "Replacing") 442), some (Value.str (Str.ofString "Replacing") 450), some (Value.builtin "object.__new__"), some (Value.bool true)]) ::
  (nat_lit 264, Obj.mk (Value.type "getset_descriptor") none (Data.fields #[Value.str (Str.ofString "__dict__") 558, Value.ref 263, Value.builtin "function.__dict__", Value.builtin "function.__dict__#set"]) #[]) ::
  (nat_lit 265, Obj.mk (Value.type "getset_descriptor") none (Data.fields #[Value.str (Str.ofString "__weakref__") 560, Value.ref 263, Value.builtin "ExceptionGroup.__weakref__", Value.none]) #[]) ::
  (nat_lit 280, Obj.mk (Value.type "code") none (Data.fields #[Value.str (Str.ofString "__init__") 579, Value.str (Str.ofString "GapText.__init__") 580, Value.str (Str.ofString "/claim/cut.py") 581, Value.int 239 0, Value.int 3 0, Value.int 0 0, Value.int 0 0, Value.int 3 0, Value.ref 275, Value.bool true, Value.int 181 0, Value.ref 276, Value.none, Value.ref 277, Value.ref 278, Value.ref 279, Value.int 585 0, Value.int 239 0, Value.str (Str.ofString "/claim/cut.py") 586]) #[]) ::
  (nat_lit 281, Obj.mk (Value.type "function") none (Data.func (FuncData.mk (Str.ofString "__init__") (Str.ofString "GapText.__init__") (fA (fC 24 0)) (FuncBody.stmts (fB (fC 24 0))) (fS (fC 24 0)) 3 [] Value.none Value.none Value.none (Value.str (Str.ofString "emacs.gap") 565) none (Value.ref 280) Value.none 0)) #[]) ::
  (nat_lit 287, Obj.mk (Value.type "code") none (Data.fields #[Value.str (Str.ofString "size") 588, Value.str (Str.ofString "GapText.size") 589, Value.str (Str.ofString "/claim/cut.py") 590, Value.int 245 0, Value.int 1 0, Value.int 0 0, Value.int 0 0, Value.int 3 0, Value.ref 282, Value.bool true, Value.int 181 0, Value.ref 283, Value.none, Value.ref 284, Value.ref 285, Value.ref 286, Value.int 592 0, Value.int 245 0, Value.str (Str.ofString "/claim/cut.py") 593]) #[]) ::
  (nat_lit 288, Obj.mk (Value.type "function") none (Data.func (FuncData.mk (Str.ofString "size") (Str.ofString "GapText.size") (fA (fC 24 1)) (FuncBody.stmts (fB (fC 24 1))) (fS (fC 24 1)) 3 [] Value.none Value.none Value.none (Value.str (Str.ofString "emacs.gap") 565) none (Value.ref 287) Value.none 0)) #[]) ::
  (nat_lit 294, Obj.mk (Value.type "code") none (Data.fields #[Value.str (Str.ofString "code") 595, Value.str (Str.ofString "GapText.code") 596, Value.str (Str.ofString "/claim/cut.py") 597, Value.int 248 0, Value.int 2 0, Value.int 0 0, Value.int 0 0, Value.int 3 0, Value.ref 289, Value.bool true, Value.int 181 0, Value.ref 290, Value.none, Value.ref 291, Value.ref 292, Value.ref 293, Value.int 600 0, Value.int 248 0, Value.str (Str.ofString "/claim/cut.py") 601]) #[]) ::
  (nat_lit 295, Obj.mk (Value.type "function") none (Data.func (FuncData.mk (Str.ofString "code") (Str.ofString "GapText.code") (fA (fC 24 2)) (FuncBody.stmts (fB (fC 24 2))) (fS (fC 24 2)) 3 [] Value.none Value.none Value.none (Value.str (Str.ofString "emacs.gap") 565) none (Value.ref 294) Value.none 0)) #[]) ::
  (nat_lit 301, Obj.mk (Value.type "code") none (Data.fields #[Value.str (Str.ofString "codes") 603, Value.str (Str.ofString "GapText.codes") 604, Value.str (Str.ofString "/claim/cut.py") 605, Value.int 253 0, Value.int 3 0, Value.int 0 0, Value.int 0 0, Value.int 3 0, Value.ref 296, Value.bool true, Value.int 181 0, Value.ref 297, Value.none, Value.ref 298, Value.ref 299, Value.ref 300, Value.int 610 0, Value.int 253 0, Value.str (Str.ofString "/claim/cut.py") 611]) #[]) ::
  (nat_lit 302, Obj.mk (Value.type "function") none (Data.func (FuncData.mk (Str.ofString "codes") (Str.ofString "GapText.codes") (fA (fC 24 3)) (FuncBody.stmts (fB (fC 24 3))) (fS (fC 24 3)) 3 [] Value.none Value.none Value.none (Value.str (Str.ofString "emacs.gap") 565) none (Value.ref 301) Value.none 0)) #[]) ::
  (nat_lit 308, Obj.mk (Value.type "code") none (Data.fields #[Value.str (Str.ofString "move_gap") 613, Value.str (Str.ofString "GapText.move_gap") 614, Value.str (Str.ofString "/claim/cut.py") 615, Value.int 261 0, Value.int 2 0, Value.int 0 0, Value.int 0 0, Value.int 3 0, Value.ref 303, Value.bool true, Value.int 181 0, Value.ref 304, Value.none, Value.ref 305, Value.ref 306, Value.ref 307, Value.int 619 0, Value.int 261 0, Value.str (Str.ofString "/claim/cut.py") 620]) #[]) ::
  (nat_lit 309, Obj.mk (Value.type "function") none (Data.func (FuncData.mk (Str.ofString "move_gap") (Str.ofString "GapText.move_gap") (fA (fC 24 4)) (FuncBody.stmts (fB (fC 24 4))) (fS (fC 24 4)) 3 [] Value.none Value.none Value.none (Value.str (Str.ofString "emacs.gap") 565) none (Value.ref 308) Value.none 0)) #[]) ::
  (nat_lit 315, Obj.mk (Value.type "code") none (Data.fields #[Value.str (Str.ofString "widen_gap") 622, Value.str (Str.ofString "GapText.widen_gap") 623, Value.str (Str.ofString "/claim/cut.py") 624, Value.int 272 0, Value.int 2 0, Value.int 0 0, Value.int 0 0, Value.int 3 0, Value.ref 310, Value.bool true, Value.int 181 0, Value.ref 311, Value.none, Value.ref 312, Value.ref 313, Value.ref 314, Value.int 628 0, Value.int 272 0, Value.str (Str.ofString "/claim/cut.py") 629]) #[]) ::
  (nat_lit 316, Obj.mk (Value.type "function") none (Data.func (FuncData.mk (Str.ofString "widen_gap") (Str.ofString "GapText.widen_gap") (fA (fC 24 5)) (FuncBody.stmts (fB (fC 24 5))) (fS (fC 24 5)) 3 [] Value.none Value.none Value.none (Value.str (Str.ofString "emacs.gap") 565) none (Value.ref 315) Value.none 0)) #[]) ::
  (nat_lit 322, Obj.mk (Value.type "code") none (Data.fields #[Value.str (Str.ofString "insert") 631, Value.str (Str.ofString "GapText.insert") 632, Value.str (Str.ofString "/claim/cut.py") 633, Value.int 278 0, Value.int 3 0, Value.int 0 0, Value.int 0 0, Value.int 3 0, Value.ref 317, Value.bool true, Value.int 181 0, Value.ref 318, Value.none, Value.ref 319, Value.ref 320, Value.ref 321, Value.int 637 0, Value.int 278 0, Value.str (Str.ofString "/claim/cut.py") 638]) #[]) ::
  (nat_lit 323, Obj.mk (Value.type "function") none (Data.func (FuncData.mk (Str.ofString "insert") (Str.ofString "GapText.insert") (fA (fC 24 6)) (FuncBody.stmts (fB (fC 24 6))) (fS (fC 24 6)) 3 [] Value.none Value.none Value.none (Value.str (Str.ofString "emacs.gap") 565) none (Value.ref 322) Value.none 0)) #[]) ::
  (nat_lit 329, Obj.mk (Value.type "code") none (Data.fields #[Value.str (Str.ofString "delete") 640, Value.str (Str.ofString "GapText.delete") 641, Value.str (Str.ofString "/claim/cut.py") 642, Value.int 284 0, Value.int 3 0, Value.int 0 0, Value.int 0 0, Value.int 3 0, Value.ref 324, Value.bool true, Value.int 181 0, Value.ref 325, Value.none, Value.ref 326, Value.ref 327, Value.ref 328, Value.int 647 0, Value.int 284 0, Value.str (Str.ofString "/claim/cut.py") 648]) #[]) ::
  (nat_lit 330, Obj.mk (Value.type "function") none (Data.func (FuncData.mk (Str.ofString "delete") (Str.ofString "GapText.delete") (fA (fC 24 7)) (FuncBody.stmts (fB (fC 24 7))) (fS (fC 24 7)) 3 [] Value.none Value.none Value.none (Value.str (Str.ofString "emacs.gap") 565) none (Value.ref 329) Value.none 0)) #[]) ::
  (nat_lit 336, Obj.mk (Value.type "code") none (Data.fields #[Value.str (Str.ofString "put") 650, Value.str (Str.ofString "GapText.put") 651, Value.str (Str.ofString "/claim/cut.py") 652, Value.int 294 0, Value.int 3 0, Value.int 0 0, Value.int 0 0, Value.int 3 0, Value.ref 331, Value.bool true, Value.int 181 0, Value.ref 332, Value.none, Value.ref 333, Value.ref 334, Value.ref 335, Value.int 656 0, Value.int 294 0, Value.str (Str.ofString "/claim/cut.py") 657]) #[]) ::
  (nat_lit 337, Obj.mk (Value.type "function") none (Data.func (FuncData.mk (Str.ofString "put") (Str.ofString "GapText.put") (fA (fC 24 8)) (FuncBody.stmts (fB (fC 24 8))) (fS (fC 24 8)) 3 [] Value.none Value.none Value.none (Value.str (Str.ofString "emacs.gap") 565) none (Value.ref 336) Value.none 0)) #[]) ::
  (nat_lit 343, Obj.mk (Value.type "code") none (Data.fields #[Value.str (Str.ofString "narrow_gap") 659, Value.str (Str.ofString "GapText.narrow_gap") 660, Value.str (Str.ofString "/claim/cut.py") 661, Value.int 297 0, Value.int 1 0, Value.int 0 0, Value.int 0 0, Value.int 3 0, Value.ref 338, Value.bool true, Value.int 181 0, Value.ref 339, Value.none, Value.ref 340, Value.ref 341, Value.ref 342, Value.int 663 0, Value.int 297 0, Value.str (Str.ofString "/claim/cut.py") 664]) #[]) ::
  (nat_lit 344, Obj.mk (Value.type "function") none (Data.func (FuncData.mk (Str.ofString "narrow_gap") (Str.ofString "GapText.narrow_gap") (fA (fC 24 9)) (FuncBody.stmts (fB (fC 24 9))) (fS (fC 24 9)) 3 [] Value.none Value.none Value.none (Value.str (Str.ofString "emacs.gap") 565) none (Value.ref 343) Value.none 0)) #[]) ::
  (nat_lit 350, Obj.mk (Value.type "code") none (Data.fields #[Value.str (Str.ofString "is_whole") 666, Value.str (Str.ofString "GapText.is_whole") 667, Value.str (Str.ofString "/claim/cut.py") 668, Value.int 300 0, Value.int 1 0, Value.int 0 0, Value.int 0 0, Value.int 3 0, Value.ref 345, Value.bool true, Value.int 181 0, Value.ref 346, Value.none, Value.ref 347, Value.ref 348, Value.ref 349, Value.int 670 0, Value.int 300 0, Value.str (Str.ofString "/claim/cut.py") 671]) #[]) ::
  (nat_lit 351, Obj.mk (Value.type "function") none (Data.func (FuncData.mk (Str.ofString "is_whole") (Str.ofString "GapText.is_whole") (fA (fC 24 10)) (FuncBody.stmts (fB (fC 24 10))) (fS (fC 24 10)) 3 [] Value.none Value.none Value.none (Value.str (Str.ofString "emacs.gap") 565) none (Value.ref 350) Value.none 0)) #[]) ::
  (nat_lit 353, Obj.mk (Value.type "dict") none (Data.dict #[DictEntry.mk (PyData.keyHash P (Str.ofString "__module__")) (Value.str (Str.ofString "__module__") 574) (Value.str (Str.ofString "emacs.gap") 565), DictEntry.mk (PyData.keyHash P (Str.ofString "__firstlineno__")) (Value.str (Str.ofString "__firstlineno__") 578) (Value.int 237 577), DictEntry.mk (PyData.keyHash P (Str.ofString "__init__")) (Value.str (Str.ofString "__init__") 587) (Value.ref 281), DictEntry.mk (PyData.keyHash P (Str.ofString "size")) (Value.str (Str.ofString "size") 594) (Value.ref 288), DictEntry.mk (PyData.keyHash P (Str.ofString "code")) (Value.str (Str.ofString "code") 602) (Value.ref 295), DictEntry.mk (PyData.keyHash P (Str.ofString "codes")) (Value.str (Str.ofString "codes") 612) (Value.ref 302), DictEntry.mk (PyData.keyHash P (Str.ofString "move_gap")) (Value.str (Str.ofString "move_gap") 621) (Value.ref 309), DictEntry.mk (PyData.keyHash P (Str.ofString "widen_gap")) (Value.str (Str.ofString "widen_gap") 630) (Value.ref 316), DictEntry.mk (PyData.keyHash P (Str.ofString "insert")) (Value.str (Str.ofString "insert") 639) (Value.ref 323), DictEntry.mk (PyData.keyHash P (Str.ofString "delete")) (Value.str (Str.ofString "delete") 649) (Value.ref 330), DictEntry.mk (PyData.keyHash P (Str.ofString "put")) (Value.str (Str.ofString "put") 658) (Value.ref 337), DictEntry.mk (PyData.keyHash P (Str.ofString "narrow_gap")) (Value.str (Str.ofString "narrow_gap") 665) (Value.ref 344), DictEntry.mk (PyData.keyHash P (Str.ofString "is_whole")) (Value.str (Str.ofString "is_whole") 672) (Value.ref 351), DictEntry.mk (PyData.keyHash P (Str.ofString "__static_attributes__")) (Value.str (Str.ofString "__static_attributes__") 677) (Value.ref 352), DictEntry.mk (PyData.keyHash P (Str.ofString "__dict__")) (Value.str (Str.ofString "__dict__") 679) (Value.ref 355), DictEntry.mk (PyData.keyHash P (Str.ofString "__weakref__")) (Value.str (Str.ofString "__weakref__") 681) (Value.ref 356), DictEntry.mk (PyData.keyHash P (Str.ofString "__doc__")) (Value.str (Str.ofString "__doc__") 682) Value.none] 4) #[]) ::
  (nat_lit 354, Obj.mk (Value.type "type") none (Data.cls (ClassData.mk (Str.ofString "GapText") [Value.type "object"] [Value.ref 354, Value.type "object"] 353 (Str.ofString "GapText") true [] [] false none false)) #[none, none, some (Value.str (Str.ofString "GapText") 567), some (Value.str (Str.ofString "GapText") 575), some (Value.builtin "object.__new__"), some (Value.bool true)]) ::
  (nat_lit 355, Obj.mk (Value.type "getset_descriptor") none (Data.fields #[Value.str (Str.ofString "__dict__") 678, Value.ref 354, Value.builtin "function.__dict__", Value.builtin "function.__dict__#set"]) #[]) ::
  (nat_lit 356, Obj.mk (Value.type "getset_descriptor") none (Data.fields #[Value.str (Str.ofString "__weakref__") 680, Value.ref 354, Value.builtin "ExceptionGroup.__weakref__", Value.none]) #[]) ::
  (nat_lit 371, Obj.mk (Value.type "code") none (Data.fields #[Value.str (Str.ofString "__init__") 699, Value.str (Str.ofString "Markers.__init__") 700, Value.str (Str.ofString "/claim/cut.py") 701, Value.int 305 0, Value.int 1 0, Value.int 0 0, Value.int 0 0, Value.int 3 0, Value.ref 366, Value.bool true, Value.int 181 0, Value.ref 367, Value.none, Value.ref 368, Value.ref 369, Value.ref 370, Value.int 703 0, Value.int 305 0, Value.str (Str.ofString "/claim/cut.py") 704]) #[]) ::
  (nat_lit 372, Obj.mk (Value.type "function") none (Data.func (FuncData.mk (Str.ofString "__init__") (Str.ofString "Markers.__init__") (fA (fC 26 0)) (FuncBody.stmts (fB (fC 26 0))) (fS (fC 26 0)) 3 [] Value.none Value.none Value.none (Value.str (Str.ofString "emacs.markers") 685) none (Value.ref 371) Value.none 0)) #[]) ::
  (nat_lit 378, Obj.mk (Value.type "code") none (Data.fields #[Value.str (Str.ofString "numbers") 706, Value.str (Str.ofString "Markers.numbers") 707, Value.str (Str.ofString "/claim/cut.py") 708, Value.int 308 0, Value.int 1 0, Value.int 0 0, Value.int 0 0, Value.int 3 0, Value.ref 373, Value.bool true, Value.int 181 0, Value.ref 374, Value.none, Value.ref 375, Value.ref 376, Value.ref 377, Value.int 710 0, Value.int 308 0, Value.str (Str.ofString "/claim/cut.py") 711]) #[]) ::
  (nat_lit 379, Obj.mk (Value.type "function") none (Data.func (FuncData.mk (Str.ofString "numbers") (Str.ofString "Markers.numbers") (fA (fC 26 1)) (FuncBody.stmts (fB (fC 26 1))) (fS (fC 26 1)) 3 [] Value.none Value.none Value.none (Value.str (Str.ofString "emacs.markers") 685) none (Value.ref 378) Value.none 0)) #[]) ::
  (nat_lit 385, Obj.mk (Value.type "code") none (Data.fields #[Value.str (Str.ofString "put") 713, Value.str (Str.ofString "Markers.put") 714, Value.str (Str.ofString "/claim/cut.py") 715, Value.int 311 0, Value.int 3 0, Value.int 0 0, Value.int 0 0, Value.int 3 0, Value.ref 380, Value.bool true, Value.int 181 0, Value.ref 381, Value.none, Value.ref 382, Value.ref 383, Value.ref 384, Value.int 719 0, Value.int 311 0, Value.str (Str.ofString "/claim/cut.py") 720]) #[]) ::
  (nat_lit 386, Obj.mk (Value.type "function") none (Data.func (FuncData.mk (Str.ofString "put") (Str.ofString "Markers.put") (fA (fC 26 2)) (FuncBody.stmts (fB (fC 26 2))) (fS (fC 26 2)) 3 [] Value.none Value.none Value.none (Value.str (Str.ofString "emacs.markers") 685) none (Value.ref 385) Value.none 0)) #[]) ::
  (nat_lit 392, Obj.mk (Value.type "code") none (Data.fields #[Value.str (Str.ofString "drop") 722, Value.str (Str.ofString "Markers.drop") 723, Value.str (Str.ofString "/claim/cut.py") 724, Value.int 314 0, Value.int 2 0, Value.int 0 0, Value.int 0 0, Value.int 3 0, Value.ref 387, Value.bool true, Value.int 181 0, Value.ref 388, Value.none, Value.ref 389, Value.ref 390, Value.ref 391, Value.int 727 0, Value.int 314 0, Value.str (Str.ofString "/claim/cut.py") 728]) #[]) ::
  (nat_lit 393, Obj.mk (Value.type "function") none (Data.func (FuncData.mk (Str.ofString "drop") (Str.ofString "Markers.drop") (fA (fC 26 3)) (FuncBody.stmts (fB (fC 26 3))) (fS (fC 26 3)) 3 [] Value.none Value.none Value.none (Value.str (Str.ofString "emacs.markers") 685) none (Value.ref 392) Value.none 0)) #[]) ::
  (nat_lit 399, Obj.mk (Value.type "code") none (Data.fields #[Value.str (Str.ofString "within") 730, Value.str (Str.ofString "Markers.within") 731, Value.str (Str.ofString "/claim/cut.py") 732, Value.int 317 0, Value.int 3 0, Value.int 0 0, Value.int 0 0, Value.int 3 0, Value.ref 394, Value.bool true, Value.int 181 0, Value.ref 395, Value.none, Value.ref 396, Value.ref 397, Value.ref 398, Value.int 738 0, Value.int 317 0, Value.str (Str.ofString "/claim/cut.py") 739]) #[]) ::
  (nat_lit 400, Obj.mk (Value.type "function") none (Data.func (FuncData.mk (Str.ofString "within") (Str.ofString "Markers.within") (fA (fC 26 4)) (FuncBody.stmts (fB (fC 26 4))) (fS (fC 26 4)) 3 [] Value.none Value.none Value.none (Value.str (Str.ofString "emacs.markers") 685) none (Value.ref 399) Value.none 0)) #[]) ::
  (nat_lit 406, Obj.mk (Value.type "code") none (Data.fields #[Value.str (Str.ofString "inserted") 741, Value.str (Str.ofString "Markers.inserted") 742, Value.str (Str.ofString "/claim/cut.py") 743, Value.int 324 0, Value.int 4 0, Value.int 0 0, Value.int 0 0, Value.int 3 0, Value.ref 401, Value.bool true, Value.int 181 0, Value.ref 402, Value.none, Value.ref 403, Value.ref 404, Value.ref 405, Value.int 750 0, Value.int 324 0, Value.str (Str.ofString "/claim/cut.py") 751]) #[]) ::
  (nat_lit 407, Obj.mk (Value.type "function") none (Data.func (FuncData.mk (Str.ofString "inserted") (Str.ofString "Markers.inserted") (fA (fC 26 5)) (FuncBody.stmts (fB (fC 26 5))) (fS (fC 26 5)) 3 [] Value.none Value.none Value.none (Value.str (Str.ofString "emacs.markers") 685) none (Value.ref 406) Value.none 0)) #[]) ::
  (nat_lit 413, Obj.mk (Value.type "code") none (Data.fields #[Value.str (Str.ofString "deleted") 753, Value.str (Str.ofString "Markers.deleted") 754, Value.str (Str.ofString "/claim/cut.py") 755, Value.int 330 0, Value.int 3 0, Value.int 0 0, Value.int 0 0, Value.int 3 0, Value.ref 408, Value.bool true, Value.int 181 0, Value.ref 409, Value.none, Value.ref 410, Value.ref 411, Value.ref 412, Value.int 761 0, Value.int 330 0, Value.str (Str.ofString "/claim/cut.py") 762]) #[]) ::
  (nat_lit 414, Obj.mk (Value.type "function") none (Data.func (FuncData.mk (Str.ofString "deleted") (Str.ofString "Markers.deleted") (fA (fC 26 6)) (FuncBody.stmts (fB (fC 26 6))) (fS (fC 26 6)) 3 [] Value.none Value.none Value.none (Value.str (Str.ofString "emacs.markers") 685) none (Value.ref 413) Value.none 0)) #[]) ::
  (nat_lit 420, Obj.mk (Value.type "code") none (Data.fields #[Value.str (Str.ofString "replaced") 764, Value.str (Str.ofString "Markers.replaced") 765, Value.str (Str.ofString "/claim/cut.py") 766, Value.int 338 0, Value.int 4 0, Value.int 0 0, Value.int 0 0, Value.int 3 0, Value.ref 415, Value.bool true, Value.int 181 0, Value.ref 416, Value.none, Value.ref 417, Value.ref 418, Value.ref 419, Value.int 773 0, Value.int 338 0, Value.str (Str.ofString "/claim/cut.py") 774]) #[]) ::
  (nat_lit 421, Obj.mk (Value.type "function") none (Data.func (FuncData.mk (Str.ofString "replaced") (Str.ofString "Markers.replaced") (fA (fC 26 7)) (FuncBody.stmts (fB (fC 26 7))) (fS (fC 26 7)) 3 [] Value.none Value.none Value.none (Value.str (Str.ofString "emacs.markers") 685) none (Value.ref 420) Value.none 0)) #[]) ::
  (nat_lit 423, Obj.mk (Value.type "dict") none (Data.dict #[DictEntry.mk (PyData.keyHash P (Str.ofString "__module__")) (Value.str (Str.ofString "__module__") 694) (Value.str (Str.ofString "emacs.markers") 685), DictEntry.mk (PyData.keyHash P (Str.ofString "__firstlineno__")) (Value.str (Str.ofString "__firstlineno__") 698) (Value.int 303 697), DictEntry.mk (PyData.keyHash P (Str.ofString "__init__")) (Value.str (Str.ofString "__init__") 705) (Value.ref 372), DictEntry.mk (PyData.keyHash P (Str.ofString "numbers")) (Value.str (Str.ofString "numbers") 712) (Value.ref 379), DictEntry.mk (PyData.keyHash P (Str.ofString "put")) (Value.str (Str.ofString "put") 721) (Value.ref 386), DictEntry.mk (PyData.keyHash P (Str.ofString "drop")) (Value.str (Str.ofString "drop") 729) (Value.ref 393), DictEntry.mk (PyData.keyHash P (Str.ofString "within")) (Value.str (Str.ofString "within") 740) (Value.ref 400), DictEntry.mk (PyData.keyHash P (Str.ofString "inserted")) (Value.str (Str.ofString "inserted") 752) (Value.ref 407), DictEntry.mk (PyData.keyHash P (Str.ofString "deleted")) (Value.str (Str.ofString "deleted") 763) (Value.ref 414), DictEntry.mk (PyData.keyHash P (Str.ofString "replaced")) (Value.str (Str.ofString "replaced") 775) (Value.ref 421), DictEntry.mk (PyData.keyHash P (Str.ofString "__static_attributes__")) (Value.str (Str.ofString "__static_attributes__") 777) (Value.ref 422), DictEntry.mk (PyData.keyHash P (Str.ofString "__dict__")) (Value.str (Str.ofString "__dict__") 779) (Value.ref 425), DictEntry.mk (PyData.keyHash P (Str.ofString "__weakref__")) (Value.str (Str.ofString "__weakref__") 781) (Value.ref 426), DictEntry.mk (PyData.keyHash P (Str.ofString "__doc__")) (Value.str (Str.ofString "__doc__") 782) Value.none] 4) #[]) ::
  (nat_lit 424, Obj.mk (Value.type "type") none (Data.cls (ClassData.mk (Str.ofString "Markers") [Value.type "object"] [Value.ref 424, Value.type "object"] 423 (Str.ofString "Markers") true [] [] false none false)) #[none, none, some (Value.str (Str.ofString "Markers") 687), some (Value.str (Str.ofString "Markers") 695), some (Value.builtin "object.__new__"), some (Value.bool true)]) ::
  (nat_lit 425, Obj.mk (Value.type "getset_descriptor") none (Data.fields #[Value.str (Str.ofString "__dict__") 778, Value.ref 424, Value.builtin "function.__dict__", Value.builtin "function.__dict__#set"]) #[]) ::
  (nat_lit 426, Obj.mk (Value.type "getset_descriptor") none (Data.fields #[Value.str (Str.ofString "__weakref__") 780, Value.ref 424, Value.builtin "ExceptionGroup.__weakref__", Value.none]) #[]) ::
  (nat_lit 441, Obj.mk (Value.type "code") none (Data.fields #[Value.str (Str.ofString "shown") 799, Value.str (Str.ofString "Opaque.shown") 800, Value.str (Str.ofString "/claim/cut.py") 801, Value.int 348 0, Value.int 1 0, Value.int 0 0, Value.int 0 0, Value.int 3 0, Value.ref 436, Value.bool true, Value.int 181 0, Value.ref 437, Value.none, Value.ref 438, Value.ref 439, Value.ref 440, Value.int 803 0, Value.int 348 0, Value.str (Str.ofString "/claim/cut.py") 804]) #[]) ::
  (nat_lit 442, Obj.mk (Value.type "function") none (Data.func (FuncData.mk (Str.ofString "shown") (Str.ofString "Opaque.shown") (fA (fC 28 0)) (FuncBody.stmts (fB (fC 28 0))) (fS (fC 28 0)) 3 [] Value.none Value.none Value.none (Value.str (Str.ofString "emacs.objects") 785) none (Value.ref 441) Value.none 0)) #[]) ::
  (nat_lit 448, Obj.mk (Value.type "code") none (Data.fields #[Value.str (Str.ofString "kind") 806, Value.str (Str.ofString "Opaque.kind") 807, Value.str (Str.ofString "/claim/cut.py") 808, Value.int 351 0, Value.int 1 0, Value.int 0 0, Value.int 0 0, Value.int 3 0, Value.ref 443, Value.bool true, Value.int 181 0, Value.ref 444, Value.none, Value.ref 445, Value.ref 446, Value.ref 447, Value.int 810 0, Value.int 351 0, Value.str (Str.ofString "/claim/cut.py") 811]) #[]) ::
  (nat_lit 449, Obj.mk (Value.type "function") none (Data.func (FuncData.mk (Str.ofString "kind") (Str.ofString "Opaque.kind") (fA (fC 28 1)) (FuncBody.stmts (fB (fC 28 1))) (fS (fC 28 1)) 3 [] Value.none Value.none Value.none (Value.str (Str.ofString "emacs.objects") 785) none (Value.ref 448) Value.none 0)) #[]) ::
  (nat_lit 455, Obj.mk (Value.type "code") none (Data.fields #[Value.str (Str.ofString "same_as") 813, Value.str (Str.ofString "Opaque.same_as") 814, Value.str (Str.ofString "/claim/cut.py") 815, Value.int 354 0, Value.int 2 0, Value.int 0 0, Value.int 0 0, Value.int 3 0, Value.ref 450, Value.bool true, Value.int 181 0, Value.ref 451, Value.none, Value.ref 452, Value.ref 453, Value.ref 454, Value.int 818 0, Value.int 354 0, Value.str (Str.ofString "/claim/cut.py") 819]) #[]) ::
  (nat_lit 456, Obj.mk (Value.type "function") none (Data.func (FuncData.mk (Str.ofString "same_as") (Str.ofString "Opaque.same_as") (fA (fC 28 2)) (FuncBody.stmts (fB (fC 28 2))) (fS (fC 28 2)) 3 [] Value.none Value.none Value.none (Value.str (Str.ofString "emacs.objects") 785) none (Value.ref 455) Value.none 0)) #[]) ::
  (nat_lit 458, Obj.mk (Value.type "dict") none (Data.dict #[DictEntry.mk (PyData.keyHash P (Str.ofString "__module__")) (Value.str (Str.ofString "__module__") 794) (Value.str (Str.ofString "emacs.objects") 785), DictEntry.mk (PyData.keyHash P (Str.ofString "__firstlineno__")) (Value.str (Str.ofString "__firstlineno__") 798) (Value.int 346 797), DictEntry.mk (PyData.keyHash P (Str.ofString "shown")) (Value.str (Str.ofString "shown") 805) (Value.ref 442), DictEntry.mk (PyData.keyHash P (Str.ofString "kind")) (Value.str (Str.ofString "kind") 812) (Value.ref 449), DictEntry.mk (PyData.keyHash P (Str.ofString "same_as")) (Value.str (Str.ofString "same_as") 820) (Value.ref 456), DictEntry.mk (PyData.keyHash P (Str.ofString "__static_attributes__")) (Value.str (Str.ofString "__static_attributes__") 821) (Value.ref 457), DictEntry.mk (PyData.keyHash P (Str.ofString "__dict__")) (Value.str (Str.ofString "__dict__") 823) (Value.ref 460), DictEntry.mk (PyData.keyHash P (Str.ofString "__weakref__")) (Value.str (Str.ofString "__weakref__") 825) (Value.ref 461), DictEntry.mk (PyData.keyHash P (Str.ofString "__doc__")) (Value.str (Str.ofString "__doc__") 826) Value.none] 4) #[]) ::
  (nat_lit 459, Obj.mk (Value.type "type") none (Data.cls (ClassData.mk (Str.ofString "Opaque") [Value.type "object"] [Value.ref 459, Value.type "object"] 458 (Str.ofString "Opaque") true [] [Value.ref 565] false none false)) #[none, none, some (Value.str (Str.ofString "Opaque") 787), some (Value.str (Str.ofString "Opaque") 795), some (Value.builtin "object.__new__"), some (Value.bool true)]) ::
  (nat_lit 460, Obj.mk (Value.type "getset_descriptor") none (Data.fields #[Value.str (Str.ofString "__dict__") 822, Value.ref 459, Value.builtin "function.__dict__", Value.builtin "function.__dict__#set"]) #[]) ::
  (nat_lit 461, Obj.mk (Value.type "getset_descriptor") none (Data.fields #[Value.str (Str.ofString "__weakref__") 824, Value.ref 459, Value.builtin "ExceptionGroup.__weakref__", Value.none]) #[]) ::
  (nat_lit 464, Obj.mk (Value.type "tuple") none (Data.seq #[Value.ref 459]) #[]) ::
  (nat_lit 471, Obj.mk (Value.type "tuple") none (Data.seq #[Value.int 8 843]) #[]) ::
  (nat_lit 477, Obj.mk (Value.type "code") none (Data.fields #[Value.str (Str.ofString "__init__") 844, Value.str (Str.ofString "Buffer.__init__") 845, Value.str (Str.ofString "/claim/cut.py") 846, Value.int 359 0, Value.int 4 0, Value.int 0 0, Value.int 0 0, Value.int 3 0, Value.ref 472, Value.bool true, Value.int 181 0, Value.ref 473, Value.none, Value.ref 474, Value.ref 475, Value.ref 476, Value.int 851 0, Value.int 359 0, Value.str (Str.ofString "/claim/cut.py") 852]) #[]) ::
  (nat_lit 478, Obj.mk (Value.type "function") none (Data.func (FuncData.mk (Str.ofString "__init__") (Str.ofString "Buffer.__init__") (fA (fC 30 0)) (FuncBody.stmts (fB (fC 30 0))) (fS (fC 30 0)) 3 [] (Value.ref 471) Value.none Value.none (Value.str (Str.ofString "emacs.buffer") 829) none (Value.ref 477) Value.none 0)) #[]) ::
  (nat_lit 484, Obj.mk (Value.type "code") none (Data.fields #[Value.str (Str.ofString "shown") 854, Value.str (Str.ofString "Buffer.shown") 855, Value.str (Str.ofString "/claim/cut.py") 856, Value.int 381 0, Value.int 1 0, Value.int 0 0, Value.int 0 0, Value.int 3 0, Value.ref 479, Value.bool true, Value.int 181 0, Value.ref 480, Value.none, Value.ref 481, Value.ref 482, Value.ref 483, Value.int 858 0, Value.int 381 0, Value.str (Str.ofString "/claim/cut.py") 859]) #[]) ::
  (nat_lit 485, Obj.mk (Value.type "function") none (Data.func (FuncData.mk (Str.ofString "shown") (Str.ofString "Buffer.shown") (fA (fC 30 1)) (FuncBody.stmts (fB (fC 30 1))) (fS (fC 30 1)) 3 [] Value.none Value.none Value.none (Value.str (Str.ofString "emacs.buffer") 829) none (Value.ref 484) Value.none 0)) #[]) ::
  (nat_lit 491, Obj.mk (Value.type "code") none (Data.fields #[Value.str (Str.ofString "kind") 861, Value.str (Str.ofString "Buffer.kind") 862, Value.str (Str.ofString "/claim/cut.py") 863, Value.int 384 0, Value.int 1 0, Value.int 0 0, Value.int 0 0, Value.int 3 0, Value.ref 486, Value.bool true, Value.int 181 0, Value.ref 487, Value.none, Value.ref 488, Value.ref 489, Value.ref 490, Value.int 865 0, Value.int 384 0, Value.str (Str.ofString "/claim/cut.py") 866]) #[]) ::
  (nat_lit 492, Obj.mk (Value.type "function") none (Data.func (FuncData.mk (Str.ofString "kind") (Str.ofString "Buffer.kind") (fA (fC 30 2)) (FuncBody.stmts (fB (fC 30 2))) (fS (fC 30 2)) 3 [] Value.none Value.none Value.none (Value.str (Str.ofString "emacs.buffer") 829) none (Value.ref 491) Value.none 0)) #[]) ::
  (nat_lit 498, Obj.mk (Value.type "code") none (Data.fields #[Value.str (Str.ofString "begin") 868, Value.str (Str.ofString "Buffer.begin") 869, Value.str (Str.ofString "/claim/cut.py") 870, Value.int 387 0, Value.int 1 0, Value.int 0 0, Value.int 0 0, Value.int 3 0, Value.ref 493, Value.bool true, Value.int 181 0, Value.ref 494, Value.none, Value.ref 495, Value.ref 496, Value.ref 497, Value.int 872 0, Value.int 387 0, Value.str (Str.ofString "/claim/cut.py") 873]) #[]) ::
  (nat_lit 499, Obj.mk (Value.type "function") none (Data.func (FuncData.mk (Str.ofString "begin") (Str.ofString "Buffer.begin") (fA (fC 30 3)) (FuncBody.stmts (fB (fC 30 3))) (fS (fC 30 3)) 3 [] Value.none Value.none Value.none (Value.str (Str.ofString "emacs.buffer") 829) none (Value.ref 498) Value.none 0)) #[]) ::
  (nat_lit 505, Obj.mk (Value.type "code") none (Data.fields #[Value.str (Str.ofString "end") 875, Value.str (Str.ofString "Buffer.end") 876, Value.str (Str.ofString "/claim/cut.py") 877, Value.int 390 0, Value.int 1 0, Value.int 0 0, Value.int 0 0, Value.int 3 0, Value.ref 500, Value.bool true, Value.int 181 0, Value.ref 501, Value.none, Value.ref 502, Value.ref 503, Value.ref 504, Value.int 879 0, Value.int 390 0, Value.str (Str.ofString "/claim/cut.py") 880]) #[]) ::
  (nat_lit 506, Obj.mk (Value.type "function") none (Data.func (FuncData.mk (Str.ofString "end") (Str.ofString "Buffer.end") (fA (fC 30 4)) (FuncBody.stmts (fB (fC 30 4))) (fS (fC 30 4)) 3 [] Value.none Value.none Value.none (Value.str (Str.ofString "emacs.buffer") 829) none (Value.ref 505) Value.none 0)) #[]) ::
  (nat_lit 512, Obj.mk (Value.type "code") none (Data.fields #[Value.str (Str.ofString "size") 882, Value.str (Str.ofString "Buffer.size") 883, Value.str (Str.ofString "/claim/cut.py") 884, Value.int 393 0, Value.int 1 0, Value.int 0 0, Value.int 0 0, Value.int 3 0, Value.ref 507, Value.bool true, Value.int 181 0, Value.ref 508, Value.none, Value.ref 509, Value.ref 510, Value.ref 511, Value.int 886 0, Value.int 393 0, Value.str (Str.ofString "/claim/cut.py") 887]) #[]) ::
  (nat_lit 513, Obj.mk (Value.type "function") none (Data.func (FuncData.mk (Str.ofString "size") (Str.ofString "Buffer.size") (fA (fC 30 5)) (FuncBody.stmts (fB (fC 30 5))) (fS (fC 30 5)) 3 [] Value.none Value.none Value.none (Value.str (Str.ofString "emacs.buffer") 829) none (Value.ref 512) Value.none 0)) #[]) ::
  (nat_lit 519, Obj.mk (Value.type "code") none (Data.fields #[Value.str (Str.ofString "code_at") 889, Value.str (Str.ofString "Buffer.code_at") 890, Value.str (Str.ofString "/claim/cut.py") 891, Value.int 396 0, Value.int 2 0, Value.int 0 0, Value.int 0 0, Value.int 3 0, Value.ref 514, Value.bool true, Value.int 181 0, Value.ref 515, Value.none, Value.ref 516, Value.ref 517, Value.ref 518, Value.int 894 0, Value.int 396 0, Value.str (Str.ofString "/claim/cut.py") 895]) #[]) ::
  (nat_lit 520, Obj.mk (Value.type "function") none (Data.func (FuncData.mk (Str.ofString "code_at") (Str.ofString "Buffer.code_at") (fA (fC 30 6)) (FuncBody.stmts (fB (fC 30 6))) (fS (fC 30 6)) 3 [] Value.none Value.none Value.none (Value.str (Str.ofString "emacs.buffer") 829) none (Value.ref 519) Value.none 0)) #[]) ::
  (nat_lit 526, Obj.mk (Value.type "code") none (Data.fields #[Value.str (Str.ofString "codes") 897, Value.str (Str.ofString "Buffer.codes") 898, Value.str (Str.ofString "/claim/cut.py") 899, Value.int 401 0, Value.int 3 0, Value.int 0 0, Value.int 0 0, Value.int 3 0, Value.ref 521, Value.bool true, Value.int 181 0, Value.ref 522, Value.none, Value.ref 523, Value.ref 524, Value.ref 525, Value.int 903 0, Value.int 401 0, Value.str (Str.ofString "/claim/cut.py") 904]) #[]) ::
  (nat_lit 527, Obj.mk (Value.type "function") none (Data.func (FuncData.mk (Str.ofString "codes") (Str.ofString "Buffer.codes") (fA (fC 30 7)) (FuncBody.stmts (fB (fC 30 7))) (fS (fC 30 7)) 3 [] Value.none Value.none Value.none (Value.str (Str.ofString "emacs.buffer") 829) none (Value.ref 526) Value.none 0)) #[]) ::
  (nat_lit 533, Obj.mk (Value.type "code") none (Data.fields #[Value.str (Str.ofString "goto") 906, Value.str (Str.ofString "Buffer.goto") 907, Value.str (Str.ofString "/claim/cut.py") 908, Value.int 404 0, Value.int 2 0, Value.int 0 0, Value.int 0 0, Value.int 3 0, Value.ref 528, Value.bool true, Value.int 181 0, Value.ref 529, Value.none, Value.ref 530, Value.ref 531, Value.ref 532, Value.int 911 0, Value.int 404 0, Value.str (Str.ofString "/claim/cut.py") 912]) #[]) ::
  (nat_lit 534, Obj.mk (Value.type "function") none (Data.func (FuncData.mk (Str.ofString "goto") (Str.ofString "Buffer.goto") (fA (fC 30 8)) (FuncBody.stmts (fB (fC 30 8))) (fS (fC 30 8)) 3 [] Value.none Value.none Value.none (Value.str (Str.ofString "emacs.buffer") 829) none (Value.ref 533) Value.none 0)) #[]) ::
  (nat_lit 540, Obj.mk (Value.type "code") none (Data.fields #[Value.str (Str.ofString "tick") 914, Value.str (Str.ofString "Buffer.tick") 915, Value.str (Str.ofString "/claim/cut.py") 916, Value.int 407 0, Value.int 1 0, Value.int 0 0, Value.int 0 0, Value.int 3 0, Value.ref 535, Value.bool true, Value.int 181 0, Value.ref 536, Value.none, Value.ref 537, Value.ref 538, Value.ref 539, Value.int 918 0, Value.int 407 0, Value.str (Str.ofString "/claim/cut.py") 919]) #[]) ::
  (nat_lit 541, Obj.mk (Value.type "function") none (Data.func (FuncData.mk (Str.ofString "tick") (Str.ofString "Buffer.tick") (fA (fC 30 9)) (FuncBody.stmts (fB (fC 30 9))) (fS (fC 30 9)) 3 [] Value.none Value.none Value.none (Value.str (Str.ofString "emacs.buffer") 829) none (Value.ref 540) Value.none 0)) #[]) ::
  (nat_lit 547, Obj.mk (Value.type "code") none (Data.fields #[Value.str (Str.ofString "is_modified") 921, Value.str (Str.ofString "Buffer.is_modified") 922, Value.str (Str.ofString "/claim/cut.py") 923, Value.int 410 0, Value.int 1 0, Value.int 0 0, Value.int 0 0, Value.int 3 0, Value.ref 542, Value.bool true, Value.int 181 0, Value.ref 543, Value.none, Value.ref 544, Value.ref 545, Value.ref 546, Value.int 925 0, Value.int 410 0, Value.str (Str.ofString "/claim/cut.py") 926]) #[]) ::
  (nat_lit 548, Obj.mk (Value.type "function") none (Data.func (FuncData.mk (Str.ofString "is_modified") (Str.ofString "Buffer.is_modified") (fA (fC 30 10)) (FuncBody.stmts (fB (fC 30 10))) (fS (fC 30 10)) 3 [] Value.none Value.none Value.none (Value.str (Str.ofString "emacs.buffer") 829) none (Value.ref 547) Value.none 0)) #[]) ::
  (nat_lit 554, Obj.mk (Value.type "code") none (Data.fields #[Value.str (Str.ofString "set_modified") 928, Value.str (Str.ofString "Buffer.set_modified") 929, Value.str (Str.ofString "/claim/cut.py") 930, Value.int 413 0, Value.int 2 0, Value.int 0 0, Value.int 0 0, Value.int 3 0, Value.ref 549, Value.bool true, Value.int 181 0, Value.ref 550, Value.none, Value.ref 551, Value.ref 552, Value.ref 553, Value.int 933 0, Value.int 413 0, Value.str (Str.ofString "/claim/cut.py") 934]) #[]) ::
  (nat_lit 555, Obj.mk (Value.type "function") none (Data.func (FuncData.mk (Str.ofString "set_modified") (Str.ofString "Buffer.set_modified") (fA (fC 30 11)) (FuncBody.stmts (fB (fC 30 11))) (fS (fC 30 11)) 3 [] Value.none Value.none Value.none (Value.str (Str.ofString "emacs.buffer") 829) none (Value.ref 554) Value.none 0)) #[]) ::
  (nat_lit 561, Obj.mk (Value.type "code") none (Data.fields #[Value.str (Str.ofString "touch") 936, Value.str (Str.ofString "Buffer.touch") 937, Value.str (Str.ofString "/claim/cut.py") 938, Value.int 416 0, Value.int 2 0, Value.int 0 0, Value.int 0 0, Value.int 3 0, Value.ref 556, Value.bool true, Value.int 181 0, Value.ref 557, Value.none, Value.ref 558, Value.ref 559, Value.ref 560, Value.int 941 0, Value.int 416 0, Value.str (Str.ofString "/claim/cut.py") 942]) #[]) ::
  (nat_lit 562, Obj.mk (Value.type "function") none (Data.func (FuncData.mk (Str.ofString "touch") (Str.ofString "Buffer.touch") (fA (fC 30 12)) (FuncBody.stmts (fB (fC 30 12))) (fS (fC 30 12)) 3 [] Value.none Value.none Value.none (Value.str (Str.ofString "emacs.buffer") 829) none (Value.ref 561) Value.none 0)) #[]) ::
  (nat_lit 564, Obj.mk (Value.type "dict") none (Data.dict #[DictEntry.mk (PyData.keyHash P (Str.ofString "__module__")) (Value.str (Str.ofString "__module__") 838) (Value.str (Str.ofString "emacs.buffer") 829), DictEntry.mk (PyData.keyHash P (Str.ofString "__firstlineno__")) (Value.str (Str.ofString "__firstlineno__") 842) (Value.int 357 841), DictEntry.mk (PyData.keyHash P (Str.ofString "__init__")) (Value.str (Str.ofString "__init__") 853) (Value.ref 478), DictEntry.mk (PyData.keyHash P (Str.ofString "shown")) (Value.str (Str.ofString "shown") 860) (Value.ref 485), DictEntry.mk (PyData.keyHash P (Str.ofString "kind")) (Value.str (Str.ofString "kind") 867) (Value.ref 492), DictEntry.mk (PyData.keyHash P (Str.ofString "begin")) (Value.str (Str.ofString "begin") 874) (Value.ref 499), DictEntry.mk (PyData.keyHash P (Str.ofString "end")) (Value.str (Str.ofString "end") 881) (Value.ref 506), DictEntry.mk (PyData.keyHash P (Str.ofString "size")) (Value.str (Str.ofString "size") 888) (Value.ref 513), DictEntry.mk (PyData.keyHash P (Str.ofString "code_at")) (Value.str (Str.ofString "code_at") 896) (Value.ref 520), DictEntry.mk (PyData.keyHash P (Str.ofString "codes")) (Value.str (Str.ofString "codes") 905) (Value.ref 527), DictEntry.mk (PyData.keyHash P (Str.ofString "goto")) (Value.str (Str.ofString "goto") 913) (Value.ref 534), DictEntry.mk (PyData.keyHash P (Str.ofString "tick")) (Value.str (Str.ofString "tick") 920) (Value.ref 541), DictEntry.mk (PyData.keyHash P (Str.ofString "is_modified")) (Value.str (Str.ofString "is_modified") 927) (Value.ref 548), DictEntry.mk (PyData.keyHash P (Str.ofString "set_modified")) (Value.str (Str.ofString "set_modified") 935) (Value.ref 555), DictEntry.mk (PyData.keyHash P (Str.ofString "touch")) (Value.str (Str.ofString "touch") 943) (Value.ref 562), DictEntry.mk (PyData.keyHash P (Str.ofString "__static_attributes__")) (Value.str (Str.ofString "__static_attributes__") 964) (Value.ref 563), DictEntry.mk (PyData.keyHash P (Str.ofString "__doc__")) (Value.str (Str.ofString "__doc__") 965) Value.none] 2) #[]) ::
  (nat_lit 565, Obj.mk (Value.type "type") none (Data.cls (ClassData.mk (Str.ofString "Buffer") [Value.ref 459] [Value.ref 565, Value.ref 459, Value.type "object"] 564 (Str.ofString "Buffer") true [] [] false none false)) #[some (Value.ref 464), none, some (Value.str (Str.ofString "Buffer") 831), some (Value.str (Str.ofString "Buffer") 839), some (Value.builtin "object.__new__"), some (Value.bool true)]) ::
  (nat_lit 573, Obj.mk (Value.type "code") none (Data.fields #[Value.str (Str.ofString "downcase") 970, Value.str (Str.ofString "downcase") 971, Value.str (Str.ofString "/claim/cut.py") 972, Value.int 421 0, Value.int 1 0, Value.int 0 0, Value.int 0 0, Value.int 3 0, Value.ref 568, Value.bool true, Value.int 181 0, Value.ref 569, Value.none, Value.ref 570, Value.ref 571, Value.ref 572, Value.int 974 0, Value.int 421 0, Value.str (Str.ofString "/claim/cut.py") 975]) #[]) ::
  (nat_lit 574, Obj.mk (Value.type "function") none (Data.func (FuncData.mk (Str.ofString "downcase") (Str.ofString "downcase") (fA (fT 32)) (FuncBody.stmts (fB (fT 32))) (fS (fT 32)) 3 [] Value.none Value.none Value.none (Value.str (Str.ofString "emacs.casefold") 968) none (Value.ref 573) Value.none 0)) #[]) ::
  (nat_lit 580, Obj.mk (Value.type "code") none (Data.fields #[Value.str (Str.ofString "fold") 977, Value.str (Str.ofString "fold") 978, Value.str (Str.ofString "/claim/cut.py") 979, Value.int 425 0, Value.int 1 0, Value.int 0 0, Value.int 0 0, Value.int 3 0, Value.ref 575, Value.bool true, Value.int 181 0, Value.ref 576, Value.none, Value.ref 577, Value.ref 578, Value.ref 579, Value.int 981 0, Value.int 425 0, Value.str (Str.ofString "/claim/cut.py") 982]) #[]) ::
  (nat_lit 581, Obj.mk (Value.type "function") none (Data.func (FuncData.mk (Str.ofString "fold") (Str.ofString "fold") (fA (fT 33)) (FuncBody.stmts (fB (fT 33))) (fS (fT 33)) 3 [] Value.none Value.none Value.none (Value.str (Str.ofString "emacs.casefold") 968) none (Value.ref 580) Value.none 0)) #[]) ::
  (nat_lit 594, Obj.mk (Value.type "code") none (Data.fields #[Value.str (Str.ofString "__init__") 998, Value.str (Str.ofString "Literal.__init__") 999, Value.str (Str.ofString "/claim/cut.py") 1000, Value.int 430 0, Value.int 3 0, Value.int 0 0, Value.int 0 0, Value.int 3 0, Value.ref 589, Value.bool true, Value.int 181 0, Value.ref 590, Value.none, Value.ref 591, Value.ref 592, Value.ref 593, Value.int 1004 0, Value.int 430 0, Value.str (Str.ofString "/claim/cut.py") 1005]) #[]) ::
  (nat_lit 595, Obj.mk (Value.type "function") none (Data.func (FuncData.mk (Str.ofString "__init__") (Str.ofString "Literal.__init__") (fA (fC 35 0)) (FuncBody.stmts (fB (fC 35 0))) (fS (fC 35 0)) 3 [] Value.none Value.none Value.none (Value.str (Str.ofString "emacs.countlines") 984) none (Value.ref 594) Value.none 0)) #[]) ::
  (nat_lit 601, Obj.mk (Value.type "code") none (Data.fields #[Value.str (Str.ofString "fits") 1007, Value.str (Str.ofString "Literal.fits") 1008, Value.str (Str.ofString "/claim/cut.py") 1009, Value.int 434 0, Value.int 3 0, Value.int 0 0, Value.int 0 0, Value.int 3 0, Value.ref 596, Value.bool true, Value.int 181 0, Value.ref 597, Value.none, Value.ref 598, Value.ref 599, Value.ref 600, Value.int 1015 0, Value.int 434 0, Value.str (Str.ofString "/claim/cut.py") 1016]) #[]) ::
  (nat_lit 602, Obj.mk (Value.type "function") none (Data.func (FuncData.mk (Str.ofString "fits") (Str.ofString "Literal.fits") (fA (fC 35 1)) (FuncBody.stmts (fB (fC 35 1))) (fS (fC 35 1)) 3 [] Value.none Value.none Value.none (Value.str (Str.ofString "emacs.countlines") 984) none (Value.ref 601) Value.none 0)) #[]) ::
  (nat_lit 608, Obj.mk (Value.type "code") none (Data.fields #[Value.str (Str.ofString "next") 1018, Value.str (Str.ofString "Literal.next") 1019, Value.str (Str.ofString "/claim/cut.py") 1020, Value.int 441 0, Value.int 4 0, Value.int 0 0, Value.int 0 0, Value.int 3 0, Value.ref 603, Value.bool true, Value.int 181 0, Value.ref 604, Value.none, Value.ref 605, Value.ref 606, Value.ref 607, Value.int 1026 0, Value.int 441 0, Value.str (Str.ofString "/claim/cut.py") 1027]) #[]) ::
  (nat_lit 609, Obj.mk (Value.type "function") none (Data.func (FuncData.mk (Str.ofString "next") (Str.ofString "Literal.next") (fA (fC 35 2)) (FuncBody.stmts (fB (fC 35 2))) (fS (fC 35 2)) 3 [] Value.none Value.none Value.none (Value.str (Str.ofString "emacs.countlines") 984) none (Value.ref 608) Value.none 0)) #[]) ::
  (nat_lit 611, Obj.mk (Value.type "dict") none (Data.dict #[DictEntry.mk (PyData.keyHash P (Str.ofString "__module__")) (Value.str (Str.ofString "__module__") 993) (Value.str (Str.ofString "emacs.countlines") 984), DictEntry.mk (PyData.keyHash P (Str.ofString "__firstlineno__")) (Value.str (Str.ofString "__firstlineno__") 997) (Value.int 428 996), DictEntry.mk (PyData.keyHash P (Str.ofString "__init__")) (Value.str (Str.ofString "__init__") 1006) (Value.ref 595), DictEntry.mk (PyData.keyHash P (Str.ofString "fits")) (Value.str (Str.ofString "fits") 1017) (Value.ref 602), DictEntry.mk (PyData.keyHash P (Str.ofString "next")) (Value.str (Str.ofString "next") 1028) (Value.ref 609), DictEntry.mk (PyData.keyHash P (Str.ofString "__static_attributes__")) (Value.str (Str.ofString "__static_attributes__") 1031) (Value.ref 610), DictEntry.mk (PyData.keyHash P (Str.ofString "__dict__")) (Value.str (Str.ofString "__dict__") 1033) (Value.ref 613), DictEntry.mk (PyData.keyHash P (Str.ofString "__weakref__")) (Value.str (Str.ofString "__weakref__") 1035) (Value.ref 614), DictEntry.mk (PyData.keyHash P (Str.ofString "__doc__")) (Value.str (Str.ofString "__doc__") 1036) Value.none] 4) #[]) ::
  (nat_lit 612, Obj.mk (Value.type "type") none (Data.cls (ClassData.mk (Str.ofString "Literal") [Value.type "object"] [Value.ref 612, Value.type "object"] 611 (Str.ofString "Literal") true [] [] false none false)) #[none, none, some (Value.str (Str.ofString "Literal") 986), some (Value.str (Str.ofString "Literal") 994), some (Value.builtin "object.__new__"), some (Value.bool true)]) ::
  (nat_lit 613, Obj.mk (Value.type "getset_descriptor") none (Data.fields #[Value.str (Str.ofString "__dict__") 1032, Value.ref 612, Value.builtin "function.__dict__", Value.builtin "function.__dict__#set"]) #[]) ::
  (nat_lit 614, Obj.mk (Value.type "getset_descriptor") none (Data.fields #[Value.str (Str.ofString "__weakref__") 1034, Value.ref 612, Value.builtin "ExceptionGroup.__weakref__", Value.none]) #[]) ::
  (nat_lit 622, Obj.mk (Value.type "code") none (Data.fields #[Value.str (Str.ofString "_law_draw") 1041, Value.str (Str.ofString "_law_draw") 1042, Value.str (Str.ofString "/claim/cut.py") 1043, Value.int 447 0, Value.int 2 0, Value.int 0 0, Value.int 0 0, Value.int 3 0, Value.ref 617, Value.bool true, Value.int 181 0, Value.ref 618, Value.none, Value.ref 619, Value.ref 620, Value.ref 621, Value.int 1046 0, Value.int 447 0, Value.str (Str.ofString "/claim/cut.py") 1047]) #[]) ::
  (nat_lit 623, Obj.mk (Value.type "function") none (Data.func (FuncData.mk (Str.ofString "_law_draw") (Str.ofString "_law_draw") (fA (fT 37)) (FuncBody.stmts (fB (fT 37))) (fS (fT 37)) 3 [] Value.none Value.none Value.none (Value.str (Str.ofString "law_np0090_01") 1039) none (Value.ref 622) Value.none 0)) #[]) ::
  (nat_lit 627, Obj.mk (Value.type "code") none (Data.fields #[Value.str (Str.ofString "_law_small") 1049, Value.str (Str.ofString "_law_small") 1050, Value.str (Str.ofString "/claim/cut.py") 1051, Value.int 449 0, Value.int 2 0, Value.int 0 0, Value.int 0 0, Value.int 3 0, Value.ref 624, Value.bool true, Value.int 181 0, Value.ref 625, Value.none, Value.none, Value.none, Value.ref 626, Value.int 1052 0, Value.int 449 0, Value.str (Str.ofString "/claim/cut.py") 1053]) #[]) ::
  (nat_lit 628, Obj.mk (Value.type "function") none (Data.func (FuncData.mk (Str.ofString "_law_small") (Str.ofString "_law_small") (fA (fT 38)) (FuncBody.stmts (fB (fT 38))) (fS (fT 38)) 3 [] Value.none Value.none Value.none (Value.str (Str.ofString "law_np0090_01") 1039) none (Value.ref 627) Value.none 0)) #[]) ::
  (nat_lit 634, Obj.mk (Value.type "code") none (Data.fields #[Value.str (Str.ofString "_law_next") 1055, Value.str (Str.ofString "_law_next") 1056, Value.str (Str.ofString "/claim/cut.py") 1057, Value.int 451 0, Value.int 1 0, Value.int 0 0, Value.int 0 0, Value.int 3 0, Value.ref 629, Value.bool true, Value.int 181 0, Value.ref 630, Value.none, Value.ref 631, Value.ref 632, Value.ref 633, Value.int 1064 0, Value.int 451 0, Value.str (Str.ofString "/claim/cut.py") 1065]) #[]) ::
  (nat_lit 635, Obj.mk (Value.type "function") none (Data.func (FuncData.mk (Str.ofString "_law_next") (Str.ofString "_law_next") (fA (fT 39)) (FuncBody.stmts (fB (fT 39))) (fS (fT 39)) 3 [] Value.none Value.none Value.none (Value.str (Str.ofString "law_np0090_01") 1039) none (Value.ref 634) Value.none 0)) #[]) ::
  (nat_lit 639, Obj.mk (Value.type "code") none (Data.fields #[Value.str (Str.ofString "_law_end") 1067, Value.str (Str.ofString "_law_end") 1068, Value.str (Str.ofString "/claim/cut.py") 1069, Value.int 464 0, Value.int 1 0, Value.int 0 0, Value.int 0 0, Value.int 3 0, Value.ref 636, Value.bool true, Value.int 181 0, Value.ref 637, Value.none, Value.none, Value.none, Value.ref 638, Value.int 1070 0, Value.int 464 0, Value.str (Str.ofString "/claim/cut.py") 1071]) #[]) ::
  (nat_lit 640, Obj.mk (Value.type "function") none (Data.func (FuncData.mk (Str.ofString "_law_end") (Str.ofString "_law_end") (fA (fT 40)) (FuncBody.stmts (fB (fT 40))) (fS (fT 40)) 3 [] Value.none Value.none Value.none (Value.str (Str.ofString "law_np0090_01") 1039) none (Value.ref 639) Value.none 0)) #[]) ::
  (nat_lit 646, Obj.mk (Value.type "code") none (Data.fields #[Value.str (Str.ofString "_law_codes") 1073, Value.str (Str.ofString "_law_codes") 1074, Value.str (Str.ofString "/claim/cut.py") 1075, Value.int 466 0, Value.int 1 0, Value.int 0 0, Value.int 0 0, Value.int 3 0, Value.ref 641, Value.bool true, Value.int 181 0, Value.ref 642, Value.none, Value.ref 643, Value.ref 644, Value.ref 645, Value.int 1079 0, Value.int 466 0, Value.str (Str.ofString "/claim/cut.py") 1080]) #[]) ::
  (nat_lit 647, Obj.mk (Value.type "function") none (Data.func (FuncData.mk (Str.ofString "_law_codes") (Str.ofString "_law_codes") (fA (fT 41)) (FuncBody.stmts (fB (fT 41))) (fS (fT 41)) 3 [] Value.none Value.none Value.none (Value.str (Str.ofString "law_np0090_01") 1039) none (Value.ref 646) Value.none 0)) #[]) ::
  (nat_lit 653, Obj.mk (Value.type "code") none (Data.fields #[Value.str (Str.ofString "_law_put") 1082, Value.str (Str.ofString "_law_put") 1083, Value.str (Str.ofString "/claim/cut.py") 1084, Value.int 471 0, Value.int 1 0, Value.int 0 0, Value.int 0 0, Value.int 3 0, Value.ref 648, Value.bool true, Value.int 181 0, Value.ref 649, Value.none, Value.ref 650, Value.ref 651, Value.ref 652, Value.int 1090 0, Value.int 471 0, Value.str (Str.ofString "/claim/cut.py") 1091]) #[]) ::
  (nat_lit 654, Obj.mk (Value.type "function") none (Data.func (FuncData.mk (Str.ofString "_law_put") (Str.ofString "_law_put") (fA (fT 42)) (FuncBody.stmts (fB (fT 42))) (fS (fT 42)) 3 [] Value.none Value.none Value.none (Value.str (Str.ofString "law_np0090_01") 1039) none (Value.ref 653) Value.none 0)) #[]) ::
  (nat_lit 660, Obj.mk (Value.type "code") none (Data.fields #[Value.str (Str.ofString "_law_on") 1093, Value.str (Str.ofString "_law_on") 1094, Value.str (Str.ofString "/claim/cut.py") 1095, Value.int 477 0, Value.int 1 0, Value.int 0 0, Value.int 0 0, Value.int 3 0, Value.ref 655, Value.bool true, Value.int 181 0, Value.ref 656, Value.none, Value.ref 657, Value.ref 658, Value.ref 659, Value.int 1097 0, Value.int 477 0, Value.str (Str.ofString "/claim/cut.py") 1098]) #[]) ::
  (nat_lit 661, Obj.mk (Value.type "function") none (Data.func (FuncData.mk (Str.ofString "_law_on") (Str.ofString "_law_on") (fA (fT 43)) (FuncBody.stmts (fB (fT 43))) (fS (fT 43)) 3 [] Value.none Value.none Value.none (Value.str (Str.ofString "law_np0090_01") 1039) none (Value.ref 660) Value.none 0)) #[]) ::
  (nat_lit 667, Obj.mk (Value.type "code") none (Data.fields #[Value.str (Str.ofString "_law_back") 1100, Value.str (Str.ofString "_law_back") 1101, Value.str (Str.ofString "/claim/cut.py") 1102, Value.int 481 0, Value.int 2 0, Value.int 0 0, Value.int 0 0, Value.int 3 0, Value.ref 662, Value.bool true, Value.int 181 0, Value.ref 663, Value.none, Value.ref 664, Value.ref 665, Value.ref 666, Value.int 1107 0, Value.int 481 0, Value.str (Str.ofString "/claim/cut.py") 1108]) #[]) ::
  (nat_lit 668, Obj.mk (Value.type "function") none (Data.func (FuncData.mk (Str.ofString "_law_back") (Str.ofString "_law_back") (fA (fT 44)) (FuncBody.stmts (fB (fT 44))) (fS (fT 44)) 3 [] Value.none Value.none Value.none (Value.str (Str.ofString "law_np0090_01") 1039) none (Value.ref 667) Value.none 0)) #[]) ::
  (nat_lit 672, Obj.mk (Value.type "code") none (Data.fields #[Value.str (Str.ofString "_law_restored") 1110, Value.str (Str.ofString "_law_restored") 1111, Value.str (Str.ofString "/claim/cut.py") 1112, Value.int 489 0, Value.int 1 0, Value.int 0 0, Value.int 0 0, Value.int 3 0, Value.ref 669, Value.bool true, Value.int 181 0, Value.ref 670, Value.none, Value.none, Value.none, Value.ref 671, Value.int 1113 0, Value.int 489 0, Value.str (Str.ofString "/claim/cut.py") 1114]) #[]) ::
  (nat_lit 673, Obj.mk (Value.type "function") none (Data.func (FuncData.mk (Str.ofString "_law_restored") (Str.ofString "_law_restored") (fA (fT 45)) (FuncBody.stmts (fB (fT 45))) (fS (fT 45)) 3 [] Value.none Value.none Value.none (Value.str (Str.ofString "law_np0090_01") 1039) none (Value.ref 672) Value.none 0)) #[]) ::
  (nat_lit 677, Obj.mk (Value.type "code") none (Data.fields #[Value.str (Str.ofString "_law_key") 1116, Value.str (Str.ofString "_law_key") 1117, Value.str (Str.ofString "/claim/cut.py") 1118, Value.int 500 0, Value.int 2 0, Value.int 0 0, Value.int 0 0, Value.int 3 0, Value.ref 674, Value.bool true, Value.int 181 0, Value.ref 675, Value.none, Value.none, Value.none, Value.ref 676, Value.int 1119 0, Value.int 500 0, Value.str (Str.ofString "/claim/cut.py") 1120]) #[]) ::
  (nat_lit 678, Obj.mk (Value.type "function") none (Data.func (FuncData.mk (Str.ofString "_law_key") (Str.ofString "_law_key") (fA (fT 46)) (FuncBody.stmts (fB (fT 46))) (fS (fT 46)) 3 [] Value.none Value.none Value.none (Value.str (Str.ofString "law_np0090_01") 1039) none (Value.ref 677) Value.none 0)) #[]) ::
  (nat_lit 682, Obj.mk (Value.type "code") none (Data.fields #[Value.str (Str.ofString "law") 1122, Value.str (Str.ofString "law") 1123, Value.str (Str.ofString "/claim/cut.py") 1124, Value.int 521 0, Value.int 1 0, Value.int 0 0, Value.int 0 0, Value.int 3 0, Value.ref 679, Value.bool true, Value.int 181 0, Value.ref 680, Value.none, Value.none, Value.none, Value.ref 681, Value.int 1125 0, Value.int 521 0, Value.str (Str.ofString "/claim/cut.py") 1126]) #[]) ::
  (nat_lit 683, Obj.mk (Value.type "function") none (Data.func (FuncData.mk (Str.ofString "law") (Str.ofString "law") (fA (fT 47)) (FuncBody.stmts (fB (fT 47))) (fS (fT 47)) 3 [] Value.none Value.none Value.none (Value.str (Str.ofString "law_np0090_01") 1039) none (Value.ref 682) Value.none 0)) #[]) :: []
noncomputable def Ka : List Addr := [2, 3, 20, 21, 22, 34, 35, 37, 38, 39, 47, 48, 54, 55, 61, 62, 68, 69, 75, 76, 82, 83, 89, 90, 96, 97, 103, 104, 105, 111, 112, 113, 119, 120, 126, 127, 133, 134, 147, 148, 154, 155, 157, 158, 159, 160, 175, 176, 178, 179, 180, 181, 196, 197, 203, 204, 210, 211, 217, 218, 224, 225, 231, 232, 238, 239, 245, 246, 252, 253, 259, 260, 262, 263, 264, 265, 280, 281, 287, 288, 294, 295, 301, 302, 308, 309, 315, 316, 322, 323, 329, 330, 336, 337, 343, 344, 350, 351, 353, 354, 355, 356, 371, 372, 378, 379, 385, 386, 392, 393, 399, 400, 406, 407, 413, 414, 420, 421, 423, 424, 425, 426, 441, 442, 448, 449, 455, 456, 458, 459, 460, 461, 464, 471, 477, 478, 484, 485, 491, 492, 498, 499, 505, 506, 512, 513, 519, 520, 526, 527, 533, 534, 540, 541, 547, 548, 554, 555, 561, 562, 564, 565, 573, 574, 580, 581, 594, 595, 601, 602, 608, 609, 611, 612, 613, 614, 622, 623, 627, 628, 634, 635, 639, 640, 646, 647, 653, 654, 660, 661, 667, 668, 672, 673, 677, 678, 682, 683]
theorem fill_up : Mine.K = Mine.K ∧ PySem.Challenge.rw_np0090_01.foot = 11 := by k_fill; exact ⟨rfl, rfl⟩

noncomputable abbrev Led := List (Addr × (Obj → Prop))
noncomputable abbrev PR : Program := PySem.Challenge.rw_np0090_01.row.prog

/-- what stands through the whole call: the world, the heap at the call, its facts -/
structure Cx where
  w : World
  G : Heap
  os : OsState
  mg : Str → Option Value
  mb : Str → Option Value
  kin : (Mine.K w.params).In G
  nolimit : G.NoLimit
  g : G.Ns mainGlobals mg
  b : G.Ns builtinsNs mb
  boot : ∀ x : Str, x ≠ "__name__" → mb x = bootBuiltins x

noncomputable abbrev Cx.M (c : Cx) : Model := model PR c.w

/-- what is known of a value -/
inductive AV where
  | v (x : Value)
  | i (n : Int)
  | s (x : Str)
noncomputable def AV.is : AV → Value → Prop
  | .v x, y => y = x
  | .i n, y => ∃ t, y = .int n t
  | .s x, y => ∃ t, y = .str x t
noncomputable def AV.ok : AV → Bool
  | .v x => handedIn x
  | _ => true
theorem AV.handed {a : AV} {v : Value} (h : a.is v) (k : a.ok = true) : handedIn v = true := by
  cases a with
  | v x => cases h; exact k
  | i n => obtain ⟨t, rfl⟩ := h; rfl
  | s x => obtain ⟨t, rfl⟩ := h; rfl
noncomputable abbrev rf (a : Addr) : AV := .v (.ref a)
noncomputable abbrev bo (b : Bool) : AV := .v (.bool b)
noncomputable abbrev nn : AV := .v .none

inductive AVs : List AV → List Value → Prop
  | nil : AVs [] []
  | cons {a as v vs} : a.is v → AVs as vs → AVs (a :: as) (v :: vs)
theorem AVs.cons_elim {a as vs} {P : List Value → Prop} (h : AVs (a :: as) vs) (k : ∀ v r, a.is v → AVs as r → P (v :: r)) : P vs := by cases h; exact k _ _ ‹_› ‹_›
theorem AVs.nil_elim {vs} {P : List Value → Prop} (h : AVs [] vs) (k : P []) : P vs := by cases h; exact k
theorem AVs.length {as vs} (h : AVs as vs) : vs.length = as.length := by induction h with | nil => rfl | cons _ _ ih => simp [ih]
theorem AVs.get {as vs} (h : AVs as vs) {i : Nat} {a : AV} (ha : as[i]? = some a) : ∃ v, vs[i]? = some v ∧ a.is v := by
  induction h generalizing i with
  | nil => simp at ha
  | cons hv _ ih => cases i with
    | zero => simp at ha; exact ⟨_, by simp, ha ▸ hv⟩
    | succ i => simp at ha; simpa using ih ha
theorem AVs.app {as vs bs ws} (h : AVs as vs) (h' : AVs bs ws) : AVs (as ++ bs) (vs ++ ws) := by induction h with | nil => exact h' | cons hv _ ih => exact .cons hv ih
theorem AVs.take {as vs} (h : AVs as vs) (k : Nat) : AVs (as.take k) (vs.take k) := by
  induction h generalizing k with
  | nil => simpa using AVs.nil
  | cons hv _ ih => cases k with | zero => exact .nil | succ k => exact .cons hv (ih k)
theorem AVs.drop {as vs} (h : AVs as vs) (k : Nat) : AVs (as.drop k) (vs.drop k) := by
  induction h generalizing k with
  | nil => simpa using AVs.nil
  | cons hv hr ih => cases k with | zero => exact .cons hv hr | succ k => exact ih k
theorem AVs.ofInts {ns vs} (h : IntsAre vs ns) : AVs (ns.map AV.i) vs := by induction h with | nil => exact .nil | cons n t _ ih => exact .cons ⟨t, rfl⟩ ih
theorem AVs.toInts : ∀ {ns : List Int} {vs}, AVs (ns.map AV.i) vs → IntsAre vs ns
  | [], _, h => by cases h; exact .nil
  | n :: r, _, h => by cases h; rename_i hv hr; obtain ⟨t, rfl⟩ := hv; exact .cons n t (AVs.toInts hr)

/-- names and what is known of them -/
noncomputable abbrev FM := List (Str × AV)
noncomputable def gl : FM → Str → Option AV
  | [], _ => none
  | (y, a) :: r, x => if x = y then some a else gl r x
noncomputable def sl : FM → Str → AV → FM
  | [], x, a => [(x, a)]
  | (y, b) :: r, x, a => if x = y then (y, a) :: r else (y, b) :: sl r x a
theorem gl_sl (m : FM) (x y : Str) (a : AV) : gl (sl m x a) y = if y = x then some a else gl m y := by
  induction m with
  | nil => simp only [sl, gl]
  | cons p r ih =>
    obtain ⟨z, b⟩ := p
    simp only [sl]
    by_cases h : x = z
    · subst h; rw [if_pos rfl]; simp only [gl]; split <;> rfl
    · rw [if_neg h]; simp only [gl, ih]
      by_cases h1 : y = z
      · subst h1; rw [if_pos rfl, if_pos rfl, if_neg (Ne.symm h)]
      · rw [if_neg h1, if_neg h1]
theorem sl_length (m : FM) (x : Str) (a : AV) : (sl m x a).length = if (gl m x).isSome then m.length else m.length + 1 := by
  induction m with
  | nil => rfl
  | cons p r ih =>
    obtain ⟨z, b⟩ := p
    by_cases h : x = z
    · simp [sl, gl, h]
    · simp only [sl, gl, h, if_false, List.length_cons, ih]; split <;> rfl
noncomputable def Mt (m : Str → Option Value) (fm : FM) : Prop := ∀ x a, gl fm x = some a → ∃ v, m x = some v ∧ a.is v
theorem Mt.nil {m} : Mt m [] := fun _ _ h => by cases h
theorem Mt.set {m fm x a v} (h : Mt m fm) (hv : a.is v) : Mt (fun y => if y = x then some v else m y) (sl fm x a) := fun y b hb => by
  rw [gl_sl] at hb
  by_cases hy : y = x
  · rw [if_pos hy] at hb; cases hb; exact ⟨v, by simp [hy], hv⟩
  · rw [if_neg hy] at hb; obtain ⟨u, h1, h2⟩ := h y b hb; exact ⟨u, by simp [hy, h1], h2⟩
/-- fewer names -/
inductive FSub : FM → FM → Prop
  | nil {m} : FSub m []
  | cons {m x a r} : gl m x = some a → FSub m r → FSub m ((x, a) :: r)
theorem FSub.gl {m r} (h : FSub m r) {x a} (e : gl r x = some a) : gl m x = some a := by
  induction h with
  | nil => cases e
  | @cons y b r h1 _ ih =>
    simp only [Mine.gl] at e
    by_cases hx : x = y
    · rw [if_pos hx] at e; cases e; rw [hx]; exact h1
    · rw [if_neg hx] at e; exact ih e
theorem Mt.sub {m fm fm'} (h : Mt m fm) (hs : FSub fm fm') : Mt m fm' := fun x a e => h x a (hs.gl e)
/-- what a call binds -/
inductive MtB : List (Str × Value) → FM → Prop
  | nil : MtB [] []
  | cons {x a v bs fm} : a.is v → MtB bs fm → MtB ((x, v) :: bs) ((x, a) :: fm)
noncomputable def nodupB : List (Str × Value) → Bool
  | [] => true
  | p :: r => r.all (fun q => !(q.1 == p.1)) && nodupB r
theorem MtB.find {bs fm} (h : MtB bs fm) : ∀ x a, gl fm x = some a → ∃ v, (x, v) ∈ bs ∧ a.is v := by
  induction h with
  | nil => intro x a e; cases e
  | @cons y b v bs fm hv _ ih =>
    intro x a e
    simp only [Mine.gl] at e
    by_cases hx : x = y
    · rw [if_pos hx] at e; cases e; exact ⟨v, by simp [hx], hv⟩
    · rw [if_neg hx] at e; obtain ⟨u, h1, h2⟩ := ih x a e; exact ⟨u, .tail _ h1, h2⟩
theorem lookup_of_mem {bs : List (Str × Value)} (hn : nodupB bs = true) {x v} (h : (x, v) ∈ bs) : bs.reverse.lookup x = some v := by
  induction bs with
  | nil => cases h
  | cons p r ih =>
    simp only [nodupB, Bool.and_eq_true, List.all_eq_true, Bool.not_eq_true'] at hn
    rw [List.reverse_cons, List.lookup_append]
    rcases List.mem_cons.mp h with rfl | h
    · have : r.reverse.lookup x = none := by
        rw [List.lookup_eq_none_iff]
        intro q hq
        have := hn.1 q (List.mem_reverse.mp hq)
        simp at this; simpa using fun e => this e.symm
      rw [this]; simp
    · rw [ih hn.2 h]; simp
theorem MtB.mt {bs fm} (h : MtB bs fm) (hn : nodupB bs = true) : Mt (fun y => bs.reverse.lookup y) fm := fun x a e => by
  obtain ⟨v, h1, h2⟩ := h.find x a e; exact ⟨v, lookup_of_mem hn h1, h2⟩

noncomputable def At (s : Shared) (p : Addr × (Obj → Prop)) : Prop := ∃ o, s.heap.get? p.1 = some o ∧ p.2 o

/-- the ledger: frame L with the names m, the objects that may change (Γ), the objects that stay (I) -/
structure Ow (c : Cx) (L : Addr) (m : FM) (Γ I : Led) (s : Shared) : Prop where
  gens : s.gens = #[]
  os : s.os = c.os
  fr : ∃ m', Fr c.G L s.heap m' ∧ Mt m' m
  has : ∀ p ∈ Γ, At s p ∧ p.1 ≠ L ∧ c.G.objs.size ≤ p.1
  hasI : ∀ p ∈ I, At s p ∧ p.1 ≠ L ∧ c.G.objs.size ≤ p.1
  nd : (Γ.map (·.1)).Nodup
  ap : ∀ p ∈ Γ, ∀ q ∈ I, p.1 ≠ q.1

inductive Put (a : Addr) (P' : Obj → Prop) : Led → Led → Prop
  | here {P Γ} : Put a P' ((a, P) :: Γ) ((a, P') :: Γ)
  | there {p Γ Γ'} : Put a P' Γ Γ' → Put a P' (p :: Γ) (p :: Γ')
inductive Pick (p : Addr × (Obj → Prop)) : Led → Led → Prop
  | here {Γ} : Pick p (p :: Γ) Γ
  | there {q Γ Γ'} : Pick p Γ Γ' → Pick p (q :: Γ) (q :: Γ')

/-- one ledger out of another: picked, weakened, the rest let go -/
inductive LGot : Led → Led → Prop
  | refl {Γ} : LGot Γ Γ
  | cons {a P P' Γ Γ₁ Δ} : Pick (a, P) Γ Γ₁ → (∀ o, P o → P' o) → LGot Γ₁ Δ → LGot Γ ((a, P') :: Δ)
  | drop {p Γ Δ} : LGot Γ Δ → LGot (p :: Γ) Δ
theorem Pick.perm {p Γ Γ'} (h : Pick p Γ Γ') : Γ.Perm (p :: Γ') := by
  induction h with
  | here => exact .refl _
  | there _ ih => exact (ih.cons _).trans (.swap ..)
/-- the place of an object in the ledger -/
inductive PutC (a : Addr) (P : Obj → Prop) : Led → ((Obj → Prop) → Led) → Prop
  | here {Γ} : PutC a P ((a, P) :: Γ) (fun P' => (a, P') :: Γ)
  | there {p Γ C} : PutC a P Γ C → PutC a P (p :: Γ) (fun P' => p :: C P')
theorem PutC.put {a P Γ C} (h : PutC a P Γ C) (P' : Obj → Prop) : Put a P' Γ (C P') := by
  induction h with
  | here => exact .here
  | there _ ih => exact .there ih
theorem PutC.mem {a P Γ C} (h : PutC a P Γ C) : (a, P) ∈ Γ := by
  induction h with
  | here => exact .head _
  | there _ ih => exact .tail _ ih
theorem Put.perm {a P' Γ Γ'} (h : Put a P' Γ Γ') : ∃ P R, Γ.Perm ((a, P) :: R) ∧ Γ'.Perm ((a, P') :: R) := by
  induction h with
  | here => exact ⟨_, _, .refl _, .refl _⟩
  | there _ ih => obtain ⟨P, R, h1, h2⟩ := ih; exact ⟨P, _, (h1.cons _).trans (.swap ..), (h2.cons _).trans (.swap ..)⟩

noncomputable def Sb (I I' : Led) : Prop := ∀ p ∈ I, p ∈ I'
theorem Sb.refl {I : Led} : Sb I I := fun _ h => h
theorem Sb.trans {I I' I'' : Led} (h : Sb I I') (h' : Sb I' I'') : Sb I I'' := fun p q => h' p (h p q)
theorem Sb.cons {I I' : Led} {p} (h : Sb I I') : Sb I (p :: I') := fun q hq => .tail _ (h q hq)
theorem Sb.mem {I I' : Led} {p} (h : Sb I I') (hp : p ∈ I) : p ∈ I' := h p hp

noncomputable def isNs (m : FM) (o : Obj) : Prop := ∃ es ep, o.data = .dict es ep ∧ StrKeys es ∧ Mt (nsFind es) m

section
variable {c : Cx} {L : Addr} {m m' : FM} {Γ Γ' I I' R : Led} {s s' : Shared}

theorem Ow.keep (O : Ow c L m Γ I s) : ∀ b o, c.G.get? b = some o → s.heap.get? b = some o := let ⟨_, F, _⟩ := O.fr; F.keep
theorem Ow.above (O : Ow c L m Γ I s) : c.G.objs.size ≤ L := let ⟨_, F, _⟩ := O.fr; F.above
theorem Ow.lt (O : Ow c L m Γ I s) : L < s.heap.objs.size := let ⟨_, F, _⟩ := O.fr; F.ns.lt

theorem Ow.perm (O : Ow c L m Γ I s) (h : Γ.Perm Γ') : Ow c L m Γ' I s :=
  ⟨O.gens, O.os, O.fr, fun p hp => O.has p (h.mem_iff.mpr hp), O.hasI, (h.map _).nodup_iff.mp O.nd, fun p hp => O.ap p (h.mem_iff.mpr hp)⟩
theorem Ow.drop {p} (O : Ow c L m (p :: Γ) I s) : Ow c L m Γ I s :=
  ⟨O.gens, O.os, O.fr, fun q hq => O.has q (.tail _ hq), O.hasI, (List.nodup_cons.mp O.nd).2, fun q hq => O.ap q (.tail _ hq)⟩
theorem Ow.fsub (O : Ow c L m Γ I s) (h : FSub m m') : Ow c L m' Γ I s :=
  ⟨O.gens, O.os, let ⟨q, F, M⟩ := O.fr; ⟨q, F, M.sub h⟩, O.has, O.hasI, O.nd, O.ap⟩
theorem Ow.weak {a P P'} (O : Ow c L m ((a, P) :: Γ) I s) (h : ∀ o, P o → P' o) : Ow c L m ((a, P') :: Γ) I s :=
  ⟨O.gens, O.os, O.fr, fun q hq => by
    rcases List.mem_cons.mp hq with rfl | hq
    · obtain ⟨⟨o, ho, hP⟩, r⟩ := O.has (a, P) (.head _); exact ⟨⟨o, ho, h o hP⟩, r⟩
    · exact O.has q (.tail _ hq), O.hasI, O.nd, fun q hq r hr => by
    rcases List.mem_cons.mp hq with rfl | hq
    · exact O.ap (a, P) (.head _) r hr
    · exact O.ap q (.tail _ hq) r hr⟩
theorem Ow.freeze {p} (O : Ow c L m (p :: Γ) I s) : Ow c L m Γ (p :: I) s :=
  ⟨O.gens, O.os, O.fr, fun q hq => O.has q (.tail _ hq), fun q hq => by
    rcases List.mem_cons.mp hq with rfl | hq
    · exact O.has _ (.head _)
    · exact O.hasI q hq, (List.nodup_cons.mp O.nd).2, fun q hq r hr => by
    rcases List.mem_cons.mp hr with rfl | hr
    · intro e; exact (List.nodup_cons.mp O.nd).1 (List.mem_map.mpr ⟨q, hq, e⟩)
    · exact O.ap q (.tail _ hq) r hr⟩
theorem Ow.frz {p} (O : Ow c L m Γ I s) (h : Pick p Γ Γ') : Ow c L m Γ' (p :: I) s := (O.perm h.perm).freeze
theorem Ow.get {a P} (O : Ow c L m Γ I s) (h : (a, P) ∈ Γ) : ∃ o, s.heap.get? a = some o ∧ P o := (O.has _ h).1
theorem Ow.getI {a P} (O : Ow c L m Γ I s) (h : (a, P) ∈ I) : ∃ o, s.heap.get? a = some o ∧ P o := (O.hasI _ h).1

theorem LGot.map {Γ Δ : Led} (h : LGot Γ Δ) : ∀ (pre : Led), Ow c L m (pre ++ Γ) I s → Ow c L m (pre ++ Δ) I s := by
  induction h with
  | refl => exact fun _ O => O
  | @cons a P P' Γ Γ₁ Δ hp hw _ ih =>
    intro pre O
    have O1 : Ow c L m ((a, P) :: (pre ++ Γ₁)) I s := O.perm ((hp.perm.append_left pre).trans List.perm_middle)
    have O2 := (O1.weak hw).perm (List.perm_middle (l₁ := pre) (l₂ := Γ₁)).symm
    have := ih (pre ++ [(a, P')]) (by simpa using O2)
    simpa using this
  | drop _ ih => intro pre O; exact ih pre ((O.perm List.perm_middle).drop)
theorem Ow.got (O : Ow c L m Γ I s) (h : LGot Γ Γ') : Ow c L m Γ' I s := h.map [] O

/-- an object of either part -/
noncomputable def In2 (a : Addr) (P : Obj → Prop) (Γ I : Led) : Prop := (a, P) ∈ Γ ∨ (a, P) ∈ I
theorem Ow.get2 {a P} (O : Ow c L m Γ I s) (h : In2 a P Γ I) : ∃ o, s.heap.get? a = some o ∧ P o := h.elim O.get O.getI
theorem Ow.off2 {a P} (O : Ow c L m Γ I s) (h : In2 a P Γ I) : a ≠ L ∧ c.G.objs.size ≤ a := h.elim (fun h => (O.has _ h).2) (fun h => (O.hasI _ h).2)

/-- the heap keeps all that it had -/
theorem Ow.keeps (O : Ow c L m Γ I s) {h' : Heap} {tk : Nat} (hk : ∀ b o, s.heap.get? b = some o → h'.get? b = some o) :
    Ow c L m Γ I { s with heap := h', toks := tk } :=
  ⟨O.gens, O.os, let ⟨q, F, M⟩ := O.fr; ⟨q, ⟨F.ns.keeps hk, fun b o e => hk b o (F.keep b o e), F.above⟩, M⟩,
    fun p hp => let ⟨⟨o, ho, hP⟩, r⟩ := O.has p hp; ⟨⟨o, hk _ _ ho, hP⟩, r⟩, fun p hp => let ⟨⟨o, ho, hP⟩, r⟩ := O.hasI p hp; ⟨⟨o, hk _ _ ho, hP⟩, r⟩, O.nd, O.ap⟩
theorem Ow.tok (O : Ow c L m Γ I s) {tk : Nat} : Ow c L m Γ I { s with toks := tk } := O.keeps fun _ _ e => e

theorem Ow.push {P : Obj → Prop} {o : Obj} (O : Ow c L m Γ I s) (hP : P o) (hf : o.isFreed = false := by rfl) :
    Ow c L m ((s.heap.objs.size, P) :: Γ) I { s with heap := s.heap.push o } := by
  have hk : ∀ b o', s.heap.get? b = some o' → (s.heap.push o).get? b = some o' := fun b o' e => Heap.get?_push_of_some _ e
  have O' := O.keeps (tk := s.toks) hk
  have hne : ∀ {q : Addr × (Obj → Prop)}, At s q → q.1 ≠ s.heap.objs.size := fun ⟨_, e, _⟩ => Nat.ne_of_lt (Heap.lt_size e)
  refine ⟨O'.gens, O'.os, O'.fr, fun p hp => ?_, O'.hasI, ?_, fun p hp q hq => ?_⟩
  · rcases List.mem_cons.mp hp with rfl | hp
    · exact ⟨⟨o, Heap.get?_push_size _ hf, hP⟩, Nat.ne_of_gt O.lt, Nat.le_of_lt (Nat.lt_of_le_of_lt O.above O.lt)⟩
    · exact O'.has p hp
  · refine List.nodup_cons.mpr ⟨fun h => ?_, O.nd⟩
    obtain ⟨q, hq, e⟩ := List.mem_map.mp h
    exact hne (O.has q hq).1 e
  · rcases List.mem_cons.mp hp with rfl | hp
    · exact (hne (O.hasI q hq).1).symm
    · exact O.ap p hp q hq

/-- one object of Γ turns, all that is not the call's own stays -/
theorem Ow.turnN {a : Addr} {P P' : Obj → Prop} (O : Ow c L m ((a, P) :: Γ) I s) {h' : Heap} {tk : Nat} (F' : ∃ m', Fr c.G L h' m' ∧ Mt m' m) (hs : ∀ b o, c.G.objs.size ≤ b → b ≠ L → b ≠ a → s.heap.get? b = some o → h'.get? b = some o)
    {o' : Obj} (ho : h'.get? a = some o') (hP : P' o') : Ow c L m ((a, P') :: Γ) I { s with heap := h', toks := tk } := by
  have hd := List.nodup_cons.mp O.nd
  have ha := O.has (a, P) (.head _)
  refine ⟨O.gens, O.os, F', fun p hp => ?_, fun p hp => ?_, O.nd, fun p hp q hq => ?_⟩
  · rcases List.mem_cons.mp hp with rfl | hp
    · exact ⟨⟨o', ho, hP⟩, ha.2⟩
    · obtain ⟨⟨o, e, h1⟩, r⟩ := O.has p (.tail _ hp)
      exact ⟨⟨o, hs _ _ r.2 r.1 (fun q => hd.1 (List.mem_map.mpr ⟨p, hp, q⟩)) e, h1⟩, r⟩
  · obtain ⟨⟨o, e, h1⟩, r⟩ := O.hasI p hp
    exact ⟨⟨o, hs _ _ r.2 r.1 (Ne.symm (O.ap (a, P) (.head _) p hp)) e, h1⟩, r⟩
  · rcases List.mem_cons.mp hp with rfl | hp
    · exact O.ap (a, P) (.head _) q hq
    · exact O.ap p (.tail _ hp) q hq
/-- one object of Γ turns -/
theorem Ow.turn {a : Addr} {P P' : Obj → Prop} (O : Ow c L m ((a, P) :: Γ) I s) {h' : Heap} {tk : Nat} (hs : ∀ b o, b ≠ a → s.heap.get? b = some o → h'.get? b = some o)
    {o' : Obj} (ho : h'.get? a = some o') (hP : P' o') : Ow c L m ((a, P') :: Γ) I { s with heap := h', toks := tk } := by
  have ha := O.has (a, P) (.head _)
  have hG : ∀ b o, c.G.get? b = some o → b ≠ a := fun b o e => Nat.ne_of_lt (Nat.lt_of_lt_of_le (Heap.lt_size e) ha.2.2)
  refine O.turnN ?_ (fun b o _ _ hb e => hs b o hb e) ho hP
  obtain ⟨q, F, M⟩ := O.fr
  refine ⟨q, ⟨?_, fun b o e => hs b o (hG b o e) (F.keep b o e), F.above⟩, M⟩
  obtain ⟨oL, es, ep, hL, r⟩ := F.ns
  exact ⟨oL, es, ep, hs _ _ (Ne.symm ha.2.1) hL, r⟩
theorem Ow.put {a : Addr} {P' : Obj → Prop} (O : Ow c L m Γ I s) (U : Put a P' Γ Γ') {h' : Heap} {tk : Nat} (hs : ∀ b o, b ≠ a → s.heap.get? b = some o → h'.get? b = some o)
    {o' : Obj} (ho : h'.get? a = some o') (hP : P' o') : Ow c L m Γ' I { s with heap := h', toks := tk } := by
  obtain ⟨P, R, h1, h2⟩ := U.perm
  exact ((O.perm h1).turn hs ho hP).perm h2.symm
theorem Ow.putN {a : Addr} {P' : Obj → Prop} (O : Ow c L m Γ I s) (U : Put a P' Γ Γ') {h' : Heap} {tk : Nat} (F' : ∃ m', Fr c.G L h' m' ∧ Mt m' m) (hs : ∀ b o, c.G.objs.size ≤ b → b ≠ L → b ≠ a → s.heap.get? b = some o → h'.get? b = some o)
    {o' : Obj} (ho : h'.get? a = some o') (hP : P' o') : Ow c L m Γ' I { s with heap := h', toks := tk } := by
  obtain ⟨P, R, h1, h2⟩ := U.perm
  exact ((O.perm h1).turnN F' hs ho hP).perm h2.symm

/-- the frame's own names turn -/
theorem Ow.frame (O : Ow c L m Γ I s) {h' : Heap} {tk : Nat} {mm : Str → Option Value} (hn : h'.Ns L mm) (hm : Mt mm m') (hs : Heap.SameBut L s.heap h') : Ow c L m' Γ I { s with heap := h', toks := tk } :=
  ⟨O.gens, O.os, let ⟨q, F, M⟩ := O.fr; ⟨mm, F.set hn hs, hm⟩, fun p hp => let ⟨⟨o, ho, hP⟩, r⟩ := O.has p hp; ⟨⟨o, (hs.2 _ r.1).trans ho, hP⟩, r⟩,
    fun p hp => let ⟨⟨o, ho, hP⟩, r⟩ := O.hasI p hp; ⟨⟨o, (hs.2 _ r.1).trans ho, hP⟩, r⟩, O.nd, O.ap⟩

theorem Ow.leave {L' m'} (O : Ow c L' m' ((L, isNs m) :: Γ) I s) : Ow c L m Γ I s := by
  obtain ⟨⟨o, ho, es, ep, h0, hk, hM⟩, h1, h2⟩ := O.has (L, isNs m) (.head _)
  have hd := List.nodup_cons.mp O.nd
  exact ⟨O.gens, O.os, ⟨_, ⟨⟨o, es, ep, ho, h0, hk, fun _ => rfl⟩, O.keep, h2⟩, hM⟩, fun p hp => let q := O.has p (.tail _ hp); ⟨q.1, fun e => hd.1 (List.mem_map.mpr ⟨p, hp, e⟩), q.2.2⟩,
    fun p hp => let q := O.hasI p hp; ⟨q.1, fun e => O.ap (L, isNs m) (.head _) p hp e.symm, q.2.2⟩, hd.2, fun p hp => O.ap p (.tail _ hp)⟩
theorem Ow.back {L' m'} (O : Ow c L' m' Γ I s) (hp : Pick (L, isNs m) Γ Γ') : Ow c L m Γ' I s := (O.perm hp.perm).leave
/-- a new frame above: the old one goes to the ledger -/
theorem Ow.enter {L' mm} (O : Ow c L m Γ I s) {h' : Heap} {tk : Nat} (hL : s.heap.objs.size ≤ L') (hn : h'.Ns L' mm) (hm : Mt mm m') (hk : ∀ b o, s.heap.get? b = some o → h'.get? b = some o) :
    Ow c L' m' ((L, isNs m) :: Γ) I { s with heap := h', toks := tk } := by
  have hlt : ∀ {p : Addr × (Obj → Prop)}, At s p → p.1 ≠ L' := fun ⟨_, e, _⟩ => Nat.ne_of_lt (Nat.lt_of_lt_of_le (Heap.lt_size e) hL)
  obtain ⟨q, F, M⟩ := O.fr
  obtain ⟨oL, es, ep, hL1, h0, hk0, hq⟩ := F.ns
  have e : nsFind es = q := funext hq
  refine ⟨O.gens, O.os, ⟨mm, ⟨hn, fun b o e => hk b o (F.keep b o e), Nat.le_trans F.above (Nat.le_trans (Nat.le_of_lt F.ns.lt) hL)⟩, hm⟩, fun p hp => ?_, fun p hp => ?_, ?_, fun p hp q hq => ?_⟩
  · rcases List.mem_cons.mp hp with rfl | hp
    · exact ⟨⟨oL, hk _ _ hL1, es, ep, h0, hk0, e ▸ M⟩, Nat.ne_of_lt (Nat.lt_of_lt_of_le F.ns.lt hL), F.above⟩
    · obtain ⟨h1, h2, h3⟩ := O.has p hp
      exact ⟨let ⟨o, e, h⟩ := h1; ⟨o, hk _ _ e, h⟩, hlt h1, h3⟩
  · obtain ⟨h1, h2, h3⟩ := O.hasI p hp
    exact ⟨let ⟨o, e, h⟩ := h1; ⟨o, hk _ _ e, h⟩, hlt h1, h3⟩
  · refine List.nodup_cons.mpr ⟨fun h => ?_, O.nd⟩
    obtain ⟨q, hq, e⟩ := List.mem_map.mp h
    exact (O.has q hq).2.1 e
  · rcases List.mem_cons.mp hp with rfl | hp
    · exact (O.hasI q hq).2.1.symm
    · exact O.ap p hp q hq

/-- a new object, from what the library's lemmas hand back -/
theorem Ow.fresh {a : Addr} {P : Obj → Prop} (O : Ow c L m Γ I s) {h' : Heap} {tk : Nat} (F' : ∃ m', Fr c.G L h' m' ∧ Mt m' m) (hk : ∀ b o, c.G.objs.size ≤ b → b ≠ L → s.heap.get? b = some o → h'.get? b = some o)
    (ha : s.heap.objs.size ≤ a) {o : Obj} (ho : h'.get? a = some o) (hP : P o) : Ow c L m ((a, P) :: Γ) I { s with heap := h', toks := tk } := by
  have hlt : ∀ {p : Addr × (Obj → Prop)}, At s p → p.1 ≠ a := fun ⟨_, e, _⟩ => Nat.ne_of_lt (Nat.lt_of_lt_of_le (Heap.lt_size e) ha)
  have haL : a ≠ L := Nat.ne_of_gt (Nat.lt_of_lt_of_le O.lt ha)
  have haG : c.G.objs.size ≤ a := Nat.le_trans O.above (Nat.le_trans (Nat.le_of_lt O.lt) ha)
  refine ⟨O.gens, O.os, F', fun p hp => ?_, fun p hp => ?_, ?_, fun p hp q hq => ?_⟩
  · rcases List.mem_cons.mp hp with rfl | hp
    · exact ⟨⟨o, ho, hP⟩, haL, haG⟩
    · obtain ⟨⟨o, e, h1⟩, r⟩ := O.has p hp; exact ⟨⟨o, hk _ _ r.2 r.1 e, h1⟩, r⟩
  · obtain ⟨⟨o, e, h1⟩, r⟩ := O.hasI p hp; exact ⟨⟨o, hk _ _ r.2 r.1 e, h1⟩, r⟩
  · refine List.nodup_cons.mpr ⟨fun h => ?_, O.nd⟩
    obtain ⟨q, hq, e⟩ := List.mem_map.mp h
    exact hlt (O.has q hq).1 e
  · rcases List.mem_cons.mp hp with rfl | hp
    · exact (hlt (O.hasI q hq).1).symm
    · exact O.ap p hp q hq
theorem Ow.freshK {a : Addr} {P : Obj → Prop} (O : Ow c L m Γ I s) {h' : Heap} {tk : Nat} (hk : ∀ b o, s.heap.get? b = some o → h'.get? b = some o)
    (ha : s.heap.objs.size ≤ a) {o : Obj} (ho : h'.get? a = some o) (hP : P o) : Ow c L m ((a, P) :: Γ) I { s with heap := h', toks := tk } :=
  O.fresh (O.keeps (tk := tk) hk).fr (fun b o _ _ e => hk b o e) ha ho hP
/-- nothing of the ledger turns -/
theorem Ow.same (O : Ow c L m Γ I s) {h' : Heap} {tk : Nat} (F' : ∃ m', Fr c.G L h' m' ∧ Mt m' m) (hk : ∀ b o, c.G.objs.size ≤ b → b ≠ L → s.heap.get? b = some o → h'.get? b = some o) : Ow c L m Γ I { s with heap := h', toks := tk } :=
  ⟨O.gens, O.os, F', fun p hp => let ⟨⟨o, e, h1⟩, r⟩ := O.has p hp; ⟨⟨o, hk _ _ r.2 r.1 e, h1⟩, r⟩, fun p hp => let ⟨⟨o, e, h1⟩, r⟩ := O.hasI p hp; ⟨⟨o, hk _ _ r.2 r.1 e, h1⟩, r⟩, O.nd, O.ap⟩
end

/-- room for calls -/
structure Room (n : Nat) (A : Around) : Prop where
  handled : A.handled = none
  depth : A.depth + 2 * n ≤ 900
  units : A.units + 20 * n ≤ 9000
theorem Room.deeper {n A env} (h : Room (n + 1) A) : Room n (A.deeper env) := ⟨h.handled, by have := h.depth; show A.depth + 1 + _ ≤ _; lia, by have := h.units; show A.units + 3 + _ ≤ _; lia⟩
theorem Room.in1 {n A} (h : Room (n + 1) A) : Room n A.in1 := ⟨h.handled, by have := h.depth; show A.depth + _ ≤ _; lia, by have := h.units; show A.units + 1 + _ ≤ _; lia⟩
theorem Room.le {n k A} (h : Room n A) (hk : k ≤ n) : Room k A := ⟨h.handled, by have := h.depth; lia, by have := h.units; lia⟩
theorem Room.lim {n A} (h : Room n A) : A.depth < recursionLimit := by have := h.depth; unfold recursionLimit; lia
theorem Room.line {n A} (h : Room n A) : A.units < cLine := by have := h.units; unfold cLine; lia

/-! kinds of objects -/
/-- a list of which f tells the items -/
noncomputable def isLm {α : Type} (f : α → AV) (xs : List α) (o : Obj) : Prop := ∃ vs n, AVs (xs.map f) vs ∧ o = { cls := .type "list", data := .seq vs.toArray n }
noncomputable abbrev isInts : List Int → Obj → Prop := isLm AV.i
noncomputable abbrev isRefs : List Addr → Obj → Prop := isLm rf
noncomputable abbrev isLA : List AV → Obj → Prop := isLm id
noncomputable def isT (as : List AV) (o : Obj) : Prop := ∃ vs n, AVs as vs ∧ o = { cls := .type "tuple", data := .seq vs.toArray n }
noncomputable def isI (C dx : Addr) (o : Obj) : Prop := o = instObj C dx
noncomputable def AO : Option AV → Option Value → Prop
  | none, v => v = none
  | some a, v => ∃ u, v = some u ∧ a.is u
/-- the dict of an object made -/
noncomputable def isF (fm : FM) (o : Obj) : Prop := ∃ es n, o = dictOf es n ∧ StrKeys es.toArray ∧ es.length ≤ fm.length ∧ ∀ x, AO (gl fm x) (nsFind es.toArray x)
theorem AO.set {fm : FM} {g : Str → Option Value} (h : ∀ x, AO (gl fm x) (g x)) {y a v} (hv : a.is v) : ∀ x, AO (gl (sl fm y a) x) (if x = y then some v else g x) := fun x => by
  rw [gl_sl]
  by_cases hx : x = y
  · rw [if_pos hx, if_pos hx]; exact ⟨v, rfl, hv⟩
  · rw [if_neg hx, if_neg hx]; exact h x

/-- a tree that reads alone: it comes back with R, the ledger as it was -/
noncomputable def Pu (c : Cx) (A : Around) (L : Addr) (m : FM) (Γ I : Led) {α : Type} (t : Sem α) (R : α → Prop) : Prop :=
  ∀ (Q : α → Shared → Prop) (E : Value → Shared → Prop) s, Ow c L m Γ I s → (∀ v s', R v → Ow c L m Γ I s' → Q v s') → wpAny c.M A t Q E s
noncomputable def PE (c : Cx) (A : Around) (env : Env) (m : FM) (Γ I : Led) (e : Expr) (a : AV) : Prop := Pu c A env.locals m Γ I (eval e env) a.is
noncomputable def PB (c : Cx) (A : Around) (env : Env) (m : FM) (Γ I : Led) (e : Expr) (b : Bool) : Prop := Pu c A env.locals m Γ I (isTrue e env (eval e env)) (· = b)

section
variable {c : Cx} {A : Around} {env : Env} {L : Addr} {m : FM} {Γ I : Led} {s : Shared} {pos : Pos}

theorem pe_int {n : Int} {k} : PE c A env m Γ I (.Constant (.int n) k pos) (.i n) := fun _ _ _ O h => wpAny_Constant_int (h _ _ ⟨_, rfl⟩ O.tok)
theorem pe_none {k} : PE c A env m Γ I (.Constant .none k pos) nn := fun _ _ _ O h => wpAny_Constant_none (h _ _ rfl O)
theorem pe_bool {b k} : PE c A env m Γ I (.Constant (.bool b) k pos) (bo b) := fun _ _ _ O h => wpAny_Constant_bool (h _ _ rfl O)
theorem pe_str {x k} : PE c A env m Γ I (.Constant (.str x) k pos) (.s x) := fun _ _ _ O h => wpAny_Constant_str (h _ _ ⟨_, rfl⟩ O.tok)

theorem pe_local {x : Str} {a : AV} (hv : gl m x = some a) (hk : env.scope.kind = .function := by rfl) (hl : env.kindOf x = some .local := by rfl) (hd : (x == ("__debug__" : Str)) = false := by rfl) :
    PE c A env m Γ I (.Name x pos) a := fun _ _ _ O h => by
  obtain ⟨q, F, M⟩ := O.fr
  obtain ⟨v, h1, h2⟩ := M x a hv
  exact wpAny_Name (wpAny_loadName_local hk hl F.ns h1 (h _ _ h2 O)) hd
theorem pe_global {x : Str} {v : Value} (hv : nsIn (Mine.K c.w.params) mainGlobals x = some (some v)) (hg : env.globals = mainGlobals := by rfl) (hk : env.scope.kind = .function := by rfl) (hl : env.kindOf x = some .globalImplicit := by rfl) (hd : (x == ("__debug__" : Str)) = false := by rfl) :
    PE c A env m Γ I (.Name x pos) (.v v) := fun _ _ _ O h => Name_function_global hk hl (loadGlobal_global (mg := c.mg) (by rw [hg]; exact c.g.keeps O.keep) (mg_of c.kin c.g hv) (h _ _ rfl O)) hd
theorem pe_globalS {x y : Str} (hv : ∃ t, nsIn (Mine.K c.w.params) mainGlobals x = some (some (.str y t))) (hg : env.globals = mainGlobals := by rfl) (hk : env.scope.kind = .function := by rfl) (hl : env.kindOf x = some .globalImplicit := by rfl) (hd : (x == ("__debug__" : Str)) = false := by rfl) :
    PE c A env m Γ I (.Name x pos) (.s y) := fun _ _ _ O h => by
  obtain ⟨t, hv⟩ := hv
  exact Name_function_global hk hl (loadGlobal_global (mg := c.mg) (by rw [hg]; exact c.g.keeps O.keep) (mg_of c.kin c.g hv) (h _ _ ⟨t, rfl⟩ O)) hd
theorem pe_builtin {x : Str} {v : Value} (hv : nsIn (Mine.K c.w.params) mainGlobals x = some none) (hb : bootBuiltins x = some v) (hn : x ≠ "__name__") (hg : env.globals = mainGlobals := by rfl) (hbn : env.builtins = builtinsNs := by rfl)
    (hk : env.scope.kind = .function := by rfl) (hl : env.kindOf x = some .globalImplicit := by rfl) (hd : (x == ("__debug__" : Str)) = false := by rfl) :
    PE c A env m Γ I (.Name x pos) (.v v) := fun _ _ _ O h => Name_function_global hk hl (loadGlobal_builtin (mg := c.mg) (mb := c.mb) (by rw [hg]; exact c.g.keeps O.keep) (mg_none_of c.kin c.g hv) (by rw [hbn]; exact c.b.keeps O.keep) ((c.boot x hn).trans hb) (h _ _ rfl O)) hd

/-- class C knows no f of its own: f is the object's -/
structure AttrF (K : Frag) (C : Addr) (f : Str) : Prop where
  pg : plainGet K C f = true
  hd : hasDictIn K C = true
  fi : findIn K (.ref C) f = some none
structure SetF (K : Frag) (C : Addr) (f : Str) : Prop where
  sa : findIn K (.ref C) "__setattr__" = some (some (.builtin "object.__setattr__"))
  po : plainOver K C = true
  tk : takerIn K C f = some none
  hd : hasDictIn K C = true
structure MethF (K : Frag) (C : Addr) (f : Str) (fn : Addr) : Prop where
  pg : plainGet K C f = true
  fi : findIn K (.ref C) f = some (some (.ref fn))
  ft : isFn K (.ref fn) = true

theorem getL_of {es : List DictEntry} (hk : StrKeys es.toArray) (y : Str) : getL y es = some (nsFind es.toArray y) := by
  have hy : nsFind es.toArray y = nsFind es.toArray y := rfl
  unfold nsFind findBy at hy
  rw [List.find?_toArray] at hy
  unfold getL nsFind findBy
  rw [List.find?_toArray]
  cases hf : es.find? (·.key.isStr y) with
  | some e => rfl
  | none =>
    have : es.any (·.refKey) = false := by
      rw [List.any_eq_false]
      intro e he
      obtain ⟨n, t, q⟩ := hk e (by simpa using he)
      simp [DictEntry.refKey, q]
    simp [this]
theorem instAt {x C d : Addr} {fm : FM} (O : Ow c L m Γ I s) (hx : In2 x (isI C d) Γ I) (hd : In2 d (isF fm) Γ I) :
    ∃ es n, InstAt s.heap x (instObj C d) C (some (dictOf es n)) ∧ (∀ name, getL name es = some (nsFind es.toArray name)) ∧ ∀ x, AO (gl fm x) (nsFind es.toArray x) := by
  obtain ⟨o, ho, rfl⟩ := O.get2 hx
  obtain ⟨od, hod, es, n, rfl, h1, h2, h3⟩ := O.get2 hd
  exact ⟨es, n, ⟨ho, rfl, rfl, hod⟩, getL_of h1, h3⟩

theorem pu_attr {x C d : Addr} {fm : FM} {f : Str} {a : AV} {expr : Bool} (hx : In2 x (isI C d) Γ I) (hd : In2 d (isF fm) Γ I) (hc : AttrF (Mine.K c.w.params) C f) (hv : gl fm f = some a) (hh : a.ok = true) :
    Pu c A L m Γ I (getAttr (.ref x) f expr) a.is := fun _ _ _ O h => by
  obtain ⟨es, n, IA, he, hA⟩ := instAt O hx hd
  have := hA f
  rw [hv] at this
  obtain ⟨u, h1, h2⟩ := this
  obtain ⟨q, F, M⟩ := O.fr
  exact get_own F c.kin IA hc.pg hc.hd hc.fi rfl ((he f).trans (by rw [h1])) (AV.handed h2 hh) (h _ _ h2 O.tok)

theorem pe_attr {o : Expr} {x C d : Addr} {fm : FM} {f : Str} {a : AV} (ho : PE c A env m Γ I o (rf x)) (hx : In2 x (isI C d) Γ I) (hd : In2 d (isF fm) Γ I) (hc : AttrF (Mine.K c.w.params) C f) (hv : gl fm f = some a) (hh : a.ok = true)
    (he : eval (.Attribute o f pos) env = (do
      let o' ← eval o env
      standAt pos.atName
      let r ← holding [o'] (getAttr o' f true)
      letTemporaryGo o o' r
      pure r) := by with_unfolding_all rfl) : PE c A env m Γ I (.Attribute o f pos) a := fun _ _ _ O h =>
  Attribute_any_ (ho _ _ _ O fun v' s' e O' => by cases e; exact pu_attr hx hd hc hv hh _ _ _ O' fun v s'' e O'' => h _ _ e O'') he

/-! calls of the text's defs -/
theorem call_fn {oc : Value} {od : Option Addr} {osl : Array (Option Value)} {f : Addr} {name qual : Str} {params : Arguments} {body : List Stmt} {scope : Scope} {dV kV doc pm cdv ct : Value} {an : Option Addr} {n : Nat}
    {args : List Value} {kw : List (Str × Value)} {binds : List (Str × Value)} {fm : FM} {Q : Value → Shared → Prop} {E : Value → Shared → Prop}
    (hA : Room (n + 1) A) (O : Ow c L m Γ I s)
    (ho : (Mine.K c.w.params).lookup f = some ⟨oc, od, .func (fnOf name qual params body scope dV kV doc pm an cdv ct), osl⟩) (hcd : codeIn (Mine.K c.w.params) cdv qual = true)
    (hbind : BindsTo s (fnOf name qual params body scope dV kV doc pm an cdv ct) ⟨args, kw⟩ binds) (hM : MtB binds fm) (hn : nodupB binds = true) (hloc : ∀ y ∈ binds, scope.names.lookup y.1 = some .local)
    (hcell : ∀ x ∈ scope.names, x.2 ≠ .cell) (hco : scope.isCoroutine = false) (hgen : scope.isGenerator = false) (hk : scope.kind = .function)
    (h : ∀ L' s', Room n (A.deeper (envOf qual scope L' f cdv)) → Ow c L' fm ((L, isNs m) :: Γ) I s' →
      wpAny c.M (A.deeper (envOf qual scope L' f cdv)) (execs body (envOf qual scope L' f cdv)) (fun fl s'' => Q (match fl with | .ret v => v | _ => .none) s'') (fun _ _ => False) s') :
    wpAny c.M A (call (.ref f) args kw) Q E s := by
  refine wpAny_call ?_
  refine codeAny_call_def (fd := fnOf name qual params body scope dV kV doc pm an cdv ct) (body := body) (binds := binds) hA.lim ((c.kin.keeps O.keep) _ _ ho) rfl (c.nolimit.keeps O.keep) (codeRec_of (c.kin.keeps O.keep) hcd) rfl hbind hcell hloc (fun h₁ hns hk₁ => ?_) hco hgen hk
  exact wpAny_mono (h s.heap.objs.size _ hA.deeper (O.enter (Nat.le_refl _) hns (hM.mt hn) hk₁)) (fun fl s' z => z) fun _ _ z => z.elim
end

noncomputable abbrev plainArgs (es : List Expr) : Bool := es.all fun e => match e with | .Starred .. => false | _ => true

/-- the arguments of a call, each read alone -/
noncomputable def PL (c : Cx) (A : Around) (env : Env) (m : FM) (Γ I : Led) (es : List Expr) (as : List AV) : Prop :=
  ∀ pos, Pu c A env.locals m Γ I (spliced (backTo pos (starEach es env))) (AVs as)

section
variable {c : Cx} {A : Around} {env : Env} {L : Addr} {m : FM} {Γ I : Led} {s : Shared} {pos : Pos} {Q : Value → Shared → Prop} {E : Value → Shared → Prop}

theorem pl_nil : PL c A env m Γ I [] [] := fun _ _ _ _ O h => wpAny_items_nil (h _ _ .nil O)
theorem pl_cons {e es a as} (he : PE c A env m Γ I e a) (hr : PL c A env m Γ I es as) (hs : starEach (e :: es) env = (false, eval e env) :: starEach es env := by rfl) : PL c A env m Γ I (e :: es) (a :: as) :=
  fun pos _ _ _ O h => wpAny_items_cons (he _ _ _ O fun v s' hv O' => hr pos _ _ _ O' fun vs s'' hvs O'' => h _ _ (.cons hv hvs) O'') hs

theorem splicedPlain {es : List Expr} (h : plainArgs es = true) : (backTo pos (starEach es env)).any (·.1) = false := by
  induction es with
  | nil => rfl
  | cons e r ih =>
    simp only [plainArgs, List.all_cons, Bool.and_eq_true] at h
    have hr := ih h.2
    cases e <;> first | (cases h.1; done) | (show (false || (backTo pos (starEach r env)).any (·.1)) = false; rw [hr]; rfl)
theorem evalArgs_any {M : Model} {f : Value} {l : List (Bool × Sem Value)} {Q : Args → Shared → Prop} (hp : l.any (·.1) = false) (h : wpAny M A (spliced l) (fun vs s' => Q ⟨vs, []⟩ s') E s) : wpAny M A (evalArgs f true l []) Q E s := by
  cases l with
  | nil =>
    unfold evalArgs
    show wpAny M A (spliced [] >>= _) Q E s
    refine wpAny_bind (wpAny_mono h (fun vs s' h' => ?_) fun _ _ x => x)
    refine wpAny_holding ?_
    exact wpAny_bind (wpAny_pure (wpAny_bind (wpAny_pure (wpAny_pure h'))))
  | cons x r =>
    obtain ⟨b, t⟩ := x
    cases b
    · exact evalArgs_plain h
    · simp at hp

/-- a call of a def or a class of the text's -/
theorem cl_ref {f : Expr} {fa : Addr} {args : List Expr} {as : List AV} (O : Ow c env.locals m Γ I s) (hf : PE c A env m Γ I f (rf fa)) (hk : keepIn (Mine.K c.w.params) (.ref fa) = true)
    (ha : PL c A env m Γ I args as) (h : ∀ vs s', AVs as vs → Ow c env.locals m Γ I s' → wpAny c.M A (call (.ref fa) vs []) Q E s')
    (he : eval (.Call f args [] pos) env = (do callWith pos (← eval f env) [] (backTo pos (starEach args env)) (backToKw pos (keywordEach [] env))) := by rfl)
    (hp : plainArgs args = true := by rfl) :
    wpAny c.M A (eval (.Call f args [] pos) env) Q E s := by
  refine Call_ ?_ he
  refine hf _ _ _ O fun v s' e O' => ?_
  cases e
  refine callWith_of (P := fun h => (Mine.K c.w.params).In h) (by rw [splicedPlain hp]; rfl) (keeps_K hk) (evalArgs_any (splicedPlain hp) (ha pos _ _ _ O' fun vs s'' hv O'' => ⟨c.kin.keeps O''.keep, h vs s'' hv O''⟩))

/-- a call of a method of the text's -/
theorem cl_meth {o : Expr} {x C d fa : Addr} {fm : FM} {name : Str} {apos : Pos} {pl : Sem Bool} {args : List Expr} {as : List AV} (O : Ow c env.locals m Γ I s) (ho : PE c A env m Γ I o (rf x)) (hx : In2 x (isI C d) Γ I) (hd : In2 d (isF fm) Γ I)
    (hm : MethF (Mine.K c.w.params) C name fa) (hk : keepIn (Mine.K c.w.params) (.ref fa) = true) (hn : gl fm name = none)
    (ha : PL c A env m Γ I args as) (h : ∀ vs s', AVs (rf x :: as) vs → Ow c env.locals m Γ I s' → wpAny c.M A (call (.ref fa) vs []) Q E s')
    (he : eval (.Call (.Attribute o name apos) args [] pos) env = (do
      let ov ← eval o env
      standAt apos.atName
      let (f, first) ← holding [ov] (getMethod ov name pl)
      callWith pos f first (backTo pos (starEach args env)) []) := by rfl)
    (hp : plainArgs args = true := by rfl) :
    wpAny c.M A (eval (.Call (.Attribute o name apos) args [] pos) env) Q E s := by
  refine MethodCall_ ?_ he
  refine ho _ _ _ O fun v s' e O' => ?_
  cases e
  obtain ⟨es, n, IA, hes, hA⟩ := instAt O' hx hd
  have h0 := hA name
  rw [hn] at h0
  obtain ⟨q, F, M⟩ := O'.fr
  refine method_inst F c.kin IA hm.pg hm.fi hm.ft ((hes name).trans (by rw [h0])) ?_
  refine callWith_of (P := fun h => (Mine.K c.w.params).In h) (by rw [splicedPlain hp]; rfl) (keeps_K hk) (evalArgs_any (splicedPlain hp) (ha pos _ _ _ O' fun vs s'' hv O'' => ⟨c.kin.keeps O''.keep, h (.ref x :: vs) s'' (.cons rfl hv) O''⟩))

/-- a call of a built-in function or class -/
theorem cl_bi {f : Expr} {id : String} {args : List Expr} {as : List AV} (O : Ow c env.locals m Γ I s) (hf : PE c A env m Γ I f (.v (.builtin id)))
    (ha : PL c A env m Γ I args as) (h : ∀ vs s', AVs as vs → Ow c env.locals m Γ I s' → wpAny c.M A (call (.builtin id) vs []) Q E s')
    (he : eval (.Call f args [] pos) env = (do callWith pos (← eval f env) [] (backTo pos (starEach args env)) (backToKw pos (keywordEach [] env))) := by rfl)
    (hp : plainArgs args = true := by rfl) :
    wpAny c.M A (eval (.Call f args [] pos) env) Q E s := by
  refine Call_ ?_ he
  refine hf _ _ _ O fun v s' e O' => ?_
  cases e
  exact callWith_builtin (splicedPlain hp) (evalArgs_any (splicedPlain hp) (ha pos _ _ _ O' fun vs s'' hv O'' => h vs s'' hv O''))
theorem cl_ty {f : Expr} {id : String} {args : List Expr} {as : List AV} (O : Ow c env.locals m Γ I s) (hf : PE c A env m Γ I f (.v (.type id)))
    (ha : PL c A env m Γ I args as) (h : ∀ vs s', AVs as vs → Ow c env.locals m Γ I s' → wpAny c.M A (call (.type id) vs []) Q E s')
    (he : eval (.Call f args [] pos) env = (do callWith pos (← eval f env) [] (backTo pos (starEach args env)) (backToKw pos (keywordEach [] env))) := by rfl)
    (hp : plainArgs args = true := by rfl) :
    wpAny c.M A (eval (.Call f args [] pos) env) Q E s := by
  refine Call_ ?_ he
  refine hf _ _ _ O fun v s' e O' => ?_
  cases e
  exact PySem.callWith_type (splicedPlain hp) (evalArgs_any (splicedPlain hp) (ha pos _ _ _ O' fun vs s'' hv O'' => h vs s'' hv O''))

/-! the same, where the call reads alone -/
theorem pe_ref {f : Expr} {fa : Addr} {args : List Expr} {as : List AV} {a : AV} (hf : PE c A env m Γ I f (rf fa)) (hk : keepIn (Mine.K c.w.params) (.ref fa) = true)
    (ha : PL c A env m Γ I args as) (h : ∀ vs, AVs as vs → Pu c A env.locals m Γ I (call (.ref fa) vs []) a.is)
    (he : eval (.Call f args [] pos) env = (do callWith pos (← eval f env) [] (backTo pos (starEach args env)) (backToKw pos (keywordEach [] env))) := by rfl)
    (hp : plainArgs args = true := by rfl) : PE c A env m Γ I (.Call f args [] pos) a := fun _ _ _ O k => cl_ref O hf hk ha (fun vs s' hv O' => h vs hv _ _ _ O' k) he hp
theorem pe_meth {o : Expr} {x C d fa : Addr} {fm : FM} {name : Str} {apos : Pos} {pl : Sem Bool} {args : List Expr} {as : List AV} {a : AV} (ho : PE c A env m Γ I o (rf x)) (hx : In2 x (isI C d) Γ I) (hd : In2 d (isF fm) Γ I)
    (hm : MethF (Mine.K c.w.params) C name fa) (hk : keepIn (Mine.K c.w.params) (.ref fa) = true) (hn : gl fm name = none)
    (ha : PL c A env m Γ I args as) (h : ∀ vs, AVs (rf x :: as) vs → Pu c A env.locals m Γ I (call (.ref fa) vs []) a.is)
    (he : eval (.Call (.Attribute o name apos) args [] pos) env = (do
      let ov ← eval o env
      standAt apos.atName
      let (f, first) ← holding [ov] (getMethod ov name pl)
      callWith pos f first (backTo pos (starEach args env)) []) := by rfl)
    (hp : plainArgs args = true := by rfl) : PE c A env m Γ I (.Call (.Attribute o name apos) args [] pos) a := fun _ _ _ O k' => cl_meth O ho hx hd hm hk hn ha (fun vs s' hv O' => h vs hv _ _ _ O' k') he hp
theorem pe_bi {f : Expr} {id : String} {args : List Expr} {as : List AV} {a : AV} (hf : PE c A env m Γ I f (.v (.builtin id)))
    (ha : PL c A env m Γ I args as) (h : ∀ vs, AVs as vs → Pu c A env.locals m Γ I (call (.builtin id) vs []) a.is)
    (he : eval (.Call f args [] pos) env = (do callWith pos (← eval f env) [] (backTo pos (starEach args env)) (backToKw pos (keywordEach [] env))) := by rfl)
    (hp : plainArgs args = true := by rfl) : PE c A env m Γ I (.Call f args [] pos) a := fun _ _ _ O k => cl_bi O hf ha (fun vs s' hv O' => h vs hv _ _ _ O' k) he hp
end

section
variable {c : Cx} {A : Around} {env : Env} {L : Addr} {m : FM} {Γ I : Led} {s : Shared} {pos : Pos} {E : Value → Shared → Prop}

/-! ints -/
theorem pe_bin {l r : Expr} {a b n : Int} {op : Operator} (hl : PE c A env m Γ I l (.i a)) (hr : PE c A env m Γ I r (.i b))
    (h : ∀ t u, Pu c A env.locals m Γ I (binaryOp op (.int a t) (.int b u)) (AV.i n).is) : PE c A env m Γ I (.BinOp l op r pos) (.i n) := fun _ _ _ O k =>
  wpAny_BinOp (hl _ _ _ O fun v s' hv O' => hr _ _ _ O' fun u s'' hu O'' => by
    obtain ⟨t, rfl⟩ := hv
    obtain ⟨t', rfl⟩ := hu
    exact h t t' _ _ _ O'' k)
theorem pe_add {l r : Expr} {a b : Int} (hl : PE c A env m Γ I l (.i a)) (hr : PE c A env m Γ I r (.i b)) : PE c A env m Γ I (.BinOp l .Add r pos) (.i (a + b)) :=
  pe_bin hl hr fun _ _ _ _ _ O k => P.add_int (k _ _ ⟨_, rfl⟩ O.tok)
theorem pe_sub {l r : Expr} {a b : Int} (hl : PE c A env m Γ I l (.i a)) (hr : PE c A env m Γ I r (.i b)) : PE c A env m Γ I (.BinOp l .Sub r pos) (.i (a - b)) :=
  pe_bin hl hr fun _ _ _ _ _ O k => P.sub_int (k _ _ ⟨_, rfl⟩ O.tok)
/-! tests -/
theorem pb_cmp {l r : Expr} {a a' : AV} {op : CmpOp} {b : Bool} (hl : PE c A env m Γ I l a) (hr : PE c A env m Γ I r a')
    (h : ∀ v u, a.is v → a'.is u → Pu c A env.locals m Γ I (compareOp op v u) (· = .bool b)) (hm : behindInMarks op r = false := by with_unfolding_all rfl) : PB c A env m Γ I (.Compare l [op] [r] pos) b := fun _ _ _ O k =>
  wpAny_isTrue_Compare1 (hl _ _ _ O fun v s' hv O' => hr _ _ _ O' fun u s'' hu O'' => h v u hv hu _ _ _ O'' fun w s₃ hw O₃ => by
    subst hw; exact wpAny_truthy_bool (k _ _ rfl O₃)) hm
theorem pe_cmp {l r : Expr} {a a' : AV} {op : CmpOp} {b : Bool} (hl : PE c A env m Γ I l a) (hr : PE c A env m Γ I r a')
    (h : ∀ v u, a.is v → a'.is u → Pu c A env.locals m Γ I (compareOp op v u) (· = .bool b)) (hm : behindInMarks op r = false := by with_unfolding_all rfl) : PE c A env m Γ I (.Compare l [op] [r] pos) (bo b) := fun _ _ _ O k =>
  wpAny_Compare1 (hl _ _ _ O fun v s' hv O' => hr _ _ _ O' fun u s'' hu O'' => h v u hv hu _ _ _ O'' fun w s₃ hw O₃ => k _ _ hw O₃) hm
theorem cm_int {a b : Int} {op : CmpOp} {r : Bool} (h : ∀ t u, Pu c A L m Γ I (compareOp op (.int a t) (.int b u)) (· = .bool r)) : ∀ v u, (AV.i a).is v → (AV.i b).is u → Pu c A L m Γ I (compareOp op v u) (· = .bool r) := by
  rintro _ _ ⟨t, rfl⟩ ⟨u, rfl⟩; exact h t u
theorem cm_lt {a b : Int} : ∀ v u, (AV.i a).is v → (AV.i b).is u → Pu c A L m Γ I (compareOp .Lt v u) (· = .bool (decide (a < b))) := cm_int fun _ _ _ _ _ O k => P.lt_int (k _ _ rfl O)
theorem cm_le {a b : Int} : ∀ v u, (AV.i a).is v → (AV.i b).is u → Pu c A L m Γ I (compareOp .LtE v u) (· = .bool (decide (a ≤ b))) := cm_int fun _ _ _ _ _ O k => P.le_int (k _ _ rfl O)
theorem cm_gt {a b : Int} : ∀ v u, (AV.i a).is v → (AV.i b).is u → Pu c A L m Γ I (compareOp .Gt v u) (· = .bool (decide (a > b))) := cm_int fun _ _ _ _ _ O k => P.gt_int (k _ _ rfl O)
theorem cm_ge {a b : Int} : ∀ v u, (AV.i a).is v → (AV.i b).is u → Pu c A L m Γ I (compareOp .GtE v u) (· = .bool (decide (a ≥ b))) := cm_int fun _ _ _ _ _ O k => P.ge_int (k _ _ rfl O)
theorem cm_eq {a b : Int} : ∀ v u, (AV.i a).is v → (AV.i b).is u → Pu c A L m Γ I (compareOp .Eq v u) (· = .bool (decide (a = b))) := cm_int fun _ _ _ _ _ O k => P.eq_int (k _ _ rfl O)
theorem cm_ne {a b : Int} : ∀ v u, (AV.i a).is v → (AV.i b).is u → Pu c A L m Γ I (compareOp .NotEq v u) (· = .bool (!decide (a = b))) := cm_int fun _ _ _ _ _ O k => P.ne_int (k _ _ rfl O)
theorem cm_is {x : Value} : ∀ v u, (AV.v x).is v → nn.is u → Pu c A L m Γ I (compareOp .Is v u) (· = .bool (x == .none)) := by
  rintro _ _ rfl rfl; exact fun _ _ _ O k => is_none (k _ _ rfl O)
theorem cm_isNot {x : Value} : ∀ v u, (AV.v x).is v → nn.is u → Pu c A L m Γ I (compareOp .IsNot v u) (· = .bool (!(x == .none))) := by
  rintro _ _ rfl rfl; exact fun _ _ _ O k => isNot_none (k _ _ rfl O)

theorem pb_val {e : Expr} {b : Bool} (he : PE c A env m Γ I e (bo b)) (hi : isTrue e env (eval e env) = (do let v ← eval e env; standAt e.pos; holding [v] (truthy v)) := by rfl) : PB c A env m Γ I e b := fun _ _ _ O k =>
  wpAny_isTrue_value (he _ _ _ O fun v s' hv O' => by cases hv; exact wpAny_truthy_bool (k _ _ rfl O')) hi
theorem pb_not {e : Expr} {b : Bool} (he : PB c A env m Γ I e b) : PB c A env m Γ I (.UnaryOp .Not e pos) (!b) := fun _ _ _ O k =>
  wpAny_isTrue_Not (he _ _ _ O fun v s' hv O' => k _ _ (by rw [hv]) O')
theorem pb_or {x y : Expr} {a b : Bool} (hx : PB c A env m Γ I x a) (hy : a = false → PB c A env m Γ I y b) : PB c A env m Γ I (.BoolOp .Or [x, y] pos) (a || b) := fun _ _ _ O k =>
  wpAny_isTrue_BoolOp (wpAny_allTrue_Or_cons (hx _ _ _ O fun v s' hv O' => by
    subst hv
    cases v
    · exact wpAny_allTrue_Or_cons (hy rfl _ _ _ O' fun v s'' hv O'' => by subst hv; cases v <;> first | exact wpAny_allTrue_Or_nil (k _ _ rfl O'') | exact k _ _ rfl O'')
    · exact k _ _ rfl O'))
theorem pb_and {x y : Expr} {a b : Bool} (hx : PB c A env m Γ I x a) (hy : a = true → PB c A env m Γ I y b) : PB c A env m Γ I (.BoolOp .And [x, y] pos) (a && b) := fun _ _ _ O k =>
  wpAny_isTrue_BoolOp (wpAny_allTrue_And_cons (hx _ _ _ O fun v s' hv O' => by
    subst hv
    cases v
    · exact k _ _ rfl O'
    · exact wpAny_allTrue_And_cons (hy rfl _ _ _ O' fun v s'' hv O'' => by subst hv; cases v <;> first | exact wpAny_allTrue_And_nil (k _ _ rfl O'') | exact k _ _ rfl O'')))

/-! statements -/
variable {Q : Flow → Shared → Prop} {rest : List Stmt}
/-- what comes behind a statement -/
noncomputable abbrev Thn (c : Cx) (A : Around) (env : Env) (rest : List Stmt) (Q : Flow → Shared → Prop) (E : Value → Shared → Prop) (f : Flow) (s' : Shared) : Prop := match f with
  | .next => wpAny c.M A (execs rest env) Q E s'
  | f => Q f s'
theorem st_seq {st : Stmt} (h : wpAny c.M A (exec st env) (Thn c A env rest Q E) E s) : wpAny c.M A (execs (st :: rest) env) Q E s := wpAny_execs_cons (wpAny_mono h (fun f s' h' => by cases f <;> exact h') fun _ _ x => x)
theorem st_nil (h : Q .next s) : wpAny c.M A (execs [] env) Q E s := wpAny_execs_nil h
theorem st_ret {e : Expr} {a : AV} (O : Ow c env.locals m Γ I s) (he : PE c A env m Γ I e a) (h : ∀ v s', a.is v → Ow c env.locals m Γ I s' → Q (.ret v) s') : wpAny c.M A (execs (.Return (some e) pos :: rest) env) Q E s :=
  st_seq (wpAny_Return_some (he _ _ _ O fun v s' hv O' => h v s' hv O'))
theorem st_retNone (h : Q (.ret .none) s) : wpAny c.M A (execs (.Return none pos :: rest) env) Q E s := st_seq (wpAny_Return_none h)
theorem st_store {x : Str} {v : Value} {a : AV} {Q : Unit → Shared → Prop} (O : Ow c env.locals m Γ I s) (hv : a.is v) (h : ∀ s', Ow c env.locals (sl m x a) Γ I s' → Q () s')
    (hl : env.kindOf x = some .local := by rfl) (hp : (env.scope.kind == .class || (env.scope.kind == .module && env.locals != env.globals)) = false := by rfl) : wpAny c.M A (storeName env x v) Q E s := by
  obtain ⟨q, F, M⟩ := O.fr
  exact wpAny_storeName_local hl F.ns (fun h' hn hs => h _ (O.frame hn (M.set hv) hs)) hp
/-- x = e, e read alone -/
theorem st_let {x : Str} {e : Expr} {a : AV} {p' : Pos} (O : Ow c env.locals m Γ I s) (he : PE c A env m Γ I e a) (h : ∀ s', Ow c env.locals (sl m x a) Γ I s' → wpAny c.M A (execs rest env) Q E s')
    (hl : env.kindOf x = some .local := by rfl) (hp : (env.scope.kind == .class || (env.scope.kind == .module && env.locals != env.globals)) = false := by rfl) (hs : swapsWith e (some (.Name x p')) pos.line env = pure false := by rfl) :
    wpAny c.M A (execs (.Assign [.Name x p'] e pos :: rest) env) Q E s :=
  st_seq (wpAny_Assign_Name (he _ _ _ O fun v s' hv O' => st_store O' hv (fun s'' O'' => h s'' O'') hl hp) hs)
theorem st_if {t : Expr} {b : Bool} {body orelse : List Stmt} (O : Ow c env.locals m Γ I s) (ht : PB c A env m Γ I t b)
    (h1 : b = true → ∀ s', Ow c env.locals m Γ I s' → wpAny c.M A (execs body env) (Thn c A env rest Q E) E s')
    (h2 : b = false → ∀ s', Ow c env.locals m Γ I s' → wpAny c.M A (execs orelse env) (Thn c A env rest Q E) E s') : wpAny c.M A (execs (.If t body orelse pos :: rest) env) Q E s :=
  st_seq (wpAny_If (ht _ _ _ O fun v s' hv O' => by
    subst hv
    cases v
    · exact h2 rfl s' O'
    · exact h1 rfl s' O'))
theorem st_ifT {t : Expr} {body orelse : List Stmt} (O : Ow c env.locals m Γ I s) (ht : PB c A env m Γ I t true)
    (h1 : ∀ s', Ow c env.locals m Γ I s' → wpAny c.M A (execs body env) (Thn c A env rest Q E) E s') : wpAny c.M A (execs (.If t body orelse pos :: rest) env) Q E s := st_if O ht (fun _ => h1) fun h => nomatch h
theorem st_ifF {t : Expr} {body orelse : List Stmt} (O : Ow c env.locals m Γ I s) (ht : PB c A env m Γ I t false)
    (h2 : ∀ s', Ow c env.locals m Γ I s' → wpAny c.M A (execs orelse env) (Thn c A env rest Q E) E s') : wpAny c.M A (execs (.If t body orelse pos :: rest) env) Q E s := st_if O ht (fun h => nomatch h) fun _ => h2
theorem st_ifF0 {t : Expr} {body : List Stmt} (O : Ow c env.locals m Γ I s) (ht : PB c A env m Γ I t false)
    (h2 : ∀ s', Ow c env.locals m Γ I s' → wpAny c.M A (execs rest env) Q E s') : wpAny c.M A (execs (.If t body [] pos :: rest) env) Q E s := st_ifF O ht fun s' O' => st_nil (h2 s' O')
/-- a test that calls -/
theorem st_ifc {t : Expr} {body orelse : List Stmt} (h : wpAny c.M A (isTrue t env (eval t env)) (fun b s' => match b with
      | true => wpAny c.M A (execs body env) (Thn c A env rest Q E) E s'
      | false => wpAny c.M A (execs orelse env) (Thn c A env rest Q E) E s') E s) : wpAny c.M A (execs (.If t body orelse pos :: rest) env) Q E s :=
  st_seq (wpAny_If (wpAny_mono h (fun b s' h' => by cases b <;> exact h') fun _ _ x => x))
/-- f(..) as a statement -/
theorem st_expr {e : Expr} (h : wpAny c.M A (eval e env) (fun _ s' => wpAny c.M A (execs rest env) Q E s') E s)
    (hi : interactive env = false := by rfl) (hs : swapsWith e none pos.line env = pure false := by rfl) : wpAny c.M A (execs (.Expr e pos :: rest) env) Q E s :=
  st_seq (wpAny_Expr_any h hi hs)
/-- x = f(..) -/
theorem st_letc {x : Str} {e : Expr} {p' : Pos} (h : wpAny c.M A (eval e env) (fun v s' => wpAny c.M A (storeName env x v) (fun _ s'' => wpAny c.M A (execs rest env) Q E s'') E s') E s)
    (hs : swapsWith e (some (.Name x p')) pos.line env = pure false := by rfl) : wpAny c.M A (execs (.Assign [.Name x p'] e pos :: rest) env) Q E s := st_seq (wpAny_Assign_Name h hs)
theorem st_retc {e : Expr} (h : wpAny c.M A (eval e env) (fun v s' => Q (.ret v) s') E s) : wpAny c.M A (execs (.Return (some e) pos :: rest) env) Q E s := st_seq (wpAny_Return_some h)
end

/-! o.f = v -/
/-- all that the call has made, but for the frame -/
noncomputable def made (G : Heap) (L : Addr) (h : Heap) : List (Addr × Obj) :=
  (List.range h.objs.size).filterMap fun a => if G.objs.size ≤ a ∧ a ≠ L then (h.get? a).map fun o => (a, o) else none
theorem mem_made {G h : Heap} {L a : Addr} {o : Obj} : (a, o) ∈ made G L h ↔ G.objs.size ≤ a ∧ a ≠ L ∧ h.get? a = some o := by
  unfold made
  rw [List.mem_filterMap]
  constructor
  · rintro ⟨b, hb, e⟩
    split at e
    · rename_i hc
      obtain ⟨o', h1, h2⟩ := Option.map_eq_some_iff.mp e
      cases h2
      exact ⟨hc.1, hc.2, h1⟩
    · cases e
  · rintro ⟨h1, h2, h3⟩
    exact ⟨a, List.mem_range.mpr (Heap.lt_size h3), by rw [if_pos ⟨h1, h2⟩, h3]; rfl⟩
theorem made_nodup (G h : Heap) (L : Addr) : ((made G L h).map (·.1)).Nodup := by
  unfold made
  rw [List.map_filterMap]
  have : (fun a => ((if G.objs.size ≤ a ∧ a ≠ L then (h.get? a).map fun o => (a, o) else none).map (·.1))) = fun a => if G.objs.size ≤ a ∧ a ≠ L ∧ (h.get? a).isSome then some a else none := by
    funext a
    by_cases hc : G.objs.size ≤ a ∧ a ≠ L
    · rw [if_pos hc]
      cases hq : h.get? a with
      | none => simp
      | some o => simp [hc.1, hc.2]
    · rw [if_neg hc, if_neg (fun q => hc ⟨q.1, q.2.1⟩)]; rfl
  rw [this]
  have key : ∀ l : List Nat, l.Nodup → (l.filterMap fun a => if G.objs.size ≤ a ∧ a ≠ L ∧ (h.get? a).isSome then some a else none).Nodup := by
    intro l
    induction l with
    | nil => intro _; exact .nil
    | cons x r ih =>
      intro hn
      obtain ⟨h1, h2⟩ := List.nodup_cons.mp hn
      rw [List.filterMap_cons]
      split
      · exact ih h2
      · rename_i b hb
        split at hb
        · cases hb
          refine List.nodup_cons.mpr ⟨fun q => h1 ?_, ih h2⟩
          obtain ⟨y, hy, e⟩ := List.mem_filterMap.mp q
          split at e
          · cases e; exact hy
          · cases e
        · cases hb
  exact key _ List.nodup_range
theorem made_news {c : Cx} {L m Γ I s} (O : Ow c L m Γ I s) : News c.G L s.heap (made c.G L s.heap) := by
  rintro ⟨a, o⟩ hp
  obtain ⟨h1, h2, h3⟩ := mem_made.mp hp
  refine ⟨h3, h2, ?_⟩
  cases hq : c.G.get? a with
  | none => rfl
  | some o' => exact absurd (Heap.lt_size hq) (Nat.not_lt.mpr h1)
theorem upd_of {d : Addr} {o o' : Obj} {l : List (Addr × Obj)} (hn : (l.map (·.1)).Nodup) (hm : (d, o) ∈ l) : ∃ l', Upd d o o' l l' ∧ ∀ p ∈ l, p.1 ≠ d → p ∈ l' := by
  induction l with
  | nil => cases hm
  | cons p l ih =>
    rw [List.map_cons, List.nodup_cons] at hn
    rcases List.mem_cons.mp hm with rfl | hm'
    · refine ⟨(d, o') :: l, .head fun q hq e => hn.1 (List.mem_map.mpr ⟨q, hq, e⟩), fun q hq hne => ?_⟩
      rcases List.mem_cons.mp hq with rfl | hq
      · exact absurd rfl hne
      · exact .tail _ hq
    · obtain ⟨l', U, k⟩ := ih hn.2 hm'
      refine ⟨p :: l', .tail (fun e => hn.1 (List.mem_map.mpr ⟨_, hm', e.symm⟩)) U, fun q hq hne => ?_⟩
      rcases List.mem_cons.mp hq with rfl | hq
      · exact .head _
      · exact .tail _ (k q hq hne)
theorem Upd.mem {d : Addr} {o o' : Obj} {l l' : List (Addr × Obj)} (U : Upd d o o' l l') : (d, o') ∈ l' := by
  induction U with
  | head _ => exact .head _
  | tail _ _ ih => exact .tail _ ih
theorem In2.made {c : Cx} {L m Γ I s} {a : Addr} {P : Obj → Prop} (O : Ow c L m Γ I s) (h : In2 a P Γ I) {o : Obj} (ho : s.heap.get? a = some o) : (a, o) ∈ made c.G L s.heap :=
  mem_made.mpr ⟨(O.off2 h).2, (O.off2 h).1, ho⟩

theorem nsFind_put (name : Str) (hsh : Int) (tk : Tok) (v : Value) (es : List DictEntry) (hk : StrKeys es.toArray) :
    StrKeys (putL name hsh (.str name tk) v es).toArray ∧ ∀ y, nsFind (putL name hsh (.str name tk) v es).toArray y = if y = name then some v else nsFind es.toArray y := by
  rw [← putL_find]
  cases hi : es.findIdx? (fun x => x.key.isStr name) with
  | some i =>
    have e1 : (es.modify i fun e => ⟨e.hash, e.key, v⟩).toArray = es.toArray.modify i fun e => { e with val := v } := by rw [List.modify_toArray]
    refine ⟨by dsimp only; rw [e1]; exact hk.modify i v, fun y => ?_⟩
    dsimp only
    rw [e1]
    unfold nsFind
    rw [findBy_modify (fun n v => v.isStr n) (fun v a b h1 h2 => Value.isStr_inj v a b h1 h2) es.toArray name y v i (by rw [List.findIdx?_toArray]; exact hi)]
  | none =>
    have e1 : (es ++ [(⟨hsh, .str name tk, v⟩ : DictEntry)]).toArray = es.toArray.push ⟨hsh, .str name tk, v⟩ := by simp
    refine ⟨by
      dsimp only
      rw [e1]
      intro e he
      rcases Array.mem_push.mp he with he | rfl
      · exact hk e he
      · exact ⟨name, tk, rfl⟩, fun y => ?_⟩
    dsimp only
    rw [e1]
    unfold nsFind
    rw [findBy_push (fun n v => v.isStr n) es.toArray name y hsh (.str name tk) v (fun y => ?_) (by rw [List.findIdx?_toArray]; exact hi)]
    · by_cases h : y = name
      · subst h; simp [Value.isStr]
      · have : (name == y) = false := by simpa using fun e : name = y => h e.symm
        simp [Value.isStr, h, this]
theorem putL_length (name : Str) (hsh : Int) (key v : Value) : ∀ es : List DictEntry, (putL name hsh key v es).length = if es.any (·.key.isStr name) then es.length else es.length + 1
  | [] => rfl
  | e :: r => by
    simp only [putL, List.any_cons]
    by_cases h : e.key.isStr name = true
    · simp [h]
    · have := putL_length name hsh key v r
      rw [if_neg h, List.length_cons, this]
      simp only [h, Bool.false_or, List.length_cons]
      split <;> rfl
theorem any_of_find {es : List DictEntry} (y : Str) : es.any (·.key.isStr y) = (nsFind es.toArray y).isSome := by
  unfold nsFind findBy
  rw [List.find?_toArray, Option.isSome_map, Bool.eq_iff_iff, List.any_eq_true, List.find?_isSome]
theorem AO.isSome {a : Option AV} {v : Option Value} (h : AO a v) : a.isSome = v.isSome := by
  cases a with
  | none => rw [show v = none from h]; rfl
  | some a => obtain ⟨u, rfl, _⟩ := h; rfl

section
variable {c : Cx} {A : Around} {env : Env} {L : Addr} {m : FM} {Γ I : Led} {s : Shared} {pos : Pos} {E : Value → Shared → Prop} {C' : (Obj → Prop) → Led}
/-- x.f = v, where x's dict stands in Γ -/
theorem su_attr {x C d : Addr} {fm : FM} {f : Str} {v : Value} {a : AV} {Q : Unit → Shared → Prop} (O : Ow c L m Γ I s) (hv : a.is v) (hx : In2 x (isI C d) Γ I) (hd : PutC d (isF fm) Γ C') (hc : SetF (Mine.K c.w.params) C f)
    (hz : fm.length ≤ 800) (h : ∀ s', Ow c L m (C' (isF (sl fm f a))) I s' → Q () s') : wpAny c.M A (setAttr (.ref x) f v) Q E s := by
  obtain ⟨ox, hox, rfl⟩ := O.get2 hx
  obtain ⟨od, hod, es, n, rfl, h1, h3, h2⟩ := O.get hd.mem
  have hxm : (x, instObj C d) ∈ made c.G L s.heap := hx.made O hox
  have hdm : (d, dictOf es n) ∈ made c.G L s.heap := In2.made O (.inl hd.mem) hod
  obtain ⟨news', U, ku⟩ := upd_of (o' := dictOf (putL f (PyData.keyHash c.w.params f) (.str f (s.toks + 1)) v es) (putN f es n)) (made_nodup c.G s.heap L) hdm
  have hn := nsFind_put f (PyData.keyHash c.w.params f) (s.toks + 1) v es h1
  have hlen : (putL f (PyData.keyHash c.w.params f) (.str f (s.toks + 1)) v es).length ≤ (sl fm f a).length := by
    rw [putL_length, any_of_find, ← (h2 f).isSome, sl_length]
    split <;> lia
  have hlen2 : (sl fm f a).length ≤ 801 := by rw [sl_length]; split <;> lia
  obtain ⟨q, F, M⟩ := O.fr
  refine set_dict F c.kin (made_news O) (InstAt.of_news (made_news O) hxm hdm) rfl hc.sa hc.po hc.tk hc.hd (by rw [getL_of h1]; rfl) rfl U (by lia) fun h' F' N' => ?_
  refine h _ (O.putN (hd.put _) ⟨q, F', M⟩ (fun b o q1 q2 q3 q4 => (N' _ (ku (b, o) (mem_made.mpr ⟨q1, q2, q4⟩) q3)).1) (N' _ (Upd.mem U)).1 ⟨_, _, rfl, hn.1, hlen, fun y => ?_⟩)
  rw [hn.2]; exact AO.set h2 hv y
theorem st_attr {value o : Expr} {x C d : Addr} {fm : FM} {f : Str} {a : AV} {Q : Flow → Shared → Prop} {rest : List Stmt} {p' : Pos} (O : Ow c env.locals m Γ I s) (hv : PE c A env m Γ I value a) (ho : PE c A env m Γ I o (rf x))
    (hx : In2 x (isI C d) Γ I) (hd : PutC d (isF fm) Γ C') (hc : SetF (Mine.K c.w.params) C f) (hz : fm.length ≤ 800)
    (h : ∀ s', Ow c env.locals m (C' (isF (sl fm f a))) I s' → wpAny c.M A (execs rest env) Q E s')
    (hs : swapsWith value (some (.Attribute o f p')) pos.line env = pure false := by rfl) :
    wpAny c.M A (execs (.Assign [.Attribute o f p'] value pos :: rest) env) Q E s :=
  st_seq (plainObj_wpAny_Assign_Attribute (hv _ _ _ O fun v s₁ hv' O₁ => ho _ _ _ O₁ fun u s₂ hu O₂ => by cases hu; exact su_attr O₂ hv' hx hd hc hz fun s' O' => h s' O') hs)
/-- the value is made on the way -/
theorem st_attrC {value o : Expr} {f : Str} {Q : Flow → Shared → Prop} {rest : List Stmt} {p' : Pos}
    (h : wpAny c.M A (eval value env) (fun v s₁ => wpAny c.M A (eval o env) (fun ov s₂ => wpAny c.M A (setAttr ov f v) (fun _ => Thn c A env rest Q E .next) E s₂) E s₁) E s)
    (hs : swapsWith value (some (.Attribute o f p')) pos.line env = pure false := by rfl) :
    wpAny c.M A (execs (.Assign [.Attribute o f p'] value pos :: rest) env) Q E s := st_seq (plainObj_wpAny_Assign_Attribute h hs)
theorem ss_attr {o : Expr} {x C d : Addr} {fm : FM} {f : Str} {v : Value} {a : AV} {Q : Unit → Shared → Prop} (O : Ow c env.locals m Γ I s) (hv : a.is v) (ho : PE c A env m Γ I o (rf x))
    (hx : In2 x (isI C d) Γ I) (hd : PutC d (isF fm) Γ C') (hc : SetF (Mine.K c.w.params) C f) (hz : fm.length ≤ 800)
    (h : ∀ s', Ow c env.locals m (C' (isF (sl fm f a))) I s' → Q () s') :
    wpAny c.M A (eval o env) (fun ov s₂ => wpAny c.M A (setAttr ov f v) Q E s₂) E s := ho _ _ _ O fun u s₂ hu O₂ => by cases hu; exact su_attr O₂ hv hx hd hc hz h
end

/-- a list cut as Python cuts it (places from nought up) -/
noncomputable def cut {α : Type} (xs : List α) : Option Nat → Option Nat → List α
  | none, none => xs
  | none, some b => xs.take b
  | some a, none => xs.drop a
  | some a, some b => (xs.drop a).take (b - a)
theorem cut_length_le {α : Type} (xs : List α) (a b : Option Nat) : (cut xs a b).length ≤ xs.length := by
  cases a <;> cases b <;> simp [cut, List.length_take, List.length_drop] <;> lia
theorem drop_take_min {α : Type} (xs : List α) (a b : Nat) : (xs.drop (min a xs.length)).take (min b xs.length - min a xs.length) = (xs.drop a).take (b - a) := by
  by_cases h : a ≤ xs.length
  · rw [Nat.min_eq_left h, List.take_eq_take_iff, List.length_drop]; lia
  · have h' : xs.length ≤ a := by lia
    rw [Nat.min_eq_right h', List.drop_eq_nil_of_le h', List.drop_eq_nil_of_le (Nat.le_refl _)]; simp
theorem slicePick_cut (items : Array Value) (a b : Option Nat) : slicePick items (a.map Int.ofNat) (b.map Int.ofNat) none = (cut items.toList a b).toArray := by
  have key : ∀ x y : Nat, sliceBounds (a.map Int.ofNat) (b.map Int.ofNat) none items.size = ((x : Int), (y : Int), 1) → slicePick items (a.map Int.ofNat) (b.map Int.ofNat) none = ((items.toList.drop x).take (y - x)).toArray := by
    intro x y e
    unfold slicePick
    rw [e]
    simp only [sliceRange_one, pick_run]
  have hl : items.toList.length = items.size := Array.length_toList
  cases a with
  | none =>
    cases b with
    | none =>
      rw [key 0 items.size (by simp [sliceBounds])]
      simp only [cut, List.drop_zero, Nat.sub_zero]
      rw [List.take_of_length_le (by lia)]
    | some b =>
      rw [key 0 (min b items.size) (by simp [sliceBounds]; lia)]
      simp only [cut, List.drop_zero, Nat.sub_zero]
      rw [← hl, show items.toList.take (min b items.toList.length) = items.toList.take b by rw [List.take_eq_take_iff]; lia]
  | some a =>
    cases b with
    | none =>
      rw [key (min a items.size) items.size (by simp [sliceBounds]; lia)]
      simp only [cut]
      rw [← hl]
      have := drop_take_min items.toList a items.toList.length
      rw [Nat.min_self] at this
      rw [this, List.take_of_length_le (by simp)]
    | some b =>
      rw [key (min a items.size) (min b items.size) (by simp [sliceBounds]; lia)]
      simp only [cut]
      rw [← hl, drop_take_min]


theorem AVs.cut {as vs} (h : AVs as vs) (a b : Option Nat) : AVs (cut as a b) (cut vs a b) := by
  cases a <;> cases b <;> simp only [Mine.cut]
  · exact h
  · exact h.take _
  · exact h.drop _
  · exact (h.drop _).take _
theorem cut_map {α β : Type} (f : α → β) (xs : List α) (a b : Option Nat) : cut (xs.map f) a b = (cut xs a b).map f := by
  cases a <;> cases b <;> simp [Mine.cut, List.map_take, List.map_drop]
noncomputable def lim : Nat := 1000000
theorem lim_line {n : Nat} (h : n ≤ lim) : n ≤ sizeLine := by unfold lim at h; rw [sizeLine_eq]; lia

section
variable {α : Type} {f : α → AV} {c : Cx} {A : Around} {env : Env} {L : Addr} {m m' : FM} {Γ Γ' I : Led} {s : Shared} {pos p : Pos} {Q : Value → Shared → Prop} {E : Value → Shared → Prop} {C' : (Obj → Prop) → Led}
theorem Ow.lst {l : Addr} {xs : List α} (O : Ow c L m Γ I s) (hl : In2 l (isLm f xs) Γ I) : ∃ vs n, AVs (xs.map f) vs ∧ s.heap.get? l = some { cls := .type "list", data := .seq vs.toArray n } := by
  obtain ⟨o, ho, vs, n, h, rfl⟩ := O.get2 hl; exact ⟨vs, n, h, ho⟩
theorem Ow.tup {t : Addr} {as : List AV} (O : Ow c L m Γ I s) (hl : In2 t (isT as) Γ I) : ∃ vs n, AVs as vs ∧ IsTup s.heap t vs.toArray ∧ s.heap.get? t = some { cls := .type "tuple", data := .seq vs.toArray n } := by
  obtain ⟨o, ho, vs, n, h, rfl⟩ := O.get2 hl; exact ⟨vs, n, h, ⟨_, ho, rfl, n, rfl⟩, ho⟩

theorem ci_len {l : Addr} {xs : List α} (hl : In2 l (isLm f xs) Γ I) (hz : xs.length ≤ lim) : Pu c A L m Γ I (call (.builtin "len") [.ref l]) (AV.i xs.length).is := fun _ _ _ O k => by
  obtain ⟨vs, n, hi, ho⟩ := O.lst hl
  have he := hi.length
  rw [List.length_map] at he
  exact call_len_list ⟨_, ho, rfl, n, rfl⟩ (by rw [List.size_toArray]; unfold lim at hz; lia) (k _ _ ⟨_, by rw [List.size_toArray, he]⟩ O.tok)
theorem pe_len {g : Expr} {e : Expr} {l : Addr} {xs : List α} (hf : PE c A env m Γ I g (.v (.builtin "len"))) (he : PE c A env m Γ I e (rf l)) (hl : In2 l (isLm f xs) Γ I) (hz : xs.length ≤ lim)
    (h1 : eval (.Call g [e] [] pos) env = (do callWith pos (← eval g env) [] (backTo pos (starEach [e] env)) (backToKw pos (keywordEach [] env))) := by rfl)
    (hp : plainArgs [e] = true := by rfl) (hs : starEach [e] env = (false, eval e env) :: starEach [] env := by rfl) : PE c A env m Γ I (.Call g [e] [] pos) (.i xs.length) :=
  pe_bi hf (pl_cons he pl_nil hs) (fun vs hv => by cases hv; rename_i h1 h2; cases h1; cases h2; exact ci_len hl hz) h1 hp

/-! items -/
theorem pu_item {l : Addr} {xs : List α} {k : Int} {x : α} {value slice : Expr} (hl : In2 l (isLm f xs) Γ I) (h0 : 0 ≤ k) (hz : xs.length ≤ lim) (hn : xs[k.toNat]? = some x) {t : Tok}
    (hs : ∀ u, subscripted slice false (.ref l) (.int k u) = operate [.ref l, .int k u] (getItem (.ref l) (.int k u)) := by intro _; with_unfolding_all rfl) :
    Pu c A L m Γ I (subscriptTail value slice (.ref l) (.int k t)) (f x).is := fun _ _ _ O q => by
  obtain ⟨vs, n', hi', ho⟩ := O.lst hl
  obtain ⟨v, hv, hx⟩ := hi'.get (i := k.toNat) (a := f x) (by rw [List.getElem?_map, hn]; rfl)
  have hlt := (List.getElem?_eq_some_iff.mp hn).1
  have hL : Heap.IsList (Shared.heap _) l vs.toArray := ⟨_, ho, rfl, n', rfl⟩
  exact tail_any hL.typeIs slot_list_getitem.lookup (wpAny_getItem_list hL h0 (by unfold lim at hz; lia) (by simpa using hv) (q _ _ hx O)) (hs t)
theorem pe_item {e i : Expr} {l : Addr} {xs : List α} {k : Int} {x : α} (he : PE c A env m Γ I e (rf l)) (hi : PE c A env m Γ I i (.i k)) (hl : In2 l (isLm f xs) Γ I) (h0 : 0 ≤ k) (hz : xs.length ≤ lim) (hn : xs[k.toNat]? = some x)
    (hs : ∀ u, subscripted i false (.ref l) (.int k u) = operate [.ref l, .int k u] (getItem (.ref l) (.int k u)) := by intro _; with_unfolding_all rfl) :
    PE c A env m Γ I (.Subscript e i pos) (f x) := fun _ _ _ O q => Subscript_ (he _ _ _ O fun v s' hv O' => hi _ _ _ O' fun u s'' hu O'' => by
  cases hv
  obtain ⟨t, rfl⟩ := hu
  exact pu_item hl h0 hz hn hs _ _ _ O'' q)
theorem pu_itemT {l : Addr} {as : List AV} {k : Int} {a : AV} {value slice : Expr} (hl : In2 l (isT as) Γ I) (h0 : 0 ≤ k) (hk : k ≤ 100) (hn : as[k.toNat]? = some a) {t : Tok}
    (hs : ∀ u, subscripted slice false (.ref l) (.int k u) = operate [.ref l, .int k u] (getItem (.ref l) (.int k u)) := by intro _; with_unfolding_all rfl) :
    Pu c A L m Γ I (subscriptTail value slice (.ref l) (.int k t)) a.is := fun _ _ _ O q => by
  obtain ⟨vs, n', hi', hT, ho⟩ := O.tup hl
  obtain ⟨v, hv, hx⟩ := hi'.get hn
  have hlt := (List.getElem?_eq_some_iff.mp hv).1
  exact tail_any hT.typeIs slot_tuple_getitem.lookup (getItem_tuple (j := k.toNat) hT (by lia) (by lia) (by unfold seqIndex?; simp; lia) (by simpa using hv) (q _ _ hx O)) (hs t)
theorem pe_itemT {e i : Expr} {l : Addr} {as : List AV} {k : Int} {a : AV} (he : PE c A env m Γ I e (rf l)) (hi : PE c A env m Γ I i (.i k)) (hl : In2 l (isT as) Γ I) (h0 : 0 ≤ k) (hk : k ≤ 100) (hn : as[k.toNat]? = some a)
    (hs : ∀ u, subscripted i false (.ref l) (.int k u) = operate [.ref l, .int k u] (getItem (.ref l) (.int k u)) := by intro _; with_unfolding_all rfl) :
    PE c A env m Γ I (.Subscript e i pos) a := fun _ _ _ O q => Subscript_ (he _ _ _ O fun v s' hv O' => hi _ _ _ O' fun u s'' hu O'' => by
  cases hv
  obtain ⟨t, rfl⟩ := hu
  exact pu_itemT hl h0 hk hn hs _ _ _ O'' q)

/-- a part of a slice -/
noncomputable def PP (c : Cx) (A : Around) (env : Env) (m : FM) (Γ I : Led) (e : Option Expr) (k : Option Nat) : Prop := Pu c A env.locals m Γ I (evalPart e env) (fun v => IsPart v (k.map Int.ofNat))
theorem pp_none : PP c A env m Γ I none none := fun _ _ _ O k => by rw [evalPart_none]; exact wpAny_pure (k _ _ .none O)
theorem pp_some {e : Expr} {k : Nat} {n : Int} (h : PE c A env m Γ I e (.i n)) (hn : n = (k : Int)) : PP c A env m Γ I (some e) (some k) := fun _ _ _ O q => by
  subst hn
  rw [evalPart_some]; exact h _ _ _ O fun v s' hv O' => by obtain ⟨t, rfl⟩ := hv; exact q _ _ (.int _ _) O'

/-- what is left of a slice once the list is there -/
theorem cs_slice {lo hi : Option Expr} {l : Addr} {xs : List α} {a b : Option Nat} {e : Expr} {R : Value → Shared → Prop} (O : Ow c env.locals m Γ I s) (hlo : PP c A env m Γ I lo a) (hhi : PP c A env m Γ I hi b)
    (hl : In2 l (isLm f xs) Γ I) (hz : xs.length ≤ lim) (h : ∀ r s', Ow c env.locals m ((r, isLm f (cut xs a b)) :: Γ) I s' → R (.ref r) s') :
    wpAny c.M A (eval (.Slice lo hi none p) env) (fun iv s₁ => wpAny c.M A (subscriptTail e (.Slice lo hi none p) (.ref l) iv) R E s₁) E s :=
  wpAny_Slice (hlo _ _ _ O fun v₁ s₂ h₁ O₂ => hhi _ _ _ O₂ fun v₂ s₃ h₂ O₃ => by
    rw [evalPart_none]
    refine wpAny_pure ?_
    obtain ⟨vs, n, hv, ho⟩ := O₃.lst hl
    have hz' : vs.length ≤ lim := by rw [hv.length, List.length_map]; exact hz
    have hL : (s₃.heap.push { cls := .type "slice", data := .fields #[v₁, v₂, .none] }).IsList l vs.toArray := ⟨_, Heap.get?_push_of_some _ ho, rfl, n, rfl⟩
    refine tail_any (s := { s₃ with heap := s₃.heap.push { cls := .type "slice", data := .fields #[v₁, v₂, .none] } }) hL.typeIs slot_list_getitem.lookup (wpAny_getItem_list_slice hL (Heap.IsSliceOf.new ..) h₁ h₂ .none (by simp) ?_ (by rw [List.size_toArray]; exact lim_line hz')) rfl
    rw [slicePick_cut]
    refine h _ _ (O₃.freshK (tk := s₃.toks) (fun b o q => Heap.get?_push_of_some _ (Heap.get?_push_of_some _ q)) (by rw [Heap.size_push]; exact Nat.le_succ _) (Heap.get?_push_size _ rfl) ⟨cut vs a b, 0, ?_, rfl⟩)
    rw [← cut_map]; exact hv.cut a b)
theorem cn_slice {e : Expr} {lo hi : Option Expr} {l : Addr} {xs : List α} {a b : Option Nat} (O : Ow c env.locals m Γ I s) (he : PE c A env m Γ I e (rf l)) (hlo : PP c A env m Γ I lo a) (hhi : PP c A env m Γ I hi b)
    (hl : In2 l (isLm f xs) Γ I) (hz : xs.length ≤ lim) (h : ∀ r s', Ow c env.locals m ((r, isLm f (cut xs a b)) :: Γ) I s' → Q (.ref r) s') : wpAny c.M A (eval (.Subscript e (.Slice lo hi none p) pos) env) Q E s :=
  Subscript_ (he _ _ _ O fun v s₁ hv O₁ => by cases hv; exact cs_slice O₁ hlo hhi hl hz h)

/-! a slice stored -/
theorem setItem_slice {l sl src : Addr} {xs new : Array Value} {n k : Nat} {vl vu : Value} {a b : Nat} {Q : Unit → Shared → Prop} (hl : s.heap.get? l = some { cls := .type "list", data := .seq xs n }) (hs : s.heap.IsSliceOf sl vl vu .none)
    (hsrc : s.heap.get? src = some { cls := .type "list", data := .seq new k }) (pl : IsPart vl (some (a : Int))) (pu : IsPart vu (some (b : Int))) (hab : a ≤ b) (hb : b ≤ xs.size) (hz : xs.size + new.size ≤ sizeLine)
    (h : Q () { s with heap := s.heap.update l (Obj.mapSeq fun xs => xs.extract 0 a ++ new ++ xs.extract b xs.size) }) :
    wpAny c.M A (setItem (.ref l) (.ref sl) (.ref src)) Q E s := by
  have hL : s.heap.IsList l xs := ⟨_, hl, rfl, n, rfl⟩
  obtain ⟨os, hos, hcs, hds⟩ := id hs
  have hTs : s.TypeIs (.ref sl) "slice" := ⟨os, hos, hcs⟩
  unfold setItem
  try with_reducible refine wpAny_holding ?_
  first | refine wpAny_bind (wpAny_pure ?_) | skip
  refine wpAny_bind (wpAny_sequenceKey hL.typeIs (by decide) ?_)
  refine wpAny_bind (wpAny_callSpecial?_slot (name := Str.ofString "__setitem__") hL.typeIs slot_list_setitem
    (wpAny_call_entry slot_list_setitem hL.typeIs entry_list_setitem ?_ (args_list_setitem _ _ _)))
  show wpAny _ _ (Builtin.List.listSubscript? (.ref sl) >>= _) _ _ s
  refine wpAny_bind ?_
  unfold Builtin.List.listSubscript?
  refine wpAny_bind (wpAny_specialOf hTs slice_no_index ?_)
  simp only [Option.isNone_none, if_true]
  refine wpAny_pure ?_
  show wpAny _ _ (typeOf (.ref sl) >>= _) _ _ s
  refine wpAny_bind (wpAny_typeOf hTs ?_)
  rw [if_neg (by decide)]
  rw [listSliceParts_eq]
  refine wpAny_bind (wpAny_bind (wpAny_field hos hds (x := .none) rfl (wpAny_bind (wpAny_listPart .none ?_))))
  rw [if_neg (show ¬ ((rawPart none == rawInt 0) = true) from Bool.false_ne_true)]
  refine wpAny_bind (wpAny_field hos hds (x := vl) rfl (wpAny_bind (wpAny_listPart pl ?_)))
  refine wpAny_bind (wpAny_field hos hds (x := vu) rfl (wpAny_bind (wpAny_listPart pu (wpAny_pure ?_))))
  have items : ∀ {o : Addr} {ys : Array Value} {k : Nat} {Q' : Array Value → Shared → Prop}, s.heap.get? o = some { cls := .type "list", data := .seq ys k } → Q' ys s → wpAny c.M A.in1 (Builtin.List.listItems (.ref o)) Q' (fun e s' => E e s') s := by
    intro o ys k Q' ho hq
    unfold Builtin.List.listItems
    exact wpAny_bind (wpAny_seqItems ho rfl (wpAny_pure hq))
  have hbnd : sliceBounds (some (a : Int)) (some (b : Int)) none xs.size = ((a : Int), (b : Int), 1) := by
    simp [sliceBounds]; lia
  have hsize : (xs.extract 0 a ++ new ++ xs.extract b xs.size).size ≤ sizeLine + 1 := by
    simp only [Array.size_append, Array.size_extract]; lia
  split
  · refine wpAny_bind (items hsrc ?_)
    refine wpAny_bind (items hl ?_)
    refine wpAny_bind (wpAny_of_eq (sliceIndices_raw (some a) (some b) none xs.size (by simp)) ?_)
    rw [hbnd]
    rw [if_pos (beq_self_eq_true (1 : Int))]
    refine wpAny_bind (wpAny_rule ?_)
    rw [if_neg (by simp [Builtin.List.listTooLong]; exact hz)]
    refine wpAny_bind (m := Builtin.List.listUpdate _ _) ?_
    show wpAny _ _ (updateSeq l _) _ _ _
    rw [show (max (a : Int) (b : Int)).toNat = b by lia, show (a : Int).toNat = a by lia]
    refine wpAny_updateSeq hl rfl ?_ (by lia) hsize
    exact wpAny_bind (wpAny_letGo (wpAny_pure ⟨.none, rfl, wpAny_pure h⟩))
  · refine wpAny_bind ?_
    unfold Builtin.List.listAllItems
    refine wpAny_bind (wpAny_typeOf (T := "list") ⟨_, hsrc, rfl⟩ ?_)
    rw [if_pos (by decide)]
    refine items hsrc ?_
    refine wpAny_bind (items hl ?_)
    refine wpAny_bind (wpAny_of_eq (sliceIndices_raw (some a) (some b) none xs.size (by simp)) ?_)
    rw [hbnd]
    rw [if_pos (beq_self_eq_true (1 : Int))]
    refine wpAny_bind (wpAny_rule ?_)
    rw [if_neg (by simp [Builtin.List.listTooLong]; exact hz)]
    refine wpAny_bind (m := Builtin.List.listUpdate _ _) ?_
    show wpAny _ _ (updateSeq l _) _ _ _
    rw [show (max (a : Int) (b : Int)).toNat = b by lia, show (a : Int).toNat = a by lia]
    refine wpAny_updateSeq hl rfl ?_ (by lia) hsize
    exact wpAny_bind (wpAny_letGo (wpAny_pure ⟨.none, rfl, wpAny_pure h⟩))


/-- what is left of a store into a slice, once its value is there -/
theorem ss_slice {o : Expr} {lo hi : Option Expr} {l src : Addr} {xs new : List α} {a b : Nat} {Q : Flow → Shared → Prop} (O : Ow c env.locals m Γ I s) (ho : PE c A env m Γ I o (rf l)) (hlo : PP c A env m Γ I lo (some a)) (hhi : PP c A env m Γ I hi (some b))
    (hl : PutC l (isLm f xs) Γ C') (hsrc : In2 src (isLm f new) Γ I) (hab : a ≤ b) (hb : b ≤ xs.length) (hz : xs.length + new.length ≤ lim)
    (h : ∀ s', Ow c env.locals m (C' (isLm f (xs.take a ++ new ++ xs.drop b))) I s' → Q .next s') :
    wpAny c.M A (eval o env) (fun ov s₂ => wpAny c.M A (eval (.Slice lo hi none p) env) (fun iv s₃ => wpAny c.M A (setItem ov iv (.ref src)) (fun _ => Q .next) E s₃) E s₂) E s :=
  ho _ _ _ O fun v s₁ hv O₁ => wpAny_Slice (hlo _ _ _ O₁ fun v₁ s₂ h₁ O₂ => hhi _ _ _ O₂ fun v₂ s₃ h₂ O₃ => by
    cases hv
    rw [evalPart_none]
    refine wpAny_pure ?_
    have O₄ : Ow c env.locals m Γ I { s₃ with heap := s₃.heap.push { cls := .type "slice", data := .fields #[v₁, v₂, .none] } } := (O₃.push (P := fun _ => True) trivial).drop
    obtain ⟨vs, n, hi', hol⟩ := O₄.lst (.inl hl.mem)
    obtain ⟨ws, k, hw, hos⟩ := O₄.lst hsrc
    have e1 := hi'.length
    have e2 := hw.length
    rw [List.length_map] at e1 e2
    refine setItem_slice hol (Heap.IsSliceOf.new ..) hos h₁ h₂ hab (by rw [List.size_toArray]; lia) (by rw [List.size_toArray, List.size_toArray, e1, e2]; exact lim_line hz) ?_
    refine h _ (O₄.put (tk := s₃.toks) (hl.put _) (fun b o hb q => (Heap.get?_update_other _ _ (Ne.symm hb)).trans q) (Heap.get?_update_self _ hol rfl) ?_)
    have he : vs.toArray.extract 0 a ++ ws.toArray ++ vs.toArray.extract b vs.toArray.size = (vs.take a ++ ws ++ vs.drop b).toArray := by simp [List.take_of_length_le]
    obtain ⟨n', hn'⟩ : ∃ n', Obj.mapSeq (fun xs => xs.extract 0 a ++ ws.toArray ++ xs.extract b xs.size) { cls := .type "list", data := .seq vs.toArray n } = { cls := .type "list", data := .seq (vs.toArray.extract 0 a ++ ws.toArray ++ vs.toArray.extract b vs.toArray.size) n' } := ⟨_, rfl⟩
    refine ⟨vs.take a ++ ws ++ vs.drop b, n', ?_, hn'.trans (by rw [he])⟩
    rw [List.map_append, List.map_append, List.map_take, List.map_drop]
    exact ((hi'.take a).app hw).app (hi'.drop b))
theorem st_slice {value o : Expr} {lo hi : Option Expr} {l src : Addr} {xs new : List α} {a b : Nat} {Q : Flow → Shared → Prop} {rest : List Stmt} {p' : Pos} (O : Ow c env.locals m Γ I s) (hv : PE c A env m Γ I value (rf src)) (ho : PE c A env m Γ I o (rf l)) (hlo : PP c A env m Γ I lo (some a)) (hhi : PP c A env m Γ I hi (some b))
    (hl : PutC l (isLm f xs) Γ C') (hsrc : In2 src (isLm f new) Γ I) (hab : a ≤ b) (hb : b ≤ xs.length) (hz : xs.length + new.length ≤ lim)
    (h : ∀ s', Ow c env.locals m (C' (isLm f (xs.take a ++ new ++ xs.drop b))) I s' → wpAny c.M A (execs rest env) Q E s')
    (hs : swapsWith value (some (.Subscript o (.Slice lo hi none p) p')) pos.line env = pure false := by rfl) :
    wpAny c.M A (execs (.Assign [.Subscript o (.Slice lo hi none p) p'] value pos :: rest) env) Q E s :=
  st_seq (wpAny_Assign_Subscript (hv _ _ _ O fun v s' hv O' => by cases hv; exact ss_slice O' ho hlo hhi hl hsrc hab hb hz h) hs)
/-- the value is made on the way -/
theorem st_sliceC {value o : Expr} {lo hi : Option Expr} {Q : Flow → Shared → Prop} {rest : List Stmt} {p' : Pos}
    (h : wpAny c.M A (eval value env) (fun v s₁ => wpAny c.M A (eval o env) (fun ov s₂ => wpAny c.M A (eval (.Slice lo hi none p) env) (fun iv s₃ => wpAny c.M A (setItem ov iv v) (fun _ => Thn c A env rest Q E .next) E s₃) E s₂) E s₁) E s)
    (hs : swapsWith value (some (.Subscript o (.Slice lo hi none p) p')) pos.line env = pure false := by rfl) :
    wpAny c.M A (execs (.Assign [.Subscript o (.Slice lo hi none p) p'] value pos :: rest) env) Q E s := st_seq (wpAny_Assign_Subscript h hs)

/-! lists made, grown and cut down -/
theorem cn_list {Q : Value → Shared → Prop} {xs : List α} {vs : List Value} (O : Ow c L m Γ I s) (hv : AVs (xs.map f) vs) (hz : xs.length ≤ lim) (h : ∀ r s', Ow c L m ((r, isLm f xs) :: Γ) I s' → Q (.ref r) s') : wpAny c.M A (newList vs) Q E s :=
  wpAny_newObj_type (h _ _ (O.push ⟨vs, 0, hv, rfl⟩)) (by show vs.toArray.size ≤ sizeLine; rw [List.size_toArray, hv.length, List.length_map]; exact lim_line hz)
/-- a list display of values read alone -/
theorem cn_display {es : List Expr} {xs : List α} {Q : Value → Shared → Prop} (f : α → AV) (O : Ow c env.locals m Γ I s) (ha : PL c A env m Γ I es (xs.map f)) (hz : xs.length ≤ lim) (h : ∀ r s', Ow c env.locals m ((r, isLm f xs) :: Γ) I s' → Q (.ref r) s') : wpAny c.M A (eval (.List es pos) env) Q E s :=
  List_ (ha pos _ _ _ O fun vs s' hv O' => cn_list O' hv hz h)
theorem cn_tuple {es : List Expr} {k : Nat} {as : List AV} {Q : Value → Shared → Prop} (O : Ow c env.locals m Γ I s) (ha : PL c A env m Γ I es as) (hz : as.length ≤ 1000) (h : ∀ r s', Ow c env.locals m ((r, isT as) :: Γ) I s' → Q (.ref r) s') : wpAny c.M A (eval (.Tuple es k pos) env) Q E s :=
  Tuple_ (ha pos _ _ _ O fun vs s' hv O' => wpAny_newObj_type (h _ _ (O'.push ⟨vs, 0, hv, rfl⟩)) (by
    show vs.toArray.size ≤ sizeLine; rw [List.size_toArray, hv.length, sizeLine_eq]; lia))
theorem cn_add {a b : Addr} {xs ys : List α} {Q : Value → Shared → Prop} (O : Ow c L m Γ I s) (ha : In2 a (isLm f xs) Γ I) (hb : In2 b (isLm f ys) Γ I) (hz : xs.length + ys.length ≤ lim)
    (h : ∀ r s', Ow c L m ((r, isLm f (xs ++ ys)) :: Γ) I s' → Q (.ref r) s') : wpAny c.M A (binaryOp .Add (.ref a) (.ref b)) Q E s := by
  obtain ⟨vs, n, hi, ho⟩ := O.lst ha
  obtain ⟨ws, k, hw, ho'⟩ := O.lst hb
  obtain ⟨q, F, M⟩ := O.fr
  exact add_lists F (made_news O) ⟨_, ho, rfl, n, rfl⟩ ⟨_, ho', rfl, k, rfl⟩ (fun h' F' N' => h _ _ (O.fresh (tk := s.toks) ⟨q, F', M⟩ (fun b o q1 q2 q3 => (N' _ (.tail _ (mem_made.mpr ⟨q1, q2, q3⟩))).1) (Nat.le_refl _) (N' _ (.head _)).1 ⟨vs ++ ws, 0, by rw [List.map_append]; exact hi.app hw, rfl⟩))
    (by rw [hi.length, hw.length, List.length_map, List.length_map]; exact lim_line hz)
/-- list(x) -/
theorem cn_copy {a : Addr} {xs : List α} {Q : Value → Shared → Prop} (O : Ow c L m Γ I s) (ha : In2 a (isLm f xs) Γ I) (hz : xs.length ≤ lim)
    (h : ∀ r s', Ow c L m ((r, isLm f xs) :: Γ) I s' → Q (.ref r) s') : wpAny c.M A (call (.type "list") [.ref a] []) Q E s := by
  obtain ⟨vs, n, hi, ho⟩ := O.lst ha
  exact call_list_seq a (.inl rfl) ho rfl rfl (fun h' c' hk hD => h _ _ (O.freshK (tk := s.toks) hk (Nat.le_refl _) hD ⟨vs, c', hi, rfl⟩)) (by rw [List.size_toArray, hi.length, List.length_map]; exact lim_line hz)
/-- [n] * k -/
theorem cn_rep {a : Addr} {x : α} {k : Int} {u : Tok} {Q : Value → Shared → Prop} (O : Ow c L m Γ I s) (ha : In2 a (isLm f [x]) Γ I) (h0 : 0 ≤ k) (hz : k.toNat ≤ lim)
    (h : ∀ r s', Ow c L m ((r, isLm f (List.replicate k.toNat x)) :: Γ) I s' → Q (.ref r) s') : wpAny c.M A (binaryOp .Mult (.ref a) (.int k u)) Q E s := by
  obtain ⟨vs, n', hv, ho⟩ := O.lst ha
  cases hv
  rename_i v vs hx hr
  cases hr
  obtain ⟨q, F, M⟩ := O.fr
  refine mul_list F (made_news O) ho (by lia) (by unfold lim at hz; lia) (by simp; unfold lim at hz; lia) fun h' F' N' => ?_
  have e : (List.foldl (fun x1 x2 => x1 ++ x2) #[] (List.replicate (if ([v].toArray).isEmpty = true then 0 else k.toNat) [v].toArray)) = (List.replicate k.toNat v).toArray := by
    have e0 : ([v].toArray).isEmpty = false := rfl
    rw [e0]
    simp only [Bool.false_eq_true, if_false]
    have key : ∀ (j : Nat) (acc : Array Value), List.foldl (fun x1 x2 => x1 ++ x2) acc (List.replicate j [v].toArray) = acc ++ (List.replicate j v).toArray := by
      intro j
      induction j with
      | zero => intro acc; simp
      | succ j ih => intro acc; rw [List.replicate_succ, List.foldl_cons, ih]; apply Array.toList_inj.mp; simp [List.replicate_succ]
    rw [key]; simp
  have hr : ∀ j, AVs ((List.replicate j x).map f) (List.replicate j v) := by
    intro j
    induction j with
    | zero => exact .nil
    | succ j ih => exact .cons hx ih
  exact h _ _ (O.fresh (tk := s.toks) ⟨q, F', M⟩ (fun b o q1 q2 q3 => (N' _ (.tail _ (mem_made.mpr ⟨q1, q2, q3⟩))).1) (Nat.le_refl _) (N' _ (.head _)).1 ⟨_, 0, hr _, by rw [e]⟩)

/-! methods of list -/
theorem cl_list {o : Expr} {l : Addr} {xs : List α} {name : Str} {id : String} {apos : Pos} {pl : Sem Bool} {args : List Expr} {as : List AV} (O : Ow c env.locals m Γ I s) (ho : PE c A env m Γ I o (rf l)) (hl : In2 l (isLm f xs) Γ I)
    (slot : Slot "list" name id) (hty : typeOf (.builtin id) = pure (.type "method_descriptor"))
    (ha : PL c A env m Γ I args as) (h : ∀ vs s', AVs as vs → Ow c env.locals m Γ I s' → wpAny c.M A (call (.builtin id) (.ref l :: vs) []) Q E s')
    (he : eval (.Call (.Attribute o name apos) args [] pos) env = (do
      let ov ← eval o env
      standAt apos.atName
      let (f, first) ← holding [ov] (getMethod ov name pl)
      callWith pos f first (backTo pos (starEach args env)) []) := by rfl)
    (hp : plainArgs args = true := by rfl) :
    wpAny c.M A (eval (.Call (.Attribute o name apos) args [] pos) env) Q E s := by
  refine MethodCall_ ?_ he
  refine ho _ _ _ O fun v s' e O' => ?_
  cases e
  obtain ⟨vs, n, hv, hg⟩ := O'.lst hl
  refine getMethod_list_of slot hty ⟨_, hg, rfl, n, rfl⟩ ⟨_, hg, rfl⟩ ?_
  exact callWith_builtin (splicedPlain hp) (evalArgs_any (splicedPlain hp) (ha pos _ _ _ O' fun vs s'' hv O'' => h vs s'' hv O''))
theorem cn_append {l : Addr} {xs : List α} {x : α} {v : Value} {Q : Value → Shared → Prop} (O : Ow c L m Γ I s) (hv : (f x).is v) (hl : PutC l (isLm f xs) Γ C') (hz : xs.length ≤ lim)
    (h : ∀ s', Ow c L m (C' (isLm f (xs ++ [x]))) I s' → Q .none s') : wpAny c.M A (call (.builtin "list.append") [.ref l, v] []) Q E s := by
  obtain ⟨vs, n, hi, ho⟩ := O.lst (.inl hl.mem)
  refine append_at ho (fun h' hs ho' => h _ (O.put (tk := s.toks) (hl.put _) (fun b o hb e => (hs.2 b hb).trans e) ho' ⟨vs ++ [v], n + 1, ?_, ?_⟩)) (by rw [List.size_toArray, hi.length, List.length_map]; exact lim_line hz)
  · rw [List.map_append]; exact hi.app (.cons hv .nil)
  · simp
theorem cn_pop {l : Addr} {xs : List α} {x : α} {Q : Value → Shared → Prop} (O : Ow c L m Γ I s) (hl : PutC l (isLm f (xs ++ [x])) Γ C') (hz : xs.length < lim)
    (h : ∀ v s', (f x).is v → Ow c L m (C' (isLm f xs)) I s' → Q v s') : wpAny c.M A (call (.builtin "list.pop") [.ref l] []) Q E s := by
  obtain ⟨vs, n, hi, ho⟩ := O.lst (.inl hl.mem)
  have hlen := hi.length
  rw [List.length_map, List.length_append, List.length_singleton] at hlen
  obtain ⟨v, hv, hx⟩ := hi.get (i := xs.length) (a := f x) (by simp)
  refine call_meets PySem.F.slot_list_pop ⟨_, ho, rfl⟩ PySem.F.entry_list_pop (PySem.F.args_list_pop_1 _) (PySem.MeetsSeq.list_pop_last l _ n v (by rw [List.size_toArray, hlen]; simpa using hv) (by rw [List.size_toArray, hlen]; exact lim_line (by lia))) ⟨ho, ?_⟩
  refine h v _ hx (O.put (tk := s.toks) (hl.put _) (fun b o hb q => (Heap.get?_update_other _ _ (Ne.symm hb)).trans q) (Heap.get?_update_self _ ho rfl) ?_)
  obtain ⟨n', hn'⟩ : ∃ n', Obj.mapSeq (fun xs => xs.eraseIdxIfInBounds (vs.toArray.size - 1)) { cls := .type "list", data := .seq vs.toArray n } = { cls := .type "list", data := .seq (vs.toArray.eraseIdxIfInBounds (vs.toArray.size - 1)) n' } := ⟨_, rfl⟩
  refine ⟨vs.take xs.length, n', ?_, hn'.trans ?_⟩
  · have := hi.take xs.length
    rw [List.map_append, List.take_append_of_le_length (by simp), List.take_of_length_le (by simp)] at this
    exact this
  · congr 2
    apply Array.toList_inj.mp
    rw [Array.eraseIdxIfInBounds]
    simp only [List.size_toArray, hlen]
    rw [dif_pos (by lia)]
    simp [List.eraseIdx_eq_take_drop_succ, hlen]
theorem cn_pop0 {l : Addr} {xs : List α} {x : α} {u : Tok} {Q : Value → Shared → Prop} (O : Ow c L m Γ I s) (hl : PutC l (isLm f (x :: xs)) Γ C') (hz : xs.length < lim)
    (h : ∀ v s', (f x).is v → Ow c L m (C' (isLm f xs)) I s' → Q v s') : wpAny c.M A (call (.builtin "list.pop") [.ref l, .int 0 u] []) Q E s := by
  obtain ⟨vs, n, hi, ho⟩ := O.lst (.inl hl.mem)
  cases hi
  rename_i v vs hx hr
  have hlen := hr.length
  rw [List.length_map] at hlen
  refine call_meets PySem.F.slot_list_pop ⟨_, ho, rfl⟩ PySem.F.entry_list_pop (PySem.F.args_list_pop_2 _ _) (PySem.MeetsSeq.list_pop_at l _ n 0 u 0 v (by decide) (by unfold seqIndex?; simp) (by simp) (by rw [List.size_toArray, List.length_cons, hlen]; exact lim_line (by lia))) ⟨ho, ?_⟩
  refine h v _ hx (O.put (tk := s.toks) (hl.put _) (fun b o hb q => (Heap.get?_update_other _ _ (Ne.symm hb)).trans q) (Heap.get?_update_self _ ho rfl) ?_)
  obtain ⟨n', hn'⟩ : ∃ n', Obj.mapSeq (fun xs => xs.eraseIdxIfInBounds 0) { cls := .type "list", data := .seq (v :: vs).toArray n } = { cls := .type "list", data := .seq ((v :: vs).toArray.eraseIdxIfInBounds 0) n' } := ⟨_, rfl⟩
  refine ⟨vs, n', hr, hn'.trans ?_⟩
  congr 2
  apply Array.toList_inj.mp
  rw [Array.eraseIdxIfInBounds, dif_pos (by simp)]
  simp
/-! two lists of ints compared -/
theorem cm_eqI {a b : Addr} {ns ks : List Int} (hA : Room 10 A) (ha : In2 a (isInts ns) Γ I) (hb : In2 b (isInts ks) Γ I) : Pu c A L m Γ I (compareOp .Eq (.ref a) (.ref b)) (· = .bool (decide (ns = ks))) := fun _ _ _ O k => by
  obtain ⟨vs, n, hi, ho⟩ := O.lst ha
  obtain ⟨ws, n', hj, ho'⟩ := O.lst hb
  exact eq_intsK ⟨_, ho, rfl, n, rfl⟩ hi.toInts ⟨_, ho', rfl, n', rfl⟩ hj.toInts (by have := hA.units; unfold cLine; lia) (k _ _ rfl O)
theorem cm_neI {a b : Addr} {ns ks : List Int} (hA : Room 10 A) (ha : In2 a (isInts ns) Γ I) (hb : In2 b (isInts ks) Γ I) : Pu c A L m Γ I (compareOp .NotEq (.ref a) (.ref b)) (· = .bool (!decide (ns = ks))) := fun _ _ _ O k => by
  obtain ⟨vs, n, hi, ho⟩ := O.lst ha
  obtain ⟨ws, n', hj, ho'⟩ := O.lst hb
  exact ne_intsK ⟨_, ho, rfl, n, rfl⟩ hi.toInts ⟨_, ho', rfl, n', rfl⟩ hj.toInts (by have := hA.units; unfold cLine; lia) (k _ _ rfl O)
end

/-- stores one after the other -/
inductive Stores (env : Env) : List (Bool × (Value → Sem Unit)) → List AV → FM → FM → Prop
  | nil {m} : Stores env [] [] m m
  | cons {x : Str} {p' : Pos} {a : AV} {ts as m m'} : env.kindOf x = some .local → (env.scope.kind == .class || (env.scope.kind == .module && env.locals != env.globals)) = false →
      Stores env ts as (sl m x a) m' → Stores env ((false, assign (.Name x p') env) :: ts) (a :: as) m m'

section
variable {α : Type} {f : α → AV} {c : Cx} {A : Around} {env : Env} {L : Addr} {m m' : FM} {Γ Γ' I : Led} {s : Shared} {pos p : Pos} {E : Value → Shared → Prop}

theorem Stores.length {ts : List (Bool × (Value → Sem Unit))} {as : List AV} (h : Stores env ts as m m') : ts.length = as.length := by induction h with | nil => rfl | cons _ _ _ ih => simp [ih]
theorem Stores.star {ts : List (Bool × (Value → Sem Unit))} {as : List AV} (h : Stores env ts as m m') : ts.findIdx? (·.1) = none := by
  induction h with
  | nil => rfl
  | cons _ _ _ ih => rw [List.findIdx?_cons]; simp [ih]
theorem Stores.run {ts : List (Bool × (Value → Sem Unit))} {as : List AV} {vs : List Value} {Q : Unit → Shared → Prop} (h : Stores env ts as m m') (hv : AVs as vs) : ∀ {s}, Ow c env.locals m Γ I s → (∀ s', Ow c env.locals m' Γ I s' → Q () s') → wpAny c.M A (assignInOrder (ts.map (·.2)) vs) Q E s := by
  induction h generalizing vs with
  | nil => intro s O k; cases hv; exact assignInOrder_nil (k _ O)
  | cons h1 h2 _ ih =>
    intro s O k
    cases hv
    rename_i hv hr
    exact assignInOrder_cons (wpAny_assign_Name (st_store O hv (fun s' O' => ih hr O' k) h1 h2))

/-- a tuple taken apart into names -/
theorem st_unpack {elts : List Expr} {k : Nat} {pt : Pos} {t : Addr} {as : List AV} {Q : Unit → Shared → Prop} (hh : A.handled = none) (O : Ow c env.locals m Γ I s) (ht : In2 t (isT as) Γ I) (hs : Stores env (assignEach elts env) as m m')
    (h : ∀ s', Ow c env.locals m' Γ I s' → Q () s') : wpAny c.M A (assign (.Tuple elts k pt) env (.ref t)) Q E s := by
  obtain ⟨vs, n, hv, hT, ho⟩ := O.tup ht
  refine assign_Tuple_tuple hh hT (by rw [hs.length, List.size_toArray, hv.length]) hs.star fun h' he => ?_
  exact hs.run hv (O.keeps (tk := s.toks) fun b o e => he b o (Nat.ne_of_lt (Heap.lt_size e)) e) h

/-- an object goes -/
theorem Ow.lose {a : Addr} {P : Obj → Prop} (O : Ow c L m ((a, P) :: Γ) I s) {h' : Heap} {tk : Nat} (hs : ∀ b o, b ≠ a → s.heap.get? b = some o → h'.get? b = some o) : Ow c L m Γ I { s with heap := h', toks := tk } := by
  have hd := List.nodup_cons.mp O.nd
  have ha := O.has (a, P) (.head _)
  have hG : ∀ b o, c.G.get? b = some o → b ≠ a := fun b o e => Nat.ne_of_lt (Nat.lt_of_lt_of_le (Heap.lt_size e) ha.2.2)
  refine ⟨O.gens, O.os, ?_, fun p hp => ?_, fun p hp => ?_, hd.2, fun p hp => O.ap p (.tail _ hp)⟩
  · obtain ⟨q, F, M⟩ := O.fr
    refine ⟨q, ⟨?_, fun b o e => hs b o (hG b o e) (F.keep b o e), F.above⟩, M⟩
    obtain ⟨oL, es, ep, hL, r⟩ := F.ns
    exact ⟨oL, es, ep, hs _ _ (Ne.symm ha.2.1) hL, r⟩
  · obtain ⟨⟨o, e, h1⟩, r⟩ := O.has p (.tail _ hp)
    exact ⟨⟨o, hs _ _ (fun q => hd.1 (List.mem_map.mpr ⟨p, hp, q⟩)) e, h1⟩, r⟩
  · obtain ⟨⟨o, e, h1⟩, r⟩ := O.hasI p hp
    exact ⟨⟨o, hs _ _ (Ne.symm (O.ap (a, P) (.head _) p hp)) e, h1⟩, r⟩

/-! iterators -/
structure Itr (c : Cx) (A : Around) (env : Env) (it : Addr) (n : Nat) (S : Nat → Led) (D : Led → Led → Prop) (tg : Expr) (upd : Nat → FM → FM) : Prop where
  mono : ∀ {p Γ I}, D Γ I → D (p :: Γ) I
  step : ∀ i m Γ I s E (Q : Shared → Prop), i < n → D Γ I → Ow c env.locals m (S i ++ Γ) I s → (∀ s', Ow c env.locals (upd i m) (S (i + 1) ++ Γ) I s' → Q s') →
    wpAny c.M A (pyNext (.ref it)) (fun r s₁ => ∃ v, r = some v ∧ wpAny c.M A (letOwnedTupleGo tg (.ref it) v) (fun _ s₂ => wpAny c.M A (assign tg env v) (fun _ s₃ => Q s₃) E s₂) E s₁) E s
  done : ∀ m Γ I s E (Q : Shared → Prop), D Γ I → Ow c env.locals m (S n ++ Γ) I s → (∀ s', Ow c env.locals m Γ I s' → Q s') → wpAny c.M A (pyNext (.ref it)) (fun r s' => r = none ∧ Q s') E s
  self : ∀ i L m Γ I s E (Q : Value → Shared → Prop), D Γ I → Ow c L m (S i ++ Γ) I s → Q (.ref it) s → wpAny c.M A (pyIter (.ref it)) Q E s

/-- what holds of one address alone, told of its object -/
noncomputable def isSt (a : Addr) (St : Heap → Prop) (o : Obj) : Prop := ∃ h, h.get? a = some o ∧ St h
noncomputable def LIt (it l : Addr) (i : Nat) : Led := [(it, isSt it fun h => h.IsListIter it l i)]
noncomputable def RIt (it : Addr) (a : Int) (n i : Nat) : Led := [(it, isSt it fun h => IsRangeIter h it (a + i) ((n : Int) - i) 1)]

theorem Ow.lit {it l : Addr} {i : Nat} (O : Ow c L m (LIt it l i ++ Γ) I s) : s.heap.IsListIter it l i := by
  obtain ⟨o, ho, h, hh, st⟩ := O.get (.head _)
  exact Heap.IsListIter.at st fun o' e => by rw [hh] at e; cases e; exact ho
theorem itr_list {it l : Addr} {xs : List α} {x : Str} {px : Pos} (hh : A.handled = none) (hne : it ≠ l) (hl : env.kindOf x = some .local) (hp : (env.scope.kind == .class || (env.scope.kind == .module && env.locals != env.globals)) = false) :
    Itr c A env it xs.length (LIt it l) (In2 l (isLm f xs)) (.Name x px) (fun i m => match xs[i]? with | some y => sl m x (f y) | none => m) where
  mono := fun h => h.elim (fun h => .inl (.tail _ h)) .inr
  step := fun i m Γ I s E Q hi hD O k => by
    obtain ⟨vs, n, hv, ho⟩ := O.lst (hD.elim (fun h => .inl (.tail _ h)) .inr)
    obtain ⟨v, hx, hf⟩ := hv.get (i := i) (a := f xs[i]) (by rw [List.getElem?_map, List.getElem?_eq_getElem hi]; rfl)
    refine wpAny_pyNext_list_item O.lit (items := vs.toArray) ⟨_, ho, rfl, n, rfl⟩ (x := v) (by simpa using hx) fun h' hit' hs' => ⟨_, rfl, ?_⟩
    obtain ⟨o, ho', _⟩ := id hit'
    have O' : Ow c env.locals m (LIt it l (i + 1) ++ Γ) I { s with heap := h', toks := s.toks } := O.turn (fun b o hb e => (hs'.2 b hb).trans e) ho' ⟨h', ho', hit'⟩
    refine wpAny_of_eq (t := letOwnedTupleGo (.Name x px) _ _) rfl ?_
    refine wpAny_assign_Name (st_store (Q := fun _ s₃ => Q s₃) O' hf (fun s' O'' => k s' ?_) hl hp)
    rw [List.getElem?_eq_getElem hi]; exact O''
  done := fun m Γ I s E Q hD O k => by
    obtain ⟨vs, n, hv, ho⟩ := O.lst (hD.elim (fun h => .inl (.tail _ h)) .inr)
    have hlen := hv.length
    rw [List.length_map] at hlen
    refine wpAny_pyNext_list_end hh O.lit (items := vs.toArray) ⟨_, ho, rfl, n, rfl⟩ (by simp [hlen]) fun h' he => ⟨rfl, k _ (O.lose (tk := s.toks) he)⟩
  self := fun i L m Γ I s E Q hD O k => wpAny_pyIter_listiter O.lit k
theorem Ow.rit {it : Addr} {a : Int} {n i : Nat} (O : Ow c L m (RIt it a n i ++ Γ) I s) : IsRangeIter s.heap it (a + i) ((n : Int) - i) 1 := by
  obtain ⟨o, ho, h, hh, st⟩ := O.get (.head _)
  rw [show h.get? it = some _ from st] at hh
  cases hh; exact ho
theorem itr_range {it : Addr} {a : Int} {n : Nat} {x : Str} {px : Pos} (hh : A.handled = none) (hl : env.kindOf x = some .local) (hp : (env.scope.kind == .class || (env.scope.kind == .module && env.locals != env.globals)) = false) :
    Itr c A env it n (RIt it a n) (fun _ _ => True) (.Name x px) (fun i m => sl m x (.i (a + i))) where
  mono := fun _ => trivial
  step := fun i m Γ I s E Q hi hD O k => by
    refine wpAny_pyNext_range_item O.rit (by lia) fun h' hit' hs' => ⟨_, rfl, ?_⟩
    have hit₂ : IsRangeIter h' it (a + (i + 1 : Nat)) ((n : Int) - (i + 1 : Nat)) 1 := by
      have e1 : a + ((i + 1 : Nat) : Int) = a + i + 1 := by lia
      have e2 : (n : Int) - ((i + 1 : Nat) : Int) = (n : Int) - i - 1 := by lia
      rw [e1, e2]; exact hit'
    have O' : Ow c env.locals m (RIt it a n (i + 1) ++ Γ) I { s with heap := h', toks := s.toks + 1 } := O.turn (fun b o hb e => (hs'.2 b hb).trans e) hit₂ ⟨h', hit₂, hit₂⟩
    refine wpAny_of_eq (t := letOwnedTupleGo (.Name x px) _ _) rfl ?_
    exact wpAny_assign_Name (st_store (a := .i (a + i)) (Q := fun _ s₃ => Q s₃) O' ⟨_, rfl⟩ (fun s' O'' => k s' O'') hl hp)
  done := fun m Γ I s E Q hD O k => by
    refine wpAny_pyNext_range_end hh O.rit (by lia) fun h' he => ⟨rfl, k _ (O.lose (tk := s.toks) he)⟩
  self := fun i L m Γ I s E Q hD O k => wpAny_pyIter_rangeiter O.rit k
noncomputable def EIt (e it l : Addr) (i : Nat) : Led := [(e, isSt e fun h => ∃ old, IsEnum h e it i old), (it, isSt it fun h => h.IsListIter it l i)]
theorem Ow.eit {e it l : Addr} {i : Nat} (O : Ow c L m (EIt e it l i ++ Γ) I s) : (∃ old, IsEnum s.heap e it i old) ∧ s.heap.IsListIter it l i := by
  constructor
  · obtain ⟨o, ho, h, hh, old, st⟩ := O.get (.head _)
    rw [show h.get? e = some _ from st] at hh
    cases hh; exact ⟨old, ho⟩
  · obtain ⟨o, ho, h, hh, st⟩ := O.get (.tail _ (.head _))
    exact Heap.IsListIter.at st fun o' e => by rw [hh] at e; cases e; exact ho
/-- two objects turn -/
theorem Ow.turn2 {a b : Addr} {P P' R R' : Obj → Prop} (O : Ow c L m ((a, P) :: (b, R) :: Γ) I s) {h' : Heap} {tk : Nat} (hs : ∀ x o, x ≠ a → x ≠ b → s.heap.get? x = some o → h'.get? x = some o)
    {o' o₂ : Obj} (ho : h'.get? a = some o') (hP : P' o') (ho₂ : h'.get? b = some o₂) (hR : R' o₂) : Ow c L m ((a, P') :: (b, R') :: Γ) I { s with heap := h', toks := tk } := by
  have hd := List.nodup_cons.mp O.nd
  have hd₂ := List.nodup_cons.mp hd.2
  have ha := O.has (a, P) (.head _)
  have hb := O.has (b, R) (.tail _ (.head _))
  have hG : ∀ x o, c.G.get? x = some o → x ≠ a ∧ x ≠ b := fun x o e => ⟨Nat.ne_of_lt (Nat.lt_of_lt_of_le (Heap.lt_size e) ha.2.2), Nat.ne_of_lt (Nat.lt_of_lt_of_le (Heap.lt_size e) hb.2.2)⟩
  refine ⟨O.gens, O.os, ?_, fun p hp => ?_, fun p hp => ?_, O.nd, fun p hp q hq => ?_⟩
  · obtain ⟨q, F, M⟩ := O.fr
    refine ⟨q, ⟨?_, fun x o e => hs x o (hG x o e).1 (hG x o e).2 (F.keep x o e), F.above⟩, M⟩
    obtain ⟨oL, es, ep, hL, r⟩ := F.ns
    exact ⟨oL, es, ep, hs _ _ (Ne.symm ha.2.1) (Ne.symm hb.2.1) hL, r⟩
  · rcases List.mem_cons.mp hp with rfl | hp
    · exact ⟨⟨o', ho, hP⟩, ha.2⟩
    rcases List.mem_cons.mp hp with rfl | hp
    · exact ⟨⟨o₂, ho₂, hR⟩, hb.2⟩
    · obtain ⟨⟨o, e, h1⟩, r⟩ := O.has p (.tail _ (.tail _ hp))
      exact ⟨⟨o, hs _ _ (fun q => hd.1 (List.mem_map.mpr ⟨p, .tail _ hp, q⟩)) (fun q => hd₂.1 (List.mem_map.mpr ⟨p, hp, q⟩)) e, h1⟩, r⟩
  · obtain ⟨⟨o, e, h1⟩, r⟩ := O.hasI p hp
    exact ⟨⟨o, hs _ _ (Ne.symm (O.ap (a, P) (.head _) p hp)) (Ne.symm (O.ap (b, R) (.tail _ (.head _)) p hp)) e, h1⟩, r⟩
  · rcases List.mem_cons.mp hp with rfl | hp
    · exact O.ap (a, P) (.head _) q hq
    rcases List.mem_cons.mp hp with rfl | hp
    · exact O.ap (b, R) (.tail _ (.head _)) q hq
    · exact O.ap p (.tail _ (.tail _ hp)) q hq
theorem itr_enum {e it l : Addr} {xs : List α} {x y : Str} {px py pt : Pos} {k : Nat} (hh : A.handled = none) (hei : e ≠ it) (hle : l ≠ e) (hli : l ≠ it) (hl : env.kindOf x = some .local) (hl' : env.kindOf y = some .local) (hp : (env.scope.kind == .class || (env.scope.kind == .module && env.locals != env.globals)) = false)
    (hE : assignEach [.Name x px, .Name y py] env = [(false, assign (.Name x px) env), (false, assign (.Name y py) env)] := by rfl) :
    Itr c A env e xs.length (EIt e it l) (In2 l (isLm f xs)) (.Tuple [.Name x px, .Name y py] k pt) (fun i m => match xs[i]? with | some z => sl (sl m x (.i i)) y (f z) | none => m) where
  mono := fun h => h.elim (fun h => .inl (.tail _ h)) .inr
  step := fun i m Γ I s E Q hi hD O k => by
    obtain ⟨vs, n, hv, ho⟩ := O.lst (hD.elim (fun h => .inl (.tail _ (.tail _ h))) .inr)
    obtain ⟨v, hx, hf⟩ := hv.get (i := i) (a := f xs[i]) (by rw [List.getElem?_map, List.getElem?_eq_getElem hi]; rfl)
    have hlen := hv.length
    rw [List.length_map] at hlen
    have W := WalksT.enumerate (prog := PR) (w := c.w) (A := A) hh e it l hei hle hli vs.toArray
    obtain ⟨he, hit⟩ := O.eit
    refine W.item i s _ _ (by rw [List.size_toArray, hlen]; exact hi) ⟨he, hit, ⟨_, ho, rfl, n, rfl⟩⟩ fun T vals h' tk hP hT hIs hM hk => ⟨_, rfl, ?_⟩
    obtain ⟨t, x', hx', rfl⟩ := hP
    have : x' = v := by
      have h1 : vs[i]? = some x' := by simpa using hx'
      rw [hx] at h1; exact (Option.some.inj h1).symm
    subst this
    have hM' := hM
    obtain ⟨⟨x₀, hout⟩, hit', hl₂, hTe, hTi⟩ := hM'
    obtain ⟨oi, hoi, _⟩ := id hit'
    obtain ⟨oT, hoT, hcT, nT, hdT⟩ := id hIs
    have O₁ : Ow c env.locals m ((e, fun _ => True) :: (it, fun _ => True) :: Γ) I { s with heap := h', toks := tk } :=
      O.turn2 (fun b o h1 h2 q => hk b o (by simp [h1, h2]) q) hout trivial hoi trivial
    refine W.go _ _ _ i T _ _ _ hM fun h₂ hst₂ hk₂ => ?_
    obtain ⟨⟨old, he₂⟩, hit₂, hl₃⟩ := hst₂
    obtain ⟨oi₂, hoi₂, _⟩ := id hit₂
    have O₂ : Ow c env.locals m (EIt e it l (i + 1) ++ Γ) I { s with heap := h₂, toks := tk } :=
      O₁.turn2 (fun b o h1 h2 q => hk₂ b o (by simp [h1, h2]) q) he₂ ⟨h₂, he₂, old, he₂⟩ hoi₂ ⟨h₂, hoi₂, hit₂⟩
    have hT₂ : IsTup h₂ T #[.int i t, x'] := ⟨oT, hk₂ _ _ (by simp [hTe, hTi]) hoT, hcT, nT, hdT⟩
    refine assign_Tuple_tuple hh hT₂ (by rw [hE]; rfl) (by rw [hE]; rfl) fun h₃ he₃ => ?_
    rw [hE]
    refine (Stores.cons (p' := px) hl hp (.cons (p' := py) hl' hp .nil) : Stores env [(false, assign (.Name x px) env), (false, assign (.Name y py) env)] [.i i, f xs[i]] m _).run (.cons ⟨t, rfl⟩ (.cons hf .nil)) (O₂.keeps (tk := tk) fun b o q => he₃ b o (Nat.ne_of_lt (Heap.lt_size q)) q) fun s' O' => k s' ?_
    rw [List.getElem?_eq_getElem hi]; exact O'
  done := fun m Γ I s E Q hD O k => by
    obtain ⟨vs, n, hv, ho⟩ := O.lst (hD.elim (fun h => .inl (.tail _ (.tail _ h))) .inr)
    have hlen := hv.length
    rw [List.length_map] at hlen
    obtain ⟨⟨old, he⟩, hit⟩ := O.eit
    refine wpAny_pyNext_enum_end hh he hit (items := vs.toArray) ⟨_, ho, rfl, n, rfl⟩ (by simp [hlen]) fun h' hx => ⟨rfl, k _ ?_⟩
    exact (O.perm (.swap ..)).lose (tk := s.toks) hx |>.drop
  self := fun i L m Γ I s E Q hD O k => by
    obtain ⟨⟨old, he⟩, hit⟩ := O.eit
    exact wpAny_pyIter_enum he k

/-! what iter() gives -/
theorem cn_iterL {l : Addr} {xs : List α} {Q : Value → Shared → Prop} (O : Ow c L m Γ I s) (hl : In2 l (isLm f xs) Γ I) (h : ∀ it s', it ≠ l → Ow c L m (LIt it l 0 ++ Γ) I s' → Q (.ref it) s') : wpAny c.M A (pyIter (.ref l)) Q E s := by
  obtain ⟨vs, n, hv, ho⟩ := O.lst hl
  refine wpAny_pyIter_list ⟨_, ho, rfl, n, rfl⟩ (h _ _ (Nat.ne_of_gt (Heap.lt_size ho)) (O.push ⟨_, Heap.get?_push_size _ rfl, ⟨_, Heap.get?_push_size _ rfl, rfl, rfl⟩⟩))
theorem cn_range {a b : Int} {r : Value} {s' : Shared} {tk' : Nat} {Q : Value → Shared → Prop} (O : Ow c L m Γ I s) (ha : -1000000000 ≤ a ∧ a ≤ 1000000000) (hb : -1000000000 ≤ b ∧ b ≤ 1000000000)
    (hr : ∃ t u v, r = .ref s.heap.objs.size ∧ s' = { s with heap := s.heap.push { cls := .type "range", data := .fields #[.int a t, .int b u, .int 1 v] }, toks := tk' })
    (h : ∀ it s', Ow c L m (RIt it a (b - a).toNat 0 ++ Γ) I s' → Q (.ref it) s') : wpAny c.M A (pyIter r) Q E s' := by
  obtain ⟨t, u, v, rfl, rfl⟩ := hr
  refine wpAny_pyIter_range (IsRange.new _ _ _ _ _ _ _) (small_one (by lia) (by lia) (by lia) (by lia)) (h _ _ ?_)
  rw [rangeSize_one]
  have O' : Ow c L m Γ I { s with heap := s.heap.push { cls := .type "range", data := .fields #[.int a t, .int b u, .int 1 v] }, toks := tk' } := ((O.push (P := fun _ => True) trivial).drop).tok
  refine O'.push ⟨_, Heap.get?_push_size _ rfl, ?_⟩
  have e1 : a + ((0 : Nat) : Int) = a := by lia
  have e2 : (((b - a).toNat : Nat) : Int) - ((0 : Nat) : Int) = if a < b then b - a else 0 := by split <;> lia
  show IsRangeIter _ _ (a + ((0 : Nat) : Int)) _ 1
  rw [e1, e2]; exact Heap.get?_push_size _ rfl

/-! loops -/
variable {it : Addr} {n : Nat} {S : Nat → Led} {D : Led → Led → Prop} {tg : Expr} {upd : Nat → FM → FM} {Q : Flow → Shared → Prop} {body : List Stmt}
noncomputable def TurnEnd (c : Cx) (L : Addr) (S : Led) (J : FM → Led → Led → Prop) (Q : Flow → Shared → Prop) (fl : Flow) (s' : Shared) : Prop := match fl with
  | .next | .cont => ∃ m' Γ' I', J m' Γ' I' ∧ Ow c L m' (S ++ Γ') I' s'
  | .brk => Q .next s'
  | .ret v => Q (.ret v) s'
theorem lp_for (W : Itr c A env it n S D tg upd) (J : Nat → FM → Led → Led → Prop) (hD : ∀ i m Γ I, J i m Γ I → D Γ I) (O : Ow c env.locals m (S 0 ++ Γ) I s) (h0 : J 0 m Γ I)
    (turn : ∀ i m Γ I s, i < n → J i m Γ I → Ow c env.locals (upd i m) (S (i + 1) ++ Γ) I s → wpAny c.M A (execs body env) (TurnEnd c env.locals (S (i + 1)) (J (i + 1)) Q) (fun _ _ => False) s)
    (done : ∀ m Γ I s, J n m Γ I → Ow c env.locals m Γ I s → Q .next s) :
    codeAny c.M A (.forLoop tg (.ref it) body [] env) (fun r s' => match r with | .ok f => Q f s' | .error e => cameBackBy c.M A env E e s') s := by
  refine codeAny_forLoop_any (fun k s => ∃ i m Γ I, k = n - i ∧ i ≤ n ∧ J i m Γ I ∧ Ow c env.locals m (S i ++ Γ) I s) ?_ n ⟨0, m, Γ, I, by lia, by lia, h0, O⟩
  rintro k s ⟨i, m, Γ, I, rfl, hi, hJ, O⟩
  by_cases hlt : i < n
  · refine wpAny_mono (W.step i m Γ I s (fun _ _ => False) (fun s₃ => wpAny c.M A (execs body env) (TurnEnd c env.locals (S (i + 1)) (J (i + 1)) Q) (fun _ _ => False) s₃) hlt (hD _ _ _ _ hJ) O fun s' O' => turn i m Γ I s' hlt hJ O') (fun r s₁ h₁ => ?_) fun _ _ x => x.elim
    obtain ⟨v, rfl, h₁⟩ := h₁
    refine wpAny_mono h₁ (fun _ s₂ h₂ => wpAny_mono h₂ (fun _ s₃ h₃ => wpAny_mono h₃ (fun fl s₄ h₄ => ?_) fun _ _ x => x.elim) fun _ _ x => x.elim) fun _ _ x => x.elim
    cases fl with
    | next => obtain ⟨m', Γ', I', hJ', O'⟩ := h₄; exact ⟨n - (i + 1), by lia, i + 1, m', Γ', I', rfl, hlt, hJ', O'⟩
    | cont => obtain ⟨m', Γ', I', hJ', O'⟩ := h₄; exact ⟨n - (i + 1), by lia, i + 1, m', Γ', I', rfl, hlt, hJ', O'⟩
    | brk => exact h₄
    | ret v => exact h₄
  · have : i = n := by lia
    subst this
    refine wpAny_mono (W.done m Γ I s (fun _ _ => False) (fun s' => Q .next s') (hD _ _ _ _ hJ) O fun s' O' => done m Γ I s' hJ O') (fun r s₁ h₁ => ?_) fun _ _ x => x.elim
    obtain ⟨rfl, h₁⟩ := h₁
    exact wpAny_execs_nil h₁
theorem st_for {iter : Expr} {rest : List Stmt} (h : wpAny c.M A (eval iter env) (fun x s₁ => wpAny c.M A (pyIter x) (fun i s₂ =>
      codeAny c.M A (.forLoop tg i body [] env) (fun r s' => match r with | .ok f => Thn c A env rest Q E f s' | .error e => cameBackBy c.M A env E e s') s₂) E s₁) E s)
    (hs : ∀ x, foldedSetIterable iter env x = pure x := by intro _; rfl) : wpAny c.M A (execs (.For tg iter body [] pos :: rest) env) Q E s :=
  st_seq (wpAny_For h hs)
/-- over an empty list -/
theorem lp_nil {x : Str} {px : Pos} {rest : List Stmt} {l : Addr} (hh : A.handled = none) (O : Ow c env.locals m Γ I s) (hl : In2 l (isLm f []) Γ I)
    (done : ∀ s, Ow c env.locals m Γ I s → wpAny c.M A (execs rest env) Q E s)
    (hl' : env.kindOf x = some .local := by rfl) (hp : (env.scope.kind == .class || (env.scope.kind == .module && env.locals != env.globals)) = false := by rfl) :
    wpAny c.M A (pyIter (.ref l)) (fun i s₂ => codeAny c.M A (.forLoop (.Name x px) i body [] env) (fun r s' => match r with | .ok f => Thn c A env rest Q E f s' | .error e => cameBackBy c.M A env E e s') s₂) E s := by
  refine cn_iterL O hl fun it s₂ hne O₂ => ?_
  exact lp_for (itr_list (f := f) (xs := []) hh hne hl' hp) (fun _ m' Γ' I' => m' = m ∧ Γ' = Γ ∧ I' = I) (fun _ _ _ _ ⟨_, h2, h3⟩ => by rw [h2, h3]; exact hl) O₂ ⟨rfl, rfl, rfl⟩ (fun i m Γ I s hi => absurd hi (Nat.not_lt_zero _)) (by rintro _ _ _ s ⟨rfl, rfl, rfl⟩ O; exact done s O)
/-- for x in range(a, b) | range(b) -/
theorem lp_range {x : Str} {px : Pos} {rest : List Stmt} {a b : Int} (hh : A.handled = none) (O : Ow c env.locals m (RIt it a (b - a).toNat 0 ++ Γ) I s)
    (J : Nat → FM → Led → Led → Prop) (h0 : J 0 m Γ I)
    (turn : ∀ i m Γ I s, a + (i : Nat) < b → J i m Γ I → Ow c env.locals (sl m x (.i (a + (i : Nat)))) (RIt it a (b - a).toNat (i + 1) ++ Γ) I s → wpAny c.M A (execs body env) (TurnEnd c env.locals (RIt it a (b - a).toNat (i + 1)) (J (i + 1)) (Thn c A env rest Q E)) (fun _ _ => False) s)
    (done : ∀ m Γ I s, J (b - a).toNat m Γ I → Ow c env.locals m Γ I s → wpAny c.M A (execs rest env) Q E s)
    (hl' : env.kindOf x = some .local := by rfl) (hp : (env.scope.kind == .class || (env.scope.kind == .module && env.locals != env.globals)) = false := by rfl) :
    codeAny c.M A (.forLoop (.Name x px) (.ref it) body [] env) (fun r s' => match r with | .ok f => Thn c A env rest Q E f s' | .error e => cameBackBy c.M A env E e s') s :=
  lp_for (itr_range hh hl' hp) J (fun _ _ _ _ _ => trivial) O h0 (fun i m Γ I s hi hJ O => turn i m Γ I s (by lia) hJ O) done
theorem st_forR1 {g e : Expr} {x : Str} {px : Pos} {rest : List Stmt} {b : Int} {p' : Pos} (hh : A.handled = none) (O : Ow c env.locals m Γ I s) (hg : PE c A env m Γ I g (.v (.type "range"))) (he : PE c A env m Γ I e (.i b)) (hb : -1000000000 ≤ b ∧ b ≤ 1000000000)
    (J : Nat → FM → Led → Led → Prop) (h0 : J 0 m Γ I)
    (turn : ∀ it (i : Nat) m Γ I s, (i : Int) < b → J i m Γ I → Ow c env.locals (sl m x (.i (i : Nat))) (RIt it 0 b.toNat (i + 1) ++ Γ) I s → wpAny c.M A (execs body env) (TurnEnd c env.locals (RIt it 0 b.toNat (i + 1)) (J (i + 1)) (Thn c A env rest Q E)) (fun _ _ => False) s)
    (done : ∀ m Γ I s, J b.toNat m Γ I → Ow c env.locals m Γ I s → wpAny c.M A (execs rest env) Q E s)
    (hl' : env.kindOf x = some .local := by rfl) (hp : (env.scope.kind == .class || (env.scope.kind == .module && env.locals != env.globals)) = false := by rfl)
    (hc : eval (.Call g [e] [] p') env = (do callWith p' (← eval g env) [] (backTo p' (starEach [e] env)) (backToKw p' (keywordEach [] env))) := by rfl)
    (hpa : plainArgs [e] = true := by rfl) (hst : starEach [e] env = (false, eval e env) :: starEach [] env := by rfl)
    (hs : ∀ x, foldedSetIterable (.Call g [e] [] p') env x = pure x := by intro _; rfl) : wpAny c.M A (execs (.For (.Name x px) (.Call g [e] [] p') body [] pos :: rest) env) Q E s :=
  st_for (cl_ty O hg (pl_cons he pl_nil hst) (fun vs s₁ hv O₁ => by
    cases hv; rename_i h1 h2; cases h2; obtain ⟨t, rfl⟩ := h1
    refine call_range_1 (cn_range O₁ ⟨by lia, by lia⟩ hb ⟨_, _, _, rfl, rfl⟩ fun it s₂ O₂ => ?_)
    refine lp_range hh O₂ J h0 (fun i m Γ I s hi hJ O => ?_) (fun m Γ I s hJ O => done m Γ I s (by simpa using hJ) O) hl' hp
    rw [Int.zero_add] at O
    rw [Int.sub_zero] at O ⊢
    exact turn it i m Γ I s (by lia) hJ O) hc hpa) hs
theorem st_forR2 {g e₁ e₂ : Expr} {x : Str} {px : Pos} {rest : List Stmt} {a b : Int} {p' : Pos} (hh : A.handled = none) (O : Ow c env.locals m Γ I s) (hg : PE c A env m Γ I g (.v (.type "range"))) (h₁ : PE c A env m Γ I e₁ (.i a)) (h₂ : PE c A env m Γ I e₂ (.i b)) (ha : -1000000000 ≤ a ∧ a ≤ 1000000000) (hb : -1000000000 ≤ b ∧ b ≤ 1000000000)
    (J : Nat → FM → Led → Led → Prop) (h0 : J 0 m Γ I)
    (turn : ∀ it i m Γ I s, a + (i : Nat) < b → J i m Γ I → Ow c env.locals (sl m x (.i (a + (i : Nat)))) (RIt it a (b - a).toNat (i + 1) ++ Γ) I s → wpAny c.M A (execs body env) (TurnEnd c env.locals (RIt it a (b - a).toNat (i + 1)) (J (i + 1)) (Thn c A env rest Q E)) (fun _ _ => False) s)
    (done : ∀ m Γ I s, J (b - a).toNat m Γ I → Ow c env.locals m Γ I s → wpAny c.M A (execs rest env) Q E s)
    (hl' : env.kindOf x = some .local := by rfl) (hp : (env.scope.kind == .class || (env.scope.kind == .module && env.locals != env.globals)) = false := by rfl)
    (hc : eval (.Call g [e₁, e₂] [] p') env = (do callWith p' (← eval g env) [] (backTo p' (starEach [e₁, e₂] env)) (backToKw p' (keywordEach [] env))) := by rfl)
    (hpa : plainArgs [e₁, e₂] = true := by rfl) (hst : starEach [e₁, e₂] env = (false, eval e₁ env) :: starEach [e₂] env := by rfl) (hst' : starEach [e₂] env = (false, eval e₂ env) :: starEach [] env := by rfl)
    (hs : ∀ x, foldedSetIterable (.Call g [e₁, e₂] [] p') env x = pure x := by intro _; rfl) : wpAny c.M A (execs (.For (.Name x px) (.Call g [e₁, e₂] [] p') body [] pos :: rest) env) Q E s :=
  st_for (cl_ty O hg (pl_cons h₁ (pl_cons h₂ pl_nil hst') hst) (fun vs s₁ hv O₁ => by
    cases hv; rename_i h1 h2; cases h2; rename_i h2 h3; cases h3; obtain ⟨t, rfl⟩ := h1; obtain ⟨u, rfl⟩ := h2
    exact call_range_2 (cn_range O₁ ha hb ⟨_, _, _, rfl, rfl⟩ fun it s₂ O₂ => lp_range hh O₂ J h0 (turn it) done hl' hp)) hc hpa) hs
/-- while t: body -/
theorem st_while {t : Expr} {rest : List Stmt} (J : Nat → FM → Led → Led → Prop) (O : Ow c env.locals m Γ I s) {k : Nat} (h0 : J k m Γ I)
    (turn : ∀ k m Γ I s, J k m Γ I → Ow c env.locals m Γ I s → wpAny c.M A (isTrue t env (eval t env)) (fun b s₂ => match b with
      | true => wpAny c.M A (execs body env) (TurnEnd c env.locals [] (fun m Γ I => ∃ k', k' < k ∧ J k' m Γ I) (Thn c A env rest Q E)) (fun _ _ => False) s₂
      | false => wpAny c.M A (execs rest env) Q E s₂) (fun _ _ => False) s) :
    wpAny c.M A (execs (.While t body [] pos :: rest) env) Q E s := by
  refine st_seq (wpAny_While (codeAny_whileLoop (fun k s => ∃ m Γ I, J k m Γ I ∧ Ow c env.locals m Γ I s) ?_ k ⟨m, Γ, I, h0, O⟩))
  rintro k s ⟨m, Γ, I, hJ, O⟩
  refine wpAny_mono (turn k m Γ I s hJ O) (fun b s₂ h₂ => ?_) fun _ _ x => x.elim
  cases b with
  | false => simp only [Bool.false_eq_true, if_false]; exact wpAny_execs_nil h₂
  | true =>
    simp only [if_true]
    refine wpAny_mono h₂ (fun fl s₃ h₃ => ?_) fun _ _ x => x.elim
    cases fl with
    | next => obtain ⟨m', Γ', I', ⟨k', hk, hJ'⟩, O'⟩ := h₃; exact ⟨k', hk, m', Γ', I', hJ', O'⟩
    | cont => obtain ⟨m', Γ', I', ⟨k', hk, hJ'⟩, O'⟩ := h₃; exact ⟨k', hk, m', Γ', I', hJ', O'⟩
    | brk => exact h₃
    | ret v => exact h₃
end

section
variable {c : Cx} {A : Around} {L C : Addr} {m m' : FM} {Γ Γ' I : Led} {s : Shared} {E : Value → Shared → Prop}
/-- the frame steps down, the one beneath it up -/
theorem Ow.swap (O : Ow c C m' ((L, isNs m) :: Γ) I s) : Ow c L m ((C, isNs m') :: Γ) I s := by
  have hL := O.has _ (.head _)
  have O' := O.leave
  have hd := List.nodup_cons.mp O.nd
  obtain ⟨q, F, M⟩ := O.fr
  obtain ⟨oC, es, ep, hC, h0, hk, hq⟩ := F.ns
  have e : nsFind es = q := funext hq
  refine ⟨O.gens, O.os, O'.fr, fun p hp => ?_, O'.hasI, ?_, fun p hp q hq => ?_⟩
  · rcases List.mem_cons.mp hp with rfl | hp
    · exact ⟨⟨oC, hC, es, ep, h0, hk, e ▸ M⟩, Ne.symm hL.2.1, O.above⟩
    · exact O'.has p hp
  · refine List.nodup_cons.mpr ⟨fun h => ?_, hd.2⟩
    obtain ⟨p, hp, e⟩ := List.mem_map.mp h
    exact (O.has p (.tail _ hp)).2.1 e
  · rcases List.mem_cons.mp hp with rfl | hp
    · exact (O.hasI q hq).2.1.symm
    · exact O.ap p (.tail _ hp) q hq
theorem Ow.leaveBut (O : Ow c C m' ((L, isNs m) :: Γ) I s) {h' : Heap} (hs : Heap.SameBut C s.heap h') : Ow c L m Γ I { s with heap := h' } :=
  O.swap.lose (tk := s.toks) fun b o hb e => (hs.2 b hb).trans e
end

/-- what is left of a comprehension once its source is an iterator -/
noncomputable def CompAt (c : Cx) (A : Around) (env : Env) (elt : Expr) (tg iter : Expr) (ifs : List Expr) (scope : Scope) (cl : List (Str × Addr)) (pos : Pos) (use : Option (Value → Sem Unit)) (Q : Value → Shared → Prop) (E : Value → Shared → Prop) (it : Value) (s₂ : Shared) : Prop :=
  wpAny c.M A (newList []) (fun acc s₃ => wpAny c.M A (newFunctionEnv scope env.globals cl [] env.qual none .none (some env)) (fun cenv s₄ =>
    codeAny c.M A (.compStart (.ListComp elt [⟨tg, iter, ifs, 0⟩] scope pos) 0 it acc { cenv with scope := relabel scope env }) (compPost c.M A E use Q acc cenv.locals) s₄) E s₃) E s₂

theorem codeAny_compLoop_all {c : Cx} {A : Around} {R : Result → Shared → Prop} {s : Shared} {elt tg iter : Expr} {ifs : List Expr} {scope : Scope} {pos : Pos} {it acc : Value} {env : Env} (I : Nat → Shared → Prop)
    (turn : ∀ n s, I n s → wpAny c.M A (pyNext it) (fun r s₁ => match r with
      | none => R (.ok .next) s₁
      | some v => wpAny c.M A (letOwnedTupleGo tg it v) (fun _ s₁' => wpAny c.M A (assign tg env v) (fun _ s₂ =>
          wpAny c.M A (forIn ifs true fun c r => if r = true then do let ok ← isTrue c env (eval c env); pure (ForInStep.yield ok) else pure (ForInStep.yield r)) (fun ok s₃ =>
            if ok = true then wpAny c.M A (eval elt env) (fun x s₄ =>
              wpAny c.M A (call (.builtin "list.append") [acc, x]) (fun _ s₅ => ∃ m, m < n ∧ I m s₅) (fun _ _ => False) s₄) (fun _ _ => False) s₃
            else ∃ m, m < n ∧ I m s₃) (fun _ _ => False) s₂) (fun _ _ => False) s₁') (fun _ _ => False) s₁) (fun _ _ => False) s)
    (n : Nat) (h : I n s) :
    codeAny c.M A (.compLoop (.ListComp elt [⟨tg, iter, ifs, 0⟩] scope pos) 0 it acc env) R s := by
  refine codeAny_loop rfl I (fun n s hI => ?_) n h
  show wpAny _ A ((compTurn (.ListComp elt [⟨tg, iter, ifs, 0⟩] scope pos) 0 it acc env).onRaise (fun x => do noteFrame x env; theTreesLotGoes x)) _ _ s
  refine wpAny_noted ?_
  rw [compTurn_list]
  refine wpAny_bind (wpAny_standAt (wpAny_bind (wpAny_mono (turn n s hI) (fun r s₁ h₁ => ?_) fun _ _ x => x.elim)))
  cases r with
  | none => exact wpAny_pure h₁
  | some v =>
    refine wpAny_bind (wpAny_mono h₁ (fun _ s₁' h₁' => ?_) fun _ _ x => x.elim)
    refine wpAny_bind (wpAny_mono h₁' (fun _ s₂ h₂ => wpAny_bind (wpAny_mono h₂ (fun ok s₃ h₃ => ?_) fun _ _ x => x.elim)) fun _ _ x => x.elim)
    cases ok with
    | false => exact wpAny_pure ⟨rfl, h₃⟩
    | true =>
      exact wpAny_bind (wpAny_bind (wpAny_mono h₃ (fun x s₄ h₄ => wpAny_bind (wpAny_mono h₄ (fun _ s₅ h₅ => wpAny_pure (wpAny_pure ⟨rfl, h₅⟩)) fun _ _ x => x.elim)) fun _ _ x => x.elim))

section
variable {α β : Type} {f : α → AV} {g : β → AV} {c : Cx} {A : Around} {env : Env} {L : Addr} {m m' : FM} {Γ Γ' I : Led} {s : Shared} {pos p : Pos} {E : Value → Shared → Prop}
variable {it : Addr} {n : Nat} {S : Nat → Led} {D : Led → Led → Prop} {tg iter elt : Expr} {upd : Nat → FM → FM} {scope : Scope} {cl : List (Str × Addr)}

/-- the end of a turn of a comprehension: y is its item -/
noncomputable def CompEndM (c : Cx) (C Dl L : Addr) (m : FM) (g : β → AV) (S : Led) (acc : List β) (J : List β → Led → Led → Prop) (y : Value) (s' : Shared) : Prop :=
  ∃ z m' Γ' I', (g z).is y ∧ J (acc ++ [z]) Γ' I' ∧ Ow c C m' (S ++ (Dl, isLm g acc) :: (L, isNs m) :: Γ') I' s'
/-- what a comprehension's turn does: its tests, its item -/
noncomputable def CompDo (c : Cx) (A : Around) (cenv : Env) (elt : Expr) (Dl L : Addr) (m : FM) (g : β → AV) (S : Led) (acc : List β) (J : List β → Led → Led → Prop) : List Expr → Shared → Prop
  | [], s => wpAny c.M A (eval elt cenv) (CompEndM c cenv.locals Dl L m g S acc J) (fun _ _ => False) s
  | [t], s => wpAny c.M A (isTrue t cenv (eval t cenv)) (fun b s' => match b with
      | true => wpAny c.M A (eval elt cenv) (CompEndM c cenv.locals Dl L m g S acc J) (fun _ _ => False) s'
      | false => ∃ m' Γ' I', J acc Γ' I' ∧ Ow c cenv.locals m' (S ++ (Dl, isLm g acc) :: (L, isNs m) :: Γ') I' s') (fun _ _ => False) s
  | _, _ => False

theorem cp_core {ifs : List Expr} {use : Option (Value → Sem Unit)} {Q : Value → Shared → Prop} (W : ∀ C, Itr c A (compEnvC scope cl C env) it n S D tg upd)
    (J : Nat → List β → Led → Led → Prop) (hD : ∀ i acc Γ I, J i acc Γ I → D Γ I) (hz : n ≤ lim) (hJl : ∀ i acc Γ I, J i acc Γ I → acc.length ≤ i)
    (hcell : ∀ y ∈ scope.names, y.2 ≠ .cell) (hkind : scope.kind = .function)
    (O : Ow c env.locals m (S 0 ++ Γ) I s) (h0 : J 0 [] Γ I)
    (turn : ∀ C Dl i acc Γ I s, i < n → J i acc Γ I → Ow c C (upd i []) (S (i + 1) ++ (Dl, isLm g acc) :: (env.locals, isNs m) :: Γ) I s → CompDo c A (compEnvC scope cl C env) elt Dl env.locals m g (S (i + 1)) acc (J (i + 1)) ifs s)
    (done : ∀ C m' Dl acc Γ I s, J n acc Γ I → Ow c C m' ((env.locals, isNs m) :: (Dl, isLm g acc) :: Γ) I s → compPost c.M A E use Q (.ref Dl) C (.ok .next) s) :
    CompAt c A env elt tg iter ifs scope cl pos use Q E (.ref it) s := by
  have step : ∀ (C Dl : Addr) s, Ow c C [] (S 0 ++ (Dl, isLm g []) :: (env.locals, isNs m) :: Γ) I s →
      codeAny c.M A (.compLoop (.ListComp elt [⟨tg, iter, ifs, 0⟩] scope pos) 0 (.ref it) (.ref Dl) (compEnvC scope cl C env)) (compPost c.M A E use Q (.ref Dl) C) s := by
    intro C Dl s O
    refine codeAny_compLoop_all (fun k s => ∃ i acc m₁ Γ I, k = n - i ∧ i ≤ n ∧ J i acc Γ I ∧ Ow c C m₁ (S i ++ (Dl, isLm g acc) :: (env.locals, isNs m) :: Γ) I s) ?_ n ⟨0, [], [], Γ, I, by lia, by lia, h0, O⟩
    rintro k s ⟨i, acc, m₁, Γ, I, rfl, hi, hJ, O⟩
    have hD' := (W C).mono (p := (Dl, isLm g acc)) ((W C).mono (p := (env.locals, isNs m)) (hD _ _ _ _ hJ))
    by_cases hlt : i < n
    · refine wpAny_mono ((W C).step i [] _ I s (fun _ _ => False) (fun s₃ => CompDo c A (compEnvC scope cl C env) elt Dl env.locals m g (S (i + 1)) acc (J (i + 1)) ifs s₃) hlt hD' (O.fsub .nil) fun s' O' => turn C Dl i acc Γ I s' hlt hJ O') (fun r s₁ h₁ => ?_) fun _ _ x => x.elim
      obtain ⟨v, rfl, h₁⟩ := h₁
      refine wpAny_mono h₁ (fun _ s₂ h₂ => wpAny_mono h₂ (fun _ s₃ h₃ => ?_) fun _ _ x => x.elim) fun _ _ x => x.elim
      have fin : ∀ s, wpAny c.M A (eval elt (compEnvC scope cl C env)) (CompEndM c C Dl env.locals m g (S (i + 1)) acc (J (i + 1))) (fun _ _ => False) s →
          wpAny c.M A (eval elt (compEnvC scope cl C env)) (fun x s₄ => wpAny c.M A (call (.builtin "list.append") [.ref Dl, x]) (fun _ s₅ => ∃ k, k < n - i ∧ ∃ i acc m₁ Γ I, k = n - i ∧ i ≤ n ∧ J i acc Γ I ∧ Ow c C m₁ (S i ++ (Dl, isLm g acc) :: (env.locals, isNs m) :: Γ) I s₅) (fun _ _ => False) s₄) (fun _ _ => False) s := by
        intro s h
        refine wpAny_mono h (fun y s₄ h₄ => ?_) fun _ _ x => x.elim
        obtain ⟨z, m', Γ', I', hy, hJ', O'⟩ := h₄
        have hl := hJl _ _ _ _ hJ
        refine cn_append (O'.perm List.perm_middle) hy .here (by lia) fun s₅ O₅ => ?_
        exact ⟨n - (i + 1), by lia, i + 1, acc ++ [z], m', Γ', I', rfl, hlt, hJ', O₅.perm List.perm_middle.symm⟩
      match ifs, h₃ with
      | [], h₃ => exact wpAny_tests_nil (by simp only [if_true]; exact fin _ h₃)
      | [t], h₃ =>
        refine wpAny_tests_one (wpAny_mono h₃ (fun b s₄ h₄ => ?_) fun _ _ x => x.elim)
        cases b with
        | true => simp only [if_true]; exact fin _ h₄
        | false =>
          obtain ⟨m', Γ', I', hJ', O'⟩ := h₄
          simp only [Bool.false_eq_true, if_false]
          exact ⟨n - (i + 1), by lia, i + 1, acc, m', Γ', I', rfl, hlt, hJ', O'⟩
      | _ :: _ :: _, h₃ => exact h₃.elim
    · have : i = n := by lia
      subst this
      refine wpAny_mono ((W C).done m₁ _ I s (fun _ _ => False) (fun s' => compPost c.M A E use Q (.ref Dl) C (.ok .next) s') hD' O fun s' O' => done C m₁ Dl acc Γ I s' hJ (O'.perm (.swap ..))) (fun r s₁ h₁ => ?_) fun _ _ x => x.elim
      obtain ⟨rfl, h₁⟩ := h₁
      exact h₁
  unfold CompAt
  refine wpAny_newObj_type (wpAny_newFunctionEnv hcell (by intro y hy; simp at hy) (fun h₁ hns₁ hsb₁ => ?_) hkind)
  dsimp only at hns₁ hsb₁ ⊢
  have O₁ : Ow c env.locals m ((s.heap.objs.size, isLm g []) :: (S 0 ++ Γ)) I { s with heap := s.heap.push { cls := .type "list", data := .seq ([] : List Value).toArray } } := O.push ⟨[], 0, .nil, rfl⟩
  have O₂ : Ow c (s.heap.push { cls := .type "list", data := .seq ([] : List Value).toArray }).objs.size [] ((env.locals, isNs m) :: (s.heap.objs.size, isLm g []) :: (S 0 ++ Γ)) I { s with heap := h₁, toks := s.toks } :=
    O₁.enter (tk := s.toks) (Nat.le_refl _) hns₁ Mt.nil fun b o e => (hsb₁.2 b (Nat.ne_of_lt (Heap.lt_size e))).trans (Heap.get?_push_of_some _ e)
  have O₃ : Ow c (s.heap.push { cls := .type "list", data := .seq ([] : List Value).toArray }).objs.size [] (S 0 ++ (s.heap.objs.size, isLm g []) :: (env.locals, isNs m) :: Γ) I { s with heap := h₁, toks := s.toks } := by
    refine O₂.perm ?_
    refine (List.Perm.swap ..).trans ?_
    exact (List.perm_middle (l₁ := S 0) (l₂ := (env.locals, isNs m) :: Γ)).trans ((List.perm_middle (l₁ := S 0) (l₂ := Γ)).cons _) |>.symm
  refine codeAny_compStart_list (step _ _ _ O₃) ((W (s.heap.push { cls := .type "list", data := .seq ([] : List Value).toArray }).objs.size).self 0 _ [] _ I _ _ _ ?_ O₃ (step _ _ _ O₃))
  exact (W 0).mono ((W 0).mono (hD _ _ _ _ h0))

/-- [elt for tg in iter ..] -/
theorem cp_list {ifs : List Expr} {Q : Value → Shared → Prop} (h : wpAny c.M A (eval iter env) (fun x s₁ => wpAny c.M A (pyIter x) (CompAt c A env elt tg iter ifs scope cl pos none Q E) E s₁) E s)
    (hclos : closureFor scope env = pure cl) (hkind : scope.kind = .function) (hnames : ∀ y ∈ scope.names, y.2 = .local → scope.names.lookup y.1 = some .local)
    (hs : ∀ x, foldedSetIterable iter env x = pure x := by intro _; rfl) :
    wpAny c.M A (eval (.ListComp elt [⟨tg, iter, ifs, 0⟩] scope pos) env) Q E s := by
  rw [eval_ListComp]
  exact wpAny_comprehension_free (use := none) rfl hs hclos hkind hnames h
/-- y = [elt for tg in iter ..] -/
theorem st_comp {ifs : List Expr} {Q : Flow → Shared → Prop} {rest : List Stmt} {y : Str} {py spos : Pos}
    (h : wpAny c.M A (eval iter env) (fun x s₁ => wpAny c.M A (pyIter x) (CompAt c A env elt tg iter ifs scope cl pos (some (assign (.Name y py) env)) (fun _ s' => wpAny c.M A (execs rest env) Q E s') E) E s₁) E s)
    (hclos : closureFor scope env = pure cl) (hkind : scope.kind = .function) (hnames : ∀ y ∈ scope.names, y.2 = .local → scope.names.lookup y.1 = some .local)
    (hsw : swapsWith (.ListComp elt [⟨tg, iter, ifs, 0⟩] scope pos) (some (.Name y py)) spos.line env = pure true := by rfl)
    (hs : ∀ x, foldedSetIterable iter env x = pure x := by intro _; rfl) :
    wpAny c.M A (execs (.Assign [.Name y py] (.ListComp elt [⟨tg, iter, ifs, 0⟩] scope pos) spos :: rest) env) Q E s := by
  refine st_seq ?_
  rw [exec_Assign_Name_used _ _ _ _ hsw]
  refine wpAny_bind (wpAny_standAt (wpAny_bind ?_))
  show wpAny _ A (do let _ ← comprehension (.ListComp elt [⟨tg, iter, ifs, 0⟩] scope pos) scope env _ (newList []) false (eval iter env) (some (assign (.Name y py) env))) _ _ s
  exact wpAny_bind (wpAny_mono (wpAny_comprehension_free (use := some (assign (.Name y py) env)) rfl hs hclos hkind hnames h) (fun _ s' hq => wpAny_pure (wpAny_pure hq)) fun _ _ e => e)

/-- the end of a plain comprehension -/
theorem cp_end {C : Addr} {m' : FM} {Dl : Addr} {acc : List β} {Q : Value → Shared → Prop} (O : Ow c C m' ((L, isNs m) :: (Dl, isLm g acc) :: Γ) I s) (h : ∀ s', Ow c L m ((Dl, isLm g acc) :: Γ) I s' → Q (.ref Dl) s') :
    compPost c.M A E none Q (.ref Dl) C (.ok .next) s := by
  obtain ⟨q, F, M⟩ := O.fr
  exact ⟨q, F.ns, fun h' hs => h _ (O.leaveBut hs)⟩
theorem cp_endS {C : Addr} {m' : FM} {Dl : Addr} {acc : List β} {y : Str} {py : Pos} {Q : Value → Shared → Prop} (O : Ow c C m' ((env.locals, isNs m) :: (Dl, isLm g acc) :: Γ) I s) (h : ∀ s', Ow c env.locals (sl m y (rf Dl)) ((Dl, isLm g acc) :: Γ) I s' → Q .none s')
    (hl : env.kindOf y = some .local := by rfl) (hp : (env.scope.kind == .class || (env.scope.kind == .module && env.locals != env.globals)) = false := by rfl) :
    compPost c.M A E (some (assign (.Name y py) env)) Q (.ref Dl) C (.ok .next) s := by
  refine wpAny_assign_Name (st_store (a := rf Dl) O.swap rfl (fun s' O' => ?_) hl hp)
  obtain ⟨o, ho, es, ep, h0, hk, hM⟩ := O'.get (.head _)
  exact ⟨nsFind es, ⟨o, es, ep, ho, h0, hk, fun _ => rfl⟩, fun h' hs => h _ (O'.lose (tk := s'.toks) fun b o hb e => (hs.2 b hb).trans e)⟩
end

/-- the pairs of a display -/
inductive KVs : List (Str × Value) → FM → FM → Prop
  | nil {m} : KVs [] m m
  | cons {k v a r m m'} : a.is v → KVs r (sl m k a) m' → KVs ((k, v) :: r) m m'

section
variable {α : Type} {f : α → AV} {c : Cx} {A : Around} {env : Env} {L : Addr} {m m' : FM} {Γ Γ' I : Led} {s : Shared} {pos p : Pos} {E : Value → Shared → Prop} {C' : (Obj → Prop) → Led}

/-! an object made -/
theorem Room.make {n : Nat} {C : Addr} {r : List Value} {kw : List (Str × Value)} (h : Room (n + 1) A) : Room n (A.under (.builtin "type.__call__" ⟨.ref C :: r, kw⟩)) := by
  have h2 : (A.under (.builtin "type.__call__" ⟨.ref C :: r, kw⟩)).units = A.units + 1 := rfl
  refine ⟨h.handled, ?_, ?_⟩
  · have := h.depth
    rw [depth_under_kw]; lia
  · have := h.units
    rw [h2]; lia

theorem isF_nil : isF [] (dictOf [] 0) := ⟨[], 0, rfl, fun e h => by simp at h, Nat.le_refl _, fun x => rfl⟩

theorem call_new {oc : Value} {od : Option Addr} {osl : Array (Option Value)} {C fI : Addr} {name qual : Str} {params : Arguments} {body : List Stmt} {scope : Scope} {dV kV doc pm cdv ct : Value} {an : Option Addr} {n : Nat}
    {args : List Value} {kw : List (Str × Value)} {binds : Addr → List (Str × Value)} {fm : Addr → FM} {Q : Value → Shared → Prop}
    (hA : Room (n + 2) A) (O : Ow c L m Γ I s)
    (hm : makesIn (Mine.K c.w.params) C = true) (hi : findIn (Mine.K c.w.params) (.ref C) "__init__" = some (some (.ref fI))) (hf : isFn (Mine.K c.w.params) (.ref fI) = true)
    (ho : (Mine.K c.w.params).lookup fI = some ⟨oc, od, .func (fnOf name qual params body scope dV kV doc pm an cdv ct), osl⟩) (hcd : codeIn (Mine.K c.w.params) cdv qual = true)
    (hbind : ∀ x s', (Mine.K c.w.params).In s'.heap → BindsTo s' (fnOf name qual params body scope dV kV doc pm an cdv ct) ⟨.ref x :: args, kw⟩ (binds x)) (hM : ∀ x, MtB (binds x) (fm x)) (hn : ∀ x, nodupB (binds x) = true) (hloc : ∀ x, ∀ y ∈ binds x, scope.names.lookup y.1 = some .local)
    (hcell : ∀ x ∈ scope.names, x.2 ≠ .cell) (hco : scope.isCoroutine = false) (hgen : scope.isGenerator = false) (hk : scope.kind = .function)
    (h : ∀ A' x dx L' s', Room n (Around.deeper A' (envOf qual scope L' fI cdv)) → Ow c L' (fm x) ((L, isNs m) :: (x, isI C dx) :: (dx, isF []) :: Γ) I s' →
      wpAny c.M (Around.deeper A' (envOf qual scope L' fI cdv)) (execs body (envOf qual scope L' fI cdv)) (fun fl s'' => (match fl with | .ret v => v | _ => .none) = .none ∧ Q (.ref x) s'') (fun _ _ => False) s') :
    wpAny c.M A (call (.ref C) args kw) Q E s := by
  have X := c.kin.keeps O.keep
  obtain ⟨hh, g, d, t, os⟩ := s
  have O₁ : Ow c L m ((hh.objs.size, isF []) :: Γ) I ⟨hh.push emptyDict, g, d, t, os⟩ := O.push isF_nil
  have O₂ := O₁.push (o := instObj C hh.objs.size) (P := isI C hh.objs.size) rfl
  have hsz : (hh.push emptyDict).objs.size = hh.objs.size + 1 := Heap.size_push ..
  have O₃ : Ow c L m ((hh.objs.size + 1, isI C hh.objs.size) :: (hh.objs.size, isF []) :: Γ) I ⟨(hh.push emptyDict).push (instObj C hh.objs.size), g, d, t, os⟩ := by rw [← hsz]; exact O₂
  refine wpAny_call (make_core (makes_of X hm) (looks_findIn X hi) (fun self => bind_fn X self (beq_iff_eq.mp hf)) (.inl rfl) ?_)
  have hA' := hA.make (C := C) (r := args) (kw := kw)
  refine codeAny_call_def (fd := fnOf name qual params body scope dV kV doc pm an cdv ct) (body := body) (binds := binds _) hA'.lim ((c.kin.keeps O₃.keep) _ _ ho) rfl (c.nolimit.keeps O₃.keep) (codeRec_of (c.kin.keeps O₃.keep) hcd) rfl (hbind _ _ (c.kin.keeps O₃.keep)) hcell (hloc _) (fun h₁ hns hk₁ => ?_) hco hgen hk
  have O₄ := O₃.enter (tk := t + (binds (hh.objs.size + 1)).length) (Nat.le_refl _) hns ((hM _).mt (hn _)) hk₁
  refine wpAny_mono (h _ _ _ _ _ (hA'.deeper) O₄) (fun fl s' z => ?_) fun _ _ z => z.elim
  exact z

/-! strs -/
theorem str_eq_cps (x y : Str) : (x.cps.toList == y.cps.toList) = decide (x = y) := by
  rw [Bool.eq_iff_iff, beq_iff_eq, decide_eq_true_iff]
  constructor
  · intro h; cases x; cases y; simp only at h; congr 1; exact Array.toList_inj.mp h
  · rintro rfl; rfl
theorem cm_eqS {x y : Str} : ∀ v u, (AV.s x).is v → (AV.s y).is u → Pu c A L m Γ I (compareOp .Eq v u) (· = .bool (decide (x = y))) := by
  rintro _ _ ⟨t, rfl⟩ ⟨u, rfl⟩; exact fun _ _ _ O k => eq_str (k _ _ (by show Value.bool _ = Value.bool _; congr 1) O)
theorem strsAre_of {xs : List Str} : ∀ {vs : List Value}, AVs (xs.map .s) vs → StrsAre vs xs := by
  induction xs with
  | nil => intro vs h; cases h; exact .nil
  | cons x r ih => intro vs h; cases h; rename_i h1 h2; obtain ⟨t, rfl⟩ := h1; exact .cons _ _ (ih h2)
theorem cm_inS {x : Str} {t : Addr} {xs : List Str} (ht : In2 t (isT (xs.map .s)) Γ I) : ∀ v, (AV.s x).is v → Pu c A L m Γ I (compareOp .In v (.ref t)) (· = .bool (xs.any (· == x))) := by
  rintro _ ⟨u, rfl⟩ _ _ _ O k
  obtain ⟨vs, n, hv, hT, ho⟩ := O.tup ht
  have hS := strsAre_of hv
  refine SeqAt.in_tupleAt (isStrOf x) (items := vs.toArray) ⟨_, ho, rfl, n, rfl⟩ (fun y hy => (eq_isStrOf x u hS y (by simpa using hy)).at _ _) (k _ _ ?_ O)
  rw [List.any_toArray, any_isStrOf x hS]
theorem pb_in {l : Expr} {es : List Expr} {n : Nat} {pt : Pos} {x : Str} {xs : List Str} (hl : PE c A env m Γ I l (.s x)) (hr : PL c A env m Γ I es (xs.map .s)) (hz : xs.length ≤ 1000) (hm : behindInMarks .In (.Tuple es n pt) = false := by with_unfolding_all rfl) :
    PB c A env m Γ I (.Compare l [.In] [.Tuple es n pt] pos) (xs.any (· == x)) := fun _ _ _ O k =>
  wpAny_isTrue_Compare1 (hl _ _ _ O fun v s' hv O' => cn_tuple O' hr (by simpa using hz) fun t s'' O'' => cm_inS (.inl (.head _)) v hv _ _ _ O'' fun w s₃ hw O₃ => by
    subst hw; exact wpAny_truthy_bool (k _ _ rfl O₃.drop)) hm
theorem pe_in {l : Expr} {es : List Expr} {n : Nat} {pt : Pos} {x : Str} {xs : List Str} (hl : PE c A env m Γ I l (.s x)) (hr : PL c A env m Γ I es (xs.map .s)) (hz : xs.length ≤ 1000) (hm : behindInMarks .In (.Tuple es n pt) = false := by with_unfolding_all rfl) :
    PE c A env m Γ I (.Compare l [.In] [.Tuple es n pt] pos) (bo (xs.any (· == x))) := fun _ _ _ O k =>
  wpAny_Compare1 (hl _ _ _ O fun v s' hv O' => cn_tuple O' hr (by simpa using hz) fun t s'' O'' => cm_inS (.inl (.head _)) v hv _ _ _ O'' fun w s₃ hw O₃ => k _ _ hw O₃.drop) hm

/-! min, max, abs, sum -/
theorem ci_max {a b : Int} (hA : Room 1 A) : ∀ vs, AVs [.i a, .i b] vs → Pu c A L m Γ I (call (.builtin "max") vs []) (AV.i (if b > a then b else a)).is := fun vs hv _ _ _ O k => by
  cases hv; rename_i h1 h2; cases h2; rename_i h2 h3; cases h3; obtain ⟨t, rfl⟩ := h1; obtain ⟨u, rfl⟩ := h2
  refine max_two_ints hA.handled fun h' tk hk => k _ _ ?_ (O.keeps hk)
  split <;> exact ⟨_, rfl⟩
theorem ci_min {a b : Int} (hA : Room 1 A) : ∀ vs, AVs [.i a, .i b] vs → Pu c A L m Γ I (call (.builtin "min") vs []) (AV.i (if b < a then b else a)).is := fun vs hv _ _ _ O k => by
  cases hv; rename_i h1 h2; cases h2; rename_i h2 h3; cases h3; obtain ⟨t, rfl⟩ := h1; obtain ⟨u, rfl⟩ := h2
  refine min_two_ints hA.handled fun h' tk hk => k _ _ ?_ (O.keeps hk)
  split <;> exact ⟨_, rfl⟩
theorem ci_abs {a : Int} : ∀ vs, AVs [.i a] vs → Pu c A L m Γ I (call (.builtin "abs") vs []) (AV.i (if a < 0 then -a else a)).is := fun vs hv _ _ _ O k => by
  cases hv; rename_i h1 h2; cases h2; obtain ⟨t, rfl⟩ := h1
  exact call_abs_int fun u tk => k _ _ ⟨_, rfl⟩ O.tok
theorem intItems_of : ∀ {ns : List Int} {vs : List Value}, AVs (ns.map .i) vs → ∃ xs : Array (Int × Tok), vs.toArray = intItems xs ∧ xs.toList.map (·.1) = ns := by
  intro ns
  induction ns with
  | nil => intro vs h; cases h; exact ⟨#[], by simp [intItems], rfl⟩
  | cons n r ih =>
    intro vs h
    cases h
    rename_i h1 h2
    obtain ⟨t, rfl⟩ := h1
    obtain ⟨xs, h3, h4⟩ := ih h2
    refine ⟨((n, t) :: xs.toList).toArray, ?_, by simp [h4]⟩
    apply Array.toList_inj.mp
    have := congrArg Array.toList h3
    simp only [intItems, Array.toList_map] at this ⊢
    simpa using this
theorem preSum_eq (g : Nat → Int) (ns : List Int) (h : ∀ j, j < ns.length → g j = ns.getD j 0) : ∀ j, j ≤ ns.length → preSum g j = (ns.take j).sum := by
  intro j
  induction j with
  | zero => intro _; simp [preSum]
  | succ j ih =>
    intro hj
    have hj' : j < ns.length := by lia
    rw [preSum, ih (by lia), h j hj', List.take_add_one, List.getElem?_eq_getElem hj', List.getD_eq_getElem?_getD, List.getElem?_eq_getElem hj', List.sum_append]
    simp
theorem sum_bd (ns : List Int) (h : ∀ n ∈ ns, 0 ≤ n ∧ n ≤ 1000000) : 0 ≤ ns.sum ∧ ns.sum ≤ 1000000 * ns.length := by
  induction ns with
  | nil => simp
  | cons n r ih =>
    have h1 := h n (by simp)
    have h2 := ih fun k hk => h k (by simp [hk])
    simp only [List.sum_cons, List.length_cons]
    lia
theorem ci_sum {l : Addr} {ns : List Int} (hA : Room 1 A) (hl : In2 l (isInts ns) Γ I) (hz : ns.length ≤ lim) (hb : ∀ n ∈ ns, 0 ≤ n ∧ n ≤ 1000000) : Pu c A L m Γ I (call (.builtin "sum") [.ref l] []) (AV.i ns.sum).is := fun _ _ _ O k => by
  obtain ⟨vs, n, hv, ho⟩ := O.lst hl
  obtain ⟨xs, h1, h2⟩ := intItems_of hv
  have hsz : xs.size = ns.length := by rw [← h2]; simp
  have hnum : ∀ j, j < ns.length → numAt xs j = ns.getD j 0 := fun j hj => by
    rw [← h2]; simp [numAt, List.getD_eq_getElem?_getD]
  refine sum_intList hA.handled (xs := xs) ⟨_, ho, rfl, n, by rw [h1]⟩ (fun j hj => ?_) fun h' tk t' hk => k _ _ ⟨t', ?_⟩ (O.keeps hk)
  · rw [hsz] at hj
    rw [hnum j hj, preSum_eq _ ns hnum (j + 1) (by lia)]
    have hm := hb (ns.getD j 0) (by rw [List.getD_eq_getElem?_getD, List.getElem?_eq_getElem hj]; simp)
    have ht := sum_bd (ns.take (j + 1)) fun k hk => hb k (List.mem_of_mem_take hk)
    have hl : (ns.take (j + 1)).length ≤ 1000000 := by rw [List.length_take]; unfold lim at hz; lia
    unfold InLong; lia
  · rw [preSum_eq _ ns hnum _ (by lia), hsz, List.take_length]

/-! cells -/
noncomputable def isC (a : AV) (o : Obj) : Prop := ∃ v, o.data = .cell (some v) ∧ a.is v
noncomputable def isC0 (o : Obj) : Prop := ∃ v, o.data = .cell v
theorem pe_cell {x : Str} {a : AV} {q : Addr} (hc : env.cells.lookup x = some q) (hq : In2 q (isC a) Γ I) (hk : env.scope.kind = .function := by rfl) (hl : env.kindOf x = some .cell := by rfl) (hd : (x == ("__debug__" : Str)) = false := by rfl) :
    PE c A env m Γ I (.Name x pos) a := fun _ _ _ O h => by
  obtain ⟨o, ho, v, hv, ha⟩ := O.get2 hq
  exact wpAny_Name (wpAny_loadName_cell hk hl hc ⟨o, ho, hv⟩ (h _ _ ha O)) hd
theorem st_storeC {x : Str} {v : Value} {a : AV} {q : Addr} {Q : Unit → Shared → Prop} (O : Ow c env.locals m Γ I s) (hv : a.is v) (hc : env.cells.lookup x = some q) (hq : PutC q isC0 Γ C') (h : ∀ s', Ow c env.locals m (C' (isC a)) I s' → Q () s')
    (hk : env.scope.kind = .function := by rfl) (hl : env.kindOf x = some .cell := by rfl) : wpAny c.M A (storeName env x v) Q E s := by
  obtain ⟨o, ho, v₀, hv₀⟩ := O.get hq.mem
  refine wpAny_storeName_cell hk hl hc ⟨o, ho, hv₀⟩ fun h' hc' hs => ?_
  obtain ⟨o', ho', hd'⟩ := hc'
  exact h _ (O.put (tk := s.toks) (hq.put _) (fun b o hb e => (hs.2 b hb).trans e) ho' ⟨v, hd', hv⟩)

/-! a if t else b -/
theorem pe_ifexp {t a b : Expr} {x : Bool} {v w : AV} (ht : PB c A env m Γ I t x) (ha : x = true → PE c A env m Γ I a v) (hb : x = false → PE c A env m Γ I b v) : PE c A env m Γ I (.IfExp t a b pos) v := fun _ _ _ O k =>
  wpAny_IfExp (ht _ _ _ O fun y s' hy O' => by
    subst hy
    cases y
    · exact hb rfl _ _ _ O' k
    · exact ha rfl _ _ _ O' k)
theorem cs_ifexp {t a b : Expr} {x : Bool} {Q : Value → Shared → Prop} (O : Ow c env.locals m Γ I s) (ht : PB c A env m Γ I t x) (ha : x = true → ∀ s', Ow c env.locals m Γ I s' → wpAny c.M A (eval a env) Q E s')
    (hb : x = false → ∀ s', Ow c env.locals m Γ I s' → wpAny c.M A (eval b env) Q E s') : wpAny c.M A (eval (.IfExp t a b pos) env) Q E s :=
  wpAny_IfExp (ht _ _ _ O fun y s' hy O' => by
    subst hy
    cases y
    · exact hb rfl _ O'
    · exact ha rfl _ O')

/-! enumerate -/
theorem cn_enum {l : Addr} {xs : List α} {Q : Value → Shared → Prop} (O : Ow c L m Γ I s) (hl : In2 l (isLm f xs) Γ I)
    (h : ∀ e it s', e ≠ it → l ≠ e → l ≠ it → Ow c L m (EIt e it l 0 ++ Γ) I s' → Q (.ref e) s') : wpAny c.M A (call (.type "enumerate") [.ref l] []) Q E s := by
  obtain ⟨vs, n, hv, ho⟩ := O.lst hl
  have hlt := Heap.lt_size ho
  refine call_enumerate_list (items := vs.toArray) ⟨_, ho, rfl, n, rfl⟩ fun h' he hit hsz hk => h _ _ _ (Nat.succ_ne_self _) (Nat.ne_of_lt (Nat.lt_succ_of_lt hlt)) (Nat.ne_of_lt hlt) ?_
  obtain ⟨oi, hoi, _⟩ := id hit
  have O₁ : Ow c L m ((s.heap.objs.size, isSt s.heap.objs.size fun h => h.IsListIter s.heap.objs.size l 0) :: Γ) I { s with heap := h', toks := s.toks } := O.freshK hk (Nat.le_refl _) hoi ⟨h', hoi, hit⟩
  have hne : ∀ p ∈ ((s.heap.objs.size, isSt s.heap.objs.size fun h => h.IsListIter s.heap.objs.size l 0) :: Γ), p.1 ≠ s.heap.objs.size + 1 := fun p hp => by
    rcases List.mem_cons.mp hp with rfl | hp
    · exact Nat.ne_of_lt (Nat.lt_succ_self _)
    · obtain ⟨o, e, _⟩ := (O.has p hp).1; exact Nat.ne_of_lt (Nat.lt_succ_of_lt (Heap.lt_size e))
  refine ⟨O₁.gens, O₁.os, O₁.fr, fun p hp => ?_, O₁.hasI, List.nodup_cons.mpr ⟨fun h => ?_, O₁.nd⟩, fun p hp q hq => ?_⟩
  · rcases List.mem_cons.mp hp with rfl | hp
    · exact ⟨⟨_, he, h', he, _, he⟩, Nat.ne_of_gt (Nat.lt_succ_of_lt O.lt), Nat.le_of_lt (Nat.lt_of_le_of_lt O.above (Nat.lt_succ_of_lt O.lt))⟩
    · exact O₁.has p hp
  · obtain ⟨p, hp, e⟩ := List.mem_map.mp h; exact hne p hp e
  · rcases List.mem_cons.mp hp with rfl | hp
    · obtain ⟨o, e, _⟩ := (O.hasI q hq).1; exact Nat.ne_of_gt (Nat.lt_succ_of_lt (Heap.lt_size e))
    · exact O₁.ap p hp q hq

/-! dicts by written keys -/
noncomputable def isM (c : Cx) (fm : FM) (o : Obj) : Prop := ∃ kvs : List (Str × Value), o.IsDictOf (PySem.strKind PR c.w) kvs ∧ kvs.length ≤ fm.length ∧ ∀ x, AO (gl fm x) (valueAt kvs x)
theorem isM_nil : isM c [] emptyDict := ⟨[], ⟨#[], 0, ⟨rfl, rfl, rfl⟩, rfl, fun _ he => by simp at he, .nil, .nil⟩, Nat.le_refl _, fun _ => rfl⟩
theorem valueAt_stored (kvs : List (Str × Value)) (k x : Str) (v : Value) : valueAt (stored kvs k v) x = if x = k then some v else valueAt kvs x := by
  unfold stored
  have key : ∀ l : List (Str × Value), (l.any fun kv => kv.1 = k) = true → valueAt (l.map fun kv => if kv.1 = k then (kv.1, v) else kv) x = if x = k then some v else valueAt l x := by
    intro l
    induction l with
    | nil => intro h; simp at h
    | cons p r ih =>
      intro h
      unfold valueAt at ih ⊢
      rw [List.map_cons, List.find?_cons, List.find?_cons]
      by_cases hp : p.1 = k
      · simp only [hp, if_true]
        by_cases hx : x = k
        · subst hx; simp
        · have h1 : decide (k = x) = false := by simpa using fun e => hx e.symm
          simp only [h1, if_neg hx]
          by_cases hr : (r.any fun kv => kv.1 = k) = true
          · have := ih hr; rw [if_neg hx] at this; exact this
          · congr 1
            have hid : r.map (fun kv => if kv.1 = k then (kv.1, v) else kv) = r := by
              refine (List.map_congr_left fun q hq => ?_).trans (List.map_id r)
              have : q.1 ≠ k := fun e => hr (List.any_eq_true.mpr ⟨q, hq, by simpa using e⟩)
              simp [this]
            rw [hid]
      · simp only [hp, if_false]
        by_cases hx : p.1 = x
        · have : x ≠ k := fun e => hp (hx.trans e)
          simp [hx, this]
        · have h1 : decide (p.1 = x) = false := by simpa using hx
          simp only [h1]
          exact ih (by simpa [hp] using h)
  split
  · rename_i h; exact key kvs h
  · rename_i h
    unfold valueAt
    rw [List.find?_append]
    by_cases hx : x = k
    · subst hx
      have : kvs.find? (fun kv => decide (kv.1 = x)) = none := by
        rw [List.find?_eq_none]; intro q hq e; exact h (List.any_eq_true.mpr ⟨q, hq, e⟩)
      simp [this]
    · have : decide (k = x) = false := by simpa using fun e => hx e.symm
      simp [hx, this]
theorem isM_set {fm : FM} {o o' : Obj} {kvs : List (Str × Value)} {k : Str} {v : Value} {a : AV} (ha : a.is v) (hl : kvs.length ≤ fm.length) (hv : ∀ x, AO (gl fm x) (valueAt kvs x)) (ho : o'.IsDictOf (PySem.strKind PR c.w) (stored kvs k v)) : isM c (sl fm k a) o' := by
  refine ⟨_, ho, ?_, fun x => by rw [valueAt_stored]; exact AO.set hv ha x⟩
  rw [sl_length]
  have hs := (hv k).isSome
  have h1 := stored_length_le kvs k v
  cases hg : (gl fm k).isSome with
  | false => simp; lia
  | true =>
    rw [hg] at hs
    have : (kvs.any fun kv => kv.1 = k) = true := by
      unfold valueAt at hs
      rw [Option.isSome_map] at hs
      obtain ⟨q, hq⟩ := Option.isSome_iff_exists.mp hs.symm
      exact List.any_eq_true.mpr ⟨q, List.mem_of_find?_eq_some hq, by simpa using List.find?_some hq⟩
    simp only [if_true]
    unfold stored
    rw [if_pos this, List.length_map]; exact hl

theorem pe_key {o : Expr} {d : Addr} {fm : FM} {k : Str} {kk : Option Str} {p' : Pos} {a : AV} {x1} (ho : PE c A env m Γ I o (rf d)) (hd : In2 d (isM c fm) Γ I) (hv : gl fm k = some a)
    (hs : ∀ t, subscripted (.Constant (.str k) x1 p') false (.ref d) (.str k t) = operate [.ref d, .str k t] (getItem (.ref d) (.str k t)) := by intro _; with_unfolding_all rfl)
    (hg : ∀ r, letTemporaryGo o (.ref d) r = pure () := by intro _; with_unfolding_all rfl) :
    PE c A env m Γ I (.Subscript o (.Constant (.str k) x1 p') pos) a := fun _ _ _ O q => Subscript_ (ho _ _ _ O fun v s' hv' O' => wpAny_Constant_str (by
  cases hv'
  have O₂ := O'.tok (tk := s'.toks + 1)
  obtain ⟨ob, hob, kvs, hD, hl, hA⟩ := O₂.get2 hd
  have h0 := hA k
  rw [hv] at h0
  obtain ⟨u, h1, h2⟩ := h0
  have hDO : Heap.DictOf (PySem.strKind PR c.w) s'.heap d kvs := Heap.dictOf_iff.mpr ⟨ob, hob, hD⟩
  exact subscriptTail_builtin (s := { s' with toks := s'.toks + 1 }) (Heap.DictOf.typeIs (s := { s' with toks := s'.toks + 1 }) hDO) slot_dict_getitem.lookup (wpAny_getItem_of (strKind_is _ _ _ _) (Heap.DictOf.mapOf hDO) h1 (q _ _ h2 O₂.tok)) (hs _) hg))
/-- d[k] = v -/
theorem su_key {d : Addr} {fm : FM} {k : Str} {t : Tok} {v : Value} {a : AV} {Q : Unit → Shared → Prop} (O : Ow c L m Γ I s) (ha : a.is v) (hd : PutC d (isM c fm) Γ C') (hz : fm.length ≤ 1000) (h : ∀ s', Ow c L m (C' (isM c (sl fm k a))) I s' → Q () s') :
    wpAny c.M A (setItem (.ref d) (.str k t) v) Q E s := by
  obtain ⟨ob, hob, kvs, hD, hl, hA⟩ := O.get hd.mem
  refine wpAny_setItem_pairs (knd := PySem.strKind PR c.w) (strKind_is _ _ _ _) (Heap.dictOf_iff.mpr ⟨ob, hob, hD⟩) (fun h' hm hs => ?_) (by rw [sizeLine_eq]; lia)
  obtain ⟨o', ho', hd'⟩ := Heap.dictOf_iff.mp hm
  exact h _ (O.put (hd.put _) (fun b o hb e => (hs.2 b hb).trans e) ho' (isM_set (o := ob) ha hl hA hd'))
theorem st_key {value o : Expr} {d : Addr} {fm : FM} {k : Str} {x1} {p' p'' : Pos} {a : AV} {Q : Flow → Shared → Prop} {rest : List Stmt} (O : Ow c env.locals m Γ I s) (hv : PE c A env m Γ I value a) (ho : PE c A env m Γ I o (rf d)) (hd : PutC d (isM c fm) Γ C') (hz : fm.length ≤ 1000)
    (h : ∀ s', Ow c env.locals m (C' (isM c (sl fm k a))) I s' → wpAny c.M A (execs rest env) Q E s')
    (hs : swapsWith value (some (.Subscript o (.Constant (.str k) x1 p'') p')) pos.line env = pure false := by rfl) :
    wpAny c.M A (execs (.Assign [.Subscript o (.Constant (.str k) x1 p'') p'] value pos :: rest) env) Q E s :=
  st_seq (wpAny_Assign_Subscript (hv _ _ _ O fun v s₁ hv' O₁ => ho _ _ _ O₁ fun u s₂ hu O₂ => wpAny_Constant_str (by cases hu; exact su_key O₂.tok hv' hd hz h)) hs)
/-- the value is made on the way -/
theorem st_keyC {value o : Expr} {k : Str} {x1} {p' p'' : Pos} {Q : Flow → Shared → Prop} {rest : List Stmt}
    (h : wpAny c.M A (eval value env) (fun v s₁ => wpAny c.M A (eval o env) (fun ov s₂ => wpAny c.M A (eval (.Constant (.str k) x1 p'') env) (fun iv s₃ => wpAny c.M A (setItem ov iv v) (fun _ => Thn c A env rest Q E .next) E s₃) E s₂) E s₁) E s)
    (hs : swapsWith value (some (.Subscript o (.Constant (.str k) x1 p'') p')) pos.line env = pure false := by rfl) :
    wpAny c.M A (execs (.Assign [.Subscript o (.Constant (.str k) x1 p'') p'] value pos :: rest) env) Q E s := st_seq (wpAny_Assign_Subscript h hs)
theorem ss_key {o : Expr} {d : Addr} {fm : FM} {k : Str} {x1} {p'' : Pos} {v : Value} {a : AV} {Q : Unit → Shared → Prop} (O : Ow c env.locals m Γ I s) (ha : a.is v) (ho : PE c A env m Γ I o (rf d)) (hd : PutC d (isM c fm) Γ C') (hz : fm.length ≤ 1000)
    (h : ∀ s', Ow c env.locals m (C' (isM c (sl fm k a))) I s' → Q () s') :
    wpAny c.M A (eval o env) (fun ov s₂ => wpAny c.M A (eval (.Constant (.str k) x1 p'') env) (fun iv s₃ => wpAny c.M A (setItem ov iv v) Q E s₃) E s₂) E s :=
  ho _ _ _ O fun u s₂ hu O₂ => wpAny_Constant_str (by cases hu; exact su_key O₂.tok ha hd hz h)

theorem KVs.merged {kvs : List (Str × Value)} {m m' : FM} (h : KVs kvs m m') : ∀ base : List (Str × Value), base.length ≤ m.length → (∀ x, AO (gl m x) (valueAt base x)) → ∀ o', Obj.IsDictOf (PySem.strKind PR c.w) o' (merged base kvs) → isM c m' o' := by
  induction h with
  | nil => intro base hl hA o' ho; exact ⟨base, ho, hl, hA⟩
  | @cons k v a r m m' ha _ ih =>
    intro base hl hA o' ho
    refine ih (stored base k v) ?_ (fun x => by rw [valueAt_stored]; exact AO.set hA ha x) o' ho
    rw [sl_length]
    have hs := (hA k).isSome
    have h1 := stored_length_le base k v
    cases hg : (gl m k).isSome with
    | false => simp; lia
    | true =>
      rw [hg] at hs
      have : (base.any fun kv => kv.1 = k) = true := by
        unfold valueAt at hs
        rw [Option.isSome_map] at hs
        obtain ⟨q, hq⟩ := Option.isSome_iff_exists.mp hs.symm
        exact List.any_eq_true.mpr ⟨q, List.mem_of_find?_eq_some hq, by simpa using List.find?_some hq⟩
      simp only [if_true]
      unfold stored
      rw [if_pos this, List.length_map]; exact hl
theorem cn_dict {keys : List (Option Expr)} {values : List Expr} {Q : Value → Shared → Prop} (O : Ow c L m Γ I s)
    (hall : keys.all (·.isSome) = true) (hl : keys.length = values.length) (h0 : keys ≠ []) (hlen : keys.length ≤ 15)
    (h : ∀ d s', Ow c L m ((d, isM c []) :: Γ) I s' → wpAny c.M A (evalPairs (pairTrees keys values env pos)) (fun vs s₁ => ∃ kvs fm m₁ Γ₁ I₁, Carries (PySem.strKind PR c.w) vs kvs ∧ KVs kvs [] fm ∧ Ow c L m₁ ((d, isM c []) :: Γ₁) I₁ s₁ ∧
      ∀ s', Ow c L m₁ ((d, isM c fm) :: Γ₁) I₁ s' → Q (.ref d) s') E s') : wpAny c.M A (eval (.Dict keys values pos) env) Q E s := by
  have O₁ : Ow c L m ((s.heap.objs.size, isM c []) :: Γ) I { s with heap := s.heap.push emptyDict } := O.push isM_nil
  refine wpAny_Dict_walk (knd := PySem.strKind PR c.w) hall hl h0 hlen (wpAny_mono (h _ _ O₁) (fun vs s₁ h₁ => ?_) fun _ _ x => x)
  obtain ⟨kvs, fm, m₁, Γ₁, I₁, hC, hK, O₂, k⟩ := h₁
  obtain ⟨ob, hob, kvs₀, hD, hl₀, hA₀⟩ := O₂.get (.head _)
  have : kvs₀ = [] := List.eq_nil_of_length_eq_zero (Nat.le_zero.mp hl₀)
  subst this
  refine ⟨kvs, hC, Heap.dictOf_iff.mpr ⟨ob, hob, hD⟩, fun h' hm hs => ?_⟩
  obtain ⟨o', ho', hd'⟩ := Heap.dictOf_iff.mp hm
  exact k _ (O₂.turn (fun b o hb e => (hs.2 b hb).trans e) ho' (hK.merged [] (Nat.le_refl _) (fun _ => rfl) o' hd'))
end

/-- names bound one after the other -/
inductive Binds (env : Env) : List (Value → Sem Unit) → List AV → FM → FM → Prop
  | nil {m} : Binds env [] [] m m
  | cons {x : Str} {a : AV} {ts as m m'} : env.kindOf x = some .local → (env.scope.kind == .class || (env.scope.kind == .module && env.locals != env.globals)) = false →
      Binds env ts as (sl m x a) m' → Binds env ((fun v => bindName env x v) :: ts) (a :: as) m m'

section
variable {α : Type} {f : α → AV} {c : Cx} {A : Around} {env : Env} {L : Addr} {m m' : FM} {Γ Γ' I : Led} {s : Shared} {pos p : Pos} {E : Value → Shared → Prop} {C' : (Obj → Prop) → Led}

theorem cn_dict0 {Q : Value → Shared → Prop} (O : Ow c L m Γ I s) (h : ∀ d s', Ow c L m ((d, isM c []) :: Γ) I s' → Q (.ref d) s') : wpAny c.M A (eval (.Dict [] [] pos) env) Q E s :=
  wpAny_Dict_empty (h _ _ (O.push isM_nil))
theorem cn_sorted0 {d : Addr} {Q : Value → Shared → Prop} (hh : A.handled = none) (O : Ow c L m Γ I s) (hd : In2 d (isM c []) Γ I) (h : ∀ r s', Ow c L m ((r, isInts []) :: Γ) I s' → Q (.ref r) s') : wpAny c.M A (call (.builtin "sorted") [.ref d] []) Q E s := by
  obtain ⟨ob, hob, kvs, hD, hl, hA⟩ := O.get2 hd
  have : kvs = [] := List.eq_nil_of_length_eq_zero (Nat.le_zero.mp hl)
  subst this
  have hDO : Heap.DictOf (PySem.strKind PR c.w) s.heap d [] := Heap.dictOf_iff.mpr ⟨ob, hob, hD⟩
  obtain ⟨ep, hat⟩ := hDO.dictAt
  have lo : (d == sysModules) = false := beq_eq_false_iff_ne.mpr (Nat.ne_of_gt (Nat.lt_of_lt_of_le (modules_low c.nolimit) (O.off2 hd).2))
  obtain ⟨q, F, M⟩ := O.fr
  refine kdu_sorted (kdl_dict (knd := PySem.strKind PR c.w) (kvs := []) (ep := ep) lo) hh F (made_news O) hat (Nat.zero_le _) fun B h' tk vs F' N' l1 hl hv => ?_
  have : vs = [] := List.eq_nil_of_length_eq_zero hl
  subst this
  have hB := N' _ (.head _)
  have hold : ∀ b o, c.G.objs.size ≤ b → b ≠ L → s.heap.get? b = some o → h'.get? b = some o := fun b o h1 h2 e => (N' _ (.tail _ (mem_made.mpr ⟨h1, h2, e⟩))).1
  refine wpAny_call_entry slot_list_sort ⟨_, hB.1, rfl⟩ entry_list_sort (list_sort_tree (n := 0) hB.1 .nil (by decide) fun out ns' a1 a2 a3 => ⟨_, rfl, ?_⟩) (args_list_sort _)
  have : ns' = [] := List.Perm.eq_nil a2
  subst this
  have hout : out.toList = [] := by cases hq : out.toList with | nil => rfl | cons v r => rw [hq] at a1; cases a1
  obtain ⟨e, he⟩ := sortedHeap_at (vs := []) (out := out) hB.1
  have hke : ∀ b o, b ≠ B → h'.get? b = some o → (sortedHeap h' B [] out).get? b = some o := fun b o hb e => (sortedHeap_old hb (Heap.lt_size e)).trans e
  have hBG : ∀ b o, c.G.get? b = some o → b ≠ B := fun b o e hb => by have := hB.2.2; rw [← hb, e] at this; cases this
  have O' : Ow c L m Γ I { s with heap := sortedHeap h' B [] out, toks := tk } := by
    refine O.same ⟨q, ⟨?_, fun b o e => hke b o (hBG b o e) (F'.keep b o e), F'.above⟩, M⟩ fun b o h1 h2 e => hke b o (Nat.ne_of_lt (l1 _ (mem_made.mpr ⟨h1, h2, e⟩))) (hold b o h1 h2 e)
    obtain ⟨oL, es, ep, hL, r⟩ := F'.ns
    exact ⟨oL, es, ep, hke _ _ (Ne.symm hB.2.1) hL, r⟩
  refine h B _ ?_
  have hBs : c.G.objs.size ≤ B := by
    have hdm := l1 _ (In2.made O hd hob)
    exact Nat.le_trans (O.off2 hd).2 (Nat.le_of_lt hdm)
  have hne : ∀ p, At s p → p.1 ≠ L → c.G.objs.size ≤ p.1 → p.1 ≠ B := fun p ⟨o, e, _⟩ h1 h2 => Nat.ne_of_lt (l1 _ (mem_made.mpr ⟨h2, h1, e⟩))
  refine ⟨O'.gens, O'.os, O'.fr, fun p hp => ?_, O'.hasI, List.nodup_cons.mpr ⟨fun h => ?_, O'.nd⟩, fun p hp q hq => ?_⟩
  · rcases List.mem_cons.mp hp with rfl | hp
    · exact ⟨⟨_, he, out.toList, e, by rw [hout]; exact .nil, by simp [seqObj]⟩, hB.2.1, hBs⟩
    · exact O'.has p hp
  · obtain ⟨p, hp, e⟩ := List.mem_map.mp h
    have := O.has p hp
    exact hne p this.1 this.2.1 this.2.2 e
  · rcases List.mem_cons.mp hp with rfl | hp
    · have := O.hasI q hq; exact (hne q this.1 this.2.1 this.2.2).symm
    · exact O'.ap p hp q hq

/-! a, b = t -/
theorem st_tuple {elts : List Expr} {k : Nat} {pt : Pos} {value : Expr} {rest : List Stmt} {Q : Flow → Shared → Prop} (hh : A.handled = none)
    (h : wpAny c.M A (eval value env) (fun v s₁ => ∃ t as m₁ m₂ Γ₁ I₁, v = .ref t ∧ Ow c env.locals m₁ Γ₁ I₁ s₁ ∧ In2 t (isT as) Γ₁ I₁ ∧ Stores env (assignEach elts env) as m₁ m₂ ∧ ∀ s', Ow c env.locals m₂ Γ₁ I₁ s' → wpAny c.M A (execs rest env) Q E s') E s)
    (hs : swapsWithSole [.Tuple elts k pt] value pos.line env = pure false := by rfl)
    (hw : swappedStores [.Tuple elts k pt] value env = pure none := by rfl) : wpAny c.M A (execs (.Assign [.Tuple elts k pt] value pos :: rest) env) Q E s := by
  refine st_seq (Assign_Tuple (wpAny_mono h (fun v s₁ h₁ => ?_) fun _ _ x => x) hs hw)
  obtain ⟨t, as, m₁, m₂, Γ₁, I₁, rfl, O, ht, hS, k⟩ := h₁
  exact st_unpack hh O ht hS k
theorem Binds.run {ts : List (Value → Sem Unit)} {as : List AV} {vs : List Value} {Q : Unit → Shared → Prop} (h : Binds env ts as m m') (hv : AVs as vs) : ∀ {s}, Ow c env.locals m Γ I s → (∀ s', Ow c env.locals m' Γ I s' → Q () s') → wpAny c.M A (assignInOrder ts vs) Q E s := by
  induction h generalizing vs with
  | nil => intro s O k; cases hv; exact assignInOrder_nil (k _ O)
  | cons h1 h2 _ ih =>
    intro s O k
    cases hv
    rename_i hv hr
    exact assignInOrder_cons (bindName_ (st_store O hv (fun s' O' => ih hr O' k) h1 h2))
theorem AVs.rev {as vs} (h : AVs as vs) : AVs as.reverse vs.reverse := by
  induction h with
  | nil => exact .nil
  | cons hv _ ih => rw [List.reverse_cons, List.reverse_cons]; exact ih.app (.cons hv .nil)
/-- the same where the stores are swapped -/
theorem st_tupleS {elts : List Expr} {k : Nat} {pt : Pos} {value : Expr} {rest : List Stmt} {names : List Str} {Q : Flow → Shared → Prop} (hh : A.handled = none)
    (h : wpAny c.M A (eval value env) (fun v s₁ => ∃ t as m₁ m₂ Γ₁ I₁, v = .ref t ∧ Ow c env.locals m₁ Γ₁ I₁ s₁ ∧ In2 t (isT as) Γ₁ I₁ ∧ names.length = as.length ∧ Binds env (names.reverse.map fun n => bindName env n) as.reverse m₁ m₂ ∧ ∀ s', Ow c env.locals m₂ Γ₁ I₁ s' → wpAny c.M A (execs rest env) Q E s') E s)
    (hs : swapsWithSole [.Tuple elts k pt] value pos.line env = pure false := by rfl)
    (hw : swappedStores [.Tuple elts k pt] value env = pure (some names) := by rfl) : wpAny c.M A (execs (.Assign [.Tuple elts k pt] value pos :: rest) env) Q E s := by
  refine st_seq (Assign_Tuple_swapped (wpAny_mono h (fun v s₁ h₁ => ?_) fun _ _ x => x) hs hw)
  obtain ⟨t, as, m₁, m₂, Γ₁, I₁, rfl, O, ht, hn, hS, k⟩ := h₁
  obtain ⟨vs, n, hv, hT, ho⟩ := O.tup ht
  obtain ⟨q, F, M⟩ := O.fr
  rw [show names.length = vs.toArray.size by rw [List.size_toArray, hv.length, hn]]
  refine unpackItems_tuple hh hT fun h' he => ?_
  exact hS.run hv.rev (O.keeps (tk := s₁.toks) fun b o e => he b o (Nat.ne_of_lt (Heap.lt_size e)) e) k
theorem st_tup2 {x y : Str} {px py pt pv : Pos} {k k' : Nat} {e₁ e₂ : Expr} {a b : AV} {rest : List Stmt} {Q : Flow → Shared → Prop} (hh : A.handled = none) (O : Ow c env.locals m Γ I s) (h₁ : PE c A env m Γ I e₁ a) (h₂ : PE c A env m Γ I e₂ b)
    (h : ∀ s', Ow c env.locals (sl (sl m y b) x a) Γ I s' → wpAny c.M A (execs rest env) Q E s')
    (hx : env.kindOf x = some .local := by rfl) (hy : env.kindOf y = some .local := by rfl) (hp : (env.scope.kind == .class || (env.scope.kind == .module && env.locals != env.globals)) = false := by rfl)
    (hs : swapsWithSole [.Tuple [.Name x px, .Name y py] k pt] (.Tuple [e₁, e₂] k' pv) pos.line env = pure false := by rfl)
    (hw : swappedStores [.Tuple [.Name x px, .Name y py] k pt] (.Tuple [e₁, e₂] k' pv) env = pure (some [x, y]) := by rfl)
    (hst : starEach [e₁, e₂] env = (false, eval e₁ env) :: starEach [e₂] env := by rfl) (hst' : starEach [e₂] env = (false, eval e₂ env) :: starEach [] env := by rfl) :
    wpAny c.M A (execs (.Assign [.Tuple [.Name x px, .Name y py] k pt] (.Tuple [e₁, e₂] k' pv) pos :: rest) env) Q E s :=
  st_tupleS (names := [x, y]) hh (cn_tuple O (pl_cons h₁ (pl_cons h₂ pl_nil hst') hst) (by exact Nat.le_of_ble_eq_true rfl) fun t s₁ O₁ =>
    ⟨t, [a, b], m, sl (sl m y b) x a, _, I, rfl, O₁, .inl (.head _), rfl, Binds.cons hy hp (Binds.cons hx hp .nil), fun s₂ O₂ => h s₂ O₂.drop⟩) hs hw
/-- a, b = what gives a tuple -/
theorem ut_tup2 {x y : Str} {px py pt : Pos} {k : Nat} {value : Expr} {rest : List Stmt} {Q : Flow → Shared → Prop} (hh : A.handled = none)
    (h : wpAny c.M A (eval value env) (fun v s₁ => ∃ t a b m₁ Γ₁ I₁, v = .ref t ∧ Ow c env.locals m₁ Γ₁ I₁ s₁ ∧ In2 t (isT [a, b]) Γ₁ I₁ ∧ ∀ s', Ow c env.locals (sl (sl m₁ x a) y b) Γ₁ I₁ s' → wpAny c.M A (execs rest env) Q E s') E s)
    (hx : env.kindOf x = some .local := by rfl) (hy : env.kindOf y = some .local := by rfl) (hp : (env.scope.kind == .class || (env.scope.kind == .module && env.locals != env.globals)) = false := by rfl)
    (hs : swapsWithSole [.Tuple [.Name x px, .Name y py] k pt] value pos.line env = pure false := by rfl)
    (hw : swappedStores [.Tuple [.Name x px, .Name y py] k pt] value env = pure none := by rfl)
    (hE : assignEach [.Name x px, .Name y py] env = [(false, assign (.Name x px) env), (false, assign (.Name y py) env)] := by rfl) :
    wpAny c.M A (execs (.Assign [.Tuple [.Name x px, .Name y py] k pt] value pos :: rest) env) Q E s :=
  st_tuple hh (wpAny_mono h (fun v s₁ h₁ => by
    obtain ⟨t, a, b, m₁, Γ₁, I₁, hv, O, ht, k⟩ := h₁
    refine ⟨t, [a, b], m₁, _, Γ₁, I₁, hv, O, ht, ?_, k⟩
    rw [hE]
    exact .cons (p' := px) hx hp (.cons (p' := py) hy hp .nil)) fun _ _ x => x) hs hw
end
theorem zip_of {ps lit : List Arg} {args : List Value} {b : List (Str × Value)} (hp : ps = lit) (h : (lit.map (fun a => a.arg)).zip args = b) : (ps.map (fun a => a.arg)).zip args = b := hp ▸ h
theorem AV.isv {x : Value} : (AV.v x).is x := rfl
theorem AVs_r1 {a : Addr} {vs : List Value} (h : AVs [rf a] vs) : vs = [.ref a] := by cases h; rename_i h1 h2; cases h1; cases h2; rfl
theorem AVs_i1 {n : Int} {vs : List Value} (h : AVs [.i n] vs) : ∃ t, vs = [.int n t] := by cases h; rename_i h1 h2; cases h2; obtain ⟨t, rfl⟩ := h1; exact ⟨t, rfl⟩
theorem st_ifF1 {c : Cx} {A : Around} {env : Env} {m : FM} {Γ I : Led} {s : Shared} {pos : Pos} {E : Value → Shared → Prop} {Q : Flow → Shared → Prop} {rest : List Stmt} {t : Expr} {body : List Stmt} {b : Bool} (O : Ow c env.locals m Γ I s) (ht : PB c A env m Γ I t b) (hb : b = false)
    (h2 : ∀ s', Ow c env.locals m Γ I s' → wpAny c.M A (execs rest env) Q E s') : wpAny c.M A (execs (.If t body [] pos :: rest) env) Q E s := st_ifF0 O (hb ▸ ht) h2
theorem In2.there {a : Addr} {P : Obj → Prop} {p} {Γ I : Led} (h : In2 a P Γ I) : In2 a P (p :: Γ) I := h.elim (fun h => .inl (.tail _ h)) .inr
theorem call_fnZ {c : Cx} {A : Around} {L : Addr} {m : FM} {Γ I : Led} {s : Shared} {oc : Value} {od : Option Addr} {osl : Array (Option Value)} {f : Addr} {name qual : Str} {params : Arguments} {body : List Stmt} {scope : Scope} {dV kV doc pm cdv ct : Value} {an : Option Addr} {n : Nat}
    {args : List Value} {kw : List (Str × Value)} {binds : List (Str × Value)} {fm : FM} {Q : Value → Shared → Prop} {E : Value → Shared → Prop}
    (hA : Room (n + 1) A) (O : Ow c L m Γ I s)
    (ho : (Mine.K c.w.params).lookup f = some ⟨oc, od, .func (fnOf name qual params body scope dV kV doc pm an cdv ct), osl⟩) (hcd : codeIn (Mine.K c.w.params) cdv qual = true)
    (hbs : (params.args.map (·.arg)).zip args = binds)
    (hbind : BindsTo s (fnOf name qual params body scope dV kV doc pm an cdv ct) ⟨args, kw⟩ binds) (hM : MtB binds fm) (hn : nodupB binds = true) (hloc : ∀ y ∈ binds, scope.names.lookup y.1 = some .local)
    (hcell : ∀ x ∈ scope.names, x.2 ≠ .cell) (hco : scope.isCoroutine = false) (hgen : scope.isGenerator = false) (hk : scope.kind = .function)
    (h : ∀ L' s', Room n (A.deeper (envOf qual scope L' f cdv)) → Ow c L' fm ((L, isNs m) :: Γ) I s' →
      wpAny c.M (A.deeper (envOf qual scope L' f cdv)) (execs body (envOf qual scope L' f cdv)) (fun fl s'' => Q (match fl with | .ret v => v | _ => .none) s'') (fun _ _ => False) s') :
    wpAny c.M A (call (.ref f) args kw) Q E s := call_fn hA O ho hcd hbind hM hn hloc hcell hco hgen hk h
noncomputable def attrsOk (K : Frag) (C : Addr) (fs : List Str) : Bool :=
  plainGet K C "x" && hasDictIn K C && findIn K (.ref C) "__setattr__" == some (some (.builtin "object.__setattr__")) && plainOver K C &&
    fs.all fun f => findIn K (.ref C) f == some none && takerIn K C f == some none
noncomputable def methsOk (K : Frag) (C : Addr) (fs : List (Str × Addr)) : Bool :=
  plainGet K C "x" && fs.all fun f => findIn K (.ref C) f.1 == some (some (.ref f.2)) && isFn K (.ref f.2) && keepIn K (.ref f.2)
theorem AttrF.of {K C fs f} (h : attrsOk K C fs = true) (hf : f ∈ fs) : AttrF K C f := by
  simp only [attrsOk, Bool.and_eq_true, List.all_eq_true, beq_iff_eq] at h
  exact ⟨h.1.1.1.1, h.1.1.1.2, (h.2 f hf).1⟩
theorem SetF.of {K C fs f} (h : attrsOk K C fs = true) (hf : f ∈ fs) : SetF K C f := by
  simp only [attrsOk, Bool.and_eq_true, List.all_eq_true, beq_iff_eq] at h
  exact ⟨h.1.1.2, h.1.2, (h.2 f hf).2, h.1.1.1.2⟩
theorem MethF.of {K C fs f a} (h : methsOk K C fs = true) (hf : (f, a) ∈ fs) : MethF K C f a := by
  simp only [methsOk, Bool.and_eq_true, List.all_eq_true, beq_iff_eq] at h
  exact ⟨h.1, (h.2 _ hf).1.1, (h.2 _ hf).1.2⟩
theorem MethF.keep {K C fs f a} (h : methsOk K C fs = true) (hf : (f, a) ∈ fs) : keepIn K (.ref a) = true := by
  simp only [methsOk, Bool.and_eq_true, List.all_eq_true, beq_iff_eq] at h
  exact (h.2 _ hf).2
/-- the names at the top that are refs, strs, or missing there (built-in) -/
noncomputable def namesOk (K : Frag) (fs : List (Str × Addr)) : Bool := fs.all fun f => nsIn K mainGlobals f.1 == some (some (.ref f.2)) && keepIn K (.ref f.2)
noncomputable def missOk (K : Frag) (fs : List Str) : Bool := fs.all fun f => nsIn K mainGlobals f == some none
theorem name_of {K fs f a} (h : namesOk K fs = true) (hf : (f, a) ∈ fs) : nsIn K mainGlobals f = some (some (.ref a)) := by
  simp only [namesOk, List.all_eq_true, Bool.and_eq_true, beq_iff_eq] at h; exact (h _ hf).1
theorem miss_of {K fs f} (h : missOk K fs = true) (hf : f ∈ fs) : nsIn K mainGlobals f = some none := by
  simp only [missOk, List.all_eq_true, beq_iff_eq] at h; exact h _ hf

theorem at_gap (P : Params) : attrsOk (Mine.K P) 354 ["room", "cells", "gap_start", "gap_end"] = true := by kernel_rfl!
theorem at_mark (P : Params) : attrsOk (Mine.K P) 424 ["rows"] = true := by kernel_rfl!
theorem at_buf (P : Params) : attrsOk (Mine.K P) 565 ["number", "name", "text", "markers", "point", "begv", "zv", "mark", "is_live", "is_read_only", "ticks", "codes_ticks", "saved_ticks", "listeners", "undo", "props", "overlays", "locals", "syntax", "file"] = true := by kernel_rfl!
theorem at_lit (P : Params) : attrsOk (Mine.K P) 612 ["codes", "is_folded"] = true := by kernel_rfl!
theorem at_plain (P : Params) : attrsOk (Mine.K P) 158 ["codes"] = true := by kernel_rfl!
theorem at_step (P : Params) : attrsOk (Mine.K P) 179 ["start", "old", "new", "is_replaced"] = true := by kernel_rfl!
theorem at_rep (P : Params) : attrsOk (Mine.K P) 263 ["buffer", "finder", "maker", "bound", "state", "start", "end", "is_replaced", "many", "steps"] = true := by kernel_rfl!
theorem me_gap (P : Params) : methsOk (Mine.K P) 354 [("size", 288), ("code", 295), ("codes", 302), ("move_gap", 309), ("widen_gap", 316), ("insert", 323), ("delete", 330)] = true := by kernel_rfl!
theorem me_mark (P : Params) : methsOk (Mine.K P) 424 [("numbers", 379), ("inserted", 407), ("deleted", 414), ("replaced", 421)] = true := by kernel_rfl!
theorem me_buf (P : Params) : methsOk (Mine.K P) 565 [("size", 513), ("code_at", 520), ("codes", 527), ("touch", 562)] = true := by kernel_rfl!
theorem me_lit (P : Params) : methsOk (Mine.K P) 612 [("fits", 602), ("next", 609)] = true := by kernel_rfl!
theorem me_plain (P : Params) : methsOk (Mine.K P) 158 [("made", 155)] = true := by kernel_rfl!
theorem me_rep (P : Params) : methsOk (Mine.K P) 263 [("look", 204), ("put_new", 211), ("go_on", 218), ("put_all", 225), ("go_back", 232), ("take_back", 239), ("take_out", 246), ("answer", 253), ("other", 260)] = true := by kernel_rfl!
theorem nm_top (P : Params) : namesOk (Mine.K P) [("need_writable", 48), ("reached", 55), ("tell_ahead", 62), ("tell_behind", 69), ("text_out", 76), ("text_in", 83), ("hung_out", 90), ("hung_in", 97), ("put_in", 104), ("insert_at", 112),
  ("insert", 120), ("delete", 127), ("replace", 134), ("Plain", 158), ("Step", 179), ("Replacing", 263), ("GapText", 354), ("Markers", 424), ("Buffer", 565), ("downcase", 574), ("fold", 581), ("Literal", 612), ("_law_draw", 623), ("_law_small", 628),
  ("_law_next", 635), ("_law_end", 640), ("_law_codes", 647), ("_law_put", 654), ("_law_on", 661), ("_law_back", 668), ("_law_restored", 673), ("_law_key", 678)] = true := by kernel_rfl!
theorem nm_miss (P : Params) : missOk (Mine.K P) ["len", "min", "max", "list", "sorted", "range", "abs", "sum", "enumerate"] = true := by kernel_rfl!
noncomputable def strIn (K : Frag) (n x : Str) : Bool := match nsIn K mainGlobals n with | some (some (.str y _)) => y == x | _ => false
theorem strIn_of {K n x} (h : strIn K n x = true) : ∃ t, nsIn K mainGlobals n = some (some (.str x t)) := by
  unfold strIn at h
  split at h
  · rename_i y t e
    exact ⟨t, by rw [e, beq_iff_eq.mp h]⟩
  · cases h
theorem nm_asking (P : Params) : strIn (Mine.K P) "ASKING" "asking" = true := by kernel_rfl!
theorem nm_done (P : Params) : strIn (Mine.K P) "DONE" "done" = true := by kernel_rfl!
theorem af_gap {P : Params} {f : Str} (hf : f ∈ (["room", "cells", "gap_start", "gap_end"] : List Str)) : AttrF (Mine.K P) 354 f := .of (at_gap P) hf
theorem sf_gap {P : Params} {f : Str} (hf : f ∈ (["room", "cells", "gap_start", "gap_end"] : List Str)) : SetF (Mine.K P) 354 f := .of (at_gap P) hf
theorem af_mark {P : Params} {f : Str} (hf : f ∈ (["rows"] : List Str)) : AttrF (Mine.K P) 424 f := .of (at_mark P) hf
theorem sf_mark {P : Params} {f : Str} (hf : f ∈ (["rows"] : List Str)) : SetF (Mine.K P) 424 f := .of (at_mark P) hf
theorem af_buf {P : Params} {f : Str} (hf : f ∈ (["number", "name", "text", "markers", "point", "begv", "zv", "mark", "is_live", "is_read_only", "ticks", "codes_ticks", "saved_ticks", "listeners", "undo", "props", "overlays", "locals", "syntax", "file"] : List Str)) : AttrF (Mine.K P) 565 f := .of (at_buf P) hf
theorem sf_buf {P : Params} {f : Str} (hf : f ∈ (["number", "name", "text", "markers", "point", "begv", "zv", "mark", "is_live", "is_read_only", "ticks", "codes_ticks", "saved_ticks", "listeners", "undo", "props", "overlays", "locals", "syntax", "file"] : List Str)) : SetF (Mine.K P) 565 f := .of (at_buf P) hf
theorem af_lit {P : Params} {f : Str} (hf : f ∈ (["codes", "is_folded"] : List Str)) : AttrF (Mine.K P) 612 f := .of (at_lit P) hf
theorem sf_lit {P : Params} {f : Str} (hf : f ∈ (["codes", "is_folded"] : List Str)) : SetF (Mine.K P) 612 f := .of (at_lit P) hf
theorem af_plain {P : Params} {f : Str} (hf : f ∈ (["codes"] : List Str)) : AttrF (Mine.K P) 158 f := .of (at_plain P) hf
theorem sf_plain {P : Params} {f : Str} (hf : f ∈ (["codes"] : List Str)) : SetF (Mine.K P) 158 f := .of (at_plain P) hf
theorem af_step {P : Params} {f : Str} (hf : f ∈ (["start", "old", "new", "is_replaced"] : List Str)) : AttrF (Mine.K P) 179 f := .of (at_step P) hf
theorem sf_step {P : Params} {f : Str} (hf : f ∈ (["start", "old", "new", "is_replaced"] : List Str)) : SetF (Mine.K P) 179 f := .of (at_step P) hf
theorem af_rep {P : Params} {f : Str} (hf : f ∈ (["buffer", "finder", "maker", "bound", "state", "start", "end", "is_replaced", "many", "steps"] : List Str)) : AttrF (Mine.K P) 263 f := .of (at_rep P) hf
theorem sf_rep {P : Params} {f : Str} (hf : f ∈ (["buffer", "finder", "maker", "bound", "state", "start", "end", "is_replaced", "many", "steps"] : List Str)) : SetF (Mine.K P) 263 f := .of (at_rep P) hf
theorem mf_gap {P : Params} {f : Str} {a : Addr} (hf : (f, a) ∈ ([("size", 288), ("code", 295), ("codes", 302), ("move_gap", 309), ("widen_gap", 316), ("insert", 323), ("delete", 330)] : List (Str × Addr))) : MethF (Mine.K P) 354 f a := .of (me_gap P) hf
theorem mf_mark {P : Params} {f : Str} {a : Addr} (hf : (f, a) ∈ ([("numbers", 379), ("inserted", 407), ("deleted", 414), ("replaced", 421)] : List (Str × Addr))) : MethF (Mine.K P) 424 f a := .of (me_mark P) hf
theorem mf_buf {P : Params} {f : Str} {a : Addr} (hf : (f, a) ∈ ([("size", 513), ("code_at", 520), ("codes", 527), ("touch", 562)] : List (Str × Addr))) : MethF (Mine.K P) 565 f a := .of (me_buf P) hf
theorem mf_lit {P : Params} {f : Str} {a : Addr} (hf : (f, a) ∈ ([("fits", 602), ("next", 609)] : List (Str × Addr))) : MethF (Mine.K P) 612 f a := .of (me_lit P) hf
theorem mf_plain {P : Params} {f : Str} {a : Addr} (hf : (f, a) ∈ ([("made", 155)] : List (Str × Addr))) : MethF (Mine.K P) 158 f a := .of (me_plain P) hf
theorem mf_rep {P : Params} {f : Str} {a : Addr} (hf : (f, a) ∈ ([("look", 204), ("put_new", 211), ("go_on", 218), ("put_all", 225), ("go_back", 232), ("take_back", 239), ("take_out", 246), ("answer", 253), ("other", 260)] : List (Str × Addr))) : MethF (Mine.K P) 263 f a := .of (me_rep P) hf
theorem gn_top {P : Params} {f : Str} {a : Addr} (hf : (f, a) ∈ ([("need_writable", 48), ("reached", 55), ("tell_ahead", 62), ("tell_behind", 69), ("text_out", 76), ("text_in", 83), ("hung_out", 90), ("hung_in", 97), ("put_in", 104), ("insert_at", 112),
  ("insert", 120), ("delete", 127), ("replace", 134), ("Plain", 158), ("Step", 179), ("Replacing", 263), ("GapText", 354), ("Markers", 424), ("Buffer", 565), ("downcase", 574), ("fold", 581), ("Literal", 612), ("_law_draw", 623), ("_law_small", 628),
  ("_law_next", 635), ("_law_end", 640), ("_law_codes", 647), ("_law_put", 654), ("_law_on", 661), ("_law_back", 668), ("_law_restored", 673), ("_law_key", 678)] : List (Str × Addr))) : nsIn (Mine.K P) mainGlobals f = some (some (.ref a)) := name_of (nm_top P) hf
theorem gn_miss {P : Params} {f : Str} (hf : f ∈ (["len", "min", "max", "list", "sorted", "range", "abs", "sum", "enumerate"] : List Str)) : nsIn (Mine.K P) mainGlobals f = some none := miss_of (nm_miss P) hf
theorem bt_len : bootBuiltins "len" = some (.builtin "len") := by decide +kernel
theorem bt_min : bootBuiltins "min" = some (.builtin "min") := by decide +kernel
theorem bt_max : bootBuiltins "max" = some (.builtin "max") := by decide +kernel
theorem bt_list : bootBuiltins "list" = some (.type "list") := by decide +kernel
theorem bt_sorted : bootBuiltins "sorted" = some (.builtin "sorted") := by decide +kernel
theorem bt_range : bootBuiltins "range" = some (.type "range") := by decide +kernel
theorem bt_abs : bootBuiltins "abs" = some (.builtin "abs") := by decide +kernel
theorem bt_sum : bootBuiltins "sum" = some (.builtin "sum") := by decide +kernel
theorem bt_enumerate : bootBuiltins "enumerate" = some (.type "enumerate") := by decide +kernel
/-- classes that are made by their own __init__ -/
noncomputable def initOk (K : Frag) (l : List (Addr × Addr)) : Bool := l.all fun p => makesIn K p.1 && findIn K (.ref p.1) "__init__" == some (some (.ref p.2)) && isFn K (.ref p.2)
structure InitF (K : Frag) (C f : Addr) : Prop where
  m : makesIn K C = true
  i : findIn K (.ref C) "__init__" = some (some (.ref f))
  f : isFn K (.ref f) = true
theorem InitF.of {K l C f} (h : initOk K l = true) (hf : (C, f) ∈ l) : InitF K C f := by
  simp only [initOk, Bool.and_eq_true, List.all_eq_true, beq_iff_eq] at h
  exact ⟨(h _ hf).1.1, (h _ hf).1.2, (h _ hf).2⟩
theorem in_all (P : Params) : initOk (Mine.K P) [(354, 281), (424, 372), (565, 478), (612, 595), (158, 148), (179, 176), (263, 197)] = true := by kernel_rfl!
theorem in_of {P : Params} {C f : Addr} (h : (C, f) ∈ ([(354, 281), (424, 372), (565, 478), (612, 595), (158, 148), (179, 176), (263, 197)] : List (Addr × Addr))) : InitF (Mine.K P) C f := .of (in_all P) h
theorem gs_asking {P : Params} : ∃ t, nsIn (Mine.K P) mainGlobals "ASKING" = some (some (.str "asking" t)) := strIn_of (nm_asking P)
theorem gs_done {P : Params} : ∃ t, nsIn (Mine.K P) mainGlobals "DONE" = some (some (.str "done" t)) := strIn_of (nm_done P)
noncomputable def kpL : List Nat := [288, 295, 302, 309, 316, 323, 330, 379, 407, 414, 421, 513, 520, 527, 562, 602, 609, 155, 204, 211, 218, 225, 232, 239, 246, 253, 260, 48, 55, 62, 69, 76, 83, 90, 97, 104, 112, 120, 127, 134, 158, 179, 263, 354, 424, 565, 574, 581, 612, 623, 628, 635, 640, 647, 654, 661, 668, 673, 678]
theorem kp_all (P : Params) : (kpL.all fun a => keepIn (Mine.K P) (.ref a)) = true := by kernel_rfl!
theorem kp_of {P : Params} {a : Addr} (h : kpL.contains a = true) : keepIn (Mine.K P) (.ref a) = true := List.all_eq_true.mp (kp_all P) a (List.contains_iff_mem.mp h)
theorem in_354 {P : Params} : InitF (Mine.K P) 354 281 := in_of (by simp)
theorem in_424 {P : Params} : InitF (Mine.K P) 424 372 := in_of (by simp)
theorem in_565 {P : Params} : InitF (Mine.K P) 565 478 := in_of (by simp)
theorem in_612 {P : Params} : InitF (Mine.K P) 612 595 := in_of (by simp)
theorem in_158 {P : Params} : InitF (Mine.K P) 158 148 := in_of (by simp)
theorem in_179 {P : Params} : InitF (Mine.K P) 179 176 := in_of (by simp)
theorem in_263 {P : Params} : InitF (Mine.K P) 263 197 := in_of (by simp)
local macro_rules | `(tactic| walk_at "mem") => `(tactic| ((repeat (first | with_reducible exact List.mem_cons_self | with_reducible refine List.mem_cons_of_mem _ ?_)); all_goals fail))
local macro_rules | `(tactic| walk_at "inI") => `(tactic| (first | with_reducible assumption | (walk_at "mem") | ((repeat (with_reducible refine List.mem_cons_of_mem _ ?_)); with_reducible assumption) | (refine Sb.mem (by with_reducible assumption) ?_; first | with_reducible assumption | walk_at "inI") | ((repeat (with_reducible refine List.mem_cons_of_mem _ ?_)); (refine Sb.mem (by with_reducible assumption) ?_); first | with_reducible assumption | walk_at "inI")))
local macro_rules | `(tactic| walk_at "in2") => `(tactic| (first | with_reducible assumption | (refine Or.inr ?_; with_reducible assumption) | (refine Or.inl ?_; (walk_at "mem")) | (refine Or.inr ?_; (first | with_reducible assumption | (walk_at "mem") | ((repeat (with_reducible refine List.mem_cons_of_mem _ ?_)); with_reducible assumption) | (refine Sb.mem (by with_reducible assumption) ?_; first | with_reducible assumption | walk_at "inI") | ((repeat (with_reducible refine List.mem_cons_of_mem _ ?_)); (refine Sb.mem (by with_reducible assumption) ?_); first | with_reducible assumption | walk_at "inI"))) | ((repeat (with_reducible refine In2.there ?_)); with_reducible assumption)))
local macro_rules | `(tactic| walk_at "put") => `(tactic| ((repeat (first | with_reducible exact PutC.here | with_reducible apply PutC.there)); all_goals fail))
local macro_rules | `(tactic| walk_at "pick") => `(tactic| ((repeat (first | with_reducible exact Pick.here | with_reducible apply Pick.there)); all_goals fail))
local macro_rules | `(tactic| walk_at "wk") => `(tactic| (first | exact fun _ h => h | exact fun _ h => ⟨_, h⟩ | exact fun _ h => ⟨_, _, h⟩))
local macro_rules | `(tactic| walk_at "attrF") => `(tactic| (first | with_reducible exact af_gap (by (walk_at "mem")) | with_reducible exact af_buf (by (walk_at "mem")) | with_reducible exact af_rep (by (walk_at "mem")) | with_reducible exact af_step (by (walk_at "mem")) | with_reducible exact af_lit (by (walk_at "mem")) | with_reducible exact af_plain (by (walk_at "mem")) | with_reducible exact af_mark (by (walk_at "mem"))))
local macro_rules | `(tactic| walk_at "setF") => `(tactic| (first | with_reducible exact sf_gap (by (walk_at "mem")) | with_reducible exact sf_buf (by (walk_at "mem")) | with_reducible exact sf_rep (by (walk_at "mem")) | with_reducible exact sf_step (by (walk_at "mem")) | with_reducible exact sf_lit (by (walk_at "mem")) | with_reducible exact sf_plain (by (walk_at "mem")) | with_reducible exact sf_mark (by (walk_at "mem"))))
local macro_rules | `(tactic| walk_at "methF") => `(tactic| (first | with_reducible exact mf_gap (by (walk_at "mem")) | with_reducible exact mf_buf (by (walk_at "mem")) | with_reducible exact mf_rep (by (walk_at "mem")) | with_reducible exact mf_lit (by (walk_at "mem")) | with_reducible exact mf_plain (by (walk_at "mem")) | with_reducible exact mf_mark (by (walk_at "mem"))))
local macro_rules | `(tactic| walk_at "keep") => `(tactic| (exact kp_of rfl))
local macro_rules | `(tactic| walk_at "name") => `(tactic| first
  | ((with_reducible show PE _ _ _ _ _ _ (Expr.Name (Str.ofString "len") _) _); exact pe_builtin (gn_miss (by (walk_at "mem"))) bt_len (by decide))
  | ((with_reducible show PE _ _ _ _ _ _ (Expr.Name (Str.ofString "list") _) _); exact pe_builtin (gn_miss (by (walk_at "mem"))) bt_list (by decide))
  | ((with_reducible show PE _ _ _ _ _ _ (Expr.Name (Str.ofString "range") _) _); exact pe_builtin (gn_miss (by (walk_at "mem"))) bt_range (by decide))
  | ((with_reducible show PE _ _ _ _ _ _ (Expr.Name (Str.ofString "min") _) _); exact pe_builtin (gn_miss (by (walk_at "mem"))) bt_min (by decide))
  | ((with_reducible show PE _ _ _ _ _ _ (Expr.Name (Str.ofString "max") _) _); exact pe_builtin (gn_miss (by (walk_at "mem"))) bt_max (by decide))
  | ((with_reducible show PE _ _ _ _ _ _ (Expr.Name (Str.ofString "sorted") _) _); exact pe_builtin (gn_miss (by (walk_at "mem"))) bt_sorted (by decide))
  | ((with_reducible show PE _ _ _ _ _ _ (Expr.Name (Str.ofString "abs") _) _); exact pe_builtin (gn_miss (by (walk_at "mem"))) bt_abs (by decide))
  | ((with_reducible show PE _ _ _ _ _ _ (Expr.Name (Str.ofString "sum") _) _); exact pe_builtin (gn_miss (by (walk_at "mem"))) bt_sum (by decide))
  | ((with_reducible show PE _ _ _ _ _ _ (Expr.Name (Str.ofString "enumerate") _) _); exact pe_builtin (gn_miss (by (walk_at "mem"))) bt_enumerate (by decide))
  | ((with_reducible show PE _ _ _ _ _ _ (Expr.Name (Str.ofString "ASKING") _) _); exact pe_globalS gs_asking)
  | ((with_reducible show PE _ _ _ _ _ _ (Expr.Name (Str.ofString "DONE") _) _); exact pe_globalS gs_done)
  | ((refine' pe_local ?x); (case x => exact rfl))
  | ((refine' pe_cell ?x ?y); (case x => first | assumption | exact rfl); (case y => (walk_at "in2")))
  | exact pe_global (gn_top (by (walk_at "mem"))))
local macro_rules | `(tactic| walk_at "lim") => `(tactic| first | assumption | lia | (unfold lim at *; (try simp only [List.length_append, List.length_cons, List.length_nil, List.length_replicate, List.length_take, List.length_drop, List.length_map]); lia))
local macro_rules | `(tactic| walk_at "ev") => do
  let hA := Lean.mkIdent `hA
  `(tactic| (first
  | with_reducible exact pe_int | with_reducible exact pe_none | with_reducible exact pe_bool | with_reducible exact pe_str
  | ((with_reducible show PE _ _ _ _ _ _ (Expr.Name _ _) _); walk_at "name")
  | ((with_reducible show PE _ _ _ _ _ _ (Expr.BinOp _ Operator.Add _ _) _); (refine' pe_add ?a1 ?a2); (case a1 => walk_at "ev"); (case a2 => walk_at "ev"))
  | ((with_reducible show PE _ _ _ _ _ _ (Expr.BinOp _ Operator.Sub _ _) _); (refine' pe_sub ?a1 ?a2); (case a1 => walk_at "ev"); (case a2 => walk_at "ev"))
  | ((with_reducible show PE _ _ _ _ _ _ (Expr.Call (Expr.Name (Str.ofString "len") _) [_] _ _) _); ((refine' pe_len ?a1 ?a2 ?a3 ?a4); (case a1 => walk_at "name"); (case a2 => walk_at "ev"); (case a3 => (walk_at "in2")); (case a4 => walk_at "lim")))
  | ((with_reducible show PE _ _ _ _ _ _ (Expr.Call (Expr.Name (Str.ofString "min") _) [_, _] _ _) _); (refine' pe_bi ?a1 ?a2 (ci_min (Room.le $hA (by decide))); (case a1 => walk_at "name"); (case a2 => walk_at "evl")))
  | ((with_reducible show PE _ _ _ _ _ _ (Expr.Call (Expr.Name (Str.ofString "max") _) [_, _] _ _) _); (refine' pe_bi ?a1 ?a2 (ci_max (Room.le $hA (by decide))); (case a1 => walk_at "name"); (case a2 => walk_at "evl")))
  | ((with_reducible show PE _ _ _ _ _ _ (Expr.Attribute _ _ _) _); ((refine' pe_attr ?a1 ?a2 ?a3 ?a4 ?a5 ?a6); (case a1 => walk_at "ev"); (case a2 => (walk_at "in2")); (case a3 => (walk_at "in2")); (case a4 => (walk_at "attrF")); (case a5 => exact rfl); (case a6 => exact rfl)))
  | ((with_reducible show PE _ _ _ _ _ _ (Expr.Compare _ [CmpOp.Eq] _ _) _); (refine' pe_cmp ?a1 ?a2 ?a3); (case a1 => walk_at "ev"); (case a2 => walk_at "ev"); (case a3 => first | with_reducible exact cm_eq | with_reducible exact cm_eqS))
  | ((with_reducible show PE _ _ _ _ _ _ (Expr.Subscript _ (Expr.Constant (Const.str _) _ _) _) _); ((refine' pe_key (kk := none) ?a1 ?a2 ?a3); (case a1 => walk_at "ev"); (case a2 => (walk_at "in2")); (case a3 => exact rfl)))
  | ((with_reducible show PE _ _ _ _ _ _ (Expr.Subscript _ (Expr.Constant (Const.int _) _ _) _) _); ((refine' pe_itemT ?a1 pe_int ?a2 ?a3 ?a4 ?a5); (case a1 => walk_at "ev"); (case a2 => (walk_at "in2")); (case a3 => decide); (case a4 => decide); (case a5 => exact rfl)))
  | walk_at "more"))
local macro_rules | `(tactic| walk_at "evl") => `(tactic| first | with_reducible exact pl_nil | ((refine' pl_cons ?a1 ?a2); (case a1 => walk_at "ev"); (case a2 => walk_at "evl")))
local macro_rules | `(tactic| walk_at "evb") => `(tactic| first
  | ((with_reducible show PB _ _ _ _ _ _ (Expr.BoolOp BoolOp.Or [_, _] _) _); (refine' pb_or ?a1 ?a2); (case a1 => walk_at "evb"); (case a2 => (intro _; walk_at "evb")))
  | ((with_reducible show PB _ _ _ _ _ _ (Expr.BoolOp BoolOp.And [_, _] _) _); (refine' pb_and ?a1 ?a2); (case a1 => walk_at "evb"); (case a2 => (intro _; walk_at "evb")))
  | ((with_reducible show PB _ _ _ _ _ _ (Expr.UnaryOp UnaryOp.Not _ _) _); (refine' pb_not ?a1); (case a1 => walk_at "evb"))
  | ((with_reducible show PB _ _ _ _ _ _ (Expr.Compare _ [CmpOp.In] [Expr.Tuple _ _ _] _) _); (refine' pb_in ?a1 ?a2 ?a3); (case a1 => walk_at "ev"); (case a2 => walk_at "strs"); (case a3 => decide))
  | ((with_reducible show PB _ _ _ _ _ _ (Expr.Compare _ [_] [_] _) _); (refine' pb_cmp ?a1 ?a2 ?a3); (case a1 => walk_at "ev"); (case a2 => walk_at "ev"); (case a3 => with_reducible first | exact cm_lt | exact cm_le | exact cm_gt | exact cm_ge | exact cm_ne | exact cm_is | exact cm_isNot | exact cm_eq | exact cm_eqS))
  | ((refine' pb_val ?a1 ?a2); (case a2 => exact rfl); (case a1 => walk_at "ev")))
local macro_rules | `(tactic| walk_at "got") => `(tactic| first | with_reducible exact LGot.refl | ((with_reducible refine' LGot.cons ?p ?w ?r); (case p => (walk_at "pick")); (case w => (walk_at "wk")); (case r => walk_at "got")) | ((refine' LGot.drop ?x); (case x => walk_at "got")))
local macro_rules | `(tactic| walk_at "mtb") => `(tactic| first | with_reducible exact MtB.nil | ((refine' MtB.cons ?a ?b); (case a => first | assumption | exact AV.isv | exact ⟨_, rfl⟩); (case b => walk_at "mtb")))

noncomputable def gapF (cl : Addr) (gs ge : Int) : FM := [("room", .i 8), ("cells", rf cl), ("gap_start", .i gs), ("gap_end", .i ge)]
noncomputable abbrev isG (cl : Addr) (gs ge : Nat) : Obj → Prop := isF (gapF cl gs ge)
/-- the cells hold the text -/
structure TX (gs ge : Nat) (xs text : List Int) : Prop where
  le : gs ≤ ge
  top : ge ≤ xs.length
  eq : text = xs.take gs ++ xs.drop ge
  hz : xs.length ≤ 30000
theorem TX.len {gs ge xs text} (h : TX gs ge xs text) : text.length + (ge - gs) = xs.length := by
  have := h.le; have := h.top; rw [h.eq, List.length_append, List.length_take, List.length_drop]; lia
theorem cut_gap {α : Type} (xs : List α) (gs ge a b : Nat) (h1 : gs ≤ ge) (h2 : ge ≤ xs.length) (hab : a ≤ b) :
    (b ≤ gs → cut xs (some a) (some b) = ((xs.take gs ++ xs.drop ge).drop a).take (b - a)) ∧ (gs ≤ a → cut xs (some (a + (ge - gs))) (some (b + (ge - gs))) = ((xs.take gs ++ xs.drop ge).drop a).take (b - a)) ∧
    (a ≤ gs → gs ≤ b → cut xs (some a) (some gs) ++ cut xs (some ge) (some (b + (ge - gs))) = ((xs.take gs ++ xs.drop ge).drop a).take (b - a)) := by
  have hl : (xs.take gs).length = gs := by simp; lia
  have hd : (xs.take gs ++ xs.drop ge).drop a = (xs.take gs).drop a ++ (xs.drop ge).drop (a - gs) := by rw [List.drop_append, hl]
  rw [hd]
  refine ⟨fun hb => ?_, fun ha => ?_, fun ha hb => ?_⟩
  · simp only [cut]
    rw [List.take_append, List.drop_take, List.take_take]
    have e : b - a - ((xs.drop a).take (gs - a)).length = 0 := by simp; lia
    rw [e, Nat.min_eq_left (by lia)]; simp
  · simp only [cut]
    rw [List.drop_eq_nil_of_le (as := xs.take gs) (by lia), List.nil_append, List.drop_drop]
    congr 1
    · lia
    · congr 1; lia
  · simp only [cut]
    rw [List.take_append, List.drop_take, show a - gs = 0 by lia, List.drop_zero]
    have e : ((xs.drop a).take (gs - a)).length = gs - a := by simp; lia
    rw [e, List.take_of_length_le (l := (xs.drop a).take (gs - a)) (by rw [e]; lia)]
    congr 2; lia
/-- a part of the text -/
noncomputable def part (t : List Int) (a b : Nat) : List Int := (t.drop a).take (b - a)

theorem sp_g_codes {c : Cx} {A : Around} {L : Addr} {m : FM} {Γ I : Led} {s : Shared} {Q E} {t dt cl : Addr} {gs ge a b : Nat} {xs text : List Int} {vs} (hA : Room 2 A) (hv : AVs [rf t, .i a, .i b] vs)
    (ht : (t, isI 354 dt) ∈ I) (O : Ow c L m ((dt, isG cl gs ge) :: (cl, isInts xs) :: Γ) I s) (hT : TX gs ge xs text) (hab : a ≤ b) (hb : b ≤ text.length)
    (h : ∀ r s', Ow c L m ((r, isInts (part text a b)) :: (dt, isG cl gs ge) :: (cl, isInts xs) :: Γ) I s' → Q (.ref r) s') :
    wpAny c.M A (call (.ref 302) vs []) Q E s := by
  have h1 := hT.le; have h2 := hT.top; have h3 := hT.hz; have h4 := hT.len; have h5 := hT.eq
  obtain ⟨k1, k2, k3⟩ := cut_gap xs gs ge a b h1 h2 hab
  rw [← h5] at k1 k2 k3
  (((repeat (rename AVs (_ :: _) _ => hv0; cases hv0)); (repeat (rename AVs [] _ => hv0; cases hv0))))
  ((refine' call_fnZ hA O ?k6_2 ?k7_2 ?kb_2 ?k9_2 ?kM_2 ?kN_2 ?kB_2 ?c5_2 ?c2_2 ?c3_2 ?c4_2 ?_; (case k6_2 => k_is); (case k7_2 => k_is); (case kb_2 => (refine' zip_of ?pe_2 ?rest_2; (case pe_2 => conv => lhs; whnf); (case rest_2 => simp only [List.map, List.zip, List.zipWith]; rfl))); (case k9_2 => first | exact BindsTo.of_eq rfl | exact binds_K (Frag.In.keeps (Cx.kin _) (Ow.keep O)) rfl (by k_is) rfl rfl rfl); (case kM_2 => walk_at "mtb"); (case kN_2 => exact rfl); (case kB_2 => exact locs rfl); (case c5_2 => decide); (case c2_2 => exact rfl); (case c3_2 => exact rfl); (case c4_2 => exact rfl); intro L s hA O))
  ((refine' st_let O ?e_3 ?_; (case e_3 => walk_at "ev"); intro s O))
  ((refine' st_if O ?t_4 ?_ ?_; (case t_4 => walk_at "evb")))
  · intro hb s O
    refine st_retc (cn_slice O (by walk_at "ev") (pp_some (k := a) (by walk_at "ev") rfl) (pp_some (k := b) (by walk_at "ev") rfl) (by walk_at "in2") (by walk_at "lim") fun r s O => ?_)
    rw [k1 (by simpa using hb)] at O
    exact h _ _ (by (((refine' Ow.got (Ow.back O ?p_5) ?g_5); (case p_5 => (walk_at "pick")); (case g_5 => walk_at "got"))))
  intro hb1 s O
  refine st_nil ?_
  ((refine' st_if O ?t_6 ?_ ?_; (case t_6 => walk_at "evb")))
  · intro hb s O
    refine st_retc (cn_slice O (by walk_at "ev") (pp_some (k := a + (ge - gs)) (by walk_at "ev") (by lia)) (pp_some (k := b + (ge - gs)) (by walk_at "ev") (by lia)) (by walk_at "in2") (by walk_at "lim") fun r s O => ?_)
    rw [k2 (by simpa using hb)] at O
    exact h _ _ (by (((refine' Ow.got (Ow.back O ?p_7) ?g_7); (case p_7 => (walk_at "pick")); (case g_7 => walk_at "got"))))
  intro hb2 s O
  refine st_nil ?_
  refine st_retc (wpAny_BinOp ?_)
  refine cn_slice O (by walk_at "ev") (pp_some (k := a) (by walk_at "ev") rfl) (pp_some (k := gs) (by walk_at "ev") rfl) (by walk_at "in2") (by walk_at "lim") fun r s O => ?_
  refine cn_slice O (by walk_at "ev") (pp_some (k := ge) (by walk_at "ev") rfl) (pp_some (k := b + (ge - gs)) (by walk_at "ev") (by lia)) (by walk_at "in2") (by walk_at "lim") fun r s O => ?_
  refine cn_add O (by walk_at "in2") (by walk_at "in2") ?_ fun r s O => ?_
  · have e1 := cut_length_le xs (some a) (some gs)
    have e2 := cut_length_le xs (some ge) (some (b + (ge - gs)))
    unfold lim; lia
  rw [k3 (by simp at hb2; lia) (by simp at hb1; lia)] at O
  exact h _ _ (by (((refine' Ow.got (Ow.back O ?p_8) ?g_8); (case p_8 => (walk_at "pick")); (case g_8 => walk_at "got"))))

theorem tx_left {gs ge at' : Nat} {xs text : List Int} (h : TX gs ge xs text) (ha : at' < gs) : TX at' (ge - (gs - at')) (xs.take (ge - (gs - at')) ++ cut xs (some at') (some gs) ++ xs.drop ge) text := by
  have h1 := h.le; have h2 := h.top
  have hl : (xs.take (ge - (gs - at'))).length = ge - (gs - at') := by rw [List.length_take]; lia
  have hm : (cut xs (some at') (some gs)).length = gs - at' := by simp [cut]; lia
  refine ⟨by lia, by rw [List.length_append, List.length_append, hl, hm]; lia, ?_, by have := h.hz; rw [List.length_append, List.length_append, hl, hm, List.length_drop]; lia⟩
  rw [List.append_assoc, List.take_append_of_le_length (by lia), List.take_take, Nat.min_eq_left (by lia), List.drop_append_of_le_length (by lia), List.drop_eq_nil_of_le (by lia), List.nil_append, ← List.append_assoc, h.eq]
  congr 1
  simp only [cut]
  rw [← List.drop_take]
  exact (List.take_append_drop at' (xs.take gs)).symm.trans (by rw [List.take_take, Nat.min_eq_left (by lia)])
theorem tx_right {gs ge at' : Nat} {xs text : List Int} (h : TX gs ge xs text) (ha : gs ≤ at') (hb : at' ≤ text.length) : TX at' (ge + (at' - gs)) (xs.take gs ++ cut xs (some ge) (some (ge + (at' - gs))) ++ xs.drop (gs + (at' - gs))) text := by
  have h1 := h.le; have h2 := h.top; have h3 := h.len
  have hl : (xs.take gs).length = gs := by rw [List.length_take]; lia
  have hm : (cut xs (some ge) (some (ge + (at' - gs)))).length = at' - gs := by simp [cut]; lia
  have hx : (xs.take gs ++ cut xs (some ge) (some (ge + (at' - gs)))).length = at' := by rw [List.length_append, hl, hm]; lia
  refine ⟨by lia, by rw [List.length_append, hx, List.length_drop]; lia, ?_, by have := h.hz; rw [List.length_append, hx, List.length_drop]; lia⟩
  rw [List.take_append, hx, Nat.sub_self, List.take_zero, List.append_nil, List.take_of_length_le (by lia), List.drop_append, hx, List.drop_eq_nil_of_le (by lia), List.nil_append, List.drop_drop, h.eq, List.append_assoc]
  congr 1
  simp only [cut]
  rw [show gs + (at' - gs) + (ge + (at' - gs) - at') = ge + (at' - gs) by lia, ← List.drop_drop]
  rw [show ge + (at' - gs) - ge = at' - gs by lia]
  exact (List.take_append_drop _ _).symm
theorem tx_widen {gs ge k : Nat} {xs text : List Int} (h : TX gs ge xs text) (hz : xs.length + k ≤ 30000) : TX gs (ge + k) (xs.take ge ++ List.replicate k 0 ++ xs.drop ge) text := by
  have h1 := h.le; have h2 := h.top
  have hl : (xs.take ge).length = ge := by rw [List.length_take]; lia
  have hx : (xs.take ge ++ List.replicate k 0).length = ge + k := by rw [List.length_append, hl, List.length_replicate]
  refine ⟨by lia, by rw [List.length_append, hx, List.length_drop]; lia, ?_, by rw [List.length_append, hx, List.length_drop]; lia⟩
  rw [List.drop_append, hx, Nat.sub_self, List.drop_zero, List.drop_eq_nil_of_le (as := xs.take ge ++ List.replicate k 0) (by lia), List.nil_append, List.append_assoc, List.take_append_of_le_length (by lia), List.take_take, Nat.min_eq_left (by lia)]
  exact h.eq
theorem tx_put {at' ge : Nat} {xs text codes : List Int} (h : TX at' ge xs text) (hk : codes.length ≤ ge - at') : TX (at' + codes.length) ge (xs.take at' ++ codes ++ xs.drop (at' + codes.length)) (text.take at' ++ codes ++ text.drop at') := by
  have h1 := h.le; have h2 := h.top
  have hl : (xs.take at').length = at' := by rw [List.length_take]; lia
  have hx : (xs.take at' ++ codes).length = at' + codes.length := by rw [List.length_append, hl]
  refine ⟨by lia, by rw [List.length_append, hx, List.length_drop]; lia, ?_, by have := h.hz; rw [List.length_append, hx, List.length_drop]; lia⟩
  have ht : text.take at' = xs.take at' := by rw [h.eq, List.take_append_of_le_length (by lia), List.take_take, Nat.min_self]
  have hd : text.drop at' = xs.drop ge := by rw [h.eq, List.drop_append, hl, Nat.sub_self, List.drop_zero, List.drop_eq_nil_of_le (by lia), List.nil_append]
  rw [ht, hd, List.take_append, hx, Nat.sub_self, List.take_zero, List.append_nil, List.take_of_length_le (l := xs.take at' ++ codes) (by lia), List.drop_append, hx, List.drop_eq_nil_of_le (as := xs.take at' ++ codes) (by lia), List.nil_append, List.drop_drop]
  congr 2; lia
theorem tx_del {gs ge a b : Nat} {xs text : List Int} (h : TX gs ge xs text) (ha : a ≤ gs) (hb : gs ≤ b) (hz : b ≤ text.length) : TX a (ge + (b - gs)) xs (text.take a ++ text.drop b) := by
  have h1 := h.le; have h2 := h.top; have h3 := h.len
  have hl : (xs.take gs).length = gs := by rw [List.length_take]; lia
  refine ⟨by lia, by lia, ?_, h.hz⟩
  rw [h.eq, List.take_append_of_le_length (by lia), List.take_take, Nat.min_eq_left ha, List.drop_append, hl, List.drop_eq_nil_of_le (by lia), List.nil_append, List.drop_drop]

theorem pu_g_size {c : Cx} {A : Around} {L : Addr} {m : FM} {Γ I : Led} {t dt cl : Addr} {gs ge : Nat} {xs text : List Int} {vs} (hA : Room 2 A) (hv : AVs [rf t] vs)
    (ht : In2 t (isI 354 dt) Γ I) (hd : In2 dt (isG cl gs ge) Γ I) (hc : In2 cl (isInts xs) Γ I) (hT : TX gs ge xs text) : Pu c A L m Γ I (call (.ref 288) vs []) (AV.i text.length).is := by
  intro Q E s O h
  have h1 := hT.le; have h2 := hT.top; have h3 := hT.hz; have h4 := hT.len
  (((repeat (rename AVs (_ :: _) _ => hv0; cases hv0)); (repeat (rename AVs [] _ => hv0; cases hv0))))
  ((refine' call_fnZ hA O ?k6_10 ?k7_10 ?kb_10 ?k9_10 ?kM_10 ?kN_10 ?kB_10 ?c5_10 ?c2_10 ?c3_10 ?c4_10 ?_; (case k6_10 => k_is); (case k7_10 => k_is); (case kb_10 => (refine' zip_of ?pe_10 ?rest_10; (case pe_10 => conv => lhs; whnf); (case rest_10 => simp only [List.map, List.zip, List.zipWith]; rfl))); (case k9_10 => first | exact BindsTo.of_eq rfl | exact binds_K (Frag.In.keeps (Cx.kin _) (Ow.keep O)) rfl (by k_is) rfl rfl rfl); (case kM_10 => walk_at "mtb"); (case kN_10 => exact rfl); (case kB_10 => exact locs rfl); (case c5_10 => decide); (case c2_10 => exact rfl); (case c3_10 => exact rfl); (case c4_10 => exact rfl); intro L s hA O))
  refine st_ret O (a := .i text.length) ?_ fun v s' hv O' => h _ _ hv O'.leave
  rw [show (text.length : Int) = xs.length - ge + gs by lia]
  walk_at "ev"
theorem pu_g_code {c : Cx} {A : Around} {L : Addr} {m : FM} {Γ I : Led} {t dt cl : Addr} {gs ge at' : Nat} {xs text : List Int} {x : Int} {vs} (hA : Room 2 A) (hv : AVs [rf t, .i at'] vs)
    (ht : In2 t (isI 354 dt) Γ I) (hd : In2 dt (isG cl gs ge) Γ I) (hc : In2 cl (isInts xs) Γ I) (hT : TX gs ge xs text) (hx : text[at']? = some x) : Pu c A L m Γ I (call (.ref 295) vs []) (AV.i x).is := by
  intro Q E s O h
  have h1 := hT.le; have h2 := hT.top; have h3 := hT.hz; have h4 := hT.len
  have hlt := (List.getElem?_eq_some_iff.mp hx).1
  have hl : (xs.take gs).length = gs := by rw [List.length_take]; lia
  (((repeat (rename AVs (_ :: _) _ => hv0; cases hv0)); (repeat (rename AVs [] _ => hv0; cases hv0))))
  ((refine' call_fnZ hA O ?k6_12 ?k7_12 ?kb_12 ?k9_12 ?kM_12 ?kN_12 ?kB_12 ?c5_12 ?c2_12 ?c3_12 ?c4_12 ?_; (case k6_12 => k_is); (case k7_12 => k_is); (case kb_12 => (refine' zip_of ?pe_12 ?rest_12; (case pe_12 => conv => lhs; whnf); (case rest_12 => simp only [List.map, List.zip, List.zipWith]; rfl))); (case k9_12 => first | exact BindsTo.of_eq rfl | exact binds_K (Frag.In.keeps (Cx.kin _) (Ow.keep O)) rfl (by k_is) rfl rfl rfl); (case kM_12 => walk_at "mtb"); (case kN_12 => exact rfl); (case kB_12 => exact locs rfl); (case c5_12 => decide); (case c2_12 => exact rfl); (case c3_12 => exact rfl); (case c4_12 => exact rfl); intro L s hA O))
  ((refine' st_if O ?t_13 ?_ ?_; (case t_13 => walk_at "evb")))
  · intro hb s O
    refine st_ret O (a := .i x) (pe_item (by walk_at "ev") (by walk_at "ev") (by walk_at "in2") (by lia) (by walk_at "lim") ?_) fun v s' hv O' => h _ _ hv O'.leave
    have hb : at' < gs := by simpa using hb
    rw [hT.eq, List.getElem?_append_left (by lia), List.getElem?_take_of_lt hb] at hx
    simpa using hx
  · intro hb s O
    have hb : ¬ at' < gs := by simpa using hb
    refine st_nil (st_ret O (a := .i x) (pe_item (by walk_at "ev") (by walk_at "ev") (by walk_at "in2") (by lia) (by walk_at "lim") ?_) fun v s' hv O' => h _ _ hv O'.leave)
    rw [hT.eq, List.getElem?_append_right (by lia), hl, List.getElem?_drop] at hx
    rw [← hx]; congr 1; lia
theorem sp_g_move {c : Cx} {A : Around} {L : Addr} {m : FM} {Γ I : Led} {s : Shared} {Q E} {t dt cl : Addr} {gs ge at' : Nat} {xs text : List Int} {vs} (hA : Room 2 A) (hv : AVs [rf t, .i at'] vs)
    (ht : (t, isI 354 dt) ∈ I) (O : Ow c L m ((dt, isG cl gs ge) :: (cl, isInts xs) :: Γ) I s) (hT : TX gs ge xs text) (hb : at' ≤ text.length)
    (h : ∀ ge' xs' s', TX at' ge' xs' text → xs'.length = xs.length → Ow c L m ((dt, isG cl at' ge') :: (cl, isInts xs') :: Γ) I s' → Q .none s') :
    wpAny c.M A (call (.ref 309) vs []) Q E s := by
  have h1 := hT.le; have h2 := hT.top; have h3 := hT.hz; have h4 := hT.len
  (((repeat (rename AVs (_ :: _) _ => hv0; cases hv0)); (repeat (rename AVs [] _ => hv0; cases hv0))))
  ((refine' call_fnZ hA O ?k6_15 ?k7_15 ?kb_15 ?k9_15 ?kM_15 ?kN_15 ?kB_15 ?c5_15 ?c2_15 ?c3_15 ?c4_15 ?_; (case k6_15 => k_is); (case k7_15 => k_is); (case kb_15 => (refine' zip_of ?pe_15 ?rest_15; (case pe_15 => conv => lhs; whnf); (case rest_15 => simp only [List.map, List.zip, List.zipWith]; rfl))); (case k9_15 => first | exact BindsTo.of_eq rfl | exact binds_K (Frag.In.keeps (Cx.kin _) (Ow.keep O)) rfl (by k_is) rfl rfl rfl); (case kM_15 => walk_at "mtb"); (case kN_15 => exact rfl); (case kB_15 => exact locs rfl); (case c5_15 => decide); (case c2_15 => exact rfl); (case c3_15 => exact rfl); (case c4_15 => exact rfl); intro L s hA O))
  ((refine' st_if O ?t_16 ?_ ?_; (case t_16 => walk_at "evb")))
  · intro hb s O
    have hb : at' < gs := by simpa using hb
    have hm : (cut xs (some at') (some gs)).length = gs - at' := by simp [cut]; lia
    refine st_letc (cn_slice O (by walk_at "ev") (pp_some (k := at') (by walk_at "ev") rfl) (pp_some (k := gs) (by walk_at "ev") rfl) (by walk_at "in2") (by walk_at "lim") fun r s O => ?_)
    refine st_store (a := rf r) O rfl fun s O => ?_
    have hX := tx_left hT hb
    refine st_slice (f := AV.i) O (by walk_at "ev") (by walk_at "ev") (pp_some (k := ge - (gs - at')) (by walk_at "ev") (by rw [hm]; lia)) (pp_some (k := ge) (by walk_at "ev") rfl) (by walk_at "put") (by walk_at "in2") (by lia) (by lia) (by rw [hm]; unfold lim; lia) fun s O => ?_
    ((refine' st_attr O ?v_17 ?o_17 ?x_17 ?d_17 ?c_17 ?z_17 ?_; (case v_17 => walk_at "ev"); (case o_17 => walk_at "ev"); (case x_17 => (walk_at "in2")); (case d_17 => (walk_at "put")); (case c_17 => (walk_at "setF")); (case z_17 => exact Nat.le_of_ble_eq_true rfl); intro s O))
    refine st_nil ?_
    ((refine' st_attr O ?v_18 ?o_18 ?x_18 ?d_18 ?c_18 ?z_18 ?_; (case v_18 => walk_at "ev"); (case o_18 => walk_at "ev"); (case x_18 => (walk_at "in2")); (case d_18 => (walk_at "put")); (case c_18 => (walk_at "setF")); (case z_18 => exact Nat.le_of_ble_eq_true rfl); intro s O))
    refine st_nil ?_
    have e : (ge : Int) - (cut xs (some at') (some gs)).length = ((ge - (gs - at') : Nat) : Int) := by rw [hm]; lia
    rw [e] at O
    exact h _ _ _ hX (by rw [List.length_append, List.length_append, hm, List.length_take, List.length_drop]; lia) (by (((refine' Ow.got (Ow.back O ?p_19) ?g_19); (case p_19 => (walk_at "pick")); (case g_19 => walk_at "got"))))
  · intro hb' s O
    have hb' : ¬ at' < gs := by simpa using hb'
    have hm : (cut xs (some ge) (some (ge + (at' - gs)))).length = at' - gs := by simp [cut]; lia
    refine st_letc (cn_slice O (by walk_at "ev") (pp_some (k := ge) (by walk_at "ev") rfl) (pp_some (k := ge + (at' - gs)) (by walk_at "ev") (by lia)) (by walk_at "in2") (by walk_at "lim") fun r s O => ?_)
    refine st_store (a := rf r) O rfl fun s O => ?_
    have hX := tx_right hT (by lia) hb
    refine st_slice (f := AV.i) O (by walk_at "ev") (by walk_at "ev") (pp_some (k := gs) (by walk_at "ev") rfl) (pp_some (k := gs + (at' - gs)) (by walk_at "ev") (by rw [hm]; lia)) (by walk_at "put") (by walk_at "in2") (by lia) (by lia) (by rw [hm]; unfold lim; lia) fun s O => ?_
    ((refine' st_attr O ?v_20 ?o_20 ?x_20 ?d_20 ?c_20 ?z_20 ?_; (case v_20 => walk_at "ev"); (case o_20 => walk_at "ev"); (case x_20 => (walk_at "in2")); (case d_20 => (walk_at "put")); (case c_20 => (walk_at "setF")); (case z_20 => exact Nat.le_of_ble_eq_true rfl); intro s O))
    refine st_nil ?_
    ((refine' st_attr O ?v_21 ?o_21 ?x_21 ?d_21 ?c_21 ?z_21 ?_; (case v_21 => walk_at "ev"); (case o_21 => walk_at "ev"); (case x_21 => (walk_at "in2")); (case d_21 => (walk_at "put")); (case c_21 => (walk_at "setF")); (case z_21 => exact Nat.le_of_ble_eq_true rfl); intro s O))
    refine st_nil ?_
    have e : (ge : Int) + (cut xs (some ge) (some (ge + (at' - gs)))).length = ((ge + (at' - gs) : Nat) : Int) := by rw [hm]; lia
    rw [e] at O
    exact h _ _ _ hX (by rw [List.length_append, List.length_append, hm, List.length_take, List.length_drop]; lia) (by (((refine' Ow.got (Ow.back O ?p_22) ?g_22); (case p_22 => (walk_at "pick")); (case g_22 => walk_at "got"))))

theorem sp_g_widen {c : Cx} {A : Around} {L : Addr} {m : FM} {Γ I : Led} {s : Shared} {Q E} {t dt cl : Addr} {gs ge k : Nat} {xs text : List Int} {vs} (hA : Room 2 A) (hv : AVs [rf t, .i k] vs)
    (ht : (t, isI 354 dt) ∈ I) (O : Ow c L m ((dt, isG cl gs ge) :: (cl, isInts xs) :: Γ) I s) (hT : TX gs ge xs text) (hz : text.length ≤ 10000) (hk : k ≤ 10000)
    (h : ∀ ge' xs' s', TX gs ge' xs' text → k ≤ ge' - gs → Ow c L m ((dt, isG cl gs ge') :: (cl, isInts xs') :: Γ) I s' → Q .none s') :
    wpAny c.M A (call (.ref 316) vs []) Q E s := by
  have h1 := hT.le; have h2 := hT.top; have h3 := hT.hz; have h4 := hT.len
  (((repeat (rename AVs (_ :: _) _ => hv0; cases hv0)); (repeat (rename AVs [] _ => hv0; cases hv0))))
  ((refine' call_fnZ hA O ?k6_24 ?k7_24 ?kb_24 ?k9_24 ?kM_24 ?kN_24 ?kB_24 ?c5_24 ?c2_24 ?c3_24 ?c4_24 ?_; (case k6_24 => k_is); (case k7_24 => k_is); (case kb_24 => (refine' zip_of ?pe_24 ?rest_24; (case pe_24 => conv => lhs; whnf); (case rest_24 => simp only [List.map, List.zip, List.zipWith]; rfl))); (case k9_24 => first | exact BindsTo.of_eq rfl | exact binds_K (Frag.In.keeps (Cx.kin _) (Ow.keep O)) rfl (by k_is) rfl rfl rfl); (case kM_24 => walk_at "mtb"); (case kN_24 => exact rfl); (case kB_24 => exact locs rfl); (case c5_24 => decide); (case c2_24 => exact rfl); (case c3_24 => exact rfl); (case c4_24 => exact rfl); intro L s hA O))
  ((refine' st_let O ?e_25 ?_; (case e_25 => walk_at "ev"); intro s O))
  ((refine' st_if O ?t_26 ?_ ?_; (case t_26 => walk_at "evb")))
  · intro hb s O
    have hb : ge - gs < k := by simp at hb; lia
    obtain ⟨j, hj⟩ : ∃ j : Nat, j = k - (ge - gs) + 8 := ⟨_, rfl⟩
    have hX := tx_widen (k := j) hT (by lia)
    refine st_sliceC (wpAny_BinOp (cn_display AV.i (xs := [0]) O (pl_cons pe_int pl_nil) (by decide) fun r s O => ?_))
    refine pe_add (a := k - ((ge : Int) - gs)) (b := 8) (by walk_at "ev") (by walk_at "ev") _ _ _ O fun v s hv O => ?_
    obtain ⟨tk, rfl⟩ := hv
    refine cn_rep (f := AV.i) (x := 0) O (by walk_at "in2") (by lia) (by unfold lim; lia) fun r s O => ?_
    rw [show ((k : Int) - ((ge : Int) - gs) + 8).toNat = j by lia] at O
    refine ss_slice (Q := Thn c _ _ _ _ _) (f := AV.i) O (by walk_at "ev") (pp_some (k := ge) (by walk_at "ev") rfl) (pp_some (k := ge) (by walk_at "ev") rfl) (by walk_at "put") (by walk_at "in2") (by lia) (by lia) (by rw [List.length_replicate]; unfold lim; lia) fun s O => ?_
    ((refine' st_attr O ?v_27 ?o_27 ?x_27 ?d_27 ?c_27 ?z_27 ?_; (case v_27 => walk_at "ev"); (case o_27 => walk_at "ev"); (case x_27 => (walk_at "in2")); (case d_27 => (walk_at "put")); (case c_27 => (walk_at "setF")); (case z_27 => exact Nat.le_of_ble_eq_true rfl); intro s O))
    refine st_nil (st_nil ?_)
    rw [show (ge : Int) + (k - ((ge : Int) - gs)) + 8 = ((ge + j : Nat) : Int) by lia] at O
    exact h _ _ _ hX (by lia) (by (((refine' Ow.got (Ow.back O ?p_28) ?g_28); (case p_28 => (walk_at "pick")); (case g_28 => walk_at "got"))))
  · intro hb s O
    have hb : k ≤ ge - gs := by simp at hb; lia
    exact st_nil (st_nil (h _ _ _ hT hb (by (((refine' Ow.got (Ow.back O ?p_29) ?g_29); (case p_29 => (walk_at "pick")); (case g_29 => walk_at "got"))))))
theorem sp_g_insert {c : Cx} {A : Around} {L : Addr} {m : FM} {Γ I : Led} {s : Shared} {Q E} {t dt cl cr : Addr} {gs ge at' : Nat} {xs text codes : List Int} {vs} (hA : Room 3 A) (hv : AVs [rf t, .i at', rf cr] vs)
    (ht : (t, isI 354 dt) ∈ I) (O : Ow c L m ((dt, isG cl gs ge) :: (cl, isInts xs) :: Γ) I s) (hc : In2 cr (isInts codes) Γ I) (hT : TX gs ge xs text) (hz : text.length ≤ 10000) (hk : codes.length ≤ 10000) (hb : at' ≤ text.length)
    (h : ∀ gs' ge' xs' s', TX gs' ge' xs' (text.take at' ++ codes ++ text.drop at') → Ow c L m ((dt, isG cl gs' ge') :: (cl, isInts xs') :: Γ) I s' → Q .none s') :
    wpAny c.M A (call (.ref 323) vs []) Q E s := by
  have h1 := hT.le; have h2 := hT.top; have h3 := hT.hz; have h4 := hT.len
  (((repeat (rename AVs (_ :: _) _ => hv0; cases hv0)); (repeat (rename AVs [] _ => hv0; cases hv0))))
  ((refine' call_fnZ hA O ?k6_31 ?k7_31 ?kb_31 ?k9_31 ?kM_31 ?kN_31 ?kB_31 ?c5_31 ?c2_31 ?c3_31 ?c4_31 ?_; (case k6_31 => k_is); (case k7_31 => k_is); (case kb_31 => (refine' zip_of ?pe_31 ?rest_31; (case pe_31 => conv => lhs; whnf); (case rest_31 => simp only [List.map, List.zip, List.zipWith]; rfl))); (case k9_31 => first | exact BindsTo.of_eq rfl | exact binds_K (Frag.In.keeps (Cx.kin _) (Ow.keep O)) rfl (by k_is) rfl rfl rfl); (case kM_31 => walk_at "mtb"); (case kN_31 => exact rfl); (case kB_31 => exact locs rfl); (case c5_31 => decide); (case c2_31 => exact rfl); (case c3_31 => exact rfl); (case c4_31 => exact rfl); intro L s hA O))
  refine st_expr ?_
  ((refine' cl_meth O ?o_32 ?x_32 ?d_32 ?m_32 ?k_32 ?n_32 ?a_32 ?_; (case o_32 => walk_at "ev"); (case x_32 => (walk_at "in2")); (case d_32 => (walk_at "in2")); (case m_32 => (walk_at "methF")); (case k_32 => (walk_at "keep")); (case n_32 => exact rfl); (case a_32 => walk_at "evl"); intro vs s hv O))
  refine sp_g_widen hA hv (by walk_at "inI") (by (((refine' Ow.got O ?g_33); (case g_33 => walk_at "got")))) hT hz hk fun ge xs s hT hk O => ?_
  refine st_expr ?_
  ((refine' cl_meth O ?o_34 ?x_34 ?d_34 ?m_34 ?k_34 ?n_34 ?a_34 ?_; (case o_34 => walk_at "ev"); (case x_34 => (walk_at "in2")); (case d_34 => (walk_at "in2")); (case m_34 => (walk_at "methF")); (case k_34 => (walk_at "keep")); (case n_34 => exact rfl); (case a_34 => walk_at "evl"); intro vs s hv O))
  refine sp_g_move hA hv (by walk_at "inI") (by (((refine' Ow.got O ?g_35); (case g_35 => walk_at "got")))) hT hb fun ge' xs' s hT' hl O => ?_
  have h1 := hT.le; have h2 := hT.top; have h3 := hT.hz; have h4 := hT.len
  have h1' := hT'.le; have h2' := hT'.top; have h3' := hT'.hz; have h4' := hT'.len
  refine st_slice (f := AV.i) O (by walk_at "ev") (by walk_at "ev") (pp_some (k := at') (by walk_at "ev") rfl) (pp_some (k := at' + codes.length) (by walk_at "ev") (by lia)) (by walk_at "put") (by walk_at "in2") (by lia) (by lia) (by unfold lim; lia) fun s O => ?_
  ((refine' st_attr O ?v_36 ?o_36 ?x_36 ?d_36 ?c_36 ?z_36 ?_; (case v_36 => walk_at "ev"); (case o_36 => walk_at "ev"); (case x_36 => (walk_at "in2")); (case d_36 => (walk_at "put")); (case c_36 => (walk_at "setF")); (case z_36 => exact Nat.le_of_ble_eq_true rfl); intro s O))
  exact st_nil (h _ _ _ _ (tx_put hT' (by lia)) (by (((refine' Ow.got (Ow.back O ?p_37) ?g_37); (case p_37 => (walk_at "pick")); (case g_37 => walk_at "got")))))
theorem sp_g_delete {c : Cx} {A : Around} {L : Addr} {m : FM} {Γ I : Led} {s : Shared} {Q E} {t dt cl : Addr} {gs ge a b : Nat} {xs text : List Int} {vs} (hA : Room 3 A) (hv : AVs [rf t, .i a, .i b] vs) (ht : (t, isI 354 dt) ∈ I)
    (O : Ow c L m ((dt, isG cl gs ge) :: (cl, isInts xs) :: Γ) I s) (hT : TX gs ge xs text) (hab : a ≤ b) (hb : b ≤ text.length)
    (h : ∀ r gs' ge' xs' s', TX gs' ge' xs' (text.take a ++ text.drop b) → Ow c L m ((r, isInts (part text a b)) :: (dt, isG cl gs' ge') :: (cl, isInts xs') :: Γ) I s' → Q (.ref r) s') :
    wpAny c.M A (call (.ref 330) vs []) Q E s := by
  (((repeat (rename AVs (_ :: _) _ => hv0; cases hv0)); (repeat (rename AVs [] _ => hv0; cases hv0))))
  ((refine' call_fnZ hA O ?k6_39 ?k7_39 ?kb_39 ?k9_39 ?kM_39 ?kN_39 ?kB_39 ?c5_39 ?c2_39 ?c3_39 ?c4_39 ?_; (case k6_39 => k_is); (case k7_39 => k_is); (case kb_39 => (refine' zip_of ?pe_39 ?rest_39; (case pe_39 => conv => lhs; whnf); (case rest_39 => simp only [List.map, List.zip, List.zipWith]; rfl))); (case k9_39 => first | exact BindsTo.of_eq rfl | exact binds_K (Frag.In.keeps (Cx.kin _) (Ow.keep O)) rfl (by k_is) rfl rfl rfl); (case kM_39 => walk_at "mtb"); (case kN_39 => exact rfl); (case kB_39 => exact locs rfl); (case c5_39 => decide); (case c2_39 => exact rfl); (case c3_39 => exact rfl); (case c4_39 => exact rfl); intro L s hA O))
  refine st_letc ?_
  ((refine' cl_meth O ?o_40 ?x_40 ?d_40 ?m_40 ?k_40 ?n_40 ?a_40 ?_; (case o_40 => walk_at "ev"); (case x_40 => (walk_at "in2")); (case d_40 => (walk_at "in2")); (case m_40 => (walk_at "methF")); (case k_40 => (walk_at "keep")); (case n_40 => exact rfl); (case a_40 => walk_at "evl"); intro vs s hv O))
  refine sp_g_codes hA hv (by walk_at "inI") (by (((refine' Ow.got O ?g_41); (case g_41 => walk_at "got")))) hT hab hb fun r s O => ?_
  refine st_store (a := rf r) O rfl fun s O => ?_
  ((refine' st_if O ?t_42 ?_ ?_; (case t_42 => walk_at "evb")))
  · intro hc s O
    have hc : b < gs := by simpa using hc
    refine st_expr ?_
    ((refine' cl_meth O ?o_43 ?x_43 ?d_43 ?m_43 ?k_43 ?n_43 ?a_43 ?_; (case o_43 => walk_at "ev"); (case x_43 => (walk_at "in2")); (case d_43 => (walk_at "in2")); (case m_43 => (walk_at "methF")); (case k_43 => (walk_at "keep")); (case n_43 => exact rfl); (case a_43 => walk_at "evl"); intro vs s hv O))
    refine sp_g_move hA hv (by walk_at "inI") (by (((refine' Ow.got O ?g_44); (case g_44 => walk_at "got")))) hT hb fun ge' xs' s hT' hl O => st_nil ?_
    ((refine' st_if O ?t_45 ?_ ?_; (case t_45 => walk_at "evb")))
    · intro hd; simp at hd; lia
    intro hd s O
    refine st_nil ?_
    ((refine' st_attr O ?v_46 ?o_46 ?x_46 ?d_46 ?c_46 ?z_46 ?_; (case v_46 => walk_at "ev"); (case o_46 => walk_at "ev"); (case x_46 => (walk_at "in2")); (case d_46 => (walk_at "put")); (case c_46 => (walk_at "setF")); (case z_46 => exact Nat.le_of_ble_eq_true rfl); intro s O))
    ((refine' st_attr O ?v_47 ?o_47 ?x_47 ?d_47 ?c_47 ?z_47 ?_; (case v_47 => walk_at "ev"); (case o_47 => walk_at "ev"); (case x_47 => (walk_at "in2")); (case d_47 => (walk_at "put")); (case c_47 => (walk_at "setF")); (case z_47 => exact Nat.le_of_ble_eq_true rfl); intro s O))
    have hX := tx_del hT' hab (Nat.le_refl _) hb
    rw [show (ge' : Int) + b - b = ((ge' + (b - b) : Nat) : Int) by lia] at O
    exact st_ret O (a := rf r) (by walk_at "ev") fun v s hv O => by cases hv; exact h _ _ _ _ _ hX (by (((refine' Ow.got (Ow.back O ?p_48) ?g_48); (case p_48 => (walk_at "pick")); (case g_48 => walk_at "got"))))
  · intro hc s O
    have hc : gs ≤ b := by simp at hc; lia
    refine st_nil ?_
    ((refine' st_if O ?t_49 ?_ ?_; (case t_49 => walk_at "evb")))
    · intro hd s O
      have hd : gs < a := by simpa using hd
      refine st_expr ?_
      ((refine' cl_meth O ?o_50 ?x_50 ?d_50 ?m_50 ?k_50 ?n_50 ?a_50 ?_; (case o_50 => walk_at "ev"); (case x_50 => (walk_at "in2")); (case d_50 => (walk_at "in2")); (case m_50 => (walk_at "methF")); (case k_50 => (walk_at "keep")); (case n_50 => exact rfl); (case a_50 => walk_at "evl"); intro vs s hv O))
      refine sp_g_move hA hv (by walk_at "inI") (by (((refine' Ow.got O ?g_51); (case g_51 => walk_at "got")))) hT (by lia) fun ge' xs' s hT' hl O => st_nil ?_
      ((refine' st_attr O ?v_52 ?o_52 ?x_52 ?d_52 ?c_52 ?z_52 ?_; (case v_52 => walk_at "ev"); (case o_52 => walk_at "ev"); (case x_52 => (walk_at "in2")); (case d_52 => (walk_at "put")); (case c_52 => (walk_at "setF")); (case z_52 => exact Nat.le_of_ble_eq_true rfl); intro s O))
      ((refine' st_attr O ?v_53 ?o_53 ?x_53 ?d_53 ?c_53 ?z_53 ?_; (case v_53 => walk_at "ev"); (case o_53 => walk_at "ev"); (case x_53 => (walk_at "in2")); (case d_53 => (walk_at "put")); (case c_53 => (walk_at "setF")); (case z_53 => exact Nat.le_of_ble_eq_true rfl); intro s O))
      have hX := tx_del hT' (Nat.le_refl _) hab hb
      rw [show (ge' : Int) + b - a = ((ge' + (b - a) : Nat) : Int) by lia] at O
      exact st_ret O (a := rf r) (by walk_at "ev") fun v s hv O => by cases hv; exact h _ _ _ _ _ hX (by (((refine' Ow.got (Ow.back O ?p_54) ?g_54); (case p_54 => (walk_at "pick")); (case g_54 => walk_at "got"))))
    · intro hd s O
      have hd : a ≤ gs := by simp at hd; lia
      refine st_nil ?_
      ((refine' st_attr O ?v_55 ?o_55 ?x_55 ?d_55 ?c_55 ?z_55 ?_; (case v_55 => walk_at "ev"); (case o_55 => walk_at "ev"); (case x_55 => (walk_at "in2")); (case d_55 => (walk_at "put")); (case c_55 => (walk_at "setF")); (case z_55 => exact Nat.le_of_ble_eq_true rfl); intro s O))
      ((refine' st_attr O ?v_56 ?o_56 ?x_56 ?d_56 ?c_56 ?z_56 ?_; (case v_56 => walk_at "ev"); (case o_56 => walk_at "ev"); (case x_56 => (walk_at "in2")); (case d_56 => (walk_at "put")); (case c_56 => (walk_at "setF")); (case z_56 => exact Nat.le_of_ble_eq_true rfl); intro s O))
      have hX := tx_del hT hd hc hb
      rw [show (ge : Int) + b - gs = ((ge + (b - gs) : Nat) : Int) by lia] at O
      exact st_ret O (a := rf r) (by walk_at "ev") fun v s hv O => by cases hv; exact h _ _ _ _ _ hX (by (((refine' Ow.got (Ow.back O ?p_57) ?g_57); (case p_57 => (walk_at "pick")); (case g_57 => walk_at "got"))))
structure BA where
  (b db t dt cl mr dm rw ls : Addr)
noncomputable def bufF (B : BA) (pt zv tk ck : Int) : FM := [("number", .i 1), ("name", .s "a"), ("text", rf B.t), ("markers", rf B.mr), ("point", .i pt), ("begv", .i 1), ("zv", .i zv), ("mark", nn), ("is_live", bo true), ("is_read_only", bo false),
  ("ticks", .i tk), ("codes_ticks", .i ck), ("saved_ticks", .i 1), ("listeners", rf B.ls), ("undo", nn), ("props", nn), ("overlays", nn), ("locals", nn), ("syntax", nn), ("file", nn)]
noncomputable abbrev isB (B : BA) (pt zv tk ck : Int) : Obj → Prop := isF (bufF B pt zv tk ck)
structure BI (c : Cx) (B : BA) (I : Led) : Prop where
  b : (B.b, isI 565 B.db) ∈ I
  t : (B.t, isI 354 B.dt) ∈ I
  mr : (B.mr, isI 424 B.dm) ∈ I
  dm : (B.dm, isF [("rows", rf B.rw)]) ∈ I
  rw : (B.rw, isM c []) ∈ I
  ls : (B.ls, isInts []) ∈ I
theorem BI.sb {c B I I'} (h : BI c B I) (hs : Sb I I') : BI c B I' := ⟨hs _ h.b, hs _ h.t, hs _ h.mr, hs _ h.dm, hs _ h.rw, hs _ h.ls⟩

theorem sp_numbers {c : Cx} {A : Around} {L : Addr} {m : FM} {Γ I : Led} {s : Shared} {Q E} {B : BA} {vs} (hA : Room 2 A) (hv : AVs [rf B.mr] vs) (hB : BI c B I) (O : Ow c L m Γ I s)
    (h : ∀ r s', Ow c L m ((r, isInts []) :: Γ) I s' → Q (.ref r) s') : wpAny c.M A (call (.ref 379) vs []) Q E s := by
  obtain ⟨h1, h2, h3, h4, h5, h6⟩ := hB
  (((repeat (rename AVs (_ :: _) _ => hv0; cases hv0)); (repeat (rename AVs [] _ => hv0; cases hv0))))
  ((refine' call_fnZ hA O ?k6_59 ?k7_59 ?kb_59 ?k9_59 ?kM_59 ?kN_59 ?kB_59 ?c5_59 ?c2_59 ?c3_59 ?c4_59 ?_; (case k6_59 => k_is); (case k7_59 => k_is); (case kb_59 => (refine' zip_of ?pe_59 ?rest_59; (case pe_59 => conv => lhs; whnf); (case rest_59 => simp only [List.map, List.zip, List.zipWith]; rfl))); (case k9_59 => first | exact BindsTo.of_eq rfl | exact binds_K (Frag.In.keeps (Cx.kin _) (Ow.keep O)) rfl (by k_is) rfl rfl rfl); (case kM_59 => walk_at "mtb"); (case kN_59 => exact rfl); (case kB_59 => exact locs rfl); (case c5_59 => decide); (case c2_59 => exact rfl); (case c3_59 => exact rfl); (case c4_59 => exact rfl); intro L s hA O))
  refine st_retc (cl_bi O (by walk_at "name") (by walk_at "evl") fun vs s hv O => ?_)
  obtain rfl := AVs_r1 hv
  refine cn_sorted0 hA.handled O (by walk_at "in2") fun r s O => ?_
  exact h _ _ (by (((refine' Ow.got (Ow.back O ?p_60) ?g_60); (case p_60 => (walk_at "pick")); (case g_60 => walk_at "got"))))
theorem pu_inserted {c : Cx} {A : Around} {L : Addr} {m : FM} {Γ I : Led} {B : BA} {x y : Int} {z : Bool} {vs} (hA : Room 3 A) (hv : AVs [rf B.mr, .i x, .i y, bo z] vs) (hB : BI c B I) : Pu c A L m Γ I (call (.ref 407) vs []) nn.is := by
  intro Q E s O h
  obtain ⟨h1, h2, h3, h4, h5, h6⟩ := id hB
  (((repeat (rename AVs (_ :: _) _ => hv0; cases hv0)); (repeat (rename AVs [] _ => hv0; cases hv0))))
  ((refine' call_fnZ hA O ?k6_62 ?k7_62 ?kb_62 ?k9_62 ?kM_62 ?kN_62 ?kB_62 ?c5_62 ?c2_62 ?c3_62 ?c4_62 ?_; (case k6_62 => k_is); (case k7_62 => k_is); (case kb_62 => (refine' zip_of ?pe_62 ?rest_62; (case pe_62 => conv => lhs; whnf); (case rest_62 => simp only [List.map, List.zip, List.zipWith]; rfl))); (case k9_62 => first | exact BindsTo.of_eq rfl | exact binds_K (Frag.In.keeps (Cx.kin _) (Ow.keep O)) rfl (by k_is) rfl rfl rfl); (case kM_62 => walk_at "mtb"); (case kN_62 => exact rfl); (case kB_62 => exact locs rfl); (case c5_62 => decide); (case c2_62 => exact rfl); (case c3_62 => exact rfl); (case c4_62 => exact rfl); intro L s hA O))
  refine st_for ?_
  ((refine' cl_meth O ?o_63 ?x_63 ?d_63 ?m_63 ?k_63 ?n_63 ?a_63 ?_; (case o_63 => walk_at "ev"); (case x_63 => (walk_at "in2")); (case d_63 => (walk_at "in2")); (case m_63 => (walk_at "methF")); (case k_63 => (walk_at "keep")); (case n_63 => exact rfl); (case a_63 => walk_at "evl"); intro vs s hv O))
  refine sp_numbers hA hv hB O fun r s O => ?_
  refine lp_nil hA.handled O (by walk_at "in2") fun s O => ?_
  exact st_nil (h _ _ rfl (by (((refine' Ow.got (Ow.back O ?p_64) ?g_64); (case p_64 => (walk_at "pick")); (case g_64 => walk_at "got")))))
theorem pu_deleted {c : Cx} {A : Around} {L : Addr} {m : FM} {Γ I : Led} {B : BA} {x y : Int} {vs} (hA : Room 3 A) (hv : AVs [rf B.mr, .i x, .i y] vs) (hB : BI c B I) : Pu c A L m Γ I (call (.ref 414) vs []) nn.is := by
  intro Q E s O h
  obtain ⟨h1, h2, h3, h4, h5, h6⟩ := id hB
  (((repeat (rename AVs (_ :: _) _ => hv0; cases hv0)); (repeat (rename AVs [] _ => hv0; cases hv0))))
  ((refine' call_fnZ hA O ?k6_66 ?k7_66 ?kb_66 ?k9_66 ?kM_66 ?kN_66 ?kB_66 ?c5_66 ?c2_66 ?c3_66 ?c4_66 ?_; (case k6_66 => k_is); (case k7_66 => k_is); (case kb_66 => (refine' zip_of ?pe_66 ?rest_66; (case pe_66 => conv => lhs; whnf); (case rest_66 => simp only [List.map, List.zip, List.zipWith]; rfl))); (case k9_66 => first | exact BindsTo.of_eq rfl | exact binds_K (Frag.In.keeps (Cx.kin _) (Ow.keep O)) rfl (by k_is) rfl rfl rfl); (case kM_66 => walk_at "mtb"); (case kN_66 => exact rfl); (case kB_66 => exact locs rfl); (case c5_66 => decide); (case c2_66 => exact rfl); (case c3_66 => exact rfl); (case c4_66 => exact rfl); intro L s hA O))
  refine st_for ?_
  ((refine' cl_meth O ?o_67 ?x_67 ?d_67 ?m_67 ?k_67 ?n_67 ?a_67 ?_; (case o_67 => walk_at "ev"); (case x_67 => (walk_at "in2")); (case d_67 => (walk_at "in2")); (case m_67 => (walk_at "methF")); (case k_67 => (walk_at "keep")); (case n_67 => exact rfl); (case a_67 => walk_at "evl"); intro vs s hv O))
  refine sp_numbers hA hv hB O fun r s O => ?_
  refine lp_nil hA.handled O (by walk_at "in2") fun s O => ?_
  exact st_nil (h _ _ rfl (by (((refine' Ow.got (Ow.back O ?p_68) ?g_68); (case p_68 => (walk_at "pick")); (case g_68 => walk_at "got")))))
theorem pu_replaced {c : Cx} {A : Around} {L : Addr} {m : FM} {Γ I : Led} {B : BA} {x y z : Int} {vs} (hA : Room 3 A) (hv : AVs [rf B.mr, .i x, .i y, .i z] vs) (hB : BI c B I) : Pu c A L m Γ I (call (.ref 421) vs []) nn.is := by
  intro Q E s O h
  obtain ⟨h1, h2, h3, h4, h5, h6⟩ := id hB
  (((repeat (rename AVs (_ :: _) _ => hv0; cases hv0)); (repeat (rename AVs [] _ => hv0; cases hv0))))
  ((refine' call_fnZ hA O ?k6_70 ?k7_70 ?kb_70 ?k9_70 ?kM_70 ?kN_70 ?kB_70 ?c5_70 ?c2_70 ?c3_70 ?c4_70 ?_; (case k6_70 => k_is); (case k7_70 => k_is); (case kb_70 => (refine' zip_of ?pe_70 ?rest_70; (case pe_70 => conv => lhs; whnf); (case rest_70 => simp only [List.map, List.zip, List.zipWith]; rfl))); (case k9_70 => first | exact BindsTo.of_eq rfl | exact binds_K (Frag.In.keeps (Cx.kin _) (Ow.keep O)) rfl (by k_is) rfl rfl rfl); (case kM_70 => walk_at "mtb"); (case kN_70 => exact rfl); (case kB_70 => exact locs rfl); (case c5_70 => decide); (case c2_70 => exact rfl); (case c3_70 => exact rfl); (case c4_70 => exact rfl); intro L s hA O))
  refine st_for ?_
  ((refine' cl_meth O ?o_71 ?x_71 ?d_71 ?m_71 ?k_71 ?n_71 ?a_71 ?_; (case o_71 => walk_at "ev"); (case x_71 => (walk_at "in2")); (case d_71 => (walk_at "in2")); (case m_71 => (walk_at "methF")); (case k_71 => (walk_at "keep")); (case n_71 => exact rfl); (case a_71 => walk_at "evl"); intro vs s hv O))
  refine sp_numbers hA hv hB O fun r s O => ?_
  refine lp_nil hA.handled O (by walk_at "in2") fun s O => ?_
  exact st_nil (h _ _ rfl (by (((refine' Ow.got (Ow.back O ?p_72) ?g_72); (case p_72 => (walk_at "pick")); (case g_72 => walk_at "got")))))
theorem pu_writable {c : Cx} {A : Around} {L : Addr} {m : FM} {Γ I : Led} {B : BA} {pt zv tk ck : Int} {vs} (hA : Room 2 A) (hv : AVs [rf B.b] vs) (hB : BI c B I) (hd : In2 B.db (isB B pt zv tk ck) Γ I) : Pu c A L m Γ I (call (.ref 48) vs []) nn.is := by
  intro Q E s O h
  obtain ⟨h1, h2, h3, h4, h5, h6⟩ := id hB
  (((repeat (rename AVs (_ :: _) _ => hv0; cases hv0)); (repeat (rename AVs [] _ => hv0; cases hv0))))
  ((refine' call_fnZ hA O ?k6_74 ?k7_74 ?kb_74 ?k9_74 ?kM_74 ?kN_74 ?kB_74 ?c5_74 ?c2_74 ?c3_74 ?c4_74 ?_; (case k6_74 => k_is); (case k7_74 => k_is); (case kb_74 => (refine' zip_of ?pe_74 ?rest_74; (case pe_74 => conv => lhs; whnf); (case rest_74 => simp only [List.map, List.zip, List.zipWith]; rfl))); (case k9_74 => first | exact BindsTo.of_eq rfl | exact binds_K (Frag.In.keeps (Cx.kin _) (Ow.keep O)) rfl (by k_is) rfl rfl rfl); (case kM_74 => walk_at "mtb"); (case kN_74 => exact rfl); (case kB_74 => exact locs rfl); (case c5_74 => decide); (case c2_74 => exact rfl); (case c3_74 => exact rfl); (case c4_74 => exact rfl); intro L s hA O))
  refine st_ifF0 O (by walk_at "evb") fun s O => ?_
  exact st_nil (h _ _ rfl O.leave)
theorem sp_reached {c : Cx} {A : Around} {L : Addr} {m : FM} {Γ I : Led} {s : Shared} {Q E} {B : BA} {x y pt zv tk ck : Int} {vs} (hA : Room 2 A) (hv : AVs [rf B.b, .i x, .i y] vs) (hB : BI c B I) (hd : In2 B.db (isB B pt zv tk ck) Γ I) (O : Ow c L m Γ I s)
    (h1 : 1 ≤ x) (hxy : x ≤ y) (hy : y ≤ zv) (h : ∀ r s', Ow c L m ((r, isT [.i x, .i y]) :: Γ) I s' → Q (.ref r) s') : wpAny c.M A (call (.ref 55) vs []) Q E s := by
  obtain ⟨g1, g2, g3, g4, g5, g6⟩ := hB
  (((repeat (rename AVs (_ :: _) _ => hv0; cases hv0)); (repeat (rename AVs [] _ => hv0; cases hv0))))
  ((refine' call_fnZ hA O ?k6_76 ?k7_76 ?kb_76 ?k9_76 ?kM_76 ?kN_76 ?kB_76 ?c5_76 ?c2_76 ?c3_76 ?c4_76 ?_; (case k6_76 => k_is); (case k7_76 => k_is); (case kb_76 => (refine' zip_of ?pe_76 ?rest_76; (case pe_76 => conv => lhs; whnf); (case rest_76 => simp only [List.map, List.zip, List.zipWith]; rfl))); (case k9_76 => first | exact BindsTo.of_eq rfl | exact binds_K (Frag.In.keeps (Cx.kin _) (Ow.keep O)) rfl (by k_is) rfl rfl rfl); (case kM_76 => walk_at "mtb"); (case kN_76 => exact rfl); (case kB_76 => exact locs rfl); (case c5_76 => decide); (case c2_76 => exact rfl); (case c3_76 => exact rfl); (case c4_76 => exact rfl); intro L s hA O))
  refine st_tup2 hA.handled O (by walk_at "ev") (by walk_at "ev") fun s O => ?_
  rw [show (if y < x then y else x) = x by split <;> lia, show (if y > x then y else x) = y by split <;> lia] at O
  refine st_ifF1 O (by walk_at "evb") (by simp; lia) fun s O => ?_
  refine st_retc (cn_tuple O (by walk_at "evl") (by exact Nat.le_of_ble_eq_true rfl) fun r s O => ?_)
  exact h _ _ (by (((refine' Ow.got (Ow.back O ?p_77) ?g_77); (case p_77 => (walk_at "pick")); (case g_77 => walk_at "got"))))
theorem pu_ahead {c : Cx} {A : Around} {L : Addr} {m : FM} {Γ I : Led} {B : BA} {x y pt zv tk ck : Int} {vs} (hA : Room 2 A) (hv : AVs [rf B.b, .i x, .i y] vs) (hB : BI c B I) (hd : In2 B.db (isB B pt zv tk ck) Γ I) : Pu c A L m Γ I (call (.ref 62) vs []) nn.is := by
  intro Q E s O h
  obtain ⟨g1, g2, g3, g4, g5, g6⟩ := hB
  (((repeat (rename AVs (_ :: _) _ => hv0; cases hv0)); (repeat (rename AVs [] _ => hv0; cases hv0))))
  ((refine' call_fnZ hA O ?k6_79 ?k7_79 ?kb_79 ?k9_79 ?kM_79 ?kN_79 ?kB_79 ?c5_79 ?c2_79 ?c3_79 ?c4_79 ?_; (case k6_79 => k_is); (case k7_79 => k_is); (case kb_79 => (refine' zip_of ?pe_79 ?rest_79; (case pe_79 => conv => lhs; whnf); (case rest_79 => simp only [List.map, List.zip, List.zipWith]; rfl))); (case k9_79 => first | exact BindsTo.of_eq rfl | exact binds_K (Frag.In.keeps (Cx.kin _) (Ow.keep O)) rfl (by k_is) rfl rfl rfl); (case kM_79 => walk_at "mtb"); (case kN_79 => exact rfl); (case kB_79 => exact locs rfl); (case c5_79 => decide); (case c2_79 => exact rfl); (case c3_79 => exact rfl); (case c4_79 => exact rfl); intro L s hA O))
  refine st_for (cl_ty O (by walk_at "name") (by walk_at "evl") fun vs s hv O => ?_)
  obtain rfl := AVs_r1 hv
  refine cn_copy (f := AV.i) (xs := []) O (by walk_at "in2") (by decide) fun r s O => ?_
  refine lp_nil hA.handled O (by walk_at "in2") fun s O => ?_
  exact st_nil (h _ _ rfl (by (((refine' Ow.got (Ow.back O ?p_80) ?g_80); (case p_80 => (walk_at "pick")); (case g_80 => walk_at "got")))))
theorem sp_touch {c : Cx} {A : Around} {L : Addr} {m : FM} {Γ I : Led} {s : Shared} {Q E} {B : BA} {pt zv tk ck : Int} {vs} (hA : Room 2 A) (hv : AVs [rf B.b, bo true] vs) (hB : BI c B I) (O : Ow c L m ((B.db, isB B pt zv tk ck) :: Γ) I s)
    (h : ∀ s', Ow c L m ((B.db, isB B pt zv (tk + 1) (tk + 1)) :: Γ) I s' → Q .none s') : wpAny c.M A (call (.ref 562) vs []) Q E s := by
  obtain ⟨g1, g2, g3, g4, g5, g6⟩ := hB
  (((repeat (rename AVs (_ :: _) _ => hv0; cases hv0)); (repeat (rename AVs [] _ => hv0; cases hv0))))
  ((refine' call_fnZ hA O ?k6_82 ?k7_82 ?kb_82 ?k9_82 ?kM_82 ?kN_82 ?kB_82 ?c5_82 ?c2_82 ?c3_82 ?c4_82 ?_; (case k6_82 => k_is); (case k7_82 => k_is); (case kb_82 => (refine' zip_of ?pe_82 ?rest_82; (case pe_82 => conv => lhs; whnf); (case rest_82 => simp only [List.map, List.zip, List.zipWith]; rfl))); (case k9_82 => first | exact BindsTo.of_eq rfl | exact binds_K (Frag.In.keeps (Cx.kin _) (Ow.keep O)) rfl (by k_is) rfl rfl rfl); (case kM_82 => walk_at "mtb"); (case kN_82 => exact rfl); (case kB_82 => exact locs rfl); (case c5_82 => decide); (case c2_82 => exact rfl); (case c3_82 => exact rfl); (case c4_82 => exact rfl); intro L s hA O))
  ((refine' st_attr O ?v_83 ?o_83 ?x_83 ?d_83 ?c_83 ?z_83 ?_; (case v_83 => walk_at "ev"); (case o_83 => walk_at "ev"); (case x_83 => (walk_at "in2")); (case d_83 => (walk_at "put")); (case c_83 => (walk_at "setF")); (case z_83 => exact Nat.le_of_ble_eq_true rfl); intro s O))
  refine st_ifT O (by walk_at "evb") fun s O => ?_
  ((refine' st_attr O ?v_84 ?o_84 ?x_84 ?d_84 ?c_84 ?z_84 ?_; (case v_84 => walk_at "ev"); (case o_84 => walk_at "ev"); (case x_84 => (walk_at "in2")); (case d_84 => (walk_at "put")); (case c_84 => (walk_at "setF")); (case z_84 => exact Nat.le_of_ble_eq_true rfl); intro s O))
  exact st_nil (st_nil (h _ (by (((refine' Ow.got (Ow.back O ?p_85) ?g_85); (case p_85 => (walk_at "pick")); (case g_85 => walk_at "got"))))))
theorem sp_behind {c : Cx} {A : Around} {L : Addr} {m : FM} {Γ I : Led} {s : Shared} {Q E} {B : BA} {x y z pt zv tk ck : Int} {vs} (hA : Room 3 A) (hv : AVs [rf B.b, .i x, .i y, .i z] vs) (hB : BI c B I) (O : Ow c L m ((B.db, isB B pt zv tk ck) :: Γ) I s)
    (h : ∀ s', Ow c L m ((B.db, isB B pt zv (tk + 1) (tk + 1)) :: Γ) I s' → Q .none s') : wpAny c.M A (call (.ref 69) vs []) Q E s := by
  obtain ⟨g1, g2, g3, g4, g5, g6⟩ := id hB
  (((repeat (rename AVs (_ :: _) _ => hv0; cases hv0)); (repeat (rename AVs [] _ => hv0; cases hv0))))
  ((refine' call_fnZ hA O ?k6_87 ?k7_87 ?kb_87 ?k9_87 ?kM_87 ?kN_87 ?kB_87 ?c5_87 ?c2_87 ?c3_87 ?c4_87 ?_; (case k6_87 => k_is); (case k7_87 => k_is); (case kb_87 => (refine' zip_of ?pe_87 ?rest_87; (case pe_87 => conv => lhs; whnf); (case rest_87 => simp only [List.map, List.zip, List.zipWith]; rfl))); (case k9_87 => first | exact BindsTo.of_eq rfl | exact binds_K (Frag.In.keeps (Cx.kin _) (Ow.keep O)) rfl (by k_is) rfl rfl rfl); (case kM_87 => walk_at "mtb"); (case kN_87 => exact rfl); (case kB_87 => exact locs rfl); (case c5_87 => decide); (case c2_87 => exact rfl); (case c3_87 => exact rfl); (case c4_87 => exact rfl); intro L s hA O))
  refine st_expr ?_
  ((refine' cl_meth O ?o_88 ?x_88 ?d_88 ?m_88 ?k_88 ?n_88 ?a_88 ?_; (case o_88 => walk_at "ev"); (case x_88 => (walk_at "in2")); (case d_88 => (walk_at "in2")); (case m_88 => (walk_at "methF")); (case k_88 => (walk_at "keep")); (case n_88 => exact rfl); (case a_88 => walk_at "evl"); intro vs s hv O))
  refine sp_touch hA hv hB (by (((refine' Ow.got O ?g_89); (case g_89 => walk_at "got")))) fun s O => ?_
  refine st_for (cl_ty O (by walk_at "name") (by walk_at "evl") fun vs s hv O => ?_)
  obtain rfl := AVs_r1 hv
  refine cn_copy (f := AV.i) (xs := []) O (by walk_at "in2") (by decide) fun r s O => ?_
  refine lp_nil hA.handled O (by walk_at "in2") fun s O => ?_
  exact st_nil (h _ (by (((refine' Ow.got (Ow.back O ?p_90) ?g_90); (case p_90 => (walk_at "pick")); (case g_90 => walk_at "got")))))
theorem pu_hungout {c : Cx} {A : Around} {L : Addr} {m : FM} {Γ I : Led} {B : BA} {x y pt zv tk ck : Int} {vs} (hA : Room 2 A) (hv : AVs [rf B.b, .i x, .i y] vs) (hB : BI c B I) (hd : In2 B.db (isB B pt zv tk ck) Γ I) : Pu c A L m Γ I (call (.ref 90) vs []) nn.is := by
  intro Q E s O h
  obtain ⟨g1, g2, g3, g4, g5, g6⟩ := hB
  (((repeat (rename AVs (_ :: _) _ => hv0; cases hv0)); (repeat (rename AVs [] _ => hv0; cases hv0))))
  ((refine' call_fnZ hA O ?k6_92 ?k7_92 ?kb_92 ?k9_92 ?kM_92 ?kN_92 ?kB_92 ?c5_92 ?c2_92 ?c3_92 ?c4_92 ?_; (case k6_92 => k_is); (case k7_92 => k_is); (case kb_92 => (refine' zip_of ?pe_92 ?rest_92; (case pe_92 => conv => lhs; whnf); (case rest_92 => simp only [List.map, List.zip, List.zipWith]; rfl))); (case k9_92 => first | exact BindsTo.of_eq rfl | exact binds_K (Frag.In.keeps (Cx.kin _) (Ow.keep O)) rfl (by k_is) rfl rfl rfl); (case kM_92 => walk_at "mtb"); (case kN_92 => exact rfl); (case kB_92 => exact locs rfl); (case c5_92 => decide); (case c2_92 => exact rfl); (case c3_92 => exact rfl); (case c4_92 => exact rfl); intro L s hA O))
  refine st_ifF1 O (by walk_at "evb") (by rfl) fun s O => ?_
  refine st_ifF1 O (by walk_at "evb") (by rfl) fun s O => ?_
  exact st_nil (h _ _ rfl (by (((refine' Ow.got (Ow.back O ?p_93) ?g_93); (case p_93 => (walk_at "pick")); (case g_93 => walk_at "got")))))
theorem pu_hungin {c : Cx} {A : Around} {L : Addr} {m : FM} {Γ I : Led} {B : BA} {x y pt zv tk ck : Int} {z : Bool} {vs} (hA : Room 2 A) (hv : AVs [rf B.b, .i x, .i y, bo z] vs) (hB : BI c B I) (hd : In2 B.db (isB B pt zv tk ck) Γ I) : Pu c A L m Γ I (call (.ref 97) vs []) nn.is := by
  intro Q E s O h
  obtain ⟨g1, g2, g3, g4, g5, g6⟩ := hB
  (((repeat (rename AVs (_ :: _) _ => hv0; cases hv0)); (repeat (rename AVs [] _ => hv0; cases hv0))))
  ((refine' call_fnZ hA O ?k6_95 ?k7_95 ?kb_95 ?k9_95 ?kM_95 ?kN_95 ?kB_95 ?c5_95 ?c2_95 ?c3_95 ?c4_95 ?_; (case k6_95 => k_is); (case k7_95 => k_is); (case kb_95 => (refine' zip_of ?pe_95 ?rest_95; (case pe_95 => conv => lhs; whnf); (case rest_95 => simp only [List.map, List.zip, List.zipWith]; rfl))); (case k9_95 => first | exact BindsTo.of_eq rfl | exact binds_K (Frag.In.keeps (Cx.kin _) (Ow.keep O)) rfl (by k_is) rfl rfl rfl); (case kM_95 => walk_at "mtb"); (case kN_95 => exact rfl); (case kB_95 => exact locs rfl); (case c5_95 => decide); (case c2_95 => exact rfl); (case c3_95 => exact rfl); (case c4_95 => exact rfl); intro L s hA O))
  refine st_ifF1 O (by walk_at "evb") (by rfl) fun s O => ?_
  refine st_ifF1 O (by walk_at "evb") (by rfl) fun s O => ?_
  exact st_nil (h _ _ rfl (by (((refine' Ow.got (Ow.back O ?p_96) ?g_96); (case p_96 => (walk_at "pick")); (case g_96 => walk_at "got")))))
/-- Buffer.codes, from a to b in places counted from nought -/
theorem sp_b_codes {c : Cx} {A : Around} {L : Addr} {m : FM} {Γ I : Led} {s : Shared} {Q E} {B : BA} {gs ge a b : Nat} {xs text : List Int} {x y pt zv tk ck : Int} {vs} (hA : Room 3 A) (hv : AVs [rf B.b, .i x, .i y] vs) (hB : BI c B I)
    (O : Ow c L m ((B.db, isB B pt zv tk ck) :: (B.dt, isG B.cl gs ge) :: (B.cl, isInts xs) :: Γ) I s) (hT : TX gs ge xs text) (hx : x = a + 1) (hy : y = b + 1) (hab : a ≤ b) (hb : b ≤ text.length)
    (h : ∀ r s', Ow c L m ((r, isInts (part text a b)) :: (B.db, isB B pt zv tk ck) :: (B.dt, isG B.cl gs ge) :: (B.cl, isInts xs) :: Γ) I s' → Q (.ref r) s') : wpAny c.M A (call (.ref 527) vs []) Q E s := by
  obtain ⟨g1, g2, g3, g4, g5, g6⟩ := id hB
  (((repeat (rename AVs (_ :: _) _ => hv0; cases hv0)); (repeat (rename AVs [] _ => hv0; cases hv0))))
  ((refine' call_fnZ hA O ?k6_98 ?k7_98 ?kb_98 ?k9_98 ?kM_98 ?kN_98 ?kB_98 ?c5_98 ?c2_98 ?c3_98 ?c4_98 ?_; (case k6_98 => k_is); (case k7_98 => k_is); (case kb_98 => (refine' zip_of ?pe_98 ?rest_98; (case pe_98 => conv => lhs; whnf); (case rest_98 => simp only [List.map, List.zip, List.zipWith]; rfl))); (case k9_98 => first | exact BindsTo.of_eq rfl | exact binds_K (Frag.In.keeps (Cx.kin _) (Ow.keep O)) rfl (by k_is) rfl rfl rfl); (case kM_98 => walk_at "mtb"); (case kN_98 => exact rfl); (case kB_98 => exact locs rfl); (case c5_98 => decide); (case c2_98 => exact rfl); (case c3_98 => exact rfl); (case c4_98 => exact rfl); intro L s hA O))
  refine st_retc ?_
  ((refine' cl_meth O ?o_99 ?x_99 ?d_99 ?m_99 ?k_99 ?n_99 ?a_99 ?_; (case o_99 => walk_at "ev"); (case x_99 => (walk_at "in2")); (case d_99 => (walk_at "in2")); (case m_99 => (walk_at "methF")); (case k_99 => (walk_at "keep")); (case n_99 => exact rfl); (case a_99 => walk_at "evl"); intro vs s hv O))
  rw [show x - 1 = a by lia, show y - 1 = b by lia] at hv
  refine sp_g_codes hA hv (by walk_at "inI") (by (((refine' Ow.got O ?g_100); (case g_100 => walk_at "got")))) hT hab hb fun r s O => ?_
  exact h _ _ (by (((refine' Ow.got (Ow.back O ?p_101) ?g_101); (case p_101 => (walk_at "pick")); (case g_101 => walk_at "got"))))
theorem pu_b_size {c : Cx} {A : Around} {L : Addr} {m : FM} {Γ I : Led} {B : BA} {gs ge : Nat} {xs text : List Int} {pt zv tk ck : Int} {vs} (hA : Room 3 A) (hv : AVs [rf B.b] vs) (hB : BI c B I)
    (h1 : In2 B.db (isB B pt zv tk ck) Γ I) (h2 : In2 B.dt (isG B.cl gs ge) Γ I) (h3 : In2 B.cl (isInts xs) Γ I) (hT : TX gs ge xs text) : Pu c A L m Γ I (call (.ref 513) vs []) (AV.i text.length).is := by
  intro Q E s O h
  obtain ⟨g1, g2, g3, g4, g5, g6⟩ := id hB
  (((repeat (rename AVs (_ :: _) _ => hv0; cases hv0)); (repeat (rename AVs [] _ => hv0; cases hv0))))
  ((refine' call_fnZ hA O ?k6_103 ?k7_103 ?kb_103 ?k9_103 ?kM_103 ?kN_103 ?kB_103 ?c5_103 ?c2_103 ?c3_103 ?c4_103 ?_; (case k6_103 => k_is); (case k7_103 => k_is); (case kb_103 => (refine' zip_of ?pe_103 ?rest_103; (case pe_103 => conv => lhs; whnf); (case rest_103 => simp only [List.map, List.zip, List.zipWith]; rfl))); (case k9_103 => first | exact BindsTo.of_eq rfl | exact binds_K (Frag.In.keeps (Cx.kin _) (Ow.keep O)) rfl (by k_is) rfl rfl rfl); (case kM_103 => walk_at "mtb"); (case kN_103 => exact rfl); (case kB_103 => exact locs rfl); (case c5_103 => decide); (case c2_103 => exact rfl); (case c3_103 => exact rfl); (case c4_103 => exact rfl); intro L s hA O))
  refine st_retc ?_
  ((refine' cl_meth O ?o_104 ?x_104 ?d_104 ?m_104 ?k_104 ?n_104 ?a_104 ?_; (case o_104 => walk_at "ev"); (case x_104 => (walk_at "in2")); (case d_104 => (walk_at "in2")); (case m_104 => (walk_at "methF")); (case k_104 => (walk_at "keep")); (case n_104 => exact rfl); (case a_104 => walk_at "evl"); intro vs s hv O))
  exact pu_g_size hA hv (by walk_at "in2") (by walk_at "in2") (by walk_at "in2") hT _ _ _ O fun v s hv O => h _ _ hv (by (((refine' Ow.got (Ow.back O ?p_105) ?g_105); (case p_105 => (walk_at "pick")); (case g_105 => walk_at "got"))))
/-- Buffer.code_at within the text -/
theorem pu_b_at {c : Cx} {A : Around} {L : Addr} {m : FM} {Γ I : Led} {B : BA} {gs ge a : Nat} {xs text : List Int} {x pt zv tk ck k : Int} {vs} (hA : Room 3 A) (hv : AVs [rf B.b, .i x] vs) (hB : BI c B I)
    (h1 : In2 B.db (isB B pt zv tk ck) Γ I) (h2 : In2 B.dt (isG B.cl gs ge) Γ I) (h3 : In2 B.cl (isInts xs) Γ I) (hT : TX gs ge xs text) (hx : x = a + 1) (hz : zv = text.length + 1) (hk : text[a]? = some k) : Pu c A L m Γ I (call (.ref 520) vs []) (AV.i k).is := by
  intro Q E s O h
  obtain ⟨g1, g2, g3, g4, g5, g6⟩ := id hB
  have hlt := (List.getElem?_eq_some_iff.mp hk).1
  (((repeat (rename AVs (_ :: _) _ => hv0; cases hv0)); (repeat (rename AVs [] _ => hv0; cases hv0))))
  ((refine' call_fnZ hA O ?k6_107 ?k7_107 ?kb_107 ?k9_107 ?kM_107 ?kN_107 ?kB_107 ?c5_107 ?c2_107 ?c3_107 ?c4_107 ?_; (case k6_107 => k_is); (case k7_107 => k_is); (case kb_107 => (refine' zip_of ?pe_107 ?rest_107; (case pe_107 => conv => lhs; whnf); (case rest_107 => simp only [List.map, List.zip, List.zipWith]; rfl))); (case k9_107 => first | exact BindsTo.of_eq rfl | exact binds_K (Frag.In.keeps (Cx.kin _) (Ow.keep O)) rfl (by k_is) rfl rfl rfl); (case kM_107 => walk_at "mtb"); (case kN_107 => exact rfl); (case kB_107 => exact locs rfl); (case c5_107 => decide); (case c2_107 => exact rfl); (case c3_107 => exact rfl); (case c4_107 => exact rfl); intro L s hA O))
  refine st_ifF1 O (by walk_at "evb") (by simp; lia) fun s O => ?_
  refine st_retc ?_
  ((refine' cl_meth O ?o_108 ?x_108 ?d_108 ?m_108 ?k_108 ?n_108 ?a_108 ?_; (case o_108 => walk_at "ev"); (case x_108 => (walk_at "in2")); (case d_108 => (walk_at "in2")); (case m_108 => (walk_at "methF")); (case k_108 => (walk_at "keep")); (case n_108 => exact rfl); (case a_108 => walk_at "evl"); intro vs s hv O))
  rw [show x - 1 = a by lia] at hv
  exact pu_g_code hA hv (by walk_at "in2") (by walk_at "in2") (by walk_at "in2") hT hk _ _ _ O fun v s hv O => h _ _ hv (by (((refine' Ow.got (Ow.back O ?p_109) ?g_109); (case p_109 => (walk_at "pick")); (case g_109 => walk_at "got"))))
/-- the buffer's own objects -/
noncomputable abbrev bL (B : BA) (gs ge : Nat) (xs : List Int) (pt zv tk ck : Int) (Γ : Led) : Led := (B.db, isB B pt zv tk ck) :: (B.dt, isG B.cl gs ge) :: (B.cl, isInts xs) :: Γ
theorem Ow.nB {c : Cx} {L : Addr} {m : FM} {Γ0 Γ I : Led} {s : Shared} {B : BA} {gs ge : Nat} {xs : List Int} {pt zv tk ck : Int} (O : Ow c L m Γ0 I s) (g : LGot Γ0 (bL B gs ge xs pt zv tk ck Γ)) : Ow c L m (bL B gs ge xs pt zv tk ck Γ) I s := O.got g
theorem part_length {t : List Int} {a b : Nat} (hb : b ≤ t.length) : (part t a b).length = b - a := by unfold part; rw [List.length_take, List.length_drop]; lia

theorem sp_text_out {c : Cx} {A : Around} {L : Addr} {m : FM} {Γ I : Led} {s : Shared} {Q E} {B : BA} {gs ge a b : Nat} {xs text : List Int} {x y pt zv tk ck : Int} {vs} (hA : Room 4 A) (hv : AVs [rf B.b, .i x, .i y] vs) (hB : BI c B I)
    (O : Ow c L m (bL B gs ge xs pt zv tk ck Γ) I s) (hT : TX gs ge xs text) (hx : x = a + 1) (hy : y = b + 1) (hab : a ≤ b) (hb : b ≤ text.length)
    (h : ∀ r gs' ge' xs' pt' s', TX gs' ge' xs' (text.take a ++ text.drop b) → Ow c L m ((r, isInts (part text a b)) :: bL B gs' ge' xs' pt' (zv - (y - x)) tk ck Γ) I s' → Q (.ref r) s') : wpAny c.M A (call (.ref 76) vs []) Q E s := by
  obtain ⟨g1, g2, g3, g4, g5, g6⟩ := id hB
  (((repeat (rename AVs (_ :: _) _ => hv0; cases hv0)); (repeat (rename AVs [] _ => hv0; cases hv0))))
  ((refine' call_fnZ hA O ?k6_111 ?k7_111 ?kb_111 ?k9_111 ?kM_111 ?kN_111 ?kB_111 ?c5_111 ?c2_111 ?c3_111 ?c4_111 ?_; (case k6_111 => k_is); (case k7_111 => k_is); (case kb_111 => (refine' zip_of ?pe_111 ?rest_111; (case pe_111 => conv => lhs; whnf); (case rest_111 => simp only [List.map, List.zip, List.zipWith]; rfl))); (case k9_111 => first | exact BindsTo.of_eq rfl | exact binds_K (Frag.In.keeps (Cx.kin _) (Ow.keep O)) rfl (by k_is) rfl rfl rfl); (case kM_111 => walk_at "mtb"); (case kN_111 => exact rfl); (case kB_111 => exact locs rfl); (case c5_111 => decide); (case c2_111 => exact rfl); (case c3_111 => exact rfl); (case c4_111 => exact rfl); intro L s hA O))
  refine st_ifF1 O (by walk_at "evb") (by rfl) fun s O => ?_
  refine st_letc ?_
  ((refine' cl_meth O ?o_112 ?x_112 ?d_112 ?m_112 ?k_112 ?n_112 ?a_112 ?_; (case o_112 => walk_at "ev"); (case x_112 => (walk_at "in2")); (case d_112 => (walk_at "in2")); (case m_112 => (walk_at "methF")); (case k_112 => (walk_at "keep")); (case n_112 => exact rfl); (case a_112 => walk_at "evl"); intro vs s hv O))
  rw [show x - 1 = a by lia, show y - 1 = b by lia] at hv
  refine sp_g_delete hA hv (by walk_at "inI") (by (((refine' Ow.got O ?g_113); (case g_113 => walk_at "got")))) hT hab hb fun r gs ge xs s hT O => ?_
  refine st_store (a := rf r) O rfl fun s O => ?_
  ((refine' st_attr O ?v_114 ?o_114 ?x_114 ?d_114 ?c_114 ?z_114 ?_; (case v_114 => walk_at "ev"); (case o_114 => walk_at "ev"); (case x_114 => (walk_at "in2")); (case d_114 => (walk_at "put")); (case c_114 => (walk_at "setF")); (case z_114 => exact Nat.le_of_ble_eq_true rfl); intro s O))
  ((refine' st_if O ?t_115 ?_ ?_; (case t_115 => walk_at "evb")))
  · intro _ s O
    ((refine' st_attr O ?v_116 ?o_116 ?x_116 ?d_116 ?c_116 ?z_116 ?_; (case v_116 => walk_at "ev"); (case o_116 => walk_at "ev"); (case x_116 => (walk_at "in2")); (case d_116 => (walk_at "put")); (case c_116 => (walk_at "setF")); (case z_116 => exact Nat.le_of_ble_eq_true rfl); intro s O))
    refine st_nil ?_
    exact st_ret O (a := rf r) (by walk_at "ev") fun v s hv O => by cases hv; exact h _ _ _ _ _ _ hT (by (((refine' Ow.got (Ow.back O ?p_117) ?g_117); (case p_117 => (walk_at "pick")); (case g_117 => walk_at "got"))))
  · intro _ s O
    refine st_nil ?_
    exact st_ret O (a := rf r) (by walk_at "ev") fun v s hv O => by cases hv; exact h _ _ _ _ _ _ hT (by (((refine' Ow.got (Ow.back O ?p_118) ?g_118); (case p_118 => (walk_at "pick")); (case g_118 => walk_at "got"))))
theorem sp_text_in {c : Cx} {A : Around} {L : Addr} {m : FM} {Γ I : Led} {s : Shared} {Q E} {B : BA} {cr : Addr} {gs ge a : Nat} {xs text codes : List Int} {x pt zv tk ck : Int} {vs} (hA : Room 4 A) (hv : AVs [rf B.b, .i x, rf cr] vs) (hB : BI c B I)
    (O : Ow c L m (bL B gs ge xs pt zv tk ck Γ) I s) (hcr : In2 cr (isInts codes) Γ I) (hT : TX gs ge xs text) (hx : x = a + 1) (ha : a ≤ text.length) (hz : text.length ≤ 10000) (hk : codes.length ≤ 10000)
    (h : ∀ gs' ge' xs' pt' s', TX gs' ge' xs' (text.take a ++ codes ++ text.drop a) → Ow c L m (bL B gs' ge' xs' pt' (zv + codes.length) tk ck Γ) I s' → Q .none s') : wpAny c.M A (call (.ref 83) vs []) Q E s := by
  obtain ⟨g1, g2, g3, g4, g5, g6⟩ := id hB
  (((repeat (rename AVs (_ :: _) _ => hv0; cases hv0)); (repeat (rename AVs [] _ => hv0; cases hv0))))
  ((refine' call_fnZ hA O ?k6_120 ?k7_120 ?kb_120 ?k9_120 ?kM_120 ?kN_120 ?kB_120 ?c5_120 ?c2_120 ?c3_120 ?c4_120 ?_; (case k6_120 => k_is); (case k7_120 => k_is); (case kb_120 => (refine' zip_of ?pe_120 ?rest_120; (case pe_120 => conv => lhs; whnf); (case rest_120 => simp only [List.map, List.zip, List.zipWith]; rfl))); (case k9_120 => first | exact BindsTo.of_eq rfl | exact binds_K (Frag.In.keeps (Cx.kin _) (Ow.keep O)) rfl (by k_is) rfl rfl rfl); (case kM_120 => walk_at "mtb"); (case kN_120 => exact rfl); (case kB_120 => exact locs rfl); (case c5_120 => decide); (case c2_120 => exact rfl); (case c3_120 => exact rfl); (case c4_120 => exact rfl); intro L s hA O))
  refine st_ifF1 O (by walk_at "evb") (by rfl) fun s O => ?_
  refine st_expr ?_
  ((refine' cl_meth O ?o_121 ?x_121 ?d_121 ?m_121 ?k_121 ?n_121 ?a_121 ?_; (case o_121 => walk_at "ev"); (case x_121 => (walk_at "in2")); (case d_121 => (walk_at "in2")); (case m_121 => (walk_at "methF")); (case k_121 => (walk_at "keep")); (case n_121 => exact rfl); (case a_121 => walk_at "evl"); intro vs s hv O))
  rw [show x - 1 = a by lia] at hv
  refine sp_g_insert hA hv (by walk_at "inI") (by (((refine' Ow.got O ?g_122); (case g_122 => walk_at "got")))) (by walk_at "in2") hT hz hk ha fun gs ge xs s hT O => ?_
  ((refine' st_attr O ?v_123 ?o_123 ?x_123 ?d_123 ?c_123 ?z_123 ?_; (case v_123 => walk_at "ev"); (case o_123 => walk_at "ev"); (case x_123 => (walk_at "in2")); (case d_123 => (walk_at "put")); (case c_123 => (walk_at "setF")); (case z_123 => exact Nat.le_of_ble_eq_true rfl); intro s O))
  ((refine' st_if O ?t_124 ?_ ?_; (case t_124 => walk_at "evb")))
  · intro _ s O
    ((refine' st_attr O ?v_125 ?o_125 ?x_125 ?d_125 ?c_125 ?z_125 ?_; (case v_125 => walk_at "ev"); (case o_125 => walk_at "ev"); (case x_125 => (walk_at "in2")); (case d_125 => (walk_at "put")); (case c_125 => (walk_at "setF")); (case z_125 => exact Nat.le_of_ble_eq_true rfl); intro s O))
    exact st_nil (st_nil (h _ _ _ _ _ hT (by (((refine' Ow.got (Ow.back O ?p_126) ?g_126); (case p_126 => (walk_at "pick")); (case g_126 => walk_at "got"))))))
  · intro _ s O
    exact st_nil (st_nil (h _ _ _ _ _ hT (by (((refine' Ow.got (Ow.back O ?p_127) ?g_127); (case p_127 => (walk_at "pick")); (case g_127 => walk_at "got"))))))
theorem sp_put_in {c : Cx} {A : Around} {L : Addr} {m : FM} {Γ I : Led} {s : Shared} {Q E} {B : BA} {cr : Addr} {gs ge a : Nat} {xs text codes : List Int} {x pt zv tk ck : Int} {q : Bool} {vs} (hA : Room 5 A) (hv : AVs [rf B.b, .i x, rf cr, bo false, bo q] vs) (hB : BI c B I)
    (O : Ow c L m (bL B gs ge xs pt zv tk ck Γ) I s) (hcr : In2 cr (isInts codes) Γ I) (hT : TX gs ge xs text) (hx : x = a + 1) (ha : a ≤ text.length) (hzv : zv = text.length + 1) (hz : text.length ≤ 10000) (hk : codes.length ≤ 10000)
    (h : ∀ gs' ge' xs' pt' tk' ck' s', TX gs' ge' xs' (text.take a ++ codes ++ text.drop a) → Ow c L m (bL B gs' ge' xs' pt' (zv + codes.length) tk' ck' Γ) I s' → Q .none s') : wpAny c.M A (call (.ref 104) vs []) Q E s := by
  obtain ⟨g1, g2, g3, g4, g5, g6⟩ := id hB
  (((repeat (rename AVs (_ :: _) _ => hv0; cases hv0)); (repeat (rename AVs [] _ => hv0; cases hv0))))
  ((refine' call_fnZ hA O ?k6_129 ?k7_129 ?kb_129 ?k9_129 ?kM_129 ?kN_129 ?kB_129 ?c5_129 ?c2_129 ?c3_129 ?c4_129 ?_; (case k6_129 => k_is); (case k7_129 => k_is); (case kb_129 => (refine' zip_of ?pe_129 ?rest_129; (case pe_129 => conv => lhs; whnf); (case rest_129 => simp only [List.map, List.zip, List.zipWith]; rfl))); (case k9_129 => first | exact BindsTo.of_eq rfl | exact binds_K (Frag.In.keeps (Cx.kin _) (Ow.keep O)) rfl (by k_is) rfl rfl rfl); (case kM_129 => walk_at "mtb"); (case kN_129 => exact rfl); (case kB_129 => exact locs rfl); (case c5_129 => decide); (case c2_129 => exact rfl); (case c3_129 => exact rfl); (case c4_129 => exact rfl); intro L s hA O))
  refine st_expr ?_
  ((refine' cl_ref O ?f_130 ?k_130 ?a_130 ?_; (case f_130 => walk_at "name"); (case k_130 => (walk_at "keep")); (case a_130 => walk_at "evl"); intro vs s hv O))
  refine pu_writable (Room.le hA (by decide)) hv hB (by walk_at "in2") _ _ _ O fun _ s _ O => ?_
  refine st_expr ?_
  ((refine' cl_ref O ?f_131 ?k_131 ?a_131 ?_; (case f_131 => walk_at "name"); (case k_131 => (walk_at "keep")); (case a_131 => walk_at "evl"); intro vs s hv O))
  refine sp_reached (Room.le hA (by decide)) hv hB (by walk_at "in2") O (by lia) (by lia) (by lia) fun t s O => ?_
  ((refine' st_if O ?t_132 ?_ ?_; (case t_132 => walk_at "evb")))
  · intro hc s O
    have hc : codes = [] := by simpa using hc
    subst hc
    refine st_retNone ?_
    have e : text.take a ++ [] ++ text.drop a = text := by simp
    refine h gs ge xs pt tk ck _ (by rw [e]; exact hT) ?_
    rw [show zv + (([] : List Int).length : Int) = zv by simp]
    (((refine' Ow.got (Ow.back O ?p_133) ?g_133); (case p_133 => (walk_at "pick")); (case g_133 => walk_at "got")))
  intro hc s O
  refine st_nil ?_
  refine st_expr ?_
  ((refine' cl_ref O ?f_134 ?k_134 ?a_134 ?_; (case f_134 => walk_at "name"); (case k_134 => (walk_at "keep")); (case a_134 => walk_at "evl"); intro vs s hv O))
  refine pu_ahead (Room.le hA (by decide)) hv hB (by walk_at "in2") _ _ _ O fun _ s _ O => ?_
  refine st_expr ?_
  ((refine' cl_ref O ?f_135 ?k_135 ?a_135 ?_; (case f_135 => walk_at "name"); (case k_135 => (walk_at "keep")); (case a_135 => walk_at "evl"); intro vs s hv O))
  refine sp_text_in (codes := codes) hA hv hB (by (((refine' Ow.got O ?g_136); (case g_136 => walk_at "got")))) (by walk_at "in2") hT hx ha hz hk fun gs ge xs pt s hT O => ?_
  ((refine' st_if O ?t_137 ?_ ?_; (case t_137 => walk_at "evb")))
  · intro _ s O
    ((refine' st_attr O ?v_138 ?o_138 ?x_138 ?d_138 ?c_138 ?z_138 ?_; (case v_138 => walk_at "ev"); (case o_138 => walk_at "ev"); (case x_138 => (walk_at "in2")); (case d_138 => (walk_at "put")); (case c_138 => (walk_at "setF")); (case z_138 => exact Nat.le_of_ble_eq_true rfl); intro s O))
    have O := Ow.nB (B := B) O (by walk_at "got")
    refine st_nil ?_
    refine st_expr ?_
    ((refine' cl_meth O ?o_139 ?x_139 ?d_139 ?m_139 ?k_139 ?n_139 ?a_139 ?_; (case o_139 => walk_at "ev"); (case x_139 => (walk_at "in2")); (case d_139 => (walk_at "in2")); (case m_139 => (walk_at "methF")); (case k_139 => (walk_at "keep")); (case n_139 => exact rfl); (case a_139 => walk_at "evl"); intro vs s hv O))
    refine pu_inserted (Room.le hA (by decide)) hv hB _ _ _ O fun _ s _ O => ?_
    refine st_expr ?_
    ((refine' cl_ref O ?f_140 ?k_140 ?a_140 ?_; (case f_140 => walk_at "name"); (case k_140 => (walk_at "keep")); (case a_140 => walk_at "evl"); intro vs s hv O))
    refine pu_hungin (Room.le hA (by decide)) hv hB (by walk_at "in2") _ _ _ O fun _ s _ O => ?_
    refine st_expr ?_
    ((refine' cl_ref O ?f_141 ?k_141 ?a_141 ?_; (case f_141 => walk_at "name"); (case k_141 => (walk_at "keep")); (case a_141 => walk_at "evl"); intro vs s hv O))
    refine sp_behind (Room.le hA (by decide)) hv hB (by (((refine' Ow.got O ?g_142); (case g_142 => walk_at "got")))) fun s O => ?_
    exact st_nil (h _ _ _ _ _ _ _ hT (by (((refine' Ow.got (Ow.back O ?p_143) ?g_143); (case p_143 => (walk_at "pick")); (case g_143 => walk_at "got")))))
  · intro _ s O
    refine st_nil ?_
    refine st_expr ?_
    ((refine' cl_meth O ?o_144 ?x_144 ?d_144 ?m_144 ?k_144 ?n_144 ?a_144 ?_; (case o_144 => walk_at "ev"); (case x_144 => (walk_at "in2")); (case d_144 => (walk_at "in2")); (case m_144 => (walk_at "methF")); (case k_144 => (walk_at "keep")); (case n_144 => exact rfl); (case a_144 => walk_at "evl"); intro vs s hv O))
    refine pu_inserted (Room.le hA (by decide)) hv hB _ _ _ O fun _ s _ O => ?_
    refine st_expr ?_
    ((refine' cl_ref O ?f_145 ?k_145 ?a_145 ?_; (case f_145 => walk_at "name"); (case k_145 => (walk_at "keep")); (case a_145 => walk_at "evl"); intro vs s hv O))
    refine pu_hungin (Room.le hA (by decide)) hv hB (by walk_at "in2") _ _ _ O fun _ s _ O => ?_
    refine st_expr ?_
    ((refine' cl_ref O ?f_146 ?k_146 ?a_146 ?_; (case f_146 => walk_at "name"); (case k_146 => (walk_at "keep")); (case a_146 => walk_at "evl"); intro vs s hv O))
    refine sp_behind (Room.le hA (by decide)) hv hB (by (((refine' Ow.got O ?g_147); (case g_147 => walk_at "got")))) fun s O => ?_
    exact st_nil (h _ _ _ _ _ _ _ hT (by (((refine' Ow.got (Ow.back O ?p_148) ?g_148); (case p_148 => (walk_at "pick")); (case g_148 => walk_at "got")))))
theorem sp_insert_at {c : Cx} {A : Around} {L : Addr} {m : FM} {Γ I : Led} {s : Shared} {Q E} {B : BA} {cr : Addr} {gs ge a : Nat} {xs text codes : List Int} {x pt zv tk ck : Int} {vs} (hA : Room 6 A) (hv : AVs [rf B.b, .i x, rf cr] vs) (hB : BI c B I)
    (O : Ow c L m (bL B gs ge xs pt zv tk ck Γ) I s) (hcr : In2 cr (isInts codes) Γ I) (hT : TX gs ge xs text) (hx : x = a + 1) (ha : a ≤ text.length) (hzv : zv = text.length + 1) (hz : text.length ≤ 10000) (hk : codes.length ≤ 10000)
    (h : ∀ gs' ge' xs' pt' tk' ck' s', TX gs' ge' xs' (text.take a ++ codes ++ text.drop a) → Ow c L m (bL B gs' ge' xs' pt' (zv + codes.length) tk' ck' Γ) I s' → Q .none s') : wpAny c.M A (call (.ref 112) vs []) Q E s := by
  (((repeat (rename AVs (_ :: _) _ => hv0; cases hv0)); (repeat (rename AVs [] _ => hv0; cases hv0))))
  rename_i v1 _ v2 _ v3 _
  ((refine' call_fn (binds := [("buffer", v1), ("place", v2), ("codes", v3), ("before_markers", Value.bool false)]) hA O ?k6_150 ?k7_150 ?k9_150 ?kM_150 ?kN_150 ?kB_150 ?c5_150 ?c2_150 ?c3_150 ?c4_150 ?_; (case k6_150 => k_is); (case k7_150 => k_is); (case k9_150 => exact binds_K (Frag.In.keeps (Cx.kin _) (Ow.keep O)) rfl (by k_is) rfl rfl rfl); (case kM_150 => walk_at "mtb"); (case kN_150 => exact rfl); (case kB_150 => exact locs rfl); (case c5_150 => decide); (case c2_150 => exact rfl); (case c3_150 => exact rfl); (case c4_150 => exact rfl); intro L s hA O))
  refine st_expr ?_
  ((refine' cl_ref O ?f_151 ?k_151 ?a_151 ?_; (case f_151 => walk_at "name"); (case k_151 => (walk_at "keep")); (case a_151 => walk_at "evl"); intro vs s hv O))
  refine sp_put_in hA hv hB (by (((refine' Ow.got O ?g_152); (case g_152 => walk_at "got")))) (by walk_at "in2") hT hx ha hzv hz hk fun gs ge xs pt tk ck s hT O => ?_
  exact st_nil (h _ _ _ _ _ _ _ hT (by (((refine' Ow.got (Ow.back O ?p_153) ?g_153); (case p_153 => (walk_at "pick")); (case g_153 => walk_at "got")))))
/-- insert(buffer, codes), at point -/
theorem sp_insert {c : Cx} {A : Around} {L : Addr} {m : FM} {Γ I : Led} {s : Shared} {Q E} {B : BA} {cr : Addr} {gs ge a : Nat} {xs text codes : List Int} {pt zv tk ck : Int} {vs} (hA : Room 6 A) (hv : AVs [rf B.b, rf cr] vs) (hB : BI c B I)
    (O : Ow c L m (bL B gs ge xs pt zv tk ck Γ) I s) (hcr : In2 cr (isInts codes) Γ I) (hT : TX gs ge xs text) (hx : pt = a + 1) (ha : a ≤ text.length) (hzv : zv = text.length + 1) (hz : text.length ≤ 10000) (hk : codes.length ≤ 10000)
    (h : ∀ gs' ge' xs' pt' tk' ck' s', TX gs' ge' xs' (text.take a ++ codes ++ text.drop a) → Ow c L m (bL B gs' ge' xs' pt' (zv + codes.length) tk' ck' Γ) I s' → Q .none s') : wpAny c.M A (call (.ref 120) vs []) Q E s := by
  obtain ⟨g1, g2, g3, g4, g5, g6⟩ := id hB
  (((repeat (rename AVs (_ :: _) _ => hv0; cases hv0)); (repeat (rename AVs [] _ => hv0; cases hv0))))
  rename_i v1 _ v2 _
  ((refine' call_fn (binds := [("buffer", v1), ("codes", v2), ("before_markers", Value.bool false)]) hA O ?k6_155 ?k7_155 ?k9_155 ?kM_155 ?kN_155 ?kB_155 ?c5_155 ?c2_155 ?c3_155 ?c4_155 ?_; (case k6_155 => k_is); (case k7_155 => k_is); (case k9_155 => exact binds_K (Frag.In.keeps (Cx.kin _) (Ow.keep O)) rfl (by k_is) rfl rfl rfl); (case kM_155 => walk_at "mtb"); (case kN_155 => exact rfl); (case kB_155 => exact locs rfl); (case c5_155 => decide); (case c2_155 => exact rfl); (case c3_155 => exact rfl); (case c4_155 => exact rfl); intro L s hA O))
  refine st_expr ?_
  ((refine' cl_ref O ?f_156 ?k_156 ?a_156 ?_; (case f_156 => walk_at "name"); (case k_156 => (walk_at "keep")); (case a_156 => walk_at "evl"); intro vs s hv O))
  refine sp_put_in hA hv hB (by (((refine' Ow.got O ?g_157); (case g_157 => walk_at "got")))) (by walk_at "in2") hT hx ha hzv hz hk fun gs ge xs pt tk ck s hT O => ?_
  exact st_nil (h _ _ _ _ _ _ _ hT (by (((refine' Ow.got (Ow.back O ?p_158) ?g_158); (case p_158 => (walk_at "pick")); (case g_158 => walk_at "got")))))
theorem sp_e_delete {c : Cx} {A : Around} {L : Addr} {m : FM} {Γ I : Led} {s : Shared} {Q E} {B : BA} {gs ge a b : Nat} {xs text : List Int} {x y pt zv tk ck : Int} {vs} (hA : Room 6 A) (hv : AVs [rf B.b, .i x, .i y] vs) (hB : BI c B I)
    (O : Ow c L m (bL B gs ge xs pt zv tk ck Γ) I s) (hT : TX gs ge xs text) (hx : x = a + 1) (hy : y = b + 1) (hab : a < b) (hb : b ≤ text.length) (hzv : zv = text.length + 1)
    (h : ∀ v gs' ge' xs' pt' tk' ck' s', TX gs' ge' xs' (text.take a ++ text.drop b) → Ow c L m (bL B gs' ge' xs' pt' (zv - (y - x)) tk' ck' Γ) I s' → Q v s') : wpAny c.M A (call (.ref 127) vs []) Q E s := by
  obtain ⟨g1, g2, g3, g4, g5, g6⟩ := id hB
  (((repeat (rename AVs (_ :: _) _ => hv0; cases hv0)); (repeat (rename AVs [] _ => hv0; cases hv0))))
  ((refine' call_fnZ hA O ?k6_160 ?k7_160 ?kb_160 ?k9_160 ?kM_160 ?kN_160 ?kB_160 ?c5_160 ?c2_160 ?c3_160 ?c4_160 ?_; (case k6_160 => k_is); (case k7_160 => k_is); (case kb_160 => (refine' zip_of ?pe_160 ?rest_160; (case pe_160 => conv => lhs; whnf); (case rest_160 => simp only [List.map, List.zip, List.zipWith]; rfl))); (case k9_160 => first | exact BindsTo.of_eq rfl | exact binds_K (Frag.In.keeps (Cx.kin _) (Ow.keep O)) rfl (by k_is) rfl rfl rfl); (case kM_160 => walk_at "mtb"); (case kN_160 => exact rfl); (case kB_160 => exact locs rfl); (case c5_160 => decide); (case c2_160 => exact rfl); (case c3_160 => exact rfl); (case c4_160 => exact rfl); intro L s hA O))
  refine st_expr ?_
  ((refine' cl_ref O ?f_161 ?k_161 ?a_161 ?_; (case f_161 => walk_at "name"); (case k_161 => (walk_at "keep")); (case a_161 => walk_at "evl"); intro vs s hv O))
  refine pu_writable (Room.le hA (by decide)) hv hB (by walk_at "in2") _ _ _ O fun _ s _ O => ?_
  refine ut_tup2 hA.handled ?_
  ((refine' cl_ref O ?f_162 ?k_162 ?a_162 ?_; (case f_162 => walk_at "name"); (case k_162 => (walk_at "keep")); (case a_162 => walk_at "evl"); intro vs s hv O))
  refine sp_reached (Room.le hA (by decide)) hv hB (by walk_at "in2") O (by lia) (by lia) (by lia) fun t s O => ⟨t, _, _, _, _, _, rfl, O, by walk_at "in2", fun s O => ?_⟩
  refine st_ifF1 O (by walk_at "evb") (by simp; lia) fun s O => ?_
  refine st_expr ?_
  ((refine' cl_ref O ?f_163 ?k_163 ?a_163 ?_; (case f_163 => walk_at "name"); (case k_163 => (walk_at "keep")); (case a_163 => walk_at "evl"); intro vs s hv O))
  refine pu_ahead (Room.le hA (by decide)) hv hB (by walk_at "in2") _ _ _ O fun _ s _ O => ?_
  refine st_letc ?_
  ((refine' cl_ref O ?f_164 ?k_164 ?a_164 ?_; (case f_164 => walk_at "name"); (case k_164 => (walk_at "keep")); (case a_164 => walk_at "evl"); intro vs s hv O))
  refine sp_text_out (Room.le hA (by decide)) hv hB (by (((refine' Ow.got O ?g_165); (case g_165 => walk_at "got")))) hT hx hy (by lia) hb fun r gs ge xs pt s hT O => ?_
  refine st_store (a := rf r) O rfl fun s O => ?_
  refine st_expr ?_
  ((refine' cl_meth O ?o_166 ?x_166 ?d_166 ?m_166 ?k_166 ?n_166 ?a_166 ?_; (case o_166 => walk_at "ev"); (case x_166 => (walk_at "in2")); (case d_166 => (walk_at "in2")); (case m_166 => (walk_at "methF")); (case k_166 => (walk_at "keep")); (case n_166 => exact rfl); (case a_166 => walk_at "evl"); intro vs s hv O))
  refine pu_deleted (Room.le hA (by decide)) hv hB _ _ _ O fun _ s _ O => ?_
  refine st_expr ?_
  ((refine' cl_ref O ?f_167 ?k_167 ?a_167 ?_; (case f_167 => walk_at "name"); (case k_167 => (walk_at "keep")); (case a_167 => walk_at "evl"); intro vs s hv O))
  refine pu_hungout (Room.le hA (by decide)) hv hB (by walk_at "in2") _ _ _ O fun _ s _ O => ?_
  refine st_expr ?_
  ((refine' cl_ref O ?f_168 ?k_168 ?a_168 ?_; (case f_168 => walk_at "name"); (case k_168 => (walk_at "keep")); (case a_168 => walk_at "evl"); intro vs s hv O))
  refine sp_behind (Room.le hA (by decide)) hv hB (by (((refine' Ow.got O ?g_169); (case g_169 => walk_at "got")))) fun s O => ?_
  exact st_ret O (a := rf r) (by walk_at "ev") fun v s hv O => h _ _ _ _ _ _ _ _ hT (by (((refine' Ow.got (Ow.back O ?p_170) ?g_170); (case p_170 => (walk_at "pick")); (case g_170 => walk_at "got"))))
theorem sp_replace {c : Cx} {A : Around} {L : Addr} {m : FM} {Γ I : Led} {s : Shared} {Q E} {B : BA} {cr : Addr} {gs ge a b : Nat} {xs text codes : List Int} {x y pt zv tk ck : Int} {vs} (hA : Room 7 A) (hv : AVs [rf B.b, .i x, .i y, rf cr] vs) (hB : BI c B I)
    (O : Ow c L m (bL B gs ge xs pt zv tk ck Γ) I s) (hcr : In2 cr (isInts codes) Γ I) (hT : TX gs ge xs text) (hx : x = a + 1) (hy : y = b + 1) (hab : a ≤ b) (hb : b ≤ text.length) (hzv : zv = text.length + 1) (hz : text.length ≤ 10000) (hk : codes.length ≤ 10000)
    (h : ∀ v gs' ge' xs' pt' tk' ck' s', TX gs' ge' xs' (text.take a ++ codes ++ text.drop b) → Ow c L m (bL B gs' ge' xs' pt' (zv - (y - x) + codes.length) tk' ck' Γ) I s' → Q v s') : wpAny c.M A (call (.ref 134) vs []) Q E s := by
  obtain ⟨g1, g2, g3, g4, g5, g6⟩ := id hB
  (((repeat (rename AVs (_ :: _) _ => hv0; cases hv0)); (repeat (rename AVs [] _ => hv0; cases hv0))))
  ((refine' call_fnZ hA O ?k6_172 ?k7_172 ?kb_172 ?k9_172 ?kM_172 ?kN_172 ?kB_172 ?c5_172 ?c2_172 ?c3_172 ?c4_172 ?_; (case k6_172 => k_is); (case k7_172 => k_is); (case kb_172 => (refine' zip_of ?pe_172 ?rest_172; (case pe_172 => conv => lhs; whnf); (case rest_172 => simp only [List.map, List.zip, List.zipWith]; rfl))); (case k9_172 => first | exact BindsTo.of_eq rfl | exact binds_K (Frag.In.keeps (Cx.kin _) (Ow.keep O)) rfl (by k_is) rfl rfl rfl); (case kM_172 => walk_at "mtb"); (case kN_172 => exact rfl); (case kB_172 => exact locs rfl); (case c5_172 => decide); (case c2_172 => exact rfl); (case c3_172 => exact rfl); (case c4_172 => exact rfl); intro L s hA O))
  refine st_expr ?_
  ((refine' cl_ref O ?f_173 ?k_173 ?a_173 ?_; (case f_173 => walk_at "name"); (case k_173 => (walk_at "keep")); (case a_173 => walk_at "evl"); intro vs s hv O))
  refine pu_writable (Room.le hA (by decide)) hv hB (by walk_at "in2") _ _ _ O fun _ s _ O => ?_
  refine ut_tup2 hA.handled ?_
  ((refine' cl_ref O ?f_174 ?k_174 ?a_174 ?_; (case f_174 => walk_at "name"); (case k_174 => (walk_at "keep")); (case a_174 => walk_at "evl"); intro vs s hv O))
  refine sp_reached (Room.le hA (by decide)) hv hB (by walk_at "in2") O (by lia) (by lia) (by lia) fun t s O => ⟨t, _, _, _, _, _, rfl, O, by walk_at "in2", fun s O => ?_⟩
  ((refine' st_if O ?t_175 ?_ ?_; (case t_175 => walk_at "evb")))
  · intro hc s O
    have hc : x = y := by simpa using hc
    have hab : a = b := by lia
    subst hab
    refine st_expr ?_
    ((refine' cl_ref O ?f_176 ?k_176 ?a_176 ?_; (case f_176 => walk_at "name"); (case k_176 => (walk_at "keep")); (case a_176 => walk_at "evl"); intro vs s hv O))
    refine sp_insert_at (codes := codes) hA hv hB (by (((refine' Ow.got O ?g_177); (case g_177 => walk_at "got")))) (by walk_at "in2") hT hx hb hzv hz hk fun gs ge xs pt tk ck s hT O => ?_
    have e2 : zv + (codes.length : Int) = zv - (y - x) + codes.length := by lia
    rw [e2] at O
    exact st_retc (cn_display AV.i (xs := []) O pl_nil (by decide) fun r s O => h _ _ _ _ _ _ _ _ hT (by (((refine' Ow.got (Ow.back O ?p_178) ?g_178); (case p_178 => (walk_at "pick")); (case g_178 => walk_at "got")))))
  intro hc s O
  have hc : x ≠ y := by simpa using hc
  refine st_nil ?_
  ((refine' st_if O ?t_179 ?_ ?_; (case t_179 => walk_at "evb")))
  · intro hk0 s O
    have hk0 : codes = [] := by simpa using hk0
    subst hk0
    refine st_retc ?_
    ((refine' cl_ref O ?f_180 ?k_180 ?a_180 ?_; (case f_180 => walk_at "name"); (case k_180 => (walk_at "keep")); (case a_180 => walk_at "evl"); intro vs s hv O))
    refine sp_e_delete hA hv hB (by (((refine' Ow.got O ?g_181); (case g_181 => walk_at "got")))) hT hx hy (by lia) hb hzv fun v gs ge xs pt tk ck s hT O => ?_
    refine h v gs ge xs pt tk ck _ (by simpa using hT) ?_
    rw [show zv - (y - x) + (([] : List Int).length : Int) = zv - (y - x) by simp]
    (((refine' Ow.got (Ow.back O ?p_182) ?g_182); (case p_182 => (walk_at "pick")); (case g_182 => walk_at "got")))
  intro hk0 s O
  refine st_nil ?_
  ((refine' st_let O ?e_183 ?_; (case e_183 => walk_at "ev"); intro s O))
  refine st_expr ?_
  ((refine' cl_ref O ?f_184 ?k_184 ?a_184 ?_; (case f_184 => walk_at "name"); (case k_184 => (walk_at "keep")); (case a_184 => walk_at "evl"); intro vs s hv O))
  refine pu_ahead (Room.le hA (by decide)) hv hB (by walk_at "in2") _ _ _ O fun _ s _ O => ?_
  refine st_letc ?_
  ((refine' cl_ref O ?f_185 ?k_185 ?a_185 ?_; (case f_185 => walk_at "name"); (case k_185 => (walk_at "keep")); (case a_185 => walk_at "evl"); intro vs s hv O))
  refine sp_text_out (Room.le hA (by decide)) hv hB (by (((refine' Ow.got O ?g_186); (case g_186 => walk_at "got")))) hT hx hy (by lia) hb fun r gs ge xs pt' s hT O => ?_
  refine st_store (a := rf r) O rfl fun s O => ?_
  refine st_expr ?_
  ((refine' cl_ref O ?f_187 ?k_187 ?a_187 ?_; (case f_187 => walk_at "name"); (case k_187 => (walk_at "keep")); (case a_187 => walk_at "evl"); intro vs s hv O))
  have hla : (text.take a).length = a := by rw [List.length_take]; lia
  have hl1 : (text.take a ++ text.drop b).length ≤ 10000 := by rw [List.length_append, hla, List.length_drop]; lia
  refine sp_text_in (codes := codes) (Room.le hA (by decide)) hv hB (by (((refine' Ow.got O ?g_188); (case g_188 => walk_at "got")))) (by walk_at "in2") hT hx (by rw [List.length_append, hla]; lia) hl1 hk fun gs ge xs pt2 s hT O => ?_
  have e1 : (text.take a ++ text.drop b).take a ++ codes ++ (text.take a ++ text.drop b).drop a = text.take a ++ codes ++ text.drop b := by
    rw [List.take_append_of_le_length (by lia), List.take_take, Nat.min_self, List.drop_append, hla, Nat.sub_self, List.drop_zero, List.drop_eq_nil_of_le (as := text.take a) (by lia), List.nil_append]
  rw [e1] at hT
  ((refine' st_if O ?t_189 ?_ ?_; (case t_189 => walk_at "evb")))
  · intro _ s O
    ((refine' st_attr O ?v_190 ?o_190 ?x_190 ?d_190 ?c_190 ?z_190 ?_; (case v_190 => walk_at "ev"); (case o_190 => walk_at "ev"); (case x_190 => (walk_at "in2")); (case d_190 => (walk_at "put")); (case c_190 => (walk_at "setF")); (case z_190 => exact Nat.le_of_ble_eq_true rfl); intro s O))
    have O := Ow.nB (B := B) O (by walk_at "got")
    refine st_nil ?_
    refine st_expr ?_
    ((refine' cl_meth O ?o_191 ?x_191 ?d_191 ?m_191 ?k_191 ?n_191 ?a_191 ?_; (case o_191 => walk_at "ev"); (case x_191 => (walk_at "in2")); (case d_191 => (walk_at "in2")); (case m_191 => (walk_at "methF")); (case k_191 => (walk_at "keep")); (case n_191 => exact rfl); (case a_191 => walk_at "evl"); intro vs s hv O))
    refine pu_replaced (Room.le hA (by decide)) hv hB _ _ _ O fun _ s _ O => ?_
    refine st_expr ?_
    ((refine' cl_ref O ?f_192 ?k_192 ?a_192 ?_; (case f_192 => walk_at "name"); (case k_192 => (walk_at "keep")); (case a_192 => walk_at "evl"); intro vs s hv O))
    refine pu_hungout (Room.le hA (by decide)) hv hB (by walk_at "in2") _ _ _ O fun _ s _ O => ?_
    refine st_expr ?_
    ((refine' cl_ref O ?f_193 ?k_193 ?a_193 ?_; (case f_193 => walk_at "name"); (case k_193 => (walk_at "keep")); (case a_193 => walk_at "evl"); intro vs s hv O))
    refine pu_hungin (Room.le hA (by decide)) hv hB (by walk_at "in2") _ _ _ O fun _ s _ O => ?_
    refine st_expr ?_
    ((refine' cl_ref O ?f_194 ?k_194 ?a_194 ?_; (case f_194 => walk_at "name"); (case k_194 => (walk_at "keep")); (case a_194 => walk_at "evl"); intro vs s hv O))
    refine sp_behind (Room.le hA (by decide)) hv hB (by (((refine' Ow.got O ?g_195); (case g_195 => walk_at "got")))) fun s O => ?_
    exact st_ret O (a := rf r) (by walk_at "ev") fun v s hv O => h _ _ _ _ _ _ _ _ hT (by (((refine' Ow.got (Ow.back O ?p_196) ?g_196); (case p_196 => (walk_at "pick")); (case g_196 => walk_at "got"))))
  · intro _ s O
    refine st_nil ?_
    refine st_expr ?_
    ((refine' cl_meth O ?o_197 ?x_197 ?d_197 ?m_197 ?k_197 ?n_197 ?a_197 ?_; (case o_197 => walk_at "ev"); (case x_197 => (walk_at "in2")); (case d_197 => (walk_at "in2")); (case m_197 => (walk_at "methF")); (case k_197 => (walk_at "keep")); (case n_197 => exact rfl); (case a_197 => walk_at "evl"); intro vs s hv O))
    refine pu_replaced (Room.le hA (by decide)) hv hB _ _ _ O fun _ s _ O => ?_
    refine st_expr ?_
    ((refine' cl_ref O ?f_198 ?k_198 ?a_198 ?_; (case f_198 => walk_at "name"); (case k_198 => (walk_at "keep")); (case a_198 => walk_at "evl"); intro vs s hv O))
    refine pu_hungout (Room.le hA (by decide)) hv hB (by walk_at "in2") _ _ _ O fun _ s _ O => ?_
    refine st_expr ?_
    ((refine' cl_ref O ?f_199 ?k_199 ?a_199 ?_; (case f_199 => walk_at "name"); (case k_199 => (walk_at "keep")); (case a_199 => walk_at "evl"); intro vs s hv O))
    refine pu_hungin (Room.le hA (by decide)) hv hB (by walk_at "in2") _ _ _ O fun _ s _ O => ?_
    refine st_expr ?_
    ((refine' cl_ref O ?f_200 ?k_200 ?a_200 ?_; (case f_200 => walk_at "name"); (case k_200 => (walk_at "keep")); (case a_200 => walk_at "evl"); intro vs s hv O))
    refine sp_behind (Room.le hA (by decide)) hv hB (by (((refine' Ow.got O ?g_201); (case g_201 => walk_at "got")))) fun s O => ?_
    exact st_ret O (a := rf r) (by walk_at "ev") fun v s hv O => h _ _ _ _ _ _ _ _ hT (by (((refine' Ow.got (Ow.back O ?p_202) ?g_202); (case p_202 => (walk_at "pick")); (case g_202 => walk_at "got"))))
noncomputable def FS (m r : FM) : Prop := ∀ x a, gl r x = some a → gl m x = some a
theorem FS.refl {m : FM} : FS m m := fun _ _ h => h
theorem FS.trans {a b d : FM} (h : FS a b) (h' : FS b d) : FS a d := fun x v e => h x v (h' x v e)
theorem FS.sl {m r : FM} (h : FS m r) {x a} : FS (sl m x a) (sl r x a) := fun y b e => by
  rw [gl_sl] at e ⊢
  by_cases hy : y = x
  · rw [if_pos hy] at e ⊢; exact e
  · rw [if_neg hy] at e ⊢; exact h y b e
theorem FS.of {m r : FM} (h : FSub m r) : FS m r := fun _ _ e => h.gl e
theorem Ow.fs {c : Cx} {L : Addr} {m m' : FM} {Γ I : Led} {s : Shared} (O : Ow c L m Γ I s) (h : FS m m') : Ow c L m' Γ I s :=
  ⟨O.gens, O.os, let ⟨q, F, M⟩ := O.fr; ⟨q, F, fun x a e => M x a (h x a e)⟩, O.has, O.hasI, O.nd, O.ap⟩

theorem pb_chain {c : Cx} {A : Around} {env : Env} {m : FM} {Γ I : Led} {pos : Pos} {l r r' : Expr} {a b d : Int} (hl : PE c A env m Γ I l (.i a)) (hr : PE c A env m Γ I r (.i b)) (hr' : PE c A env m Γ I r' (.i d))
    (hm : lastMarks [.LtE, .LtE] [r, r'] = false := by with_unfolding_all rfl) : PB c A env m Γ I (.Compare l [.LtE, .LtE] [r, r'] pos) (decide (a ≤ b) && decide (b ≤ d)) := fun _ _ _ O k =>
  isTrue_chain (hl _ _ _ O fun v s₁ hv O₁ => test_link (hr _ _ _ O₁ fun u s₂ hu O₂ => cm_le v u hv hu _ _ _ O₂ fun w s₃ hw O₃ => by
    subst hw
    refine wpAny_truthy_bool ?_
    by_cases hab : a ≤ b
    · simp only [decide_eq_true hab, if_true, Bool.true_and] at k ⊢
      exact test_last (hr' _ _ _ O₃ fun v' s₄ hv' O₄ => cm_le u v' hu hv' _ _ _ O₄ fun w' s₅ hw' O₅ => by subst hw'; exact wpAny_truthy_bool (k _ _ rfl O₅))
    · simp only [decide_eq_false hab, Bool.false_eq_true, if_false, Bool.false_and] at k ⊢
      exact k _ _ rfl O₃)) hm

/-- what the law's own lower-casing makes of a sign -/
noncomputable def sm (fo : Bool) (a : Int) : Int := if fo = true ∧ 65 ≤ a ∧ a ≤ 90 then a + 32 else a
theorem pu_downcase {c : Cx} {A : Around} {L : Addr} {m : FM} {Γ I : Led} {a : Int} {vs} (hA : Room 1 A) (hv : AVs [.i a] vs) (ha : a < 192) : Pu c A L m Γ I (call (.ref 574) vs []) (AV.i (sm true a)).is := by
  intro Q E s O h
  (((repeat (rename AVs (_ :: _) _ => hv0; cases hv0)); (repeat (rename AVs [] _ => hv0; cases hv0))))
  ((refine' call_fnZ hA O ?k6_204 ?k7_204 ?kb_204 ?k9_204 ?kM_204 ?kN_204 ?kB_204 ?c5_204 ?c2_204 ?c3_204 ?c4_204 ?_; (case k6_204 => k_is); (case k7_204 => k_is); (case kb_204 => (refine' zip_of ?pe_204 ?rest_204; (case pe_204 => conv => lhs; whnf); (case rest_204 => simp only [List.map, List.zip, List.zipWith]; rfl))); (case k9_204 => first | exact BindsTo.of_eq rfl | exact binds_K (Frag.In.keeps (Cx.kin _) (Ow.keep O)) rfl (by k_is) rfl rfl rfl); (case kM_204 => walk_at "mtb"); (case kN_204 => exact rfl); (case kB_204 => exact locs rfl); (case c5_204 => decide); (case c2_204 => exact rfl); (case c3_204 => exact rfl); (case c4_204 => exact rfl); intro L s hA O))
  refine st_if (b := decide (65 ≤ a) && decide (a ≤ 90)) O ?_ ?_ ?_
  · have e : (decide (65 ≤ a) && decide (a ≤ 90)) = ((decide (65 ≤ a) && decide (a ≤ 90)) || ((decide (192 ≤ a) && decide (a ≤ 222)) && !decide (a = 215))) := by simp; lia
    rw [e]
    refine pb_or (pb_chain (by walk_at "ev") (by walk_at "ev") (by walk_at "ev")) fun _ => pb_and (pb_chain (by walk_at "ev") (by walk_at "ev") (by walk_at "ev")) fun _ => ?_
    walk_at "evb"
  · intro hb s O
    simp at hb
    have e : sm true a = a + 32 := by unfold sm; rw [if_pos ⟨rfl, hb⟩]
    rw [e] at h
    exact st_ret O (by walk_at "ev") fun v s hv O => h _ _ hv (by (((refine' Ow.got (Ow.back O ?p_205) ?g_205); (case p_205 => (walk_at "pick")); (case g_205 => walk_at "got"))))
  · intro hb s O
    have hb : ¬ (65 ≤ a ∧ a ≤ 90) := by simpa using hb
    have e : sm true a = a := by unfold sm; rw [if_neg (fun h => hb h.2)]
    rw [e] at h
    exact st_nil (st_ret O (by walk_at "ev") fun v s hv O => h _ _ hv (by (((refine' Ow.got (Ow.back O ?p_206) ?g_206); (case p_206 => (walk_at "pick")); (case g_206 => walk_at "got")))))
theorem pu_fold {c : Cx} {A : Around} {L : Addr} {m : FM} {Γ I : Led} {a : Int} {vs} (hA : Room 2 A) (hv : AVs [.i a] vs) (ha : a < 192) : Pu c A L m Γ I (call (.ref 581) vs []) (AV.i (sm true a)).is := by
  intro Q E s O h
  (((repeat (rename AVs (_ :: _) _ => hv0; cases hv0)); (repeat (rename AVs [] _ => hv0; cases hv0))))
  ((refine' call_fnZ hA O ?k6_208 ?k7_208 ?kb_208 ?k9_208 ?kM_208 ?kN_208 ?kB_208 ?c5_208 ?c2_208 ?c3_208 ?c4_208 ?_; (case k6_208 => k_is); (case k7_208 => k_is); (case kb_208 => (refine' zip_of ?pe_208 ?rest_208; (case pe_208 => conv => lhs; whnf); (case rest_208 => simp only [List.map, List.zip, List.zipWith]; rfl))); (case k9_208 => first | exact BindsTo.of_eq rfl | exact binds_K (Frag.In.keeps (Cx.kin _) (Ow.keep O)) rfl (by k_is) rfl rfl rfl); (case kM_208 => walk_at "mtb"); (case kN_208 => exact rfl); (case kB_208 => exact locs rfl); (case c5_208 => decide); (case c2_208 => exact rfl); (case c3_208 => exact rfl); (case c4_208 => exact rfl); intro L s hA O))
  refine st_retc ?_
  ((refine' cl_ref O ?f_209 ?k_209 ?a_209 ?_; (case f_209 => walk_at "name"); (case k_209 => (walk_at "keep")); (case a_209 => walk_at "evl"); intro vs s hv O))
  exact pu_downcase hA hv ha _ _ _ O fun v s hv O => h _ _ hv (by (((refine' Ow.got (Ow.back O ?p_210) ?g_210); (case p_210 => (walk_at "pick")); (case g_210 => walk_at "got"))))
/-- the finder's own objects -/
structure LI (I : Led) (f df cr : Addr) (old : List Int) (fo : Bool) : Prop where
  f : (f, isI 612 df) ∈ I
  d : (df, isF [("codes", rf cr), ("is_folded", bo fo)]) ∈ I
  c : (cr, isInts old) ∈ I
theorem LI.sb {I I' f df cr old fo} (h : LI I f df cr old fo) (hs : Sb I I') : LI I' f df cr old fo := ⟨hs _ h.f, hs _ h.d, hs _ h.c⟩
noncomputable def matchAt (fo : Bool) (old text : List Int) (p : Nat) : Bool := decide ((part text p (p + old.length)).map (sm fo) = old.map (sm fo))
theorem matchAt_iff {fo : Bool} {old text : List Int} {p : Nat} (hp : p + old.length ≤ text.length) : matchAt fo old text p = true ↔ ∀ i, i < old.length → sm fo (text.getD (p + i) 0) = sm fo (old.getD i 0) := by
  unfold matchAt part
  rw [decide_eq_true_iff]
  have hl : ((text.drop p).take (p + old.length - p)).length = old.length := by rw [List.length_take, List.length_drop]; lia
  constructor
  · intro h i hi
    have := congrArg (fun l => l[i]?) h
    simp only [List.getElem?_map] at this
    rw [List.getElem?_take_of_lt (by lia), List.getElem?_drop, List.getElem?_eq_getElem (by lia), List.getElem?_eq_getElem hi] at this
    simp only [Option.map_some, Option.some.injEq] at this
    rw [List.getD_eq_getElem?_getD, List.getElem?_eq_getElem (by lia), List.getD_eq_getElem?_getD, List.getElem?_eq_getElem hi]
    exact this
  · intro h
    apply List.ext_getElem?
    intro i
    by_cases hi : i < old.length
    · have := h i hi
      rw [List.getD_eq_getElem?_getD, List.getElem?_eq_getElem (by lia), List.getD_eq_getElem?_getD, List.getElem?_eq_getElem hi] at this
      rw [List.getElem?_map, List.getElem?_map, List.getElem?_take_of_lt (by lia), List.getElem?_drop, List.getElem?_eq_getElem (by lia), List.getElem?_eq_getElem hi]
      simpa using this
    · rw [List.getElem?_eq_none (by rw [List.length_map, hl]; lia), List.getElem?_eq_none (by rw [List.length_map]; lia)]
/-- the sign test of Literal.fits -/
theorem sign_eq (fo : Bool) (a b : Int) : ((!decide (a = b)) && !(fo && decide (sm true a = sm true b))) = !decide (sm fo a = sm fo b) := by
  by_cases h : a = b
  · subst h; simp
  · cases fo
    · have e1 : sm false a = a := by simp [sm]
      have e2 : sm false b = b := by simp [sm]
      simp [h, e1, e2]
    · simp only [Bool.true_and]
      by_cases h2 : sm true a = sm true b
      · simp [h2]
      · simp [h, h2]
theorem pu_fits {c : Cx} {A : Around} {L : Addr} {m : FM} {Γ I : Led} {B : BA} {f df cr : Addr} {old : List Int} {fo : Bool} {gs ge p : Nat} {xs text : List Int} {x pt zv tk ck : Int} {vs} (hA : Room 4 A) (hv : AVs [rf f, rf B.b, .i x] vs) (hB : BI c B I) (hF : LI I f df cr old fo)
    (h1 : In2 B.db (isB B pt zv tk ck) Γ I) (h2 : In2 B.dt (isG B.cl gs ge) Γ I) (h3 : In2 B.cl (isInts xs) Γ I) (hT : TX gs ge xs text) (hx : x = p + 1) (hz : zv = text.length + 1) (hp : p + old.length ≤ text.length) (hs : ∀ k ∈ text, k < 192) (hs' : ∀ k ∈ old, k < 192) (hl : old.length ≤ 1000) :
    Pu c A L m Γ I (call (.ref 602) vs []) (bo (matchAt fo old text p)).is := by
  intro Q E s O h
  obtain ⟨g1, g2, g3, g4, g5, g6⟩ := id hB
  obtain ⟨f1, f2, f3⟩ := id hF
  (((repeat (rename AVs (_ :: _) _ => hv0; cases hv0)); (repeat (rename AVs [] _ => hv0; cases hv0))))
  ((refine' call_fnZ hA O ?k6_212 ?k7_212 ?kb_212 ?k9_212 ?kM_212 ?kN_212 ?kB_212 ?c5_212 ?c2_212 ?c3_212 ?c4_212 ?_; (case k6_212 => k_is); (case k7_212 => k_is); (case kb_212 => (refine' zip_of ?pe_212 ?rest_212; (case pe_212 => conv => lhs; whnf); (case rest_212 => simp only [List.map, List.zip, List.zipWith]; rfl))); (case k9_212 => first | exact BindsTo.of_eq rfl | exact binds_K (Frag.In.keeps (Cx.kin _) (Ow.keep O)) rfl (by k_is) rfl rfl rfl); (case kM_212 => walk_at "mtb"); (case kN_212 => exact rfl); (case kB_212 => exact locs rfl); (case c5_212 => decide); (case c2_212 => exact rfl); (case c3_212 => exact rfl); (case c4_212 => exact rfl); intro L s hA O))
  refine st_forR1 hA.handled O (by walk_at "name") (by walk_at "ev") (by lia) (fun i m' Γ' I' => FS m' [("self", rf f), ("buffer", rf B.b), ("place", .i x)] ∧ Γ' = _ ∧ I' = _ ∧ ∀ j, j < i → sm fo (text.getD (p + j) 0) = sm fo (old.getD j 0)) ⟨FS.refl, rfl, rfl, fun j hj => absurd hj (Nat.not_lt_zero _)⟩ ?_ ?_
  · rintro it i m' Γ' I' s hi ⟨hfs, rfl, rfl, hj⟩ O
    have hi : i < old.length := by lia
    have O := O.fs hfs.sl
    simp only [RIt, List.cons_append, List.nil_append] at O
    have hk1 : text[p + i]? = some (text.getD (p + i) 0) := by rw [List.getD_eq_getElem?_getD, List.getElem?_eq_getElem (by lia)]; rfl
    have hk2 : old[i]? = some (old.getD i 0) := by rw [List.getD_eq_getElem?_getD, List.getElem?_eq_getElem hi]; rfl
    have hm1 := hs _ (List.mem_of_getElem? hk1)
    have hm2 := hs' _ (List.mem_of_getElem? hk2)
    refine st_letc ?_
    ((refine' cl_meth O ?o_213 ?x_213 ?d_213 ?m_213 ?k_213 ?n_213 ?a_213 ?_; (case o_213 => walk_at "ev"); (case x_213 => (walk_at "in2")); (case d_213 => (walk_at "in2")); (case m_213 => (walk_at "methF")); (case k_213 => (walk_at "keep")); (case n_213 => exact rfl); (case a_213 => walk_at "evl"); intro vs s hv O))
    refine pu_b_at (a := p + i) (Room.le hA (by decide)) hv hB (by walk_at "in2") (by walk_at "in2") (by walk_at "in2") hT (by lia) hz hk1 _ _ _ O fun v s hv O => ?_
    refine st_store O hv fun s O => ?_
    refine st_if O (pb_and (pb_cmp (by walk_at "ev") (pe_item (f := AV.i) (xs := old) (k := (i : Int)) (x := old.getD i 0) (by walk_at "ev") (by walk_at "ev") (by walk_at "in2") (by lia) (by walk_at "lim") (by simpa using hk2)) cm_ne)
      (fun _ => pb_not (pb_and (pb_val (by walk_at "ev")) (fun _ => pb_cmp (pe_ref (by walk_at "name") (by walk_at "keep") (by walk_at "evl") (fun vs hv => pu_fold (Room.le hA (by decide)) hv hm1))
        (pe_ref (by walk_at "name") (by walk_at "keep") (pl_cons (pe_item (f := AV.i) (xs := old) (k := (i : Int)) (x := old.getD i 0) (by walk_at "ev") (by walk_at "ev") (by walk_at "in2") (by lia) (by walk_at "lim") (by simpa using hk2)) pl_nil) (fun vs hv => pu_fold (Room.le hA (by decide)) hv hm2)) cm_eq)))) ?_ ?_
    · intro hb s O
      rw [sign_eq] at hb
      have e : matchAt fo old text p = false := by
        cases hq : matchAt fo old text p with
        | false => rfl
        | true => have := (matchAt_iff hp).mp hq i hi; simp at hb; exact absurd this hb
      rw [e] at h
      exact st_ret O (by walk_at "ev") fun v s hv O => h _ _ hv (by (((refine' Ow.got (Ow.back O ?p_214) ?g_214); (case p_214 => (walk_at "pick")); (case g_214 => walk_at "got"))))
    · intro hb s O
      rw [sign_eq] at hb
      have hb : sm fo (text.getD (p + i) 0) = sm fo (old.getD i 0) := by simpa using hb
      refine st_nil (st_nil ⟨_, _, _, ⟨FS.of (.cons rfl (.cons rfl (.cons rfl .nil))), rfl, rfl, fun j hj' => ?_⟩, O⟩)
      rcases Nat.lt_succ_iff_lt_or_eq.mp hj' with h' | rfl
      · exact hj j h'
      · exact hb
  · rintro m' Γ' I' s ⟨hfs, rfl, rfl, hj⟩ O
    have e : matchAt fo old text p = true := (matchAt_iff hp).mpr fun j hj' => hj j (by lia)
    rw [e] at h
    exact st_ret O (by walk_at "ev") fun v s hv O => h _ _ hv (by (((refine' Ow.got (Ow.back O ?p_215) ?g_215); (case p_215 => (walk_at "pick")); (case g_215 => walk_at "got"))))

/-- the first match from a on -/
noncomputable def First (fo : Bool) (old text : List Int) (a : Nat) : Option Nat → Prop
  | some p => a ≤ p ∧ p + old.length ≤ text.length ∧ matchAt fo old text p = true ∧ ∀ q, a ≤ q → q < p → matchAt fo old text q = false
  | none => ∀ q, a ≤ q → q + old.length ≤ text.length → matchAt fo old text q = false
theorem sp_next {c : Cx} {A : Around} {L : Addr} {m : FM} {Γ I : Led} {s : Shared} {Q E} {B : BA} {f df cr : Addr} {old : List Int} {fo : Bool} {gs ge a : Nat} {xs text : List Int} {x y pt zv tk ck : Int} {vs} (hA : Room 5 A) (hv : AVs [rf f, rf B.b, .i x, .i y] vs) (hB : BI c B I) (hF : LI I f df cr old fo)
    (h1 : In2 B.db (isB B pt zv tk ck) Γ I) (h2 : In2 B.dt (isG B.cl gs ge) Γ I) (h3 : In2 B.cl (isInts xs) Γ I) (O : Ow c L m Γ I s) (hT : TX gs ge xs text) (hx : x = a + 1) (hy : y = text.length + 1) (hz : zv = text.length + 1) (hzl : text.length ≤ 10000) (ha : a ≤ text.length) (hs : ∀ k ∈ text, k < 192) (hs' : ∀ k ∈ old, k < 192) (hl : old.length ≤ 1000)
    (h : ∀ t p s', First fo old text a (some p) → Ow c L m ((t, isT [.i (p + 1), .i (p + 1 + old.length)]) :: Γ) I s' → Q (.ref t) s')
    (h0 : ∀ s', First fo old text a none → Ow c L m Γ I s' → Q .none s') : wpAny c.M A (call (.ref 609) vs []) Q E s := by
  obtain ⟨g1, g2, g3, g4, g5, g6⟩ := id hB
  obtain ⟨f1, f2, f3⟩ := id hF
  (((repeat (rename AVs (_ :: _) _ => hv0; cases hv0)); (repeat (rename AVs [] _ => hv0; cases hv0))))
  ((refine' call_fnZ hA O ?k6_217 ?k7_217 ?kb_217 ?k9_217 ?kM_217 ?kN_217 ?kB_217 ?c5_217 ?c2_217 ?c3_217 ?c4_217 ?_; (case k6_217 => k_is); (case k7_217 => k_is); (case kb_217 => (refine' zip_of ?pe_217 ?rest_217; (case pe_217 => conv => lhs; whnf); (case rest_217 => simp only [List.map, List.zip, List.zipWith]; rfl))); (case k9_217 => first | exact BindsTo.of_eq rfl | exact binds_K (Frag.In.keeps (Cx.kin _) (Ow.keep O)) rfl (by k_is) rfl rfl rfl); (case kM_217 => walk_at "mtb"); (case kN_217 => exact rfl); (case kB_217 => exact locs rfl); (case c5_217 => decide); (case c2_217 => exact rfl); (case c3_217 => exact rfl); (case c4_217 => exact rfl); intro L s hA O))
  refine st_forR2 hA.handled O (by walk_at "name") (by walk_at "ev") (by walk_at "ev") (by lia) (by lia) (fun i m' Γ' I' => FS m' [("self", rf f), ("buffer", rf B.b), ("place", .i x), ("bound", .i y)] ∧ Γ' = _ ∧ I' = _ ∧ ∀ q, a ≤ q → q < a + i → matchAt fo old text q = false) ⟨FS.refl, rfl, rfl, fun q h1 h2 => by lia⟩ ?_ ?_
  · rintro it i m' Γ' I' s hi ⟨hfs, rfl, rfl, hj⟩ O
    have O := O.fs hfs.sl
    simp only [RIt, List.cons_append, List.nil_append] at O
    refine st_if O (b := matchAt fo old text (a + i)) (pb_val (pe_meth (by walk_at "ev") (by walk_at "in2") (by walk_at "in2") (by walk_at "methF") (by walk_at "keep") rfl (by walk_at "evl") (fun vs hv => pu_fits (p := a + i) (Room.le hA (by decide)) hv hB hF (by walk_at "in2") (by walk_at "in2") (by walk_at "in2") hT (by lia) hz (by lia) hs hs' hl))) ?_ ?_
    · intro hb s O
      refine st_retc (cn_tuple O (by walk_at "evl") (by exact Nat.le_of_ble_eq_true rfl) fun t s O => ?_)
      have e : (x : Int) + (i : Nat) = ((a + i : Nat) : Int) + 1 := by lia
      rw [e] at O
      exact h t (a + i) _ ⟨by lia, by lia, hb, fun q q1 q2 => hj q q1 q2⟩ (by (((refine' Ow.got (Ow.back O ?p_218) ?g_218); (case p_218 => (walk_at "pick")); (case g_218 => walk_at "got"))))
    · intro hb s O
      refine st_nil (st_nil ⟨_, _, _, ⟨FS.of (.cons rfl (.cons rfl (.cons rfl (.cons rfl .nil)))), rfl, rfl, fun q q1 q2 => ?_⟩, O⟩)
      rcases Nat.lt_or_ge q (a + i) with h' | h'
      · exact hj q q1 h'
      · have : q = a + i := by lia
        subst this; exact hb
  · rintro m' Γ' I' s ⟨hfs, rfl, rfl, hj⟩ O
    exact st_ret O (by walk_at "ev") fun v s hv O => by cases hv; exact h0 _ (fun q q1 q2 => hj q q1 (by lia)) (by (((refine' Ow.got (Ow.back O ?p_219) ?g_219); (case p_219 => (walk_at "pick")); (case g_219 => walk_at "got"))))
theorem st_ifT1 {c : Cx} {A : Around} {env : Env} {m : FM} {Γ I : Led} {s : Shared} {pos : Pos} {E : Value → Shared → Prop} {Q : Flow → Shared → Prop} {rest : List Stmt} {t : Expr} {body orelse : List Stmt} {b : Bool} (O : Ow c env.locals m Γ I s) (ht : PB c A env m Γ I t b) (hb : b = true)
    (h1 : ∀ s', Ow c env.locals m Γ I s' → wpAny c.M A (execs body env) (Thn c A env rest Q E) E s') : wpAny c.M A (execs (.If t body orelse pos :: rest) env) Q E s := st_ifT O (hb ▸ ht) h1
theorem cl_list1 {α : Type} {f : α → AV} {c : Cx} {A : Around} {env : Env} {m : FM} {Γ I : Led} {s : Shared} {pos : Pos} {Q : Value → Shared → Prop} {E : Value → Shared → Prop} {o : Expr} {l : Addr} {xs : List α} {name : Str} {id : String} {apos : Pos} {pl : Sem Bool} {e : Expr} (O : Ow c env.locals m Γ I s) (ho : PE c A env m Γ I o (rf l)) (hl : In2 l (isLm f xs) Γ I)
    (slot : Slot "list" name id) (hty : typeOf (.builtin id) = pure (.type "method_descriptor"))
    (h : ∀ s', Ow c env.locals m Γ I s' → wpAny c.M A (eval e env) (fun v s₂ => wpAny c.M A (call (.builtin id) [.ref l, v] []) Q E s₂) E s')
    (he : eval (.Call (.Attribute o name apos) [e] [] pos) env = (do
      let ov ← eval o env
      standAt apos.atName
      let (f, first) ← holding [ov] (getMethod ov name pl)
      callWith pos f first (backTo pos (starEach [e] env)) []) := by rfl)
    (hp : plainArgs [e] = true := by rfl) (hst : starEach [e] env = (false, eval e env) :: starEach [] env := by rfl) :
    wpAny c.M A (eval (.Call (.Attribute o name apos) [e] [] pos) env) Q E s := by
  refine MethodCall_ ?_ he
  refine ho _ _ _ O fun v s' e' O' => ?_
  cases e'
  obtain ⟨vs, n, hv, hg⟩ := O'.lst hl
  refine getMethod_list_of slot hty ⟨_, hg, rfl, n, rfl⟩ ⟨_, hg, rfl⟩ ?_
  exact callWith_builtin (splicedPlain hp) (evalArgs_any (splicedPlain hp) (wpAny_items_cons (wpAny_mono (h _ O') (fun v s₂ k => wpAny_items_nil k) fun _ _ x => x) hst))

structure StepD where
  start : Int
  old : List Int
  new : List Int
  isr : Bool
/-- a step that the machine keeps -/
noncomputable def StepAt (I : Led) (a : Addr) (t : StepD) : Prop := ∃ d lo ln, (a, isI 179 d) ∈ I ∧ (d, isF [("start", .i t.start), ("old", rf lo), ("new", rf ln), ("is_replaced", bo t.isr)]) ∈ I ∧ (lo, isInts t.old) ∈ I ∧ (ln, isInts t.new) ∈ I
theorem StepAt.sb {I I' a t} (h : StepAt I a t) (hs : Sb I I') : StepAt I' a t := let ⟨d, lo, ln, h1, h2, h3, h4⟩ := h; ⟨d, lo, ln, hs _ h1, hs _ h2, hs _ h3, hs _ h4⟩
inductive Alls {α β : Type} (R : α → β → Prop) : List α → List β → Prop
  | nil : Alls R [] []
  | cons {a b as bs} : R a b → Alls R as bs → Alls R (a :: as) (b :: bs)
theorem Alls.length {α β : Type} {R : α → β → Prop} {as bs} (h : Alls R as bs) : as.length = bs.length := by induction h with | nil => rfl | cons _ _ ih => simp [ih]
theorem Alls.imp {α β : Type} {R R' : α → β → Prop} {as bs} (h : Alls R as bs) (k : ∀ a b, R a b → R' a b) : Alls R' as bs := by induction h with | nil => exact .nil | cons h1 _ ih => exact .cons (k _ _ h1) ih
theorem Alls.app {α β : Type} {R : α → β → Prop} {as bs as' bs'} (h : Alls R as bs) (h' : Alls R as' bs') : Alls R (as ++ as') (bs ++ bs') := by induction h with | nil => exact h' | cons h1 _ ih => exact .cons h1 ih
theorem Alls.take {α β : Type} {R : α → β → Prop} {as bs} (h : Alls R as bs) (k : Nat) : Alls R (as.take k) (bs.take k) := by
  induction h generalizing k with
  | nil => simpa using Alls.nil
  | cons h1 _ ih => cases k with | zero => exact .nil | succ k => exact .cons h1 (ih k)
theorem Alls.drop {α β : Type} {R : α → β → Prop} {as bs} (h : Alls R as bs) (k : Nat) : Alls R (as.drop k) (bs.drop k) := by
  induction h generalizing k with
  | nil => simpa using Alls.nil
  | cons h1 h2 ih => cases k with | zero => exact .cons h1 h2 | succ k => exact ih k
theorem Alls.get {α β : Type} {R : α → β → Prop} {as bs} (h : Alls R as bs) {i : Nat} {b : β} (hb : bs[i]? = some b) : ∃ a, as[i]? = some a ∧ R a b := by
  induction h generalizing i with
  | nil => simp at hb
  | cons h1 _ ih => cases i with
    | zero => simp at hb; subst hb; exact ⟨_, by simp, h1⟩
    | succ i => simp at hb; simpa using ih hb

structure RA where
  (r d f df cr k dk cn : Addr)
  B : BA
/-- the machine as plain data -/
structure Mch where
  text : List Int
  pt : Int
  bound : Int
  st : Str
  start : Int
  fin : Int
  isr : Bool
  many : Int
  steps : List StepD
noncomputable def repF (R : RA) (ls : Addr) (M : Mch) : FM := [("buffer", rf R.B.b), ("finder", rf R.f), ("maker", rf R.k), ("bound", .i M.bound), ("state", .s M.st), ("start", .i M.start), ("end", .i M.fin), ("is_replaced", bo M.isr), ("many", .i M.many), ("steps", rf ls)]
structure RI (c : Cx) (R : RA) (old new : List Int) (fo : Bool) (I : Led) : Prop where
  r : (R.r, isI 263 R.d) ∈ I
  b : BI c R.B I
  l : LI I R.f R.df R.cr old fo
  k : (R.k, isI 158 R.dk) ∈ I
  dk : (R.dk, isF [("codes", rf R.cn)]) ∈ I
  cn : (R.cn, isInts new) ∈ I
theorem RI.sb {c R old new fo I I'} (h : RI c R old new fo I) (hs : Sb I I') : RI c R old new fo I' := ⟨hs _ h.r, h.b.sb hs, h.l.sb hs, hs _ h.k, hs _ h.dk, hs _ h.cn⟩
/-- the machine's own objects -/
noncomputable abbrev rL (R : RA) (ls : Addr) (as : List Addr) (M : Mch) (gs ge : Nat) (xs : List Int) (tk ck : Int) (Γ : Led) : Led := (R.d, isF (repF R ls M)) :: (ls, isRefs as) :: bL R.B gs ge xs M.pt (M.text.length + 1) tk ck Γ
structure Lay (I : Led) (M : Mch) (gs ge : Nat) (xs : List Int) (as : List Addr) : Prop where
  tx : TX gs ge xs M.text
  st : Alls (StepAt I) as M.steps
theorem Lay.sb {I I' M gs ge xs as} (h : Lay I M gs ge xs as) (hs : Sb I I') : Lay I' M gs ge xs as := ⟨h.tx, h.st.imp fun _ _ k => k.sb hs⟩
theorem sp_made {c : Cx} {A : Around} {L : Addr} {m : FM} {Γ I : Led} {s : Shared} {Q E} {R : RA} {old new : List Int} {fo : Bool} {b : Addr} {x y : Int} {vs} (hA : Room 2 A) (hv : AVs [rf R.k, rf b, .i x, .i y] vs) (hR : RI c R old new fo I) (O : Ow c L m Γ I s) (hl : new.length ≤ 1000)
    (h : ∀ r s', Ow c L m ((r, isInts new) :: Γ) I s' → Q (.ref r) s') : wpAny c.M A (call (.ref 155) vs []) Q E s := by
  obtain ⟨r1, r2, r3, r4, r5, r6⟩ := hR
  (((repeat (rename AVs (_ :: _) _ => hv0; cases hv0)); (repeat (rename AVs [] _ => hv0; cases hv0))))
  ((refine' call_fnZ hA O ?k6_221 ?k7_221 ?kb_221 ?k9_221 ?kM_221 ?kN_221 ?kB_221 ?c5_221 ?c2_221 ?c3_221 ?c4_221 ?_; (case k6_221 => k_is); (case k7_221 => k_is); (case kb_221 => (refine' zip_of ?pe_221 ?rest_221; (case pe_221 => conv => lhs; whnf); (case rest_221 => simp only [List.map, List.zip, List.zipWith]; rfl))); (case k9_221 => first | exact BindsTo.of_eq rfl | exact binds_K (Frag.In.keeps (Cx.kin _) (Ow.keep O)) rfl (by k_is) rfl rfl rfl); (case kM_221 => walk_at "mtb"); (case kN_221 => exact rfl); (case kB_221 => exact locs rfl); (case c5_221 => decide); (case c2_221 => exact rfl); (case c3_221 => exact rfl); (case c4_221 => exact rfl); intro L s hA O))
  refine st_retc (cl_ty O (by walk_at "name") (by walk_at "evl") fun vs s hv O => ?_)
  obtain rfl := AVs_r1 hv
  refine cn_copy (f := AV.i) O (by walk_at "in2") (by unfold lim; lia) fun r s O => ?_
  exact h _ _ (by (((refine' Ow.got (Ow.back O ?p_222) ?g_222); (case p_222 => (walk_at "pick")); (case g_222 => walk_at "got"))))
theorem sp_Step {c : Cx} {A : Around} {L : Addr} {m : FM} {Γ I : Led} {s : Shared} {Q E} {lo ln : Addr} {x : Int} {b : Bool} {vs} (hA : Room 3 A) (hv : AVs [.i x, rf lo, rf ln, bo b] vs) (O : Ow c L m Γ I s)
    (h : ∀ t d s', Ow c L m ((t, isI 179 d) :: (d, isF [("start", .i x), ("old", rf lo), ("new", rf ln), ("is_replaced", bo b)]) :: Γ) I s' → Q (.ref t) s') : wpAny c.M A (call (.ref 179) vs []) Q E s := by
  (((repeat (rename AVs (_ :: _) _ => hv0; cases hv0)); (repeat (rename AVs [] _ => hv0; cases hv0))))
  rename_i v1 _ v2 _ v3 _ v4 _
  ((refine' call_new (C := 179) (fI := 176) (binds := fun x => [("self", Value.ref x), ("start", v1), ("old", v2), ("new", v3), ("is_replaced", v4)]) hA O ?m_224 ?i_224 ?f_224 ?k6_224 ?k7_224 ?k9_224 ?kM_224 ?kN_224 ?kB_224 ?c5_224 ?c2_224 ?c3_224 ?c4_224 ?_; (case m_224 => exact InitF.m in_179); (case i_224 => exact InitF.i in_179); (case f_224 => exact InitF.f in_179); (case k6_224 => k_is); (case k7_224 => k_is); (case k9_224 => (intro _ _ _; exact BindsTo.of_eq rfl)); (case kM_224 => (intro _; walk_at "mtb")); (case kN_224 => (intro _; exact rfl)); (case kB_224 => (intro _; exact locs rfl)); (case c5_224 => decide); (case c2_224 => exact rfl); (case c3_224 => exact rfl); (case c4_224 => exact rfl); intro A x dx L s hA O))
  ((refine' st_attr O ?v_225 ?o_225 ?x_225 ?d_225 ?c_225 ?z_225 ?_; (case v_225 => walk_at "ev"); (case o_225 => walk_at "ev"); (case x_225 => (walk_at "in2")); (case d_225 => (walk_at "put")); (case c_225 => (walk_at "setF")); (case z_225 => exact Nat.le_of_ble_eq_true rfl); intro s O))
  ((refine' st_attr O ?v_226 ?o_226 ?x_226 ?d_226 ?c_226 ?z_226 ?_; (case v_226 => walk_at "ev"); (case o_226 => walk_at "ev"); (case x_226 => (walk_at "in2")); (case d_226 => (walk_at "put")); (case c_226 => (walk_at "setF")); (case z_226 => exact Nat.le_of_ble_eq_true rfl); intro s O))
  ((refine' st_attr O ?v_227 ?o_227 ?x_227 ?d_227 ?c_227 ?z_227 ?_; (case v_227 => walk_at "ev"); (case o_227 => walk_at "ev"); (case x_227 => (walk_at "in2")); (case d_227 => (walk_at "put")); (case c_227 => (walk_at "setF")); (case z_227 => exact Nat.le_of_ble_eq_true rfl); intro s O))
  ((refine' st_attr O ?v_228 ?o_228 ?x_228 ?d_228 ?c_228 ?z_228 ?_; (case v_228 => walk_at "ev"); (case o_228 => walk_at "ev"); (case x_228 => (walk_at "in2")); (case d_228 => (walk_at "put")); (case c_228 => (walk_at "setF")); (case z_228 => exact Nat.le_of_ble_eq_true rfl); intro s O))
  exact st_nil ⟨rfl, h _ _ _ (by (((refine' Ow.got (Ow.back O ?p_229) ?g_229); (case p_229 => (walk_at "pick")); (case g_229 => walk_at "got"))))⟩
theorem sp_look {c : Cx} {A : Around} {L : Addr} {m : FM} {Γ I : Led} {s : Shared} {Q E} {R : RA} {old new : List Int} {fo : Bool} {M : Mch} {a : Nat} {x : Int} {ls : Addr} {as : List Addr} {gs ge : Nat} {xs : List Int} {tk ck : Int} {vs} (hA : Room 6 A) (hv : AVs [rf R.r, .i x, bo false] vs) (hR : RI c R old new fo I)
    (hM : Lay I M gs ge xs as) (O : Ow c L m (rL R ls as M gs ge xs tk ck Γ) I s) (hx : x = a + 1) (ha : a ≤ M.text.length) (hb : M.bound = M.text.length + 1) (hz : M.text.length ≤ 10000) (hs : ∀ k ∈ M.text, k < 192) (hs' : ∀ k ∈ old, k < 192) (hl : old.length ≤ 1000)
    (h : ∀ p s', First fo old M.text a (some p) → Ow c L m (rL R ls as { M with start := p + 1, fin := p + 1 + old.length, isr := false, pt := p + 1 + old.length } gs ge xs tk ck Γ) I s' → Q .none s')
    (h0 : ∀ s', First fo old M.text a none → Ow c L m (rL R ls as { M with st := "done" } gs ge xs tk ck Γ) I s' → Q .none s') : wpAny c.M A (call (.ref 204) vs []) Q E s := by
  obtain ⟨r1, r2, r3, r4, r5, r6⟩ := id hR
  obtain ⟨g1, g2, g3, g4, g5, g6⟩ := id r2
  obtain ⟨f1, f2, f3⟩ := id r3
  (((repeat (rename AVs (_ :: _) _ => hv0; cases hv0)); (repeat (rename AVs [] _ => hv0; cases hv0))))
  ((refine' call_fnZ hA O ?k6_231 ?k7_231 ?kb_231 ?k9_231 ?kM_231 ?kN_231 ?kB_231 ?c5_231 ?c2_231 ?c3_231 ?c4_231 ?_; (case k6_231 => k_is); (case k7_231 => k_is); (case kb_231 => (refine' zip_of ?pe_231 ?rest_231; (case pe_231 => conv => lhs; whnf); (case rest_231 => simp only [List.map, List.zip, List.zipWith]; rfl))); (case k9_231 => first | exact BindsTo.of_eq rfl | exact binds_K (Frag.In.keeps (Cx.kin _) (Ow.keep O)) rfl (by k_is) rfl rfl rfl); (case kM_231 => walk_at "mtb"); (case kN_231 => exact rfl); (case kB_231 => exact locs rfl); (case c5_231 => decide); (case c2_231 => exact rfl); (case c3_231 => exact rfl); (case c4_231 => exact rfl); intro L s hA O))
  refine st_let O (a := .i x) (pe_ifexp (x := false) (w := nn) (by walk_at "evb") (fun h => nomatch h) (fun _ => by walk_at "ev")) fun s O => ?_
  refine st_letc (cs_ifexp O (x := true) ?_ (fun _ s O => ?_) (fun h => nomatch h))
  · have : decide (x ≤ M.bound) = true := by rw [decide_eq_true_iff]; lia
    rw [← this]; walk_at "evb"
  ((refine' cl_meth O ?o_232 ?x_232 ?d_232 ?m_232 ?k_232 ?n_232 ?a_232 ?_; (case o_232 => walk_at "ev"); (case x_232 => (walk_at "in2")); (case d_232 => (walk_at "in2")); (case m_232 => (walk_at "methF")); (case k_232 => (walk_at "keep")); (case n_232 => exact rfl); (case a_232 => walk_at "evl"); intro vs s hv O))
  refine sp_next (Room.le hA (by decide)) hv r2 r3 (by walk_at "in2") (by walk_at "in2") (by walk_at "in2") O hM.tx hx hb rfl hz ha hs hs' hl (fun t p s hp O => ?_) (fun s hp O => ?_)
  · refine st_store (a := rf t) O rfl fun s O => ?_
    refine st_ifF1 O (by walk_at "evb") (by rfl) fun s O => ?_
    ((refine' st_attr O ?v_233 ?o_233 ?x_233 ?d_233 ?c_233 ?z_233 ?_; (case v_233 => walk_at "ev"); (case o_233 => walk_at "ev"); (case x_233 => (walk_at "in2")); (case d_233 => (walk_at "put")); (case c_233 => (walk_at "setF")); (case z_233 => exact Nat.le_of_ble_eq_true rfl); intro s O))
    ((refine' st_attr O ?v_234 ?o_234 ?x_234 ?d_234 ?c_234 ?z_234 ?_; (case v_234 => walk_at "ev"); (case o_234 => walk_at "ev"); (case x_234 => (walk_at "in2")); (case d_234 => (walk_at "put")); (case c_234 => (walk_at "setF")); (case z_234 => exact Nat.le_of_ble_eq_true rfl); intro s O))
    ((refine' st_attr O ?v_235 ?o_235 ?x_235 ?d_235 ?c_235 ?z_235 ?_; (case v_235 => walk_at "ev"); (case o_235 => walk_at "ev"); (case x_235 => (walk_at "in2")); (case d_235 => (walk_at "put")); (case c_235 => (walk_at "setF")); (case z_235 => exact Nat.le_of_ble_eq_true rfl); intro s O))
    refine st_attr O (by walk_at "ev") (by walk_at "ev") (by walk_at "in2") (by walk_at "put") (by walk_at "setF") (by exact Nat.le_of_ble_eq_true rfl) fun s O => ?_
    exact st_nil (h p _ hp (by (((refine' Ow.got (Ow.back O ?p_236) ?g_236); (case p_236 => (walk_at "pick")); (case g_236 => walk_at "got")))))
  · refine st_store (a := nn) O rfl fun s O => ?_
    refine st_ifT1 O (by walk_at "evb") (by rfl) fun s O => ?_
    ((refine' st_attr O ?v_237 ?o_237 ?x_237 ?d_237 ?c_237 ?z_237 ?_; (case v_237 => walk_at "ev"); (case o_237 => walk_at "ev"); (case x_237 => (walk_at "in2")); (case d_237 => (walk_at "put")); (case c_237 => (walk_at "setF")); (case z_237 => exact Nat.le_of_ble_eq_true rfl); intro s O))
    exact st_retNone (h0 _ hp (by (((refine' Ow.got (Ow.back O ?p_238) ?g_238); (case p_238 => (walk_at "pick")); (case g_238 => walk_at "got")))))
/-- a match replaced -/
noncomputable def putR (new : List Int) (a b : Nat) (M : Mch) : Mch :=
  Mch.mk (M.text.take a ++ new ++ M.text.drop b) (M.start + (new.length : Int)) (M.bound + (new.length : Int) - ((part M.text a b).length : Int)) M.st M.start (M.start + (new.length : Int)) true (M.many + 1)
    (M.steps ++ [StepD.mk M.start (part M.text a b) new true])
theorem sp_put_new0 {c : Cx} {A : Around} {L : Addr} {m : FM} {Γ I : Led} {s : Shared} {Q E} {R : RA} {M : Mch} {ls : Addr} {as : List Addr} {gs ge : Nat} {xs : List Int} {tk ck : Int} {old new : List Int} {fo : Bool} {vs} (hA : Room 2 A) (hv : AVs [rf R.r] vs) (hR : RI c R old new fo I)
    (O : Ow c L m (rL R ls as M gs ge xs tk ck Γ) I s) (hi : M.isr = true) (h : ∀ s', Ow c L m (rL R ls as M gs ge xs tk ck Γ) I s' → Q .none s') : wpAny c.M A (call (.ref 211) vs []) Q E s := by
  obtain ⟨r1, r2, r3, r4, r5, r6⟩ := id hR
  (((repeat (rename AVs (_ :: _) _ => hv0; cases hv0)); (repeat (rename AVs [] _ => hv0; cases hv0))))
  ((refine' call_fnZ hA O ?k6_240 ?k7_240 ?kb_240 ?k9_240 ?kM_240 ?kN_240 ?kB_240 ?c5_240 ?c2_240 ?c3_240 ?c4_240 ?_; (case k6_240 => k_is); (case k7_240 => k_is); (case kb_240 => (refine' zip_of ?pe_240 ?rest_240; (case pe_240 => conv => lhs; whnf); (case rest_240 => simp only [List.map, List.zip, List.zipWith]; rfl))); (case k9_240 => first | exact BindsTo.of_eq rfl | exact binds_K (Frag.In.keeps (Cx.kin _) (Ow.keep O)) rfl (by k_is) rfl rfl rfl); (case kM_240 => walk_at "mtb"); (case kN_240 => exact rfl); (case kB_240 => exact locs rfl); (case c5_240 => decide); (case c2_240 => exact rfl); (case c3_240 => exact rfl); (case c4_240 => exact rfl); intro L s hA O))
  refine st_ifT1 O (by walk_at "evb") hi fun s O => ?_
  exact st_retNone (h _ (by (((refine' Ow.got (Ow.back O ?p_241) ?g_241); (case p_241 => (walk_at "pick")); (case g_241 => walk_at "got")))))
theorem sp_put_new {c : Cx} {A : Around} {L : Addr} {m : FM} {Γ I : Led} {s : Shared} {Q E} {R : RA} {M : Mch} {a b : Nat} {ls : Addr} {as : List Addr} {gs ge : Nat} {xs : List Int} {tk ck : Int} {old new : List Int} {fo : Bool} {vs} (hA : Room 8 A) (hv : AVs [rf R.r] vs) (hR : RI c R old new fo I)
    (hM : Lay I M gs ge xs as) (O : Ow c L m (rL R ls as M gs ge xs tk ck Γ) I s) (hi : M.isr = false) (ha : M.start = a + 1) (hb : M.fin = b + 1) (hab : a ≤ b) (hbt : b ≤ M.text.length) (hz : M.text.length ≤ 10000) (hn : new.length ≤ 1000) (hst : M.steps.length ≤ 10000)
    (h : ∀ I' as' gs' ge' xs' tk' ck' s', Sb I I' → Lay I' (putR new a b M) gs' ge' xs' as' → Ow c L m (rL R ls as' (putR new a b M) gs' ge' xs' tk' ck' Γ) I' s' → Q .none s') : wpAny c.M A (call (.ref 211) vs []) Q E s := by
  obtain ⟨r1, r2, r3, r4, r5, r6⟩ := id hR
  obtain ⟨g1, g2, g3, g4, g5, g6⟩ := id r2
  have hpl : (part M.text a b).length = b - a := part_length hbt
  have hta : (M.text.take a).length = a := by rw [List.length_take]; lia
  (((repeat (rename AVs (_ :: _) _ => hv0; cases hv0)); (repeat (rename AVs [] _ => hv0; cases hv0))))
  ((refine' call_fnZ hA O ?k6_243 ?k7_243 ?kb_243 ?k9_243 ?kM_243 ?kN_243 ?kB_243 ?c5_243 ?c2_243 ?c3_243 ?c4_243 ?_; (case k6_243 => k_is); (case k7_243 => k_is); (case kb_243 => (refine' zip_of ?pe_243 ?rest_243; (case pe_243 => conv => lhs; whnf); (case rest_243 => simp only [List.map, List.zip, List.zipWith]; rfl))); (case k9_243 => first | exact BindsTo.of_eq rfl | exact binds_K (Frag.In.keeps (Cx.kin _) (Ow.keep O)) rfl (by k_is) rfl rfl rfl); (case kM_243 => walk_at "mtb"); (case kN_243 => exact rfl); (case kB_243 => exact locs rfl); (case c5_243 => decide); (case c2_243 => exact rfl); (case c3_243 => exact rfl); (case c4_243 => exact rfl); intro L s hA O))
  refine st_ifF1 O (by walk_at "evb") hi fun s O => ?_
  refine st_letc ?_
  ((refine' cl_meth O ?o_244 ?x_244 ?d_244 ?m_244 ?k_244 ?n_244 ?a_244 ?_; (case o_244 => walk_at "ev"); (case x_244 => (walk_at "in2")); (case d_244 => (walk_at "in2")); (case m_244 => (walk_at "methF")); (case k_244 => (walk_at "keep")); (case n_244 => exact rfl); (case a_244 => walk_at "evl"); intro vs s hv O))
  refine sp_b_codes (Room.le hA (by decide)) hv r2 (by (((refine' Ow.got O ?g_245); (case g_245 => walk_at "got")))) hM.tx ha hb hab hbt fun lo s O => ?_
  refine st_store (a := rf lo) O rfl fun s O => ?_
  refine st_letc ?_
  ((refine' cl_meth O ?o_246 ?x_246 ?d_246 ?m_246 ?k_246 ?n_246 ?a_246 ?_; (case o_246 => walk_at "ev"); (case x_246 => (walk_at "in2")); (case d_246 => (walk_at "in2")); (case m_246 => (walk_at "methF")); (case k_246 => (walk_at "keep")); (case n_246 => exact rfl); (case a_246 => walk_at "evl"); intro vs s hv O))
  refine sp_made (Room.le hA (by decide)) hv hR O hn fun ln s O => ?_
  refine st_store (a := rf ln) O rfl fun s O => ?_
  refine st_expr ?_
  ((refine' cl_ref O ?f_247 ?k_247 ?a_247 ?_; (case f_247 => walk_at "name"); (case k_247 => (walk_at "keep")); (case a_247 => walk_at "evl"); intro vs s hv O))
  refine sp_replace (codes := new) (Room.le hA (by decide)) hv r2 (by (((refine' Ow.got O ?g_248); (case g_248 => walk_at "got")))) (by walk_at "in2") hM.tx ha hb hab hbt rfl hz (by lia) fun _ gs ge xs pt tk ck s hT O => ?_
  have e1 : (M.text.length : Int) + 1 - (M.fin - M.start) + new.length = ((M.text.take a ++ new ++ M.text.drop b).length : Nat) + 1 := by
    rw [List.length_append, List.length_append, hta, List.length_drop]; lia
  rw [e1] at O
  ((refine' st_attr O ?v_249 ?o_249 ?x_249 ?d_249 ?c_249 ?z_249 ?_; (case v_249 => walk_at "ev"); (case o_249 => walk_at "ev"); (case x_249 => (walk_at "in2")); (case d_249 => (walk_at "put")); (case c_249 => (walk_at "setF")); (case z_249 => exact Nat.le_of_ble_eq_true rfl); intro s O))
  ((refine' st_attr O ?v_250 ?o_250 ?x_250 ?d_250 ?c_250 ?z_250 ?_; (case v_250 => walk_at "ev"); (case o_250 => walk_at "ev"); (case x_250 => (walk_at "in2")); (case d_250 => (walk_at "put")); (case c_250 => (walk_at "setF")); (case z_250 => exact Nat.le_of_ble_eq_true rfl); intro s O))
  refine st_expr (cl_list1 O (by walk_at "ev") (by walk_at "in2") PySem.slot_list_append PySem.F.type_list_append fun s O => ?_)
  ((refine' cl_ref O ?f_251 ?k_251 ?a_251 ?_; (case f_251 => walk_at "name"); (case k_251 => (walk_at "keep")); (case a_251 => walk_at "evl"); intro vs s hv O))
  refine sp_Step (Room.le hA (by decide)) hv O fun t d s O => ?_
  have hla := hM.st.length
  refine cn_append (f := rf) (x := t) O rfl (by walk_at "put") (by unfold lim; lia) fun s O => ?_
  ((refine' st_attr O ?v_252 ?o_252 ?x_252 ?d_252 ?c_252 ?z_252 ?_; (case v_252 => walk_at "ev"); (case o_252 => walk_at "ev"); (case x_252 => (walk_at "in2")); (case d_252 => (walk_at "put")); (case c_252 => (walk_at "setF")); (case z_252 => exact Nat.le_of_ble_eq_true rfl); intro s O))
  ((refine' st_attr O ?v_253 ?o_253 ?x_253 ?d_253 ?c_253 ?z_253 ?_; (case v_253 => walk_at "ev"); (case o_253 => walk_at "ev"); (case x_253 => (walk_at "in2")); (case d_253 => (walk_at "put")); (case c_253 => (walk_at "setF")); (case z_253 => exact Nat.le_of_ble_eq_true rfl); intro s O))
  refine st_attr O (by walk_at "ev") (by walk_at "ev") (by walk_at "in2") (by walk_at "put") (by walk_at "setF") (by exact Nat.le_of_ble_eq_true rfl) fun s O => ?_
  have O := Ow.frz (p := (lo, isInts (part M.text a b))) O (by walk_at "pick")
  have O := Ow.frz (p := (ln, isInts new)) O (by walk_at "pick")
  have O := Ow.frz (p := (d, _)) O (by walk_at "pick")
  have O := Ow.frz (p := (t, isI 179 d)) O (by walk_at "pick")
  refine st_nil (h _ (as ++ [t]) gs ge xs tk ck _ (((Sb.refl.cons).cons).cons).cons ⟨hT, ?_⟩ (by (((refine' Ow.got (Ow.back O ?p_254) ?g_254); (case p_254 => (walk_at "pick")); (case g_254 => walk_at "got")))))
  exact (hM.st.imp fun _ _ k => k.sb (((Sb.refl.cons).cons).cons).cons).app (.cons ⟨d, lo, ln, .head _, .tail _ (.head _), .tail _ (.tail _ (.tail _ (.head _))), .tail _ (.tail _ (.head _))⟩ .nil)
/-- a match left as it is -/
noncomputable def goR (a b : Nat) (M : Mch) : Mch := Mch.mk M.text M.pt M.bound M.st M.start M.fin M.isr M.many (M.steps ++ [StepD.mk M.start (part M.text a b) (part M.text a b) false])
/-- the next match | none -/
noncomputable def fndR (n p : Nat) (M : Mch) : Mch := { M with start := p + 1, fin := p + 1 + n, isr := false, pt := p + 1 + n }
noncomputable def endR (M : Mch) : Mch := { M with st := "done" }
theorem sp_go_on0 {c : Cx} {A : Around} {L : Addr} {m : FM} {Γ I : Led} {s : Shared} {Q E} {R : RA} {M : Mch} {b : Nat} {ts : List StepD} {t : StepD} {ls : Addr} {as : List Addr} {gs ge : Nat} {xs : List Int} {tk ck : Int} {old new : List Int} {fo : Bool} {vs} (hA : Room 7 A) (hv : AVs [rf R.r] vs) (hR : RI c R old new fo I)
    (hM : Lay I M gs ge xs as) (O : Ow c L m (rL R ls as M gs ge xs tk ck Γ) I s) (hi : M.isr = true) (hb : M.fin = b + 1) (hbt : b ≤ M.text.length) (hbd : M.bound = M.text.length + 1) (hz : M.text.length ≤ 10000) (hst : M.steps = ts ++ [t]) (hto : t.old.length ≠ 0) (htl : t.old.length ≤ 1000) (hsl : M.steps.length ≤ 10000)
    (hs : ∀ k ∈ M.text, k < 192) (hs' : ∀ k ∈ old, k < 192) (hl : old.length ≤ 1000)
    (h : ∀ p s', First fo old M.text b (some p) → Ow c L m (rL R ls as (fndR old.length p M) gs ge xs tk ck Γ) I s' → Q .none s')
    (h0 : ∀ s', First fo old M.text b none → Ow c L m (rL R ls as (endR M) gs ge xs tk ck Γ) I s' → Q .none s') : wpAny c.M A (call (.ref 218) vs []) Q E s := by
  obtain ⟨r1, r2, r3, r4, r5, r6⟩ := id hR
  have hlen := hM.st.length
  have hsl' : M.steps.length = ts.length + 1 := by rw [hst]; simp
  obtain ⟨ta, hta, d, lo, ln, q1, q2, q3, q4⟩ := hM.st.get (i := ts.length) (b := t) (by rw [hst]; simp)
  (((repeat (rename AVs (_ :: _) _ => hv0; cases hv0)); (repeat (rename AVs [] _ => hv0; cases hv0))))
  ((refine' call_fnZ hA O ?k6_256 ?k7_256 ?kb_256 ?k9_256 ?kM_256 ?kN_256 ?kB_256 ?c5_256 ?c2_256 ?c3_256 ?c4_256 ?_; (case k6_256 => k_is); (case k7_256 => k_is); (case kb_256 => (refine' zip_of ?pe_256 ?rest_256; (case pe_256 => conv => lhs; whnf); (case rest_256 => simp only [List.map, List.zip, List.zipWith]; rfl))); (case k9_256 => first | exact BindsTo.of_eq rfl | exact binds_K (Frag.In.keeps (Cx.kin _) (Ow.keep O)) rfl (by k_is) rfl rfl rfl); (case kM_256 => walk_at "mtb"); (case kN_256 => exact rfl); (case kB_256 => exact locs rfl); (case c5_256 => decide); (case c2_256 => exact rfl); (case c3_256 => exact rfl); (case c4_256 => exact rfl); intro L s hA O))
  refine st_ifF1 O (by walk_at "evb") (by rw [hi]; rfl) fun s O => ?_
  refine st_let O (pe_item (f := rf) (xs := as) (k := (as.length : Int) - 1) (x := ta) (by walk_at "ev") (by walk_at "ev") (by walk_at "in2") (by lia) (by walk_at "lim") (by rw [show ((as.length : Int) - 1).toNat = ts.length by lia]; exact hta)) fun s O => ?_
  refine st_expr ?_
  ((refine' cl_meth O ?o_257 ?x_257 ?d_257 ?m_257 ?k_257 ?n_257 ?a_257 ?_; (case o_257 => walk_at "ev"); (case x_257 => (walk_at "in2")); (case d_257 => (walk_at "in2")); (case m_257 => (walk_at "methF")); (case k_257 => (walk_at "keep")); (case n_257 => exact rfl); (case a_257 => walk_at "evl"); intro vs s hv O))
  rw [show decide ((t.old.length : Int) = 0) = false by simp; intro h; simp [h] at hto] at hv
  refine sp_look (Room.le hA (by decide)) hv hR hM (by (((refine' Ow.got O ?g_258); (case g_258 => walk_at "got")))) hb hbt hbd hz hs hs' hl (fun p s hp O => ?_) (fun s hp O => ?_)
  · exact st_nil (h p _ hp (by (((refine' Ow.got (Ow.back O ?p_259) ?g_259); (case p_259 => (walk_at "pick")); (case g_259 => walk_at "got")))))
  · exact st_nil (h0 _ hp (by (((refine' Ow.got (Ow.back O ?p_260) ?g_260); (case p_260 => (walk_at "pick")); (case g_260 => walk_at "got")))))
theorem sp_go_on1 {c : Cx} {A : Around} {L : Addr} {m : FM} {Γ I : Led} {s : Shared} {Q E} {R : RA} {M : Mch} {a b : Nat} {ls : Addr} {as : List Addr} {gs ge : Nat} {xs : List Int} {tk ck : Int} {old new : List Int} {fo : Bool} {vs} (hA : Room 7 A) (hv : AVs [rf R.r] vs) (hR : RI c R old new fo I)
    (hM : Lay I M gs ge xs as) (O : Ow c L m (rL R ls as M gs ge xs tk ck Γ) I s) (hi : M.isr = false) (ha : M.start = a + 1) (hb : M.fin = b + 1) (hab : a < b) (hbt : b ≤ M.text.length) (hbd : M.bound = M.text.length + 1) (hz : M.text.length ≤ 10000) (hsl : M.steps.length ≤ 10000)
    (hs : ∀ k ∈ M.text, k < 192) (hs' : ∀ k ∈ old, k < 192) (hl : old.length ≤ 1000)
    (h : ∀ p I' as' s', Sb I I' → Lay I' (goR a b M) gs ge xs as' → First fo old M.text b (some p) → Ow c L m (rL R ls as' (fndR old.length p (goR a b M)) gs ge xs tk ck Γ) I' s' → Q .none s')
    (h0 : ∀ I' as' s', Sb I I' → Lay I' (goR a b M) gs ge xs as' → First fo old M.text b none → Ow c L m (rL R ls as' (endR (goR a b M)) gs ge xs tk ck Γ) I' s' → Q .none s') : wpAny c.M A (call (.ref 218) vs []) Q E s := by
  obtain ⟨r1, r2, r3, r4, r5, r6⟩ := id hR
  obtain ⟨g1, g2, g3, g4, g5, g6⟩ := id r2
  have hlen := hM.st.length
  have hpl : (part M.text a b).length = b - a := part_length hbt
  (((repeat (rename AVs (_ :: _) _ => hv0; cases hv0)); (repeat (rename AVs [] _ => hv0; cases hv0))))
  ((refine' call_fnZ hA O ?k6_262 ?k7_262 ?kb_262 ?k9_262 ?kM_262 ?kN_262 ?kB_262 ?c5_262 ?c2_262 ?c3_262 ?c4_262 ?_; (case k6_262 => k_is); (case k7_262 => k_is); (case kb_262 => (refine' zip_of ?pe_262 ?rest_262; (case pe_262 => conv => lhs; whnf); (case rest_262 => simp only [List.map, List.zip, List.zipWith]; rfl))); (case k9_262 => first | exact BindsTo.of_eq rfl | exact binds_K (Frag.In.keeps (Cx.kin _) (Ow.keep O)) rfl (by k_is) rfl rfl rfl); (case kM_262 => walk_at "mtb"); (case kN_262 => exact rfl); (case kB_262 => exact locs rfl); (case c5_262 => decide); (case c2_262 => exact rfl); (case c3_262 => exact rfl); (case c4_262 => exact rfl); intro L s hA O))
  refine st_ifT1 O (by walk_at "evb") (by rw [hi]; rfl) fun s O => ?_
  refine st_letc ?_
  ((refine' cl_meth O ?o_263 ?x_263 ?d_263 ?m_263 ?k_263 ?n_263 ?a_263 ?_; (case o_263 => walk_at "ev"); (case x_263 => (walk_at "in2")); (case d_263 => (walk_at "in2")); (case m_263 => (walk_at "methF")); (case k_263 => (walk_at "keep")); (case n_263 => exact rfl); (case a_263 => walk_at "evl"); intro vs s hv O))
  refine sp_b_codes (Room.le hA (by decide)) hv r2 (by (((refine' Ow.got O ?g_264); (case g_264 => walk_at "got")))) hM.tx ha hb (by lia) hbt fun lo s O => ?_
  refine st_store (a := rf lo) O rfl fun s O => ?_
  refine st_expr (cl_list1 O (by walk_at "ev") (by walk_at "in2") PySem.slot_list_append PySem.F.type_list_append fun s O => ?_)
  ((refine' cl_ref O ?f_265 ?k_265 ?a_265 ?_; (case f_265 => walk_at "name"); (case k_265 => (walk_at "keep")); (case a_265 => walk_at "evl"); intro vs s hv O))
  refine sp_Step (Room.le hA (by decide)) hv O fun t d s O => ?_
  refine cn_append (f := rf) (x := t) O rfl (by walk_at "put") (by unfold lim; lia) fun s O => ?_
  have O := Ow.frz (p := (lo, isInts (part M.text a b))) O (by walk_at "pick")
  have O := Ow.frz (p := (d, _)) O (by walk_at "pick")
  have O := Ow.frz (p := (t, isI 179 d)) O (by walk_at "pick")
  have hS := (((Sb.refl (I := I).cons (p := (lo, isInts (part M.text a b)))).cons (p := (d, isF [("start", .i M.start), ("old", rf lo), ("new", rf lo), ("is_replaced", bo false)]))).cons (p := (t, isI 179 d)))
  have hR := hR.sb hS
  obtain ⟨r1, r2, r3, r4, r5, r6⟩ := id hR
  have hM' : Lay ((t, isI 179 d) :: (d, isF [("start", .i M.start), ("old", rf lo), ("new", rf lo), ("is_replaced", bo false)]) :: (lo, isInts (part M.text a b)) :: I) (goR a b M) gs ge xs (as ++ [t]) :=
    ⟨hM.tx, (hM.st.imp fun _ _ k => k.sb hS).app (.cons ⟨d, lo, lo, .head _, .tail _ (.head _), .tail _ (.tail _ (.head _)), .tail _ (.tail _ (.head _))⟩ .nil)⟩
  refine st_nil ?_
  have hlz : (as ++ [t]).length ≤ lim := by rw [List.length_append]; simp; unfold lim; lia
  refine st_let O (pe_item (f := rf) (xs := as ++ [t]) (k := ((as ++ [t]).length : Int) - 1) (x := t) (by walk_at "ev") (by walk_at "ev") (by walk_at "in2") (by simp) hlz (by simp)) fun s O => ?_
  refine st_expr ?_
  ((refine' cl_meth O ?o_266 ?x_266 ?d_266 ?m_266 ?k_266 ?n_266 ?a_266 ?_; (case o_266 => walk_at "ev"); (case x_266 => (walk_at "in2")); (case d_266 => (walk_at "in2")); (case m_266 => (walk_at "methF")); (case k_266 => (walk_at "keep")); (case n_266 => exact rfl); (case a_266 => walk_at "evl"); intro vs s hv O))
  rw [show decide (((part M.text a b).length : Int) = 0) = false by simp; intro h; rw [h] at hpl; simp at hpl; lia] at hv
  refine sp_look (M := goR a b M) (Room.le hA (by decide)) hv hR hM' (by (((refine' Ow.got O ?g_267); (case g_267 => walk_at "got")))) hb hbt hbd hz hs hs' hl (fun p s hp O => ?_) (fun s hp O => ?_)
  · exact st_nil (h p _ _ _ hS hM' hp (by (((refine' Ow.got (Ow.back O ?p_268) ?g_268); (case p_268 => (walk_at "pick")); (case g_268 => walk_at "got")))))
  · exact st_nil (h0 _ _ _ hS hM' hp (by (((refine' Ow.got (Ow.back O ?p_269) ?g_269); (case p_269 => (walk_at "pick")); (case g_269 => walk_at "got")))))
theorem pb_use {c : Cx} {A : Around} {env : Env} {m : FM} {Γ I : Led} {s : Shared} {t : Expr} {b : Bool} {Q : Bool → Shared → Prop} {E : Value → Shared → Prop} (ht : PB c A env m Γ I t b) (O : Ow c env.locals m Γ I s) (h : ∀ s', Ow c env.locals m Γ I s' → Q b s') : wpAny c.M A (isTrue t env (eval t env)) Q E s :=
  ht _ _ _ O fun v s' hv O' => by subst hv; exact h s' O'
theorem Ow.nR {c : Cx} {L : Addr} {m : FM} {Γ0 Γ I : Led} {s : Shared} {R : RA} {M : Mch} {ls : Addr} {as : List Addr} {gs ge : Nat} {xs : List Int} {tk ck : Int} (O : Ow c L m Γ0 I s) (g : LGot Γ0 (rL R ls as M gs ge xs tk ck Γ)) : Ow c L m (rL R ls as M gs ge xs tk ck Γ) I s := O.got g
/-- what put_new makes of the machine -/
inductive PutTo (new : List Int) : Mch → Mch → Prop
  | same {M : Mch} : M.isr = true → PutTo new M M
  | put {M : Mch} {a b : Nat} : M.isr = false → M.start = (a : Int) + 1 → M.fin = (b : Int) + 1 → a ≤ b → b ≤ M.text.length → M.text.length ≤ 10000 → M.steps.length ≤ 10000 → PutTo new M (putR new a b M)
/-- a machine that may go on behind a replaced match -/
structure GoOk (M : Mch) (b : Nat) : Prop where
  i : M.isr = true
  f : M.fin = b + 1
  t : b ≤ M.text.length
  d : M.bound = M.text.length + 1
  z : M.text.length ≤ 10000
  l : ∃ ts t, M.steps = ts ++ [t] ∧ t.old.length ≠ 0 ∧ t.old.length ≤ 1000
  s : M.steps.length ≤ 10000
  k : ∀ k ∈ M.text, k < 192
/-- what put_all makes of it -/
inductive RunN (fo : Bool) (old new : List Int) : Nat → Mch → Mch → Prop
  | done {k : Nat} {M : Mch} : M.st = ("done" : Str) → RunN fo old new k M M
  | stop {M M₁ : Mch} {b k : Nat} : M.st = ("asking" : Str) → PutTo new M M₁ → GoOk M₁ b → First fo old M₁.text b none → RunN fo old new (k + 1) M (endR M₁)
  | step {M M₁ M' : Mch} {b p k : Nat} : M.st = ("asking" : Str) → PutTo new M M₁ → GoOk M₁ b → First fo old M₁.text b (some p) → RunN fo old new k (fndR old.length p M₁) M' → RunN fo old new (k + 1) M M'
theorem sp_putTo {c : Cx} {A : Around} {L : Addr} {m : FM} {Γ I : Led} {s : Shared} {Q E} {R : RA} {M M₁ : Mch} {ls : Addr} {as : List Addr} {gs ge : Nat} {xs : List Int} {tk ck : Int} {old new : List Int} {fo : Bool} {vs} (hA : Room 8 A) (hv : AVs [rf R.r] vs) (hR : RI c R old new fo I)
    (hM : Lay I M gs ge xs as) (O : Ow c L m (rL R ls as M gs ge xs tk ck Γ) I s) (hP : PutTo new M M₁) (hn : new.length ≤ 1000)
    (h : ∀ I' as' gs' ge' xs' tk' ck' s', Sb I I' → Lay I' M₁ gs' ge' xs' as' → Ow c L m (rL R ls as' M₁ gs' ge' xs' tk' ck' Γ) I' s' → Q .none s') : wpAny c.M A (call (.ref 211) vs []) Q E s := by
  cases hP with
  | same hi => exact sp_put_new0 (hA.le (by decide)) hv hR O hi fun s O => h _ _ _ _ _ _ _ _ Sb.refl hM O
  | put hi ha hb hab hbt hz hst => exact sp_put_new hA hv hR hM O hi ha hb hab hbt hz hn hst h
theorem sp_put_all {c : Cx} {A : Around} {L : Addr} {m : FM} {Γ I : Led} {s : Shared} {Q E} {R : RA} {M M' : Mch} {k : Nat} {ls : Addr} {as : List Addr} {gs ge : Nat} {xs : List Int} {tk ck : Int} {old new : List Int} {fo : Bool} {vs} (hA : Room 9 A) (hv : AVs [rf R.r] vs) (hR : RI c R old new fo I)
    (hM : Lay I M gs ge xs as) (O : Ow c L m (rL R ls as M gs ge xs tk ck Γ) I s) (hP : RunN fo old new k M M') (hn : new.length ≤ 1000) (hs' : ∀ k ∈ old, k < 192) (hl : old.length ≤ 1000)
    (h : ∀ I' as' gs' ge' xs' tk' ck' s', Sb I I' → Lay I' M' gs' ge' xs' as' → Ow c L m (rL R ls as' M' gs' ge' xs' tk' ck' Γ) I' s' → Q .none s') : wpAny c.M A (call (.ref 225) vs []) Q E s := by
  (((repeat (rename AVs (_ :: _) _ => hv0; cases hv0)); (repeat (rename AVs [] _ => hv0; cases hv0))))
  ((refine' call_fnZ hA O ?k6_271 ?k7_271 ?kb_271 ?k9_271 ?kM_271 ?kN_271 ?kB_271 ?c5_271 ?c2_271 ?c3_271 ?c4_271 ?_; (case k6_271 => k_is); (case k7_271 => k_is); (case kb_271 => (refine' zip_of ?pe_271 ?rest_271; (case pe_271 => conv => lhs; whnf); (case rest_271 => simp only [List.map, List.zip, List.zipWith]; rfl))); (case k9_271 => first | exact BindsTo.of_eq rfl | exact binds_K (Frag.In.keeps (Cx.kin _) (Ow.keep O)) rfl (by k_is) rfl rfl rfl); (case kM_271 => walk_at "mtb"); (case kN_271 => exact rfl); (case kB_271 => exact locs rfl); (case c5_271 => decide); (case c2_271 => exact rfl); (case c3_271 => exact rfl); (case c4_271 => exact rfl); intro L s hA O))
  have O := Ow.nR (R := R) (M := M) O (by walk_at "got")
  refine st_while (fun k m' Γ' I' => ∃ M as gs ge xs tk ck, RunN fo old new k M M' ∧ Lay I' M gs ge xs as ∧ Sb I I' ∧ m' = ([("self", rf R.r)] : FM) ∧ Γ' = rL R ls as M gs ge xs tk ck _) O ⟨M, as, gs, ge, xs, tk, ck, hP, hM, Sb.refl, rfl, rfl⟩ ?_
  rintro k m' Γ' I' s ⟨M, as, gs, ge, xs, tk, ck, hP, hM, hS, rfl, rfl⟩ O
  have hR := hR.sb hS
  obtain ⟨r1, r2, r3, r4, r5, r6⟩ := id hR
  refine pb_use (b := decide (M.st = ("asking" : Str))) (by walk_at "evb") O fun s O => ?_
  cases hP with
  | done hd =>
    rw [show decide (M'.st = ("asking" : Str)) = false by rw [hd]; rfl]
    exact st_nil (h _ _ _ _ _ _ _ _ hS hM (by (((refine' Ow.got (Ow.back O ?p_272) ?g_272); (case p_272 => (walk_at "pick")); (case g_272 => walk_at "got")))))
  | stop hd hp hg hf =>
    rw [show decide (M.st = ("asking" : Str)) = true by rw [hd]; rfl]
    refine st_expr ?_
    ((refine' cl_meth O ?o_273 ?x_273 ?d_273 ?m_273 ?k_273 ?n_273 ?a_273 ?_; (case o_273 => walk_at "ev"); (case x_273 => (walk_at "in2")); (case d_273 => (walk_at "in2")); (case m_273 => (walk_at "methF")); (case k_273 => (walk_at "keep")); (case n_273 => exact rfl); (case a_273 => walk_at "evl"); intro vs s hv O))
    refine sp_putTo (Room.le hA (by decide)) hv hR hM (by (((refine' Ow.got O ?g_274); (case g_274 => walk_at "got")))) hp hn fun I₂ as gs ge xs tk ck s hS₂ hM O => ?_
    have hR := hR.sb hS₂
    obtain ⟨r1, r2, r3, r4, r5, r6⟩ := id hR
    refine st_expr ?_
    ((refine' cl_meth O ?o_275 ?x_275 ?d_275 ?m_275 ?k_275 ?n_275 ?a_275 ?_; (case o_275 => walk_at "ev"); (case x_275 => (walk_at "in2")); (case d_275 => (walk_at "in2")); (case m_275 => (walk_at "methF")); (case k_275 => (walk_at "keep")); (case n_275 => exact rfl); (case a_275 => walk_at "evl"); intro vs s hv O))
    obtain ⟨e1, e2, e3, e4, e5, ⟨ts, t, e6, e7, e8⟩, e9, e10⟩ := hg
    refine sp_go_on0 (Room.le hA (by decide)) hv hR hM (by (((refine' Ow.got O ?g_276); (case g_276 => walk_at "got")))) e1 e2 e3 e4 e5 e6 e7 e8 e9 e10 hs' hl (fun p s hp O => ?_) (fun s hp O => ?_)
    · have := hf p hp.1 hp.2.1; rw [hp.2.2.1] at this; cases this
    · exact st_nil ⟨_, _, _, ⟨0, Nat.succ_pos _, _, _, _, _, _, _, _, .done rfl, ⟨hM.tx, hM.st⟩, hS.trans hS₂, rfl, rfl⟩, O⟩
  | @step _ M₁ _ b p k hd hp hg hf hr =>
    rw [show decide (M.st = ("asking" : Str)) = true by rw [hd]; rfl]
    refine st_expr ?_
    ((refine' cl_meth O ?o_277 ?x_277 ?d_277 ?m_277 ?k_277 ?n_277 ?a_277 ?_; (case o_277 => walk_at "ev"); (case x_277 => (walk_at "in2")); (case d_277 => (walk_at "in2")); (case m_277 => (walk_at "methF")); (case k_277 => (walk_at "keep")); (case n_277 => exact rfl); (case a_277 => walk_at "evl"); intro vs s hv O))
    refine sp_putTo (Room.le hA (by decide)) hv hR hM (by (((refine' Ow.got O ?g_278); (case g_278 => walk_at "got")))) hp hn fun I₂ as gs ge xs tk ck s hS₂ hM O => ?_
    have hR := hR.sb hS₂
    obtain ⟨r1, r2, r3, r4, r5, r6⟩ := id hR
    refine st_expr ?_
    ((refine' cl_meth O ?o_279 ?x_279 ?d_279 ?m_279 ?k_279 ?n_279 ?a_279 ?_; (case o_279 => walk_at "ev"); (case x_279 => (walk_at "in2")); (case d_279 => (walk_at "in2")); (case m_279 => (walk_at "methF")); (case k_279 => (walk_at "keep")); (case n_279 => exact rfl); (case a_279 => walk_at "evl"); intro vs s hv O))
    obtain ⟨e1, e2, e3, e4, e5, ⟨ts, t, e6, e7, e8⟩, e9, e10⟩ := hg
    refine sp_go_on0 (Room.le hA (by decide)) hv hR hM (by (((refine' Ow.got O ?g_280); (case g_280 => walk_at "got")))) e1 e2 e3 e4 e5 e6 e7 e8 e9 e10 hs' hl (fun q s hq O => ?_) (fun s hq O => ?_)
    · have : q = p := by
        rcases Nat.lt_trichotomy p q with h1 | h1 | h1
        · have := hq.2.2.2 p hf.1 h1; rw [hf.2.2.1] at this; cases this
        · exact h1.symm
        · have := hf.2.2.2 q hq.1 h1; rw [hq.2.2.1] at this; cases this
      subst this
      exact st_nil ⟨_, _, _, ⟨k, Nat.lt_succ_self _, _, _, _, _, _, _, _, hr, ⟨hM.tx, hM.st⟩, hS.trans hS₂, rfl, rfl⟩, O⟩
    · have := hq p hf.1 hf.2.1; rw [hf.2.2.1] at this; cases this
noncomputable def ownN (M : Mch) : Nat := if M.isr then 1 else 0
noncomputable def backR (ts : List StepD) (t : StepD) (M : Mch) : Mch := Mch.mk M.text (t.start + (t.new.length : Int)) M.bound M.st t.start (t.start + (t.new.length : Int)) t.isr M.many (if t.isr then ts ++ [t] else ts)
theorem sp_go_back0 {c : Cx} {A : Around} {L : Addr} {m : FM} {Γ I : Led} {s : Shared} {Q E} {R : RA} {M : Mch} {ls : Addr} {as : List Addr} {gs ge : Nat} {xs : List Int} {tk ck : Int} {old new : List Int} {fo : Bool} {vs} (hA : Room 2 A) (hv : AVs [rf R.r] vs) (hR : RI c R old new fo I)
    (hM : Lay I M gs ge xs as) (O : Ow c L m (rL R ls as M gs ge xs tk ck Γ) I s) (hst : M.steps.length ≤ ownN M) (h : ∀ s', Ow c L m (rL R ls as M gs ge xs tk ck Γ) I s' → Q .none s') : wpAny c.M A (call (.ref 232) vs []) Q E s := by
  obtain ⟨r1, r2, r3, r4, r5, r6⟩ := id hR
  have hlen := hM.st.length
  have ho : ownN M ≤ 1 := by unfold ownN; split <;> lia
  (((repeat (rename AVs (_ :: _) _ => hv0; cases hv0)); (repeat (rename AVs [] _ => hv0; cases hv0))))
  ((refine' call_fnZ hA O ?k6_282 ?k7_282 ?kb_282 ?k9_282 ?kM_282 ?kN_282 ?kB_282 ?c5_282 ?c2_282 ?c3_282 ?c4_282 ?_; (case k6_282 => k_is); (case k7_282 => k_is); (case kb_282 => (refine' zip_of ?pe_282 ?rest_282; (case pe_282 => conv => lhs; whnf); (case rest_282 => simp only [List.map, List.zip, List.zipWith]; rfl))); (case k9_282 => first | exact BindsTo.of_eq rfl | exact binds_K (Frag.In.keeps (Cx.kin _) (Ow.keep O)) rfl (by k_is) rfl rfl rfl); (case kM_282 => walk_at "mtb"); (case kN_282 => exact rfl); (case kB_282 => exact locs rfl); (case c5_282 => decide); (case c2_282 => exact rfl); (case c3_282 => exact rfl); (case c4_282 => exact rfl); intro L s hA O))
  refine st_let O (a := .i (ownN M)) (pe_ifexp (x := M.isr) (w := nn) (by walk_at "evb") (fun h => by rw [show (ownN M : Int) = 1 by unfold ownN; rw [h]; rfl]; exact pe_int) (fun h => by rw [show (ownN M : Int) = 0 by unfold ownN; rw [h]; rfl]; exact pe_int)) fun s O => ?_
  refine st_ifT1 O (by walk_at "evb") (by simp; lia) fun s O => ?_
  exact st_retNone (h _ (by (((refine' Ow.got (Ow.back O ?p_283) ?g_283); (case p_283 => (walk_at "pick")); (case g_283 => walk_at "got")))))
theorem sp_go_back {c : Cx} {A : Around} {L : Addr} {m : FM} {Γ I : Led} {s : Shared} {Q E} {R : RA} {M : Mch} {ts : List StepD} {t : StepD} {ls : Addr} {as : List Addr} {gs ge : Nat} {xs : List Int} {tk ck : Int} {old new : List Int} {fo : Bool} {vs} (hA : Room 2 A) (hv : AVs [rf R.r] vs) (hR : RI c R old new fo I)
    (hM : Lay I M gs ge xs as) (O : Ow c L m (rL R ls as M gs ge xs tk ck Γ) I s) (hst : M.steps.take (M.steps.length - ownN M) = ts ++ [t]) (hsl : M.steps.length ≤ 10000) (htl : t.new.length ≤ 1000)
    (h : ∀ ls' as' s', Lay I (backR ts t M) gs ge xs as' → Ow c L m (rL R ls' as' (backR ts t M) gs ge xs tk ck Γ) I s' → Q .none s') : wpAny c.M A (call (.ref 232) vs []) Q E s := by
  obtain ⟨r1, r2, r3, r4, r5, r6⟩ := id hR
  obtain ⟨g1, g2, g3, g4, g5, g6⟩ := id r2
  have hlen := hM.st.length
  have ho : ownN M ≤ 1 := by unfold ownN; split <;> lia
  have hS := hM.st.take (M.steps.length - ownN M)
  rw [hst] at hS
  have hl2 : (ts ++ [t]).length = M.steps.length - ownN M := by rw [← hst, List.length_take]; lia
  have hl3 : ts.length + 1 = M.steps.length - ownN M := by rw [← hl2]; simp
  -- the addresses
  obtain ⟨ta, hta, hT⟩ := hS.get (i := ts.length) (b := t) (by simp)
  have hat : as.take (M.steps.length - ownN M) = (as.take (M.steps.length - ownN M)).take ts.length ++ [ta] := by
    have hq : (as.take (M.steps.length - ownN M)).length = ts.length + 1 := by rw [List.length_take]; lia
    conv => lhs; rw [← List.take_append_drop ts.length (as.take (M.steps.length - ownN M))]
    congr 1
    rw [List.drop_eq_getElem_cons (by lia), List.drop_eq_nil_of_le (by lia)]
    rw [List.getElem?_eq_getElem (by lia)] at hta
    rw [Option.some.inj hta]
  obtain ⟨bs, hbs⟩ : ∃ bs, bs = (as.take (M.steps.length - ownN M)).take ts.length := ⟨_, rfl⟩
  rw [← hbs] at hat
  have hSb : Alls (StepAt I) bs ts := by
    have := hS.take ts.length
    rw [← hbs, List.take_append_of_le_length (Nat.le_refl _), List.take_length] at this
    exact this
  have hSt : Alls (StepAt I) (bs ++ [ta]) (ts ++ [t]) := by rw [← hat]; exact hS
  have hbl := hSb.length
  obtain ⟨d, lo, ln, q1, q2, q3, q4⟩ := id hT
  (((repeat (rename AVs (_ :: _) _ => hv0; cases hv0)); (repeat (rename AVs [] _ => hv0; cases hv0))))
  ((refine' call_fnZ hA O ?k6_285 ?k7_285 ?kb_285 ?k9_285 ?kM_285 ?kN_285 ?kB_285 ?c5_285 ?c2_285 ?c3_285 ?c4_285 ?_; (case k6_285 => k_is); (case k7_285 => k_is); (case kb_285 => (refine' zip_of ?pe_285 ?rest_285; (case pe_285 => conv => lhs; whnf); (case rest_285 => simp only [List.map, List.zip, List.zipWith]; rfl))); (case k9_285 => first | exact BindsTo.of_eq rfl | exact binds_K (Frag.In.keeps (Cx.kin _) (Ow.keep O)) rfl (by k_is) rfl rfl rfl); (case kM_285 => walk_at "mtb"); (case kN_285 => exact rfl); (case kB_285 => exact locs rfl); (case c5_285 => decide); (case c2_285 => exact rfl); (case c3_285 => exact rfl); (case c4_285 => exact rfl); intro L s hA O))
  refine st_let O (a := .i (ownN M)) (pe_ifexp (x := M.isr) (w := nn) (by walk_at "evb") (fun h => by rw [show (ownN M : Int) = 1 by unfold ownN; rw [h]; rfl]; exact pe_int) (fun h => by rw [show (ownN M : Int) = 0 by unfold ownN; rw [h]; rfl]; exact pe_int)) fun s O => ?_
  refine st_ifF1 O (by walk_at "evb") (by simp; lia) fun s O => ?_
  refine st_attrC (cn_slice (f := rf) (a := none) (b := some (M.steps.length - ownN M)) O (by walk_at "ev") pp_none (pp_some (by walk_at "ev") (by lia)) (by walk_at "in2") (by walk_at "lim") fun l2 s O => ?_)
  refine ss_attr (a := rf l2) O rfl (by walk_at "ev") (by walk_at "in2") (by walk_at "put") (by walk_at "setF") (by exact Nat.le_of_ble_eq_true rfl) fun s O => ?_
  rw [show cut as none (some (M.steps.length - ownN M)) = bs ++ [ta] from hat] at O
  refine st_letc (cl_list O (by walk_at "ev") (by walk_at "in2") PySem.F.slot_list_pop PySem.F.type_list_pop (by walk_at "evl") fun vs s hv O => ?_)
  cases hv
  refine cn_pop (f := rf) O (by walk_at "put") (by unfold lim; lia) fun v s hv O => ?_
  refine st_store (a := rf ta) O hv fun s O => ?_
  ((refine' st_attr O ?v_286 ?o_286 ?x_286 ?d_286 ?c_286 ?z_286 ?_; (case v_286 => walk_at "ev"); (case o_286 => walk_at "ev"); (case x_286 => (walk_at "in2")); (case d_286 => (walk_at "put")); (case c_286 => (walk_at "setF")); (case z_286 => exact Nat.le_of_ble_eq_true rfl); intro s O))
  ((refine' st_attr O ?v_287 ?o_287 ?x_287 ?d_287 ?c_287 ?z_287 ?_; (case v_287 => walk_at "ev"); (case o_287 => walk_at "ev"); (case x_287 => (walk_at "in2")); (case d_287 => (walk_at "put")); (case c_287 => (walk_at "setF")); (case z_287 => exact Nat.le_of_ble_eq_true rfl); intro s O))
  ((refine' st_attr O ?v_288 ?o_288 ?x_288 ?d_288 ?c_288 ?z_288 ?_; (case v_288 => walk_at "ev"); (case o_288 => walk_at "ev"); (case x_288 => (walk_at "in2")); (case d_288 => (walk_at "put")); (case c_288 => (walk_at "setF")); (case z_288 => exact Nat.le_of_ble_eq_true rfl); intro s O))
  ((refine' st_if O ?t_289 ?_ ?_; (case t_289 => walk_at "evb")))
  · intro hi s O
    refine st_expr (cl_list O (by walk_at "ev") (by walk_at "in2") PySem.slot_list_append PySem.F.type_list_append (by walk_at "evl") fun vs s hv O => ?_)
    obtain rfl := AVs_r1 hv
    refine cn_append (f := rf) (x := ta) O rfl (by walk_at "put") (by unfold lim; lia) fun s O => ?_
    refine st_nil ?_
    refine st_attr O (by walk_at "ev") (by walk_at "ev") (by walk_at "in2") (by walk_at "put") (by walk_at "setF") (by exact Nat.le_of_ble_eq_true rfl) fun s O => ?_
    have hL : Lay I (backR ts t M) gs ge xs (bs ++ [ta]) := ⟨hM.tx, by show Alls _ _ (if t.isr then _ else _); rw [if_pos hi]; exact hSt⟩
    exact st_nil (h _ _ _ hL (by (((refine' Ow.got (Ow.back O ?p_290) ?g_290); (case p_290 => (walk_at "pick")); (case g_290 => walk_at "got")))))
  · intro hi s O
    refine st_nil ?_
    refine st_attr O (by walk_at "ev") (by walk_at "ev") (by walk_at "in2") (by walk_at "put") (by walk_at "setF") (by exact Nat.le_of_ble_eq_true rfl) fun s O => ?_
    have hL : Lay I (backR ts t M) gs ge xs bs := ⟨hM.tx, by show Alls _ _ (if t.isr then _ else _); rw [if_neg (by rw [hi]; decide)]; exact hSb⟩
    exact st_nil (h _ _ _ hL (by (((refine' Ow.got (Ow.back O ?p_291) ?g_291); (case p_291 => (walk_at "pick")); (case g_291 => walk_at "got")))))
/-- the last replacement taken back -/
noncomputable def undoR (a : Nat) (ts : List StepD) (t : StepD) (M : Mch) : Mch :=
  Mch.mk (M.text.take a ++ t.old ++ M.text.drop (a + t.new.length)) (t.start + (t.old.length : Int)) (M.bound + (t.old.length : Int) - (t.new.length : Int)) M.st t.start (t.start + (t.old.length : Int)) false (M.many - 1) ts
/-- take_back: done | nothing to take back -/
inductive TB : Mch → Mch → Bool → Prop
  | no {M : Mch} : (∀ t ∈ M.steps, t.isr = false) → TB M M false
  | yes {M : Mch} {a : Nat} {ts us : List StepD} {t : StepD} : M.steps = ts ++ [t] ++ us → t.isr = true → (∀ u ∈ us, u.isr = false) → t.start = (a : Int) + 1 → a + t.new.length ≤ M.text.length → M.text.length ≤ 10000 → t.old.length ≤ 1000 → TB M (undoR a ts t M) true
/-- the while of take_back -/
theorem sp_take_back {c : Cx} {A : Around} {L : Addr} {m : FM} {Γ I : Led} {s : Shared} {Q E} {R : RA} {M M' : Mch} {r : Bool} {ls : Addr} {as : List Addr} {gs ge : Nat} {xs : List Int} {tk ck : Int} {old new : List Int} {fo : Bool} {vs} (hA : Room 8 A) (hv : AVs [rf R.r] vs) (hR : RI c R old new fo I)
    (hM : Lay I M gs ge xs as) (O : Ow c L m (rL R ls as M gs ge xs tk ck Γ) I s) (hT : TB M M' r) (hsl : M.steps.length ≤ 10000)
    (h : ∀ ls' as' gs' ge' xs' tk' ck' s', Lay I M' gs' ge' xs' as' → Ow c L m (rL R ls' as' M' gs' ge' xs' tk' ck' Γ) I s' → Q (.bool r) s') : wpAny c.M A (call (.ref 239) vs []) Q E s := by
  obtain ⟨r1, r2, r3, r4, r5, r6⟩ := id hR
  obtain ⟨g1, g2, g3, g4, g5, g6⟩ := id r2
  have hlen := hM.st.length
  (((repeat (rename AVs (_ :: _) _ => hv0; cases hv0)); (repeat (rename AVs [] _ => hv0; cases hv0))))
  ((refine' call_fnZ hA O ?k6_293 ?k7_293 ?kb_293 ?k9_293 ?kM_293 ?kN_293 ?kB_293 ?c5_293 ?c2_293 ?c3_293 ?c4_293 ?_; (case k6_293 => k_is); (case k7_293 => k_is); (case kb_293 => (refine' zip_of ?pe_293 ?rest_293; (case pe_293 => conv => lhs; whnf); (case rest_293 => simp only [List.map, List.zip, List.zipWith]; rfl))); (case k9_293 => first | exact BindsTo.of_eq rfl | exact binds_K (Frag.In.keeps (Cx.kin _) (Ow.keep O)) rfl (by k_is) rfl rfl rfl); (case kM_293 => walk_at "mtb"); (case kN_293 => exact rfl); (case kB_293 => exact locs rfl); (case c5_293 => decide); (case c2_293 => exact rfl); (case c3_293 => exact rfl); (case c4_293 => exact rfl); intro L s hA O))
  ((refine' st_let O ?e_294 ?_; (case e_294 => walk_at "ev"); intro s O))
  have O := Ow.nR (R := R) (M := M) O (by walk_at "got")
  refine st_while (fun k m' Γ' I' => k ≤ M.steps.length ∧ (∀ u ∈ M.steps.drop k, u.isr = false) ∧ m' = ([("self", rf R.r), ("place", .i ((k : Int) - 1))] : FM) ∧ Γ' = rL R ls as M gs ge xs tk ck _ ∧ I' = I) (k := M.steps.length) O ⟨Nat.le_refl _, by rw [List.drop_length]; intro u hu; simp at hu, by rw [hlen]; rfl, rfl, rfl⟩ ?_
  rintro k m' Γ' I' s ⟨hk, hun, rfl, rfl, rfl⟩ O
  by_cases hgo : ∃ j, k = j + 1 ∧ ∃ u, M.steps[j]? = some u ∧ u.isr = false
  · -- one further down
    obtain ⟨j, rfl, u, hu, hui⟩ := hgo
    obtain ⟨ta, hta, d, lo, ln, q1, q2, q3, q4⟩ := hM.st.get hu
    refine pb_use (b := true && true) (pb_and (by rw [show true = decide (((j + 1 : Nat) : Int) - 1 ≥ 0) by simp]; walk_at "evb") fun _ => by
      rw [show true = !false by rfl, ← hui]
      refine pb_not (pb_val (pe_attr (x := ta) (pe_item (f := rf) (xs := as) (k := ((j + 1 : Nat) : Int) - 1) (x := ta) (by walk_at "ev") (by walk_at "ev") (by walk_at "in2") (by simp) (by walk_at "lim") (by rw [show (((j + 1 : Nat) : Int) - 1).toNat = j by lia]; exact hta)) (by walk_at "in2") (by walk_at "in2") (by walk_at "attrF") rfl rfl))) O fun s O => ?_
    ((refine' st_let O ?e_295 ?_; (case e_295 => walk_at "ev"); intro s O))
    refine st_nil ⟨_, _, _, ⟨j, Nat.lt_succ_self _, Nat.le_of_succ_le hk, fun v hv => ?_, ?_, rfl, rfl⟩, O⟩
    · rw [List.drop_eq_getElem_cons (by lia)] at hv
      rcases List.mem_cons.mp hv with rfl | hv
      · rw [List.getElem?_eq_getElem (by lia)] at hu; rw [Option.some.inj hu]; exact hui
      · exact hun v hv
    · show [(_, _), (_, AV.i _)] = _
      rw [show ((j + 1 : Nat) : Int) - 1 - 1 = (j : Int) - 1 by lia]
  · cases hT with
    | no hno =>
      have hk0 : k = 0 := by
        rcases Nat.eq_zero_or_pos k with h0 | h0
        · exact h0
        · exact absurd ⟨k - 1, by lia, M.steps[k - 1], List.getElem?_eq_getElem (by lia), hno _ (List.getElem_mem _)⟩ hgo
      subst hk0
      refine pb_use (b := false && true) (pb_and (by rw [show false = decide (((0 : Nat) : Int) - 1 ≥ 0) by simp]; walk_at "evb") fun h => nomatch h) O fun s O => ?_
      refine st_ifT1 O (by walk_at "evb") (by simp) fun s O => ?_
      exact st_ret O (a := bo false) (by walk_at "ev") fun v s hv O => by cases hv; exact h _ _ _ _ _ _ _ _ hM (by (((refine' Ow.got (Ow.back O ?p_296) ?g_296); (case p_296 => (walk_at "pick")); (case g_296 => walk_at "got"))))
    | @yes a ts us t hst hti hus hta ht hz hol =>
      have hsl' : M.steps.length = ts.length + 1 + us.length := by rw [hst]; simp; lia
      have hk1 : k = ts.length + 1 := by
        rcases Nat.lt_trichotomy k (ts.length + 1) with h1 | h1 | h1
        · have : t ∈ M.steps.drop k := by
            rw [hst, List.append_assoc, List.drop_append_of_le_length (by lia)]
            exact List.mem_append_right _ (by simp)
          rw [hun t this] at hti; cases hti
        · exact h1
        · have hu : us[k - 1 - (ts.length + 1)]? = some us[k - 1 - (ts.length + 1)] := List.getElem?_eq_getElem (by lia)
          refine absurd ⟨k - 1, by lia, us[k - 1 - (ts.length + 1)], ?_, hus _ (List.getElem_mem _)⟩ hgo
          rw [hst, List.getElem?_append_right (by simp; lia)]
          rw [← hu]; congr 1; simp
      subst hk1
      obtain ⟨ad, had, d, lo, ln, q1, q2, q3, q4⟩ := hM.st.get (i := ts.length) (b := t) (by rw [hst]; simp)
      have hta' : (M.text.take a).length = a := by rw [List.length_take]; lia
      refine pb_use (b := true && false) (pb_and (by rw [show true = decide (((ts.length + 1 : Nat) : Int) - 1 ≥ 0) by simp]; walk_at "evb") fun _ => by
        rw [show false = !true by rfl, ← hti]
        refine pb_not (pb_val (pe_attr (x := ad) (pe_item (f := rf) (xs := as) (k := ((ts.length + 1 : Nat) : Int) - 1) (x := ad) (by walk_at "ev") (by walk_at "ev") (by walk_at "in2") (by simp) (by walk_at "lim") (by rw [show (((ts.length + 1 : Nat) : Int) - 1).toNat = ts.length by lia]; exact had)) (by walk_at "in2") (by walk_at "in2") (by walk_at "attrF") rfl rfl))) O fun s O => ?_
      refine st_ifF1 O (by walk_at "evb") (by simp) fun s O => ?_
      refine st_let O (pe_item (f := rf) (xs := as) (k := ((ts.length + 1 : Nat) : Int) - 1) (x := ad) (by walk_at "ev") (by walk_at "ev") (by walk_at "in2") (by simp) (by walk_at "lim") (by rw [show (((ts.length + 1 : Nat) : Int) - 1).toNat = ts.length by lia]; exact had)) fun s O => ?_
      refine st_attrC (cn_slice (f := rf) (a := none) (b := some ts.length) O (by walk_at "ev") pp_none (pp_some (by walk_at "ev") (by lia)) (by walk_at "in2") (by walk_at "lim") fun l2 s O => ?_)
      refine ss_attr (a := rf l2) O rfl (by walk_at "ev") (by walk_at "in2") (by walk_at "put") (by walk_at "setF") (by exact Nat.le_of_ble_eq_true rfl) fun s O => ?_
      refine st_expr ?_
      refine cl_ref (as := [rf R.B.b, .i t.start, .i (t.start + (t.new.length : Int)), rf lo]) O (by walk_at "name") (by walk_at "keep") (by walk_at "evl") fun vs s hv O => ?_
      refine sp_replace (codes := t.old) (b := a + t.new.length) (Room.le hA (by decide)) hv r2 (by (((refine' Ow.got O ?g_297); (case g_297 => walk_at "got")))) (by walk_at "in2") hM.tx hta (by lia) (by lia) ht rfl hz (by lia) fun _ gs ge xs pt tk ck s hT O => ?_
      have e1 : (M.text.length : Int) + 1 - (t.start + (t.new.length : Int) - t.start) + t.old.length = ((M.text.take a ++ t.old ++ M.text.drop (a + t.new.length)).length : Nat) + 1 := by
        rw [List.length_append, List.length_append, hta', List.length_drop]; lia
      rw [e1] at O
      ((refine' st_attr O ?v_298 ?o_298 ?x_298 ?d_298 ?c_298 ?z_298 ?_; (case v_298 => walk_at "ev"); (case o_298 => walk_at "ev"); (case x_298 => (walk_at "in2")); (case d_298 => (walk_at "put")); (case c_298 => (walk_at "setF")); (case z_298 => exact Nat.le_of_ble_eq_true rfl); intro s O))
      ((refine' st_attr O ?v_299 ?o_299 ?x_299 ?d_299 ?c_299 ?z_299 ?_; (case v_299 => walk_at "ev"); (case o_299 => walk_at "ev"); (case x_299 => (walk_at "in2")); (case d_299 => (walk_at "put")); (case c_299 => (walk_at "setF")); (case z_299 => exact Nat.le_of_ble_eq_true rfl); intro s O))
      ((refine' st_attr O ?v_300 ?o_300 ?x_300 ?d_300 ?c_300 ?z_300 ?_; (case v_300 => walk_at "ev"); (case o_300 => walk_at "ev"); (case x_300 => (walk_at "in2")); (case d_300 => (walk_at "put")); (case c_300 => (walk_at "setF")); (case z_300 => exact Nat.le_of_ble_eq_true rfl); intro s O))
      ((refine' st_attr O ?v_301 ?o_301 ?x_301 ?d_301 ?c_301 ?z_301 ?_; (case v_301 => walk_at "ev"); (case o_301 => walk_at "ev"); (case x_301 => (walk_at "in2")); (case d_301 => (walk_at "put")); (case c_301 => (walk_at "setF")); (case z_301 => exact Nat.le_of_ble_eq_true rfl); intro s O))
      ((refine' st_attr O ?v_302 ?o_302 ?x_302 ?d_302 ?c_302 ?z_302 ?_; (case v_302 => walk_at "ev"); (case o_302 => walk_at "ev"); (case x_302 => (walk_at "in2")); (case d_302 => (walk_at "put")); (case c_302 => (walk_at "setF")); (case z_302 => exact Nat.le_of_ble_eq_true rfl); intro s O))
      refine st_attr O (by walk_at "ev") (by walk_at "ev") (by walk_at "in2") (by walk_at "put") (by walk_at "setF") (by exact Nat.le_of_ble_eq_true rfl) fun s O => ?_
      have hL : Lay _ (undoR a ts t M) gs ge xs (as.take ts.length) := ⟨hT, by
        have := hM.st.take ts.length
        rw [hst, List.append_assoc, List.take_append_of_le_length (Nat.le_refl _), List.take_length] at this
        exact this⟩
      exact st_ret O (a := bo true) (by walk_at "ev") fun v s hv O => by cases hv; exact h _ _ _ _ _ _ _ _ hL (by (((refine' Ow.got (Ow.back O ?p_303) ?g_303); (case p_303 => (walk_at "pick")); (case g_303 => walk_at "got"))))
/-- what 'U' makes of it: taken back till nothing is left -/
inductive RunU : Nat → Mch → Mch → Prop
  | stop {k : Nat} {M M' : Mch} : TB M M' false → M.steps.length ≤ 10000 → RunU (k + 1) M M'
  | step {k : Nat} {M M₁ M' : Mch} : TB M M₁ true → M.steps.length ≤ 10000 → RunU k M₁ M' → RunU (k + 1) M M'
/-- other(key): 'U', or a key that ends -/
theorem sp_other_U {c : Cx} {A : Around} {L : Addr} {m : FM} {Γ I : Led} {s : Shared} {Q E} {R : RA} {M M' : Mch} {k : Nat} {ls : Addr} {as : List Addr} {gs ge : Nat} {xs : List Int} {tk ck : Int} {old new : List Int} {fo : Bool} {vs} (hA : Room 9 A) (hv : AVs [rf R.r, .s "U"] vs) (hR : RI c R old new fo I)
    (hM : Lay I M gs ge xs as) (O : Ow c L m (rL R ls as M gs ge xs tk ck Γ) I s) (hT : RunU k M M')
    (h : ∀ ls' as' gs' ge' xs' tk' ck' s', Lay I M' gs' ge' xs' as' → Ow c L m (rL R ls' as' M' gs' ge' xs' tk' ck' Γ) I s' → Q (.bool true) s') : wpAny c.M A (call (.ref 260) vs []) Q E s := by
  obtain ⟨r1, r2, r3, r4, r5, r6⟩ := id hR
  (((repeat (rename AVs (_ :: _) _ => hv0; cases hv0)); (repeat (rename AVs [] _ => hv0; cases hv0))))
  ((refine' call_fnZ hA O ?k6_305 ?k7_305 ?kb_305 ?k9_305 ?kM_305 ?kN_305 ?kB_305 ?c5_305 ?c2_305 ?c3_305 ?c4_305 ?_; (case k6_305 => k_is); (case k7_305 => k_is); (case kb_305 => (refine' zip_of ?pe_305 ?rest_305; (case pe_305 => conv => lhs; whnf); (case rest_305 => simp only [List.map, List.zip, List.zipWith]; rfl))); (case k9_305 => first | exact BindsTo.of_eq rfl | exact binds_K (Frag.In.keeps (Cx.kin _) (Ow.keep O)) rfl (by k_is) rfl rfl rfl); (case kM_305 => walk_at "mtb"); (case kN_305 => exact rfl); (case kB_305 => exact locs rfl); (case c5_305 => decide); (case c2_305 => exact rfl); (case c3_305 => exact rfl); (case c4_305 => exact rfl); intro L s hA O))
  refine st_ifT1 O (by walk_at "evb") (by decide) fun s O => ?_
  ((refine' st_let O ?e_306 ?_; (case e_306 => walk_at "ev"); intro s O))
  have O := Ow.nR (R := R) (M := M) O (by walk_at "got")
  refine st_while (fun k m' Γ' I' => ∃ b M ls as gs ge xs tk ck, (match b with | true => ∃ k', k = k' + 1 ∧ RunU k' M M' | false => M = M') ∧ Lay I M gs ge xs as ∧ m' = ([("self", rf R.r), ("key", .s "U"), ("is_so", bo b)] : FM) ∧ Γ' = rL R ls as M gs ge xs tk ck _ ∧ I' = I) (k := k + 1) O ⟨true, M, ls, as, gs, ge, xs, tk, ck, ⟨k, rfl, hT⟩, hM, rfl, rfl, rfl⟩ ?_
  rintro k m' Γ' I' s ⟨b, M, ls, as, gs, ge, xs, tk, ck, hb, hM, rfl, rfl, rfl⟩ O
  refine pb_use (b := b) (by walk_at "evb") O fun s O => ?_
  cases b with
  | false =>
    subst hb
    refine st_nil ?_
    exact st_ret O (a := bo true) (by walk_at "ev") fun v s hv O => by cases hv; exact h _ _ _ _ _ _ _ _ hM (by (((refine' Ow.got (Ow.back O ?p_307) ?g_307); (case p_307 => (walk_at "pick")); (case g_307 => walk_at "got"))))
  | true =>
    obtain ⟨k', rfl, hU⟩ := hb
    refine st_letc ?_
    ((refine' cl_meth O ?o_308 ?x_308 ?d_308 ?m_308 ?k_308 ?n_308 ?a_308 ?_; (case o_308 => walk_at "ev"); (case x_308 => (walk_at "in2")); (case d_308 => (walk_at "in2")); (case m_308 => (walk_at "methF")); (case k_308 => (walk_at "keep")); (case n_308 => exact rfl); (case a_308 => walk_at "evl"); intro vs s hv O))
    cases hU with
    | stop hT hsl =>
      refine sp_take_back (Room.le hA (by decide)) hv hR hM (by (((refine' Ow.got O ?g_309); (case g_309 => walk_at "got")))) hT hsl fun ls as gs ge xs tk ck s hM O => ?_
      refine st_store (a := bo false) O rfl fun s O => ?_
      exact st_nil ⟨_, _, _, ⟨0, by lia, false, _, _, _, _, _, _, _, _, rfl, hM, rfl, rfl, rfl⟩, O⟩
    | @step k'' _ M₁ _ hT hsl hr =>
      refine sp_take_back (Room.le hA (by decide)) hv hR hM (by (((refine' Ow.got O ?g_310); (case g_310 => walk_at "got")))) hT hsl fun ls as gs ge xs tk ck s hM O => ?_
      refine st_store (a := bo true) O rfl fun s O => ?_
      exact st_nil ⟨_, _, _, ⟨k'' + 1, by lia, true, _, _, _, _, _, _, _, _, ⟨k'', rfl, hr⟩, hM, rfl, rfl, rfl⟩, O⟩
theorem sp_other_end {c : Cx} {A : Around} {L : Addr} {m : FM} {Γ I : Led} {s : Shared} {Q E} {R : RA} {M : Mch} {key : Str} {ls : Addr} {as : List Addr} {gs ge : Nat} {xs : List Int} {tk ck : Int} {old new : List Int} {fo : Bool} {vs} (hA : Room 2 A) (hv : AVs [rf R.r, .s key] vs) (hR : RI c R old new fo I)
    (hM : Lay I M gs ge xs as) (O : Ow c L m (rL R ls as M gs ge xs tk ck Γ) I s) (hk : key = ("q" : Str) ∨ key = ("x" : Str))
    (h : ∀ s', Ow c L m (rL R ls as (endR M) gs ge xs tk ck Γ) I s' → Q (.bool (decide (key = ("q" : Str)))) s') : wpAny c.M A (call (.ref 260) vs []) Q E s := by
  obtain ⟨r1, r2, r3, r4, r5, r6⟩ := id hR
  (((repeat (rename AVs (_ :: _) _ => hv0; cases hv0)); (repeat (rename AVs [] _ => hv0; cases hv0))))
  ((refine' call_fnZ hA O ?k6_312 ?k7_312 ?kb_312 ?k9_312 ?kM_312 ?kN_312 ?kB_312 ?c5_312 ?c2_312 ?c3_312 ?c4_312 ?_; (case k6_312 => k_is); (case k7_312 => k_is); (case kb_312 => (refine' zip_of ?pe_312 ?rest_312; (case pe_312 => conv => lhs; whnf); (case rest_312 => simp only [List.map, List.zip, List.zipWith]; rfl))); (case k9_312 => first | exact BindsTo.of_eq rfl | exact binds_K (Frag.In.keeps (Cx.kin _) (Ow.keep O)) rfl (by k_is) rfl rfl rfl); (case kM_312 => walk_at "mtb"); (case kN_312 => exact rfl); (case kB_312 => exact locs rfl); (case c5_312 => decide); (case c2_312 => exact rfl); (case c3_312 => exact rfl); (case c4_312 => exact rfl); intro L s hA O))
  have f1 : decide (key = ("U" : Str)) = false := by rcases hk with rfl | rfl <;> decide
  have f2 : decide (key = ("c-w" : Str)) = false := by rcases hk with rfl | rfl <;> decide
  refine st_if (b := false) O (by rw [← f1]; walk_at "evb") (fun h => nomatch h) fun _ s O => ?_
  refine st_if (b := false) O (by rw [← f2]; walk_at "evb") (fun h => nomatch h) fun _ s O => ?_
  ((refine' st_attr O ?v_313 ?o_313 ?x_313 ?d_313 ?c_313 ?z_313 ?_; (case v_313 => walk_at "ev"); (case o_313 => walk_at "ev"); (case x_313 => (walk_at "in2")); (case d_313 => (walk_at "put")); (case c_313 => (walk_at "setF")); (case z_313 => exact Nat.le_of_ble_eq_true rfl); intro s O))
  refine st_ret O (pe_in (xs := ["q", "return"]) (by walk_at "ev") (pl_cons pe_str (pl_cons pe_str pl_nil)) (by decide)) fun v s hv O => ?_
  have e : (List.any [("q" : Str), "return"] fun y => y == key) = decide (key = ("q" : Str)) := by rcases hk with rfl | rfl <;> decide
  rw [e] at hv
  cases hv
  exact h _ (by (((refine' Ow.got (Ow.back O ?p_314) ?g_314); (case p_314 => (walk_at "pick")); (case g_314 => walk_at "got"))))
/-- a machine whose match stands as it was, ready to go on -/
structure GoNo (M : Mch) (a b : Nat) : Prop where
  i : M.isr = false
  s : M.start = (a : Int) + 1
  f : M.fin = (b : Int) + 1
  ab : a < b
  t : b ≤ M.text.length
  d : M.bound = M.text.length + 1
  z : M.text.length ≤ 10000
  l : M.steps.length ≤ 10000
  k : ∀ k ∈ M.text, k < 192
/-- the machine's answer to a key -/
inductive Ans (fo : Bool) (old new : List Int) : Mch → Str → Mch → Bool → Prop
  | yEnd {M M₁ : Mch} {b : Nat} : PutTo new M M₁ → GoOk M₁ b → First fo old M₁.text b none → Ans fo old new M "y" (endR M₁) true
  | yGo {M M₁ : Mch} {b p : Nat} : PutTo new M M₁ → GoOk M₁ b → First fo old M₁.text b (some p) → Ans fo old new M "y" (fndR old.length p M₁) true
  | nEnd0 {M : Mch} {b : Nat} : GoOk M b → First fo old M.text b none → Ans fo old new M "n" (endR M) true
  | nGo0 {M : Mch} {b p : Nat} : GoOk M b → First fo old M.text b (some p) → Ans fo old new M "n" (fndR old.length p M) true
  | nEnd1 {M : Mch} {a b : Nat} : GoNo M a b → First fo old M.text b none → Ans fo old new M "n" (endR (goR a b M)) true
  | nGo1 {M : Mch} {a b p : Nat} : GoNo M a b → First fo old M.text b (some p) → Ans fo old new M "n" (fndR old.length p (goR a b M)) true
  | dot {M M₁ : Mch} : PutTo new M M₁ → Ans fo old new M "." (endR M₁) true
  | comma {M M₁ : Mch} : PutTo new M M₁ → Ans fo old new M "," M₁ true
  | bang {M M' : Mch} {k : Nat} : RunN fo old new k M M' → Ans fo old new M "!" M' true
  | back0 {M : Mch} : M.steps.length ≤ ownN M → Ans fo old new M "^" M true
  | back1 {M : Mch} {ts : List StepD} {t : StepD} : M.steps.take (M.steps.length - ownN M) = ts ++ [t] → M.steps.length ≤ 10000 → t.new.length ≤ 1000 → Ans fo old new M "^" (backR ts t M) true
  | u {M M' : Mch} {r : Bool} : TB M M' r → M.steps.length ≤ 10000 → Ans fo old new M "u" M' true
  | U {M M' : Mch} {k : Nat} : RunU k M M' → Ans fo old new M "U" M' true
  | q {M : Mch} : Ans fo old new M "q" (endR M) true
  | x {M : Mch} : Ans fo old new M "x" (endR M) false
theorem First.inj {fo : Bool} {old text : List Int} {b p q : Nat} (hf : First fo old text b (some p)) (hq : First fo old text b (some q)) : q = p := by
  rcases Nat.lt_trichotomy p q with h1 | h1 | h1
  · have := hq.2.2.2 p hf.1 h1; rw [hf.2.2.1] at this; cases this
  · exact h1.symm
  · have := hf.2.2.2 q hq.1 h1; rw [hq.2.2.1] at this; cases this
theorem First.not {fo : Bool} {old text : List Int} {b p : Nat} (hf : First fo old text b (some p)) (hq : First fo old text b none) : False := by
  have := hq p hf.1 hf.2.1; rw [hf.2.2.1] at this; cases this
theorem sp_answer0 {c : Cx} {A : Around} {L : Addr} {m : FM} {Γ I : Led} {s : Shared} {Q E} {R : RA} {M : Mch} {key : Str} {ls : Addr} {as : List Addr} {gs ge : Nat} {xs : List Int} {tk ck : Int} {old new : List Int} {fo : Bool} {vs} (hA : Room 2 A) (hv : AVs [rf R.r, .s key] vs) (hR : RI c R old new fo I)
    (O : Ow c L m (rL R ls as M gs ge xs tk ck Γ) I s) (hd : M.st = ("done" : Str)) (h : ∀ s', Ow c L m (rL R ls as M gs ge xs tk ck Γ) I s' → Q (.bool false) s') : wpAny c.M A (call (.ref 253) vs []) Q E s := by
  obtain ⟨r1, r2, r3, r4, r5, r6⟩ := id hR
  (((repeat (rename AVs (_ :: _) _ => hv0; cases hv0)); (repeat (rename AVs [] _ => hv0; cases hv0))))
  ((refine' call_fnZ hA O ?k6_316 ?k7_316 ?kb_316 ?k9_316 ?kM_316 ?kN_316 ?kB_316 ?c5_316 ?c2_316 ?c3_316 ?c4_316 ?_; (case k6_316 => k_is); (case k7_316 => k_is); (case kb_316 => (refine' zip_of ?pe_316 ?rest_316; (case pe_316 => conv => lhs; whnf); (case rest_316 => simp only [List.map, List.zip, List.zipWith]; rfl))); (case k9_316 => first | exact BindsTo.of_eq rfl | exact binds_K (Frag.In.keeps (Cx.kin _) (Ow.keep O)) rfl (by k_is) rfl rfl rfl); (case kM_316 => walk_at "mtb"); (case kN_316 => exact rfl); (case kB_316 => exact locs rfl); (case c5_316 => decide); (case c2_316 => exact rfl); (case c3_316 => exact rfl); (case c4_316 => exact rfl); intro L s hA O))
  refine st_ifT1 O (by walk_at "evb") (by rw [hd]; decide) fun s O => ?_
  exact st_ret O (a := bo false) (by walk_at "ev") fun v s hv O => by cases hv; exact h _ (by (((refine' Ow.got (Ow.back O ?p_317) ?g_317); (case p_317 => (walk_at "pick")); (case g_317 => walk_at "got"))))
section
variable {fo : Bool} {old new : List Int} {M M' : Mch} {key : Str} {r : Bool}
theorem Ans.iy (h : Ans fo old new M key M' r) (hb : (["y", " "] : List Str).any (· == key) = true) :
    r = true ∧ ∃ M₁ b, PutTo new M M₁ ∧ GoOk M₁ b ∧ ((First fo old M₁.text b none ∧ M' = endR M₁) ∨ ∃ p, First fo old M₁.text b (some p) ∧ M' = fndR old.length p M₁) := by
  cases h with
  | yEnd hp hg hf => exact ⟨rfl, _, _, hp, hg, .inl ⟨hf, rfl⟩⟩
  | yGo hp hg hf => exact ⟨rfl, _, _, hp, hg, .inr ⟨_, hf, rfl⟩⟩
  | _ => exact absurd hb (by decide)
theorem Ans.iN (h : Ans fo old new M key M' r) (hb : (["n", "del"] : List Str).any (· == key) = true) :
    r = true ∧ ((∃ b, GoOk M b ∧ ((First fo old M.text b none ∧ M' = endR M) ∨ ∃ p, First fo old M.text b (some p) ∧ M' = fndR old.length p M)) ∨
      ∃ a b, GoNo M a b ∧ ((First fo old M.text b none ∧ M' = endR (goR a b M)) ∨ ∃ p, First fo old M.text b (some p) ∧ M' = fndR old.length p (goR a b M))) := by
  cases h with
  | nEnd0 hg hf => exact ⟨rfl, .inl ⟨_, hg, .inl ⟨hf, rfl⟩⟩⟩
  | nGo0 hg hf => exact ⟨rfl, .inl ⟨_, hg, .inr ⟨_, hf, rfl⟩⟩⟩
  | nEnd1 hg hf => exact ⟨rfl, .inr ⟨_, _, hg, .inl ⟨hf, rfl⟩⟩⟩
  | nGo1 hg hf => exact ⟨rfl, .inr ⟨_, _, hg, .inr ⟨_, hf, rfl⟩⟩⟩
  | _ => exact absurd hb (by decide)
theorem Ans.id (h : Ans fo old new M key M' r) (hb : decide (key = ("." : Str)) = true) : r = true ∧ ∃ M₁, PutTo new M M₁ ∧ M' = endR M₁ := by
  cases h with
  | dot hp => exact ⟨rfl, _, hp, rfl⟩
  | _ => exact absurd hb (by decide)
theorem Ans.ic (h : Ans fo old new M key M' r) (hb : decide (key = ("," : Str)) = true) : r = true ∧ PutTo new M M' := by
  cases h with
  | comma hp => exact ⟨rfl, hp⟩
  | _ => exact absurd hb (by decide)
theorem Ans.ib (h : Ans fo old new M key M' r) (hb : decide (key = ("!" : Str)) = true) : r = true ∧ ∃ k, RunN fo old new k M M' := by
  cases h with
  | bang hp => exact ⟨rfl, _, hp⟩
  | _ => exact absurd hb (by decide)
theorem Ans.ik (h : Ans fo old new M key M' r) (hb : decide (key = ("^" : Str)) = true) :
    r = true ∧ ((M.steps.length ≤ ownN M ∧ M' = M) ∨ ∃ ts t, M.steps.take (M.steps.length - ownN M) = ts ++ [t] ∧ M.steps.length ≤ 10000 ∧ t.new.length ≤ 1000 ∧ M' = backR ts t M) := by
  cases h with
  | back0 h1 => exact ⟨rfl, .inl ⟨h1, rfl⟩⟩
  | back1 h1 h2 h3 => exact ⟨rfl, .inr ⟨_, _, h1, h2, h3, rfl⟩⟩
  | _ => exact absurd hb (by decide)
theorem Ans.iu (h : Ans fo old new M key M' r) (hb : decide (key = ("u" : Str)) = true) : r = true ∧ ∃ r', TB M M' r' ∧ M.steps.length ≤ 10000 := by
  cases h with
  | u h1 h2 => exact ⟨rfl, _, h1, h2⟩
  | _ => exact absurd hb (by decide)
end
theorem sp_answer {c : Cx} {A : Around} {L : Addr} {m : FM} {Γ I : Led} {s : Shared} {Q E} {R : RA} {M M' : Mch} {key : Str} {r : Bool} {ls : Addr} {as : List Addr} {gs ge : Nat} {xs : List Int} {tk ck : Int} {old new : List Int} {fo : Bool} {vs} (hA : Room 10 A) (hv : AVs [rf R.r, .s key] vs) (hR : RI c R old new fo I)
    (hM : Lay I M gs ge xs as) (O : Ow c L m (rL R ls as M gs ge xs tk ck Γ) I s) (hd : M.st = ("asking" : Str)) (hK : Ans fo old new M key M' r) (hn : new.length ≤ 1000) (hs' : ∀ k ∈ old, k < 192) (hl : old.length ≤ 1000)
    (h : ∀ I' ls' as' gs' ge' xs' tk' ck' s', Sb I I' → Lay I' M' gs' ge' xs' as' → Ow c L m (rL R ls' as' M' gs' ge' xs' tk' ck' Γ) I' s' → Q (.bool r) s') : wpAny c.M A (call (.ref 253) vs []) Q E s := by
  obtain ⟨r1, r2, r3, r4, r5, r6⟩ := id hR
  (((repeat (rename AVs (_ :: _) _ => hv0; cases hv0)); (repeat (rename AVs [] _ => hv0; cases hv0))))
  ((refine' call_fnZ hA O ?k6_319 ?k7_319 ?kb_319 ?k9_319 ?kM_319 ?kN_319 ?kB_319 ?c5_319 ?c2_319 ?c3_319 ?c4_319 ?_; (case k6_319 => k_is); (case k7_319 => k_is); (case kb_319 => (refine' zip_of ?pe_319 ?rest_319; (case pe_319 => conv => lhs; whnf); (case rest_319 => simp only [List.map, List.zip, List.zipWith]; rfl))); (case k9_319 => first | exact BindsTo.of_eq rfl | exact binds_K (Frag.In.keeps (Cx.kin _) (Ow.keep O)) rfl (by k_is) rfl rfl rfl); (case kM_319 => walk_at "mtb"); (case kN_319 => exact rfl); (case kB_319 => exact locs rfl); (case c5_319 => decide); (case c2_319 => exact rfl); (case c3_319 => exact rfl); (case c4_319 => exact rfl); intro L s hA O))
  refine st_ifF1 O (by walk_at "evb") (by rw [hd]; decide) fun s O => ?_
  refine st_if O (pb_in (xs := ["y", " "]) (by walk_at "ev") (pl_cons pe_str (pl_cons pe_str pl_nil)) (by decide)) (fun hb s O => ?_) (fun hb s O => ?_)
  · refine st_expr ?_
    ((refine' cl_meth O ?o_320 ?x_320 ?d_320 ?m_320 ?k_320 ?n_320 ?a_320 ?_; (case o_320 => walk_at "ev"); (case x_320 => (walk_at "in2")); (case d_320 => (walk_at "in2")); (case m_320 => (walk_at "methF")); (case k_320 => (walk_at "keep")); (case n_320 => exact rfl); (case a_320 => walk_at "evl"); intro vs s hv O))
    obtain ⟨rfl, M₁, b₁, hp, hg, hf⟩ := hK.iy hb
    refine sp_putTo (Room.le hA (by decide)) hv hR hM (by (((refine' Ow.got O ?g_321); (case g_321 => walk_at "got")))) hp hn fun I₂ as gs ge xs tk ck s hS₂ hM O => ?_
    have hR := hR.sb hS₂
    obtain ⟨r1, r2, r3, r4, r5, r6⟩ := id hR
    refine st_expr ?_
    ((refine' cl_meth O ?o_322 ?x_322 ?d_322 ?m_322 ?k_322 ?n_322 ?a_322 ?_; (case o_322 => walk_at "ev"); (case x_322 => (walk_at "in2")); (case d_322 => (walk_at "in2")); (case m_322 => (walk_at "methF")); (case k_322 => (walk_at "keep")); (case n_322 => exact rfl); (case a_322 => walk_at "evl"); intro vs s hv O))
    obtain ⟨e1, e2, e3, e4, e5, ⟨ts, t, e6, e7, e8⟩, e9, e10⟩ := hg
    refine sp_go_on0 (Room.le hA (by decide)) hv hR hM (by (((refine' Ow.got O ?g_323); (case g_323 => walk_at "got")))) e1 e2 e3 e4 e5 e6 e7 e8 e9 e10 hs' hl (fun q s hq O => ?_) (fun s hq O => ?_)
    · rcases hf with ⟨hf, -⟩ | ⟨p, hf, rfl⟩
      · exact (hq.not hf).elim
      · cases hf.inj hq
        exact st_nil (st_ret O (a := bo true) (by walk_at "ev") fun v s hv O => by cases hv; exact h _ _ _ _ _ _ _ _ _ hS₂ ⟨hM.tx, hM.st⟩ (by (((refine' Ow.got (Ow.back O ?p_324) ?g_324); (case p_324 => (walk_at "pick")); (case g_324 => walk_at "got")))))
    · rcases hf with ⟨hf, rfl⟩ | ⟨p, hf, -⟩
      · exact st_nil (st_ret O (a := bo true) (by walk_at "ev") fun v s hv O => by cases hv; exact h _ _ _ _ _ _ _ _ _ hS₂ ⟨hM.tx, hM.st⟩ (by (((refine' Ow.got (Ow.back O ?p_325) ?g_325); (case p_325 => (walk_at "pick")); (case g_325 => walk_at "got")))))
      · exact (hf.not hq).elim
  refine st_if O (pb_in (xs := ["n", "del"]) (by walk_at "ev") (pl_cons pe_str (pl_cons pe_str pl_nil)) (by decide)) (fun hb s O => ?_) (fun hb2 s O => ?_)
  · refine st_expr ?_
    ((refine' cl_meth O ?o_326 ?x_326 ?d_326 ?m_326 ?k_326 ?n_326 ?a_326 ?_; (case o_326 => walk_at "ev"); (case x_326 => (walk_at "in2")); (case d_326 => (walk_at "in2")); (case m_326 => (walk_at "methF")); (case k_326 => (walk_at "keep")); (case n_326 => exact rfl); (case a_326 => walk_at "evl"); intro vs s hv O))
    obtain ⟨rfl, ⟨b₁, hg, hf⟩ | ⟨a₁, b₁, hg, hf⟩⟩ := hK.iN hb
    · obtain ⟨e1, e2, e3, e4, e5, ⟨ts, t, e6, e7, e8⟩, e9, e10⟩ := hg
      refine sp_go_on0 (Room.le hA (by decide)) hv hR hM (by (((refine' Ow.got O ?g_327); (case g_327 => walk_at "got")))) e1 e2 e3 e4 e5 e6 e7 e8 e9 e10 hs' hl (fun q s hq O => ?_) (fun s hq O => ?_)
      · rcases hf with ⟨hf, -⟩ | ⟨p, hf, rfl⟩
        · exact (hq.not hf).elim
        · cases hf.inj hq
          exact st_nil (st_nil (st_ret O (a := bo true) (by walk_at "ev") fun v s hv O => by cases hv; exact h _ _ _ _ _ _ _ _ _ Sb.refl ⟨hM.tx, hM.st⟩ (by (((refine' Ow.got (Ow.back O ?p_328) ?g_328); (case p_328 => (walk_at "pick")); (case g_328 => walk_at "got"))))))
      · rcases hf with ⟨hf, rfl⟩ | ⟨p, hf, -⟩
        · exact st_nil (st_nil (st_ret O (a := bo true) (by walk_at "ev") fun v s hv O => by cases hv; exact h _ _ _ _ _ _ _ _ _ Sb.refl ⟨hM.tx, hM.st⟩ (by (((refine' Ow.got (Ow.back O ?p_329) ?g_329); (case p_329 => (walk_at "pick")); (case g_329 => walk_at "got"))))))
        · exact (hf.not hq).elim
    · obtain ⟨e1, e2, e3, e4, e5, e6, e7, e8, e9⟩ := hg
      refine sp_go_on1 (Room.le hA (by decide)) hv hR hM (by (((refine' Ow.got O ?g_330); (case g_330 => walk_at "got")))) e1 e2 e3 e4 e5 e6 e7 e8 e9 hs' hl (fun q I' as s hS hM hq O => ?_) (fun I' as s hS hM hq O => ?_)
      · rcases hf with ⟨hf, -⟩ | ⟨p, hf, rfl⟩
        · exact (hq.not hf).elim
        · cases hf.inj hq
          exact st_nil (st_nil (st_ret O (a := bo true) (by walk_at "ev") fun v s hv O => by cases hv; exact h _ _ _ _ _ _ _ _ _ hS ⟨hM.tx, hM.st⟩ (by (((refine' Ow.got (Ow.back O ?p_331) ?g_331); (case p_331 => (walk_at "pick")); (case g_331 => walk_at "got"))))))
      · rcases hf with ⟨hf, rfl⟩ | ⟨p, hf, -⟩
        · exact st_nil (st_nil (st_ret O (a := bo true) (by walk_at "ev") fun v s hv O => by cases hv; exact h _ _ _ _ _ _ _ _ _ hS ⟨hM.tx, hM.st⟩ (by (((refine' Ow.got (Ow.back O ?p_332) ?g_332); (case p_332 => (walk_at "pick")); (case g_332 => walk_at "got"))))))
        · exact (hf.not hq).elim
  refine st_if (b := decide (key = ("." : Str))) O (by walk_at "evb") (fun hb s O => ?_) (fun hb3 s O => ?_)
  · refine st_expr ?_
    ((refine' cl_meth O ?o_333 ?x_333 ?d_333 ?m_333 ?k_333 ?n_333 ?a_333 ?_; (case o_333 => walk_at "ev"); (case x_333 => (walk_at "in2")); (case d_333 => (walk_at "in2")); (case m_333 => (walk_at "methF")); (case k_333 => (walk_at "keep")); (case n_333 => exact rfl); (case a_333 => walk_at "evl"); intro vs s hv O))
    obtain ⟨rfl, M₁, hp, rfl⟩ := hK.id hb
    refine sp_putTo (Room.le hA (by decide)) hv hR hM (by (((refine' Ow.got O ?g_334); (case g_334 => walk_at "got")))) hp hn fun I₂ as gs ge xs tk ck s hS₂ hM O => ?_
    have hR := hR.sb hS₂
    obtain ⟨r1, r2, r3, r4, r5, r6⟩ := id hR
    ((refine' st_attr O ?v_335 ?o_335 ?x_335 ?d_335 ?c_335 ?z_335 ?_; (case v_335 => walk_at "ev"); (case o_335 => walk_at "ev"); (case x_335 => (walk_at "in2")); (case d_335 => (walk_at "put")); (case c_335 => (walk_at "setF")); (case z_335 => exact Nat.le_of_ble_eq_true rfl); intro s O))
    exact st_nil (st_nil (st_nil (st_ret O (a := bo true) (by walk_at "ev") fun v s hv O => by cases hv; exact h _ _ _ _ _ _ _ _ _ hS₂ ⟨hM.tx, hM.st⟩ (by (((refine' Ow.got (Ow.back O ?p_336) ?g_336); (case p_336 => (walk_at "pick")); (case g_336 => walk_at "got")))))))
  refine st_if (b := decide (key = ("," : Str))) O (by walk_at "evb") (fun hb s O => ?_) (fun hb4 s O => ?_)
  · refine st_expr ?_
    ((refine' cl_meth O ?o_337 ?x_337 ?d_337 ?m_337 ?k_337 ?n_337 ?a_337 ?_; (case o_337 => walk_at "ev"); (case x_337 => (walk_at "in2")); (case d_337 => (walk_at "in2")); (case m_337 => (walk_at "methF")); (case k_337 => (walk_at "keep")); (case n_337 => exact rfl); (case a_337 => walk_at "evl"); intro vs s hv O))
    obtain ⟨rfl, hp⟩ := hK.ic hb
    refine sp_putTo (Room.le hA (by decide)) hv hR hM (by (((refine' Ow.got O ?g_338); (case g_338 => walk_at "got")))) hp hn fun I₂ as gs ge xs tk ck s hS₂ hM O => ?_
    exact st_nil (st_nil (st_nil (st_nil (st_ret O (a := bo true) (by walk_at "ev") fun v s hv O => by cases hv; exact h _ _ _ _ _ _ _ _ _ hS₂ ⟨hM.tx, hM.st⟩ (by (((refine' Ow.got (Ow.back O ?p_339) ?g_339); (case p_339 => (walk_at "pick")); (case g_339 => walk_at "got"))))))))
  refine st_if (b := decide (key = ("!" : Str))) O (by walk_at "evb") (fun hb s O => ?_) (fun hb5 s O => ?_)
  · refine st_expr ?_
    ((refine' cl_meth O ?o_340 ?x_340 ?d_340 ?m_340 ?k_340 ?n_340 ?a_340 ?_; (case o_340 => walk_at "ev"); (case x_340 => (walk_at "in2")); (case d_340 => (walk_at "in2")); (case m_340 => (walk_at "methF")); (case k_340 => (walk_at "keep")); (case n_340 => exact rfl); (case a_340 => walk_at "evl"); intro vs s hv O))
    obtain ⟨rfl, k₁, hp⟩ := hK.ib hb
    refine sp_put_all (Room.le hA (by decide)) hv hR hM (by (((refine' Ow.got O ?g_341); (case g_341 => walk_at "got")))) hp hn hs' hl fun I₂ as gs ge xs tk ck s hS₂ hM O => ?_
    exact st_nil (st_nil (st_nil (st_nil (st_nil (st_ret O (a := bo true) (by walk_at "ev") fun v s hv O => by cases hv; exact h _ _ _ _ _ _ _ _ _ hS₂ ⟨hM.tx, hM.st⟩ (by (((refine' Ow.got (Ow.back O ?p_342) ?g_342); (case p_342 => (walk_at "pick")); (case g_342 => walk_at "got")))))))))
  refine st_if (b := decide (key = ("^" : Str))) O (by walk_at "evb") (fun hb s O => ?_) (fun hb6 s O => ?_)
  · refine st_expr ?_
    ((refine' cl_meth O ?o_343 ?x_343 ?d_343 ?m_343 ?k_343 ?n_343 ?a_343 ?_; (case o_343 => walk_at "ev"); (case x_343 => (walk_at "in2")); (case d_343 => (walk_at "in2")); (case m_343 => (walk_at "methF")); (case k_343 => (walk_at "keep")); (case n_343 => exact rfl); (case a_343 => walk_at "evl"); intro vs s hv O))
    obtain ⟨rfl, ⟨hst, rfl⟩ | ⟨ts₁, t₁, hst, hsl, htl, rfl⟩⟩ := hK.ik hb
    · refine sp_go_back0 (Room.le hA (by decide)) hv hR hM (by (((refine' Ow.got O ?g_344); (case g_344 => walk_at "got")))) hst fun s O => ?_
      exact st_nil (st_nil (st_nil (st_nil (st_nil (st_nil (st_ret O (a := bo true) (by walk_at "ev") fun v s hv O => by cases hv; exact h _ _ _ _ _ _ _ _ _ Sb.refl ⟨hM.tx, hM.st⟩ (by (((refine' Ow.got (Ow.back O ?p_345) ?g_345); (case p_345 => (walk_at "pick")); (case g_345 => walk_at "got"))))))))))
    · refine sp_go_back (Room.le hA (by decide)) hv hR hM (by (((refine' Ow.got O ?g_346); (case g_346 => walk_at "got")))) hst hsl htl fun ls as s hM O => ?_
      exact st_nil (st_nil (st_nil (st_nil (st_nil (st_nil (st_ret O (a := bo true) (by walk_at "ev") fun v s hv O => by cases hv; exact h _ _ _ _ _ _ _ _ _ Sb.refl ⟨hM.tx, hM.st⟩ (by (((refine' Ow.got (Ow.back O ?p_347) ?g_347); (case p_347 => (walk_at "pick")); (case g_347 => walk_at "got"))))))))))
  refine st_if (b := decide (key = ("u" : Str))) O (by walk_at "evb") (fun hb s O => ?_) (fun hb7 s O => ?_)
  · refine st_expr ?_
    ((refine' cl_meth O ?o_348 ?x_348 ?d_348 ?m_348 ?k_348 ?n_348 ?a_348 ?_; (case o_348 => walk_at "ev"); (case x_348 => (walk_at "in2")); (case d_348 => (walk_at "in2")); (case m_348 => (walk_at "methF")); (case k_348 => (walk_at "keep")); (case n_348 => exact rfl); (case a_348 => walk_at "evl"); intro vs s hv O))
    obtain ⟨rfl, r', hT, hsl⟩ := hK.iu hb
    refine sp_take_back (Room.le hA (by decide)) hv hR hM (by (((refine' Ow.got O ?g_349); (case g_349 => walk_at "got")))) hT hsl fun ls as gs ge xs tk ck s hM O => ?_
    exact st_nil (st_nil (st_nil (st_nil (st_nil (st_nil (st_nil (st_ret O (a := bo true) (by walk_at "ev") fun v s hv O => by cases hv; exact h _ _ _ _ _ _ _ _ _ Sb.refl ⟨hM.tx, hM.st⟩ (by (((refine' Ow.got (Ow.back O ?p_350) ?g_350); (case p_350 => (walk_at "pick")); (case g_350 => walk_at "got")))))))))))
  refine st_retc ?_
  ((refine' cl_meth O ?o_351 ?x_351 ?d_351 ?m_351 ?k_351 ?n_351 ?a_351 ?_; (case o_351 => walk_at "ev"); (case x_351 => (walk_at "in2")); (case d_351 => (walk_at "in2")); (case m_351 => (walk_at "methF")); (case k_351 => (walk_at "keep")); (case n_351 => exact rfl); (case a_351 => walk_at "evl"); intro vs s hv O))
  cases hK with
  | U hT =>
    exact sp_other_U (Room.le hA (by decide)) hv hR hM (by (((refine' Ow.got O ?g_352); (case g_352 => walk_at "got")))) hT fun ls as gs ge xs tk ck s hM O => h _ _ _ _ _ _ _ _ _ Sb.refl ⟨hM.tx, hM.st⟩ (by (((refine' Ow.got (Ow.back O ?p_353) ?g_353); (case p_353 => (walk_at "pick")); (case g_353 => walk_at "got"))))
  | q =>
    exact sp_other_end (Room.le hA (by decide)) hv hR hM (by (((refine' Ow.got O ?g_354); (case g_354 => walk_at "got")))) (.inl rfl) fun s O => h _ _ _ _ _ _ _ _ _ Sb.refl ⟨hM.tx, hM.st⟩ (by (((refine' Ow.got (Ow.back O ?p_355) ?g_355); (case p_355 => (walk_at "pick")); (case g_355 => walk_at "got"))))
  | x =>
    exact sp_other_end (Room.le hA (by decide)) hv hR hM (by (((refine' Ow.got O ?g_356); (case g_356 => walk_at "got")))) (.inr rfl) fun s O => h _ _ _ _ _ _ _ _ _ Sb.refl ⟨hM.tx, hM.st⟩ (by (((refine' Ow.got (Ow.back O ?p_357) ?g_357); (case p_357 => (walk_at "pick")); (case g_357 => walk_at "got"))))
  | _ => first | exact absurd hb (by decide) | exact absurd hb2 (by decide) | exact absurd hb3 (by decide) | exact absurd hb4 (by decide) | exact absurd hb5 (by decide) | exact absurd hb6 (by decide) | exact absurd hb7 (by decide)
theorem PutC.permC {a : Addr} {P : Obj → Prop} {Γ : Led} {C : (Obj → Prop) → Led} (h : PutC a P Γ C) : ∃ R, ∀ P', (C P').Perm ((a, P') :: R) := by
  induction h with
  | here => exact ⟨_, fun _ => .refl _⟩
  | there _ ih => obtain ⟨R, h⟩ := ih; exact ⟨_, fun P' => ((h P').cons _).trans (.swap ..)⟩
theorem PutC.weak {c : Cx} {L : Addr} {m : FM} {Γ I : Led} {s : Shared} {a : Addr} {P P₁ P₂ : Obj → Prop} {C : (Obj → Prop) → Led} (h : PutC a P Γ C) (O : Ow c L m (C P₁) I s) (k : ∀ o, P₁ o → P₂ o) : Ow c L m (C P₂) I s := by
  obtain ⟨R, hR⟩ := h.permC
  exact ((O.perm (hR P₁)).weak k).perm (hR P₂).symm
theorem isF_new {fm : FM} {f : Str} {a : AV} (hn : gl fm f = none) : ∀ o, isF (sl fm f a) o → isF ((f, a) :: fm) o := by
  rintro o ⟨es, n, h1, h2, h3, h4⟩
  refine ⟨es, n, h1, h2, ?_, fun x => ?_⟩
  · rw [sl_length, hn] at h3; exact h3
  · have := h4 x
    rw [gl_sl] at this
    exact this
theorem st_attrN {c : Cx} {A : Around} {env : Env} {m : FM} {Γ I : Led} {s : Shared} {pos : Pos} {E : Value → Shared → Prop} {C' : (Obj → Prop) → Led} {value o : Expr} {x C d : Addr} {fm : FM} {f : Str} {a : AV} {Q : Flow → Shared → Prop} {rest : List Stmt} {p' : Pos} (O : Ow c env.locals m Γ I s) (hv : PE c A env m Γ I value a) (ho : PE c A env m Γ I o (rf x))
    (hx : In2 x (isI C d) Γ I) (hd : PutC d (isF fm) Γ C') (hc : SetF (Mine.K c.w.params) C f) (hn : gl fm f = none) (hz : fm.length ≤ 800)
    (h : ∀ s', Ow c env.locals m (C' (isF ((f, a) :: fm))) I s' → wpAny c.M A (execs rest env) Q E s')
    (hs : swapsWith value (some (.Attribute o f p')) pos.line env = pure false := by rfl) :
    wpAny c.M A (execs (.Assign [.Attribute o f p'] value pos :: rest) env) Q E s :=
  st_attr O hv ho hx hd hc hz (fun s' O' => h s' (hd.weak O' (isF_new hn))) hs
theorem ss_attrN {c : Cx} {A : Around} {env : Env} {m : FM} {Γ I : Led} {s : Shared} {E : Value → Shared → Prop} {C' : (Obj → Prop) → Led} {o : Expr} {x C d : Addr} {fm : FM} {f : Str} {v : Value} {a : AV} {Q : Unit → Shared → Prop} (O : Ow c env.locals m Γ I s) (hv : a.is v) (ho : PE c A env m Γ I o (rf x))
    (hx : In2 x (isI C d) Γ I) (hd : PutC d (isF fm) Γ C') (hc : SetF (Mine.K c.w.params) C f) (hn : gl fm f = none) (hz : fm.length ≤ 800)
    (h : ∀ s', Ow c env.locals m (C' (isF ((f, a) :: fm))) I s' → Q () s') :
    wpAny c.M A (eval o env) (fun ov s₂ => wpAny c.M A (setAttr ov f v) Q E s₂) E s := ss_attr O hv ho hx hd hc hz fun s' O' => h s' (hd.weak O' (isF_new hn))
noncomputable def nodupF : FM → Bool
  | [] => true
  | p :: r => r.all (fun q => !(q.1 == p.1)) && nodupF r
theorem gl_app (a b : FM) (x : Str) : gl (a ++ b) x = (gl a x).or (gl b x) := by
  induction a with
  | nil => rfl
  | cons p r ih =>
    obtain ⟨y, v⟩ := p
    simp only [List.cons_append, gl]
    by_cases h : x = y
    · simp [h]
    · simp only [if_neg h, ih]
theorem gl_none {m : FM} {x : Str} (h : m.all (fun q => !(q.1 == x)) = true) : gl m x = none := by
  induction m with
  | nil => rfl
  | cons p r ih =>
    obtain ⟨y, v⟩ := p
    simp only [List.all_cons, Bool.and_eq_true] at h
    have : x ≠ y := by rintro rfl; simp at h
    simp only [gl, if_neg this]; exact ih h.2
theorem gl_rev {m : FM} (h : nodupF m = true) (x : Str) : gl m.reverse x = gl m x := by
  induction m with
  | nil => rfl
  | cons p r ih =>
    obtain ⟨y, v⟩ := p
    simp only [nodupF, Bool.and_eq_true] at h
    rw [List.reverse_cons, gl_app, ih h.2]
    simp only [gl]
    by_cases hx : x = y
    · subst hx; rw [gl_none h.1]; simp
    · rw [if_neg hx]; simp [hx]
theorem isF_rev {m : FM} (h : nodupF m = true) : ∀ o, isF m.reverse o → isF m o := by
  rintro o ⟨es, n, h1, h2, h3, h4⟩
  exact ⟨es, n, h1, h2, by simpa using h3, fun x => by rw [← gl_rev h x]; exact h4 x⟩
theorem pe_use {c : Cx} {A : Around} {env : Env} {m : FM} {Γ I : Led} {s : Shared} {t : Expr} {a : AV} {Q : Value → Shared → Prop} {E : Value → Shared → Prop} (ht : PE c A env m Γ I t a) (O : Ow c env.locals m Γ I s) (h : ∀ v s', a.is v → Ow c env.locals m Γ I s' → Q v s') : wpAny c.M A (eval t env) Q E s :=
  ht _ _ _ O h
theorem cl_refC {c : Cx} {A : Around} {env : Env} {m : FM} {Γ I : Led} {s : Shared} {pos : Pos} {Q : Value → Shared → Prop} {E : Value → Shared → Prop} {f : Expr} {fa : Addr} {args : List Expr} (O : Ow c env.locals m Γ I s) (hf : PE c A env m Γ I f (rf fa)) (hk : keepIn (Mine.K c.w.params) (.ref fa) = true)
    (h : ∀ s', Ow c env.locals m Γ I s' → wpAny c.M A (spliced (backTo pos (starEach args env))) (fun vs s₂ => (Mine.K c.w.params).In s₂.heap ∧ wpAny c.M A (call (.ref fa) vs []) Q E s₂) E s')
    (he : eval (.Call f args [] pos) env = (do callWith pos (← eval f env) [] (backTo pos (starEach args env)) (backToKw pos (keywordEach [] env))) := by rfl)
    (hp : plainArgs args = true := by rfl) : wpAny c.M A (eval (.Call f args [] pos) env) Q E s := by
  refine Call_ ?_ he
  refine hf _ _ _ O fun v s' e O' => ?_
  cases e
  exact callWith_of (P := fun h => (Mine.K c.w.params).In h) (by rw [splicedPlain hp]; rfl) (keeps_K hk) (evalArgs_any (splicedPlain hp) (h s' O'))
theorem Ow.kin {c : Cx} {L : Addr} {m : FM} {Γ I : Led} {s : Shared} (O : Ow c L m Γ I s) : (Mine.K c.w.params).In s.heap := c.kin.keeps O.keep

/-MAC-/
theorem sp_GapText {c : Cx} {A : Around} {L : Addr} {m : FM} {Γ I : Led} {s : Shared} {Q E} {cr : Addr} {vs} (hA : Room 3 A) (hv : AVs [rf cr, .i 8] vs) (O : Ow c L m Γ I s) (hcr : In2 cr (isInts []) Γ I)
    (h : ∀ t dt cl s', Ow c L m ((t, isI 354 dt) :: (dt, isG cl 0 8) :: (cl, isInts (List.replicate 8 0)) :: Γ) I s' → Q (.ref t) s') : wpAny c.M A (call (.ref 354) vs []) Q E s := by
  (((repeat (rename AVs (_ :: _) _ => hv0; cases hv0)); (repeat (rename AVs [] _ => hv0; cases hv0))))
  rename_i v1 _ v2 _
  ((refine' call_new (C := 354) (fI := 281) (binds := fun x => [("self", Value.ref x), ("codes", v1), ("room", v2)]) hA O ?m_359 ?i_359 ?f_359 ?k6_359 ?k7_359 ?k9_359 ?kM_359 ?kN_359 ?kB_359 ?c5_359 ?c2_359 ?c3_359 ?c4_359 ?_; (case m_359 => exact InitF.m in_354); (case i_359 => exact InitF.i in_354); (case f_359 => exact InitF.f in_354); (case k6_359 => k_is); (case k7_359 => k_is); (case k9_359 => (intro _ _ _; exact BindsTo.of_eq rfl)); (case kM_359 => (intro _; walk_at "mtb")); (case kN_359 => (intro _; exact rfl)); (case kB_359 => (intro _; exact locs rfl)); (case c5_359 => decide); (case c2_359 => exact rfl); (case c3_359 => exact rfl); (case c4_359 => exact rfl); intro A x dx L s hA O))
  ((refine' st_attr O ?v_360 ?o_360 ?x_360 ?d_360 ?c_360 ?z_360 ?_; (case v_360 => walk_at "ev"); (case o_360 => walk_at "ev"); (case x_360 => (walk_at "in2")); (case d_360 => (walk_at "put")); (case c_360 => (walk_at "setF")); (case z_360 => exact Nat.le_of_ble_eq_true rfl); intro s O))
  refine st_attrC (wpAny_BinOp (cl_ty O (by walk_at "name") (by walk_at "evl") fun vs s hv O => ?_))
  obtain rfl := AVs_r1 hv
  refine cn_copy (f := AV.i) (xs := []) O (by walk_at "in2") (by decide) fun l1 s O => ?_
  refine wpAny_BinOp (cn_display AV.i (xs := [0]) O (pl_cons pe_int pl_nil) (by decide) fun l2 s O => ?_)
  refine pe_use (a := .i 8) (by walk_at "ev") O fun v s hv O => ?_
  obtain ⟨tk, rfl⟩ := hv
  refine cn_rep (f := AV.i) (x := 0) O (by walk_at "in2") (by decide) (by decide) fun l3 s O => ?_
  refine cn_add O (by walk_at "in2") (by walk_at "in2") (by decide) fun l4 s O => ?_
  refine ss_attr (a := rf l4) O rfl (by walk_at "ev") (by walk_at "in2") (by walk_at "put") (by walk_at "setF") (by exact Nat.le_of_ble_eq_true rfl) fun s O => ?_
  ((refine' st_attr O ?v_361 ?o_361 ?x_361 ?d_361 ?c_361 ?z_361 ?_; (case v_361 => walk_at "ev"); (case o_361 => walk_at "ev"); (case x_361 => (walk_at "in2")); (case d_361 => (walk_at "put")); (case c_361 => (walk_at "setF")); (case z_361 => exact Nat.le_of_ble_eq_true rfl); intro s O))
  ((refine' st_attr O ?v_362 ?o_362 ?x_362 ?d_362 ?c_362 ?z_362 ?_; (case v_362 => walk_at "ev"); (case o_362 => walk_at "ev"); (case x_362 => (walk_at "in2")); (case d_362 => (walk_at "put")); (case c_362 => (walk_at "setF")); (case z_362 => exact Nat.le_of_ble_eq_true rfl); intro s O))
  exact st_nil ⟨rfl, h _ _ _ _ (by (((refine' Ow.got (Ow.back O ?p_363) ?g_363); (case p_363 => (walk_at "pick")); (case g_363 => walk_at "got"))))⟩
theorem sp_Markers {c : Cx} {A : Around} {L : Addr} {m : FM} {Γ I : Led} {s : Shared} {Q E} {vs} (hA : Room 3 A) (hv : AVs [] vs) (O : Ow c L m Γ I s)
    (h : ∀ t d r s', Ow c L m ((t, isI 424 d) :: (d, isF [("rows", rf r)]) :: (r, isM c []) :: Γ) I s' → Q (.ref t) s') : wpAny c.M A (call (.ref 424) vs []) Q E s := by
  (((repeat (rename AVs (_ :: _) _ => hv0; cases hv0)); (repeat (rename AVs [] _ => hv0; cases hv0))))
  ((refine' call_new (C := 424) (fI := 372) (binds := fun x => [("self", Value.ref x)]) hA O ?m_365 ?i_365 ?f_365 ?k6_365 ?k7_365 ?k9_365 ?kM_365 ?kN_365 ?kB_365 ?c5_365 ?c2_365 ?c3_365 ?c4_365 ?_; (case m_365 => exact InitF.m in_424); (case i_365 => exact InitF.i in_424); (case f_365 => exact InitF.f in_424); (case k6_365 => k_is); (case k7_365 => k_is); (case k9_365 => (intro _ _ _; exact BindsTo.of_eq rfl)); (case kM_365 => (intro _; walk_at "mtb")); (case kN_365 => (intro _; exact rfl)); (case kB_365 => (intro _; exact locs rfl)); (case c5_365 => decide); (case c2_365 => exact rfl); (case c3_365 => exact rfl); (case c4_365 => exact rfl); intro A x dx L s hA O))
  refine st_attrC (cn_dict0 O fun r s O => ?_)
  refine ss_attr (a := rf r) O rfl (by walk_at "ev") (by walk_at "in2") (by walk_at "put") (by walk_at "setF") (by exact Nat.le_of_ble_eq_true rfl) fun s O => ?_
  exact st_nil ⟨rfl, h _ _ _ _ (by (((refine' Ow.got (Ow.back O ?p_366) ?g_366); (case p_366 => (walk_at "pick")); (case g_366 => walk_at "got"))))⟩
theorem sp_Literal {c : Cx} {A : Around} {L : Addr} {m : FM} {Γ I : Led} {s : Shared} {Q E} {cr : Addr} {b : Bool} {vs} (hA : Room 3 A) (hv : AVs [rf cr, bo b] vs) (O : Ow c L m Γ I s)
    (h : ∀ t d s', Ow c L m ((t, isI 612 d) :: (d, isF [("codes", rf cr), ("is_folded", bo b)]) :: Γ) I s' → Q (.ref t) s') : wpAny c.M A (call (.ref 612) vs []) Q E s := by
  (((repeat (rename AVs (_ :: _) _ => hv0; cases hv0)); (repeat (rename AVs [] _ => hv0; cases hv0))))
  rename_i v1 _ v2 _
  ((refine' call_new (C := 612) (fI := 595) (binds := fun x => [("self", Value.ref x), ("codes", v1), ("is_folded", v2)]) hA O ?m_368 ?i_368 ?f_368 ?k6_368 ?k7_368 ?k9_368 ?kM_368 ?kN_368 ?kB_368 ?c5_368 ?c2_368 ?c3_368 ?c4_368 ?_; (case m_368 => exact InitF.m in_612); (case i_368 => exact InitF.i in_612); (case f_368 => exact InitF.f in_612); (case k6_368 => k_is); (case k7_368 => k_is); (case k9_368 => (intro _ _ _; exact BindsTo.of_eq rfl)); (case kM_368 => (intro _; walk_at "mtb")); (case kN_368 => (intro _; exact rfl)); (case kB_368 => (intro _; exact locs rfl)); (case c5_368 => decide); (case c2_368 => exact rfl); (case c3_368 => exact rfl); (case c4_368 => exact rfl); intro A x dx L s hA O))
  ((refine' st_attr O ?v_369 ?o_369 ?x_369 ?d_369 ?c_369 ?z_369 ?_; (case v_369 => walk_at "ev"); (case o_369 => walk_at "ev"); (case x_369 => (walk_at "in2")); (case d_369 => (walk_at "put")); (case c_369 => (walk_at "setF")); (case z_369 => exact Nat.le_of_ble_eq_true rfl); intro s O))
  ((refine' st_attr O ?v_370 ?o_370 ?x_370 ?d_370 ?c_370 ?z_370 ?_; (case v_370 => walk_at "ev"); (case o_370 => walk_at "ev"); (case x_370 => (walk_at "in2")); (case d_370 => (walk_at "put")); (case c_370 => (walk_at "setF")); (case z_370 => exact Nat.le_of_ble_eq_true rfl); intro s O))
  exact st_nil ⟨rfl, h _ _ _ (by (((refine' Ow.got (Ow.back O ?p_371) ?g_371); (case p_371 => (walk_at "pick")); (case g_371 => walk_at "got"))))⟩
theorem sp_Plain {c : Cx} {A : Around} {L : Addr} {m : FM} {Γ I : Led} {s : Shared} {Q E} {cr : Addr} {vs} (hA : Room 3 A) (hv : AVs [rf cr] vs) (O : Ow c L m Γ I s)
    (h : ∀ t d s', Ow c L m ((t, isI 158 d) :: (d, isF [("codes", rf cr)]) :: Γ) I s' → Q (.ref t) s') : wpAny c.M A (call (.ref 158) vs []) Q E s := by
  (((repeat (rename AVs (_ :: _) _ => hv0; cases hv0)); (repeat (rename AVs [] _ => hv0; cases hv0))))
  rename_i v1 _
  ((refine' call_new (C := 158) (fI := 148) (binds := fun x => [("self", Value.ref x), ("codes", v1)]) hA O ?m_373 ?i_373 ?f_373 ?k6_373 ?k7_373 ?k9_373 ?kM_373 ?kN_373 ?kB_373 ?c5_373 ?c2_373 ?c3_373 ?c4_373 ?_; (case m_373 => exact InitF.m in_158); (case i_373 => exact InitF.i in_158); (case f_373 => exact InitF.f in_158); (case k6_373 => k_is); (case k7_373 => k_is); (case k9_373 => (intro _ _ _; exact BindsTo.of_eq rfl)); (case kM_373 => (intro _; walk_at "mtb")); (case kN_373 => (intro _; exact rfl)); (case kB_373 => (intro _; exact locs rfl)); (case c5_373 => decide); (case c2_373 => exact rfl); (case c3_373 => exact rfl); (case c4_373 => exact rfl); intro A x dx L s hA O))
  ((refine' st_attr O ?v_374 ?o_374 ?x_374 ?d_374 ?c_374 ?z_374 ?_; (case v_374 => walk_at "ev"); (case o_374 => walk_at "ev"); (case x_374 => (walk_at "in2")); (case d_374 => (walk_at "put")); (case c_374 => (walk_at "setF")); (case z_374 => exact Nat.le_of_ble_eq_true rfl); intro s O))
  exact st_nil ⟨rfl, h _ _ _ (by (((refine' Ow.got (Ow.back O ?p_375) ?g_375); (case p_375 => (walk_at "pick")); (case g_375 => walk_at "got"))))⟩
set_option maxHeartbeats 2000000 in
theorem sp_Buffer {c : Cx} {A : Around} {L : Addr} {m : FM} {Γ I : Led} {s : Shared} {Q E} {vs} (hA : Room 7 A) (hv : AVs [.i 1, .s "a"] vs) (O : Ow c L m Γ I s)
    (h : ∀ B I' s', Sb I I' → BI c B I' → Ow c L m (bL B 0 8 (List.replicate 8 0) 1 1 1 1 Γ) I' s' → Q (.ref B.b) s') : wpAny c.M A (call (.ref 565) vs []) Q E s := by
  (((repeat (rename AVs (_ :: _) _ => hv0; cases hv0)); (repeat (rename AVs [] _ => hv0; cases hv0))))
  rename_i v1 _ v2 _
  ((refine' call_new (C := 565) (fI := 478) (binds := fun x => [("self", Value.ref x), ("number", v1), ("name", v2), ("room", Value.int 8 843)]) hA O ?m_377 ?i_377 ?f_377 ?k6_377 ?k7_377 ?k9_377 ?kM_377 ?kN_377 ?kB_377 ?c5_377 ?c2_377 ?c3_377 ?c4_377 ?_; (case m_377 => exact InitF.m in_565); (case i_377 => exact InitF.i in_565); (case f_377 => exact InitF.f in_565); (case k6_377 => k_is); (case k7_377 => k_is); (case k9_377 => (intro _ _ hIn; exact binds_K hIn rfl (by k_is) rfl rfl rfl)); (case kM_377 => (intro _; walk_at "mtb")); (case kN_377 => (intro _; exact rfl)); (case kB_377 => (intro _; exact locs rfl)); (case c5_377 => decide); (case c2_377 => exact rfl); (case c3_377 => exact rfl); (case c4_377 => exact rfl); intro A x dx L s hA O))
  ((refine' st_attrN O ?v_378 ?o_378 ?x_378 ?d_378 ?c_378 ?n_378 ?z_378 ?_; (case v_378 => walk_at "ev"); (case o_378 => walk_at "ev"); (case x_378 => (walk_at "in2")); (case d_378 => (walk_at "put")); (case c_378 => (walk_at "setF")); (case n_378 => exact rfl); (case z_378 => exact Nat.le_of_ble_eq_true rfl); intro s O))
  ((refine' st_attrN O ?v_379 ?o_379 ?x_379 ?d_379 ?c_379 ?n_379 ?z_379 ?_; (case v_379 => walk_at "ev"); (case o_379 => walk_at "ev"); (case x_379 => (walk_at "in2")); (case d_379 => (walk_at "put")); (case c_379 => (walk_at "setF")); (case n_379 => exact rfl); (case z_379 => exact Nat.le_of_ble_eq_true rfl); intro s O))
  refine st_attrC (cl_refC O (by walk_at "name") (by walk_at "keep") fun s O => ?_)
  refine wpAny_items_cons (cn_display AV.i (xs := []) O pl_nil (by decide) fun l0 s O => ?_)
  refine wpAny_items_cons (pe_use (a := .v (.int 8 843)) (by walk_at "ev") O fun v s hv O => wpAny_items_nil ⟨O.kin, ?_⟩)
  refine sp_GapText (cr := l0) (Room.le hA (by decide)) (.cons rfl (.cons ⟨843, hv⟩ .nil)) O (by walk_at "in2") fun t dt cl s O => ?_
  refine ss_attrN (a := rf t) O rfl (by walk_at "ev") (by walk_at "in2") (by walk_at "put") (by walk_at "setF") (by rfl) (by exact Nat.le_of_ble_eq_true rfl) fun s O => ?_
  refine st_attrC ?_
  ((refine' cl_ref O ?f_380 ?k_380 ?a_380 ?_; (case f_380 => walk_at "name"); (case k_380 => (walk_at "keep")); (case a_380 => walk_at "evl"); intro vs s hv O))
  refine sp_Markers (Room.le hA (by decide)) hv O fun mr dm rw s O => ?_
  refine ss_attrN (a := rf mr) O rfl (by walk_at "ev") (by walk_at "in2") (by walk_at "put") (by walk_at "setF") (by rfl) (by exact Nat.le_of_ble_eq_true rfl) fun s O => ?_
  ((refine' st_attrN O ?v_381 ?o_381 ?x_381 ?d_381 ?c_381 ?n_381 ?z_381 ?_; (case v_381 => walk_at "ev"); (case o_381 => walk_at "ev"); (case x_381 => (walk_at "in2")); (case d_381 => (walk_at "put")); (case c_381 => (walk_at "setF")); (case n_381 => exact rfl); (case z_381 => exact Nat.le_of_ble_eq_true rfl); intro s O))
  ((refine' st_attrN O ?v_382 ?o_382 ?x_382 ?d_382 ?c_382 ?n_382 ?z_382 ?_; (case v_382 => walk_at "ev"); (case o_382 => walk_at "ev"); (case x_382 => (walk_at "in2")); (case d_382 => (walk_at "put")); (case c_382 => (walk_at "setF")); (case n_382 => exact rfl); (case z_382 => exact Nat.le_of_ble_eq_true rfl); intro s O))
  ((refine' st_attrN O ?v_383 ?o_383 ?x_383 ?d_383 ?c_383 ?n_383 ?z_383 ?_; (case v_383 => walk_at "ev"); (case o_383 => walk_at "ev"); (case x_383 => (walk_at "in2")); (case d_383 => (walk_at "put")); (case c_383 => (walk_at "setF")); (case n_383 => exact rfl); (case z_383 => exact Nat.le_of_ble_eq_true rfl); intro s O))
  ((refine' st_attrN O ?v_384 ?o_384 ?x_384 ?d_384 ?c_384 ?n_384 ?z_384 ?_; (case v_384 => walk_at "ev"); (case o_384 => walk_at "ev"); (case x_384 => (walk_at "in2")); (case d_384 => (walk_at "put")); (case c_384 => (walk_at "setF")); (case n_384 => exact rfl); (case z_384 => exact Nat.le_of_ble_eq_true rfl); intro s O))
  ((refine' st_attrN O ?v_385 ?o_385 ?x_385 ?d_385 ?c_385 ?n_385 ?z_385 ?_; (case v_385 => walk_at "ev"); (case o_385 => walk_at "ev"); (case x_385 => (walk_at "in2")); (case d_385 => (walk_at "put")); (case c_385 => (walk_at "setF")); (case n_385 => exact rfl); (case z_385 => exact Nat.le_of_ble_eq_true rfl); intro s O))
  ((refine' st_attrN O ?v_386 ?o_386 ?x_386 ?d_386 ?c_386 ?n_386 ?z_386 ?_; (case v_386 => walk_at "ev"); (case o_386 => walk_at "ev"); (case x_386 => (walk_at "in2")); (case d_386 => (walk_at "put")); (case c_386 => (walk_at "setF")); (case n_386 => exact rfl); (case z_386 => exact Nat.le_of_ble_eq_true rfl); intro s O))
  ((refine' st_attrN O ?v_387 ?o_387 ?x_387 ?d_387 ?c_387 ?n_387 ?z_387 ?_; (case v_387 => walk_at "ev"); (case o_387 => walk_at "ev"); (case x_387 => (walk_at "in2")); (case d_387 => (walk_at "put")); (case c_387 => (walk_at "setF")); (case n_387 => exact rfl); (case z_387 => exact Nat.le_of_ble_eq_true rfl); intro s O))
  ((refine' st_attrN O ?v_388 ?o_388 ?x_388 ?d_388 ?c_388 ?n_388 ?z_388 ?_; (case v_388 => walk_at "ev"); (case o_388 => walk_at "ev"); (case x_388 => (walk_at "in2")); (case d_388 => (walk_at "put")); (case c_388 => (walk_at "setF")); (case n_388 => exact rfl); (case z_388 => exact Nat.le_of_ble_eq_true rfl); intro s O))
  ((refine' st_attrN O ?v_389 ?o_389 ?x_389 ?d_389 ?c_389 ?n_389 ?z_389 ?_; (case v_389 => walk_at "ev"); (case o_389 => walk_at "ev"); (case x_389 => (walk_at "in2")); (case d_389 => (walk_at "put")); (case c_389 => (walk_at "setF")); (case n_389 => exact rfl); (case z_389 => exact Nat.le_of_ble_eq_true rfl); intro s O))
  refine st_attrC (cn_display AV.i (xs := []) O pl_nil (by decide) fun ll s O => ?_)
  refine ss_attrN (a := rf ll) O rfl (by walk_at "ev") (by walk_at "in2") (by walk_at "put") (by walk_at "setF") (by rfl) (by exact Nat.le_of_ble_eq_true rfl) fun s O => ?_
  ((refine' st_attrN O ?v_390 ?o_390 ?x_390 ?d_390 ?c_390 ?n_390 ?z_390 ?_; (case v_390 => walk_at "ev"); (case o_390 => walk_at "ev"); (case x_390 => (walk_at "in2")); (case d_390 => (walk_at "put")); (case c_390 => (walk_at "setF")); (case n_390 => exact rfl); (case z_390 => exact Nat.le_of_ble_eq_true rfl); intro s O))
  ((refine' st_attrN O ?v_391 ?o_391 ?x_391 ?d_391 ?c_391 ?n_391 ?z_391 ?_; (case v_391 => walk_at "ev"); (case o_391 => walk_at "ev"); (case x_391 => (walk_at "in2")); (case d_391 => (walk_at "put")); (case c_391 => (walk_at "setF")); (case n_391 => exact rfl); (case z_391 => exact Nat.le_of_ble_eq_true rfl); intro s O))
  ((refine' st_attrN O ?v_392 ?o_392 ?x_392 ?d_392 ?c_392 ?n_392 ?z_392 ?_; (case v_392 => walk_at "ev"); (case o_392 => walk_at "ev"); (case x_392 => (walk_at "in2")); (case d_392 => (walk_at "put")); (case c_392 => (walk_at "setF")); (case n_392 => exact rfl); (case z_392 => exact Nat.le_of_ble_eq_true rfl); intro s O))
  ((refine' st_attrN O ?v_393 ?o_393 ?x_393 ?d_393 ?c_393 ?n_393 ?z_393 ?_; (case v_393 => walk_at "ev"); (case o_393 => walk_at "ev"); (case x_393 => (walk_at "in2")); (case d_393 => (walk_at "put")); (case c_393 => (walk_at "setF")); (case n_393 => exact rfl); (case z_393 => exact Nat.le_of_ble_eq_true rfl); intro s O))
  ((refine' st_attrN O ?v_394 ?o_394 ?x_394 ?d_394 ?c_394 ?n_394 ?z_394 ?_; (case v_394 => walk_at "ev"); (case o_394 => walk_at "ev"); (case x_394 => (walk_at "in2")); (case d_394 => (walk_at "put")); (case c_394 => (walk_at "setF")); (case n_394 => exact rfl); (case z_394 => exact Nat.le_of_ble_eq_true rfl); intro s O))
  ((refine' st_attrN O ?v_395 ?o_395 ?x_395 ?d_395 ?c_395 ?n_395 ?z_395 ?_; (case v_395 => walk_at "ev"); (case o_395 => walk_at "ev"); (case x_395 => (walk_at "in2")); (case d_395 => (walk_at "put")); (case c_395 => (walk_at "setF")); (case n_395 => exact rfl); (case z_395 => exact Nat.le_of_ble_eq_true rfl); intro s O))
  have O := Ow.got (Γ' := (dx, isB ⟨x, dx, t, dt, cl, mr, dm, rw, ll⟩ 1 1 1 1) :: _) O (LGot.cons (by walk_at "pick") (by exact fun o h => isF_rev (m := bufF ⟨x, dx, t, dt, cl, mr, dm, rw, ll⟩ 1 1 1 1) (by rfl) o h) LGot.refl)
  have O := Ow.frz (p := (x, isI 565 dx)) O (by walk_at "pick")
  have O := Ow.frz (p := (t, isI 354 dt)) O (by walk_at "pick")
  have O := Ow.frz (p := (mr, isI 424 dm)) O (by walk_at "pick")
  have O := Ow.frz (p := (dm, isF [("rows", rf rw)])) O (by walk_at "pick")
  have O := Ow.frz (p := (rw, isM c [])) O (by walk_at "pick")
  have O := Ow.frz (p := (ll, isInts [])) O (by walk_at "pick")
  refine st_nil ⟨rfl, h ⟨x, dx, t, dt, cl, mr, dm, rw, ll⟩ ((ll, isInts []) :: (rw, isM c []) :: (dm, isF [("rows", rf rw)]) :: (mr, isI 424 dm) :: (t, isI 354 dt) :: (x, isI 565 dx) :: I) _ (((((Sb.refl.cons).cons).cons).cons).cons).cons ⟨by walk_at "mem", by walk_at "mem", by walk_at "mem", by walk_at "mem", by walk_at "mem", by walk_at "mem"⟩ ?_⟩
  (((refine' Ow.got (Ow.back O ?p_396) ?g_396); (case p_396 => (walk_at "pick")); (case g_396 => walk_at "got")))
theorem sp_Replacing {c : Cx} {A : Around} {L : Addr} {m : FM} {Γ I : Led} {s : Shared} {Q E} {B : BA} {f df cr k dk cn : Addr} {a : Nat} {x y pt : Int} {gs ge : Nat} {xs text : List Int} {tk ck : Int} {old new : List Int} {fo : Bool} {vs} (hA : Room 9 A) (hv : AVs [rf B.b, rf f, rf k, .i x, .i y] vs) (hB : BI c B I) (hF : LI I f df cr old fo)
    (hk : (k, isI 158 dk) ∈ I) (hdk : (dk, isF [("codes", rf cn)]) ∈ I) (hcn : (cn, isInts new) ∈ I) (O : Ow c L m (bL B gs ge xs pt (text.length + 1) tk ck Γ) I s) (hT : TX gs ge xs text) (hx : x = a + 1) (hy : y = text.length + 1) (ha : a ≤ text.length) (hz : text.length ≤ 10000)
    (hs : ∀ k ∈ text, k < 192) (hs' : ∀ k ∈ old, k < 192) (hl : old.length ≤ 1000)
    (h : ∀ r d ls I' p s', Sb I I' → RI c ⟨r, d, f, df, cr, k, dk, cn, B⟩ old new fo I' → First fo old text a (some p) → Ow c L m (rL ⟨r, d, f, df, cr, k, dk, cn, B⟩ ls [] (fndR old.length p (Mch.mk text pt y "asking" x x false 0 [])) gs ge xs tk ck Γ) I' s' → Q (.ref r) s')
    (h0 : ∀ r d ls I' s', Sb I I' → RI c ⟨r, d, f, df, cr, k, dk, cn, B⟩ old new fo I' → First fo old text a none → Ow c L m (rL ⟨r, d, f, df, cr, k, dk, cn, B⟩ ls [] (endR (Mch.mk text pt y "asking" x x false 0 [])) gs ge xs tk ck Γ) I' s' → Q (.ref r) s') : wpAny c.M A (call (.ref 263) vs []) Q E s := by
  obtain ⟨g1, g2, g3, g4, g5, g6⟩ := id hB
  (((repeat (rename AVs (_ :: _) _ => hv0; cases hv0)); (repeat (rename AVs [] _ => hv0; cases hv0))))
  rename_i v1 _ v2 _ v3 _ v4 _ v5 _
  obtain ⟨X, hX⟩ : ∃ X : Int, X = x := ⟨_, rfl⟩
  subst hX
  ((refine' call_new (C := 263) (fI := 197) (binds := fun x => [("self", Value.ref x), ("buffer", v1), ("finder", v2), ("maker", v3), ("start", v4), ("end", v5)]) hA O ?m_398 ?i_398 ?f_398 ?k6_398 ?k7_398 ?k9_398 ?kM_398 ?kN_398 ?kB_398 ?c5_398 ?c2_398 ?c3_398 ?c4_398 ?_; (case m_398 => exact InitF.m in_263); (case i_398 => exact InitF.i in_263); (case f_398 => exact InitF.f in_263); (case k6_398 => k_is); (case k7_398 => k_is); (case k9_398 => (intro _ _ _; exact BindsTo.of_eq rfl)); (case kM_398 => (intro _; walk_at "mtb")); (case kN_398 => (intro _; exact rfl)); (case kB_398 => (intro _; exact locs rfl)); (case c5_398 => decide); (case c2_398 => exact rfl); (case c3_398 => exact rfl); (case c4_398 => exact rfl); intro A x dx L s hA O))
  refine ut_tup2 hA.handled ?_
  ((refine' cl_ref O ?f_399 ?k_399 ?a_399 ?_; (case f_399 => walk_at "name"); (case k_399 => (walk_at "keep")); (case a_399 => walk_at "evl"); intro vs s hv O))
  refine sp_reached (Room.le hA (by decide)) hv hB (by walk_at "in2") O (by lia) (by lia) (by lia) fun t s O => ⟨t, _, _, _, _, _, rfl, O, by walk_at "in2", fun s O => ?_⟩
  ((refine' st_attrN O ?v_400 ?o_400 ?x_400 ?d_400 ?c_400 ?n_400 ?z_400 ?_; (case v_400 => walk_at "ev"); (case o_400 => walk_at "ev"); (case x_400 => (walk_at "in2")); (case d_400 => (walk_at "put")); (case c_400 => (walk_at "setF")); (case n_400 => exact rfl); (case z_400 => exact Nat.le_of_ble_eq_true rfl); intro s O))
  ((refine' st_attrN O ?v_401 ?o_401 ?x_401 ?d_401 ?c_401 ?n_401 ?z_401 ?_; (case v_401 => walk_at "ev"); (case o_401 => walk_at "ev"); (case x_401 => (walk_at "in2")); (case d_401 => (walk_at "put")); (case c_401 => (walk_at "setF")); (case n_401 => exact rfl); (case z_401 => exact Nat.le_of_ble_eq_true rfl); intro s O))
  ((refine' st_attrN O ?v_402 ?o_402 ?x_402 ?d_402 ?c_402 ?n_402 ?z_402 ?_; (case v_402 => walk_at "ev"); (case o_402 => walk_at "ev"); (case x_402 => (walk_at "in2")); (case d_402 => (walk_at "put")); (case c_402 => (walk_at "setF")); (case n_402 => exact rfl); (case z_402 => exact Nat.le_of_ble_eq_true rfl); intro s O))
  ((refine' st_attrN O ?v_403 ?o_403 ?x_403 ?d_403 ?c_403 ?n_403 ?z_403 ?_; (case v_403 => walk_at "ev"); (case o_403 => walk_at "ev"); (case x_403 => (walk_at "in2")); (case d_403 => (walk_at "put")); (case c_403 => (walk_at "setF")); (case n_403 => exact rfl); (case z_403 => exact Nat.le_of_ble_eq_true rfl); intro s O))
  ((refine' st_attrN O ?v_404 ?o_404 ?x_404 ?d_404 ?c_404 ?n_404 ?z_404 ?_; (case v_404 => walk_at "ev"); (case o_404 => walk_at "ev"); (case x_404 => (walk_at "in2")); (case d_404 => (walk_at "put")); (case c_404 => (walk_at "setF")); (case n_404 => exact rfl); (case z_404 => exact Nat.le_of_ble_eq_true rfl); intro s O))
  ((refine' st_attrN O ?v_405 ?o_405 ?x_405 ?d_405 ?c_405 ?n_405 ?z_405 ?_; (case v_405 => walk_at "ev"); (case o_405 => walk_at "ev"); (case x_405 => (walk_at "in2")); (case d_405 => (walk_at "put")); (case c_405 => (walk_at "setF")); (case n_405 => exact rfl); (case z_405 => exact Nat.le_of_ble_eq_true rfl); intro s O))
  ((refine' st_attrN O ?v_406 ?o_406 ?x_406 ?d_406 ?c_406 ?n_406 ?z_406 ?_; (case v_406 => walk_at "ev"); (case o_406 => walk_at "ev"); (case x_406 => (walk_at "in2")); (case d_406 => (walk_at "put")); (case c_406 => (walk_at "setF")); (case n_406 => exact rfl); (case z_406 => exact Nat.le_of_ble_eq_true rfl); intro s O))
  ((refine' st_attrN O ?v_407 ?o_407 ?x_407 ?d_407 ?c_407 ?n_407 ?z_407 ?_; (case v_407 => walk_at "ev"); (case o_407 => walk_at "ev"); (case x_407 => (walk_at "in2")); (case d_407 => (walk_at "put")); (case c_407 => (walk_at "setF")); (case n_407 => exact rfl); (case z_407 => exact Nat.le_of_ble_eq_true rfl); intro s O))
  ((refine' st_attrN O ?v_408 ?o_408 ?x_408 ?d_408 ?c_408 ?n_408 ?z_408 ?_; (case v_408 => walk_at "ev"); (case o_408 => walk_at "ev"); (case x_408 => (walk_at "in2")); (case d_408 => (walk_at "put")); (case c_408 => (walk_at "setF")); (case n_408 => exact rfl); (case z_408 => exact Nat.le_of_ble_eq_true rfl); intro s O))
  refine st_attrC (cn_display rf (xs := []) O pl_nil (by decide) fun ll s O => ?_)
  refine ss_attrN (a := rf ll) O rfl (by walk_at "ev") (by walk_at "in2") (by walk_at "put") (by walk_at "setF") (by rfl) (by exact Nat.le_of_ble_eq_true rfl) fun s O => ?_
  have O := Ow.got (Γ' := (dx, isF (repF ⟨x, dx, f, df, cr, k, dk, cn, B⟩ ll (Mch.mk text pt y "asking" X X false 0 []))) :: _) O (LGot.cons (by walk_at "pick") (by exact fun o h => isF_rev (m := repF ⟨x, dx, f, df, cr, k, dk, cn, B⟩ ll (Mch.mk text pt y "asking" X X false 0 [])) (by rfl) o h) LGot.refl)
  have O := Ow.frz (p := (x, isI 263 dx)) O (by walk_at "pick")
  have hS : Sb I ((x, isI 263 dx) :: I) := Sb.refl.cons
  have hR : RI c ⟨x, dx, f, df, cr, k, dk, cn, B⟩ old new fo ((x, isI 263 dx) :: I) := ⟨.head _, hB.sb hS, hF.sb hS, .tail _ hk, .tail _ hdk, .tail _ hcn⟩
  obtain ⟨r1, r2, r3, r4, r5, r6⟩ := id hR
  have O := Ow.nR (R := ⟨x, dx, f, df, cr, k, dk, cn, B⟩) (M := Mch.mk text pt y "asking" X X false 0 []) O (by walk_at "got")
  refine st_expr ?_
  refine cl_meth (as := [.i X, bo false]) O (by walk_at "ev") (by walk_at "in2") (by walk_at "in2") (by walk_at "methF") (by walk_at "keep") rfl (by walk_at "evl") fun vs s hv O => ?_
  refine sp_look (R := ⟨x, dx, f, df, cr, k, dk, cn, B⟩) (M := Mch.mk text pt y "asking" X X false 0 []) (Room.le hA (by decide)) hv hR ⟨hT, .nil⟩ (by (((refine' Ow.got O ?g_409); (case g_409 => walk_at "got")))) hx ha hy hz hs hs' hl (fun p s hp O => ?_) (fun s hp O => ?_)
  · exact st_nil ⟨rfl, h _ _ _ _ p _ hS hR hp (by (((refine' Ow.got (Ow.back O ?p_410) ?g_410); (case p_410 => (walk_at "pick")); (case g_410 => walk_at "got"))))⟩
  · exact st_nil ⟨rfl, h0 _ _ _ _ _ hS hR hp (by (((refine' Ow.got (Ow.back O ?p_411) ?g_411); (case p_411 => (walk_at "pick")); (case g_411 => walk_at "got"))))⟩
/-! the law's model -/
structure Pc where
  word : Str
  old : List Int
  now : List Int
  so : Bool
structure Mdl where
  ps : List Pc
  pr : Pc
  rest : List Int
  many : Int
  op : Bool
  pt : Int
structure MA where
  (d o n : Addr)
structure MS where
  (re ap ar : Addr)
  ps : List Addr
noncomputable def PieceAt (I : Led) (a : Addr) (p : Pc) : Prop := ∃ lo ln, (a, isT [.s p.word, rf lo, rf ln, bo p.so]) ∈ I ∧ (lo, isInts p.old) ∈ I ∧ (ln, isInts p.now) ∈ I
theorem PieceAt.sb {I I' a p} (h : PieceAt I a p) (hs : Sb I I') : PieceAt I' a p := let ⟨lo, ln, h1, h2, h3⟩ := h; ⟨lo, ln, hs _ h1, hs _ h2, hs _ h3⟩
noncomputable def mdF (X : MA) (V : MS) (fo : Bool) (D : Mdl) : FM := [("old", rf X.o), ("new", rf X.n), ("is_folded", bo fo), ("rest", rf V.re), ("many", .i D.many), ("is_open", bo D.op), ("pieces", rf V.ap), ("point", .i D.pt), ("present", rf V.ar)]
noncomputable abbrev mL (c : Cx) (X : MA) (V : MS) (fo : Bool) (D : Mdl) (Γ : Led) : Led := (X.d, isM c (mdF X V fo D)) :: (V.ap, isRefs V.ps) :: Γ
structure MI (I : Led) (X : MA) (V : MS) (old new : List Int) (D : Mdl) : Prop where
  o : (X.o, isInts old) ∈ I
  n : (X.n, isInts new) ∈ I
  re : (V.re, isInts D.rest) ∈ I
  ar : PieceAt I V.ar D.pr
  ps : Alls (PieceAt I) V.ps D.ps
theorem MI.sb {I I' X V old new D} (h : MI I X V old new D) (hs : Sb I I') : MI I' X V old new D := ⟨hs _ h.o, hs _ h.n, hs _ h.re, h.ar.sb hs, h.ps.imp fun _ _ k => k.sb hs⟩
noncomputable def Md (c : Cx) (L : Addr) (m : FM) (X : MA) (old new : List Int) (fo : Bool) (D : Mdl) (Γ I : Led) (s : Shared) : Prop := ∃ V I', Sb I I' ∧ MI I' X V old new D ∧ Ow c L m (mL c X V fo D Γ) I' s
/-- the model is of a size that the rules cover -/
structure Sz (D : Mdl) : Prop where
  ps : D.ps.length ≤ 1000
  p : ∀ p ∈ D.ps, p.now.length ≤ 1000
  pr : D.pr.now.length ≤ 1000
  rest : D.rest.length ≤ 1000
noncomputable def endX (D : Mdl) : Int := 1 + (D.ps.map fun p => (p.now.length : Int)).sum + (D.pr.now.length : Int)
noncomputable def codesX (D : Mdl) : List Int := (D.ps.map (·.now)).flatten ++ D.pr.now ++ D.rest

theorem pb_neI {c : Cx} {A : Around} {env : Env} {m : FM} {Γ I : Led} {pos p : Pos} {l : Expr} {es : List Expr} {a : Addr} {ns ks : List Int} (hA : Room 10 A) (hl : PE c A env m Γ I l (rf a)) (hr : PL c A env m Γ I es (ks.map AV.i)) (ha : In2 a (isInts ns) Γ I) (hz : ks.length ≤ lim)
    (hm : behindInMarks .NotEq (.List es p) = false := by with_unfolding_all rfl) : PB c A env m Γ I (.Compare l [.NotEq] [.List es p] pos) (!decide (ns = ks)) := fun _ _ _ O k =>
  wpAny_isTrue_Compare1 (hl _ _ _ O fun v s' hv O' => by
    cases hv
    exact cn_display AV.i O' hr hz fun t s'' O'' => cm_neI hA ha.there (.inl (.head _)) _ _ _ O'' fun w s₃ hw O₃ => by subst hw; exact wpAny_truthy_bool (k _ _ rfl O₃.drop)) hm
theorem pb_eqI {c : Cx} {A : Around} {env : Env} {m : FM} {Γ I : Led} {pos p : Pos} {l : Expr} {es : List Expr} {a : Addr} {ns ks : List Int} (hA : Room 10 A) (hl : PE c A env m Γ I l (rf a)) (hr : PL c A env m Γ I es (ks.map AV.i)) (ha : In2 a (isInts ns) Γ I) (hz : ks.length ≤ lim)
    (hm : behindInMarks .Eq (.List es p) = false := by with_unfolding_all rfl) : PB c A env m Γ I (.Compare l [.Eq] [.List es p] pos) (decide (ns = ks)) := fun _ _ _ O k =>
  wpAny_isTrue_Compare1 (hl _ _ _ O fun v s' hv O' => by
    cases hv
    exact cn_display AV.i O' hr hz fun t s'' O'' => cm_eqI hA ha.there (.inl (.head _)) _ _ _ O'' fun w s₃ hw O₃ => by subst hw; exact wpAny_truthy_bool (k _ _ rfl O₃.drop)) hm
theorem sp_l_draw {c : Cx} {A : Around} {L : Addr} {m : FM} {Γ I : Led} {s : Shared} {Q E} {d : Addr} {ds : List Int} {k : Int} {vs} (hA : Room 11 A) (hv : AVs [rf d, .i k] vs) (hk : 0 < k) (hz : ds.length ≤ 1000) (O : Ow c L m ((d, isInts ds) :: Γ) I s)
    (h : ∀ n ds' v s', 0 ≤ n → n < k → ds'.length ≤ ds.length → (AV.i n).is v → Ow c L m ((d, isInts ds') :: Γ) I s' → Q v s') : wpAny c.M A (call (.ref 623) vs []) Q E s := by
  (((repeat (rename AVs (_ :: _) _ => hv0; cases hv0)); (repeat (rename AVs [] _ => hv0; cases hv0))))
  ((refine' call_fnZ hA O ?k6_413 ?k7_413 ?kb_413 ?k9_413 ?kM_413 ?kN_413 ?kB_413 ?c5_413 ?c2_413 ?c3_413 ?c4_413 ?_; (case k6_413 => k_is); (case k7_413 => k_is); (case kb_413 => (refine' zip_of ?pe_413 ?rest_413; (case pe_413 => conv => lhs; whnf); (case rest_413 => simp only [List.map, List.zip, List.zipWith]; rfl))); (case k9_413 => first | exact BindsTo.of_eq rfl | exact binds_K (Frag.In.keeps (Cx.kin _) (Ow.keep O)) rfl (by k_is) rfl rfl rfl); (case kM_413 => walk_at "mtb"); (case kN_413 => exact rfl); (case kB_413 => exact locs rfl); (case c5_413 => decide); (case c2_413 => exact rfl); (case c3_413 => exact rfl); (case c4_413 => exact rfl); intro L s hA O))
  refine st_retc (cs_ifexp O (pb_neI (ks := []) (Room.le hA (by decide)) (by walk_at "ev") pl_nil (by walk_at "in2") (by decide)) (fun hne s O => ?_) (fun he s O => ?_))
  · cases ds with
    | nil => simp at hne
    | cons x ds =>
      refine wpAny_BinOp (cl_list O (by walk_at "ev") (by walk_at "in2") PySem.F.slot_list_pop PySem.F.type_list_pop (pl_cons pe_int pl_nil) fun vs s hv O => ?_)
      obtain ⟨t, rfl⟩ := AVs_i1 hv
      refine cn_pop0 (f := AV.i) O (by walk_at "put") (by unfold lim; simp at hz; lia) fun v s hv O => ?_
      refine pe_use (a := .i k) (by walk_at "ev") O fun u s hu O => ?_
      obtain ⟨t1, rfl⟩ := hv
      obtain ⟨t2, rfl⟩ := hu
      refine mod_int' (by lia) ?_
      exact h _ _ _ _ (Int.fmod_nonneg_of_pos _ hk) (Int.fmod_lt_of_pos _ hk) (Nat.le_succ _) ⟨_, rfl⟩ (Ow.tok (by (((refine' Ow.got (Ow.back O ?p_414) ?g_414); (case p_414 => (walk_at "pick")); (case g_414 => walk_at "got")))))
  · refine pe_use (a := .i 0) (by walk_at "ev") O fun u s hu O => ?_
    exact h _ _ _ _ (Int.le_refl 0) hk (Nat.le_refl _) hu (by (((refine' Ow.got (Ow.back O ?p_415) ?g_415); (case p_415 => (walk_at "pick")); (case g_415 => walk_at "got"))))
theorem cl_biC {c : Cx} {A : Around} {env : Env} {m : FM} {Γ I : Led} {s : Shared} {pos : Pos} {Q : Value → Shared → Prop} {E : Value → Shared → Prop} {f : Expr} {id : String} {args : List Expr} (O : Ow c env.locals m Γ I s) (hf : PE c A env m Γ I f (.v (.builtin id)))
    (h : ∀ s', Ow c env.locals m Γ I s' → wpAny c.M A (spliced (backTo pos (starEach args env))) (fun vs s₂ => wpAny c.M A (call (.builtin id) vs []) Q E s₂) E s')
    (he : eval (.Call f args [] pos) env = (do callWith pos (← eval f env) [] (backTo pos (starEach args env)) (backToKw pos (keywordEach [] env))) := by rfl)
    (hp : plainArgs args = true := by rfl) : wpAny c.M A (eval (.Call f args [] pos) env) Q E s := by
  refine Call_ ?_ he
  refine hf _ _ _ O fun v s' e O' => ?_
  cases e
  exact callWith_builtin (splicedPlain hp) (evalArgs_any (splicedPlain hp) (h s' O'))
theorem map_take_snoc {α β : Type} {f : α → β} {l : List α} {i : Nat} {x : α} (h : l[i]? = some x) : (l.take i).map f ++ [f x] = (l.take (i + 1)).map f := by
  rw [List.take_add_one, h, List.map_append]; rfl
set_option maxHeartbeats 1000000 in
theorem sp_l_end {c : Cx} {A : Around} {L : Addr} {m : FM} {Γ I : Led} {s : Shared} {Q E} {X : MA} {V : MS} {old new : List Int} {fo : Bool} {D : Mdl} {vs} (hA : Room 2 A) (hv : AVs [rf X.d] vs) (hM : MI I X V old new D) (hz : Sz D) (O : Ow c L m (mL c X V fo D Γ) I s)
    (h : ∀ v s', (AV.i (endX D)).is v → Ow c L m (mL c X V fo D Γ) I s' → Q v s') : wpAny c.M A (call (.ref 640) vs []) Q E s := by
  obtain ⟨m1, m2, m3, ⟨lo, ln, m4, m5, m6⟩, m7⟩ := id hM
  obtain ⟨z1, z2, z3, z4⟩ := id hz
  have hlen := m7.length
  (((repeat (rename AVs (_ :: _) _ => hv0; cases hv0)); (repeat (rename AVs [] _ => hv0; cases hv0))))
  ((refine' call_fnZ hA O ?k6_417 ?k7_417 ?kb_417 ?k9_417 ?kM_417 ?kN_417 ?kB_417 ?c5_417 ?c2_417 ?c3_417 ?c4_417 ?_; (case k6_417 => k_is); (case k7_417 => k_is); (case kb_417 => (refine' zip_of ?pe_417 ?rest_417; (case pe_417 => conv => lhs; whnf); (case rest_417 => simp only [List.map, List.zip, List.zipWith]; rfl))); (case k9_417 => first | exact BindsTo.of_eq rfl | exact binds_K (Frag.In.keeps (Cx.kin _) (Ow.keep O)) rfl (by k_is) rfl rfl rfl); (case kM_417 => walk_at "mtb"); (case kN_417 => exact rfl); (case kB_417 => exact locs rfl); (case c5_417 => decide); (case c2_417 => exact rfl); (case c3_417 => exact rfl); (case c4_417 => exact rfl); intro L s hA O))
  refine st_retc (wpAny_BinOp (wpAny_BinOp (pe_use (a := .i 1) (by walk_at "ev") O fun v s hv O => ?_)))
  obtain ⟨t0, rfl⟩ := hv
  refine cl_biC O (by walk_at "name") fun s O => ?_
  refine wpAny_items_cons (cp_list (pe_use (a := rf V.ap) (by walk_at "ev") O fun v s hv O => ?_) rfl rfl (by decide))
  cases hv
  refine cn_iterL (f := rf) (xs := V.ps) O (by walk_at "in2") fun it s hne O => ?_
  refine cp_core (g := AV.i) (fun C => itr_list (f := rf) (xs := V.ps) (x := "piece") hA.handled hne rfl rfl) (fun i acc Γ' I' => acc = (D.ps.take i).map (fun p => (p.now.length : Int)) ∧ Γ' = _ ∧ I' = I) ?_ (by unfold lim; lia) ?_ (by decide) rfl O ⟨rfl, rfl, rfl⟩ ?_ ?_
  · rintro i acc Γ' I' ⟨-, rfl, rfl⟩; walk_at "in2"
  · rintro i acc Γ' I' ⟨rfl, -, -⟩; simp; lia
  · rintro C Dl i acc Γ' I' s hi ⟨rfl, rfl, rfl⟩ O
    have hi' : i < D.ps.length := by lia
    obtain ⟨a, ha, lo', ln', q1, q2, q3⟩ := m7.get (i := i) (b := D.ps[i]) (List.getElem?_eq_getElem hi')
    simp only [ha, LIt, List.cons_append, List.nil_append] at O
    have := z2 _ (List.getElem_mem hi')
    refine pe_use (a := .i (D.ps[i].now.length)) (by walk_at "ev") O fun v s hv O => ?_
    refine ⟨(D.ps[i].now.length : Int), _, _, _, hv, ⟨?_, rfl, rfl⟩, O⟩
    exact map_take_snoc (List.getElem?_eq_getElem hi')
  · rintro C m' Dl acc Γ' I' s ⟨rfl, rfl, rfl⟩ O
    refine cp_end O fun s O => wpAny_items_nil ?_
    rw [hlen, List.take_length] at O
    refine ci_sum (Room.le hA (by decide)) (by walk_at "in2") (by unfold lim; rw [List.length_map]; lia) (fun n hn => ?_) _ _ _ O fun v s hv O => ?_
    · obtain ⟨p, hp, rfl⟩ := List.mem_map.mp hn
      have := z2 p hp; lia
    obtain ⟨t1, rfl⟩ := hv
    refine P.add_int ?_
    refine pe_use (a := .i (D.pr.now.length)) (by walk_at "ev") (O.tok) fun v s hv O => ?_
    obtain ⟨t2, rfl⟩ := hv
    refine P.add_int (h _ _ ⟨_, rfl⟩ (Ow.tok (by (((refine' Ow.got (Ow.back O ?p_418) ?g_418); (case p_418 => (walk_at "pick")); (case g_418 => walk_at "got"))))))
theorem Alls.cons1 {α β : Type} {R : α → β → Prop} {a b} (h : R a b) : Alls R [a] [b] := .cons h .nil
theorem piece_len {ps : List Pc} (hz : ∀ p ∈ ps, p.now.length ≤ 1000) : ((ps.map (·.now)).flatten).length ≤ 1000 * ps.length := by
  induction ps with
  | nil => simp
  | cons p r ih =>
    have h1 := hz p (.head _)
    have h2 := ih fun q hq => hz q (.tail _ hq)
    simp only [List.map_cons, List.flatten_cons, List.length_append, List.length_cons]; lia
set_option maxHeartbeats 1000000 in
theorem sp_l_codes {c : Cx} {A : Around} {L : Addr} {m : FM} {Γ I : Led} {s : Shared} {Q E} {X : MA} {V : MS} {old new : List Int} {fo : Bool} {D : Mdl} {vs} (hA : Room 2 A) (hv : AVs [rf X.d] vs) (hM : MI I X V old new D) (hz : Sz D) (hz2 : D.ps.length ≤ 500) (O : Ow c L m (mL c X V fo D Γ) I s)
    (h : ∀ r s', Ow c L m ((r, isInts (codesX D)) :: mL c X V fo D Γ) I s' → Q (.ref r) s') : wpAny c.M A (call (.ref 647) vs []) Q E s := by
  obtain ⟨m1, m2, m3, m4, m7⟩ := id hM
  obtain ⟨z1, z2, z3, z4⟩ := id hz
  have hlen := m7.length
  have hall : Alls (PieceAt I) (V.ps ++ [V.ar]) (D.ps ++ [D.pr]) := m7.app (.cons1 m4)
  have hall2 : ∀ p ∈ D.ps ++ [D.pr], p.now.length ≤ 1000 := fun p hp => by
    rcases List.mem_append.mp hp with hp | hp
    · exact z2 p hp
    · simp at hp; subst hp; exact z3
  obtain ⟨L₀, hL₀⟩ : ∃ L₀, L₀ = L := ⟨_, rfl⟩
  subst hL₀
  (((repeat (rename AVs (_ :: _) _ => hv0; cases hv0)); (repeat (rename AVs [] _ => hv0; cases hv0))))
  ((refine' call_fnZ hA O ?k6_420 ?k7_420 ?kb_420 ?k9_420 ?kM_420 ?kN_420 ?kB_420 ?c5_420 ?c2_420 ?c3_420 ?c4_420 ?_; (case k6_420 => k_is); (case k7_420 => k_is); (case kb_420 => (refine' zip_of ?pe_420 ?rest_420; (case pe_420 => conv => lhs; whnf); (case rest_420 => simp only [List.map, List.zip, List.zipWith]; rfl))); (case k9_420 => first | exact BindsTo.of_eq rfl | exact binds_K (Frag.In.keeps (Cx.kin _) (Ow.keep O)) rfl (by k_is) rfl rfl rfl); (case kM_420 => walk_at "mtb"); (case kN_420 => exact rfl); (case kB_420 => exact locs rfl); (case c5_420 => decide); (case c2_420 => exact rfl); (case c3_420 => exact rfl); (case c4_420 => exact rfl); intro L s hA O))
  refine st_letc (cn_display AV.i (xs := []) O pl_nil (by decide) fun l0 s O => ?_)
  refine st_store (a := rf l0) O rfl fun s O => ?_
  refine st_for (wpAny_BinOp (pe_use (a := rf V.ap) (by walk_at "ev") O fun v s hv O => ?_))
  cases hv
  refine cn_display rf (xs := [V.ar]) O (pl_cons (a := rf V.ar) (by walk_at "ev") pl_nil) (by exact Nat.le_of_ble_eq_true rfl) fun l1 s O => ?_
  refine cn_add (f := rf) O (by walk_at "in2") (by walk_at "in2") (by simp; unfold lim; lia) fun l2 s O => ?_
  refine cn_iterL (f := rf) (xs := V.ps ++ [V.ar]) O (by walk_at "in2") fun it s hne O => ?_
  have O : Ow c L [("model", rf X.d), ("codes", rf l0)] (LIt it l2 0 ++ ((l0, isInts []) :: (l2, isRefs (V.ps ++ [V.ar])) :: (L₀, isNs m) :: mL c X V fo D Γ)) I s := by
    simp only [LIt, List.cons_append, List.nil_append] at O ⊢
    exact Ow.got O (by walk_at "got")
  refine lp_for (itr_list (f := rf) (xs := V.ps ++ [V.ar]) (x := "piece") hA.handled hne rfl rfl) (fun i m' Γ' I' => ∃ l, FS m' [("model", rf X.d), ("codes", rf l)] ∧ Γ' = (l, isInts ((((D.ps ++ [D.pr]).take i).map (·.now)).flatten)) :: (l2, isRefs (V.ps ++ [V.ar])) :: _ ∧ I' = I) ?_ O ⟨l0, FS.refl, rfl, rfl⟩ ?_ ?_
  · rintro i m' Γ' I' ⟨l, -, rfl, rfl⟩; walk_at "in2"
  · rintro i m' Γ' I' s hi ⟨l, hfs, rfl, rfl⟩ O
    have hi' : i < (D.ps ++ [D.pr]).length := by rw [← hall.length]; exact hi
    obtain ⟨a, ha, lo', ln', q1, q2, q3⟩ := hall.get (i := i) (b := (D.ps ++ [D.pr])[i]) (List.getElem?_eq_getElem hi')
    simp only [ha, LIt, List.cons_append, List.nil_append] at O
    have hp := hall2 _ (List.getElem_mem hi')
    have hw := piece_len (ps := (D.ps ++ [D.pr]).take i) fun p hp => hall2 p (List.mem_of_mem_take hp)
    have hti : ((D.ps ++ [D.pr]).take i).length ≤ 501 := by rw [List.length_take]; simp; lia
    have O := O.fs (FS.of (m := sl m' "piece" (rf a)) (r := [("model", rf X.d), ("codes", rf l), ("piece", rf a)]) (.cons (by rw [gl_sl, if_neg (by decide)]; exact hfs _ _ rfl) (.cons (by rw [gl_sl, if_neg (by decide)]; exact hfs _ _ rfl) (.cons (by rw [gl_sl, if_pos rfl]) .nil))))
    refine st_letc (wpAny_BinOp (pe_use (a := rf l) (by walk_at "ev") O fun v s hv O => ?_))
    cases hv
    refine pe_use (a := rf ln') (by walk_at "ev") O fun v s hv O => ?_
    cases hv
    refine cn_add (f := AV.i) O (by walk_at "in2") (by walk_at "in2") (by unfold lim; lia) fun l3 s O => ?_
    refine st_store (a := rf l3) O rfl fun s O => ?_
    refine st_nil ⟨[("model", rf X.d), ("codes", rf l3), ("piece", rf a)], (l3, isInts ((((D.ps ++ [D.pr]).take (i + 1)).map (·.now)).flatten)) :: (l2, isRefs (V.ps ++ [V.ar])) :: _, _, ⟨l3, FS.of (.cons rfl (.cons rfl .nil)), rfl, rfl⟩, ?_⟩
    have e : (((D.ps ++ [D.pr]).take (i + 1)).map (·.now)).flatten = (((D.ps ++ [D.pr]).take i).map (·.now)).flatten ++ ((D.ps ++ [D.pr])[i]).now := by
      rw [← map_take_snoc (List.getElem?_eq_getElem hi')]; simp
    rw [e]
    simp only [LIt, List.cons_append, List.nil_append]
    (((refine' Ow.got O ?g_421); (case g_421 => walk_at "got")))
  · rintro m' Γ' I' s ⟨l, hfs, rfl, rfl⟩ O
    have hw := piece_len hall2
    rw [← hall.length] at hw
    rw [hall.length, List.take_length] at O
    have O := O.fs hfs
    refine st_retc (wpAny_BinOp (pe_use (a := rf l) (by walk_at "ev") O fun v s hv O => ?_))
    cases hv
    refine pe_use (a := rf V.re) (by walk_at "ev") O fun v s hv O => ?_
    cases hv
    refine cn_add (f := AV.i) O (by walk_at "in2") (by walk_at "in2") (by unfold lim; simp at hw ⊢; lia) fun l3 s O => ?_
    have e : (List.map (fun x => x.now) (D.ps ++ [D.pr])).flatten ++ D.rest = codesX D := by simp [codesX]
    rw [e] at O
    exact h _ _ (by (((refine' Ow.got (Ow.back O ?p_422) ?g_422); (case p_422 => (walk_at "pick")); (case g_422 => walk_at "got"))))
theorem Ow.grow {c : Cx} {L : Addr} {m : FM} {Γ I : Led} {s : Shared} {p} (O : Ow c L m Γ I s) (h : At s p) (h1 : p.1 ≠ L) (h2 : c.G.objs.size ≤ p.1) (h3 : ∀ q ∈ Γ, q.1 ≠ p.1) (h4 : ∀ q ∈ I, q.1 ≠ p.1) : Ow c L m (p :: Γ) I s := by
  refine ⟨O.gens, O.os, O.fr, fun q hq => ?_, O.hasI, List.nodup_cons.mpr ⟨fun h => ?_, O.nd⟩, fun q hq r hr => ?_⟩
  · rcases List.mem_cons.mp hq with rfl | hq
    · exact ⟨h, h1, h2⟩
    · exact O.has q hq
  · obtain ⟨q, hq, e⟩ := List.mem_map.mp h
    exact h3 q hq e
  · rcases List.mem_cons.mp hq with rfl | hq
    · exact (h4 r hr).symm
    · exact O.ap q hq r hr
/-- a call of a def with one cell -/
theorem call_fnC {c : Cx} {A : Around} {L : Addr} {m : FM} {Γ I : Led} {s : Shared} {oc : Value} {od : Option Addr} {osl : Array (Option Value)} {f : Addr} {name qual : Str} {params : Arguments} {body : List Stmt} {scope : Scope} {dV kV doc pm cdv ct : Value} {an : Option Addr} {n : Nat}
    {args : List Value} {binds : List (Str × Value)} {fm : FM} {x : Str} {v : Value} {a : AV} {Q : Value → Shared → Prop} {E : Value → Shared → Prop}
    (hA : Room (n + 1) A) (O : Ow c L m Γ I s)
    (ho : (Mine.K c.w.params).lookup f = some ⟨oc, od, .func (fnOf name qual params body scope dV kV doc pm an cdv ct), osl⟩) (hcd : codeIn (Mine.K c.w.params) cdv qual = true)
    (hbind : bindArgs (fnOf name qual params body scope dV kV doc pm an cdv ct) ⟨args, []⟩ = pure binds)
    (hkind : ∀ S, ∀ y ∈ binds, scope.names.lookup y.1 = some .local ∨ (scope.names.lookup y.1 = some .cell ∧ ((cellsFrom (S + 1) scope.names []).lookup y.1).isSome = true))
    (hMt : ∀ L', Mt (bindL (callEnvC (fnOf name qual params body scope dV kV doc pm an cdv ct) L' f).kindOf binds fun _ => none) fm)
    (hC : ∀ L', bindC (callEnvC (fnOf name qual params body scope dV kV doc pm an cdv ct) L' f).kindOf binds (fun _ => none) x = some v) (ha : a.is v)
    (hcl : ∀ L', (callEnvC (fnOf name qual params body scope dV kV doc pm an cdv ct) L' f).cells.lookup x = some (L' + 1))
    (hco : scope.isCoroutine = false) (hgen : scope.isGenerator = false) (hk : scope.kind = .function)
    (h : ∀ L' s', Room n (A.deeper (callEnvC (fnOf name qual params body scope dV kV doc pm an cdv ct) L' f)) → (callEnvC (fnOf name qual params body scope dV kV doc pm an cdv ct) L' f).cells.lookup x = some (L' + 1) → Ow c L' fm ((L' + 1, isC a) :: (L, isNs m) :: Γ) I s' →
      wpAny c.M (A.deeper (callEnvC (fnOf name qual params body scope dV kV doc pm an cdv ct) L' f)) (execs body (callEnvC (fnOf name qual params body scope dV kV doc pm an cdv ct) L' f)) (fun fl s'' => Q (match fl with | .ret v => v | _ => .none) s'') (fun _ _ => False) s') :
    wpAny c.M A (call (.ref f) args []) Q E s := by
  refine wpAny_call ?_
  refine codeAny_call_cells (fd := fnOf name qual params body scope dV kV doc pm an cdv ct) (body := body) (binds := binds) hA.lim ((c.kin.keeps O.keep) _ _ ho) rfl (c.nolimit.keeps O.keep) (codeRec_of (c.kin.keeps O.keep) hcd) rfl hbind rfl (hkind _) (fun s₁ X => ?_) hco hgen hk
  obtain ⟨⟨⟨h', tk, rfl⟩, hns, hkp, hfr⟩, hcell, hap, hab⟩ := X
  have O1 : Ow c s.heap.objs.size fm ((L, isNs m) :: Γ) I { s with heap := h', toks := tk } := O.enter (Nat.le_refl _) hns (hMt _) hkp
  have hc1 := hcell x _ (hcl _)
  rw [hC] at hc1
  obtain ⟨oc', hoc, hdc⟩ := hc1
  have hlow : ∀ q : Addr × (Obj → Prop), At s q → q.1 ≠ s.heap.objs.size + 1 := fun q ⟨_, e, _⟩ => Nat.ne_of_lt (Nat.lt_succ_of_lt (Heap.lt_size e))
  have O2 := O1.grow (p := (s.heap.objs.size + 1, isC a)) ⟨oc', hoc, v, hdc, ha⟩ (Nat.succ_ne_self _) (Nat.le_succ_of_le (Nat.le_of_lt (Nat.lt_of_le_of_lt O.above O.lt))) (fun q hq => by
    rcases List.mem_cons.mp hq with rfl | hq
    · exact Nat.ne_of_lt (Nat.lt_succ_of_lt O.lt)
    · exact hlow q (O.has q hq).1) (fun q hq => hlow q (O.hasI q hq).1)
  exact wpAny_mono (h s.heap.objs.size _ hA.deeper (hcl _) O2) (fun fl s' z => z) fun _ _ z => z.elim
theorem AVs_rb {a : Addr} {b : Bool} {vs : List Value} (h : AVs [rf a, bo b] vs) : vs = [.ref a, .bool b] := by
  cases h; rename_i h1 h2; cases h1; cases h2; rename_i h1 h2; cases h1; cases h2; rfl
set_option maxHeartbeats 1000000 in
theorem sp_l_small {c : Cx} {A : Around} {L : Addr} {m : FM} {Γ I : Led} {s : Shared} {Q E} {l : Addr} {xs : List Int} {fo : Bool} {vs} (hA : Room 2 A) (hv : AVs [rf l, bo fo] vs) (hl : In2 l (isInts xs) Γ I) (hz : xs.length ≤ 10000) (O : Ow c L m Γ I s)
    (h : ∀ r s', Ow c L m ((r, isInts (xs.map (sm fo))) :: Γ) I s' → Q (.ref r) s') : wpAny c.M A (call (.ref 628) vs []) Q E s := by
  obtain rfl := AVs_rb hv
  refine call_fnC (x := "is_folded") (a := bo fo) (v := .bool fo) (fm := [("codes", rf l)]) (n := 1) hA O (by k_is) (by k_is) (by rfl) (fun S y hy => ?_) (fun L' => ?_) (fun L' => by rfl) rfl (fun L' => by rfl) (by rfl) (by rfl) (by rfl) (fun L' s hA hcl O => ?_)
  · have hy' : y = (("codes" : Str), Value.ref l) ∨ y = (("is_folded" : Str), Value.bool fo) := by
      rcases List.mem_cons.mp hy with h | h
      · exact .inl h
      · rcases List.mem_cons.mp h with h | h
        · exact .inr h
        · cases h
    rcases hy' with rfl | rfl
    · left; rfl
    · right; exact ⟨rfl, rfl⟩
  · intro y b hb
    simp only [gl] at hb
    split at hb
    · rename_i e; subst e; cases hb; exact ⟨.ref l, rfl, rfl⟩
    · cases hb
  refine st_retc (cp_list (pe_use (a := rf l) (by walk_at "ev") O fun v s hv O => ?_) (cl := [("is_folded", L' + 1)]) rfl rfl (by decide))
  cases hv
  refine cn_iterL (f := AV.i) (xs := xs) O (hl.there.there) fun it s hne O => ?_
  refine cp_core (g := AV.i) (fun C => itr_list (f := AV.i) (xs := xs) (x := "code") hA.handled hne rfl rfl) (fun i acc Γ' I' => acc = (xs.take i).map (sm fo) ∧ Γ' = _ ∧ I' = I) ?_ (by unfold lim; lia) ?_ (by decide) rfl O ⟨rfl, rfl, rfl⟩ ?_ ?_
  · rintro i acc Γ' I' ⟨-, rfl, rfl⟩; exact hl.there.there
  · rintro i acc Γ' I' ⟨rfl, -, -⟩; simp; lia
  · rintro C Dl i acc Γ' I' s hi ⟨rfl, rfl, rfl⟩ O
    have hx : xs[i]? = some xs[i] := List.getElem?_eq_getElem hi
    simp only [hx, LIt, List.cons_append, List.nil_append] at O
    refine pe_use (a := .i (sm fo xs[i])) ?_ O fun v s hv O => ?_
    · refine pe_ifexp (x := fo && (decide (65 ≤ xs[i]) && decide (xs[i] ≤ 90))) (w := nn) (pb_and (pb_val (pe_cell (q := L' + 1) (by rfl) (by walk_at "in2"))) (fun _ => pb_chain (by walk_at "ev") (by walk_at "ev") (by walk_at "ev"))) (fun ht => ?_) (fun ht => ?_)
      · have e : sm fo xs[i] = xs[i] + 32 := by simp at ht; unfold sm; rw [if_pos ⟨ht.1, ht.2⟩]
        rw [e]; walk_at "ev"
      · have e : sm fo xs[i] = xs[i] := by simp at ht; unfold sm; rw [if_neg (fun h => by have := ht h.1 h.2.1; lia)]
        rw [e]; walk_at "ev"
    refine ⟨sm fo xs[i], _, _, _, hv, ⟨map_take_snoc hx, rfl, rfl⟩, O⟩
  · rintro C m' Dl acc Γ' I' s ⟨rfl, rfl, rfl⟩ O
    refine cp_end O fun s O => ?_
    rw [List.take_length] at O
    exact h _ _ (by (((refine' Ow.got (Ow.back O ?p_423) ?g_423); (case p_423 => (walk_at "pick")); (case g_423 => walk_at "got"))))
noncomputable def hit0 (old : List Int) (D : Mdl) (p : Nat) : Mdl := Mdl.mk (D.ps ++ [Pc.mk "plain" (D.rest.take p) (D.rest.take p) false]) (Pc.mk "match" (part D.rest p (p + old.length)) (part D.rest p (p + old.length)) false) (D.rest.drop (p + old.length)) D.many D.op D.pt
noncomputable def hitX (old : List Int) (D : Mdl) (p : Nat) : Mdl := { hit0 old D p with pt := endX (hit0 old D p) }
noncomputable def missX (D : Mdl) : Mdl := Mdl.mk D.ps (Pc.mk "plain" [] [] false) D.rest D.many false D.pt
theorem cn_tupleC {c : Cx} {A : Around} {env : Env} {s : Shared} {pos : Pos} {E : Value → Shared → Prop} {es : List Expr} {k : Nat} {Q : Value → Shared → Prop}
    (h : wpAny c.M A (spliced (backTo pos (starEach es env))) (fun vs s₁ => ∃ as m Γ I, AVs as vs ∧ as.length ≤ 1000 ∧ Ow c env.locals m Γ I s₁ ∧ ∀ r s', Ow c env.locals m ((r, isT as) :: Γ) I s' → Q (.ref r) s') E s) : wpAny c.M A (eval (.Tuple es k pos) env) Q E s :=
  Tuple_ (wpAny_mono h (fun vs s₁ h₁ => by
    obtain ⟨as, m, Γ, I, hv, hz, O, k⟩ := h₁
    exact wpAny_newObj_type (k _ _ (O.push ⟨vs, 0, hv, rfl⟩)) (by show vs.toArray.size ≤ sizeLine; rw [List.size_toArray, hv.length, sizeLine_eq]; lia)) fun _ _ x => x)
theorem Sz.hit {old : List Int} {D : Mdl} {p : Nat} (hz : Sz D) (hl : D.ps.length ≤ 900) : Sz (hit0 old D p) := by
  obtain ⟨z1, z2, z3, z4⟩ := hz
  refine ⟨by simp [hit0]; lia, fun q hq => ?_, ?_, ?_⟩
  · rcases List.mem_append.mp hq with hq | hq
    · exact z2 q hq
    · simp at hq; subst hq; simp; lia
  · simp [hit0, part]; lia
  · simp [hit0]; lia
set_option maxHeartbeats 2000000 in
theorem sp_l_next {c : Cx} {A : Around} {L : Addr} {m : FM} {Γ I : Led} {s : Shared} {Q E} {X : MA} {V : MS} {old new : List Int} {fo : Bool} {D : Mdl} {vs} (hA : Room 11 A) (hv : AVs [rf X.d] vs) (hM : MI I X V old new D) (hz : Sz D) (hz2 : D.ps.length ≤ 900) (hl : old.length ≤ 1000) (O : Ow c L m (mL c X V fo D Γ) I s)
    (h : ∀ p s', First fo old D.rest 0 (some p) → Md c L m X old new fo (hitX old D p) Γ I s' → Q .none s')
    (h0 : ∀ s', First fo old D.rest 0 none → Md c L m X old new fo (missX D) Γ I s' → Q .none s') : wpAny c.M A (call (.ref 635) vs []) Q E s := by
  obtain ⟨m1, m2, m3, m4, m7⟩ := id hM
  obtain ⟨z1, z2, z3, z4⟩ := id hz
  have hlen := m7.length
  (((repeat (rename AVs (_ :: _) _ => hv0; cases hv0)); (repeat (rename AVs [] _ => hv0; cases hv0))))
  ((refine' call_fnZ hA O ?k6_425 ?k7_425 ?kb_425 ?k9_425 ?kM_425 ?kN_425 ?kB_425 ?c5_425 ?c2_425 ?c3_425 ?c4_425 ?_; (case k6_425 => k_is); (case k7_425 => k_is); (case kb_425 => (refine' zip_of ?pe_425 ?rest_425; (case pe_425 => conv => lhs; whnf); (case rest_425 => simp only [List.map, List.zip, List.zipWith]; rfl))); (case k9_425 => first | exact BindsTo.of_eq rfl | exact binds_K (Frag.In.keeps (Cx.kin _) (Ow.keep O)) rfl (by k_is) rfl rfl rfl); (case kM_425 => walk_at "mtb"); (case kN_425 => exact rfl); (case kB_425 => exact locs rfl); (case c5_425 => decide); (case c2_425 => exact rfl); (case c3_425 => exact rfl); (case c4_425 => exact rfl); intro L s hA O))
  refine st_tupleS (names := ["old", "pieces", "rest"]) hA.handled ?_
  refine cn_tuple (as := [rf X.o, rf V.ap, rf V.re]) O (by walk_at "evl") (by exact Nat.le_of_ble_eq_true rfl) fun t s O => ⟨t, _, _, _, _, _, rfl, O, .inl (.head _), rfl, Binds.cons rfl rfl (Binds.cons rfl rfl (Binds.cons rfl rfl .nil)), fun s O => ?_⟩
  have O := O.drop
  refine st_forR1 (b := (D.rest.length : Int) - old.length + 1) hA.handled O (by walk_at "name") (by walk_at "ev") (by lia) (fun i m' Γ' I' => FS m' [("model", rf X.d), ("rest", rf V.re), ("pieces", rf V.ap), ("old", rf X.o)] ∧ Γ' = _ ∧ I' = I ∧ ∀ j, j < i → matchAt fo old D.rest j = false) ⟨FS.refl, rfl, rfl, fun j hj => absurd hj (Nat.not_lt_zero _)⟩ ?_ ?_
  · rintro it i m' Γ' I' s hi ⟨hfs, rfl, rfl, hj⟩ O
    have hi : i + old.length ≤ D.rest.length := by lia
    have O := O.fs hfs.sl
    simp only [RIt, List.cons_append, List.nil_append] at O
    refine st_letc (cn_slice (f := AV.i) (a := some i) (b := some (i + old.length)) O (by walk_at "ev") (pp_some (by walk_at "ev") rfl) (pp_some (by walk_at "ev") (by lia)) (by walk_at "in2") (by walk_at "lim") fun own s O => ?_)
    refine st_store (a := rf own) O rfl fun s O => ?_
    refine st_ifc (wpAny_isTrue_Compare1 ?_ (by with_unfolding_all rfl))
    ((refine' cl_ref O ?f_426 ?k_426 ?a_426 ?_; (case f_426 => walk_at "name"); (case k_426 => (walk_at "keep")); (case a_426 => walk_at "evl"); intro vs s hv O))
    refine sp_l_small (l := own) (xs := cut D.rest (some i) (some (i + old.length))) (fo := fo) (Room.le hA (by decide)) hv (by walk_at "in2") (by have := cut_length_le D.rest (some i) (some (i + old.length)); lia) O fun r1 s O => ?_
    ((refine' cl_ref O ?f_427 ?k_427 ?a_427 ?_; (case f_427 => walk_at "name"); (case k_427 => (walk_at "keep")); (case a_427 => walk_at "evl"); intro vs s hv O))
    refine sp_l_small (l := X.o) (xs := old) (fo := fo) (Room.le hA (by decide)) hv (by walk_at "in2") (by lia) O fun r2 s O => ?_
    refine cm_eqI (Room.le hA (by decide)) (by walk_at "in2") (by walk_at "in2") _ _ _ O fun w s hw O => ?_
    have hw : w = .bool (matchAt fo old D.rest i) := hw
    subst hw
    refine wpAny_truthy_bool ?_
    cases hm : matchAt fo old D.rest i with
    | false =>
      refine st_nil (st_nil ?_)
      refine ⟨_, _, _, ⟨FS.of (.cons rfl (.cons rfl (.cons rfl (.cons rfl .nil)))), rfl, rfl, fun j hj' => ?_⟩, (by simp only [RIt, List.cons_append, List.nil_append]; (((refine' Ow.got O ?g_428); (case g_428 => walk_at "got"))))⟩
      rcases Nat.lt_succ_iff_lt_or_eq.mp hj' with h | rfl
      · exact hj j h
      · exact hm
    | true =>
      have O := Ow.frz (p := (own, isInts (cut D.rest (some i) (some (i + old.length))))) O (by walk_at "pick")
      refine st_expr (cl_list1 (f := rf) O (by walk_at "ev") (by walk_at "in2") PySem.slot_list_append PySem.F.type_list_append fun s O => ?_)
      refine cn_tupleC (wpAny_items_cons (pe_use (a := .s "plain") (by walk_at "ev") O fun v0 s hv0 O => ?_))
      refine wpAny_items_cons (cn_slice (f := AV.i) (a := none) (b := some i) O (by walk_at "ev") pp_none (pp_some (by walk_at "ev") rfl) (by walk_at "in2") (by walk_at "lim") fun l1 s O => ?_)
      refine wpAny_items_cons (cn_slice (f := AV.i) (a := none) (b := some i) O (by walk_at "ev") pp_none (pp_some (by walk_at "ev") rfl) (by walk_at "in2") (by walk_at "lim") fun l2 s O => ?_)
      refine wpAny_items_cons (pe_use (a := bo false) (by walk_at "ev") O fun v3 s hv3 O => wpAny_items_nil ?_)
      refine ⟨[.s "plain", rf l1, rf l2, bo false], _, _, _, .cons hv0 (.cons rfl (.cons rfl (.cons hv3 .nil))), by exact Nat.le_of_ble_eq_true rfl, O, fun t1 s O => ?_⟩
      refine cn_append (f := rf) (x := t1) O rfl (by walk_at "put") (by unfold lim; lia) fun s O => ?_
      have O := Ow.frz (p := (l1, isInts (cut D.rest none (some i)))) O (by walk_at "pick")
      have O := Ow.frz (p := (l2, isInts (cut D.rest none (some i)))) O (by walk_at "pick")
      have O := Ow.frz (p := (t1, isT [.s "plain", rf l1, rf l2, bo false])) O (by walk_at "pick")
      refine st_keyC (cn_tuple (as := [.s "match", rf own, rf own, bo false]) O (by walk_at "evl") (by exact Nat.le_of_ble_eq_true rfl) fun t2 s O => ?_)
      refine ss_key (a := rf t2) O rfl (by walk_at "ev") (by walk_at "put") (by exact Nat.le_of_ble_eq_true rfl) fun s O => ?_
      have O := Ow.frz (p := (t2, isT [.s "match", rf own, rf own, bo false])) O (by walk_at "pick")
      refine st_keyC (cn_slice (f := AV.i) (a := some (i + old.length)) (b := none) O (by walk_at "ev") (pp_some (by walk_at "ev") (by lia)) pp_none (by walk_at "in2") (by walk_at "lim") fun l3 s O => ?_)
      refine ss_key (a := rf l3) O rfl (by walk_at "ev") (by walk_at "put") (by exact Nat.le_of_ble_eq_true rfl) fun s O => ?_
      have O := Ow.frz (p := (l3, isInts (cut D.rest (some (i + old.length)) none))) O (by walk_at "pick")
      have hS : Sb I' ((l3, isInts (cut D.rest (some (i + old.length)) none)) :: (t2, isT [.s "match", rf own, rf own, bo false]) :: (t1, isT [.s "plain", rf l1, rf l2, bo false]) :: (l2, isInts (cut D.rest none (some i))) :: (l1, isInts (cut D.rest none (some i))) :: (own, isInts (cut D.rest (some i) (some (i + old.length)))) :: I') := ((((((Sb.refl).cons).cons).cons).cons).cons).cons
      have hp1 : PieceAt ((l3, isInts (cut D.rest (some (i + old.length)) none)) :: (t2, isT [.s "match", rf own, rf own, bo false]) :: (t1, isT [.s "plain", rf l1, rf l2, bo false]) :: (l2, isInts (cut D.rest none (some i))) :: (l1, isInts (cut D.rest none (some i))) :: (own, isInts (cut D.rest (some i) (some (i + old.length)))) :: I') t1 (Pc.mk "plain" (cut D.rest none (some i)) (cut D.rest none (some i)) false) := ⟨l1, l2, by walk_at "mem", by walk_at "mem", by walk_at "mem"⟩
      have hp2 : PieceAt ((l3, isInts (cut D.rest (some (i + old.length)) none)) :: (t2, isT [.s "match", rf own, rf own, bo false]) :: (t1, isT [.s "plain", rf l1, rf l2, bo false]) :: (l2, isInts (cut D.rest none (some i))) :: (l1, isInts (cut D.rest none (some i))) :: (own, isInts (cut D.rest (some i) (some (i + old.length)))) :: I') t2 (Pc.mk "match" (cut D.rest (some i) (some (i + old.length))) (cut D.rest (some i) (some (i + old.length))) false) := ⟨own, own, by walk_at "mem", by walk_at "mem", by walk_at "mem"⟩
      have hM' : MI ((l3, isInts (cut D.rest (some (i + old.length)) none)) :: (t2, isT [.s "match", rf own, rf own, bo false]) :: (t1, isT [.s "plain", rf l1, rf l2, bo false]) :: (l2, isInts (cut D.rest none (some i))) :: (l1, isInts (cut D.rest none (some i))) :: (own, isInts (cut D.rest (some i) (some (i + old.length)))) :: I') X ⟨l3, V.ap, t2, V.ps ++ [t1]⟩ old new (hit0 old D i) :=
        ⟨hS _ m1, hS _ m2, .head _, hp2, (m7.imp fun _ _ k => k.sb hS).app (.cons1 hp1)⟩
      refine st_keyC ?_
      ((refine' cl_ref O ?f_429 ?k_429 ?a_429 ?_; (case f_429 => walk_at "name"); (case k_429 => (walk_at "keep")); (case a_429 => walk_at "evl"); intro vs s hv O))
      refine sp_l_end (V := ⟨l3, V.ap, t2, V.ps ++ [t1]⟩) (D := hit0 old D i) (fo := fo) (Room.le hA (by decide)) hv hM' (hz.hit hz2) (by (((refine' Ow.got O ?g_430); (case g_430 => walk_at "got")))) fun v s hv O => ?_
      refine ss_key (a := .i (endX (hit0 old D i))) O hv (by walk_at "ev") (by walk_at "put") (by exact Nat.le_of_ble_eq_true rfl) fun s O => ?_
      refine st_retNone (h i _ ⟨Nat.zero_le _, hi, hm, fun q _ hq => hj q hq⟩ ⟨⟨l3, V.ap, t2, V.ps ++ [t1]⟩, _, hS, ⟨hM'.o, hM'.n, hM'.re, hM'.ar, hM'.ps⟩, (by (((refine' Ow.got (Ow.back O ?p_431) ?g_431); (case p_431 => (walk_at "pick")); (case g_431 => walk_at "got"))))⟩)
  · rintro m' Γ' I' s ⟨hfs, rfl, rfl, hj⟩ O
    have O := O.fs hfs
    ((refine' st_key O ?v_432 ?o_432 ?d_432 ?z_432 ?_; (case v_432 => walk_at "ev"); (case o_432 => walk_at "ev"); (case d_432 => (walk_at "put")); (case z_432 => exact Nat.le_of_ble_eq_true rfl); intro s O))
    ((refine' st_key O ?v_433 ?o_433 ?d_433 ?z_433 ?_; (case v_433 => walk_at "ev"); (case o_433 => walk_at "ev"); (case d_433 => (walk_at "put")); (case z_433 => exact Nat.le_of_ble_eq_true rfl); intro s O))
    refine st_keyC (cn_tupleC (wpAny_items_cons (pe_use (a := .s "plain") (by walk_at "ev") O fun v0 s hv0 O => ?_)))
    refine wpAny_items_cons (cn_display AV.i (xs := []) O pl_nil (by decide) fun l1 s O => ?_)
    refine wpAny_items_cons (cn_display AV.i (xs := []) O pl_nil (by decide) fun l2 s O => ?_)
    refine wpAny_items_cons (pe_use (a := bo false) (by walk_at "ev") O fun v3 s hv3 O => wpAny_items_nil ?_)
    refine ⟨[.s "plain", rf l1, rf l2, bo false], _, _, _, .cons hv0 (.cons rfl (.cons rfl (.cons hv3 .nil))), by exact Nat.le_of_ble_eq_true rfl, O, fun t1 s O => ?_⟩
    refine ss_key (a := rf t1) O rfl (by walk_at "ev") (by walk_at "put") (by exact Nat.le_of_ble_eq_true rfl) fun s O => ?_
    have O := Ow.frz (p := (l1, isInts [])) O (by walk_at "pick")
    have O := Ow.frz (p := (l2, isInts [])) O (by walk_at "pick")
    have O := Ow.frz (p := (t1, isT [.s "plain", rf l1, rf l2, bo false])) O (by walk_at "pick")
    have hS : Sb I' ((t1, isT [.s "plain", rf l1, rf l2, bo false]) :: (l2, isInts []) :: (l1, isInts []) :: I') := (((Sb.refl).cons).cons).cons
    have hp : PieceAt ((t1, isT [.s "plain", rf l1, rf l2, bo false]) :: (l2, isInts []) :: (l1, isInts []) :: I') t1 (Pc.mk "plain" [] [] false) := ⟨l1, l2, by walk_at "mem", by walk_at "mem", by walk_at "mem"⟩
    refine st_nil (h0 _ (fun q _ hq => hj q (by lia)) ⟨⟨V.re, V.ap, t1, V.ps⟩, _, hS, ⟨hS _ m1, hS _ m2, hS _ m3, hp, m7.imp fun _ _ k => k.sb hS⟩, (by (((refine' Ow.got (Ow.back O ?p_434) ?g_434); (case p_434 => (walk_at "pick")); (case g_434 => walk_at "got"))))⟩)
theorem ut_tup4 {c : Cx} {A : Around} {env : Env} {s : Shared} {pos : Pos} {E : Value → Shared → Prop} {x y z w : Str} {px py pz pw pt : Pos} {k : Nat} {value : Expr} {rest : List Stmt} {Q : Flow → Shared → Prop} (hh : A.handled = none)
    (h : wpAny c.M A (eval value env) (fun v s₁ => ∃ t a b d e m₁ Γ₁ I₁, v = .ref t ∧ Ow c env.locals m₁ Γ₁ I₁ s₁ ∧ In2 t (isT [a, b, d, e]) Γ₁ I₁ ∧ ∀ s', Ow c env.locals (sl (sl (sl (sl m₁ x a) y b) z d) w e) Γ₁ I₁ s' → wpAny c.M A (execs rest env) Q E s') E s)
    (hx : env.kindOf x = some .local := by rfl) (hy : env.kindOf y = some .local := by rfl) (hz : env.kindOf z = some .local := by rfl) (hw' : env.kindOf w = some .local := by rfl) (hp : (env.scope.kind == .class || (env.scope.kind == .module && env.locals != env.globals)) = false := by rfl)
    (hs : swapsWithSole [.Tuple [.Name x px, .Name y py, .Name z pz, .Name w pw] k pt] value pos.line env = pure false := by rfl)
    (hw : swappedStores [.Tuple [.Name x px, .Name y py, .Name z pz, .Name w pw] k pt] value env = pure none := by rfl)
    (hE : assignEach [.Name x px, .Name y py, .Name z pz, .Name w pw] env = [(false, assign (.Name x px) env), (false, assign (.Name y py) env), (false, assign (.Name z pz) env), (false, assign (.Name w pw) env)] := by rfl) :
    wpAny c.M A (execs (.Assign [.Tuple [.Name x px, .Name y py, .Name z pz, .Name w pw] k pt] value pos :: rest) env) Q E s :=
  st_tuple hh (wpAny_mono h (fun v s₁ h₁ => by
    obtain ⟨t, a, b, d, e, m₁, Γ₁, I₁, hv, O, ht, k⟩ := h₁
    refine ⟨t, [a, b, d, e], m₁, _, Γ₁, I₁, hv, O, ht, ?_, k⟩
    rw [hE]
    exact .cons (p' := px) hx hp (.cons (p' := py) hy hp (.cons (p' := pz) hz hp (.cons (p' := pw) hw' hp .nil)))) fun _ _ x => x) hs hw
noncomputable def put0 (new : List Int) (D : Mdl) : Mdl := Mdl.mk D.ps (Pc.mk D.pr.word D.pr.old new true) D.rest (D.many + 1) D.op D.pt
noncomputable def putX (new : List Int) (D : Mdl) : Mdl := if D.pr.so = true then D else { put0 new D with pt := endX (put0 new D) }
noncomputable def on0 (D : Mdl) : Mdl := Mdl.mk (D.ps ++ [D.pr]) (Pc.mk "plain" [] [] false) D.rest D.many D.op D.pt
noncomputable def back0 (k : Nat) (t : Pc) (D : Mdl) : Mdl := Mdl.mk (D.ps.take k) t (((D.ps.drop (k + 1) ++ [D.pr]).map (·.now)).flatten ++ D.rest) D.many D.op D.pt
noncomputable def backX (k : Nat) (t : Pc) (D : Mdl) : Mdl := { back0 k t D with pt := endX (back0 k t D) }
set_option maxHeartbeats 1000000 in
theorem sp_l_put {c : Cx} {A : Around} {L : Addr} {m : FM} {Γ I : Led} {s : Shared} {Q E} {X : MA} {V : MS} {old new : List Int} {fo : Bool} {D : Mdl} {vs} (hA : Room 3 A) (hv : AVs [rf X.d] vs) (hM : MI I X V old new D) (hz : Sz D) (hl : new.length ≤ 1000) (O : Ow c L m (mL c X V fo D Γ) I s)
    (h : ∀ s', Md c L m X old new fo (putX new D) Γ I s' → Q .none s') : wpAny c.M A (call (.ref 654) vs []) Q E s := by
  obtain ⟨m1, m2, m3, ⟨lo, ln, m4, m5, m6⟩, m7⟩ := id hM
  obtain ⟨z1, z2, z3, z4⟩ := id hz
  (((repeat (rename AVs (_ :: _) _ => hv0; cases hv0)); (repeat (rename AVs [] _ => hv0; cases hv0))))
  ((refine' call_fnZ hA O ?k6_436 ?k7_436 ?kb_436 ?k9_436 ?kM_436 ?kN_436 ?kB_436 ?c5_436 ?c2_436 ?c3_436 ?c4_436 ?_; (case k6_436 => k_is); (case k7_436 => k_is); (case kb_436 => (refine' zip_of ?pe_436 ?rest_436; (case pe_436 => conv => lhs; whnf); (case rest_436 => simp only [List.map, List.zip, List.zipWith]; rfl))); (case k9_436 => first | exact BindsTo.of_eq rfl | exact binds_K (Frag.In.keeps (Cx.kin _) (Ow.keep O)) rfl (by k_is) rfl rfl rfl); (case kM_436 => walk_at "mtb"); (case kN_436 => exact rfl); (case kB_436 => exact locs rfl); (case c5_436 => decide); (case c2_436 => exact rfl); (case c3_436 => exact rfl); (case c4_436 => exact rfl); intro L s hA O))
  refine ut_tup4 hA.handled (pe_use (a := rf V.ar) (by walk_at "ev") O fun v s hv O => ⟨V.ar, _, _, _, _, _, _, _, hv, O, .inr m4, fun s O => ?_⟩)
  cases hso : D.pr.so with
  | true =>
    rw [hso] at O
    refine st_ifF1 O (by walk_at "evb") (by rfl) fun s O => ?_
    have e : putX new D = D := by unfold putX; rw [if_pos hso]
    exact st_nil (h _ (by rw [e]; exact ⟨V, I, Sb.refl, hM, by (((refine' Ow.got (Ow.back O ?p_437) ?g_437); (case p_437 => (walk_at "pick")); (case g_437 => walk_at "got")))⟩))
  | false =>
    rw [hso] at O
    refine st_ifT1 O (by walk_at "evb") (by rfl) fun s O => ?_
    refine st_keyC (cn_tupleC (wpAny_items_cons (pe_use (a := .s D.pr.word) (by walk_at "ev") O fun v0 s hv0 O => ?_)))
    refine wpAny_items_cons (pe_use (a := rf lo) (by walk_at "ev") O fun v1 s hv1 O => ?_)
    refine wpAny_items_cons (cl_ty O (by walk_at "name") (by walk_at "evl") fun vs s hv O => ?_)
    obtain rfl := AVs_r1 hv
    refine cn_copy (f := AV.i) O (by walk_at "in2") (by unfold lim; lia) fun r s O => ?_
    refine wpAny_items_cons (pe_use (a := bo true) (by walk_at "ev") O fun v3 s hv3 O => wpAny_items_nil ?_)
    refine ⟨[.s D.pr.word, rf lo, rf r, bo true], _, _, _, .cons hv0 (.cons hv1 (.cons rfl (.cons hv3 .nil))), by exact Nat.le_of_ble_eq_true rfl, O, fun t s O => ?_⟩
    refine ss_key (a := rf t) O rfl (by walk_at "ev") (by walk_at "put") (by exact Nat.le_of_ble_eq_true rfl) fun s O => ?_
    have O := Ow.frz (p := (r, isInts new)) O (by walk_at "pick")
    have O := Ow.frz (p := (t, isT [.s D.pr.word, rf lo, rf r, bo true])) O (by walk_at "pick")
    ((refine' st_key O ?v_438 ?o_438 ?d_438 ?z_438 ?_; (case v_438 => walk_at "ev"); (case o_438 => walk_at "ev"); (case d_438 => (walk_at "put")); (case z_438 => exact Nat.le_of_ble_eq_true rfl); intro s O))
    have hS : Sb I ((t, isT [.s D.pr.word, rf lo, rf r, bo true]) :: (r, isInts new) :: I) := ((Sb.refl).cons).cons
    have hp : PieceAt ((t, isT [.s D.pr.word, rf lo, rf r, bo true]) :: (r, isInts new) :: I) t (Pc.mk D.pr.word D.pr.old new true) := ⟨lo, r, by walk_at "mem", hS _ m5, by walk_at "mem"⟩
    have hM' : MI ((t, isT [.s D.pr.word, rf lo, rf r, bo true]) :: (r, isInts new) :: I) X ⟨V.re, V.ap, t, V.ps⟩ old new (put0 new D) := ⟨hS _ m1, hS _ m2, hS _ m3, hp, m7.imp fun _ _ k => k.sb hS⟩
    refine st_keyC ?_
    ((refine' cl_ref O ?f_439 ?k_439 ?a_439 ?_; (case f_439 => walk_at "name"); (case k_439 => (walk_at "keep")); (case a_439 => walk_at "evl"); intro vs s hv O))
    refine sp_l_end (V := ⟨V.re, V.ap, t, V.ps⟩) (D := put0 new D) (fo := fo) (Room.le hA (by decide)) hv hM' ⟨z1, z2, hl, z4⟩ (by (((refine' Ow.got O ?g_440); (case g_440 => walk_at "got")))) fun v s hv O => ?_
    refine ss_key (a := .i (endX (put0 new D))) O hv (by walk_at "ev") (by walk_at "put") (by exact Nat.le_of_ble_eq_true rfl) fun s O => ?_
    have e : putX new D = { put0 new D with pt := endX (put0 new D) } := by unfold putX; rw [if_neg (by rw [hso]; decide)]
    exact st_nil (st_nil (h _ (by rw [e]; exact ⟨⟨V.re, V.ap, t, V.ps⟩, _, hS, ⟨hM'.o, hM'.n, hM'.re, hM'.ar, hM'.ps⟩, by (((refine' Ow.got (Ow.back O ?p_441) ?g_441); (case p_441 => (walk_at "pick")); (case g_441 => walk_at "got")))⟩)))
theorem Sz.on {D : Mdl} (hz : Sz D) (hl : D.ps.length ≤ 900) : Sz (on0 D) := by
  obtain ⟨z1, z2, z3, z4⟩ := hz
  refine ⟨by simp [on0]; lia, fun q hq => ?_, by simp [on0], z4⟩
  rcases List.mem_append.mp hq with hq | hq
  · exact z2 q hq
  · simp at hq; subst hq; exact z3
set_option maxHeartbeats 1000000 in
theorem sp_l_on {c : Cx} {A : Around} {L : Addr} {m : FM} {Γ I : Led} {s : Shared} {Q E} {X : MA} {V : MS} {old new : List Int} {fo : Bool} {D : Mdl} {vs} (hA : Room 12 A) (hv : AVs [rf X.d] vs) (hM : MI I X V old new D) (hz : Sz D) (hz2 : D.ps.length ≤ 800) (hl : old.length ≤ 1000) (O : Ow c L m (mL c X V fo D Γ) I s)
    (h : ∀ p s', First fo old D.rest 0 (some p) → Md c L m X old new fo (hitX old (on0 D) p) Γ I s' → Q .none s')
    (h0 : ∀ s', First fo old D.rest 0 none → Md c L m X old new fo (missX (on0 D)) Γ I s' → Q .none s') : wpAny c.M A (call (.ref 661) vs []) Q E s := by
  obtain ⟨m1, m2, m3, m4, m7⟩ := id hM
  have hlen := m7.length
  (((repeat (rename AVs (_ :: _) _ => hv0; cases hv0)); (repeat (rename AVs [] _ => hv0; cases hv0))))
  ((refine' call_fnZ hA O ?k6_443 ?k7_443 ?kb_443 ?k9_443 ?kM_443 ?kN_443 ?kB_443 ?c5_443 ?c2_443 ?c3_443 ?c4_443 ?_; (case k6_443 => k_is); (case k7_443 => k_is); (case kb_443 => (refine' zip_of ?pe_443 ?rest_443; (case pe_443 => conv => lhs; whnf); (case rest_443 => simp only [List.map, List.zip, List.zipWith]; rfl))); (case k9_443 => first | exact BindsTo.of_eq rfl | exact binds_K (Frag.In.keeps (Cx.kin _) (Ow.keep O)) rfl (by k_is) rfl rfl rfl); (case kM_443 => walk_at "mtb"); (case kN_443 => exact rfl); (case kB_443 => exact locs rfl); (case c5_443 => decide); (case c2_443 => exact rfl); (case c3_443 => exact rfl); (case c4_443 => exact rfl); intro L s hA O))
  refine st_expr (cl_list1 (f := rf) (xs := V.ps) O (by walk_at "ev") (by walk_at "in2") PySem.slot_list_append PySem.F.type_list_append fun s O => ?_)
  refine pe_use (a := rf V.ar) (by walk_at "ev") O fun v s hv O => ?_
  refine cn_append (f := rf) (x := V.ar) O hv (by walk_at "put") (by unfold lim; lia) fun s O => ?_
  refine st_keyC (cn_tupleC (wpAny_items_cons (pe_use (a := .s "plain") (by walk_at "ev") O fun v0 s hv0 O => ?_)))
  refine wpAny_items_cons (cn_display AV.i (xs := []) O pl_nil (by decide) fun l1 s O => ?_)
  refine wpAny_items_cons (cn_display AV.i (xs := []) O pl_nil (by decide) fun l2 s O => ?_)
  refine wpAny_items_cons (pe_use (a := bo false) (by walk_at "ev") O fun v3 s hv3 O => wpAny_items_nil ?_)
  refine ⟨[.s "plain", rf l1, rf l2, bo false], _, _, _, .cons hv0 (.cons rfl (.cons rfl (.cons hv3 .nil))), by exact Nat.le_of_ble_eq_true rfl, O, fun t1 s O => ?_⟩
  refine ss_key (a := rf t1) O rfl (by walk_at "ev") (by walk_at "put") (by exact Nat.le_of_ble_eq_true rfl) fun s O => ?_
  have O := Ow.frz (p := (l1, isInts [])) O (by walk_at "pick")
  have O := Ow.frz (p := (l2, isInts [])) O (by walk_at "pick")
  have O := Ow.frz (p := (t1, isT [.s "plain", rf l1, rf l2, bo false])) O (by walk_at "pick")
  have hS : Sb I ((t1, isT [.s "plain", rf l1, rf l2, bo false]) :: (l2, isInts []) :: (l1, isInts []) :: I) := (((Sb.refl).cons).cons).cons
  have hp : PieceAt ((t1, isT [.s "plain", rf l1, rf l2, bo false]) :: (l2, isInts []) :: (l1, isInts []) :: I) t1 (Pc.mk "plain" [] [] false) := ⟨l1, l2, by walk_at "mem", by walk_at "mem", by walk_at "mem"⟩
  have hM' : MI ((t1, isT [.s "plain", rf l1, rf l2, bo false]) :: (l2, isInts []) :: (l1, isInts []) :: I) X ⟨V.re, V.ap, t1, V.ps ++ [V.ar]⟩ old new (on0 D) := ⟨hS _ m1, hS _ m2, hS _ m3, hp, (m7.imp fun _ _ k => k.sb hS).app (.cons1 (m4.sb hS))⟩
  refine st_expr ?_
  ((refine' cl_ref O ?f_444 ?k_444 ?a_444 ?_; (case f_444 => walk_at "name"); (case k_444 => (walk_at "keep")); (case a_444 => walk_at "evl"); intro vs s hv O))
  refine sp_l_next (V := ⟨V.re, V.ap, t1, V.ps ++ [V.ar]⟩) (D := on0 D) (fo := fo) (Room.le hA (by decide)) hv hM' (hz.on (by lia)) (by simp [on0]; lia) hl (by (((refine' Ow.got O ?g_445); (case g_445 => walk_at "got")))) (fun p s hp hMd => ?_) (fun s hp hMd => ?_)
  · obtain ⟨V', I', hS', hM'', O⟩ := hMd
    exact st_nil (h p _ hp ⟨V', I', hS.trans hS', hM'', by (((refine' Ow.got (Ow.back O ?p_446) ?g_446); (case p_446 => (walk_at "pick")); (case g_446 => walk_at "got")))⟩)
  · obtain ⟨V', I', hS', hM'', O⟩ := hMd
    exact st_nil (h0 _ hp ⟨V', I', hS.trans hS', hM'', by (((refine' Ow.got (Ow.back O ?p_447) ?g_447); (case p_447 => (walk_at "pick")); (case g_447 => walk_at "got")))⟩)
set_option maxHeartbeats 2000000 in
theorem sp_l_back {c : Cx} {A : Around} {L : Addr} {m : FM} {Γ I : Led} {s : Shared} {Q E} {X : MA} {V : MS} {old new : List Int} {fo : Bool} {D : Mdl} {k : Nat} {t : Pc} {vs} (hA : Room 3 A) (hv : AVs [rf X.d, .i k] vs) (hM : MI I X V old new D) (hz : Sz D) (hz2 : D.ps.length ≤ 500) (hk : D.ps[k]? = some t) (hz' : Sz (back0 k t D)) (O : Ow c L m (mL c X V fo D Γ) I s)
    (h : ∀ s', Md c L m X old new fo (backX k t D) Γ I s' → Q .none s') : wpAny c.M A (call (.ref 668) vs []) Q E s := by
  obtain ⟨m1, m2, m3, m4, m7⟩ := id hM
  obtain ⟨z1, z2, z3, z4⟩ := id hz
  have hlen := m7.length
  have hkl := (List.getElem?_eq_some_iff.mp hk).1
  obtain ⟨ta, hta, htp⟩ := m7.get hk
  have hall : Alls (PieceAt I) (V.ps.drop (k + 1) ++ [V.ar]) (D.ps.drop (k + 1) ++ [D.pr]) := (m7.drop _).app (.cons1 m4)
  have hall2 : ∀ p ∈ D.ps.drop (k + 1) ++ [D.pr], p.now.length ≤ 1000 := fun p hp => by
    rcases List.mem_append.mp hp with hp | hp
    · exact z2 p (List.mem_of_mem_drop hp)
    · simp at hp; subst hp; exact z3
  have hln : (D.ps.drop (k + 1) ++ [D.pr]).length ≤ 501 := by simp; lia
  obtain ⟨L₀, hL₀⟩ : ∃ L₀, L₀ = L := ⟨_, rfl⟩
  subst hL₀
  (((repeat (rename AVs (_ :: _) _ => hv0; cases hv0)); (repeat (rename AVs [] _ => hv0; cases hv0))))
  ((refine' call_fnZ hA O ?k6_449 ?k7_449 ?kb_449 ?k9_449 ?kM_449 ?kN_449 ?kB_449 ?c5_449 ?c2_449 ?c3_449 ?c4_449 ?_; (case k6_449 => k_is); (case k7_449 => k_is); (case kb_449 => (refine' zip_of ?pe_449 ?rest_449; (case pe_449 => conv => lhs; whnf); (case rest_449 => simp only [List.map, List.zip, List.zipWith]; rfl))); (case k9_449 => first | exact BindsTo.of_eq rfl | exact binds_K (Frag.In.keeps (Cx.kin _) (Ow.keep O)) rfl (by k_is) rfl rfl rfl); (case kM_449 => walk_at "mtb"); (case kN_449 => exact rfl); (case kB_449 => exact locs rfl); (case c5_449 => decide); (case c2_449 => exact rfl); (case c3_449 => exact rfl); (case c4_449 => exact rfl); intro L s hA O))
  refine st_letc (cn_display AV.i (xs := []) O pl_nil (by decide) fun l0 s O => ?_)
  refine st_store (a := rf l0) O rfl fun s O => ?_
  refine st_for (wpAny_BinOp (cn_slice (f := rf) (a := some (k + 1)) (b := none) O (by walk_at "ev") (pp_some (by walk_at "ev") (by lia)) pp_none (by walk_at "in2") (by walk_at "lim") fun l5 s O => ?_))
  refine cn_display rf (xs := [V.ar]) O (pl_cons (a := rf V.ar) (by walk_at "ev") pl_nil) (by exact Nat.le_of_ble_eq_true rfl) fun l1 s O => ?_
  refine cn_add (f := rf) (xs := V.ps.drop (k + 1)) (ys := [V.ar]) O (by exact .inl (.tail _ (.head _))) (by walk_at "in2") (by simp; unfold lim; lia) fun l2 s O => ?_
  refine cn_iterL (f := rf) (xs := V.ps.drop (k + 1) ++ [V.ar]) O (by walk_at "in2") fun it s hne O => ?_
  have O : Ow c L [("model", rf X.d), ("place", .i k), ("rest", rf l0)] (LIt it l2 0 ++ ((l0, isInts []) :: (l2, isRefs (V.ps.drop (k + 1) ++ [V.ar])) :: (L₀, isNs m) :: mL c X V fo D Γ)) I s := by
    simp only [LIt, List.cons_append, List.nil_append] at O ⊢
    exact Ow.got O (by walk_at "got")
  refine lp_for (itr_list (f := rf) (xs := V.ps.drop (k + 1) ++ [V.ar]) (x := "piece") hA.handled hne rfl rfl) (fun i m' Γ' I' => ∃ l, FS m' [("model", rf X.d), ("place", .i k), ("rest", rf l)] ∧ Γ' = (l, isInts ((((D.ps.drop (k + 1) ++ [D.pr]).take i).map (·.now)).flatten)) :: (l2, isRefs (V.ps.drop (k + 1) ++ [V.ar])) :: _ ∧ I' = I) ?_ O ⟨l0, FS.refl, rfl, rfl⟩ ?_ ?_
  · rintro i m' Γ' I' ⟨l, -, rfl, rfl⟩; walk_at "in2"
  · rintro i m' Γ' I' s hi ⟨l, hfs, rfl, rfl⟩ O
    have hi' : i < (D.ps.drop (k + 1) ++ [D.pr]).length := by rw [← hall.length]; exact hi
    obtain ⟨a, ha, lo', ln', q1, q2, q3⟩ := hall.get (i := i) (b := (D.ps.drop (k + 1) ++ [D.pr])[i]) (List.getElem?_eq_getElem hi')
    simp only [ha, LIt, List.cons_append, List.nil_append] at O
    have hp := hall2 _ (List.getElem_mem hi')
    have hw := piece_len (ps := (D.ps.drop (k + 1) ++ [D.pr]).take i) fun p hp => hall2 p (List.mem_of_mem_take hp)
    have hti : ((D.ps.drop (k + 1) ++ [D.pr]).take i).length ≤ 501 := by rw [List.length_take]; lia
    have O := O.fs (FS.of (m := sl m' "piece" (rf a)) (r := [("model", rf X.d), ("place", .i k), ("rest", rf l), ("piece", rf a)]) (.cons (by rw [gl_sl, if_neg (by decide)]; exact hfs _ _ rfl) (.cons (by rw [gl_sl, if_neg (by decide)]; exact hfs _ _ rfl) (.cons (by rw [gl_sl, if_neg (by decide)]; exact hfs _ _ rfl) (.cons (by rw [gl_sl, if_pos rfl]) .nil)))))
    refine st_letc (wpAny_BinOp (pe_use (a := rf l) (by walk_at "ev") O fun v s hv O => ?_))
    cases hv
    refine pe_use (a := rf ln') (by walk_at "ev") O fun v s hv O => ?_
    cases hv
    refine cn_add (f := AV.i) O (by walk_at "in2") (by walk_at "in2") (by unfold lim; lia) fun l3 s O => ?_
    refine st_store (a := rf l3) O rfl fun s O => ?_
    refine st_nil ⟨[("model", rf X.d), ("place", .i k), ("rest", rf l3), ("piece", rf a)], (l3, isInts ((((D.ps.drop (k + 1) ++ [D.pr]).take (i + 1)).map (·.now)).flatten)) :: (l2, isRefs (V.ps.drop (k + 1) ++ [V.ar])) :: _, _, ⟨l3, FS.of (.cons rfl (.cons rfl (.cons rfl .nil))), rfl, rfl⟩, ?_⟩
    have e : (((D.ps.drop (k + 1) ++ [D.pr]).take (i + 1)).map (·.now)).flatten = (((D.ps.drop (k + 1) ++ [D.pr]).take i).map (·.now)).flatten ++ ((D.ps.drop (k + 1) ++ [D.pr])[i]).now := by
      rw [← map_take_snoc (List.getElem?_eq_getElem hi')]; simp
    rw [e]
    simp only [LIt, List.cons_append, List.nil_append]
    (((refine' Ow.got O ?g_450); (case g_450 => walk_at "got")))
  · rintro m' Γ' I' s ⟨l, hfs, rfl, rfl⟩ O
    have hw := piece_len hall2
    rw [hall.length, List.take_length] at O
    have O := O.fs hfs
    refine st_keyC (wpAny_BinOp (pe_use (a := rf l) (by walk_at "ev") O fun v s hv O => ?_))
    cases hv
    refine pe_use (a := rf V.re) (by walk_at "ev") O fun v s hv O => ?_
    cases hv
    refine cn_add (f := AV.i) O (by walk_at "in2") (by walk_at "in2") (by unfold lim; lia) fun l3 s O => ?_
    refine ss_key (a := rf l3) O rfl (by walk_at "ev") (by walk_at "put") (by exact Nat.le_of_ble_eq_true rfl) fun s O => ?_
    have O := Ow.frz (p := (l3, isInts (((D.ps.drop (k + 1) ++ [D.pr]).map (·.now)).flatten ++ D.rest))) O (by walk_at "pick")
    refine st_key O (pe_item (f := rf) (xs := V.ps) (k := (k : Int)) (x := ta) (by walk_at "ev") (by walk_at "ev") (by walk_at "in2") (by lia) (by walk_at "lim") hta) (by walk_at "ev") (by walk_at "put") (by exact Nat.le_of_ble_eq_true rfl) fun s O => ?_
    refine st_keyC (cn_slice (f := rf) (a := none) (b := some k) O (by walk_at "ev") pp_none (pp_some (by walk_at "ev") rfl) (by walk_at "in2") (by walk_at "lim") fun l4 s O => ?_)
    refine ss_key (a := rf l4) O rfl (by walk_at "ev") (by walk_at "put") (by exact Nat.le_of_ble_eq_true rfl) fun s O => ?_
    have hS : Sb I' ((l3, isInts (((D.ps.drop (k + 1) ++ [D.pr]).map (·.now)).flatten ++ D.rest)) :: I') := (Sb.refl).cons
    have hM' : MI ((l3, isInts (((D.ps.drop (k + 1) ++ [D.pr]).map (·.now)).flatten ++ D.rest)) :: I') X ⟨l3, l4, ta, V.ps.take k⟩ old new (back0 k t D) := ⟨hS _ m1, hS _ m2, .head _, htp.sb hS, (m7.take k).imp fun _ _ k => k.sb hS⟩
    refine st_keyC ?_
    ((refine' cl_ref O ?f_451 ?k_451 ?a_451 ?_; (case f_451 => walk_at "name"); (case k_451 => (walk_at "keep")); (case a_451 => walk_at "evl"); intro vs s hv O))
    refine sp_l_end (V := ⟨l3, l4, ta, V.ps.take k⟩) (D := back0 k t D) (fo := fo) (Room.le hA (by decide)) hv hM' hz' (by (((refine' Ow.got O ?g_452); (case g_452 => walk_at "got")))) fun v s hv O => ?_
    refine ss_key (a := .i (endX (back0 k t D))) O hv (by walk_at "ev") (by walk_at "put") (by exact Nat.le_of_ble_eq_true rfl) fun s O => ?_
    exact st_nil (h _ ⟨⟨l3, l4, ta, V.ps.take k⟩, _, hS, ⟨hM'.o, hM'.n, hM'.re, hM'.ar, hM'.ps⟩, by (((refine' Ow.got (Ow.back O ?p_453) ?g_453); (case p_453 => (walk_at "pick")); (case g_453 => walk_at "got")))⟩)
theorem pe_last {α : Type} {f : α → AV} {c : Cx} {A : Around} {env : Env} {m : FM} {Γ I : Led} {pos p p' : Pos} {e : Expr} {k : Option Str} {l : Addr} {xs : List α} {x : α} {k1} (he : PE c A env m Γ I e (rf l)) (hl : In2 l (isLm f (xs ++ [x])) Γ I) (hz : xs.length ≤ 10000)
    (hs : ∀ u, subscripted (.UnaryOp .USub (.Constant (.int 1) k1 p) p') false (.ref l) (.int (-1) u) = operate [.ref l, .int (-1) u] (getItem (.ref l) (.int (-1) u)) := by intro _; with_unfolding_all rfl) :
    PE c A env m Γ I (.Subscript e (.UnaryOp .USub (.Constant (.int 1) k1 p) p') pos) (f x) := fun _ _ _ O q => Subscript_ (he _ _ _ O fun v s' hv O' => wpAny_UnaryOp (wpAny_Constant_int (neg_int (by
  cases hv
  have O' := O'.tok (tk := s'.toks + 1) |>.tok (tk := s'.toks + 1 + 1)
  obtain ⟨vs, n', hi', ho⟩ := O'.lst hl
  have hlen := hi'.length
  simp only [List.length_map, List.length_append, List.length_cons, List.length_nil] at hlen
  obtain ⟨v, hv, hx⟩ := hi'.get (i := xs.length) (a := f x) (by rw [List.getElem?_map, List.getElem?_append_right (Nat.le_refl _)]; simp)
  have hL : Heap.IsList (Shared.heap _) l vs.toArray := ⟨_, ho, rfl, n', rfl⟩
  refine tail_any (o := .ref l) (i := .int (-1) _) hL.typeIs slot_list_getitem.lookup (wpAny_getItem_list_neg hL (by decide) (by rw [List.size_toArray, hlen]; lia) (by decide) (x := v) (by rw [List.size_toArray, hlen, show ((-1 : Int) + ((xs.length + (0 + 1) : Nat) : Int)).toNat = xs.length by lia]; simpa using hv) (q _ _ hx O')) (hs _)))))
noncomputable def soAt (D : Mdl) (i : Nat) : Bool := match D.ps[i]? with | some p => p.so | none => false
theorem filter_last {P : Nat → Bool} {k n : Nat} (hk : P k = true) (hn : k < n) (hj : ∀ j, k < j → j < n → P j = false) : (List.range n).filter P = (List.range k).filter P ++ [k] := by
  induction n with
  | zero => lia
  | succ n ih =>
    rw [List.range_succ, List.filter_append]
    rcases Nat.lt_succ_iff_lt_or_eq.mp hn with h | rfl
    · rw [ih h fun j h1 h2 => hj j h1 (by lia)]; simp [hj n h (by lia)]
    · simp [hk]
theorem filter_no {P : Nat → Bool} {n : Nat} (hj : ∀ j, j < n → P j = false) : (List.range n).filter P = [] := by
  rw [List.filter_eq_nil_iff]; intro j h; simp at h; simp [hj j h]
theorem filter_snoc {P : Nat → Bool} {i : Nat} (h : P i = true) : ((List.range i).filter P).map Int.ofNat ++ [(i : Int)] = ((List.range (i + 1)).filter P).map Int.ofNat := by
  rw [List.range_succ, List.filter_append, List.map_append]; simp [h]
theorem filter_skip {P : Nat → Bool} {i : Nat} (h : P i = false) : ((List.range i).filter P).map Int.ofNat = ((List.range (i + 1)).filter P).map Int.ofNat := by
  rw [List.range_succ, List.filter_append, List.map_append]; simp [h]
noncomputable def undo0 (D : Mdl) : Mdl := Mdl.mk D.ps (Pc.mk D.pr.word D.pr.old D.pr.old false) D.rest (D.many - 1) D.op D.pt
noncomputable def undoX (D : Mdl) : Mdl := { undo0 D with pt := endX (undo0 D) }
inductive TBX : Mdl → Mdl → Bool → Prop
  | no {D : Mdl} : D.pr.so = false → (∀ p ∈ D.ps, p.so = false) → TBX D D false
  | own {D : Mdl} : D.pr.so = true → Sz (undo0 D) → TBX D (undoX D) true
  | back {D : Mdl} {k : Nat} {t : Pc} : D.pr.so = false → D.ps[k]? = some t → t.so = true → (∀ j p, k < j → D.ps[j]? = some p → p.so = false) → Sz (back0 k t D) → Sz (undo0 (backX k t D)) → TBX D (undoX (backX k t D)) true
set_option maxHeartbeats 2000000 in
theorem sp_l_restored {c : Cx} {A : Around} {L : Addr} {m : FM} {Γ I : Led} {s : Shared} {Q E} {X : MA} {V : MS} {old new : List Int} {fo : Bool} {D D' : Mdl} {r : Bool} {vs} (hA : Room 11 A) (hv : AVs [rf X.d] vs) (hM : MI I X V old new D) (hz : Sz D) (hz2 : D.ps.length ≤ 500) (O : Ow c L m (mL c X V fo D Γ) I s) (hT : TBX D D' r)
    (h : ∀ s', Md c L m X old new fo D' Γ I s' → Q (.bool r) s') : wpAny c.M A (call (.ref 673) vs []) Q E s := by
  obtain ⟨m1, m2, m3, ⟨lo, ln, m4, m5, m6⟩, m7⟩ := id hM
  have hlen := m7.length
  (((repeat (rename AVs (_ :: _) _ => hv0; cases hv0)); (repeat (rename AVs [] _ => hv0; cases hv0))))
  ((refine' call_fnZ hA O ?k6_455 ?k7_455 ?kb_455 ?k9_455 ?kM_455 ?kN_455 ?kB_455 ?c5_455 ?c2_455 ?c3_455 ?c4_455 ?_; (case k6_455 => k_is); (case k7_455 => k_is); (case kb_455 => (refine' zip_of ?pe_455 ?rest_455; (case pe_455 => conv => lhs; whnf); (case rest_455 => simp only [List.map, List.zip, List.zipWith]; rfl))); (case k9_455 => first | exact BindsTo.of_eq rfl | exact binds_K (Frag.In.keeps (Cx.kin _) (Ow.keep O)) rfl (by k_is) rfl rfl rfl); (case kM_455 => walk_at "mtb"); (case kN_455 => exact rfl); (case kB_455 => exact locs rfl); (case c5_455 => decide); (case c2_455 => exact rfl); (case c3_455 => exact rfl); (case c4_455 => exact rfl); intro L s hA O))
  refine st_comp (cl_ty O (by walk_at "name") (by walk_at "evl") fun vs s hv O => ?_) rfl rfl (by decide)
  obtain rfl := AVs_r1 hv
  refine cn_enum (f := rf) (xs := V.ps) O (by walk_at "in2") fun e it s hei hle hli O => ?_
  obtain ⟨⟨old', he⟩, -⟩ := O.eit
  refine wpAny_pyIter_enum he ?_
  refine cp_core (g := AV.i) (fun C => itr_enum (f := rf) (xs := V.ps) (x := "place") (y := "piece") hA.handled hei hle hli rfl rfl rfl) (fun i acc Γ' I' => acc = ((List.range i).filter (soAt D)).map Int.ofNat ∧ Γ' = _ ∧ I' = I) ?_ (by unfold lim; lia) ?_ (by decide) rfl O ⟨rfl, rfl, rfl⟩ ?_ ?_
  · rintro i acc Γ' I' ⟨-, rfl, rfl⟩; walk_at "in2"
  · rintro i acc Γ' I' ⟨rfl, -, -⟩
    rw [List.length_map]; exact Nat.le_trans (List.length_filter_le _ _) (by simp)
  · rintro C Dl i acc Γ' I' s hi ⟨rfl, rfl, rfl⟩ O
    have hi' : i < D.ps.length := by lia
    obtain ⟨a, ha, lo', ln', q1, q2, q3⟩ := m7.get (i := i) (b := D.ps[i]) (List.getElem?_eq_getElem hi')
    simp only [ha, EIt, List.cons_append, List.nil_append] at O
    refine pb_use (b := D.ps[i].so) (by walk_at "evb") O fun s O => ?_
    have hso : soAt D i = D.ps[i].so := by unfold soAt; rw [List.getElem?_eq_getElem hi']
    cases hb : D.ps[i].so with
    | false => exact ⟨_, _, _, ⟨filter_skip (by rw [hso, hb]), rfl, rfl⟩, O⟩
    | true =>
      refine pe_use (a := .i i) (by walk_at "ev") O fun v s hv O => ?_
      exact ⟨(i : Int), _, _, _, hv, ⟨filter_snoc (by rw [hso, hb]), rfl, rfl⟩, O⟩
  rintro C m' Dl acc Γ' I' s ⟨rfl, rfl, rfl⟩ O
  refine cp_endS O fun s O => ?_
  rw [hlen] at O
  have hfl : (((List.range D.ps.length).filter (soAt D)).map Int.ofNat).length ≤ 500 := by
    rw [List.length_map]; exact Nat.le_trans (List.length_filter_le _ _) (by simp; lia)
  cases hT with
  | no h1 h2 =>
    have e : ((List.range D.ps.length).filter (soAt D)).map Int.ofNat = [] := by
      rw [filter_no]; rfl
      intro j hj
      unfold soAt; rw [List.getElem?_eq_getElem hj]; exact h2 _ (List.getElem_mem _)
    rw [e] at O
    rw [h1] at m4
    refine st_ifT1 (b := !false && decide (([] : List Int) = [])) O (pb_and (pb_not (by walk_at "evb")) (fun _ => pb_eqI (ks := []) (Room.le hA (by decide)) (by walk_at "ev") pl_nil (by walk_at "in2") (by decide))) (by decide) fun s O => ?_
    exact st_ret O (a := bo false) (by walk_at "ev") fun v s hv O => by cases hv; exact h _ ⟨V, _, Sb.refl, hM, by (((refine' Ow.got (Ow.back O ?p_456) ?g_456); (case p_456 => (walk_at "pick")); (case g_456 => walk_at "got")))⟩
  | own h1 h2 =>
    have m4' := m4
    rw [h1] at m4'
    refine st_ifF1 (b := !true && false) O (pb_and (pb_not (by walk_at "evb")) (fun h => nomatch h)) (by decide) fun s O => ?_
    refine st_ifF1 (b := !true) O (pb_not (by walk_at "evb")) (by decide) fun s O => ?_
    refine ut_tup4 hA.handled (pe_use (a := rf V.ar) (by walk_at "ev") O fun v s hv O => ⟨V.ar, _, _, _, _, _, _, _, hv, O, .inr m4, fun s O => ?_⟩)
    refine st_keyC (cn_tuple (as := [.s D.pr.word, rf lo, rf lo, bo false]) O (by walk_at "evl") (by exact Nat.le_of_ble_eq_true rfl) fun t s O => ?_)
    refine ss_key (a := rf t) O rfl (by walk_at "ev") (by walk_at "put") (by exact Nat.le_of_ble_eq_true rfl) fun s O => ?_
    have O := Ow.frz (p := (t, isT [.s D.pr.word, rf lo, rf lo, bo false])) O (by walk_at "pick")
    ((refine' st_key O ?v_457 ?o_457 ?d_457 ?z_457 ?_; (case v_457 => walk_at "ev"); (case o_457 => walk_at "ev"); (case d_457 => (walk_at "put")); (case z_457 => exact Nat.le_of_ble_eq_true rfl); intro s O))
    have hS : Sb I' ((t, isT [.s D.pr.word, rf lo, rf lo, bo false]) :: I') := (Sb.refl).cons
    have hp : PieceAt ((t, isT [.s D.pr.word, rf lo, rf lo, bo false]) :: I') t (Pc.mk D.pr.word D.pr.old D.pr.old false) := ⟨lo, lo, by walk_at "mem", hS _ m5, hS _ m5⟩
    have hM' : MI ((t, isT [.s D.pr.word, rf lo, rf lo, bo false]) :: I') X ⟨V.re, V.ap, t, V.ps⟩ old new (undo0 D) := ⟨hS _ m1, hS _ m2, hS _ m3, hp, m7.imp fun _ _ k => k.sb hS⟩
    refine st_keyC ?_
    ((refine' cl_ref O ?f_458 ?k_458 ?a_458 ?_; (case f_458 => walk_at "name"); (case k_458 => (walk_at "keep")); (case a_458 => walk_at "evl"); intro vs s hv O))
    refine sp_l_end (V := ⟨V.re, V.ap, t, V.ps⟩) (D := undo0 D) (fo := fo) (Room.le hA (by decide)) hv hM' h2 (by (((refine' Ow.got O ?g_459); (case g_459 => walk_at "got")))) fun v s hv O => ?_
    refine ss_key (a := .i (endX (undo0 D))) O hv (by walk_at "ev") (by walk_at "put") (by exact Nat.le_of_ble_eq_true rfl) fun s O => ?_
    exact st_ret O (a := bo true) (by walk_at "ev") fun v s hv O => by cases hv; exact h _ ⟨⟨V.re, V.ap, t, V.ps⟩, _, hS, ⟨hM'.o, hM'.n, hM'.re, hM'.ar, hM'.ps⟩, by (((refine' Ow.got (Ow.back O ?p_460) ?g_460); (case p_460 => (walk_at "pick")); (case g_460 => walk_at "got")))⟩
  | @back k t h1 h2 h3 h4 h5 h6 =>
    have m4' := m4
    rw [h1] at m4'
    have hkl := (List.getElem?_eq_some_iff.mp h2).1
    have e : ((List.range D.ps.length).filter (soAt D)).map Int.ofNat = ((List.range k).filter (soAt D)).map Int.ofNat ++ [(k : Int)] := by
      rw [filter_last (k := k) (by unfold soAt; rw [h2]; exact h3) hkl (fun j q1 q2 => by unfold soAt; rw [List.getElem?_eq_getElem q2]; exact h4 j _ q1 (List.getElem?_eq_getElem q2)), List.map_append]; rfl
    rw [e] at O hfl
    rw [List.length_append] at hfl
    refine st_ifF1 (b := !false && decide (((List.range k).filter (soAt D)).map Int.ofNat ++ [(k : Int)] = [])) O (pb_and (pb_not (by walk_at "evb")) (fun _ => pb_eqI (ks := []) (Room.le hA (by decide)) (by walk_at "ev") pl_nil (by walk_at "in2") (by decide))) (by simp) fun s O => ?_
    refine st_ifT1 (b := !false) O (pb_not (by walk_at "evb")) (by decide) fun s O => ?_
    refine st_expr (cl_ref (as := [rf X.d, .i k]) O (by walk_at "name") (by walk_at "keep") (pl_cons (by walk_at "ev") (pl_cons (pe_last (k := none) (f := AV.i) (xs := ((List.range k).filter (soAt D)).map Int.ofNat) (x := (k : Int)) (by walk_at "ev") (by walk_at "in2") (by lia)) pl_nil)) fun vs s hv O => ?_)
    refine sp_l_back (V := V) (D := D) (fo := fo) (k := k) (t := t) (Room.le hA (by decide)) hv hM hz hz2 h2 h5 (by (((refine' Ow.got O ?g_461); (case g_461 => walk_at "got")))) fun s hMd => ?_
    obtain ⟨V', I'', hS0, hM2, O⟩ := hMd
    obtain ⟨p1, p2, p3, ⟨lo', ln', p4, p5, p6⟩, p7⟩ := id hM2
    refine st_nil ?_
    refine ut_tup4 hA.handled (pe_use (a := rf V'.ar) (by walk_at "ev") O fun v s hv O => ⟨V'.ar, _, _, _, _, _, _, _, hv, O, .inr p4, fun s O => ?_⟩)
    refine st_keyC (cn_tuple (as := [.s (backX k t D).pr.word, rf lo', rf lo', bo false]) O (by walk_at "evl") (by exact Nat.le_of_ble_eq_true rfl) fun t' s O => ?_)
    refine ss_key (a := rf t') O rfl (by walk_at "ev") (by walk_at "put") (by exact Nat.le_of_ble_eq_true rfl) fun s O => ?_
    have O := Ow.frz (p := (t', isT [.s (backX k t D).pr.word, rf lo', rf lo', bo false])) O (by walk_at "pick")
    ((refine' st_key O ?v_462 ?o_462 ?d_462 ?z_462 ?_; (case v_462 => walk_at "ev"); (case o_462 => walk_at "ev"); (case d_462 => (walk_at "put")); (case z_462 => exact Nat.le_of_ble_eq_true rfl); intro s O))
    have hS : Sb I'' ((t', isT [.s (backX k t D).pr.word, rf lo', rf lo', bo false]) :: I'') := (Sb.refl).cons
    have hp : PieceAt ((t', isT [.s (backX k t D).pr.word, rf lo', rf lo', bo false]) :: I'') t' (Pc.mk (backX k t D).pr.word (backX k t D).pr.old (backX k t D).pr.old false) := ⟨lo', lo', by walk_at "mem", hS _ p5, hS _ p5⟩
    have hM' : MI ((t', isT [.s (backX k t D).pr.word, rf lo', rf lo', bo false]) :: I'') X ⟨V'.re, V'.ap, t', V'.ps⟩ old new (undo0 (backX k t D)) := ⟨hS _ p1, hS _ p2, hS _ p3, hp, p7.imp fun _ _ k => k.sb hS⟩
    refine st_keyC ?_
    ((refine' cl_ref O ?f_463 ?k_463 ?a_463 ?_; (case f_463 => walk_at "name"); (case k_463 => (walk_at "keep")); (case a_463 => walk_at "evl"); intro vs s hv O))
    refine sp_l_end (V := ⟨V'.re, V'.ap, t', V'.ps⟩) (D := undo0 (backX k t D)) (fo := fo) (Room.le hA (by decide)) hv hM' h6 (by (((refine' Ow.got O ?g_464); (case g_464 => walk_at "got")))) fun v s hv O => ?_
    refine ss_key (a := .i (endX (undo0 (backX k t D)))) O hv (by walk_at "ev") (by walk_at "put") (by exact Nat.le_of_ble_eq_true rfl) fun s O => ?_
    exact st_ret O (a := bo true) (by walk_at "ev") fun v s hv O => by cases hv; exact h _ ⟨⟨V'.re, V'.ap, t', V'.ps⟩, _, hS0.trans hS, ⟨hM'.o, hM'.n, hM'.re, hM'.ar, hM'.ps⟩, by (((refine' Ow.got (Ow.back O ?p_465) ?g_465); (case p_465 => (walk_at "pick")); (case g_465 => walk_at "got")))⟩

theorem st_ifF2 {c : Cx} {A : Around} {env : Env} {m : FM} {Γ I : Led} {s : Shared} {pos : Pos} {E : Value → Shared → Prop} {Q : Flow → Shared → Prop} {rest : List Stmt} {t : Expr} {body orelse : List Stmt} {b : Bool} (O : Ow c env.locals m Γ I s) (ht : PB c A env m Γ I t b) (hb : b = false)
    (h1 : ∀ s', Ow c env.locals m Γ I s' → wpAny c.M A (execs orelse env) (Thn c A env rest Q E) E s') : wpAny c.M A (execs (.If t body orelse pos :: rest) env) Q E s := st_ifF O (hb ▸ ht) h1
theorem cm_neS {c : Cx} {A : Around} {L : Addr} {m : FM} {Γ I : Led} {x y : Str} : ∀ v u, (AV.s x).is v → (AV.s y).is u → Pu c A L m Γ I (compareOp .NotEq v u) (· = .bool (!decide (x = y))) := by
  rintro _ _ ⟨t, rfl⟩ ⟨u, rfl⟩ _ _ _ O k
  refine P.ne_str (k _ _ ?_ O)
  rw [bne, str_eq_cps]
theorem First.det {fo : Bool} {old text : List Int} {a : Nat} {r r' : Option Nat} (h : First fo old text a r) (h' : First fo old text a r') : r = r' := by
  cases r with
  | none =>
    cases r' with
    | none => rfl
    | some p => have := h p h'.1 h'.2.1; rw [h'.2.2.1] at this; cases this
  | some p =>
    cases r' with
    | none => have := h' p h.1 h.2.1; rw [h.2.2.1] at this; cases this
    | some q =>
      rcases Nat.lt_trichotomy p q with hlt | rfl | hlt
      · have := h'.2.2.2 p h.1 hlt; rw [h.2.2.1] at this; cases this
      · rfl
      · have := h.2.2.2 q h'.1 hlt; rw [h'.2.2.1] at this; cases this
noncomputable def NextX (fo : Bool) (old : List Int) (D D' : Mdl) : Prop := (∃ p, First fo old D.rest 0 (some p) ∧ D' = hitX old D p) ∨ (First fo old D.rest 0 none ∧ D' = missX D)
theorem sp_l_onX {c : Cx} {A : Around} {L : Addr} {m : FM} {Γ I : Led} {s : Shared} {Q E} {X : MA} {V : MS} {old new : List Int} {fo : Bool} {D D' : Mdl} {vs} (hA : Room 12 A) (hv : AVs [rf X.d] vs) (hM : MI I X V old new D) (hz : Sz D) (hz2 : D.ps.length ≤ 800) (hl : old.length ≤ 1000) (O : Ow c L m (mL c X V fo D Γ) I s)
    (hN : NextX fo old (on0 D) D') (h : ∀ s', Md c L m X old new fo D' Γ I s' → Q .none s') : wpAny c.M A (call (.ref 661) vs []) Q E s := by
  refine sp_l_on hA hv hM hz hz2 hl O (fun p s hp hMd => ?_) (fun s hp hMd => ?_)
  · rcases hN with ⟨q, hq, rfl⟩ | ⟨hq, rfl⟩
    · cases First.det hp hq; exact h _ hMd
    · cases First.det hp hq
  · rcases hN with ⟨q, hq, rfl⟩ | ⟨hq, rfl⟩
    · cases First.det hp hq
    · exact h _ hMd
noncomputable def shutX (D : Mdl) : Mdl := Mdl.mk D.ps D.pr D.rest D.many false D.pt
noncomputable def maAt (D : Mdl) (i : Nat) : Bool := match D.ps[i]? with | some p => decide (p.word = ("match" : Str)) | none => false
theorem Sz.put {new : List Int} {D : Mdl} (hz : Sz D) (hn : new.length ≤ 1000) : Sz (putX new D) := by
  obtain ⟨z1, z2, z3, z4⟩ := hz
  unfold putX
  split
  · exact ⟨z1, z2, z3, z4⟩
  · exact ⟨z1, z2, hn, z4⟩
theorem putX_ps {new : List Int} {D : Mdl} : (putX new D).ps = D.ps := by unfold putX; split <;> rfl
inductive AllX (fo : Bool) (old new : List Int) : Nat → Mdl → Mdl → Prop
  | done {k : Nat} {D : Mdl} : D.op = false → AllX fo old new k D D
  | step {k : Nat} {D D₁ D' : Mdl} : D.op = true → Sz D → D.ps.length ≤ 500 → NextX fo old (on0 (putX new D)) D₁ → AllX fo old new k D₁ D' → AllX fo old new (k + 1) D D'
inductive UX : Nat → Mdl → Mdl → Prop
  | zero {D : Mdl} : UX 0 D D
  | succ {n : Nat} {D D₁ D' : Mdl} {r : Bool} : Sz D → D.ps.length ≤ 500 → TBX D D₁ r → UX n D₁ D' → UX (n + 1) D D'
/-- what a key makes of the model -/
inductive KeyX (fo : Bool) (old new : List Int) : Mdl → Str → Mdl → Prop
  | y {D D' : Mdl} : NextX fo old (on0 (putX new D)) D' → KeyX fo old new D "y" D'
  | n {D D' : Mdl} : NextX fo old (on0 D) D' → KeyX fo old new D "n" D'
  | dot {D : Mdl} : KeyX fo old new D "." (shutX (putX new D))
  | comma {D : Mdl} : KeyX fo old new D "," (putX new D)
  | q {D : Mdl} : KeyX fo old new D "q" (shutX D)
  | x {D : Mdl} : KeyX fo old new D "x" (shutX D)
  | bang {D D' : Mdl} {k : Nat} : AllX fo old new k D D' → KeyX fo old new D "!" D'
  | back0 {D : Mdl} : (∀ p ∈ D.ps, p.word ≠ ("match" : Str)) → KeyX fo old new D "^" D
  | back1 {D : Mdl} {k : Nat} {t : Pc} : D.ps[k]? = some t → t.word = ("match" : Str) → (∀ j p, k < j → D.ps[j]? = some p → p.word ≠ ("match" : Str)) → Sz (back0 k t D) → KeyX fo old new D "^" (backX k t D)
  | u {D D' : Mdl} {r : Bool} : TBX D D' r → KeyX fo old new D "u" D'
  | U {D D' : Mdl} : UX 20 D D' → KeyX fo old new D "U" D'
set_option maxHeartbeats 4000000 in
theorem sp_l_key {c : Cx} {A : Around} {L : Addr} {m : FM} {Γ I : Led} {s : Shared} {Q E} {X : MA} {V : MS} {old new : List Int} {fo : Bool} {D D' : Mdl} {key : Str} {vs} (hA : Room 13 A) (hv : AVs [rf X.d, .s key] vs) (hM : MI I X V old new D) (hz : Sz D) (hz2 : D.ps.length ≤ 500) (hl : old.length ≤ 1000) (hl' : new.length ≤ 1000) (O : Ow c L m (mL c X V fo D Γ) I s) (hT : KeyX fo old new D key D')
    (h : ∀ s', Md c L m X old new fo D' Γ I s' → Q (.bool (!decide (key = ("x" : Str)))) s') : wpAny c.M A (call (.ref 678) vs []) Q E s := by
  obtain ⟨m1, m2, m3, m4, m7⟩ := id hM
  have hlen := m7.length
  obtain ⟨L₀, hL₀⟩ : ∃ L₀, L₀ = L := ⟨_, rfl⟩
  subst hL₀
  (((repeat (rename AVs (_ :: _) _ => hv0; cases hv0)); (repeat (rename AVs [] _ => hv0; cases hv0))))
  ((refine' call_fnZ hA O ?k6_467 ?k7_467 ?kb_467 ?k9_467 ?kM_467 ?kN_467 ?kB_467 ?c5_467 ?c2_467 ?c3_467 ?c4_467 ?_; (case k6_467 => k_is); (case k7_467 => k_is); (case kb_467 => (refine' zip_of ?pe_467 ?rest_467; (case pe_467 => conv => lhs; whnf); (case rest_467 => simp only [List.map, List.zip, List.zipWith]; rfl))); (case k9_467 => first | exact BindsTo.of_eq rfl | exact binds_K (Frag.In.keeps (Cx.kin _) (Ow.keep O)) rfl (by k_is) rfl rfl rfl); (case kM_467 => walk_at "mtb"); (case kN_467 => exact rfl); (case kB_467 => exact locs rfl); (case c5_467 => decide); (case c2_467 => exact rfl); (case c3_467 => exact rfl); (case c4_467 => exact rfl); intro L s hA O))
  cases hT with
  | y hN =>
    refine st_ifT1 O (pb_in (xs := ["y", ".", ","]) (by walk_at "ev") (pl_cons pe_str (pl_cons pe_str (pl_cons pe_str pl_nil))) (by decide)) (by decide) fun s O => ?_
    refine st_expr ?_
    ((refine' cl_ref O ?f_468 ?k_468 ?a_468 ?_; (case f_468 => walk_at "name"); (case k_468 => (walk_at "keep")); (case a_468 => walk_at "evl"); intro vs s hv O))
    refine sp_l_put (V := V) (D := D) (fo := fo) (old := old) (new := new) (Room.le hA (by decide)) hv hM hz hl' (by (((refine' Ow.got O ?g_469); (case g_469 => walk_at "got")))) fun s hMd => ?_
    obtain ⟨V1, I1, hS1, hM1, O⟩ := hMd
    refine st_nil ?_
    refine st_ifT1 O (pb_in (xs := ["y", "n"]) (by walk_at "ev") (pl_cons pe_str (pl_cons pe_str pl_nil)) (by decide)) (by decide) fun s O => ?_
    refine st_expr ?_
    ((refine' cl_ref O ?f_470 ?k_470 ?a_470 ?_; (case f_470 => walk_at "name"); (case k_470 => (walk_at "keep")); (case a_470 => walk_at "evl"); intro vs s hv O))
    refine sp_l_onX (V := V1) (D := putX new D) (fo := fo) (Room.le hA (by decide)) hv hM1 (hz.put hl') (by rw [putX_ps]; lia) hl (by (((refine' Ow.got O ?g_471); (case g_471 => walk_at "got")))) hN fun s hMd => ?_
    obtain ⟨V2, I2, hS2, hM2, O⟩ := hMd
    refine st_nil ?_
    refine st_ret O (pe_cmp (by walk_at "ev") (by walk_at "ev") cm_neS) fun v s hv O => ?_
    cases hv
    exact h _ ⟨V2, _, hS1.trans hS2, hM2, by (((refine' Ow.got (Ow.back O ?p_472) ?g_472); (case p_472 => (walk_at "pick")); (case g_472 => walk_at "got")))⟩
  | n hN =>
    refine st_ifF1 O (pb_in (xs := ["y", ".", ","]) (by walk_at "ev") (pl_cons pe_str (pl_cons pe_str (pl_cons pe_str pl_nil))) (by decide)) (by decide) fun s O => ?_
    refine st_ifT1 O (pb_in (xs := ["y", "n"]) (by walk_at "ev") (pl_cons pe_str (pl_cons pe_str pl_nil)) (by decide)) (by decide) fun s O => ?_
    refine st_expr ?_
    ((refine' cl_ref O ?f_473 ?k_473 ?a_473 ?_; (case f_473 => walk_at "name"); (case k_473 => (walk_at "keep")); (case a_473 => walk_at "evl"); intro vs s hv O))
    refine sp_l_onX (V := V) (D := D) (fo := fo) (Room.le hA (by decide)) hv hM hz (by lia) hl (by (((refine' Ow.got O ?g_474); (case g_474 => walk_at "got")))) hN fun s hMd => ?_
    obtain ⟨V2, I2, hS2, hM2, O⟩ := hMd
    refine st_nil ?_
    refine st_ret O (pe_cmp (by walk_at "ev") (by walk_at "ev") cm_neS) fun v s hv O => ?_
    cases hv
    exact h _ ⟨V2, _, hS2, hM2, by (((refine' Ow.got (Ow.back O ?p_475) ?g_475); (case p_475 => (walk_at "pick")); (case g_475 => walk_at "got")))⟩
  | dot =>
    refine st_ifT1 O (pb_in (xs := ["y", ".", ","]) (by walk_at "ev") (pl_cons pe_str (pl_cons pe_str (pl_cons pe_str pl_nil))) (by decide)) (by decide) fun s O => ?_
    refine st_expr ?_
    ((refine' cl_ref O ?f_476 ?k_476 ?a_476 ?_; (case f_476 => walk_at "name"); (case k_476 => (walk_at "keep")); (case a_476 => walk_at "evl"); intro vs s hv O))
    refine sp_l_put (V := V) (D := D) (fo := fo) (old := old) (new := new) (Room.le hA (by decide)) hv hM hz hl' (by (((refine' Ow.got O ?g_477); (case g_477 => walk_at "got")))) fun s hMd => ?_
    obtain ⟨V1, I1, hS1, hM1, O⟩ := hMd
    refine st_nil ?_
    refine st_ifF2 O (pb_in (xs := ["y", "n"]) (by walk_at "ev") (pl_cons pe_str (pl_cons pe_str pl_nil)) (by decide)) (by decide) fun s O => ?_
    refine st_ifT1 O (pb_in (xs := [".", "q", "x"]) (by walk_at "ev") (pl_cons pe_str (pl_cons pe_str (pl_cons pe_str pl_nil))) (by decide)) (by decide) fun s O => ?_
    ((refine' st_key O ?v_478 ?o_478 ?d_478 ?z_478 ?_; (case v_478 => walk_at "ev"); (case o_478 => walk_at "ev"); (case d_478 => (walk_at "put")); (case z_478 => exact Nat.le_of_ble_eq_true rfl); intro s O))
    refine st_nil (st_nil ?_)
    refine st_ret O (pe_cmp (by walk_at "ev") (by walk_at "ev") cm_neS) fun v s hv O => ?_
    cases hv
    exact h _ ⟨V1, _, hS1, ⟨hM1.o, hM1.n, hM1.re, hM1.ar, hM1.ps⟩, by (((refine' Ow.got (Ow.back O ?p_479) ?g_479); (case p_479 => (walk_at "pick")); (case g_479 => walk_at "got")))⟩
  | comma =>
    refine st_ifT1 O (pb_in (xs := ["y", ".", ","]) (by walk_at "ev") (pl_cons pe_str (pl_cons pe_str (pl_cons pe_str pl_nil))) (by decide)) (by decide) fun s O => ?_
    refine st_expr ?_
    ((refine' cl_ref O ?f_480 ?k_480 ?a_480 ?_; (case f_480 => walk_at "name"); (case k_480 => (walk_at "keep")); (case a_480 => walk_at "evl"); intro vs s hv O))
    refine sp_l_put (V := V) (D := D) (fo := fo) (old := old) (new := new) (Room.le hA (by decide)) hv hM hz hl' (by (((refine' Ow.got O ?g_481); (case g_481 => walk_at "got")))) fun s hMd => ?_
    obtain ⟨V1, I1, hS1, hM1, O⟩ := hMd
    refine st_nil ?_
    refine st_ifF2 O (pb_in (xs := ["y", "n"]) (by walk_at "ev") (pl_cons pe_str (pl_cons pe_str pl_nil)) (by decide)) (by decide) fun s O => ?_
    refine st_ifF2 O (pb_in (xs := [".", "q", "x"]) (by walk_at "ev") (pl_cons pe_str (pl_cons pe_str (pl_cons pe_str pl_nil))) (by decide)) (by decide) fun s O => ?_
    refine st_ifF2 O (by walk_at "evb") (by decide) fun s O => ?_
    refine st_ifF2 O (by walk_at "evb") (by decide) fun s O => ?_
    refine st_ifF2 O (by walk_at "evb") (by decide) fun s O => ?_
    refine st_ifF1 O (by walk_at "evb") (by decide) fun s O => ?_
    refine st_nil (st_nil (st_nil (st_nil (st_nil ?_))))
    refine st_ret O (pe_cmp (by walk_at "ev") (by walk_at "ev") cm_neS) fun v s hv O => ?_
    cases hv
    exact h _ ⟨V1, _, hS1, hM1, by (((refine' Ow.got (Ow.back O ?p_482) ?g_482); (case p_482 => (walk_at "pick")); (case g_482 => walk_at "got")))⟩
  | q =>
    refine st_ifF1 O (pb_in (xs := ["y", ".", ","]) (by walk_at "ev") (pl_cons pe_str (pl_cons pe_str (pl_cons pe_str pl_nil))) (by decide)) (by decide) fun s O => ?_
    refine st_ifF2 O (pb_in (xs := ["y", "n"]) (by walk_at "ev") (pl_cons pe_str (pl_cons pe_str pl_nil)) (by decide)) (by decide) fun s O => ?_
    refine st_ifT1 O (pb_in (xs := [".", "q", "x"]) (by walk_at "ev") (pl_cons pe_str (pl_cons pe_str (pl_cons pe_str pl_nil))) (by decide)) (by decide) fun s O => ?_
    ((refine' st_key O ?v_483 ?o_483 ?d_483 ?z_483 ?_; (case v_483 => walk_at "ev"); (case o_483 => walk_at "ev"); (case d_483 => (walk_at "put")); (case z_483 => exact Nat.le_of_ble_eq_true rfl); intro s O))
    refine st_nil (st_nil ?_)
    refine st_ret O (pe_cmp (by walk_at "ev") (by walk_at "ev") cm_neS) fun v s hv O => ?_
    cases hv
    exact h _ ⟨V, _, Sb.refl, ⟨hM.o, hM.n, hM.re, hM.ar, hM.ps⟩, by (((refine' Ow.got (Ow.back O ?p_484) ?g_484); (case p_484 => (walk_at "pick")); (case g_484 => walk_at "got")))⟩
  | x =>
    refine st_ifF1 O (pb_in (xs := ["y", ".", ","]) (by walk_at "ev") (pl_cons pe_str (pl_cons pe_str (pl_cons pe_str pl_nil))) (by decide)) (by decide) fun s O => ?_
    refine st_ifF2 O (pb_in (xs := ["y", "n"]) (by walk_at "ev") (pl_cons pe_str (pl_cons pe_str pl_nil)) (by decide)) (by decide) fun s O => ?_
    refine st_ifT1 O (pb_in (xs := [".", "q", "x"]) (by walk_at "ev") (pl_cons pe_str (pl_cons pe_str (pl_cons pe_str pl_nil))) (by decide)) (by decide) fun s O => ?_
    ((refine' st_key O ?v_485 ?o_485 ?d_485 ?z_485 ?_; (case v_485 => walk_at "ev"); (case o_485 => walk_at "ev"); (case d_485 => (walk_at "put")); (case z_485 => exact Nat.le_of_ble_eq_true rfl); intro s O))
    refine st_nil (st_nil ?_)
    refine st_ret O (pe_cmp (by walk_at "ev") (by walk_at "ev") cm_neS) fun v s hv O => ?_
    cases hv
    exact h _ ⟨V, _, Sb.refl, ⟨hM.o, hM.n, hM.re, hM.ar, hM.ps⟩, by (((refine' Ow.got (Ow.back O ?p_486) ?g_486); (case p_486 => (walk_at "pick")); (case g_486 => walk_at "got")))⟩
  | bang hN =>
    obtain ⟨kk, hN⟩ : ∃ kk, AllX fo old new kk D D' := ⟨_, hN⟩
    refine st_ifF1 O (pb_in (xs := ["y", ".", ","]) (by walk_at "ev") (pl_cons pe_str (pl_cons pe_str (pl_cons pe_str pl_nil))) (by decide)) (by decide) fun s O => ?_
    refine st_ifF2 O (pb_in (xs := ["y", "n"]) (by walk_at "ev") (pl_cons pe_str (pl_cons pe_str pl_nil)) (by decide)) (by decide) fun s O => ?_
    refine st_ifF2 O (pb_in (xs := [".", "q", "x"]) (by walk_at "ev") (pl_cons pe_str (pl_cons pe_str (pl_cons pe_str pl_nil))) (by decide)) (by decide) fun s O => ?_
    refine st_ifT1 O (by walk_at "evb") (by decide) fun s O => ?_
    refine st_while (fun k' m' Γ' I' => ∃ V1 D1, k' = k' ∧ AllX fo old new k' D1 D' ∧ m' = _ ∧ Sb I I' ∧ MI I' X V1 old new D1 ∧ Γ' = (L₀, isNs m) :: mL c X V1 fo D1 Γ) (k := kk) (Γ := (L₀, isNs m) :: mL c X V fo D Γ) O ⟨V, D, rfl, hN, rfl, Sb.refl, hM, rfl⟩ ?_
    rintro k' m' Γ' I' s ⟨V1, D1, -, hN, rfl, hS, hM1, rfl⟩ O
    cases hN with
    | done hop =>
      refine pb_use (b := D'.op) (by walk_at "evb") O fun s O => ?_
      rw [hop]
      refine st_nil (st_nil (st_nil ?_))
      refine st_ret O (pe_cmp (by walk_at "ev") (by walk_at "ev") cm_neS) fun v s hv O => ?_
      cases hv
      exact h _ ⟨V1, _, hS, hM1, by (((refine' Ow.got (Ow.back O ?p_487) ?g_487); (case p_487 => (walk_at "pick")); (case g_487 => walk_at "got")))⟩
    | @step k'' _ D2 _ hop hz1 hz3 hN hR =>
      refine pb_use (b := D1.op) (by walk_at "evb") O fun s O => ?_
      rw [hop]
      have hD : { D1 with op := true } = D1 := by rw [← hop]
      refine st_expr ?_
      ((refine' cl_ref O ?f_488 ?k_488 ?a_488 ?_; (case f_488 => walk_at "name"); (case k_488 => (walk_at "keep")); (case a_488 => walk_at "evl"); intro vs s hv O))
      refine sp_l_put (V := V1) (D := D1) (fo := fo) (old := old) (new := new) (Room.le hA (by decide)) hv hM1 hz1 hl' (by (((refine' Ow.got O ?g_489); (case g_489 => walk_at "got")))) fun s hMd => ?_
      obtain ⟨V2, I2, hS2, hM2, O⟩ := hMd
      refine st_expr ?_
      ((refine' cl_ref O ?f_490 ?k_490 ?a_490 ?_; (case f_490 => walk_at "name"); (case k_490 => (walk_at "keep")); (case a_490 => walk_at "evl"); intro vs s hv O))
      refine sp_l_onX (V := V2) (D := putX new D1) (fo := fo) (Room.le hA (by decide)) hv hM2 (hz1.put hl') (by rw [putX_ps]; lia) hl (by (((refine' Ow.got O ?g_491); (case g_491 => walk_at "got")))) hN fun s hMd => ?_
      obtain ⟨V3, I3, hS3, hM3, O⟩ := hMd
      exact st_nil ⟨_, _, _, ⟨k'', Nat.lt_succ_self _, V3, D2, rfl, hR, rfl, hS.trans (hS2.trans hS3), hM3, rfl⟩, (by simp only [List.nil_append]; (((refine' Ow.got O ?g_492); (case g_492 => walk_at "got"))))⟩
  | back0 hno =>
    refine st_ifF1 O (pb_in (xs := ["y", ".", ","]) (by walk_at "ev") (pl_cons pe_str (pl_cons pe_str (pl_cons pe_str pl_nil))) (by decide)) (by decide) fun s O => ?_
    refine st_ifF2 O (pb_in (xs := ["y", "n"]) (by walk_at "ev") (pl_cons pe_str (pl_cons pe_str pl_nil)) (by decide)) (by decide) fun s O => ?_
    refine st_ifF2 O (pb_in (xs := [".", "q", "x"]) (by walk_at "ev") (pl_cons pe_str (pl_cons pe_str (pl_cons pe_str pl_nil))) (by decide)) (by decide) fun s O => ?_
    refine st_ifF2 O (by walk_at "evb") (by decide) fun s O => ?_
    refine st_ifT1 O (by walk_at "evb") (by decide) fun s O => ?_
    refine st_comp (cl_ty O (by walk_at "name") (by walk_at "evl") fun vs s hv O => ?_) rfl rfl (by decide)
    obtain rfl := AVs_r1 hv
    refine cn_enum (f := rf) (xs := V.ps) O (by walk_at "in2") fun e it s hei hle hli O => ?_
    obtain ⟨⟨old', he⟩, -⟩ := O.eit
    refine wpAny_pyIter_enum he ?_
    refine cp_core (g := AV.i) (fun C => itr_enum (f := rf) (xs := V.ps) (x := "place") (y := "piece") hA.handled hei hle hli rfl rfl rfl) (fun i acc Γ' I' => acc = ((List.range i).filter (maAt D)).map Int.ofNat ∧ Γ' = _ ∧ I' = I) ?_ (by unfold lim; lia) ?_ (by decide) rfl O ⟨rfl, rfl, rfl⟩ ?_ ?_
    · rintro i acc Γ' I' ⟨-, rfl, rfl⟩; walk_at "in2"
    · rintro i acc Γ' I' ⟨rfl, -, -⟩
      rw [List.length_map]; exact Nat.le_trans (List.length_filter_le _ _) (by simp)
    · rintro C Dl i acc Γ' I' s hi ⟨rfl, rfl, rfl⟩ O
      have hi' : i < D.ps.length := by lia
      obtain ⟨a, ha, lo', ln', q1, q2, q3⟩ := m7.get (i := i) (b := D.ps[i]) (List.getElem?_eq_getElem hi')
      simp only [ha, EIt, List.cons_append, List.nil_append] at O
      refine pb_use (b := decide (D.ps[i].word = ("match" : Str))) (by walk_at "evb") O fun s O => ?_
      have hso : maAt D i = decide (D.ps[i].word = ("match" : Str)) := by unfold maAt; rw [List.getElem?_eq_getElem hi']
      cases hb : decide (D.ps[i].word = ("match" : Str)) with
      | false => exact ⟨_, _, _, ⟨filter_skip (by rw [hso, hb]), rfl, rfl⟩, O⟩
      | true =>
        refine pe_use (a := .i i) (by walk_at "ev") O fun v s hv O => ?_
        exact ⟨(i : Int), _, _, _, hv, ⟨filter_snoc (by rw [hso, hb]), rfl, rfl⟩, O⟩
    rintro C m' Dl acc Γ' I' s ⟨rfl, rfl, rfl⟩ O
    refine cp_endS O fun s O => ?_
    rw [hlen] at O
    have hfl : (((List.range D.ps.length).filter (maAt D)).map Int.ofNat).length ≤ 500 := by
      rw [List.length_map]; exact Nat.le_trans (List.length_filter_le _ _) (by simp; lia)
    have e : ((List.range D.ps.length).filter (maAt D)).map Int.ofNat = [] := by
      rw [filter_no]; rfl
      intro j hj
      unfold maAt; rw [List.getElem?_eq_getElem hj]; simp; exact hno _ (List.getElem_mem _)
    rw [e] at O
    refine st_ifF1 (b := !decide (([] : List Int) = [])) O (pb_neI (ks := []) (Room.le hA (by decide)) (by walk_at "ev") pl_nil (by walk_at "in2") (by decide)) (by decide) fun s O => ?_
    refine st_nil (st_nil (st_nil (st_nil ?_)))
    refine st_ret O (pe_cmp (by walk_at "ev") (by walk_at "ev") cm_neS) fun v s hv O => ?_
    cases hv
    exact h _ ⟨V, _, Sb.refl, hM, by (((refine' Ow.got (Ow.back O ?p_493) ?g_493); (case p_493 => (walk_at "pick")); (case g_493 => walk_at "got")))⟩
  | @back1 k t h2 h3 h4 h5 =>
    refine st_ifF1 O (pb_in (xs := ["y", ".", ","]) (by walk_at "ev") (pl_cons pe_str (pl_cons pe_str (pl_cons pe_str pl_nil))) (by decide)) (by decide) fun s O => ?_
    refine st_ifF2 O (pb_in (xs := ["y", "n"]) (by walk_at "ev") (pl_cons pe_str (pl_cons pe_str pl_nil)) (by decide)) (by decide) fun s O => ?_
    refine st_ifF2 O (pb_in (xs := [".", "q", "x"]) (by walk_at "ev") (pl_cons pe_str (pl_cons pe_str (pl_cons pe_str pl_nil))) (by decide)) (by decide) fun s O => ?_
    refine st_ifF2 O (by walk_at "evb") (by decide) fun s O => ?_
    refine st_ifT1 O (by walk_at "evb") (by decide) fun s O => ?_
    refine st_comp (cl_ty O (by walk_at "name") (by walk_at "evl") fun vs s hv O => ?_) rfl rfl (by decide)
    obtain rfl := AVs_r1 hv
    refine cn_enum (f := rf) (xs := V.ps) O (by walk_at "in2") fun e it s hei hle hli O => ?_
    obtain ⟨⟨old', he⟩, -⟩ := O.eit
    refine wpAny_pyIter_enum he ?_
    refine cp_core (g := AV.i) (fun C => itr_enum (f := rf) (xs := V.ps) (x := "place") (y := "piece") hA.handled hei hle hli rfl rfl rfl) (fun i acc Γ' I' => acc = ((List.range i).filter (maAt D)).map Int.ofNat ∧ Γ' = _ ∧ I' = I) ?_ (by unfold lim; lia) ?_ (by decide) rfl O ⟨rfl, rfl, rfl⟩ ?_ ?_
    · rintro i acc Γ' I' ⟨-, rfl, rfl⟩; walk_at "in2"
    · rintro i acc Γ' I' ⟨rfl, -, -⟩
      rw [List.length_map]; exact Nat.le_trans (List.length_filter_le _ _) (by simp)
    · rintro C Dl i acc Γ' I' s hi ⟨rfl, rfl, rfl⟩ O
      have hi' : i < D.ps.length := by lia
      obtain ⟨a, ha, lo', ln', q1, q2, q3⟩ := m7.get (i := i) (b := D.ps[i]) (List.getElem?_eq_getElem hi')
      simp only [ha, EIt, List.cons_append, List.nil_append] at O
      refine pb_use (b := decide (D.ps[i].word = ("match" : Str))) (by walk_at "evb") O fun s O => ?_
      have hso : maAt D i = decide (D.ps[i].word = ("match" : Str)) := by unfold maAt; rw [List.getElem?_eq_getElem hi']
      cases hb : decide (D.ps[i].word = ("match" : Str)) with
      | false => exact ⟨_, _, _, ⟨filter_skip (by rw [hso, hb]), rfl, rfl⟩, O⟩
      | true =>
        refine pe_use (a := .i i) (by walk_at "ev") O fun v s hv O => ?_
        exact ⟨(i : Int), _, _, _, hv, ⟨filter_snoc (by rw [hso, hb]), rfl, rfl⟩, O⟩
    rintro C m' Dl acc Γ' I' s ⟨rfl, rfl, rfl⟩ O
    refine cp_endS O fun s O => ?_
    rw [hlen] at O
    have hfl : (((List.range D.ps.length).filter (maAt D)).map Int.ofNat).length ≤ 500 := by
      rw [List.length_map]; exact Nat.le_trans (List.length_filter_le _ _) (by simp; lia)
    have hkl := (List.getElem?_eq_some_iff.mp h2).1
    have e : ((List.range D.ps.length).filter (maAt D)).map Int.ofNat = ((List.range k).filter (maAt D)).map Int.ofNat ++ [(k : Int)] := by
      rw [filter_last (k := k) (by unfold maAt; rw [h2]; simp [h3]) hkl (fun j q1 q2 => by unfold maAt; rw [List.getElem?_eq_getElem q2]; simp; exact h4 j _ q1 (List.getElem?_eq_getElem q2)), List.map_append]; rfl
    rw [e] at O hfl
    rw [List.length_append] at hfl
    refine st_ifT1 (b := !decide (((List.range k).filter (maAt D)).map Int.ofNat ++ [(k : Int)] = [])) O (pb_neI (ks := []) (Room.le hA (by decide)) (by walk_at "ev") pl_nil (by walk_at "in2") (by decide)) (by simp) fun s O => ?_
    refine st_expr (cl_ref (as := [rf X.d, .i k]) O (by walk_at "name") (by walk_at "keep") (pl_cons (by walk_at "ev") (pl_cons (pe_last (k := none) (f := AV.i) (xs := ((List.range k).filter (maAt D)).map Int.ofNat) (x := (k : Int)) (by walk_at "ev") (by walk_at "in2") (by lia)) pl_nil)) fun vs s hv O => ?_)
    refine sp_l_back (V := V) (D := D) (fo := fo) (k := k) (t := t) (Room.le hA (by decide)) hv hM hz hz2 h2 h5 (by (((refine' Ow.got O ?g_494); (case g_494 => walk_at "got")))) fun s hMd => ?_
    obtain ⟨V1, I1, hS1, hM1, O⟩ := hMd
    refine st_nil (st_nil (st_nil (st_nil (st_nil ?_))))
    refine st_ret O (pe_cmp (by walk_at "ev") (by walk_at "ev") cm_neS) fun v s hv O => ?_
    cases hv
    exact h _ ⟨V1, _, hS1, hM1, by (((refine' Ow.got (Ow.back O ?p_495) ?g_495); (case p_495 => (walk_at "pick")); (case g_495 => walk_at "got")))⟩
  | u hT =>
    refine st_ifF1 O (pb_in (xs := ["y", ".", ","]) (by walk_at "ev") (pl_cons pe_str (pl_cons pe_str (pl_cons pe_str pl_nil))) (by decide)) (by decide) fun s O => ?_
    refine st_ifF2 O (pb_in (xs := ["y", "n"]) (by walk_at "ev") (pl_cons pe_str (pl_cons pe_str pl_nil)) (by decide)) (by decide) fun s O => ?_
    refine st_ifF2 O (pb_in (xs := [".", "q", "x"]) (by walk_at "ev") (pl_cons pe_str (pl_cons pe_str (pl_cons pe_str pl_nil))) (by decide)) (by decide) fun s O => ?_
    refine st_ifF2 O (by walk_at "evb") (by decide) fun s O => ?_
    refine st_ifF2 O (by walk_at "evb") (by decide) fun s O => ?_
    refine st_ifT1 O (by walk_at "evb") (by decide) fun s O => ?_
    refine st_expr ?_
    ((refine' cl_ref O ?f_496 ?k_496 ?a_496 ?_; (case f_496 => walk_at "name"); (case k_496 => (walk_at "keep")); (case a_496 => walk_at "evl"); intro vs s hv O))
    refine sp_l_restored (V := V) (D := D) (fo := fo) (Room.le hA (by decide)) hv hM hz hz2 (by (((refine' Ow.got O ?g_497); (case g_497 => walk_at "got")))) hT fun s hMd => ?_
    obtain ⟨V1, I1, hS1, hM1, O⟩ := hMd
    refine st_nil (st_nil (st_nil (st_nil (st_nil ?_))))
    refine st_ret O (pe_cmp (by walk_at "ev") (by walk_at "ev") cm_neS) fun v s hv O => ?_
    cases hv
    exact h _ ⟨V1, _, hS1, hM1, by (((refine' Ow.got (Ow.back O ?p_498) ?g_498); (case p_498 => (walk_at "pick")); (case g_498 => walk_at "got")))⟩
  | U hT =>
    refine st_ifF1 O (pb_in (xs := ["y", ".", ","]) (by walk_at "ev") (pl_cons pe_str (pl_cons pe_str (pl_cons pe_str pl_nil))) (by decide)) (by decide) fun s O => ?_
    refine st_ifF2 O (pb_in (xs := ["y", "n"]) (by walk_at "ev") (pl_cons pe_str (pl_cons pe_str pl_nil)) (by decide)) (by decide) fun s O => ?_
    refine st_ifF2 O (pb_in (xs := [".", "q", "x"]) (by walk_at "ev") (pl_cons pe_str (pl_cons pe_str (pl_cons pe_str pl_nil))) (by decide)) (by decide) fun s O => ?_
    refine st_ifF2 O (by walk_at "evb") (by decide) fun s O => ?_
    refine st_ifF2 O (by walk_at "evb") (by decide) fun s O => ?_
    refine st_ifF2 O (by walk_at "evb") (by decide) fun s O => ?_
    refine st_ifT1 O (by walk_at "evb") (by decide) fun s O => ?_
    refine st_forR1 (b := 20) hA.handled O (by walk_at "name") (by walk_at "ev") (by lia) (fun i m' Γ' I' => ∃ V1 D1, i ≤ 20 ∧ UX (20 - i) D1 D' ∧ FS m' [("model", rf X.d), ("key", .s "U")] ∧ Sb I I' ∧ MI I' X V1 old new D1 ∧ Γ' = (L₀, isNs m) :: mL c X V1 fo D1 Γ) ⟨V, D, by lia, hT, FS.refl, Sb.refl, hM, rfl⟩ ?_ ?_
    · rintro it i m' Γ' I' s hi ⟨V1, D1, -, hU, hfs, hS, hM1, rfl⟩ O
      have O := O.fs hfs.sl
      simp only [RIt, List.cons_append, List.nil_append] at O
      obtain ⟨n, hn⟩ : ∃ n, 20 - i = n + 1 := ⟨19 - i, by lia⟩
      rw [hn] at hU
      cases hU with
      | @succ _ _ D2 _ r hz1 hz3 hT1 hU =>
      refine st_expr ?_
      ((refine' cl_ref O ?f_499 ?k_499 ?a_499 ?_; (case f_499 => walk_at "name"); (case k_499 => (walk_at "keep")); (case a_499 => walk_at "evl"); intro vs s hv O))
      refine sp_l_restored (V := V1) (D := D1) (fo := fo) (Room.le hA (by decide)) hv hM1 hz1 hz3 (by (((refine' Ow.got O ?g_500); (case g_500 => walk_at "got")))) hT1 fun s hMd => ?_
      obtain ⟨V2, I2, hS2, hM2, O⟩ := hMd
      refine st_nil ⟨_, _, _, ⟨V2, D2, by lia, by rw [show 20 - (i + 1) = n by lia]; exact hU, FS.of (.cons rfl (.cons rfl .nil)), hS.trans hS2, hM2, rfl⟩, (by simp only [RIt, List.cons_append, List.nil_append]; (((refine' Ow.got O ?g_501); (case g_501 => walk_at "got"))))⟩
    · rintro m' Γ' I' s ⟨V1, D1, -, hU, hfs, hS, hM1, rfl⟩ O
      have O := O.fs hfs
      cases hU
      refine st_nil (st_nil (st_nil (st_nil (st_nil (st_nil ?_)))))
      refine st_ret O (pe_cmp (by walk_at "ev") (by walk_at "ev") cm_neS) fun v s hv O => ?_
      cases hv
      exact h _ ⟨V1, _, hS, hM1, by (((refine' Ow.got (Ow.back O ?p_502) ?g_502); (case p_502 => (walk_at "pick")); (case g_502 => walk_at "got")))⟩
/-! the plain law -/
noncomputable def fl (ps : List Pc) : List Int := (ps.map (·.now)).flatten
noncomputable def stp : Nat → List Pc → List StepD
  | _, [] => []
  | o, p :: r => (if p.word = ("match" : Str) then [StepD.mk ((o : Int) + 1) p.old p.now p.so] else []) ++ stp (o + p.now.length) r
theorem fl_cons (p : Pc) (r : List Pc) : fl (p :: r) = p.now ++ fl r := rfl
theorem fl_app (a b : List Pc) : fl (a ++ b) = fl a ++ fl b := by simp [fl]
theorem fl_one (p : Pc) : fl [p] = p.now := by simp [fl]
theorem stp_app (o : Nat) (a b : List Pc) : stp o (a ++ b) = stp o a ++ stp (o + (fl a).length) b := by
  induction a generalizing o with
  | nil => simp [stp, fl]
  | cons p r ih => simp only [List.cons_append, stp, ih, fl_cons, List.length_append, List.append_assoc, Nat.add_assoc]
theorem stp_no {o : Nat} {ps : List Pc} (h : ∀ p ∈ ps, p.word ≠ ("match" : Str)) : stp o ps = [] := by
  induction ps generalizing o with
  | nil => rfl
  | cons p r ih => simp only [stp, if_neg (h p (.head _)), ih fun q hq => h q (.tail _ hq), List.nil_append]
theorem stp_isr {o : Nat} {ps : List Pc} (h : ∀ p ∈ ps, p.so = false) : ∀ t ∈ stp o ps, t.isr = false := by
  induction ps generalizing o with
  | nil => intro t ht; cases ht
  | cons p r ih =>
    intro t ht
    simp only [stp] at ht
    rcases List.mem_append.mp ht with ht | ht
    · split at ht
      · simp at ht; subst ht; exact h p (.head _)
      · cases ht
    · exact ih (fun q hq => h q (.tail _ hq)) t ht
theorem stp_len (o : Nat) (ps : List Pc) : (stp o ps).length ≤ ps.length := by
  induction ps generalizing o with
  | nil => simp [stp]
  | cons p r ih => have := ih (o + p.now.length); simp only [stp, List.length_append, List.length_cons]; split <;> simp <;> lia
theorem stp_one {o : Nat} {p : Pc} (h : p.word = ("match" : Str)) : stp o [p] = [StepD.mk ((o : Int) + 1) p.old p.now p.so] := by simp [stp, h]
theorem sum_len (ps : List Pc) : (ps.map fun p => (p.now.length : Int)).sum = ((fl ps).length : Int) := by
  induction ps with
  | nil => rfl
  | cons p r ih => simp only [List.map_cons, List.sum_cons, ih, fl_cons, List.length_append]; lia
theorem endX_eq (D : Mdl) : endX D = 1 + ((fl D.ps).length : Int) + (D.pr.now.length : Int) := by unfold endX; rw [sum_len]
theorem codesX_eq (D : Mdl) : codesX D = fl D.ps ++ D.pr.now ++ D.rest := rfl
noncomputable def wP (p : Pc) : Nat := max p.old.length p.now.length
noncomputable def wS (ps : List Pc) : Nat := (ps.map wP).sum
noncomputable def wt (D : Mdl) : Nat := wS D.ps + wP D.pr + D.rest.length
theorem wS_app (a b : List Pc) : wS (a ++ b) = wS a + wS b := by simp [wS]
theorem wS_cons (p : Pc) (r : List Pc) : wS (p :: r) = wP p + wS r := by simp [wS]
theorem wS_one (p : Pc) : wS [p] = wP p := by simp [wS]
theorem fl_le (ps : List Pc) : (fl ps).length ≤ wS ps := by
  induction ps with
  | nil => simp [fl]
  | cons p r ih => rw [fl_cons, wS_cons, List.length_append]; have : p.now.length ≤ wP p := Nat.le_max_right ..; lia
theorem now_le {p : Pc} {ps : List Pc} (h : p ∈ ps) : p.now.length ≤ wS ps := by
  induction ps with
  | nil => cases h
  | cons q r ih =>
    rw [wS_cons]
    rcases List.mem_cons.mp h with rfl | h
    · have : p.now.length ≤ wP p := Nat.le_max_right ..; lia
    · have := ih h; lia
noncomputable def b1 (b : Bool) : Nat := if b then 1 else 0
noncomputable def cS (ps : List Pc) : Nat := (ps.map fun p => b1 p.so).sum
noncomputable def cnt (D : Mdl) : Nat := cS D.ps + b1 D.pr.so
theorem cS_app (a b : List Pc) : cS (a ++ b) = cS a + cS b := by simp [cS]
theorem cS_cons (p : Pc) (r : List Pc) : cS (p :: r) = b1 p.so + cS r := by simp [cS]
theorem cS_one (p : Pc) : cS [p] = b1 p.so := by simp [cS]
/-- a piece that the law can have -/
structure Good (L : Nat) (new : List Int) (p : Pc) : Prop where
  o : ∀ k ∈ p.old, k < 192
  n : ∀ k ∈ p.now, k < 192
  w : (p.word = ("match" : Str) ∧ p.old.length = L ∧ p.now = if p.so = true then new else p.old) ∨ (p.word = ("plain" : Str) ∧ p.so = false)
structure Par (old new : List Int) : Prop where
  l : 1 ≤ old.length
  l' : old.length ≤ 3
  n : new.length ≤ 3
  o : ∀ k ∈ old, k < 192
  w : ∀ k ∈ new, k < 192
noncomputable def own (D : Mdl) : List StepD := if D.pr.so = true then [StepD.mk (((fl D.ps).length : Int) + 1) D.pr.old D.pr.now true] else []
/-- machine and model agree, a question is open; n: bound of the sizes, k: of what is replaced -/
structure Op (L : Nat) (new : List Int) (n k : Nat) (M : Mch) (D : Mdl) : Prop where
  op : D.op = true
  st : M.st = ("asking" : Str)
  tx : M.text = codesX D
  sa : M.start = ((fl D.ps).length : Nat) + 1
  fi : M.fin = (((fl D.ps).length + D.pr.now.length : Nat) : Int) + 1
  ir : M.isr = D.pr.so
  mn : M.many = D.many
  bd : M.bound = M.text.length + 1
  pt : M.pt = M.fin
  dp : D.pt = M.fin
  sp : M.steps = stp 0 D.ps ++ own D
  gp : ∀ p ∈ D.ps, Good L new p
  gr : Good L new D.pr
  wr : D.pr.word = ("match" : Str)
  rc : ∀ k ∈ D.rest, k < 192
  nl : D.ps.length ≤ 2 * n + 2
  wl : wt D ≤ 10 + 3 * n
  ct : cnt D ≤ k
/-- what both hold just ahead of the next search -/
structure Mid (L : Nat) (new : List Int) (n k : Nat) (M : Mch) (D : Mdl) : Prop where
  op : D.op = true
  st : M.st = ("asking" : Str)
  tx : M.text = codesX D
  mn : M.many = D.many
  bd : M.bound = M.text.length + 1
  pt : M.pt = D.pt
  sp : M.steps = stp 0 (D.ps ++ [D.pr])
  gp : ∀ p ∈ D.ps, Good L new p
  gr : Good L new D.pr
  rc : ∀ k ∈ D.rest, k < 192
  nl : D.ps.length ≤ 2 * n + 2
  wl : wt D ≤ 10 + 3 * n
  ct : cnt D ≤ k
/-- the law is done -/
structure Cl (M : Mch) (D : Mdl) : Prop where
  op : D.op = false
  st : M.st = ("done" : Str)
  tx : M.text = codesX D
  mn : M.many = D.many
  pt : M.pt = D.pt
  z : Sz D
  nl : D.ps.length ≤ 500
  tl : M.text.length ≤ 1000
theorem Sz.ofW {D : Mdl} (hl : D.ps.length ≤ 1000) (hw : wt D ≤ 1000) : Sz D := by
  unfold wt at hw
  have : D.pr.now.length ≤ wP D.pr := Nat.le_max_right ..
  exact ⟨hl, fun p hp => by have := now_le hp; lia, by lia, by lia⟩
theorem codes_len (D : Mdl) : (codesX D).length ≤ wt D := by
  rw [codesX_eq]; unfold wt
  have := fl_le D.ps
  have : D.pr.now.length ≤ wP D.pr := Nat.le_max_right ..
  simp only [List.length_append]; lia
theorem fl_lt {ps : List Pc} {L new} (h : ∀ p ∈ ps, Good L new p) : ∀ k ∈ fl ps, k < 192 := by
  intro k hk
  simp only [fl, List.mem_flatten, List.mem_map] at hk
  obtain ⟨l, ⟨p, hp, rfl⟩, hk⟩ := hk
  exact (h p hp).n k hk
theorem codes_lt {D : Mdl} {L new} (h : ∀ p ∈ D.ps, Good L new p) (h' : Good L new D.pr) (hr : ∀ k ∈ D.rest, k < 192) : ∀ k ∈ codesX D, k < 192 := by
  intro k hk
  rw [codesX_eq] at hk
  rcases List.mem_append.mp hk with hk | hk
  · rcases List.mem_append.mp hk with hk | hk
    · exact fl_lt h k hk
    · exact h'.n k hk
  · exact hr k hk
/-! the search -/
theorem part_shift {pre rest : List Int} {b p q : Nat} (h : pre.length = b) : part (pre ++ rest) (b + p) (b + q) = part rest p q := by
  unfold part
  rw [← h, List.drop_append, show pre.length + p - pre.length = p by lia, List.drop_eq_nil_of_le (by lia), List.nil_append]
  congr 1; lia
theorem match_shift {fo : Bool} {old pre rest : List Int} {b p : Nat} (h : pre.length = b) : matchAt fo old (pre ++ rest) (b + p) = matchAt fo old rest p := by
  unfold matchAt
  rw [Nat.add_assoc, part_shift h]
theorem First.shift {fo : Bool} {old pre rest : List Int} {b : Nat} {r : Option Nat} (h : pre.length = b) (hf : First fo old rest 0 r) : First fo old (pre ++ rest) b (r.map (b + ·)) := by
  cases r with
  | some p =>
    obtain ⟨-, h2, h3, h4⟩ := hf
    show First fo old (pre ++ rest) b (some (b + p))
    refine ⟨Nat.le_add_right .., by rw [List.length_append]; lia, by rw [match_shift h]; exact h3, fun q hq hq' => ?_⟩
    obtain ⟨j, rfl⟩ := Nat.exists_eq_add_of_le hq
    rw [match_shift h]; exact h4 j (Nat.zero_le _) (by lia)
  | none =>
    intro q hq hq'
    obtain ⟨j, rfl⟩ := Nat.exists_eq_add_of_le hq
    rw [match_shift h]; exact hf j (Nat.zero_le _) (by rw [List.length_append] at hq'; lia)
theorem First.ex (fo : Bool) (old rest : List Int) : ∃ r, First fo old rest 0 r := by
  have key : ∀ n, (∃ p, p < n ∧ p + old.length ≤ rest.length ∧ matchAt fo old rest p = true ∧ ∀ q, q < p → matchAt fo old rest q = false) ∨ (∀ q, q < n → q + old.length ≤ rest.length → matchAt fo old rest q = false) := by
    intro n
    induction n with
    | zero => right; intro q hq; lia
    | succ n ih =>
      rcases ih with ⟨p, h1, h2⟩ | h
      · exact .inl ⟨p, by lia, h2⟩
      · by_cases hb : n + old.length ≤ rest.length
        · cases hm : matchAt fo old rest n with
          | true => exact .inl ⟨n, by lia, hb, hm, fun q hq => h q hq (by lia)⟩
          | false =>
            right; intro q hq hq'
            rcases Nat.lt_succ_iff_lt_or_eq.mp hq with h1 | rfl
            · exact h q h1 hq'
            · exact hm
        · right; intro q hq hq'; exact h q (by lia) hq'
  rcases key (rest.length + 1) with ⟨p, h1, h2, h3, h4⟩ | h
  · exact ⟨some p, Nat.zero_le _, h2, h3, fun q _ hq => h4 q hq⟩
  · exact ⟨none, fun q _ hq => h q (by lia) hq⟩
section
variable {fo : Bool} {old new : List Int} {n k : Nat} {M : Mch} {D : Mdl}
theorem Op.tl (h : Op old.length new n k M D) : M.text.length ≤ 10 + 3 * n := by rw [h.tx]; exact Nat.le_trans (codes_len D) h.wl
theorem Op.sz (h : Op old.length new n k M D) (hn : n ≤ 240) : Sz D := .ofW (by have := h.nl; lia) (by have := h.wl; lia)
theorem Op.tlt (h : Op old.length new n k M D) : ∀ x ∈ M.text, x < 192 := by rw [h.tx]; exact codes_lt h.gp h.gr h.rc
theorem Op.len (h : Op old.length new n k M D) : M.text.length = (fl D.ps).length + D.pr.now.length + D.rest.length := by rw [h.tx, codesX_eq]; simp only [List.length_append]
theorem own_len (D : Mdl) : (own D).length ≤ 1 := by unfold own; split <;> simp
theorem Op.sl (h : Op old.length new n k M D) : M.steps.length ≤ 2 * n + 3 := by
  rw [h.sp, List.length_append]; have := stp_len 0 D.ps; have := own_len D; have := h.nl; lia
theorem Op.po (h : Op old.length new n k M D) : D.pr.old.length = old.length := by
  rcases h.gr.w with ⟨-, h1, -⟩ | ⟨h1, -⟩
  · exact h1
  · rw [h.wr] at h1; cases h1
theorem Op.pn (h : Op old.length new n k M D) : D.pr.now = if D.pr.so = true then new else D.pr.old := by
  rcases h.gr.w with ⟨-, -, h1⟩ | ⟨h1, -⟩
  · exact h1
  · rw [h.wr] at h1; cases h1
theorem Op.mono (h : Op old.length new n k M D) {n' k' : Nat} (hn : n ≤ n') (hk : k ≤ k') : Op old.length new n' k' M D :=
  ⟨h.op, h.st, h.tx, h.sa, h.fi, h.ir, h.mn, h.bd, h.pt, h.dp, h.sp, h.gp, h.gr, h.wr, h.rc, by have := h.nl; lia, by have := h.wl; lia, by have := h.ct; lia⟩
theorem part_pr : part (codesX D) (fl D.ps).length ((fl D.ps).length + D.pr.now.length) = D.pr.now := by
  have := part_shift (pre := fl D.ps) (rest := D.pr.now ++ D.rest) (b := (fl D.ps).length) (p := 0) (q := D.pr.now.length) rfl
  rw [codesX_eq, List.append_assoc]
  rw [Nat.add_zero] at this
  rw [this]; unfold part; simp
/-- the present match replaced -/
theorem Op.put (h : Op old.length new n k M D) (hP : Par old new) (hn : n ≤ 240) : ∃ M₁, PutTo new M M₁ ∧ Op old.length new (n + 1) (k + 1) M₁ (putX new D) ∧ (putX new D).pr.so = true := by
  cases hso : D.pr.so with
  | true =>
    have e : putX new D = D := by unfold putX; rw [if_pos hso]
    rw [e]
    exact ⟨M, .same (by rw [h.ir, hso]), h.mono (Nat.le_succ _) (Nat.le_succ _), hso⟩
  | false =>
    have e : putX new D = { put0 new D with pt := endX (put0 new D) } := by unfold putX; rw [if_neg (by rw [hso]; decide)]
    have hpn := h.pn
    rw [hso] at hpn
    simp only [Bool.false_eq_true, if_false] at hpn
    have hpo := h.po
    have htl := h.tl
    have hlen := h.len
    have hsl := h.sl
    have hpp : part M.text (fl D.ps).length ((fl D.ps).length + D.pr.now.length) = D.pr.now := by rw [h.tx]; exact part_pr
    have htx : M.text.take (fl D.ps).length ++ new ++ M.text.drop ((fl D.ps).length + D.pr.now.length) = fl D.ps ++ new ++ D.rest := by
      rw [h.tx, codesX_eq]
      congr 1
      · rw [List.append_assoc, List.take_left]
      · rw [← List.length_append, List.drop_left]
    refine ⟨putR new (fl D.ps).length ((fl D.ps).length + D.pr.now.length) M, .put (by rw [h.ir, hso]) h.sa h.fi (Nat.le_add_right ..) (by lia) (by lia) (by lia), ?_, by rw [e]; rfl⟩
    rw [e]
    have hw : wP (put0 new D).pr ≤ wP D.pr + 3 := by
      have h1 : wP (put0 new D).pr = max D.pr.old.length new.length := rfl
      have h2 : wP D.pr = max D.pr.old.length D.pr.now.length := rfl
      have := hP.n; lia
    have hwl := h.wl
    have hct := h.ct
    unfold wt at hwl
    unfold cnt at hct
    rw [hso] at hct
    constructor
    · exact h.op
    · exact h.st
    · exact htx
    · exact h.sa
    · show M.start + (new.length : Int) = (((fl D.ps).length + new.length : Nat) : Int) + 1
      rw [h.sa]; lia
    · rfl
    · show M.many + 1 = D.many + 1
      rw [h.mn]
    · show M.bound + (new.length : Int) - ((part M.text (fl D.ps).length ((fl D.ps).length + D.pr.now.length)).length : Int) = ((M.text.take (fl D.ps).length ++ new ++ M.text.drop ((fl D.ps).length + D.pr.now.length)).length : Int) + 1
      rw [hpp, htx, h.bd]; simp only [List.length_append]; lia
    · rfl
    · show endX (put0 new D) = M.start + (new.length : Int)
      rw [endX_eq, h.sa]
      show 1 + ((fl D.ps).length : Int) + (new.length : Int) = _
      lia
    · show M.steps ++ [StepD.mk M.start (part M.text (fl D.ps).length ((fl D.ps).length + D.pr.now.length)) new true] = stp 0 D.ps ++ [StepD.mk (((fl D.ps).length : Int) + 1) D.pr.old new true]
      rw [h.sp, hpp, h.sa, hpn]
      have : own D = [] := by unfold own; rw [hso]; rfl
      rw [this, List.append_nil]
    · exact h.gp
    · exact ⟨h.gr.o, hP.w, .inl ⟨h.wr, h.po, rfl⟩⟩
    · exact h.wr
    · exact h.rc
    · have := h.nl; show D.ps.length ≤ _; lia
    · show wS D.ps + wP (put0 new D).pr + D.rest.length ≤ _; lia
    · show cS D.ps + 1 ≤ k + 1
      simp [b1] at hct; lia
/-- ahead of the search: a match replaced -/
theorem Op.mid1 (h : Op old.length new n k M D) (hso : D.pr.so = true) : Mid old.length new n k M D := by
  refine ⟨h.op, h.st, h.tx, h.mn, h.bd, by rw [h.pt, h.dp], ?_, h.gp, h.gr, h.rc, h.nl, h.wl, h.ct⟩
  rw [h.sp, stp_app, stp_one h.wr]
  unfold own
  rw [if_pos hso, hso, Nat.zero_add]
/-- ahead of the search: a match left as it was -/
theorem Op.mid0 (h : Op old.length new n k M D) (hso : D.pr.so = false) : Mid old.length new n k (goR (fl D.ps).length ((fl D.ps).length + D.pr.now.length) M) D := by
  have hpp : part M.text (fl D.ps).length ((fl D.ps).length + D.pr.now.length) = D.pr.now := by rw [h.tx]; exact part_pr
  have hpn := h.pn
  rw [hso] at hpn
  simp only [Bool.false_eq_true, if_false] at hpn
  refine ⟨h.op, h.st, h.tx, h.mn, h.bd, by show M.pt = D.pt; rw [h.pt, h.dp], ?_, h.gp, h.gr, h.rc, h.nl, h.wl, h.ct⟩
  show M.steps ++ [StepD.mk M.start (part M.text (fl D.ps).length ((fl D.ps).length + D.pr.now.length)) (part M.text (fl D.ps).length ((fl D.ps).length + D.pr.now.length)) false] = _
  rw [hpp, h.sp, stp_app, stp_one h.wr, h.sa, Nat.zero_add]
  have : own D = [] := by unfold own; rw [hso]; rfl
  rw [this, List.append_nil, hso, ← hpn]
theorem Op.gook (h : Op old.length new n k M D) (hP : Par old new) (hn : n ≤ 240) (hso : D.pr.so = true) : GoOk M ((fl D.ps).length + D.pr.now.length) := by
  have hlen := h.len
  have := h.tl
  have := h.sl
  refine ⟨by rw [h.ir, hso], h.fi, by lia, h.bd, by lia, ?_, by lia, h.tlt⟩
  refine ⟨stp 0 D.ps, StepD.mk (((fl D.ps).length : Int) + 1) D.pr.old D.pr.now true, by rw [h.sp]; unfold own; rw [if_pos hso], ?_, ?_⟩
  · show D.pr.old.length ≠ 0; rw [h.po]; have := hP.l; lia
  · show D.pr.old.length ≤ 1000; rw [h.po]; have := hP.l'; lia
theorem Op.gono (h : Op old.length new n k M D) (hP : Par old new) (hn : n ≤ 240) (hso : D.pr.so = false) : GoNo M (fl D.ps).length ((fl D.ps).length + D.pr.now.length) := by
  have hlen := h.len
  have := h.tl
  have := h.sl
  have hpn := h.pn
  rw [hso] at hpn
  simp only [Bool.false_eq_true, if_false] at hpn
  have := h.po
  have := hP.l
  exact ⟨by rw [h.ir, hso], h.sa, h.fi, by rw [hpn]; lia, by lia, h.bd, by lia, by lia, h.tlt⟩
/-- the next match -/
theorem Mid.hit (h : Mid old.length new n k M D) (hP : Par old new) {p : Nat} (hf : First fo old D.rest 0 (some p)) :
    First fo old M.text ((fl D.ps).length + D.pr.now.length) (some ((fl D.ps).length + D.pr.now.length + p)) ∧ Op old.length new (n + 1) k (fndR old.length ((fl D.ps).length + D.pr.now.length + p) M) (hitX old (on0 D) p) ∧ (hitX old (on0 D) p).rest.length < D.rest.length := by
  obtain ⟨-, hp, hm, -⟩ := id hf
  have hl := hP.l
  have h1 : First fo old (fl D.ps ++ D.pr.now ++ D.rest) ((fl D.ps).length + D.pr.now.length) (some ((fl D.ps).length + D.pr.now.length + p)) := hf.shift (by simp)
  have hpl : (part D.rest p (p + old.length)).length = old.length := by unfold part; rw [List.length_take, List.length_drop]; lia
  have hfl : fl (hitX old (on0 D) p).ps = fl D.ps ++ D.pr.now ++ D.rest.take p := by
    show fl (D.ps ++ [D.pr] ++ [Pc.mk "plain" (D.rest.take p) (D.rest.take p) false]) = _
    rw [fl_app, fl_app, fl_one, fl_one]
  have hfll : (fl (hitX old (on0 D) p).ps).length = (fl D.ps).length + D.pr.now.length + p := by rw [hfl]; simp; lia
  have hsplit : D.rest.take p ++ part D.rest p (p + old.length) ++ D.rest.drop (p + old.length) = D.rest := by
    unfold part
    rw [show p + old.length - p = old.length by lia, List.append_assoc, ← List.drop_drop, List.take_append_drop, List.take_append_drop]
  refine ⟨by rw [h.tx, codesX_eq]; exact h1, ?_, ?_⟩
  · have hwl := h.wl
    have hct := h.ct
    unfold wt at hwl
    unfold cnt at hct
    constructor
    · exact h.op
    · exact h.st
    · show M.text = fl (hitX old (on0 D) p).ps ++ part D.rest p (p + old.length) ++ D.rest.drop (p + old.length)
      rw [h.tx, hfl, codesX_eq]
      rw [List.append_assoc (fl D.ps ++ D.pr.now), List.append_assoc (fl D.ps ++ D.pr.now), hsplit]
    · show (((fl D.ps).length + D.pr.now.length + p : Nat) : Int) + 1 = ((fl (hitX old (on0 D) p).ps).length : Int) + 1
      rw [hfll]
    · show (((fl D.ps).length + D.pr.now.length + p : Nat) : Int) + 1 + (old.length : Int) = (((fl (hitX old (on0 D) p).ps).length + (part D.rest p (p + old.length)).length : Nat) : Int) + 1
      rw [hfll, hpl]; lia
    · rfl
    · exact h.mn
    · exact h.bd
    · rfl
    · show endX (hit0 old (on0 D) p) = (((fl D.ps).length + D.pr.now.length + p : Nat) : Int) + 1 + (old.length : Int)
      rw [endX_eq]
      show 1 + ((fl (hitX old (on0 D) p).ps).length : Int) + ((part D.rest p (p + old.length)).length : Int) = _
      rw [hfll, hpl]; lia
    · show M.steps = stp 0 (D.ps ++ [D.pr] ++ [Pc.mk "plain" (D.rest.take p) (D.rest.take p) false]) ++ []
      rw [h.sp, stp_app 0 (D.ps ++ [D.pr]), stp_no (ps := [_]) (fun q hq => by simp at hq; subst hq; show ("plain" : Str) ≠ "match"; decide)]; simp
    · intro q hq
      have hq : q ∈ D.ps ++ [D.pr] ++ [Pc.mk "plain" (D.rest.take p) (D.rest.take p) false] := hq
      rcases List.mem_append.mp hq with hq | hq
      · rcases List.mem_append.mp hq with hq | hq
        · exact h.gp q hq
        · simp at hq; subst hq; exact h.gr
      · simp at hq; subst hq
        exact ⟨fun x hx => h.rc x (List.mem_of_mem_take hx), fun x hx => h.rc x (List.mem_of_mem_take hx), .inr ⟨rfl, rfl⟩⟩
    · have hx : ∀ x ∈ part D.rest p (p + old.length), x < 192 := fun x hx => h.rc x (List.mem_of_mem_drop (List.mem_of_mem_take hx))
      exact ⟨hx, hx, .inl ⟨rfl, hpl, rfl⟩⟩
    · rfl
    · exact fun x hx => h.rc x (List.mem_of_mem_drop hx)
    · have := h.nl
      show (D.ps ++ [D.pr] ++ [Pc.mk "plain" (D.rest.take p) (D.rest.take p) false]).length ≤ _
      simp; lia
    · show wS (D.ps ++ [D.pr] ++ [Pc.mk "plain" (D.rest.take p) (D.rest.take p) false]) + max (part D.rest p (p + old.length)).length (part D.rest p (p + old.length)).length + (D.rest.drop (p + old.length)).length ≤ _
      rw [wS_app, wS_app, wS_one, wS_one, hpl]
      have e1 : wP (Pc.mk "plain" (D.rest.take p) (D.rest.take p) false) = p := by
        show max (D.rest.take p).length (D.rest.take p).length = p
        rw [Nat.max_self, List.length_take]; lia
      rw [e1, Nat.max_self, List.length_drop]
      lia
    · show cS (D.ps ++ [D.pr] ++ [Pc.mk "plain" (D.rest.take p) (D.rest.take p) false]) + b1 false ≤ k
      rw [cS_app, cS_app, cS_one, cS_one]
      simp [b1] at hct ⊢; lia
  · show (D.rest.drop (p + old.length)).length < D.rest.length
    rw [List.length_drop]; lia
/-- no match left -/
theorem Mid.miss (h : Mid old.length new n k M D) (hn : n ≤ 240) (hf : First fo old D.rest 0 none) :
    First fo old M.text ((fl D.ps).length + D.pr.now.length) none ∧ Cl (endR M) (missX (on0 D)) := by
  have h1 : First fo old (fl D.ps ++ D.pr.now ++ D.rest) ((fl D.ps).length + D.pr.now.length) none := hf.shift (r := none) (by simp)
  have e : codesX (missX (on0 D)) = codesX D := by
    rw [codesX_eq, codesX_eq]
    show fl (D.ps ++ [D.pr]) ++ [] ++ D.rest = _
    rw [fl_app, fl_one]; simp
  have hw : wt (missX (on0 D)) = wt D := by
    show wS (D.ps ++ [D.pr]) + 0 + D.rest.length = _
    rw [wS_app, wS_one]; unfold wt; lia
  have hwl := h.wl
  have hnl := h.nl
  have hps : (missX (on0 D)).ps.length = D.ps.length + 1 := by show (D.ps ++ [D.pr]).length = _; simp
  refine ⟨by rw [h.tx, codesX_eq]; exact h1, rfl, rfl, by rw [e]; exact h.tx, h.mn, h.pt, .ofW (by lia) (by lia), by lia, ?_⟩
  show M.text.length ≤ 1000
  rw [h.tx]; have := codes_len D; lia
end
theorem last_or {α : Type} (P : α → Prop) [DecidablePred P] (l : List α) : (∀ x ∈ l, ¬ P x) ∨ ∃ A p B, l = A ++ p :: B ∧ P p ∧ ∀ x ∈ B, ¬ P x := by
  induction l with
  | nil => left; intro x hx; cases hx
  | cons a r ih =>
    rcases ih with h | ⟨A, p, B, rfl, h1, h2⟩
    · by_cases ha : P a
      · exact .inr ⟨[], a, r, rfl, ha, h⟩
      · left; intro x hx
        rcases List.mem_cons.mp hx with rfl | hx
        · exact ha
        · exact h x hx
    · exact .inr ⟨a :: A, p, B, rfl, h1, h2⟩
section
variable {fo : Bool} {old new : List Int} {n k : Nat} {M : Mch} {D : Mdl}
theorem Op.bang (hP : Par old new) : ∀ r n k M D, Op old.length new n k M D → D.rest.length ≤ r → n + 2 * (r + 1) ≤ 240 → ∃ j j' M' D', RunN fo old new j M M' ∧ AllX fo old new j' D D' ∧ Cl M' D' := by
  intro r
  induction r with
  | zero =>
    intro n k M D h hr hn
    obtain ⟨M₁, hp, h1, hso⟩ := h.put hP (by lia)
    obtain ⟨f, hf⟩ := First.ex fo old (putX new D).rest
    have hrest : (putX new D).rest = D.rest := by unfold putX; split <;> rfl
    cases f with
    | none =>
      obtain ⟨q1, q2⟩ := (h1.mid1 hso).miss (by lia) hf
      exact ⟨1, 1, _, _, .stop h.st hp (h1.gook hP (by lia) hso) q1, .step h.op (h.sz (by lia)) (by have := h.nl; lia) (.inr ⟨hf, rfl⟩) (.done rfl), q2⟩
    | some p =>
      have := hf.2.1
      rw [hrest] at this
      have := hP.l; lia
  | succ r ih =>
    intro n k M D h hr hn
    obtain ⟨M₁, hp, h1, hso⟩ := h.put hP (by lia)
    obtain ⟨f, hf⟩ := First.ex fo old (putX new D).rest
    have hrest : (putX new D).rest = D.rest := by unfold putX; split <;> rfl
    cases f with
    | none =>
      obtain ⟨q1, q2⟩ := (h1.mid1 hso).miss (by lia) hf
      exact ⟨1, 1, _, _, .stop h.st hp (h1.gook hP (by lia) hso) q1, .step h.op (h.sz (by lia)) (by have := h.nl; lia) (.inr ⟨hf, rfl⟩) (.done rfl), q2⟩
    | some p =>
      obtain ⟨q1, q2, q3⟩ := (h1.mid1 hso).hit hP hf
      rw [hrest] at q3
      obtain ⟨j, j', M', D', r1, r2, r3⟩ := ih _ _ _ _ q2 (by lia) (by lia)
      exact ⟨j + 1, j' + 1, M', D', .step h.st hp (h1.gook hP (by lia) hso) q1 r1, .step h.op (h.sz (by lia)) (by have := h.nl; lia) (.inl ⟨p, hf, rfl⟩) r2, r3⟩
/-- a replaced match taken back -/
theorem undo_op {A : List Pc} {p : Pc} {R : List Int} {m : Int} (hP : Par old new) (htx : M.text = fl A ++ p.now ++ R) (hbd : M.bound = M.text.length + 1) (hst : M.st = ("asking" : Str)) (hmn : M.many = m) (gA : ∀ q ∈ A, Good old.length new q) (gp : Good old.length new p) (hw : p.word = ("match" : Str))
    (rc : ∀ k ∈ R, k < 192) (nl : A.length ≤ 2 * n + 2) (wl : wS A + p.old.length + R.length ≤ 10 + 3 * n) (ct : cS A ≤ k) :
    Op old.length new n k (undoR (fl A).length (stp 0 A) (StepD.mk (((fl A).length : Int) + 1) p.old p.now true) M) (undoX (Mdl.mk A p R m true 0)) := by
  have hpo : p.old.length = old.length := by
    rcases gp.w with ⟨-, h1, -⟩ | ⟨h1, -⟩
    · exact h1
    · rw [hw] at h1; cases h1
  have ht : M.text.take (fl A).length ++ p.old ++ M.text.drop ((fl A).length + p.now.length) = fl A ++ p.old ++ R := by
    rw [htx]
    congr 1
    · rw [List.append_assoc, List.take_left]
    · rw [← List.length_append, List.drop_left]
  constructor
  · rfl
  · exact hst
  · exact ht
  · rfl
  · show ((fl A).length : Int) + 1 + (p.old.length : Int) = (((fl A).length + p.old.length : Nat) : Int) + 1
    lia
  · rfl
  · show M.many - 1 = m - 1
    rw [hmn]
  · show M.bound + (p.old.length : Int) - (p.now.length : Int) = ((M.text.take (fl A).length ++ p.old ++ M.text.drop ((fl A).length + p.now.length)).length : Int) + 1
    rw [ht, hbd, htx]; simp only [List.length_append]; lia
  · rfl
  · show endX (undo0 (Mdl.mk A p R m true 0)) = ((fl A).length : Int) + 1 + (p.old.length : Int)
    rw [endX_eq]
    show 1 + ((fl A).length : Int) + (p.old.length : Int) = _
    lia
  · show stp 0 A = stp 0 A ++ []
    rw [List.append_nil]
  · exact gA
  · exact ⟨gp.o, gp.o, .inl ⟨hw, hpo, rfl⟩⟩
  · exact hw
  · exact rc
  · exact nl
  · show wS A + max p.old.length p.old.length + R.length ≤ _
    rw [Nat.max_self]; exact wl
  · show cS A + 0 ≤ k
    lia
theorem take_mid {α : Type} (A : List α) (p : α) (B : List α) : (A ++ p :: B).take A.length = A ∧ (A ++ p :: B).drop (A.length + 1) = B ∧ (A ++ p :: B)[A.length]? = some p := by
  refine ⟨List.take_left, ?_, ?_⟩
  · rw [show A ++ p :: B = (A ++ [p]) ++ B by simp, show A.length + 1 = (A ++ [p]).length by simp, List.drop_left]
  · rw [List.getElem?_append_right (Nat.le_refl _)]; simp
theorem Op.tb (h : Op old.length new n k M D) (hP : Par old new) (hn : n ≤ 150) :
    (TB M M false ∧ TBX D D false) ∨ (∃ k' M' D', k = k' + 1 ∧ TB M M' true ∧ TBX D D' true ∧ Op old.length new n k' M' D') := by
  have htl := h.tl
  have hwl := h.wl
  have hct := h.ct
  unfold wt at hwl
  unfold cnt at hct
  have hmx1 : D.pr.old.length ≤ wP D.pr := Nat.le_max_left ..
  have hmx2 : D.pr.now.length ≤ wP D.pr := Nat.le_max_right ..
  have hnl := h.nl
  cases hso : D.pr.so with
  | true =>
    right
    rw [hso] at hct
    simp only [b1, if_true] at hct
    have hu : undoX D = undoX (Mdl.mk D.ps D.pr D.rest D.many true 0) := by
      have e : endX (undo0 D) = endX (undo0 (Mdl.mk D.ps D.pr D.rest D.many true 0)) := rfl
      unfold undoX
      rw [e]
      show Mdl.mk _ _ _ _ D.op _ = _
      rw [h.op]; rfl
    refine ⟨k - 1, undoR (fl D.ps).length (stp 0 D.ps) (StepD.mk (((fl D.ps).length : Int) + 1) D.pr.old D.pr.now true) M, undoX D, by lia, ?_, .own hso ?_, ?_⟩
    · refine .yes (us := []) ?_ rfl (fun u hu => by cases hu) rfl ?_ (by lia) ?_
      · rw [h.sp, List.append_nil]; unfold own; rw [if_pos hso]
      · rw [h.len]; show (fl D.ps).length + D.pr.now.length ≤ _; lia
      · show D.pr.old.length ≤ 1000; lia
    · refine .ofW (by show D.ps.length ≤ 1000; lia) ?_
      show wS D.ps + max D.pr.old.length D.pr.old.length + D.rest.length ≤ 1000
      rw [Nat.max_self]; lia
    · rw [hu]
      exact undo_op hP (by rw [h.tx, codesX_eq]) h.bd h.st h.mn h.gp h.gr h.wr h.rc h.nl (by lia) (by lia)
  | false =>
    have hown : own D = [] := by unfold own; rw [hso]; rfl
    rcases last_or (fun p : Pc => p.so = true) D.ps with hno | ⟨A, p, B, hps, hp, hB⟩
    · left
      have hno : ∀ p ∈ D.ps, p.so = false := fun p hp => by have := hno p hp; simpa using this
      refine ⟨.no ?_, .no hso hno⟩
      rw [h.sp, hown, List.append_nil]; exact stp_isr hno
    · right
      have hB : ∀ q ∈ B, q.so = false := fun q hq => by have := hB q hq; simpa using this
      obtain ⟨t1, t2, t3⟩ := take_mid A p B
      rw [← hps] at t1 t2 t3
      have gp : Good old.length new p := h.gp p (by rw [hps]; simp)
      have hw : p.word = ("match" : Str) := by
        rcases gp.w with ⟨h1, -⟩ | ⟨-, h1⟩
        · exact h1
        · rw [hp] at h1; cases h1
      have hwp : wS D.ps = wS A + (wP p + wS B) := by rw [hps, wS_app, wS_cons]
      have hcp : cS D.ps = cS A + (1 + cS B) := by rw [hps, cS_app, cS_cons, hp]; rfl
      have hlp : D.ps.length = A.length + (B.length + 1) := by rw [hps]; simp
      have hfl : fl D.ps = fl A ++ (p.now ++ fl B) := by rw [hps, fl_app, fl_cons]
      have hp1 : p.old.length ≤ wP p := Nat.le_max_left ..
      have hp2 : p.now.length ≤ wP p := Nat.le_max_right ..
      have hfb := fl_le B
      have hR : (((D.ps.drop (A.length + 1) ++ [D.pr]).map (·.now)).flatten ++ D.rest) = fl B ++ D.pr.now ++ D.rest := by
        rw [t2]; show fl (B ++ [D.pr]) ++ _ = _; rw [fl_app, fl_one]
      have hRl : (fl B ++ D.pr.now ++ D.rest).length = (fl B).length + D.pr.now.length + D.rest.length := by simp only [List.length_append]
      have hbk : back0 A.length p D = Mdl.mk A p (fl B ++ D.pr.now ++ D.rest) D.many D.op D.pt := by unfold back0; rw [t1, hR]
      have hu : undoX (backX A.length p D) = undoX (Mdl.mk A p (fl B ++ D.pr.now ++ D.rest) D.many true 0) := by
        unfold backX
        rw [hbk, h.op]; rfl
      refine ⟨k - 1, undoR (fl A).length (stp 0 A) (StepD.mk (((fl A).length : Int) + 1) p.old p.now true) M, undoX (backX A.length p D), by lia, ?_, .back hso t3 hp (fun j q hj hq => ?_) ?_ ?_, ?_⟩
      · refine .yes (us := stp ((fl A).length + p.now.length) B) ?_ rfl (stp_isr hB) rfl ?_ (by lia) ?_
        · rw [h.sp, hown, List.append_nil, hps, stp_app, Nat.zero_add]
          simp only [stp, if_pos hw, hp, List.append_assoc]
        · rw [h.len, hfl]; show (fl A).length + p.now.length ≤ _; simp only [List.length_append]; lia
        · show p.old.length ≤ 1000; lia
      · have hjl := (List.getElem?_eq_some_iff.mp hq).1
        refine hB q ?_
        rw [hps, show A ++ p :: B = (A ++ [p]) ++ B by simp, List.getElem?_append_right (by simp; lia)] at hq
        exact List.mem_of_getElem? hq
      · rw [hbk]
        refine .ofW (by show A.length ≤ 1000; lia) ?_
        show wS A + wP p + (fl B ++ D.pr.now ++ D.rest).length ≤ 1000
        rw [hRl]; lia
      · unfold backX
        rw [hbk]
        refine .ofW (by show A.length ≤ 1000; lia) ?_
        show wS A + max p.old.length p.old.length + (fl B ++ D.pr.now ++ D.rest).length ≤ 1000
        rw [hRl, Nat.max_self]; lia
      · rw [hu]
        refine undo_op hP ?_ h.bd h.st h.mn (fun q hq => h.gp q (by rw [hps]; exact List.mem_append_left _ hq)) gp hw ?_ (by lia) (by rw [hRl]; lia) (by lia)
        · rw [h.tx, codesX_eq, hfl]; simp only [List.append_assoc]
        · intro x hx
          rcases List.mem_append.mp hx with hx | hx
          · rcases List.mem_append.mp hx with hx | hx
            · exact fl_lt (L := old.length) (new := new) (fun q hq => h.gp q (by rw [hps]; exact List.mem_append_right _ (.tail _ hq))) x hx
            · exact h.gr.n x hx
          · exact h.rc x hx
theorem Op.U (hP : Par old new) (hn : n ≤ 150) : ∀ k M D, Op old.length new n k M D → ∃ M' D', (∃ j, RunU j M M') ∧ (∀ j, UX (k + j + 1) D D') ∧ Op old.length new n k M' D' := by
  intro k
  induction k with
  | zero =>
    intro M D h
    rcases h.tb hP hn with ⟨h1, h2⟩ | ⟨k', M', D', hk, -⟩
    · refine ⟨M, D, ⟨1, .stop h1 (by have := h.sl; lia)⟩, fun j => ?_, h⟩
      have key : ∀ j, UX j D D := by
        intro j
        induction j with
        | zero => exact .zero
        | succ j ih => exact .succ (h.sz (by lia)) (by have := h.nl; lia) h2 ih
      exact key _
    · cases hk
  | succ k ih =>
    intro M D h
    rcases h.tb hP hn with ⟨h1, h2⟩ | ⟨k', M', D', hk, h1, h2, h3⟩
    · refine ⟨M, D, ⟨1, .stop h1 (by have := h.sl; lia)⟩, fun j => ?_, h⟩
      have key : ∀ j, UX j D D := by
        intro j
        induction j with
        | zero => exact .zero
        | succ j ih => exact .succ (h.sz (by lia)) (by have := h.nl; lia) h2 ih
      exact key _
    · cases hk
      obtain ⟨M'', D'', ⟨j, r1⟩, r2, r3⟩ := ih M' D' h3
      refine ⟨M'', D'', ⟨j + 1, .step h1 (by have := h.sl; lia) r1⟩, fun j => ?_, r3.mono (Nat.le_refl _) (Nat.le_succ _)⟩
      rw [show k + 1 + j + 1 = (k + j + 1) + 1 by lia]
      exact .succ (h.sz (by lia)) (by have := h.nl; lia) h2 (r2 j)
end
section
variable {fo : Bool} {old new : List Int} {n k : Nat} {M : Mch} {D : Mdl}
theorem Op.shut (h : Op old.length new n k M D) (hn : n ≤ 240) : Cl (endR M) (shutX D) := by
  have := h.nl
  have hw : wt (shutX D) = wt D := rfl
  have := h.wl
  have htl := h.tl
  exact ⟨rfl, rfl, h.tx, h.mn, by show M.pt = D.pt; rw [h.pt, h.dp], .ofW (by show D.ps.length ≤ 1000; lia) (by lia), by show D.ps.length ≤ 500; lia, by show M.text.length ≤ 1000; lia⟩
theorem Op.on1 (h : Op old.length new n k M D) (hP : Par old new) (hn : n ≤ 200) (hso : D.pr.so = true) :
    ∃ D', NextX fo old (on0 D) D' ∧ ((∃ p, First fo old M.text ((fl D.ps).length + D.pr.now.length) (some p) ∧ Op old.length new (n + 1) k (fndR old.length p M) D') ∨ (First fo old M.text ((fl D.ps).length + D.pr.now.length) none ∧ Cl (endR M) D')) := by
  obtain ⟨f, hf⟩ := First.ex fo old D.rest
  cases f with
  | none => obtain ⟨q1, q2⟩ := (h.mid1 hso).miss (by lia) hf; exact ⟨_, .inr ⟨hf, rfl⟩, .inr ⟨q1, q2⟩⟩
  | some p => obtain ⟨q1, q2, q3⟩ := (h.mid1 hso).hit hP hf; exact ⟨_, .inl ⟨p, hf, rfl⟩, .inl ⟨_, q1, q2⟩⟩
theorem Op.on0 (h : Op old.length new n k M D) (hP : Par old new) (hn : n ≤ 200) (hso : D.pr.so = false) :
    ∃ D', NextX fo old (Mine.on0 D) D' ∧ ((∃ p, First fo old M.text ((fl D.ps).length + D.pr.now.length) (some p) ∧ Op old.length new (n + 1) k (fndR old.length p (goR (fl D.ps).length ((fl D.ps).length + D.pr.now.length) M)) D') ∨ (First fo old M.text ((fl D.ps).length + D.pr.now.length) none ∧ Cl (endR (goR (fl D.ps).length ((fl D.ps).length + D.pr.now.length) M)) D')) := by
  obtain ⟨f, hf⟩ := First.ex fo old D.rest
  cases f with
  | none => obtain ⟨q1, q2⟩ := (h.mid0 hso).miss (by lia) hf; exact ⟨_, .inr ⟨hf, rfl⟩, .inr ⟨q1, q2⟩⟩
  | some p => obtain ⟨q1, q2, q3⟩ := (h.mid0 hso).hit hP hf; exact ⟨_, .inl ⟨p, hf, rfl⟩, .inl ⟨_, q1, q2⟩⟩
theorem Op.back (h : Op old.length new n k M D) (hP : Par old new) (hn : n ≤ 200) :
    ∃ M' D', Ans fo old new M "^" M' true ∧ KeyX fo old new D "^" D' ∧ Op old.length new n k M' D' := by
  have hol : (own D).length = ownN M := by unfold own ownN; rw [h.ir]; cases D.pr.so <;> rfl
  have hsl := h.sl
  have hwl := h.wl
  have hct := h.ct
  have hnl := h.nl
  unfold wt at hwl
  unfold cnt at hct
  rcases last_or (fun p : Pc => p.word = ("match" : Str)) D.ps with hno | ⟨A, p, B, hps, hw, hB⟩
  · refine ⟨M, D, .back0 ?_, .back0 hno, h⟩
    rw [h.sp, stp_no hno, List.nil_append, hol]; exact Nat.le_refl _
  · obtain ⟨t1, t2, t3⟩ := take_mid A p B
    rw [← hps] at t1 t2 t3
    have gp : Good old.length new p := h.gp p (by rw [hps]; simp)
    have hwp : wS D.ps = wS A + (wP p + wS B) := by rw [hps, wS_app, wS_cons]
    have hcp : cS D.ps = cS A + (b1 p.so + cS B) := by rw [hps, cS_app, cS_cons]
    have hlp : D.ps.length = A.length + (B.length + 1) := by rw [hps]; simp
    have hfl : fl D.ps = fl A ++ (p.now ++ fl B) := by rw [hps, fl_app, fl_cons]
    have hp2 : p.now.length ≤ wP p := Nat.le_max_right ..
    have hmx2 : D.pr.now.length ≤ wP D.pr := Nat.le_max_right ..
    have hfb := fl_le B
    have hR : (((D.ps.drop (A.length + 1) ++ [D.pr]).map (·.now)).flatten ++ D.rest) = fl B ++ D.pr.now ++ D.rest := by
      rw [t2]; show fl (B ++ [D.pr]) ++ _ = _; rw [fl_app, fl_one]
    have hRl : (fl B ++ D.pr.now ++ D.rest).length = (fl B).length + D.pr.now.length + D.rest.length := by simp only [List.length_append]
    have hbk : back0 A.length p D = Mdl.mk A p (fl B ++ D.pr.now ++ D.rest) D.many D.op D.pt := by unfold back0; rw [t1, hR]
    have hbx : backX A.length p D = Mdl.mk A p (fl B ++ D.pr.now ++ D.rest) D.many D.op (endX (Mdl.mk A p (fl B ++ D.pr.now ++ D.rest) D.many D.op D.pt)) := by unfold backX; rw [hbk]
    refine ⟨backR (stp 0 A) (StepD.mk (((fl A).length : Int) + 1) p.old p.now p.so) M, backX A.length p D, .back1 ?_ (by lia) ?_, .back1 t3 hw (fun j q hj hq => ?_) ?_, ?_⟩
    · have e : M.steps.length - ownN M = (stp 0 D.ps).length := by rw [h.sp, List.length_append, hol]; lia
      rw [e, h.sp, List.take_left, hps, stp_app, Nat.zero_add]
      simp only [stp, if_pos hw, stp_no (fun q hq => hB q hq), List.append_nil]
    · show p.now.length ≤ 1000; lia
    · refine hB q ?_
      have hjl := (List.getElem?_eq_some_iff.mp hq).1
      rw [hps, show A ++ p :: B = (A ++ [p]) ++ B by simp, List.getElem?_append_right (by simp; lia)] at hq
      exact List.mem_of_getElem? hq
    · rw [hbk]
      refine .ofW (by show A.length ≤ 1000; lia) ?_
      show wS A + wP p + (fl B ++ D.pr.now ++ D.rest).length ≤ 1000
      rw [hRl]; lia
    · rw [hbx]
      have hcx : M.text = fl A ++ p.now ++ (fl B ++ D.pr.now ++ D.rest) := by rw [h.tx, codesX_eq, hfl]; simp only [List.append_assoc]
      constructor
      · exact h.op
      · exact h.st
      · exact hcx
      · rfl
      · show ((fl A).length : Int) + 1 + (p.now.length : Int) = (((fl A).length + p.now.length : Nat) : Int) + 1
        lia
      · rfl
      · exact h.mn
      · exact h.bd
      · rfl
      · show endX _ = ((fl A).length : Int) + 1 + (p.now.length : Int)
        rw [endX_eq]
        show 1 + ((fl A).length : Int) + (p.now.length : Int) = _
        lia
      · show (if p.so = true then stp 0 A ++ [StepD.mk (((fl A).length : Int) + 1) p.old p.now p.so] else stp 0 A) = stp 0 A ++ (if p.so = true then [StepD.mk (((fl A).length : Int) + 1) p.old p.now true] else [])
        cases hso : p.so <;> simp
      · exact fun q hq => h.gp q (by rw [hps]; exact List.mem_append_left _ hq)
      · exact gp
      · exact hw
      · intro x hx
        rcases List.mem_append.mp hx with hx | hx
        · rcases List.mem_append.mp hx with hx | hx
          · exact fl_lt (L := old.length) (new := new) (fun q hq => h.gp q (by rw [hps]; exact List.mem_append_right _ (.tail _ hq))) x hx
          · exact h.gr.n x hx
        · exact h.rc x hx
      · show A.length ≤ _; lia
      · show wS A + wP p + (fl B ++ D.pr.now ++ D.rest).length ≤ _
        rw [hRl]; lia
      · show cS A + b1 p.so ≤ k
        lia
noncomputable def keyL : List Str := ["y", "n", ",", "^", "u", "!", ".", "U", "q", "x", "n", "y"]
/-- every key: what the machine answers and what the model becomes go together -/
theorem Op.key (h : Op old.length new n k M D) (hP : Par old new) (hn : n ≤ 30) (hk : k ≤ 15) {key : Str} (hkey : key ∈ keyL) :
    ∃ M' D', Ans fo old new M key M' (!decide (key = ("x" : Str))) ∧ KeyX fo old new D key D' ∧ (Op old.length new (n + 2) (k + 1) M' D' ∨ Cl M' D') := by
  have hy : ∃ M' D', Ans fo old new M "y" M' true ∧ KeyX fo old new D "y" D' ∧ (Op old.length new (n + 2) (k + 1) M' D' ∨ Cl M' D') := by
    obtain ⟨M₁, hp, h1, hso⟩ := h.put hP (by lia)
    obtain ⟨D', hN, ⟨p, hf, h2⟩ | ⟨hf, h2⟩⟩ := h1.on1 (fo := fo) hP (by lia) hso
    · exact ⟨_, D', .yGo hp (h1.gook hP (by lia) hso) hf, .y hN, .inl h2⟩
    · exact ⟨_, D', .yEnd hp (h1.gook hP (by lia) hso) hf, .y hN, .inr h2⟩
  have hnn : ∃ M' D', Ans fo old new M "n" M' true ∧ KeyX fo old new D "n" D' ∧ (Op old.length new (n + 2) (k + 1) M' D' ∨ Cl M' D') := by
    cases hso : D.pr.so with
    | true =>
      obtain ⟨D', hN, ⟨p, hf, h2⟩ | ⟨hf, h2⟩⟩ := h.on1 (fo := fo) hP (by lia) hso
      · exact ⟨_, D', .nGo0 (h.gook hP (by lia) hso) hf, .n hN, .inl (h2.mono (Nat.le_succ _) (Nat.le_succ _))⟩
      · exact ⟨_, D', .nEnd0 (h.gook hP (by lia) hso) hf, .n hN, .inr h2⟩
    | false =>
      obtain ⟨D', hN, ⟨p, hf, h2⟩ | ⟨hf, h2⟩⟩ := h.on0 (fo := fo) hP (by lia) hso
      · exact ⟨_, D', .nGo1 (h.gono hP (by lia) hso) hf, .n hN, .inl (h2.mono (Nat.le_succ _) (Nat.le_succ _))⟩
      · exact ⟨_, D', .nEnd1 (h.gono hP (by lia) hso) hf, .n hN, .inr h2⟩
  simp only [keyL, List.mem_cons, List.not_mem_nil, or_false] at hkey
  rcases hkey with rfl | rfl | rfl | rfl | rfl | rfl | rfl | rfl | rfl | rfl | rfl | rfl
  · exact hy
  · exact hnn
  · obtain ⟨M₁, hp, h1, hso⟩ := h.put hP (by lia)
    exact ⟨_, _, .comma hp, .comma, .inl (h1.mono (Nat.le_succ _) (Nat.le_refl _))⟩
  · obtain ⟨M', D', q1, q2, q3⟩ := h.back (fo := fo) hP (by lia)
    exact ⟨M', D', q1, q2, .inl (q3.mono (by lia) (Nat.le_succ _))⟩
  · rcases h.tb hP (by lia) with ⟨q1, q2⟩ | ⟨k', M', D', rfl, q1, q2, q3⟩
    · exact ⟨M, D, .u q1 (by have := h.sl; lia), .u q2, .inl (h.mono (by lia) (Nat.le_succ _))⟩
    · exact ⟨M', D', .u q1 (by have := h.sl; lia), .u q2, .inl (q3.mono (by lia) (by lia))⟩
  · have hr : D.rest.length ≤ 10 + 3 * n := by have := h.wl; unfold wt at this; lia
    obtain ⟨j, j', M', D', q1, q2, q3⟩ := Op.bang (fo := fo) hP D.rest.length n k M D h (Nat.le_refl _) (by lia)
    exact ⟨M', D', .bang q1, .bang q2, .inr q3⟩
  · obtain ⟨M₁, hp, h1, hso⟩ := h.put hP (by lia)
    exact ⟨_, _, .dot hp, .dot, .inr (h1.shut (by lia))⟩
  · obtain ⟨M', D', ⟨j, q1⟩, q2, q3⟩ := Op.U hP (n := n) (by lia) k M D h
    refine ⟨M', D', .U q1, .U ?_, .inl (q3.mono (by lia) (Nat.le_succ _))⟩
    have := q2 (19 - k)
    rw [show k + (19 - k) + 1 = 20 by lia] at this
    exact this
  · exact ⟨_, _, .q, .q, .inr (h.shut (by lia))⟩
  · exact ⟨_, _, .x, .x, .inr (h.shut (by lia))⟩
  · exact hnn
  · exact hy
end
section
variable {fo : Bool} {old new : List Int} {n k : Nat} {M : Mch} {D : Mdl}
/-- the next match, the pieces being there -/
theorem hitE (hP : Par old new) (op : D.op = true) (st : M.st = ("asking" : Str)) (tx : M.text = fl D.ps ++ D.rest) (mn : M.many = D.many) (bd : M.bound = M.text.length + 1) (sp : M.steps = stp 0 D.ps) (gp : ∀ p ∈ D.ps, Good old.length new p)
    (rc : ∀ k ∈ D.rest, k < 192) (nl : D.ps.length ≤ 2 * n + 3) (wl : wS D.ps + D.rest.length ≤ 10 + 3 * n) (ct : cS D.ps ≤ k) {p : Nat} (hf : First fo old D.rest 0 (some p)) :
    Op old.length new (n + 1) k (fndR old.length ((fl D.ps).length + p) M) (hitX old D p) := by
  obtain ⟨-, hp, hm, -⟩ := id hf
  have hl := hP.l
  have hpl : (part D.rest p (p + old.length)).length = old.length := by unfold part; rw [List.length_take, List.length_drop]; lia
  have hfl : fl (hitX old D p).ps = fl D.ps ++ D.rest.take p := by
    show fl (D.ps ++ [Pc.mk "plain" (D.rest.take p) (D.rest.take p) false]) = _
    rw [fl_app, fl_one]
  have hfll : (fl (hitX old D p).ps).length = (fl D.ps).length + p := by rw [hfl]; simp; lia
  have hsplit : D.rest.take p ++ part D.rest p (p + old.length) ++ D.rest.drop (p + old.length) = D.rest := by
    unfold part
    rw [show p + old.length - p = old.length by lia, List.append_assoc, ← List.drop_drop, List.take_append_drop, List.take_append_drop]
  constructor
  · exact op
  · exact st
  · show M.text = fl (hitX old D p).ps ++ part D.rest p (p + old.length) ++ D.rest.drop (p + old.length)
    rw [tx, hfl]
    rw [List.append_assoc (fl D.ps), List.append_assoc (fl D.ps), hsplit]
  · show (((fl D.ps).length + p : Nat) : Int) + 1 = ((fl (hitX old D p).ps).length : Int) + 1
    rw [hfll]
  · show (((fl D.ps).length + p : Nat) : Int) + 1 + (old.length : Int) = (((fl (hitX old D p).ps).length + (part D.rest p (p + old.length)).length : Nat) : Int) + 1
    rw [hfll, hpl]; lia
  · rfl
  · exact mn
  · exact bd
  · rfl
  · show endX (hit0 old D p) = (((fl D.ps).length + p : Nat) : Int) + 1 + (old.length : Int)
    rw [endX_eq]
    show 1 + ((fl (hitX old D p).ps).length : Int) + ((part D.rest p (p + old.length)).length : Int) = _
    rw [hfll, hpl]; lia
  · show M.steps = stp 0 (D.ps ++ [Pc.mk "plain" (D.rest.take p) (D.rest.take p) false]) ++ []
    rw [sp, stp_app 0 D.ps, stp_no (ps := [_]) (fun q hq => by simp at hq; subst hq; show ("plain" : Str) ≠ "match"; decide)]; simp
  · intro q hq
    have hq : q ∈ D.ps ++ [Pc.mk "plain" (D.rest.take p) (D.rest.take p) false] := hq
    rcases List.mem_append.mp hq with hq | hq
    · exact gp q hq
    · simp at hq; subst hq
      exact ⟨fun x hx => rc x (List.mem_of_mem_take hx), fun x hx => rc x (List.mem_of_mem_take hx), .inr ⟨rfl, rfl⟩⟩
  · have hx : ∀ x ∈ part D.rest p (p + old.length), x < 192 := fun x hx => rc x (List.mem_of_mem_drop (List.mem_of_mem_take hx))
    exact ⟨hx, hx, .inl ⟨rfl, hpl, rfl⟩⟩
  · rfl
  · exact fun x hx => rc x (List.mem_of_mem_drop hx)
  · show (D.ps ++ [Pc.mk "plain" (D.rest.take p) (D.rest.take p) false]).length ≤ _
    simp; lia
  · show wS (D.ps ++ [Pc.mk "plain" (D.rest.take p) (D.rest.take p) false]) + max (part D.rest p (p + old.length)).length (part D.rest p (p + old.length)).length + (D.rest.drop (p + old.length)).length ≤ _
    rw [wS_app, wS_one, hpl]
    have e1 : wP (Pc.mk "plain" (D.rest.take p) (D.rest.take p) false) = p := by
      show max (D.rest.take p).length (D.rest.take p).length = p
      rw [Nat.max_self, List.length_take]; lia
    rw [e1, Nat.max_self, List.length_drop]
    lia
  · show cS (D.ps ++ [Pc.mk "plain" (D.rest.take p) (D.rest.take p) false]) + b1 false ≤ k
    rw [cS_app, cS_one]
    simp [b1]; lia
/-- the model as the law sets it up -/
noncomputable def D0 (text : List Int) (a : Nat) : Mdl := Mdl.mk [Pc.mk "plain" (text.take a) (text.take a) false] (Pc.mk "plain" [] [] false) (text.drop a) 0 true (1 + (a : Int))
noncomputable def M0 (text : List Int) (a : Nat) : Mch := Mch.mk text (1 + (a : Int)) ((text.length : Int) + 1) "asking" (1 + (a : Int)) (1 + (a : Int)) false 0 []
theorem First.up {text : List Int} {a : Nat} {r : Option Nat} (ha : a ≤ text.length) (hf : First fo old (text.drop a) 0 r) : First fo old text a (r.map (a + ·)) := by
  have := First.shift (pre := text.take a) (b := a) (by rw [List.length_take]; lia) hf
  rwa [List.take_append_drop] at this
theorem init_hit {text : List Int} {a p p' : Nat} (hP : Par old new) (ha : a ≤ text.length) (hz : text.length ≤ 10) (hc : ∀ x ∈ text, x < 192) (h1 : First fo old text a (some p')) (h2 : First fo old (text.drop a) 0 (some p)) :
    Op old.length new 1 0 (fndR old.length p' (M0 text a)) (hitX old (D0 text a) p) := by
  have hu : First fo old text a (some (a + p)) := First.up ha h2
  cases First.det h1 hu
  have hfl : fl (D0 text a).ps = text.take a := by show fl [_] = _; rw [fl_one]
  have hla : (text.take a).length = a := by rw [List.length_take]; lia
  have := hitE (n := 0) (k := 0) (M := M0 text a) (D := D0 text a) (fo := fo) hP rfl rfl (by rw [hfl]; exact (List.take_append_drop a text).symm) rfl rfl rfl
    (fun q hq => by
      have hq : q ∈ [Pc.mk "plain" (text.take a) (text.take a) false] := hq
      simp at hq; subst hq
      exact ⟨fun x hx => hc x (List.mem_of_mem_take hx), fun x hx => hc x (List.mem_of_mem_take hx), .inr ⟨rfl, rfl⟩⟩)
    (fun x hx => hc x (List.mem_of_mem_drop hx)) (by show 1 ≤ _; lia)
    (by
      show wS [Pc.mk "plain" (text.take a) (text.take a) false] + (text.drop a).length ≤ _
      rw [wS_one]
      show max (text.take a).length (text.take a).length + _ ≤ _
      rw [Nat.max_self, hla, List.length_drop]; lia)
    (by show cS [_] ≤ 0; rw [cS_one]; exact Nat.le_refl 0) h2
  rw [hfl, hla] at this
  exact this
theorem init_miss {text : List Int} {a : Nat} (ha : a ≤ text.length) (hz : text.length ≤ 10) : Cl (endR (M0 text a)) (missX (D0 text a)) := by
  have hla : (text.take a).length = a := by rw [List.length_take]; lia
  have hfl : fl (D0 text a).ps = text.take a := by show fl [_] = _; rw [fl_one]
  refine ⟨rfl, rfl, ?_, rfl, rfl, .ofW (by show 1 ≤ _; lia) ?_, by show 1 ≤ _; lia, by show text.length ≤ _; lia⟩
  · show text = fl (D0 text a).ps ++ [] ++ text.drop a
    rw [hfl, List.append_nil, List.take_append_drop]
  · show wS [Pc.mk "plain" (text.take a) (text.take a) false] + 0 + (text.drop a).length ≤ _
    rw [wS_one]
    show max (text.take a).length (text.take a).length + 0 + _ ≤ _
    rw [Nat.max_self, hla, List.length_drop]; lia
/-- what holds at the head of each turn -/
noncomputable def Inv (L : Nat) (new : List Int) (n k : Nat) (M : Mch) (D : Mdl) : Prop := Op L new n k M D ∨ Cl M D
theorem Inv.tx (h : Inv old.length new n k M D) : M.text = codesX D := h.elim Op.tx Cl.tx
theorem Inv.pt (h : Inv old.length new n k M D) : M.pt = D.pt := h.elim (fun h => by rw [h.pt, h.dp]) Cl.pt
theorem Inv.mn (h : Inv old.length new n k M D) : M.many = D.many := h.elim Op.mn Cl.mn
theorem Inv.st (h : Inv old.length new n k M D) : decide (M.st = ("asking" : Str)) = D.op := by
  rcases h with h | h
  · rw [h.st, h.op]; rfl
  · rw [h.st, h.op]; decide
theorem Inv.sz (h : Inv old.length new n k M D) (hn : n ≤ 240) : Sz D := h.elim (fun h => h.sz hn) Cl.z
theorem Inv.nl (h : Inv old.length new n k M D) (hn : n ≤ 240) : D.ps.length ≤ 500 := h.elim (fun h => by have := h.nl; lia) Cl.nl
theorem Inv.tl (h : Inv old.length new n k M D) (hn : n ≤ 240) : M.text.length ≤ 1000 := h.elim (fun h => by have := h.tl; lia) Cl.tl
end
theorem go_main (C0 : Cx) {A : Around} {env : Env} {body : List Stmt} {qk : Flow → Shared → Prop} {ek : Value → Shared → Prop} {sc q : Addr} {vs : List Value} {s₀ : Shared} (O : Ow C0 env.locals [("script", rf sc)] [(q, isC0)] [] s₀) (hL : C0.G.IsList sc vs.toArray)
    (hq : ∀ s' m Γ I, Ow C0 env.locals m Γ I s' → qk (.ret (.bool true)) s')
    (h : ∀ c s, Ow c env.locals [("script", rf sc)] [(q, isC0)] [] s → c.G.IsList sc vs.toArray → wpAny c.M A (execs body env) (fun f s' => f = .ret (.bool true) ∧ ∃ m Γ I, Ow c env.locals m Γ I s') (fun _ _ => False) s) : wpAny C0.M A (execs body env) qk ek s₀ :=
  wpAny_mono (h _ _ O hL) (by rintro f s' ⟨rfl, m, Γ, I, O'⟩; exact hq _ _ _ _ O') fun _ _ h => h.elim
theorem cl_tyC {c : Cx} {A : Around} {env : Env} {m : FM} {Γ I : Led} {s : Shared} {pos : Pos} {Q : Value → Shared → Prop} {E : Value → Shared → Prop} {f : Expr} {id : String} {args : List Expr} (O : Ow c env.locals m Γ I s) (hf : PE c A env m Γ I f (.v (.type id)))
    (h : ∀ s', Ow c env.locals m Γ I s' → wpAny c.M A (spliced (backTo pos (starEach args env))) (fun vs s₂ => wpAny c.M A (call (.type id) vs []) Q E s₂) E s')
    (he : eval (.Call f args [] pos) env = (do callWith pos (← eval f env) [] (backTo pos (starEach args env)) (backToKw pos (keywordEach [] env))) := by rfl)
    (hp : plainArgs args = true := by rfl) : wpAny c.M A (eval (.Call f args [] pos) env) Q E s := by
  refine Call_ ?_ he
  refine hf _ _ _ O fun v s' e O' => ?_
  cases e
  exact PySem.callWith_type (splicedPlain hp) (evalArgs_any (splicedPlain hp) (h s' O'))
theorem cm_neB {c : Cx} {A : Around} {L : Addr} {m : FM} {Γ I : Led} {x y : Bool} : ∀ v u, (bo x).is v → (bo y).is u → Pu c A L m Γ I (compareOp .NotEq v u) (· = .bool (!(x == y))) := by
  rintro _ _ rfl rfl _ _ _ O k
  exact SeqAt.RcNeAt.bool_bool x y _ _ _ _ (k _ _ rfl O)
/-- a slice of a list that was there before the call -/
theorem cn_sliceG {c : Cx} {A : Around} {env : Env} {m : FM} {Γ I : Led} {s : Shared} {pos p : Pos} {E : Value → Shared → Prop} {Q : Value → Shared → Prop} {e : Expr} {hi : Option Expr} {sc : Addr} {vs : List Value} {ns : List Int} {b : Nat} (O : Ow c env.locals m Γ I s) (he : PE c A env m Γ I e (rf sc)) (hhi : PP c A env m Γ I hi (some b))
    (hL : c.G.IsList sc vs.toArray) (hI : IntsAre vs ns) (hz : ns.length ≤ 1000) (h : ∀ r s', Ow c env.locals m ((r, isInts (ns.take b)) :: Γ) I s' → Q (.ref r) s') : wpAny c.M A (eval (.Subscript e (.Slice none hi none p) pos) env) Q E s :=
  Subscript_ (he _ _ _ O fun v s₁ hv O₁ => by
    cases hv
    refine wpAny_Slice ?_
    rw [evalPart_none]
    refine wpAny_pure (hhi _ _ _ O₁ fun v₂ s₃ h₂ O₃ => ?_)
    refine wpAny_pure ?_
    obtain ⟨o, ho, hc, n, hd⟩ := hL
    have hlen : vs.length = ns.length := by have := (AVs.ofInts hI).length; simpa using this
    have hL' : (s₃.heap.push { cls := .type "slice", data := .fields #[.none, v₂, .none] }).IsList sc vs.toArray := ⟨o, Heap.get?_push_of_some _ (O₃.keep _ _ ho), hc, n, hd⟩
    refine tail_any (s := { s₃ with heap := s₃.heap.push { cls := .type "slice", data := .fields #[.none, v₂, .none] } }) hL'.typeIs slot_list_getitem.lookup (wpAny_getItem_list_slice hL' (Heap.IsSliceOf.new ..) .none h₂ .none (by simp) ?_ (by rw [List.size_toArray]; exact lim_line (by unfold lim; lia))) rfl
    have e := slicePick_cut vs.toArray none (some b)
    simp only [Option.map] at e ⊢
    rw [e]
    refine h _ _ (O₃.freshK (tk := s₃.toks) (fun b o q => Heap.get?_push_of_some _ (Heap.get?_push_of_some _ q)) (by rw [Heap.size_push]; exact Nat.le_succ _) (Heap.get?_push_size _ rfl) ⟨cut vs none (some b), 0, ?_, rfl⟩)
    have := (AVs.ofInts hI).cut none (some b)
    rw [cut_map] at this; exact this)
/-- o[k] = v as a target of a tuple -/
theorem as_key {c : Cx} {A : Around} {env : Env} {m : FM} {Γ I : Led} {s : Shared} {E : Value → Shared → Prop} {C' : (Obj → Prop) → Led} {o : Expr} {d : Addr} {fm : FM} {k : Str} {x1} {p' p'' : Pos} {v : Value} {a : AV} {Q : Unit → Shared → Prop} (O : Ow c env.locals m Γ I s) (ha : a.is v) (ho : PE c A env m Γ I o (rf d)) (hd : PutC d (isM c fm) Γ C') (hz : fm.length ≤ 1000)
    (h : ∀ s', Ow c env.locals m (C' (isM c (sl fm k a))) I s' → Q () s') : wpAny c.M A (assign (.Subscript o (.Constant (.str k) x1 p'') p') env v) Q E s := by
  have key := ss_key (A := A) (E := E) (x1 := x1) (p'' := p'') (Q := Q) O ha ho hd hz h
  intro Γ p hΓ
  simp only [assign_Subscript, Sem.wp_bind', Sem.wp_holding, Sem.wp_cmd_standAt, Sem.wp_release]
  exact Sem.wp_mono _ Γ _ (fun ov p₂ s₂ h₂ => Sem.wp_mono _ Γ _ (fun iv _ s₃ h₃ => h₃ Γ _ hΓ) (fun _ _ _ h' => h') _ _ (h₂ Γ p₂ hΓ)) (fun _ _ _ h' => h') _ _ (key Γ _ hΓ)
theorem IntsAre.len {vs : List Value} {ns : List Int} (h : IntsAre vs ns) : vs.length = ns.length := by have := (AVs.ofInts h).length; simpa using this
theorem law_in {w : World} {s₁ : Shared} {h₁ : Heap} {tk₁ : Nat} {mg mb mm : Str → Option Value} {A : Around} {env : Env} {body : List Stmt} {qk : Flow → Shared → Prop} {ek : Value → Shared → Prop} {sc : Addr} {vs : List Value} {wo : Obj} {vo : Option Value}
    (hg : s₁.gens = #[]) (KX : (Mine.K w.params).In s₁.heap) (g : s₁.heap.Ns mainGlobals mg) (b : s₁.heap.Ns builtinsNs mb) (nl : s₁.heap.NoLimit) (bt : ∀ x : Str, x ≠ "__name__" → mb x = bootBuiltins x)
    (F : Fr s₁.heap s₁.heap.objs.size h₁ mm) (hm : mm "script" = some (.ref sc)) (N : News s₁.heap s₁.heap.objs.size h₁ [(s₁.heap.objs.size + 1, wo)]) (hcell : wo.data = .cell vo) (hL : s₁.heap.IsList sc vs.toArray) (henv : env.locals = s₁.heap.objs.size)
    (hq : ∀ s' m, Fr s₁.heap s₁.heap.objs.size s'.heap m → s'.gens = #[] → s'.os = s₁.os → qk (.ret (.bool true)) s')
    (hA : Room 20 A) (h : ∀ c s, Room 20 A → Ow c env.locals [("script", rf sc)] [(s₁.heap.objs.size + 1, isC0)] [] s → c.G.IsList sc vs.toArray → wpAny c.M A (execs body env) (fun f s' => f = .ret (.bool true) ∧ ∃ m Γ I, Ow c env.locals m Γ I s') (fun _ _ => False) s) :
    wpAny (model PR w) A (execs body env) qk ek { s₁ with heap := h₁, toks := tk₁ } := by
  have N1 := N _ (.head _)
  have O : Ow (Cx.mk w s₁.heap s₁.os mg mb KX nl g b bt) env.locals [("script", rf sc)] [(s₁.heap.objs.size + 1, isC0)] [] { s₁ with heap := h₁, toks := tk₁ } := by
    rw [henv]
    refine ⟨hg, rfl, ⟨_, F, fun y b hb => ?_⟩, fun p hp => ?_, fun p hp => (by cases hp), (by simp), fun p hp q hq => (by cases hq)⟩
    · simp only [gl] at hb
      split at hb
      · rename_i e; subst e; cases hb; exact ⟨_, hm, rfl⟩
      · cases hb
    · simp at hp; subst hp
      exact ⟨⟨wo, N1.1, _, hcell⟩, Nat.succ_ne_self _, Nat.le_succ _⟩
  refine go_main (Cx.mk w s₁.heap s₁.os mg mb KX nl g b bt) O hL (fun s' m Γ I O' => ?_) (fun c s => h c s hA)
  obtain ⟨m', F', -⟩ := O'.fr
  rw [henv] at F'
  exact hq s' m' F' O'.gens O'.os
theorem sp_ReplacingX {c : Cx} {A : Around} {L : Addr} {m : FM} {Γ I : Led} {s : Shared} {Q E} {B : BA} {f df cr k dk cn : Addr} {a : Nat} {x y pt : Int} {gs ge : Nat} {xs text : List Int} {tk ck : Int} {old new : List Int} {fo : Bool} {vs} (hA : Room 9 A) (hv : AVs [rf B.b, rf f, rf k, .i x, .i y] vs) (hB : BI c B I) (hF : LI I f df cr old fo)
    (hk : (k, isI 158 dk) ∈ I) (hdk : (dk, isF [("codes", rf cn)]) ∈ I) (hcn : (cn, isInts new) ∈ I) (O : Ow c L m (bL B gs ge xs pt (text.length + 1) tk ck Γ) I s) (hT : TX gs ge xs text) (hx : x = 1 + a) (hpt : pt = 1 + a) (hy : y = text.length + 1) (ha : a ≤ text.length) (hz : text.length ≤ 10000)
    (hs : ∀ k ∈ text, k < 192) (hs' : ∀ k ∈ old, k < 192) (hl : old.length ≤ 1000)
    (h : ∀ R ls I' s' M', Sb I I' → R.B = B → RI c R old new fo I' → ((∃ p, First fo old text a (some p) ∧ M' = fndR old.length p (M0 text a)) ∨ (First fo old text a none ∧ M' = endR (M0 text a))) → Ow c L m (rL R ls [] M' gs ge xs tk ck Γ) I' s' → Q (.ref R.r) s') : wpAny c.M A (call (.ref 263) vs []) Q E s := by
  subst hx hpt hy
  refine sp_Replacing (a := a) hA hv hB hF hk hdk hcn O hT (by lia) rfl ha hz hs hs' hl (fun r d ls I' p s' hS hR hf O => ?_) (fun r d ls I' s' hS hR hf O => ?_)
  · exact h ⟨r, d, f, df, cr, k, dk, cn, B⟩ ls I' s' _ hS rfl hR (.inl ⟨p, hf, rfl⟩) O
  · exact h ⟨r, d, f, df, cr, k, dk, cn, B⟩ ls I' s' _ hS rfl hR (.inr ⟨hf, rfl⟩) O
theorem sp_l_nextX {c : Cx} {A : Around} {L : Addr} {m : FM} {Γ I : Led} {s : Shared} {Q E} {X : MA} {V : MS} {old new : List Int} {fo : Bool} {D : Mdl} {vs} (hA : Room 11 A) (hv : AVs [rf X.d] vs) (hM : MI I X V old new D) (hz : Sz D) (hz2 : D.ps.length ≤ 900) (hl : old.length ≤ 1000) (O : Ow c L m (mL c X V fo D Γ) I s)
    (h : ∀ D' s', NextX fo old D D' → Md c L m X old new fo D' Γ I s' → Q .none s') : wpAny c.M A (call (.ref 635) vs []) Q E s :=
  sp_l_next hA hv hM hz hz2 hl O (fun p s' hp k => h _ s' (.inl ⟨p, hp, rfl⟩) k) fun s' hp k => h _ s' (.inr ⟨hp, rfl⟩) k
theorem init_inv {fo : Bool} {old new text : List Int} {a : Nat} {M : Mch} {D : Mdl} (hP : Par old new) (ha : a ≤ text.length) (hz : text.length ≤ 10) (hc : ∀ x ∈ text, x < 192)
    (h1 : (∃ p, First fo old text a (some p) ∧ M = fndR old.length p (M0 text a)) ∨ (First fo old text a none ∧ M = endR (M0 text a))) (h2 : NextX fo old (D0 text a) D) : Inv old.length new 1 0 M D := by
  rcases h2 with ⟨p, hp, rfl⟩ | ⟨hp, rfl⟩
  · rcases h1 with ⟨q, hq, rfl⟩ | ⟨hq, rfl⟩
    · exact .inl (init_hit hP ha hz hc hq hp)
    · cases First.det hq (First.up ha hp)
  · rcases h1 with ⟨q, hq, rfl⟩ | ⟨hq, rfl⟩
    · cases First.det hq (First.up ha hp)
    · exact .inr (init_miss ha hz)
theorem Sz.d0 {text : List Int} {a : Nat} (hz : text.length ≤ 10) : Sz (D0 text a) := by
  refine ⟨by show 1 ≤ 1000; lia, fun p hp => ?_, by show 0 ≤ 1000; lia, by show (text.drop a).length ≤ 1000; rw [List.length_drop]; lia⟩
  have hp : p ∈ [Pc.mk "plain" (text.take a) (text.take a) false] := hp
  simp at hp; subst hp
  show (text.take a).length ≤ 1000
  rw [List.length_take]; lia
/-- the tuple assignment with swapped stores, at the level of exec -/
theorem ex_tupleS {c : Cx} {A : Around} {env : Env} {s : Shared} {pos : Pos} {E : Value → Shared → Prop} {elts : List Expr} {k : Nat} {pt : Pos} {value : Expr} {names : List Str} {Q : Flow → Shared → Prop} (hh : A.handled = none)
    (h : wpAny c.M A (eval value env) (fun v s₁ => ∃ t as m₁ m₂ Γ₁ I₁, v = .ref t ∧ Ow c env.locals m₁ Γ₁ I₁ s₁ ∧ In2 t (isT as) Γ₁ I₁ ∧ names.length = as.length ∧ Binds env (names.reverse.map fun n => bindName env n) as.reverse m₁ m₂ ∧ ∀ s', Ow c env.locals m₂ Γ₁ I₁ s' → Q .next s') E s)
    (hs : swapsWithSole [.Tuple elts k pt] value pos.line env = pure false)
    (hw : swappedStores [.Tuple elts k pt] value env = pure (some names)) : wpAny c.M A (exec (.Assign [.Tuple elts k pt] value pos) env) Q E s := by
  refine Assign_Tuple_swapped (wpAny_mono h (fun v s₁ h₁ => ?_) fun _ _ x => x) hs hw
  obtain ⟨t, as, m₁, m₂, Γ₁, I₁, rfl, O, ht, hn, hS, k⟩ := h₁
  obtain ⟨vs, n, hv, hT, ho⟩ := O.tup ht
  rw [show names.length = vs.toArray.size by rw [List.size_toArray, hv.length, hn]]
  refine unpackItems_tuple hh hT fun h' he => ?_
  exact hS.run hv.rev (O.keeps (tk := s₁.toks) fun b o e => he b o (Nat.ne_of_lt (Heap.lt_size e)) e) k
/-- a['k1'], b['k2'] = e -/
theorem st_keys2 {c : Cx} {A : Around} {env : Env} {s : Shared} {pos : Pos} {E : Value → Shared → Prop} {o1 o2 : Expr} {k1 k2 : Str} {x1 x2} {p1 p2 p3 p4 pt : Pos} {k : Nat} {value : Expr} {rest : List Stmt} {Q : Flow → Shared → Prop} (hh : A.handled = none)
    (h : wpAny c.M A (eval value env) (fun v s₁ => ∃ t a b m₁ Γ₁ I₁, v = .ref t ∧ Ow c env.locals m₁ Γ₁ I₁ s₁ ∧ In2 t (isT [a, b]) Γ₁ I₁ ∧ ∀ va vb s', a.is va → b.is vb → Ow c env.locals m₁ Γ₁ I₁ s' →
      wpAny c.M A (assign (.Subscript o1 (.Constant (.str k1) x1 p1) p2) env va) (fun _ s₂ => wpAny c.M A (assign (.Subscript o2 (.Constant (.str k2) x2 p3) p4) env vb) (fun _ s₃ => wpAny c.M A (execs rest env) Q E s₃) E s₂) E s') E s)
    (hs : swapsWithSole [.Tuple [.Subscript o1 (.Constant (.str k1) x1 p1) p2, .Subscript o2 (.Constant (.str k2) x2 p3) p4] k pt] value pos.line env = pure false := by rfl)
    (hw : swappedStores [.Tuple [.Subscript o1 (.Constant (.str k1) x1 p1) p2, .Subscript o2 (.Constant (.str k2) x2 p3) p4] k pt] value env = pure none := by rfl)
    (hE : assignEach [.Subscript o1 (.Constant (.str k1) x1 p1) p2, .Subscript o2 (.Constant (.str k2) x2 p3) p4] env = [(false, assign (.Subscript o1 (.Constant (.str k1) x1 p1) p2) env), (false, assign (.Subscript o2 (.Constant (.str k2) x2 p3) p4) env)] := by rfl) :
    wpAny c.M A (execs (.Assign [.Tuple [.Subscript o1 (.Constant (.str k1) x1 p1) p2, .Subscript o2 (.Constant (.str k2) x2 p3) p4] k pt] value pos :: rest) env) Q E s := by
  refine st_seq (Assign_Tuple (wpAny_mono h (fun v s₁ h₁ => ?_) fun _ _ x => x) hs hw)
  obtain ⟨t, a, b, m₁, Γ₁, I₁, rfl, O, ht, kk⟩ := h₁
  obtain ⟨vs, n, hv, hT, ho⟩ := O.tup ht
  cases hv; rename_i ha hr; cases hr; rename_i hb hr; cases hr
  refine assign_Tuple_tuple hh hT (by rw [hE]; rfl) (by rw [hE]; rfl) fun h' he => ?_
  rw [hE]
  exact assignInOrder_cons (wpAny_mono (kk _ _ _ ha hb (O.keeps (tk := s₁.toks) fun b o e => he b o (Nat.ne_of_lt (Heap.lt_size e)) e)) (fun _ s₂ h₂ => assignInOrder_cons (wpAny_mono h₂ (fun _ s₃ h₃ => assignInOrder_nil h₃) fun _ _ x => x)) fun _ _ x => x)
/-- the law's own statements -/
noncomputable def lawB : List Stmt := match (PySem.Challenge.pw_np0090_01.main.body[47]? : Option Stmt) with
  | some (.FunctionDef _ _ b _ _ _ _ _ _ _) => b
  | _ => []
noncomputable def lawSc : Scope := match (PySem.Challenge.pw_np0090_01.main.body[47]? : Option Stmt) with
  | some (.FunctionDef _ _ _ _ _ _ sc _ _ _) => sc
  | _ => default
noncomputable def lawT (k : Nat) : List Stmt := lawB.drop k
noncomputable abbrev lawE (L fa : Addr) (cd : Value) : Env := envOfC "law" lawSc L fa cd
theorem lawE_deck {L fa : Addr} {cd : Value} : (lawE L fa cd).cells.lookup ("deck" : Str) = some (L + 1) := rfl
/-- a display of written strings, of written ints: told without PL in sight -/
inductive ConstS : List Expr → List Str → Prop
  | nil : ConstS [] []
  | cons {x : Str} {k p es xs} : ConstS es xs → ConstS (.Constant (.str x) k p :: es) (x :: xs)
inductive ConstI : List Expr → List Int → Prop
  | nil : ConstI [] []
  | cons {x : Int} {k p es xs} : ConstI es xs → ConstI (.Constant (.int x) k p :: es) (x :: xs)
theorem ConstS.pl {c : Cx} {A : Around} {env : Env} {m : FM} {Γ I : Led} {es : List Expr} {xs : List Str} (h : ConstS es xs) : PL c A env m Γ I es (xs.map AV.s) := by
  induction h with
  | nil => exact pl_nil
  | cons _ ih => exact pl_cons pe_str ih
theorem ConstI.pl {c : Cx} {A : Around} {env : Env} {m : FM} {Γ I : Led} {es : List Expr} {xs : List Int} (h : ConstI es xs) : PL c A env m Γ I es (xs.map AV.i) := by
  induction h with
  | nil => exact pl_nil
  | cons _ ih => exact pl_cons pe_int ih
theorem cn_strs {c : Cx} {A : Around} {env : Env} {m : FM} {Γ I : Led} {s : Shared} {pos : Pos} {E : Value → Shared → Prop} {es : List Expr} {xs : List Str} {Q : Value → Shared → Prop} (O : Ow c env.locals m Γ I s) (hc : ConstS es xs) (hz : xs.length ≤ lim)
    (h : ∀ r s', Ow c env.locals m ((r, isLm AV.s xs) :: Γ) I s' → Q (.ref r) s') : wpAny c.M A (eval (.List es pos) env) Q E s := cn_display AV.s O hc.pl hz h
theorem cn_ints {c : Cx} {A : Around} {env : Env} {m : FM} {Γ I : Led} {s : Shared} {pos : Pos} {E : Value → Shared → Prop} {es : List Expr} {xs : List Int} {Q : Value → Shared → Prop} (O : Ow c env.locals m Γ I s) (hc : ConstI es xs) (hz : xs.length ≤ lim)
    (h : ∀ r s', Ow c env.locals m ((r, isInts xs) :: Γ) I s' → Q (.ref r) s') : wpAny c.M A (eval (.List es pos) env) Q E s := cn_display AV.i O hc.pl hz h
theorem keyL_lim : keyL.length ≤ lim := by decide
noncomputable def lawS (k : Nat) : Stmt := match lawB.drop k with
  | x :: _ => x
  | [] => .Pass default
theorem lawT_0 : lawT 0 = lawS 0 :: lawT 1 := rfl
theorem lawT_1 : lawT 1 = lawS 1 :: lawT 2 := rfl
theorem lawT_2 : lawT 2 = lawS 2 :: lawT 3 := rfl
theorem lawT_3 : lawT 3 = lawS 3 :: lawT 4 := rfl
theorem lawT_4 : lawT 4 = lawS 4 :: lawT 5 := rfl
theorem lawT_5 : lawT 5 = lawS 5 :: lawT 6 := rfl
theorem lawT_6 : lawT 6 = lawS 6 :: lawT 7 := rfl
theorem lawT_7 : lawT 7 = lawS 7 :: lawT 8 := rfl
theorem lawT_8 : lawT 8 = lawS 8 :: lawT 9 := rfl
theorem lawT_9 : lawT 9 = lawS 9 :: lawT 10 := rfl
theorem lawT_10 : lawT 10 = lawS 10 :: lawT 11 := rfl
noncomputable def LoopJ (c : Cx) (L dk : Addr) (R : RA) (X : MA) (ol nw : List Int) (fo : Bool) (i : Nat) (m' : FM) (Γ' I' : Led) : Prop :=
  ∃ M D V ls as gs ge xs tk ck ds', FS m' [("buffer", rf R.B.b), ("machine", rf R.r), ("model", rf X.d)] ∧ Inv ol.length nw (1 + 2 * i) i M D ∧ i ≤ 12 ∧ ds'.length ≤ 50 ∧ RI c R ol nw fo I' ∧ Lay I' M gs ge xs as ∧ MI I' X V ol nw D ∧ Γ' = (dk, isInts ds') :: (L + 1, isC (rf dk)) :: rL R ls as M gs ge xs tk ck (mL c X V fo D [])
set_option maxHeartbeats 4000000 in
theorem law_loop {c : Cx} {A : Around} {L fa dk : Addr} {cd : Value} {I : Led} {s : Shared} {R : RA} {X : MA} {V : MS} {M : Mch} {D : Mdl} {ol nw ds : List Int} {fo : Bool} {ls : Addr} {as : List Addr} {gs ge : Nat} {xs : List Int} {tk ck : Int}
    (hA : Room 20 A) (hP : Par ol nw) (hR : RI c R ol nw fo I) (hM : MI I X V ol nw D) (hLay : Lay I M gs ge xs as) (hinv : Inv ol.length nw 1 0 M D) (hds : ds.length ≤ 50)
    (O : Ow c (lawE L fa cd).locals [("buffer", rf R.B.b), ("machine", rf R.r), ("model", rf X.d)] ((dk, isInts ds) :: (L + 1, isC (rf dk)) :: rL R ls as M gs ge xs tk ck (mL c X V fo D [])) I s) :
    wpAny c.M A (execs (lawT 11) (lawE L fa cd)) (fun f s' => f = .ret (.bool true) ∧ ∃ m Γ I, Ow c (lawE L fa cd).locals m Γ I s') (fun _ _ => False) s := by
  have hdeck := @lawE_deck L fa cd
  have hol := hP.l'
  have hnw := hP.n
  conv in lawT 11 => whnf
  refine st_for (cl_tyC O (by walk_at "name") fun s O => ?_)
  refine wpAny_items_cons (wpAny_BinOp (pe_use (a := .i 1) (by walk_at "ev") O fun v s hv O => ?_))
  obtain ⟨t0, rfl⟩ := hv
  ((refine' cl_ref O ?f_503 ?k_503 ?a_503 ?_; (case f_503 => walk_at "name"); (case k_503 => (walk_at "keep")); (case a_503 => walk_at "evl"); intro vs s hv O))
  refine sp_l_draw (d := dk) (ds := ds) (k := 12) (Room.le hA (by decide)) hv (by decide) (by lia) (by (((refine' Ow.got O ?g_504); (case g_504 => walk_at "got")))) fun n1 ds1 v s hn10 hn11 hdds1 hv O => ?_
  obtain ⟨tn1, rfl⟩ := hv
  refine P.add_int (wpAny_items_nil ?_)
  refine call_range_1 (cn_range (a := 0) (b := 1 + n1) (O.tok) ⟨by lia, by lia⟩ ⟨by lia, by lia⟩ ⟨_, _, _, rfl, rfl⟩ fun it s O => ?_)
  refine lp_range hA.handled O (LoopJ c L dk R X ol nw fo) ⟨M, D, V, ls, as, gs, ge, xs, tk, ck, ds1, FS.refl, hinv, by lia, by lia, hR, hLay, hM, rfl⟩ ?_ ?_
  · clear hinv hM hLay hR O
    rintro i m' Γ' I' s hi ⟨M, D, V, ls, as, gs, ge, xs, tk, ck, ds', hfs, hinv, hi', hds', hR, hLay, hM, rfl⟩ O
    have hi11 : i ≤ 11 := by lia
    have O := O.fs hfs.sl
    simp only [RIt, List.cons_append, List.nil_append] at O
    have htx := hinv.tx
    have hpt := hinv.pt
    have hmn := hinv.mn
    have hst := hinv.st
    have hzz := hinv.sz (by lia)
    have hnl := hinv.nl (by lia)
    have htl := hinv.tl (by lia)
    obtain ⟨r1, r2, r3, r4, r5, r6⟩ := id hR
    obtain ⟨g1, g2, g3, g4, g5, g6⟩ := id r2
    refine st_ifc (wpAny_isTrue_BoolOp (wpAny_allTrue_Or_cons (wpAny_isTrue_Compare1 ?_ (by with_unfolding_all rfl))))
    refine cl_meth (as := [.i 1, .i ((M.text.length : Int) + 1)]) O (by walk_at "ev") (by walk_at "in2") (by walk_at "in2") (by walk_at "methF") (by walk_at "keep") rfl (pl_cons pe_int (pl_cons (pe_add (pe_meth (by walk_at "ev") (by walk_at "in2") (by walk_at "in2") (by walk_at "methF") (by walk_at "keep") rfl pl_nil (fun vs hv => pu_b_size (Room.le hA (by decide)) hv r2 (by walk_at "in2") (by walk_at "in2") (by walk_at "in2") hLay.tx)) pe_int) pl_nil)) fun vs s hv O => ?_
    refine sp_b_codes (a := 0) (b := M.text.length) (Room.le hA (by decide)) hv r2 (by (((refine' Ow.got O ?g_505); (case g_505 => walk_at "got")))) hLay.tx rfl rfl (Nat.zero_le _) (Nat.le_refl _) fun q1 s O => ?_
    ((refine' cl_ref O ?f_506 ?k_506 ?a_506 ?_; (case f_506 => walk_at "name"); (case k_506 => (walk_at "keep")); (case a_506 => walk_at "evl"); intro vs s hv O))
    refine sp_l_codes (V := V) (D := D) (fo := fo) (Room.le hA (by decide)) hv hM hzz hnl (by (((refine' Ow.got O ?g_507); (case g_507 => walk_at "got")))) fun q2 s O => ?_
    refine cm_neI (Room.le hA (by decide)) (by walk_at "in2") (by walk_at "in2") _ _ _ O fun w s hw O => ?_
    have hpart : part M.text 0 M.text.length = codesX D := by rw [← htx]; unfold part; simp
    rw [hpart] at hw
    simp only [decide_true, Bool.not_true] at hw
    subst hw
    refine wpAny_truthy_bool ?_
    rw [if_neg (by decide)]
    refine wpAny_allTrue_Or_cons ((pb_cmp (by walk_at "ev") (by walk_at "ev") cm_ne) _ _ _ O fun v s hv O => ?_)
    rw [hpt] at hv
    simp only [decide_true, Bool.not_true] at hv
    subst hv
    rw [if_neg (by decide)]
    refine wpAny_allTrue_Or_nil (st_nil ?_)
    refine st_ifF1 O (pb_cmp (by walk_at "ev") (by walk_at "ev") cm_ne) (by simp [hmn]) fun s O => ?_
    refine st_ifF1 O (pb_cmp (pe_cmp (by walk_at "ev") (by walk_at "name") cm_eqS) (by walk_at "ev") cm_neB) (by rw [hst]; simp) fun s O => ?_
    clear htx hpt hmn hst hpart
    with_reducible refine st_letc ?_ ?_
    rotate_left 1
    · rfl
    with_reducible refine Subscript_ ?_
    with_reducible refine cn_strs (xs := keyL) O ?_ keyL_lim fun kl s O => ?_
    · exact .cons (.cons (.cons (.cons (.cons (.cons (.cons (.cons (.cons (.cons (.cons (.cons .nil)))))))))))
    ((refine' cl_ref O ?f_508 ?k_508 ?a_508 ?_; (case f_508 => walk_at "name"); (case k_508 => (walk_at "keep")); (case a_508 => walk_at "evl"); intro vs s hv O))
    refine sp_l_draw (d := dk) (ds := ds') (k := 12) (Room.le hA (by decide)) hv (by decide) (by lia) (by (((refine' Ow.got O ?g_509); (case g_509 => walk_at "got")))) fun n2 ds2 v s hn20 hn21 hdds2 hv O => ?_
    obtain ⟨tn2, rfl⟩ := hv
    obtain ⟨key, hkey, hkey'⟩ : ∃ key, keyL[n2.toNat]? = some key ∧ key ∈ keyL := by
      have hlt : n2.toNat < keyL.length := by show n2.toNat < 12; lia
      exact ⟨_, List.getElem?_eq_getElem hlt, List.getElem_mem hlt⟩
    refine pu_item (f := AV.s) (xs := keyL) (k := n2) (x := key) (by walk_at "in2") hn20 (by decide) hkey (hs := by intro _; with_unfolding_all rfl) _ _ _ O fun v s hv O => ?_
    refine st_store (a := .s key) O hv fun s O => ?_
    refine st_letc (BoolOp_and (pe_use (a := bo D.op) (by walk_at "ev") O fun v s hv O => ?_))
    cases hv
    refine wpAny_truthy_bool ?_
    rcases hinv with hop | hcl
    · rw [hop.op, if_pos rfl]
      rw [show 1 + 2 * i = 2 * i + 1 by lia] at hop
      obtain ⟨M', D', hans, hkx, hnext⟩ := hop.key (fo := fo) hP (by lia) (by lia) hkey'
      refine BoolOp_one ?_
      ((refine' cl_ref O ?f_510 ?k_510 ?a_510 ?_; (case f_510 => walk_at "name"); (case k_510 => (walk_at "keep")); (case a_510 => walk_at "evl"); intro vs s hv O))
      refine sp_l_key (V := V) (D := D) (fo := fo) (Room.le hA (by decide)) hv hM hzz hnl (by lia) (by lia) (by (((refine' Ow.got O ?g_511); (case g_511 => walk_at "got")))) hkx fun s hMd => ?_
      obtain ⟨V', I2, hS, hM', O⟩ := hMd
      refine st_store (a := bo (!decide (key = ("x" : Str)))) O rfl fun s O => ?_
      refine st_ifc (wpAny_isTrue_Compare1 ?_ (by with_unfolding_all rfl))
      have r1' := hS _ r1
      have hR' := hR.sb hS
      obtain ⟨r1, r2, r3, r4, r5, r6⟩ := id hR'
      ((refine' cl_meth O ?o_512 ?x_512 ?d_512 ?m_512 ?k_512 ?n_512 ?a_512 ?_; (case o_512 => walk_at "ev"); (case x_512 => (walk_at "in2")); (case d_512 => (walk_at "in2")); (case m_512 => (walk_at "methF")); (case k_512 => (walk_at "keep")); (case n_512 => exact rfl); (case a_512 => walk_at "evl"); intro vs s hv O))
      refine sp_answer (Room.le hA (by decide)) hv hR' (hLay.sb hS) (by (((refine' Ow.got O ?g_513); (case g_513 => walk_at "got")))) hop.st hans (by lia) hP.o (by lia) fun I3 ls' as' gs' ge' xs' tk' ck' s hS3 hLay' O => ?_
      refine pe_use (a := bo (!decide (key = ("x" : Str)))) (by walk_at "ev") O fun v s hv O => ?_
      refine cm_neB _ _ rfl hv _ _ _ O fun w s hw O => ?_
      simp only [beq_self_eq_true, Bool.not_true] at hw
      subst hw
      refine wpAny_truthy_bool (st_nil (st_nil ?_))
      refine ⟨_, _, _, ⟨M', D', V', ls', as', gs', ge', xs', tk', ck', ds2, FS.of (.cons rfl (.cons rfl (.cons rfl .nil))), ?_, by lia, by lia, hR'.sb hS3, hLay', hM'.sb hS3, rfl⟩, (by simp only [RIt, List.cons_append, List.nil_append]; (((refine' Ow.got O ?g_514); (case g_514 => walk_at "got"))))⟩
      rw [show 1 + 2 * (i + 1) = 2 * i + 1 + 2 by lia]
      exact hnext
    · rw [hcl.op, if_neg (by decide)]
      refine st_store (a := bo false) O rfl fun s O => ?_
      refine st_ifc (wpAny_isTrue_Compare1 ?_ (by with_unfolding_all rfl))
      ((refine' cl_meth O ?o_515 ?x_515 ?d_515 ?m_515 ?k_515 ?n_515 ?a_515 ?_; (case o_515 => walk_at "ev"); (case x_515 => (walk_at "in2")); (case d_515 => (walk_at "in2")); (case m_515 => (walk_at "methF")); (case k_515 => (walk_at "keep")); (case n_515 => exact rfl); (case a_515 => walk_at "evl"); intro vs s hv O))
      refine sp_answer0 (Room.le hA (by decide)) hv hR (by (((refine' Ow.got O ?g_516); (case g_516 => walk_at "got")))) hcl.st fun s O => ?_
      refine pe_use (a := bo false) (by walk_at "ev") O fun v s hv O => ?_
      refine cm_neB _ _ rfl hv _ _ _ O fun w s hw O => ?_
      simp only [beq_self_eq_true, Bool.not_true] at hw
      subst hw
      refine wpAny_truthy_bool (st_nil (st_nil ?_))
      exact ⟨_, _, _, ⟨M, D, V, ls, as, gs, ge, xs, tk, ck, ds2, FS.of (.cons rfl (.cons rfl (.cons rfl .nil))), .inr hcl, by lia, by lia, hR, hLay, hM, rfl⟩, (by simp only [RIt, List.cons_append, List.nil_append]; (((refine' Ow.got O ?g_517); (case g_517 => walk_at "got"))))⟩
  · clear hinv hM hLay hR O
    rintro m' Γ' I' s ⟨M, D, V, ls, as, gs, ge, xs, tk, ck, ds', hfs, hinv, hi', hds', hR, hLay, hM, rfl⟩ O
    have O := O.fs hfs
    have htx := hinv.tx
    have hmn := hinv.mn
    have hzz := hinv.sz (by lia)
    have hnl := hinv.nl (by lia)
    obtain ⟨r1, r2, r3, r4, r5, r6⟩ := id hR
    obtain ⟨g1, g2, g3, g4, g5, g6⟩ := id r2
    refine st_retc (BoolOp_and (wpAny_Compare1 ?_ (by with_unfolding_all rfl)))
    refine cl_meth (as := [.i 1, .i ((M.text.length : Int) + 1)]) O (by walk_at "ev") (by walk_at "in2") (by walk_at "in2") (by walk_at "methF") (by walk_at "keep") rfl (pl_cons pe_int (pl_cons (pe_add (pe_meth (by walk_at "ev") (by walk_at "in2") (by walk_at "in2") (by walk_at "methF") (by walk_at "keep") rfl pl_nil (fun vs hv => pu_b_size (Room.le hA (by decide)) hv r2 (by walk_at "in2") (by walk_at "in2") (by walk_at "in2") hLay.tx)) pe_int) pl_nil)) fun vs s hv O => ?_
    refine sp_b_codes (a := 0) (b := M.text.length) (Room.le hA (by decide)) hv r2 (by (((refine' Ow.got O ?g_518); (case g_518 => walk_at "got")))) hLay.tx rfl rfl (Nat.zero_le _) (Nat.le_refl _) fun q1 s O => ?_
    ((refine' cl_ref O ?f_519 ?k_519 ?a_519 ?_; (case f_519 => walk_at "name"); (case k_519 => (walk_at "keep")); (case a_519 => walk_at "evl"); intro vs s hv O))
    refine sp_l_codes (V := V) (D := D) (fo := fo) (Room.le hA (by decide)) hv hM hzz hnl (by (((refine' Ow.got O ?g_520); (case g_520 => walk_at "got")))) fun q2 s O => ?_
    refine cm_eqI (Room.le hA (by decide)) (by walk_at "in2") (by walk_at "in2") _ _ _ O fun w s hw O => ?_
    have hpart : part M.text 0 M.text.length = codesX D := by rw [← htx]; unfold part; simp
    rw [hpart] at hw
    simp only [decide_true] at hw
    subst hw
    refine wpAny_truthy_bool ?_
    rw [if_pos rfl]
    refine BoolOp_one ((pe_cmp (a := .i M.many) (a' := .i D.many) (by walk_at "ev") (by walk_at "ev") cm_eq) _ _ _ O fun v s hv O => ?_)
    have hv : v = .bool (decide (M.many = D.many)) := hv
    rw [hmn, decide_eq_true rfl] at hv
    subst hv
    exact ⟨rfl, _, _, _, O⟩
set_option maxHeartbeats 1000000 in
/-- model = {..}, the first piece, the present one, the first look for a match; then the loop -/
theorem law_model {c : Cx} {A : Around} {L fa dk ck oa na : Addr} {cd : Value} {I : Led} {s : Shared} {R : RA} {ls : Addr} {M : Mch} {ol nw ds codes : List Int} {fo : Bool} {gs ge a : Nat} {xs : List Int} {tk ckn : Int}
    (hA : Room 20 A) (hP : Par ol nw) (hR : RI c R ol nw fo I) (hLay : Lay I M gs ge xs []) (hoI : (oa, isInts ol) ∈ I) (hnI : (na, isInts nw) ∈ I) (hds : ds.length ≤ 50) (hcl : codes.length ≤ 10) (ha : a ≤ codes.length) (hcc : ∀ x ∈ codes, x < 192)
    (h1 : (∃ p, First fo ol codes a (some p) ∧ M = fndR ol.length p (M0 codes a)) ∨ (First fo ol codes a none ∧ M = endR (M0 codes a)))
    (O : Ow c (lawE L fa cd).locals [("codes", rf ck), ("old", rf oa), ("new", rf na), ("is_folded", bo fo), ("start", .i (a : Nat)), ("buffer", rf R.B.b), ("machine", rf R.r)] ((dk, isInts ds) :: (L + 1, isC (rf dk)) :: (ck, isInts codes) :: rL R ls [] M gs ge xs tk ckn []) I s) :
    wpAny c.M A (execs (lawT 7) (lawE L fa cd)) (fun f s' => f = .ret (.bool true) ∧ ∃ m Γ I, Ow c (lawE L fa cd).locals m Γ I s') (fun _ _ => False) s := by
  have hdeck := @lawE_deck L fa cd
  have hol := hP.l'
  have hnw := hP.n
  rw [lawT_7]
  conv in lawS 7 => whnf
  refine st_letc ?_
  refine cn_dict O rfl rfl (by simp) (by decide) fun d s O => ?_
  with_reducible refine pairTrees_cons_walk ?_
  with_reducible refine pe_use pe_str O fun k1 s hk1 O => ?_
  with_reducible refine pe_use (a := rf oa) ?_ O fun v1 s hv1 O => ?_
  · walk_at "ev"
  with_reducible refine pairTrees_cons_walk ?_
  with_reducible refine pe_use pe_str O fun k2 s hk2 O => ?_
  with_reducible refine pe_use (a := rf na) ?_ O fun v2 s hv2 O => ?_
  · walk_at "ev"
  with_reducible refine pairTrees_cons_walk ?_
  with_reducible refine pe_use pe_str O fun k3 s hk3 O => ?_
  with_reducible refine pe_use (a := bo fo) ?_ O fun v3 s hv3 O => ?_
  · walk_at "ev"
  with_reducible refine pairTrees_cons_walk ?_
  with_reducible refine pe_use pe_str O fun k4 s hk4 O => ?_
  with_reducible refine cn_slice (f := AV.i) (l := ck) (xs := codes) (a := some a) (b := none) O ?_ ?_ ?_ ?_ ?_ fun lr s O => ?_
  · walk_at "ev"
  · exact pp_some (by walk_at "ev") rfl
  · exact pp_none
  · walk_at "in2"
  · unfold lim; lia
  have O := Ow.frz (p := (lr, isInts (cut codes (some a) none))) O (by walk_at "pick")
  with_reducible refine pairTrees_cons_walk ?_
  with_reducible refine pe_use pe_str O fun k5 s hk5 O => ?_
  with_reducible refine pe_use pe_int O fun v5 s hv5 O => ?_
  with_reducible refine pairTrees_cons_walk ?_
  with_reducible refine pe_use pe_str O fun k6 s hk6 O => ?_
  with_reducible refine pe_use pe_bool O fun v6 s hv6 O => ?_
  with_reducible refine pairTrees_nil_walk ?_
  obtain ⟨t1, rfl⟩ := hk1
  obtain ⟨t2, rfl⟩ := hk2
  obtain ⟨t3, rfl⟩ := hk3
  obtain ⟨t4, rfl⟩ := hk4
  obtain ⟨t5, rfl⟩ := hk5
  obtain ⟨t6, rfl⟩ := hk6
  refine ⟨[("old", v1), ("new", v2), ("is_folded", v3), ("rest", .ref lr), ("many", v5), ("is_open", v6)], [("old", rf oa), ("new", rf na), ("is_folded", bo fo), ("rest", rf lr), ("many", .i 0), ("is_open", bo true)], _, _, _, ?_, ?_, O, fun s O => ?_⟩
  · exact ⟨strKind_is _ _ _ _, rfl, strKind_is _ _ _ _, rfl, strKind_is _ _ _ _, rfl, strKind_is _ _ _ _, rfl, strKind_is _ _ _ _, rfl, strKind_is _ _ _ _, rfl, trivial⟩
  · exact .cons hv1 (.cons hv2 (.cons hv3 (.cons (a := rf lr) rfl (.cons hv5 (.cons hv6 .nil)))))
  refine st_store (a := rf d) O rfl fun s O => ?_
  clear hv1 hv2 hv3 hv5 hv6
  rw [lawT_8]
  conv in lawS 8 => whnf
  refine st_keys2 hA.handled ?_
  with_reducible refine cn_tupleC ?_
  with_reducible refine wpAny_items_cons ?_ ?he1
  case he1 => rfl
  with_reducible refine List_ ?_
  with_reducible refine wpAny_items_cons ?_ ?he2
  case he2 => rfl
  with_reducible refine cn_tupleC ?_
  with_reducible refine wpAny_items_cons ?_ ?he3
  case he3 => rfl
  with_reducible refine pe_use pe_str O fun w0 s hw0 O => ?_
  with_reducible refine wpAny_items_cons ?_ ?he4
  case he4 => rfl
  with_reducible refine cn_slice (f := AV.i) (l := ck) (xs := codes) (a := none) (b := some a) O ?_ ?_ ?_ ?_ ?_ fun l1 s O => ?_
  · walk_at "ev"
  · exact pp_none
  · exact pp_some (by walk_at "ev") rfl
  · walk_at "in2"
  · unfold lim; lia
  with_reducible refine wpAny_items_cons ?_ ?he5
  case he5 => rfl
  with_reducible refine cn_slice (f := AV.i) (l := ck) (xs := codes) (a := none) (b := some a) O ?_ ?_ ?_ ?_ ?_ fun l2 s O => ?_
  · walk_at "ev"
  · exact pp_none
  · exact pp_some (by walk_at "ev") rfl
  · walk_at "in2"
  · unfold lim; lia
  with_reducible refine wpAny_items_cons ?_ ?he6
  case he6 => rfl
  with_reducible refine pe_use pe_bool O fun w3 s hw3 O => ?_
  with_reducible refine wpAny_items_nil ?_
  refine ⟨[.s "plain", rf l1, rf l2, bo false], _, _, _, .cons hw0 (.cons rfl (.cons rfl (.cons hw3 .nil))), by exact Nat.le_of_ble_eq_true rfl, O, fun q1 s O => ?_⟩
  with_reducible refine wpAny_items_nil ?_
  refine cn_list (f := rf) (xs := [q1]) O (.cons rfl .nil) (by exact Nat.le_of_ble_eq_true rfl) fun lp s O => ?_
  with_reducible refine wpAny_items_cons ?_ ?he7
  case he7 => rfl
  with_reducible refine pe_use (a := .i (1 + (a : Nat))) ?_ O fun v7 s hv7 O => ?_
  · walk_at "ev"
  with_reducible refine wpAny_items_nil ?_
  refine ⟨[rf lp, .i (1 + (a : Nat))], _, _, _, .cons rfl (.cons hv7 .nil), by exact Nat.le_of_ble_eq_true rfl, O, fun q2 s O => ?_⟩
  refine ⟨q2, rf lp, .i (1 + (a : Nat)), _, _, _, rfl, O, .inl (.head _), fun va vb s hva hvb O => ?_⟩
  have O := O.drop
  have O := Ow.frz (p := (l1, isInts (cut codes none (some a)))) O (by walk_at "pick")
  have O := Ow.frz (p := (l2, isInts (cut codes none (some a)))) O (by walk_at "pick")
  have O := Ow.frz (p := (q1, isT [.s "plain", rf l1, rf l2, bo false])) O (by walk_at "pick")
  refine as_key O hva (by walk_at "ev") (by walk_at "put") (by exact Nat.le_of_ble_eq_true rfl) fun s O => ?_
  refine as_key O hvb (by walk_at "ev") (by walk_at "put") (by exact Nat.le_of_ble_eq_true rfl) fun s O => ?_
  rw [lawT_9]
  conv in lawS 9 => whnf
  refine st_keyC ?_
  with_reducible refine cn_tupleC ?_
  with_reducible refine wpAny_items_cons ?_ ?he8
  case he8 => rfl
  with_reducible refine pe_use pe_str O fun u0 s hu0 O => ?_
  with_reducible refine wpAny_items_cons ?_ ?he9
  case he9 => rfl
  with_reducible refine cn_ints (xs := []) O .nil (Nat.zero_le _) fun l3 s O => ?_
  with_reducible refine wpAny_items_cons ?_ ?he10
  case he10 => rfl
  with_reducible refine cn_ints (xs := []) O .nil (Nat.zero_le _) fun l4 s O => ?_
  with_reducible refine wpAny_items_cons ?_ ?he11
  case he11 => rfl
  with_reducible refine pe_use pe_bool O fun u3 s hu3 O => ?_
  with_reducible refine wpAny_items_nil ?_
  refine ⟨[.s "plain", rf l3, rf l4, bo false], _, _, _, .cons hu0 (.cons rfl (.cons rfl (.cons hu3 .nil))), by exact Nat.le_of_ble_eq_true rfl, O, fun q3 s O => ?_⟩
  have O := Ow.frz (p := (l3, isInts [])) O (by walk_at "pick")
  have O := Ow.frz (p := (l4, isInts [])) O (by walk_at "pick")
  have O := Ow.frz (p := (q3, isT [.s "plain", rf l3, rf l4, bo false])) O (by walk_at "pick")
  refine ss_key (a := rf q3) O rfl (by walk_at "ev") (by walk_at "put") (by exact Nat.le_of_ble_eq_true rfl) fun s O => ?_
  obtain ⟨J, hJ⟩ : ∃ J, J = (q3, isT [.s "plain", rf l3, rf l4, bo false]) :: (l4, isInts []) :: (l3, isInts []) :: (q1, isT [.s "plain", rf l1, rf l2, bo false]) :: (l2, isInts (cut codes none (some a))) :: (l1, isInts (cut codes none (some a))) :: (lr, isInts (cut codes (some a) none)) :: I := ⟨_, rfl⟩
  have hS : Sb I J := by rw [hJ]; exact (((((((Sb.refl).cons).cons).cons).cons).cons).cons).cons
  have hM : MI J ⟨d, oa, na⟩ ⟨lr, lp, q3, [q1]⟩ ol nw (D0 codes a) := by
    have e0 : (lr, isInts (cut codes (some a) none)) ∈ J := by rw [hJ]; walk_at "mem"
    have e1 : (l1, isInts (cut codes none (some a))) ∈ J := by rw [hJ]; walk_at "mem"
    have e2 : (l2, isInts (cut codes none (some a))) ∈ J := by rw [hJ]; walk_at "mem"
    have e3 : (q1, isT [.s "plain", rf l1, rf l2, bo false]) ∈ J := by rw [hJ]; walk_at "mem"
    have e4 : (l3, isInts []) ∈ J := by rw [hJ]; walk_at "mem"
    have e5 : (l4, isInts []) ∈ J := by rw [hJ]; walk_at "mem"
    have e6 : (q3, isT [.s "plain", rf l3, rf l4, bo false]) ∈ J := by rw [hJ]; walk_at "mem"
    exact ⟨hS _ hoI, hS _ hnI, e0, ⟨l3, l4, e6, e4, e5⟩, .cons1 ⟨l1, l2, e3, e1, e2⟩⟩
  rw [← hJ] at O
  clear hJ
  rw [lawT_10]
  conv in lawS 10 => whnf
  refine st_expr ?_
  ((refine' cl_ref O ?f_521 ?k_521 ?a_521 ?_; (case f_521 => walk_at "name"); (case k_521 => (walk_at "keep")); (case a_521 => walk_at "evl"); intro vs s hv O))
  refine sp_l_nextX (X := ⟨d, oa, na⟩) (V := ⟨lr, lp, q3, [q1]⟩) (D := D0 codes a) (fo := fo) (Room.le hA (by decide)) hv hM (Sz.d0 hcl) (by show 1 ≤ 900; lia) (by lia) (by (((refine' Ow.got O ?g_522); (case g_522 => walk_at "got")))) fun D s hN hMd => ?_
  obtain ⟨V, I2, hS2, hM2, O⟩ := hMd
  have hS' := hS.trans hS2
  have O := O.fs (m' := [("buffer", rf R.B.b), ("machine", rf R.r), ("model", rf d)]) (FS.of (.cons rfl (.cons rfl (.cons rfl .nil))))
  exact law_loop (X := ⟨d, oa, na⟩) (V := V) (D := D) (dk := dk) (ls := ls) (M := M) (fo := fo) (tk := tk) (ck := ckn) hA hP (hR.sb hS') hM2 (hLay.sb hS') (init_inv hP ha hcl hcc h1 hN) hds (by (((refine' Ow.got O ?g_523); (case g_523 => walk_at "got"))))
set_option maxHeartbeats 1000000 in
/-- is_folded, start, buffer; insert; buffer.point; machine; then the rest -/
theorem law_made {c : Cx} {A : Around} {L fa dk ck oa na : Addr} {cd : Value} {I0 : Led} {s : Shared} {ol nw ds codes : List Int}
    (hA : Room 20 A) (hP : Par ol nw) (hI0o : (oa, isInts ol) ∈ I0) (hI0n : (na, isInts nw) ∈ I0) (hds : ds.length ≤ 50) (hcl : codes.length ≤ 10) (hcl2 : 2 ≤ codes.length) (hcc : ∀ x ∈ codes, x < 192)
    (O : Ow c (lawE L fa cd).locals [("codes", rf ck), ("old", rf oa), ("new", rf na)] ((dk, isInts ds) :: (L + 1, isC (rf dk)) :: (ck, isInts codes) :: []) I0 s) :
    wpAny c.M A (execs (lawT 3) (lawE L fa cd)) (fun f s' => f = .ret (.bool true) ∧ ∃ m Γ I, Ow c (lawE L fa cd).locals m Γ I s') (fun _ _ => False) s := by
  have hdeck := @lawE_deck L fa cd
  have hol := hP.l'
  have hnw := hP.n
  rw [lawT_3]
  conv in lawS 3 => whnf
  with_reducible refine st_seq ?_
  with_reducible refine ex_tupleS (names := ["is_folded", "start", "buffer"]) hA.handled ?_ ?_ ?_
  rotate_left 1
  · rfl
  · rfl
  with_reducible refine cn_tupleC ?_
  with_reducible refine wpAny_items_cons ?_ ?he1
  case he1 => rfl
  refine wpAny_Compare1 ?_ (by with_unfolding_all rfl)
  ((refine' cl_ref O ?f_524 ?k_524 ?a_524 ?_; (case f_524 => walk_at "name"); (case k_524 => (walk_at "keep")); (case a_524 => walk_at "evl"); intro vs s hv O))
  refine sp_l_draw (d := dk) (ds := ds) (k := 2) (Room.le hA (by decide)) hv (by decide) (by lia) (by (((refine' Ow.got O ?g_525); (case g_525 => walk_at "got")))) fun n5 ds5 v s hn50 hn51 hdds5 hv O => ?_
  obtain ⟨tn5, rfl⟩ := hv
  with_reducible refine pe_use pe_int O fun u s hu O => ?_
  refine cm_eq (a := n5) (b := 1) _ _ ⟨_, rfl⟩ hu _ _ _ O fun w s hw O => ?_
  with_reducible refine wpAny_items_cons ?_ ?he2
  case he2 => rfl
  ((refine' cl_ref O ?f_526 ?k_526 ?a_526 ?_; (case f_526 => walk_at "name"); (case k_526 => (walk_at "keep")); (case a_526 => walk_at "evl"); intro vs s hv O))
  refine sp_l_draw (d := dk) (ds := ds5) (k := 3) (Room.le hA (by decide)) hv (by decide) (by lia) (by (((refine' Ow.got O ?g_527); (case g_527 => walk_at "got")))) fun n6 ds6 v s hn60 hn61 hdds6 hv O => ?_
  obtain ⟨tn6, rfl⟩ := hv
  with_reducible refine wpAny_items_cons ?_ ?he3
  case he3 => rfl
  ((refine' cl_ref O ?f_528 ?k_528 ?a_528 ?_; (case f_528 => walk_at "name"); (case k_528 => (walk_at "keep")); (case a_528 => walk_at "evl"); intro vs s hv O))
  refine sp_Buffer (Room.le hA (by decide)) hv O fun B I1 s hS1 hB O => ?_
  with_reducible refine wpAny_items_nil ?_
  refine ⟨[bo (decide (n5 = 1)), .i n6, rf B.b], _, _, _, .cons hw (.cons ⟨_, rfl⟩ (.cons rfl .nil)), by exact Nat.le_of_ble_eq_true rfl, O, fun t s O => ?_⟩
  refine ⟨t, _, _, _, _, _, rfl, O, .inl (.head _), rfl, Binds.cons rfl rfl (Binds.cons rfl rfl (Binds.cons rfl rfl .nil)), fun s O => ?_⟩
  have O := O.drop
  obtain ⟨a, ha⟩ : ∃ a : Nat, n6 = (a : Int) := ⟨n6.toNat, by lia⟩
  obtain ⟨fo, hfo⟩ : ∃ fo : Bool, fo = decide (n5 = 1) := ⟨_, rfl⟩
  rw [← hfo] at O
  subst ha
  have hI1o := hS1 _ hI0o
  have hI1n := hS1 _ hI0n
  have hTX0 : TX 0 8 (List.replicate 8 0) [] := ⟨by decide, by decide, by decide, by decide⟩
  refine (show wpAny c.M A (execs (lawT 4) (lawE L fa cd)) _ _ s from ?_)
  have O := O.fs (m' := [("codes", rf ck), ("old", rf oa), ("new", rf na), ("is_folded", bo fo), ("start", .i (a : Nat)), ("buffer", rf B.b)]) (FS.of (.cons rfl (.cons rfl (.cons rfl (.cons rfl (.cons rfl (.cons rfl .nil)))))))
  rw [lawT_4]
  conv in lawS 4 => whnf
  refine st_expr ?_
  obtain ⟨g1, g2, g3, g4, g5, g6⟩ := id hB
  ((refine' cl_ref O ?f_529 ?k_529 ?a_529 ?_; (case f_529 => walk_at "name"); (case k_529 => (walk_at "keep")); (case a_529 => walk_at "evl"); intro vs s hv O))
  refine sp_insert (codes := codes) (text := []) (a := 0) (Room.le hA (by decide)) hv hB (by (((refine' Ow.got O ?g_530); (case g_530 => walk_at "got")))) (by walk_at "in2") hTX0 rfl (by decide) rfl (by decide) (by lia) fun gs ge xs pt tk ckn s hT O => ?_
  simp only [List.take_nil, List.drop_nil, List.nil_append, List.append_nil] at hT
  have hzv : (([] : List Int).length : Int) + 1 + ((codes.length : Nat) : Int) = (codes.length : Int) + 1 := by simp; lia
  rw [hzv] at O
  rw [lawT_5]
  conv in lawS 5 => whnf
  ((refine' st_attr O ?v_531 ?o_531 ?x_531 ?d_531 ?c_531 ?z_531 ?_; (case v_531 => walk_at "ev"); (case o_531 => walk_at "ev"); (case x_531 => (walk_at "in2")); (case d_531 => (walk_at "put")); (case c_531 => (walk_at "setF")); (case z_531 => exact Nat.le_of_ble_eq_true rfl); intro s O))
  rw [lawT_6]
  conv in lawS 6 => whnf
  refine st_letc ?_
  with_reducible refine cl_refC (fa := 263) O ?_ ?_ ?_ ?hc1 ?hc2
  case hc1 => rfl
  case hc2 => rfl
  · walk_at "name"
  · walk_at "keep"
  intro s O
  with_reducible refine wpAny_items_cons ?_ ?he1
  case he1 => rfl
  with_reducible refine pe_use (a := rf B.b) ?_ O fun v s hv1 O => ?_
  · walk_at "ev"
  cases hv1
  with_reducible refine wpAny_items_cons ?_ ?he2
  case he2 => rfl
  ((refine' cl_ref O ?f_532 ?k_532 ?a_532 ?_; (case f_532 => walk_at "name"); (case k_532 => (walk_at "keep")); (case a_532 => walk_at "evl"); intro vs s hv O))
  refine sp_Literal (Room.le hA (by decide)) hv O fun lt dl s O => ?_
  with_reducible refine wpAny_items_cons ?_ ?he3
  case he3 => rfl
  ((refine' cl_ref O ?f_533 ?k_533 ?a_533 ?_; (case f_533 => walk_at "name"); (case k_533 => (walk_at "keep")); (case a_533 => walk_at "evl"); intro vs s hv O))
  refine sp_Plain (Room.le hA (by decide)) hv O fun pl dp s O => ?_
  have O := Ow.frz (p := (lt, isI 612 dl)) O (by walk_at "pick")
  have O := Ow.frz (p := (dl, isF [("codes", rf oa), ("is_folded", bo fo)])) O (by walk_at "pick")
  have O := Ow.frz (p := (pl, isI 158 dp)) O (by walk_at "pick")
  have O := Ow.frz (p := (dp, isF [("codes", rf na)])) O (by walk_at "pick")
  with_reducible refine wpAny_items_cons ?_ ?he4
  case he4 => rfl
  with_reducible refine pe_use (a := .i (1 + (a : Nat))) ?_ O fun v4 s hv4 O => ?_
  · walk_at "ev"
  with_reducible refine wpAny_items_cons ?_ ?he5
  case he5 => rfl
  with_reducible refine pe_use (a := .i ((codes.length : Int) + 1)) ?_ O fun v5 s hv5 O => ?_
  · walk_at "ev"
  with_reducible refine wpAny_items_nil ?_
  refine ⟨c.kin.keeps O.keep, ?_⟩
  have hS2 : Sb I1 ((dp, isF [("codes", rf na)]) :: (pl, isI 158 dp) :: (dl, isF [("codes", rf oa), ("is_folded", bo fo)]) :: (lt, isI 612 dl) :: I1) := (((Sb.refl.cons).cons).cons).cons
  refine sp_ReplacingX (old := ol) (new := nw) (fo := fo) (f := lt) (df := dl) (cr := oa) (k := pl) (dk := dp) (cn := na) (text := codes) (a := a) (Room.le hA (by decide)) (.cons rfl (.cons rfl (.cons rfl (.cons hv4 (.cons hv5 .nil))))) (hB.sb hS2) ⟨by walk_at "mem", by walk_at "mem", hS2 _ hI1o⟩ (by walk_at "mem") (by walk_at "mem") (hS2 _ hI1n) (by (((refine' Ow.got O ?g_534); (case g_534 => walk_at "got")))) hT rfl rfl rfl (by lia) (by lia) hcc hP.o (by lia) fun R ls I2 s M0' hS3 hRB hR hM0 O => ?_
  refine st_store (a := rf R.r) O rfl fun s O => ?_
  have hLay : Lay I2 M0' gs ge xs [] := by
    rcases hM0 with ⟨p, hp, rfl⟩ | ⟨hp, rfl⟩
    · exact ⟨hT, .nil⟩
    · exact ⟨hT, .nil⟩
  subst hRB
  have O := O.fs (m' := [("codes", rf ck), ("old", rf oa), ("new", rf na), ("is_folded", bo fo), ("start", .i (a : Nat)), ("buffer", rf R.B.b), ("machine", rf R.r)]) (FS.of (.cons rfl (.cons rfl (.cons rfl (.cons rfl (.cons rfl (.cons rfl (.cons rfl .nil))))))))
  exact law_model (dk := dk) (ck := ck) (ls := ls) (tk := tk) (ckn := ckn) (gs := gs) (ge := ge) (xs := xs) (M := M0') (a := a) (codes := codes) hA hP hR hLay (hS3 _ (hS2 _ hI1o)) (hS3 _ (hS2 _ hI1n)) (show ds6.length ≤ 50 by lia) hcl (by lia) hcc hM0 (by (((refine' Ow.got O ?g_535); (case g_535 => walk_at "got"))))
set_option maxHeartbeats 1000000 in
/-- old, new; then the rest -/
theorem law_words {c : Cx} {A : Around} {L fa dk ck : Addr} {cd : Value} {s : Shared} {ds codes : List Int}
    (hA : Room 20 A) (hds : ds.length ≤ 50) (hcl : codes.length ≤ 10) (hcl2 : 2 ≤ codes.length) (hcc : ∀ x ∈ codes, x < 192)
    (O : Ow c (lawE L fa cd).locals [("codes", rf ck)] ((dk, isInts ds) :: (L + 1, isC (rf dk)) :: (ck, isInts codes) :: []) [] s) :
    wpAny c.M A (execs (lawT 2) (lawE L fa cd)) (fun f s' => f = .ret (.bool true) ∧ ∃ m Γ I, Ow c (lawE L fa cd).locals m Γ I s') (fun _ _ => False) s := by
  have hdeck := @lawE_deck L fa cd
  rw [lawT_2]
  conv in lawS 2 => whnf
  with_reducible refine st_seq ?_
  with_reducible refine ex_tupleS (names := ["old", "new"]) hA.handled ?_ ?_ ?_
  rotate_left 1
  · rfl
  · rfl
  with_reducible refine cn_tupleC ?_
  with_reducible refine wpAny_items_cons ?_ ?he1
  case he1 => rfl
  with_reducible refine Subscript_ ?_
  with_reducible refine List_ ?_
  with_reducible refine wpAny_items_cons ?_ ?he2
  case he2 => rfl
  with_reducible refine cn_ints (xs := [97]) O ?_ ?_ fun a1 s O => ?_
  · exact (.cons .nil)
  · exact Nat.le_of_ble_eq_true rfl
  with_reducible refine wpAny_items_cons ?_ ?he3
  case he3 => rfl
  with_reducible refine cn_ints (xs := [97, 98]) O ?_ ?_ fun a2 s O => ?_
  · exact (.cons (.cons .nil))
  · exact Nat.le_of_ble_eq_true rfl
  with_reducible refine wpAny_items_cons ?_ ?he4
  case he4 => rfl
  with_reducible refine cn_ints (xs := [98]) O ?_ ?_ fun a3 s O => ?_
  · exact (.cons .nil)
  · exact Nat.le_of_ble_eq_true rfl
  with_reducible refine wpAny_items_cons ?_ ?he5
  case he5 => rfl
  with_reducible refine cn_ints (xs := [65]) O ?_ ?_ fun a4 s O => ?_
  · exact (.cons .nil)
  · exact Nat.le_of_ble_eq_true rfl
  with_reducible refine wpAny_items_nil ?_
  have O := Ow.frz (p := (a1, isInts [97])) O (by walk_at "pick")
  have O := Ow.frz (p := (a2, isInts [97, 98])) O (by walk_at "pick")
  have O := Ow.frz (p := (a3, isInts [98])) O (by walk_at "pick")
  have O := Ow.frz (p := (a4, isInts [65])) O (by walk_at "pick")
  with_reducible refine cn_list (f := rf) (xs := [a1, a2, a3, a4]) O ?_ ?_ fun la s O => ?_
  · exact .cons rfl (.cons rfl (.cons rfl (.cons rfl .nil)))
  · exact Nat.le_of_ble_eq_true rfl
  ((refine' cl_ref O ?f_536 ?k_536 ?a_536 ?_; (case f_536 => walk_at "name"); (case k_536 => (walk_at "keep")); (case a_536 => walk_at "evl"); intro vs s hv O))
  refine sp_l_draw (d := dk) (ds := ds) (k := 4) (Room.le hA (by decide)) hv (by decide) (by lia) (by (((refine' Ow.got O ?g_537); (case g_537 => walk_at "got")))) fun n3 ds3 v s hn30 hn31 hdds3 hv O => ?_
  obtain ⟨tn3, rfl⟩ := hv
  obtain ⟨oa, ol, hoa, hoaI, hol⟩ : ∃ oa ol, [a1, a2, a3, a4][n3.toNat]? = some oa ∧ (oa, isInts ol) ∈ [(a4, isInts [65]), (a3, isInts [98]), (a2, isInts [97, 98]), (a1, isInts [97])] ∧ (1 ≤ ol.length ∧ ol.length ≤ 3 ∧ ∀ x ∈ ol, x < 192) := by
    have : n3 = 0 ∨ n3 = 1 ∨ n3 = 2 ∨ n3 = 3 := by lia
    rcases this with rfl | rfl | rfl | rfl
    · exact ⟨a1, [97], rfl, by walk_at "mem", by decide⟩
    · exact ⟨a2, [97, 98], rfl, by walk_at "mem", by decide⟩
    · exact ⟨a3, [98], rfl, by walk_at "mem", by decide⟩
    · exact ⟨a4, [65], rfl, by walk_at "mem", by decide⟩
  refine pu_item (f := rf) (xs := [a1, a2, a3, a4]) (k := n3) (x := oa) (by walk_at "in2") hn30 (by exact Nat.le_of_ble_eq_true rfl) hoa (hs := by intro _; with_unfolding_all rfl) _ _ _ O fun v s hv O => ?_
  cases hv
  with_reducible refine wpAny_items_cons ?_ ?he6
  case he6 => rfl
  with_reducible refine Subscript_ ?_
  with_reducible refine List_ ?_
  with_reducible refine wpAny_items_cons ?_ ?he7
  case he7 => rfl
  with_reducible refine cn_ints (xs := [97, 97]) O ?_ ?_ fun b1 s O => ?_
  · exact (.cons (.cons .nil))
  · exact Nat.le_of_ble_eq_true rfl
  with_reducible refine wpAny_items_cons ?_ ?he8
  case he8 => rfl
  with_reducible refine cn_ints (xs := [120]) O ?_ ?_ fun b2 s O => ?_
  · exact (.cons .nil)
  · exact Nat.le_of_ble_eq_true rfl
  with_reducible refine wpAny_items_cons ?_ ?he9
  case he9 => rfl
  with_reducible refine cn_ints (xs := []) O ?_ ?_ fun b3 s O => ?_
  · exact .nil
  · exact Nat.le_of_ble_eq_true rfl
  with_reducible refine wpAny_items_cons ?_ ?he10
  case he10 => rfl
  with_reducible refine cn_ints (xs := [98, 97, 98]) O ?_ ?_ fun b4 s O => ?_
  · exact (.cons (.cons (.cons .nil)))
  · exact Nat.le_of_ble_eq_true rfl
  with_reducible refine wpAny_items_nil ?_
  have O := Ow.frz (p := (b1, isInts [97, 97])) O (by walk_at "pick")
  have O := Ow.frz (p := (b2, isInts [120])) O (by walk_at "pick")
  have O := Ow.frz (p := (b3, isInts [])) O (by walk_at "pick")
  have O := Ow.frz (p := (b4, isInts [98, 97, 98])) O (by walk_at "pick")
  with_reducible refine cn_list (f := rf) (xs := [b1, b2, b3, b4]) O ?_ ?_ fun lb s O => ?_
  · exact .cons rfl (.cons rfl (.cons rfl (.cons rfl .nil)))
  · exact Nat.le_of_ble_eq_true rfl
  ((refine' cl_ref O ?f_538 ?k_538 ?a_538 ?_; (case f_538 => walk_at "name"); (case k_538 => (walk_at "keep")); (case a_538 => walk_at "evl"); intro vs s hv O))
  refine sp_l_draw (d := dk) (ds := ds3) (k := 4) (Room.le hA (by decide)) hv (by decide) (by lia) (by (((refine' Ow.got O ?g_539); (case g_539 => walk_at "got")))) fun n4 ds4 v s hn40 hn41 hdds4 hv O => ?_
  obtain ⟨tn4, rfl⟩ := hv
  obtain ⟨na, nw, hna, hnaI, hnw⟩ : ∃ na nw, [b1, b2, b3, b4][n4.toNat]? = some na ∧ (na, isInts nw) ∈ [(b4, isInts [98, 97, 98]), (b3, isInts []), (b2, isInts [120]), (b1, isInts [97, 97])] ∧ (nw.length ≤ 3 ∧ ∀ x ∈ nw, x < 192) := by
    have : n4 = 0 ∨ n4 = 1 ∨ n4 = 2 ∨ n4 = 3 := by lia
    rcases this with rfl | rfl | rfl | rfl
    · exact ⟨b1, [97, 97], rfl, by walk_at "mem", by decide⟩
    · exact ⟨b2, [120], rfl, by walk_at "mem", by decide⟩
    · exact ⟨b3, [], rfl, by walk_at "mem", by decide⟩
    · exact ⟨b4, [98, 97, 98], rfl, by walk_at "mem", by decide⟩
  refine pu_item (f := rf) (xs := [b1, b2, b3, b4]) (k := n4) (x := na) (by walk_at "in2") hn40 (by exact Nat.le_of_ble_eq_true rfl) hna (hs := by intro _; with_unfolding_all rfl) _ _ _ O fun v s hv O => ?_
  cases hv
  have hP : Par ol nw := ⟨hol.1, hol.2.1, hnw.1, hol.2.2, hnw.2⟩
  with_reducible refine wpAny_items_nil ?_
  refine ⟨[rf oa, rf na], _, _, _, .cons rfl (.cons rfl .nil), by exact Nat.le_of_ble_eq_true rfl, O, fun t s O => ?_⟩
  refine ⟨t, _, _, _, _, _, rfl, O, .inl (.head _), rfl, Binds.cons rfl rfl (Binds.cons rfl rfl .nil), fun s O => ?_⟩
  refine (show wpAny c.M A (execs (lawT 3) (lawE L fa cd)) _ _ s from ?_)
  have hoI' : (oa, isInts ol) ∈ [(b4, isInts [98, 97, 98]), (b3, isInts []), (b2, isInts [120]), (b1, isInts [97, 97])] ++ [(a4, isInts [65]), (a3, isInts [98]), (a2, isInts [97, 98]), (a1, isInts [97])] := List.mem_append_right _ hoaI
  have hnI' : (na, isInts nw) ∈ [(b4, isInts [98, 97, 98]), (b3, isInts []), (b2, isInts [120]), (b1, isInts [97, 97])] ++ [(a4, isInts [65]), (a3, isInts [98]), (a2, isInts [97, 98]), (a1, isInts [97])] := List.mem_append_left _ hnaI
  have O := O.fs (m' := [("codes", rf ck), ("old", rf oa), ("new", rf na)]) (FS.of (.cons rfl (.cons rfl (.cons rfl .nil))))
  exact law_made (dk := dk) (ck := ck) (oa := oa) (na := na) hA hP hoI' hnI' (show ds4.length ≤ 50 by lia) hcl hcl2 hcc (by (((refine' Ow.got O ?g_540); (case g_540 => walk_at "got"))))
set_option maxHeartbeats 1000000 in
/-- the whole body -/
theorem law_all {c : Cx} {A : Around} {L fa sc : Addr} {cd : Value} {s : Shared} {vs : List Value} {ns : List Int} (hA : Room 20 A) (hLG : c.G.IsList sc vs.toArray) (hI : IntsAre vs ns) (hlen : ns.length ≤ 1000)
    (O : Ow c (lawE L fa cd).locals [("script", rf sc)] [(L + 1, isC0)] [] s) :
    wpAny c.M A (execs (lawT 0) (lawE L fa cd)) (fun f s' => f = .ret (.bool true) ∧ ∃ m Γ I, Ow c (lawE L fa cd).locals m Γ I s') (fun _ _ => False) s := by
  have hdeck := @lawE_deck L fa cd
  rw [lawT_0]
  conv in lawS 0 => whnf
  refine st_letc (cp_list (cn_sliceG O (by walk_at "ev") (pp_some pe_int rfl) hLG hI (by lia) fun l0 s O => ?_) rfl rfl (by decide))
  refine cn_iterL (f := AV.i) (xs := ns.take 50) O (by walk_at "in2") fun it s hne O => ?_
  refine cp_core (g := AV.i) (fun C => itr_list (f := AV.i) (xs := ns.take 50) (x := "cell") hA.handled hne rfl rfl) (fun i acc Γ' I' => acc.length = i ∧ Γ' = _ ∧ I' = []) ?_ (by unfold lim; simp; lia) ?_ (by decide) rfl O ⟨rfl, rfl, rfl⟩ ?_ ?_
  · rintro i acc Γ' I' ⟨-, rfl, rfl⟩; walk_at "in2"
  · rintro i acc Γ' I' ⟨rfl, -, -⟩; exact Nat.le_refl _
  · rintro C Dl i acc Γ' I' s hi ⟨hl, rfl, rfl⟩ O
    have hx : (ns.take 50)[i]? = some (ns.take 50)[i] := List.getElem?_eq_getElem hi
    simp only [hx, LIt, List.cons_append, List.nil_append] at O
    refine pe_use (pe_bi (as := [.i (ns.take 50)[i]]) (by walk_at "name") (by walk_at "evl") ci_abs) O fun v s hv O => ?_
    exact ⟨_, _, _, _, hv, ⟨by rw [List.length_append, hl]; rfl, rfl, rfl⟩, O⟩
  rintro C m' dk ds Γ' I' s ⟨hds, rfl, rfl⟩ O
  refine cp_end O fun s O => ?_
  have hds : ds.length ≤ 50 := by rw [hds, List.length_take]; lia
  refine st_storeC (a := rf dk) O rfl (by rfl) (by walk_at "put") fun s O => ?_
  rw [lawT_1]
  conv in lawS 1 => whnf
  refine st_comp (cl_tyC O (by walk_at "name") fun s O => ?_) (cl := [(("deck" : Str), _)]) rfl rfl (by decide)
  with_reducible refine wpAny_items_cons ?_ ?he1
  case he1 => rfl
  with_reducible refine wpAny_BinOp ?_
  with_reducible refine pe_use pe_int O fun v s hv O => ?_
  obtain ⟨t0, rfl⟩ := hv
  ((refine' cl_ref O ?f_541 ?k_541 ?a_541 ?_; (case f_541 => walk_at "name"); (case k_541 => (walk_at "keep")); (case a_541 => walk_at "evl"); intro vs s hv O))
  refine sp_l_draw (d := dk) (ds := ds) (k := 9) (Room.le hA (by decide)) hv (by decide) (by lia) (by (((refine' Ow.got O ?g_542); (case g_542 => walk_at "got")))) fun n1 ds1 v s hn10 hn11 hdds1 hv O => ?_
  obtain ⟨tn1, rfl⟩ := hv
  refine P.add_int (wpAny_items_nil ?_)
  refine call_range_1 (cn_range (a := 0) (b := 2 + n1) (O.tok) ⟨by lia, by lia⟩ ⟨by lia, by lia⟩ ⟨_, _, _, rfl, rfl⟩ fun it s O => ?_)
  refine cp_core (g := AV.i) (fun C => itr_range (x := "turn") hA.handled rfl rfl) (fun i acc Γ' I' => acc.length = i ∧ (∀ x ∈ acc, x = 97 ∨ x = 98 ∨ x = 65 ∨ x = 99) ∧ (∃ ds', ds'.length ≤ 50 ∧ Γ' = (dk, isInts ds') :: _) ∧ I' = []) (fun _ _ _ _ _ => trivial) (by unfold lim; lia) ?_ (by decide) rfl O ⟨rfl, (fun x hx => by cases hx), ⟨ds1, by lia, rfl⟩, rfl⟩ ?_ ?_
  · rintro i acc Γ' I' ⟨rfl, -, -, -⟩; exact Nat.le_refl _
  · rintro C Dl i acc Γ' I' s hi ⟨hl, hacc, ⟨ds', hds', rfl⟩, rfl⟩ O
    simp only [RIt, List.cons_append, List.nil_append] at O
    refine Subscript_ ?_
    refine cn_ints (xs := [97, 98, 65, 99]) O ?_ ?_ fun l s O => ?_
    · exact .cons (.cons (.cons (.cons .nil)))
    · exact Nat.le_of_ble_eq_true rfl
    ((refine' cl_ref O ?f_543 ?k_543 ?a_543 ?_; (case f_543 => walk_at "name"); (case k_543 => (walk_at "keep")); (case a_543 => walk_at "evl"); intro vs s hv O))
    refine sp_l_draw (d := dk) (ds := ds') (k := 4) (Room.le hA (by decide)) hv (by decide) (by lia) (by (((refine' Ow.got O ?g_544); (case g_544 => walk_at "got")))) fun n2 ds2 v s hn20 hn21 hdds2 hv O => ?_
    obtain ⟨tn2, rfl⟩ := hv
    obtain ⟨x, hx, hx'⟩ : ∃ x : Int, [97, 98, 65, 99][n2.toNat]? = some x ∧ (x = 97 ∨ x = 98 ∨ x = 65 ∨ x = 99) := by
      have : n2 = 0 ∨ n2 = 1 ∨ n2 = 2 ∨ n2 = 3 := by lia
      rcases this with rfl | rfl | rfl | rfl <;> exact ⟨_, rfl, by decide⟩
    refine pu_item (f := AV.i) (xs := [97, 98, 65, 99]) (k := n2) (x := x) (by walk_at "in2") hn20 (by decide) hx (hs := by intro _; with_unfolding_all rfl) _ _ _ O fun v s hv O => ?_
    refine ⟨x, _, (dk, isInts ds2) :: _, _, hv, ⟨by rw [List.length_append, hl]; rfl, fun y hy => ?_, ⟨ds2, by lia, rfl⟩, rfl⟩, (by simp only [RIt, List.cons_append, List.nil_append]; (((refine' Ow.got O ?g_545); (case g_545 => walk_at "got"))))⟩
    rcases List.mem_append.mp hy with hy | hy
    · exact hacc y hy
    · simp at hy; subst hy; exact hx'
  rintro C m' ck codes Γ' I' s ⟨hcl, hcs, ⟨ds', hds', rfl⟩, rfl⟩ O
  refine cp_endS O fun s O => ?_
  have hcl : codes.length ≤ 10 ∧ 2 ≤ codes.length := by lia
  have hcc : ∀ x ∈ codes, x < 192 := fun x hx => by rcases hcs x hx with rfl | rfl | rfl | rfl <;> decide
  have O := O.fs (m' := [("codes", rf ck)]) (FS.of (.cons rfl .nil))
  with_reducible refine law_words (dk := dk) (ck := ck) (ds := ds') (codes := codes) hA hds' hcl.1 hcl.2 hcc ?_
  (((refine' Ow.got O ?g_546); (case g_546 => walk_at "got")))
namespace zz
theorem tw17253644210915248768 : True := trivial
theorem tw17697786664549523330 : True := trivial
theorem tw8356403667590141757 : True := trivial
theorem tw14996726105943131632 : True := trivial
theorem tw13136056712844775694 : True := trivial
theorem tw5121945645446143518 : True := trivial
theorem tw10777697075642309840 : True := trivial
theorem tw17683196887168150504 : True := trivial
theorem tw9110761770074129810 : True := trivial
theorem tw1355695690555561513 : True := trivial
theorem tw12202171123715744886 : True := trivial
theorem tw13975875969436421500 : True := trivial
theorem tw10310817795259056719 : True := trivial
theorem tw322965443582871587 : True := trivial
theorem tw11974698159611110568 : True := trivial
theorem tw3431975242954851566 : True := trivial
theorem tw2572349511562027076 : True := trivial
theorem tw15129745592818071457 : True := trivial
theorem tw15482185240942695488 : True := trivial
theorem tw11237688099174397605 : True := trivial
theorem tw12390181827809881022 : True := trivial
theorem tw5074372737703669391 : True := trivial
theorem tw10107451356024990543 : True := trivial
theorem tw6905704798382653389 : True := trivial
theorem tw7654802660976472723 : True := trivial
theorem tw5993648844150430651 : True := trivial
theorem tw16251187700747696428 : True := trivial
theorem tw2859343132683692618 : True := trivial
theorem tw3145904967638839519 : True := trivial
theorem tw16557062061961650845 : True := trivial
theorem tw4542211970428154419 : True := trivial
theorem tw17312703386597950263 : True := trivial
theorem tw10048236218575441313 : True := trivial
theorem tw548325073362506374 : True := trivial
theorem tw15250001780029513770 : True := trivial
theorem tw9651394756163235522 : True := trivial
theorem tw17833249948860222727 : True := trivial
theorem tw961615969564647585 : True := trivial
theorem tw5793094321547151591 : True := trivial
theorem tw11461836395334169930 : True := trivial
theorem tw11487318066002226123 : True := trivial
theorem tw17621464009762543546 : True := trivial
theorem tw13873119784787560550 : True := trivial
theorem tw18038149258852250468 : True := trivial
theorem tw10932087362356949568 : True := trivial
theorem tw13597504735879784007 : True := trivial
theorem tw2086324612880070949 : True := trivial
theorem tw2545528686561657413 : True := trivial
theorem tw2288200909478278530 : True := trivial
theorem tw9734642956603916587 : True := trivial
theorem tw11978276105777942872 : True := trivial
theorem tw14025185240725926387 : True := trivial
theorem tw7602153754288279970 : True := trivial
theorem tw626238215848925491 : True := trivial
theorem tw3327587149543012952 : True := trivial
theorem tw5435132962112048829 : True := trivial
theorem tw13410679119039829971 : True := trivial
theorem tw6542208850825262481 : True := trivial
theorem tw424258586035502130 : True := trivial
theorem tw7539973971775196885 : True := trivial
theorem tw17747286338765181575 : True := trivial
theorem tw14831292214064350090 : True := trivial
theorem tw7544314677400287124 : True := trivial
theorem tw15951606945676555868 : True := trivial
theorem tw8315874628029780828 : True := trivial
theorem tw6984539235760961059 : True := trivial
theorem tw5299541697741737422 : True := trivial
theorem tw16445198974637753338 : True := trivial
theorem tw1825135030909719777 : True := trivial
theorem tw16208728258422949609 : True := trivial
theorem tw12303089164971057420 : True := trivial
theorem tw8786538746293637448 : True := trivial
theorem tw7857674054334180485 : True := trivial
theorem tw11798069825789773029 : True := trivial
theorem tw6247340966703392361 : True := trivial
theorem tw6911254849273880860 : True := trivial
theorem tw8822338847704712471 : True := trivial
theorem tw7510200506237735879 : True := trivial
theorem tw9391973786146698543 : True := trivial
theorem tw9468714922659454439 : True := trivial
theorem tw17380318379191748801 : True := trivial
theorem tw3358834681942698602 : True := trivial
theorem tw3284840176535363735 : True := trivial
theorem tw7164068372890847405 : True := trivial
theorem tw12422059344280070935 : True := trivial
theorem tw6506934442519081175 : True := trivial
theorem tw9529773180140391141 : True := trivial
theorem tw13301334982611893642 : True := trivial
theorem tw15378789137142896602 : True := trivial
theorem tw11283634308937888720 : True := trivial
theorem tw12435794833397849321 : True := trivial
theorem tw4169763283638626438 : True := trivial
theorem tw13992610965385357964 : True := trivial
theorem tw2452335895864285273 : True := trivial
theorem tw13139286529832306719 : True := trivial
theorem tw6475150954865204418 : True := trivial
theorem tw17925562283706150521 : True := trivial
theorem tw11635528647733448701 : True := trivial
theorem tw5948101605874707921 : True := trivial
theorem tw3975316942958352755 : True := trivial
theorem tw13355611014706023571 : True := trivial
theorem tw16648590739961071530 : True := trivial
theorem tw15622622575775859592 : True := trivial
theorem tw1605942649621910632 : True := trivial
theorem tw1041340966332819445 : True := trivial
theorem tw14898211756816051949 : True := trivial
theorem tw18414284860144453787 : True := trivial
theorem tw8649963243053200897 : True := trivial
theorem tw875116520855041144 : True := trivial
theorem tw9818468335087298949 : True := trivial
theorem tw18242034866331357201 : True := trivial
theorem tw8897498938947020792 : True := trivial
theorem tw14392027000196653779 : True := trivial
theorem tw16450967085443146805 : True := trivial
theorem tw10809586592297164975 : True := trivial
theorem tw15177339995765381211 : True := trivial
theorem tw9426609979484389615 : True := trivial
theorem tw5915245367201379691 : True := trivial
theorem tw12144651808559171917 : True := trivial
theorem tw11812411616382056527 : True := trivial
theorem tw5213596188213383658 : True := trivial
theorem tw16168877746824170510 : True := trivial
theorem tw15472154877596722186 : True := trivial
theorem tw14863853671430425537 : True := trivial
theorem tw13509298643978222472 : True := trivial
theorem tw15359077455362896777 : True := trivial
theorem tw17210661932956072783 : True := trivial
theorem tw5395680968056016810 : True := trivial
theorem tw15448816679937881946 : True := trivial
theorem tw4112959889734166381 : True := trivial
theorem tw15064762947769563717 : True := trivial
theorem tw13242412566108766680 : True := trivial
theorem tw12459062611859778462 : True := trivial
theorem tw2694308758064705459 : True := trivial
theorem tw1806540718966349728 : True := trivial
theorem tw15918639664550201194 : True := trivial
theorem tw8381008666500944124 : True := trivial
theorem tw9856943302532924353 : True := trivial
theorem tw1591198805233540749 : True := trivial
theorem tw17399203031603158592 : True := trivial
theorem tw8701475296413570165 : True := trivial
theorem tw3738935642379378036 : True := trivial
theorem tw1820953477935421885 : True := trivial
theorem tw11993661278082946883 : True := trivial
theorem tw7181296492265890287 : True := trivial
theorem tw5817790617621327292 : True := trivial
theorem tw11187954146071913241 : True := trivial
theorem tw8698427321178995369 : True := trivial
theorem tw15485643769321271455 : True := trivial
theorem tw6288442930600592981 : True := trivial
theorem tw13681384352430319504 : True := trivial
theorem tw17567098125557654798 : True := trivial
theorem tw6498692935836665918 : True := trivial
theorem tw16699789113869046722 : True := trivial
theorem tw8459775485014024860 : True := trivial
theorem tw3601334221810332520 : True := trivial
theorem tw1058323812938930896 : True := trivial
theorem tw14241645913182501040 : True := trivial
theorem tw6233953278429723912 : True := trivial
theorem tw11485806484895411055 : True := trivial
theorem tw10073436106681156878 : True := trivial
theorem tw14647326520462716980 : True := trivial
theorem tw2441653532041427192 : True := trivial
theorem tw6841086443307329193 : True := trivial
theorem tw1790010774732862504 : True := trivial
theorem tw13756235360840713932 : True := trivial
theorem tw16076162995581670060 : True := trivial
theorem tw15450179744777187756 : True := trivial
theorem tw12382876066426967633 : True := trivial
theorem tw10157110654634363650 : True := trivial
theorem tw834737846680998192 : True := trivial
theorem tw17551036180447508871 : True := trivial
theorem tw3023554036802456848 : True := trivial
theorem tw1271114402520459251 : True := trivial
theorem tw8653938449599782918 : True := trivial
theorem tw17488142821190306022 : True := trivial
theorem tw11210266741500944389 : True := trivial
theorem tw18143140388744303988 : True := trivial
theorem tw43099327767764135 : True := trivial
theorem tw3798848596891319335 : True := trivial
theorem tw13166836944173942344 : True := trivial
theorem tw15911067217642280368 : True := trivial
theorem tw8369682300259273089 : True := trivial
theorem tw12965027708694593727 : True := trivial
theorem tw1865495783753705192 : True := trivial
theorem tw8304455478538168917 : True := trivial
theorem tw6916472480104606123 : True := trivial
theorem tw8842806822617445358 : True := trivial
theorem tw14215406761428334664 : True := trivial
theorem tw15104210978415086203 : True := trivial
theorem tw1127746374539578098 : True := trivial
theorem tw2156787770910980436 : True := trivial
theorem tw7861372682917766852 : True := trivial
theorem tw2332636806782337360 : True := trivial
theorem tw9593149866126483569 : True := trivial
theorem tw13743746638275942035 : True := trivial
theorem tw8123623956534717905 : True := trivial
theorem tw4333348082607334198 : True := trivial
theorem tw8869907993859277061 : True := trivial
theorem tw5930529967960719929 : True := trivial
theorem tw16647781397039213604 : True := trivial
theorem tw3128724346697911193 : True := trivial
theorem tw13825860348505486548 : True := trivial
theorem tw10044127132342457796 : True := trivial
theorem tw13685501507502964710 : True := trivial
theorem tw831142186755163438 : True := trivial
theorem tw14791968814378404692 : True := trivial
theorem tw4164830415145613570 : True := trivial
theorem tw105569615590809315 : True := trivial
theorem tw9802008776073212873 : True := trivial
theorem tw2770906907298207325 : True := trivial
theorem tw5238273697137443015 : True := trivial
theorem tw9580216006164792146 : True := trivial
theorem tw12564903658804750785 : True := trivial
theorem tw8162883850536355726 : True := trivial
theorem tw15202354394579270903 : True := trivial
theorem tw14586468129562947 : True := trivial
theorem tw8494738205390921638 : True := trivial
theorem tw3737363158550140443 : True := trivial
theorem tw4375521830360315831 : True := trivial
theorem tw13909587064424489225 : True := trivial
theorem tw3558045805787929448 : True := trivial
theorem tw14924061847897528524 : True := trivial
theorem tw18346864682382008203 : True := trivial
theorem tw8624251298159049820 : True := trivial
theorem tw1031795718602249932 : True := trivial
theorem tw14071203923056642636 : True := trivial
theorem tw2516702126229897183 : True := trivial
theorem tw16233086758088828826 : True := trivial
theorem tw5727940534430395487 : True := trivial
theorem tw9289402453734812463 : True := trivial
theorem tw17287222736072874678 : True := trivial
theorem tw13667951985343066889 : True := trivial
theorem tw11678838095821338661 : True := trivial
theorem tw8216506109340382042 : True := trivial
theorem tw1256311142743769459 : True := trivial
theorem tw8837917440347155456 : True := trivial
theorem tw9100735459927410408 : True := trivial
theorem tw1782470410677087537 : True := trivial
theorem tw11838846568203528656 : True := trivial
theorem tw7402754139407309578 : True := trivial
theorem tw13508100943065069045 : True := trivial
theorem tw4733420360088740872 : True := trivial
theorem tw4947918541879513835 : True := trivial
theorem tw12223400299958665458 : True := trivial
theorem tw11400909732512387548 : True := trivial
theorem tw12597386515120798533 : True := trivial
theorem tw5750208296451946394 : True := trivial
theorem tw13118349895415219437 : True := trivial
theorem tw3308168508721419702 : True := trivial
theorem tw3219067839656595722 : True := trivial
theorem tw9255212760538484061 : True := trivial
theorem tw15644613132440466186 : True := trivial
theorem tw18047081245547825590 : True := trivial
theorem tw10187889673238816427 : True := trivial
theorem tw6621699532824577052 : True := trivial
theorem tw11386763418135242426 : True := trivial
theorem tw12011876591722065259 : True := trivial
theorem tw4886887238279424046 : True := trivial
theorem tw10506210477697770833 : True := trivial
theorem tw293410214074925883 : True := trivial
theorem tw2112482189154658331 : True := trivial
theorem tw12267355007290628423 : True := trivial
theorem tw17086610384130146420 : True := trivial
theorem tw11624356333798550534 : True := trivial
theorem tw10946816900896990114 : True := trivial
theorem tw7730855734751109343 : True := trivial
theorem tw16481151349384847683 : True := trivial
theorem tw649702503969272904 : True := trivial
theorem tw11444420243452388180 : True := trivial
theorem tw12765573834524471805 : True := trivial
theorem tw2938526449502129118 : True := trivial
theorem tw2222426982911249361 : True := trivial
theorem tw2495329666699680963 : True := trivial
theorem tw11939011854412739154 : True := trivial
theorem tw9569449913209469682 : True := trivial
theorem tw12987828135550321165 : True := trivial
theorem tw16211834550601003134 : True := trivial
theorem tw17231942988237817501 : True := trivial
theorem tw9391536086358091252 : True := trivial
theorem tw3970280183996724589 : True := trivial
theorem tw8936589749791000942 : True := trivial
theorem tw1125566574183683888 : True := trivial
theorem tw3194215557131579165 : True := trivial
theorem tw14149974846178833572 : True := trivial
theorem tw2538263558750887801 : True := trivial
theorem tw3311024063359453719 : True := trivial
theorem tw6889210850858357202 : True := trivial
theorem tw12320664578943331838 : True := trivial
theorem tw1118690840965267684 : True := trivial
theorem tw3255040134657608310 : True := trivial
theorem tw589071132453265415 : True := trivial
theorem tw2764668916863068354 : True := trivial
theorem tw3521454101644630265 : True := trivial
theorem tw13169832434244242144 : True := trivial
theorem tw6709496057096326042 : True := trivial
theorem tw11884143135269188925 : True := trivial
theorem tw2200396190622280691 : True := trivial
theorem tw12920282916429422087 : True := trivial
theorem tw18086505771145053488 : True := trivial
theorem tw1916992254171893577 : True := trivial
theorem tw8018584703069469816 : True := trivial
theorem tw12855744933160660557 : True := trivial
theorem tw7443687662250836142 : True := trivial
theorem tw16793616620151916257 : True := trivial
theorem tw3701054612676178783 : True := trivial
theorem tw1102689080481043816 : True := trivial
theorem tw15111041694028922217 : True := trivial
theorem tw15863215702398401929 : True := trivial
theorem tw11838470189993109498 : True := trivial
theorem tw14073835541845628808 : True := trivial
theorem tw7790599864133715003 : True := trivial
theorem tw16801279384004546719 : True := trivial
theorem tw1575813413958860229 : True := trivial
theorem tw4071543321573470531 : True := trivial
theorem tw6107374909715786424 : True := trivial
theorem tw2582317072127641792 : True := trivial
theorem tw13658676445676356220 : True := trivial
theorem tw11055101257316479991 : True := trivial
theorem tw889404524519925354 : True := trivial
theorem tw9062349795135694980 : True := trivial
theorem tw12779662714382031616 : True := trivial
theorem tw16579207133281762195 : True := trivial
theorem tw3488297406165366579 : True := trivial
theorem tw16509736875254169438 : True := trivial
theorem tw9609253115796136070 : True := trivial
theorem tw11953767351230669064 : True := trivial
theorem tw13367676276520581880 : True := trivial
theorem tw10209382811164786509 : True := trivial
theorem tw3652128667255087831 : True := trivial
theorem tw382102787865791760 : True := trivial
theorem tw13981232075633831004 : True := trivial
theorem tw2103878482565835734 : True := trivial
theorem tw2215556087405645124 : True := trivial
theorem tw7335865258193399739 : True := trivial
theorem tw10501803816390537893 : True := trivial
theorem tw17426216621729988214 : True := trivial
theorem tw14996278765911732871 : True := trivial
theorem tw15668682373298702378 : True := trivial
theorem tw4993568989188313885 : True := trivial
theorem tw15945802869415557461 : True := trivial
theorem tw17007395236091899466 : True := trivial
theorem tw10536555055975146980 : True := trivial
theorem tw5187297253197028988 : True := trivial
theorem tw3200594017919404293 : True := trivial
theorem tw18209857311693926900 : True := trivial
theorem tw1235581200865078594 : True := trivial
theorem tw17324296530856376244 : True := trivial
theorem tw16761060254879712514 : True := trivial
theorem tw9562010957888743453 : True := trivial
theorem tw18304217285884710326 : True := trivial
theorem tw1071156920717880852 : True := trivial
theorem tw16845063755493517458 : True := trivial
theorem tw17055159469267437526 : True := trivial
theorem tw863561284114592080 : True := trivial
theorem tw16706548898113715873 : True := trivial
theorem tw5406021287479467465 : True := trivial
theorem tw18366807225007179748 : True := trivial
theorem tw15675652441418109011 : True := trivial
theorem tw16135706517321230194 : True := trivial
theorem tw13281157093332852582 : True := trivial
theorem tw3885755008364888294 : True := trivial
theorem tw11871382381346656869 : True := trivial
theorem tw15611242907823303026 : True := trivial
theorem tw17353568081225711945 : True := trivial
theorem tw623286791640902655 : True := trivial
theorem tw2731022138677407101 : True := trivial
theorem tw4862559873677765216 : True := trivial
theorem tw15467700819787589781 : True := trivial
theorem tw5020846433385340905 : True := trivial
theorem tw6841688637156234745 : True := trivial
theorem tw4502879272626160472 : True := trivial
theorem tw6237421226150778857 : True := trivial
theorem tw1257476949967561213 : True := trivial
theorem tw2019526172636949573 : True := trivial
theorem tw1832597655107679495 : True := trivial
theorem tw3021018522284582274 : True := trivial
theorem tw11499502966681580746 : True := trivial
theorem tw873043283949037945 : True := trivial
theorem tw14602981957361347662 : True := trivial
theorem tw14705338461814308465 : True := trivial
theorem tw1501150924850006239 : True := trivial
theorem tw16674817364226802055 : True := trivial
theorem tw12011253051594113994 : True := trivial
theorem tw1085928769847562378 : True := trivial
theorem tw11252859809418898554 : True := trivial
theorem tw909990204754314478 : True := trivial
theorem tw979710731182703023 : True := trivial
theorem tw6571971515203078505 : True := trivial
theorem tw4668814759688016523 : True := trivial
theorem tw5445411853583793296 : True := trivial
theorem tw17138967758201093446 : True := trivial
theorem tw12460990019478032011 : True := trivial
theorem tw10140993175964895921 : True := trivial
theorem tw11945316113325905349 : True := trivial
theorem tw11648662718800909010 : True := trivial
theorem tw4170850210917175595 : True := trivial
theorem tw6997758905503988802 : True := trivial
theorem tw1464842859440865673 : True := trivial
theorem tw2133007771222635784 : True := trivial
theorem tw1261599339611245050 : True := trivial
theorem tw4804343504963403333 : True := trivial
theorem tw2582023268121078058 : True := trivial
theorem tw2626032219423644807 : True := trivial
theorem tw7888720729778563343 : True := trivial
theorem tw2034102160711310998 : True := trivial
theorem tw12128046541699092723 : True := trivial
theorem tw3393997366019411332 : True := trivial
theorem tw3146832567955600623 : True := trivial
theorem tw2888364161238890347 : True := trivial
theorem tw6993961016579265048 : True := trivial
theorem tw5675505299686944943 : True := trivial
theorem tw3522931968397135675 : True := trivial
theorem tw9672116292865177270 : True := trivial
theorem tw14962938882074782249 : True := trivial
theorem tw10197921083812343373 : True := trivial
theorem tw15532326596128093607 : True := trivial
theorem tw14757121982459614725 : True := trivial
theorem tw6257439962307347866 : True := trivial
theorem tw9439942950054995212 : True := trivial
theorem tw7028920627556560394 : True := trivial
theorem tw18256015373427534309 : True := trivial
theorem tw8582962956311344587 : True := trivial
theorem tw708242913621656173 : True := trivial
theorem tw7214508863812373192 : True := trivial
theorem tw14149798996409330601 : True := trivial
theorem tw15218966565117809695 : True := trivial
theorem tw7428607171803673067 : True := trivial
theorem tw2548689155370661359 : True := trivial
theorem tw4648159580714623844 : True := trivial
theorem tw11513474554471303839 : True := trivial
theorem tw11004611611780865987 : True := trivial
theorem tw12983618194655107878 : True := trivial
theorem tw17603710461987538627 : True := trivial
theorem tw1251965239946902430 : True := trivial
theorem tw208277388231208126 : True := trivial
theorem tw12200337329531996103 : True := trivial
theorem tw2381912500132300812 : True := trivial
theorem tw12651516669248173792 : True := trivial
theorem tw7868517280502440320 : True := trivial
theorem tw3912640166358103829 : True := trivial
theorem tw18088064897280956840 : True := trivial
theorem tw14085412753042221874 : True := trivial
theorem tw11696155203662485510 : True := trivial
theorem tw11367314872533632085 : True := trivial
theorem tw8741502604897821170 : True := trivial
theorem tw12721675049492596555 : True := trivial
theorem tw14307251937979168206 : True := trivial
theorem tw3241221316780535362 : True := trivial
theorem tw16983431692971543096 : True := trivial
theorem tw14647100539956043667 : True := trivial
theorem tw17020721998277818329 : True := trivial
theorem tw18249490459078268295 : True := trivial
theorem tw17013280056290299 : True := trivial
theorem tw9247244247336424385 : True := trivial
theorem tw12058470842134509431 : True := trivial
theorem tw7867064897797044991 : True := trivial
theorem tw13797339991664451861 : True := trivial
theorem tw12184239678301975679 : True := trivial
theorem tw6917040963346073493 : True := trivial
theorem tw11900855404113582050 : True := trivial
theorem tw16045321187914535838 : True := trivial
theorem tw7981988513101459411 : True := trivial
theorem tw618220466928117289 : True := trivial
theorem tw665354460042794622 : True := trivial
theorem tw5232923685095448596 : True := trivial
theorem tw4406607495928372411 : True := trivial
theorem tw7911830400851026137 : True := trivial
theorem tw17196030334626998438 : True := trivial
theorem tw15956687618632498443 : True := trivial
theorem tw16193925019310129574 : True := trivial
theorem tw17298353066674494704 : True := trivial
theorem tw16637444997854461979 : True := trivial
theorem tw2423912051354149430 : True := trivial
theorem tw5726257642249291402 : True := trivial
theorem tw4807829393237119715 : True := trivial
theorem tw6058061772617492621 : True := trivial
theorem tw9812168131980893418 : True := trivial
theorem tw5336882484951313674 : True := trivial
theorem tw8247887056533422430 : True := trivial
theorem tw6369577468729263395 : True := trivial
theorem tw9148254577191034028 : True := trivial
theorem tw9843126082263627599 : True := trivial
theorem tw18021121670962596808 : True := trivial
theorem tw13322104451900927360 : True := trivial
theorem tw4170167440324092856 : True := trivial
theorem tw16163603132143778317 : True := trivial
theorem tw14681868459870844391 : True := trivial
theorem tw6353231490721669375 : True := trivial
theorem tw907477663382384822 : True := trivial
theorem tw12621348200664096249 : True := trivial
theorem tw13217161258085638335 : True := trivial
theorem tw10563326860716767859 : True := trivial
theorem tw15829444126958896895 : True := trivial
theorem tw4035111965305426875 : True := trivial
theorem tw2410072542645433407 : True := trivial
theorem tw17876227805361872795 : True := trivial
theorem tw14733580602097845280 : True := trivial
theorem tw10916095871163525689 : True := trivial
theorem tw9582424967446536737 : True := trivial
theorem tw1681166527703288461 : True := trivial
theorem tw13847646725316410437 : True := trivial
theorem tw6153398751828772068 : True := trivial
theorem tw1589725245963953220 : True := trivial
theorem tw16035200093774511801 : True := trivial
theorem tw2987843012802219514 : True := trivial
theorem tw13111729266834165576 : True := trivial
theorem tw5860098414952776687 : True := trivial
theorem tw5000084692582438273 : True := trivial
theorem tw1295874127193402677 : True := trivial
theorem tw11859513926867752353 : True := trivial
theorem tw14617507633453900482 : True := trivial
theorem tw13579381053554750198 : True := trivial
theorem tw18068269124167473009 : True := trivial
theorem tw13134991406363845146 : True := trivial
theorem tw18064354420335097975 : True := trivial
theorem tw12445345769227470826 : True := trivial
theorem tw15335262805942847284 : True := trivial
theorem tw13471700776287988986 : True := trivial
theorem tw12670748960848688586 : True := trivial
theorem tw4176771680431704917 : True := trivial
theorem tw7765465520193089799 : True := trivial
theorem tw1530271042374323289 : True := trivial
theorem tw10762382182962187741 : True := trivial
theorem tw8517156499369018985 : True := trivial
theorem tw13478270043534549444 : True := trivial
theorem tw6240850562157786034 : True := trivial
theorem tw17193768182907243414 : True := trivial
theorem tw10662670559319523644 : True := trivial
theorem tw14332964404381356345 : True := trivial
theorem tw13921867624494013594 : True := trivial
theorem tw7915187805790150222 : True := trivial
theorem tw8008674850767895619 : True := trivial
theorem tw10713506865909612494 : True := trivial
theorem tw1268899703846919769 : True := trivial
theorem tw12998688247007537031 : True := trivial
theorem tw12106332938745589985 : True := trivial
theorem tw16022815838455336370 : True := trivial
theorem tw10462580682995708419 : True := trivial
theorem tw1854275485400052042 : True := trivial
theorem tw10050209105809157551 : True := trivial
theorem tw1955708320921077658 : True := trivial
theorem tw11586481360240515457 : True := trivial
theorem tw10968525608304786476 : True := trivial
theorem tw5284968585179660174 : True := trivial
theorem tw10213378725684024490 : True := trivial
theorem tw11482504893112554898 : True := trivial
theorem tw391521485372210661 : True := trivial
theorem tw6996806318689285985 : True := trivial
theorem tw17078778337845789810 : True := trivial
theorem tw9677739794419658598 : True := trivial
theorem tw3148311184733336975 : True := trivial
theorem tw11868540308379893840 : True := trivial
theorem tw10668969381620323718 : True := trivial
theorem tw7841831555711702196 : True := trivial
theorem tw3724205380230923899 : True := trivial
theorem tw3832672539818174066 : True := trivial
theorem tw4901718344966620855 : True := trivial
theorem tw13916151017282194196 : True := trivial
theorem tw11633297429522116521 : True := trivial
theorem tw3603080627118885124 : True := trivial
theorem tw3463493335068651178 : True := trivial
theorem tw14631594392018163297 : True := trivial
theorem tw15095999392759113340 : True := trivial
theorem tw15214126332088660826 : True := trivial
theorem tw4333136884061038390 : True := trivial
theorem tw16382016177544720985 : True := trivial
theorem tw15515228879979393484 : True := trivial
theorem tw4011113285448569181 : True := trivial
theorem tw13136464167901124215 : True := trivial
theorem tw15380948244589546368 : True := trivial
theorem tw12061118184334242459 : True := trivial
theorem tw12939560270997389605 : True := trivial
theorem tw8156579085948792071 : True := trivial
theorem tw13381841212026468979 : True := trivial
theorem tw15889027036585527498 : True := trivial
theorem tw14133433501516954723 : True := trivial
theorem tw4328264461632179392 : True := trivial
theorem tw16472896332003506902 : True := trivial
theorem tw12544232490458214983 : True := trivial
theorem tw11073278621208501714 : True := trivial
theorem tw13836262085686193134 : True := trivial
theorem tw14443722402909369412 : True := trivial
theorem tw14480056228403904684 : True := trivial
theorem tw8031029738320426565 : True := trivial
theorem tw8055797910067097966 : True := trivial
theorem tw16721305330502140577 : True := trivial
theorem tw17216829870630598098 : True := trivial
theorem tw4018355665541392593 : True := trivial
theorem tw5769772278726086083 : True := trivial
theorem tw14132187800073980520 : True := trivial
theorem tw18110765651386707044 : True := trivial
theorem tw8471708559133233243 : True := trivial
theorem tw15322335191410171874 : True := trivial
theorem tw16143864694880451790 : True := trivial
theorem tw2737146102568425434 : True := trivial
theorem tw9314932941721863650 : True := trivial
theorem tw13179603907518340946 : True := trivial
theorem tw8698483761953798562 : True := trivial
theorem tw7108040702772099351 : True := trivial
theorem tw16059583112402859734 : True := trivial
theorem tw4908961908545546811 : True := trivial
theorem tw16565636200031158459 : True := trivial
theorem tw978423956555869714 : True := trivial
theorem tw12018486004185113101 : True := trivial
theorem tw11495430966909264220 : True := trivial
theorem tw10894957041988643753 : True := trivial
theorem tw14594335559543317691 : True := trivial
theorem tw7147558758792596699 : True := trivial
theorem tw12777781849638960821 : True := trivial
theorem tw2384437376392982891 : True := trivial
theorem tw1678662820835189647 : True := trivial
theorem tw2495362966094622754 : True := trivial
theorem tw4944469249064306675 : True := trivial
theorem tw7184667231208838600 : True := trivial
theorem tw2457549267386368071 : True := trivial
theorem tw13055670603256239866 : True := trivial
theorem tw14875168530885166171 : True := trivial
theorem tw7116211023008019537 : True := trivial
theorem tw17469335970236771629 : True := trivial
theorem tw17251025216924628999 : True := trivial
theorem tw1470469059469567481 : True := trivial
theorem tw13625855049887711718 : True := trivial
theorem tw7366741661928138053 : True := trivial
theorem tw6558530775414196180 : True := trivial
theorem tw13892508206956270211 : True := trivial
theorem tw10436079423827288274 : True := trivial
theorem tw1451534842875773064 : True := trivial
theorem tw16526099009473714670 : True := trivial
theorem tw17492861132728439727 : True := trivial
theorem tw3633499961221127498 : True := trivial
theorem tw16441989130166464081 : True := trivial
theorem tw14458017483319763269 : True := trivial
theorem tw5915591895056098866 : True := trivial
theorem tw974112373309632258 : True := trivial
theorem tw16299202421855709729 : True := trivial
theorem tw966324775352906741 : True := trivial
theorem tw15829789198975065020 : True := trivial
theorem tw10958397975137579482 : True := trivial
theorem tw15003940065710505004 : True := trivial
theorem tw6926220964689640679 : True := trivial
theorem tw10104701264169989419 : True := trivial
theorem tw4712052309540340054 : True := trivial
theorem tw2944786018606349447 : True := trivial
theorem tw10252011246421739492 : True := trivial
theorem tw15092587942669204665 : True := trivial
theorem tw5636243390926081890 : True := trivial
theorem tw17066777321372058338 : True := trivial
theorem tw9957434902182426245 : True := trivial
theorem tw14244105074325746437 : True := trivial
theorem tw1318250478534756578 : True := trivial
theorem tw8006390940898703103 : True := trivial
theorem tw10665110157298985337 : True := trivial
theorem tw3947985043448402711 : True := trivial
theorem tw7858627396817530493 : True := trivial
theorem tw1131404509349686120 : True := trivial
theorem tw8472334912734953808 : True := trivial
theorem tw11559668361106826357 : True := trivial
theorem tw408636008026055876 : True := trivial
theorem tw9745154668762075266 : True := trivial
theorem tw348033869452705946 : True := trivial
theorem tw7113092111108343254 : True := trivial
theorem tw17745805628127296801 : True := trivial
theorem tw1579010387476997478 : True := trivial
theorem tw13843497100673489069 : True := trivial
theorem tw12126952537879477160 : True := trivial
theorem tw7198307617246008633 : True := trivial
theorem tw3166943475377334999 : True := trivial
theorem tw9476271191471408912 : True := trivial
theorem tw1474297207318305972 : True := trivial
theorem tw9686474513065524680 : True := trivial
theorem tw1930031577641736525 : True := trivial
theorem tw17875607805322096255 : True := trivial
theorem tw11736502822252313862 : True := trivial
theorem tw13259573529728040913 : True := trivial
theorem tw6215569704993460196 : True := trivial
theorem tw6016627230286419293 : True := trivial
theorem tw13526598126920627111 : True := trivial
theorem tw17507979276091893172 : True := trivial
theorem tw16921387300186586237 : True := trivial
theorem tw7501199418170727965 : True := trivial
theorem tw9233247344704034054 : True := trivial
theorem tw7941980162035248011 : True := trivial
theorem tw12791423479572658239 : True := trivial
theorem tw693946882588786662 : True := trivial
theorem tw9589333953198267777 : True := trivial
theorem tw3968973328238957805 : True := trivial
theorem tw10144776533358090712 : True := trivial
theorem tw14637093896964156645 : True := trivial
theorem tw8349641910847927787 : True := trivial
theorem tw7485391289222968072 : True := trivial
theorem tw8267567547908498508 : True := trivial
theorem tw11236248477347608767 : True := trivial
theorem tw7074658527626430428 : True := trivial
theorem tw17626214917411046474 : True := trivial
theorem tw14751533450979285558 : True := trivial
theorem tw8188705520701929557 : True := trivial
theorem tw17299885179199883037 : True := trivial
theorem tw3972889200216021613 : True := trivial
theorem tw1149494240516114473 : True := trivial
theorem tw12510683713459171843 : True := trivial
theorem tw4052481472390617025 : True := trivial
theorem tw4754909299117028595 : True := trivial
theorem tw9733624261495377972 : True := trivial
theorem tw16229460462299821833 : True := trivial
theorem tw13266592350786412244 : True := trivial
theorem tw7821361960523482326 : True := trivial
end zz
set_option Elab.async true in
set_option maxHeartbeats 8000000 in
theorem zz : PySem.Challenge.rw_np0090_01.Holds := by
  (w_on; o_law; o_head (kHook Mine.K Mine.Ka (fun _ => by kernel_rfl)); (case hw => w_witness2))
  k_go0
  all_goals (try k_fold)
  rename World => w
  rename Shared => S1
  rename Shared.gens _ = _ => hg
  rename Frag.In _ _ => KX
  rename Top _ _ _ _ _ _ => T
  rename Heap.IsList _ _ _ => hL
  rename IntsAre _ _ => hI
  rename ¬ _ => hcond
  rename Fr _ _ _ _ => F
  rename Obj.data _ = _ => hcell
  rename News _ _ _ _ => N0
  refine law_in hg KX T.g T.b T.nolimit T.builtins F rfl N0 hcell hL rfl (fun s' m F' hg' hos' => ?_) (Room.deeper ⟨rfl, by decide, by decide⟩) ?_
  · refine goodW_bool F' hg' (raisesW_false ?_) ?_ hos'
    · wrow_none_raised
    · wrow_post
  have hlen := Int.ofNat_le.mp (Int.not_lt.mp hcond)
  rename List Int => ns
  dsimp only
  intro c s hA O hLG
  have hlen' : ns.length ≤ 1000 := by lia
  exact law_all hA hLG hI hlen' O
end
end Mine
theorem PySem.Challenge.cw_np0090_01_holds : PySem.Challenge.rw_np0090_01.Holds := by
  exact Mine.zz
